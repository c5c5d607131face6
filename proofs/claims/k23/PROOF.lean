import PyProof.Rows.All
import Wide.All
import OpenK.AllK
import Wide.FinOn
import HandS.ForMost
import HandS.ForExc
import HandS.TupAny
import HandS.IsInst
import HandS.Wide
import HandS.WideBits
import HandS.Rev
import HandS.Zip
import HandS.SortInts
import HandS.Text
import KE.GoesMore
import KE.DataMinMax
import HandS.Small
import HandS.More
import HandS.Style
import HandS.SortKw
import HandS.Strs
import PyProof.P3Eq
import KE.BitLaws
import KE.OsArith
import PySem.Challenge.RW_mindchange_k23_sentence_of_a_table
set_option Elab.async false
set_option linter.all false
set_option maxRecDepth 100000
/-! PL1: pure data, slots, what stands for what, the generic reading -/
namespace PL
set_option autoImplicit false
open PySem PySem.Spec PyProof.Rows L2

abbrev Kc := Sum Int (List Nat)
/-- data by value -/
inductive D where
  | non | bl (b : Bool) | int (i : Int) | str (s : List Nat) | tup (xs : List D) | lst (xs : List D) | scr (ns : List Int) | dic (kvs : List (Kc × D)) | cls (c : Nat) | exn (c : Nat)
/-- an exception: the number of its class, its fields -/
structure Exn where
  c : Nat
  fs : List D
inductive R (α : Type) where
  | ok (a : α) | exc (x : Exn) | stuck
def R.bind {α β : Type} (r : R α) (k : α → R β) : R β := match r with
  | .ok a => k a
  | .exc x => .exc x
  | .stuck => .stuck
/-- a slot: not given, frozen data, a list or dict of its own -/
inductive Sl where
  | emp | val (d : D) | own (d : D)
abbrev Env' := List Sl
abbrev Ev (α : Type) := List Sl → R α

def kcK : Key → Kc
  | .inl i => .inl i
  | .inr x => .inr x.cps.toList

/-- a tuple whose own dict is known -/
def Kn (K : PySem.W.Frag) (Φ : Hp) (a : Addr) : Prop := (∃ o xs, Φ a = some (.frz o (.tup xs)) ∧ o.cls = .type "tuple" ∧ o.dict = none) ∨ ∃ o, K.lookup a = some o ∧ o.cls = .type "tuple" ∧ o.dict = none
theorem Kn.mono {K : PySem.W.Frag} {H H' : Hp} {a : Addr} (e : Same H H') (h : Kn K H a) : Kn K H' a := by
  rcases h with ⟨o, xs, h, q⟩ | h
  · exact .inl ⟨o, xs, e _ _ h, q⟩
  · exact .inr h
/-- a row of texts -/
def D.isS : D → Bool
  | .str _ => true
  | _ => false
def stk : List D → Bool
  | [] => false
  | d :: ds => d.isS && ds.all D.isS
mutual
inductive RepD (K : PySem.W.Frag) (Φ : Hp) : D → V → Prop
  | non : RepD K Φ .non .non
  | bl (b : Bool) : RepD K Φ (.bl b) (.bl b)
  | int (i : Int) : RepD K Φ (.int i) (.int i)
  | str (x : Str) (s : List Nat) : x.cps.toList = s → RepD K Φ (.str s) (.str x)
  | tup {a : Addr} {vs : List V} {ds : List D} : SqT K Φ a vs → RepDs K Φ ds vs → (stk ds = true → Kn K Φ a) → RepD K Φ (.tup ds) (.ref a)
  | lst {a : Addr} {vs : List V} {ds : List D} : Φ a = some (.lst vs) → RepDs K Φ ds vs → RepD K Φ (.lst ds) (.ref a)
  | scr {a : Addr} {ns : List Int} : SqL K Φ a (ns.map V.int) → RepD K Φ (.scr ns) (.ref a)
  | dic {a : Addr} {kvs : List (Key × V)} {es : List (Kc × D)} : Φ a = some (.dK kvs) → RepKs K Φ es kvs → RepD K Φ (.dic es) (.ref a)
inductive RepDs (K : PySem.W.Frag) (Φ : Hp) : List D → List V → Prop
  | nil : RepDs K Φ [] []
  | cons {d : D} {v : V} {ds : List D} {vs : List V} : RepD K Φ d v → RepDs K Φ ds vs → RepDs K Φ (d :: ds) (v :: vs)
inductive RepKs (K : PySem.W.Frag) (Φ : Hp) : List (Kc × D) → List (Key × V) → Prop
  | nil : RepKs K Φ [] []
  | cons {k : Key} {d : D} {v : V} {ds : List (Kc × D)} {vs : List (Key × V)} : RepD K Φ d v → RepKs K Φ ds vs → RepKs K Φ ((kcK k, d) :: ds) ((k, v) :: vs)
end

theorem sqT_mono {K : PySem.W.Frag} {H H' : Hp} {a : Addr} {xs : List V} (e : Same H H') (h : SqT K H a xs) : SqT K H' a xs := by
  rcases h with (h | ⟨o, h⟩) | h
  · exact .inl (.inl (e _ _ h))
  · exact .inl (.inr ⟨o, e _ _ h⟩)
  · exact .inr h

section
variable {K : PySem.W.Frag} {Φ Φ' H H' : Hp}
mutual
theorem RepD.mono (m : Same Φ Φ') : ∀ {d : D} {v : V}, RepD K Φ d v → RepD K Φ' d v
  | _, _, .non => .non
  | _, _, .bl b => .bl b
  | _, _, .int i => .int i
  | _, _, .str x s e => .str x s e
  | _, _, .tup h r k => .tup (sqT_mono m h) (RepDs.mono m r) fun z => (k z).mono m
  | _, _, .lst h r => .lst (m _ _ h) (RepDs.mono m r)
  | _, _, .scr h => .scr (m.seq h)
  | _, _, .dic h r => .dic (m _ _ h) (RepKs.mono m r)
theorem RepDs.mono (m : Same Φ Φ') : ∀ {d : List D} {v : List V}, RepDs K Φ d v → RepDs K Φ' d v
  | _, _, .nil => .nil
  | _, _, .cons h r => .cons (RepD.mono m h) (RepDs.mono m r)
theorem RepKs.mono (m : Same Φ Φ') : ∀ {d : List (Kc × D)} {v : List (Key × V)}, RepKs K Φ d v → RepKs K Φ' d v
  | _, _, .nil => .nil
  | _, _, .cons h r => .cons (RepD.mono m h) (RepKs.mono m r)
end

theorem RepDs.length : ∀ {ds : List D} {vs : List V}, RepDs K Φ ds vs → ds.length = vs.length
  | _, _, .nil => rfl
  | _, _, .cons _ r => by rw [List.length_cons, List.length_cons, RepDs.length r]
theorem RepDs.get : ∀ {ds : List D} {vs : List V} {i : Nat} {d : D}, RepDs K Φ ds vs → ds[i]? = some d → ∃ v, vs[i]? = some v ∧ RepD K Φ d v
  | _, _, _, _, .nil, e => by simp at e
  | _, _, 0, _, .cons h r, e => by simp at e; subst e; exact ⟨_, rfl, h⟩
  | _, _, i + 1, _, .cons h r, e => by
    obtain ⟨v, h1, h2⟩ := RepDs.get (i := i) r (by simpa using e)
    exact ⟨v, by simpa using h1, h2⟩
theorem RepDs.getV : ∀ {ds : List D} {vs : List V} {i : Nat} {v : V}, RepDs K Φ ds vs → vs[i]? = some v → ∃ d, ds[i]? = some d ∧ RepD K Φ d v
  | _, _, _, _, .nil, e => by simp at e
  | _, _, 0, _, .cons h r, e => by simp at e; subst e; exact ⟨_, rfl, h⟩
  | _, _, i + 1, _, .cons h r, e => by
    obtain ⟨v, h1, h2⟩ := RepDs.getV (i := i) r (by simpa using e)
    exact ⟨v, by simpa using h1, h2⟩
theorem RepDs.append : ∀ {ds : List D} {vs : List V} {es : List D} {us : List V}, RepDs K Φ ds vs → RepDs K Φ es us → RepDs K Φ (ds ++ es) (vs ++ us)
  | _, _, _, _, .nil, s => s
  | _, _, _, _, .cons h r, s => .cons h (RepDs.append r s)
theorem RepDs.take : ∀ {ds : List D} {vs : List V} (n : Nat), RepDs K Φ ds vs → RepDs K Φ (ds.take n) (vs.take n)
  | _, _, 0, _ => by simp; exact .nil
  | _, _, n + 1, .nil => by simp; exact .nil
  | _, _, n + 1, .cons h r => by simpa using .cons h (RepDs.take n r)
theorem RepDs.drop : ∀ {ds : List D} {vs : List V} (n : Nat), RepDs K Φ ds vs → RepDs K Φ (ds.drop n) (vs.drop n)
  | _, _, 0, h => h
  | _, _, n + 1, .nil => by simp; exact .nil
  | _, _, n + 1, .cons h r => by simpa using RepDs.drop n r
theorem RepDs.set {d : D} {v : V} (h : RepD K Φ d v) : ∀ {ds : List D} {vs : List V} (n : Nat), RepDs K Φ ds vs → RepDs K Φ (ds.set n d) (vs.set n v)
  | _, _, _, .nil => .nil
  | _, _, 0, .cons _ r => .cons h r
  | _, _, n + 1, .cons g r => .cons g (RepDs.set h n r)
theorem RepDs.eraseIdx : ∀ {ds : List D} {vs : List V} (n : Nat), RepDs K Φ ds vs → RepDs K Φ (ds.eraseIdx n) (vs.eraseIdx n)
  | _, _, _, .nil => .nil
  | _, _, 0, .cons _ r => r
  | _, _, n + 1, .cons g r => .cons g (RepDs.eraseIdx n r)
theorem RepDs.dropLast : ∀ {ds : List D} {vs : List V}, RepDs K Φ ds vs → RepDs K Φ ds.dropLast vs.dropLast
  | _, _, .nil => .nil
  | _, _, .cons h .nil => .nil
  | _, _, .cons h (.cons g r) => .cons h (RepDs.dropLast (.cons g r))
theorem RepDs.reverse {ds : List D} {vs : List V} (h : RepDs K Φ ds vs) : RepDs K Φ ds.reverse vs.reverse := by
  induction h using RepDs.rec (motive_1 := fun _ _ _ => True) (motive_3 := fun _ _ _ => True) with
  | nil => exact .nil
  | cons a b _ ih => simp only [List.reverse_cons]; exact ih.append (.cons a .nil)
  | _ => trivial
theorem RepDs.ints : ∀ (ns : List Int), RepDs K Φ (ns.map D.int) (ns.map V.int)
  | [] => .nil
  | n :: ns => .cons (.int n) (RepDs.ints ns)
theorem RepDs.ints_inv : ∀ {ns : List Int} {vs : List V}, RepDs K Φ (ns.map D.int) vs → vs = ns.map V.int
  | [], _, .nil => rfl
  | n :: ns, _, .cons (.int _) r => by rw [RepDs.ints_inv r]; rfl

/-- what is to be read at v: frozen data, or a list or dict that a slot owns -/
inductive RepOwn (K : PySem.W.Frag) (Φ H : Hp) : D → Addr → Prop
  | lst {a : Addr} {vs : List V} {ds : List D} : H a = some (.lst vs) → RepDs K Φ ds vs → RepOwn K Φ H (.lst ds) a
  | dic {a : Addr} {kvs : List (Key × V)} {es : List (Kc × D)} : H a = some (.dK kvs) → RepKs K Φ es kvs → RepOwn K Φ H (.dic es) a
theorem RepOwn.mono {d : D} {a : Addr} (m : Same Φ Φ') (n : Same H H') (h : RepOwn K Φ H d a) : RepOwn K Φ' H' d a := by
  cases h with
  | lst h r => exact .lst (n _ _ h) (r.mono m)
  | dic h r => exact .dic (n _ _ h) (r.mono m)
theorem RepOwn.at {d : D} {a : Addr} (m : Same Φ Φ') (n : ∀ o, H a = some o → H' a = some o) (h : RepOwn K Φ H d a) : RepOwn K Φ' H' d a := by
  cases h with
  | lst h r => exact .lst (n _ h) (r.mono m)
  | dic h r => exact .dic (n _ h) (r.mono m)
theorem RepOwn.there {d : D} {a : Addr} (h : RepOwn K Φ H d a) : ∃ o, H a = some o := by
  cases h with
  | lst h r => exact ⟨_, h⟩
  | dic h r => exact ⟨_, h⟩
/-- reading: frozen or owned -/
def RepV (K : PySem.W.Frag) (Φ H : Hp) (d : D) (v : V) : Prop := RepD K Φ d v ∨ ∃ a, v = .ref a ∧ RepOwn K Φ H d a
theorem RepD.toV {d : D} {v : V} (h : RepD K Φ d v) : RepV K Φ H d v := .inl h

def OwnAt (σ : L2.St) (ρ : List Sl) (i : Nat) (a : Addr) : Prop := σ[i]? = some (some (.ref a)) ∧ ∃ d, ρ[i]? = some (.own d)
structure Rel (K : PySem.W.Frag) (Φ H : Hp) (σ : L2.St) (ρ : List Sl) : Prop where
  sub : Same Φ H
  len : σ.length = ρ.length
  val : ∀ (i : Nat) (d : D), ρ[i]? = some (.val d) → ∃ v : V, σ[i]? = some (some v) ∧ RepD K Φ d v
  own : ∀ (i : Nat) (d : D), ρ[i]? = some (.own d) → ∃ a : Addr, σ[i]? = some (some (V.ref a)) ∧ RepOwn K Φ H d a ∧ Φ a = none
  sep : ∀ (i j : Nat) (a : Addr), OwnAt σ ρ i a → OwnAt σ ρ j a → i = j

/-- pure growth -/
structure Ext (Φ H Φ' H' : Hp) : Prop where
  mono : Same Φ Φ'
  heap : Same H H'
  sub : Same Φ' H'
  new : ∀ b o, Φ' b = some o → Φ b = some o ∨ H b = none
theorem Ext.refl (s : Same Φ H) : Ext Φ H Φ H := ⟨Same.refl _, Same.refl _, s, fun _ _ h => .inl h⟩
theorem Ext.trans {Φ1 H1 Φ2 H2 : Hp} (a : Ext Φ H Φ1 H1) (b : Ext Φ1 H1 Φ2 H2) : Ext Φ H Φ2 H2 :=
  ⟨a.mono.trans b.mono, a.heap.trans b.heap, b.sub, fun c o h => by
    rcases b.new c o h with h | h
    · exact a.new c o h
    · exact .inr (a.heap.free h)⟩
/-- a new object, frozen at once -/
theorem Ext.fresh {p : Addr} {o : HO} (s : Same Φ H) (hp : H p = none) : Ext Φ H (upd Φ p o) (upd H p o) := by
  have ne : ∀ b u, H b = some u → b ≠ p := fun b u e => ne_of_none e hp
  refine ⟨fun b u e => ?_, fun b u e => ?_, fun b u e => ?_, fun b u e => ?_⟩
  · rw [upd_ne (ne b u (s b u e))]; exact e
  · rw [upd_ne (ne b u e)]; exact e
  · by_cases h : b = p
    · subst h; rw [upd_same] at e ⊢; exact e
    · rw [upd_ne h] at e ⊢; exact s b u e
  · by_cases h : b = p
    · subst h; exact .inr hp
    · rw [upd_ne h] at e; exact .inl e
/-- a new object, left alone -/
theorem Ext.alloc {p : Addr} {o : HO} (s : Same Φ H) (hp : H p = none) : Ext Φ H Φ (upd H p o) := by
  have ne : ∀ b u, H b = some u → b ≠ p := fun b u e => ne_of_none e hp
  exact ⟨Same.refl _, fun b u e => by rw [upd_ne (ne b u e)]; exact e, fun b u e => by rw [upd_ne (ne b u (s b u e))]; exact s b u e, fun _ _ h => .inl h⟩

theorem Rel.ext {σ : L2.St} {ρ : List Sl} (r : Rel K Φ H σ ρ) (x : Ext Φ H Φ' H') : Rel K Φ' H' σ ρ := by
  refine ⟨x.sub, r.len, fun i d e => ?_, fun i d e => ?_, r.sep⟩
  · obtain ⟨v, h1, h2⟩ := r.val i d e
    exact ⟨v, h1, h2.mono x.mono⟩
  · obtain ⟨a, h1, h2, h3⟩ := r.own i d e
    refine ⟨a, h1, h2.mono x.mono x.heap, ?_⟩
    obtain ⟨o, ho⟩ := h2.there
    cases q : Φ' a with
    | none => rfl
    | some u =>
      rcases x.new a u q with z | z
      · rw [h3] at z; cases z
      · rw [ho] at z; cases z
theorem RepV.ext {d : D} {v : V} (h : RepV K Φ H d v) (x : Ext Φ H Φ' H') : RepV K Φ' H' d v := by
  rcases h with h | ⟨a, e, h⟩
  · exact .inl (h.mono x.mono)
  · exact .inr ⟨a, e, h.mono x.mono x.heap⟩
end

/-! ### the generic reading -/
/-- an exception's own data (the fields come later) -/
def RepX (cs : Nat → Addr) (Φ H : Hp) (x : Exn) (c : Value) (dd : Option Addr) : Prop := c = .ref (cs x.c) ∧ x.fs = []
section
variable {α β γ δ : Type}
structure Rp (α β : Type) where
  rep : Hp → Hp → α → β → Prop
  ext : ∀ {Φ H Φ' H' : Hp} {a : α} {b : β}, rep Φ H a b → Ext Φ H Φ' H' → rep Φ' H' a b
def rD (K : PySem.W.Frag) : Rp D V := ⟨fun Φ _ d v => RepD K Φ d v, fun h x => h.mono x.mono⟩
def rV (K : PySem.W.Frag) : Rp D V := ⟨fun Φ H d v => RepV K Φ H d v, fun h x => h.ext x⟩
def rB : Rp Bool Bool := ⟨fun _ _ a b => a = b, fun h _ => h⟩
def rDs (K : PySem.W.Frag) : Rp (List D) (List V) := ⟨fun Φ _ d v => RepDs K Φ d v, fun h x => h.mono x.mono⟩
inductive RepVs (K : PySem.W.Frag) (Φ H : Hp) : List D → List V → Prop
  | nil : RepVs K Φ H [] []
  | cons {d : D} {v : V} {ds : List D} {vs : List V} : RepV K Φ H d v → RepVs K Φ H ds vs → RepVs K Φ H (d :: ds) (v :: vs)
theorem RepVs.ext {K : PySem.W.Frag} {Φ H Φ' H' : Hp} (x : Ext Φ H Φ' H') : ∀ {d : List D} {v : List V}, RepVs K Φ H d v → RepVs K Φ' H' d v
  | _, _, .nil => .nil
  | _, _, .cons h r => .cons (h.ext x) (RepVs.ext x r)
def rVs (K : PySem.W.Frag) : Rp (List D) (List V) := ⟨fun Φ H d v => RepVs K Φ H d v, fun h x => RepVs.ext x h⟩

def Run (cs : Nat → Addr) (rp : Rp α β) (W : WX) (σ : L2.St) (Φ H : Hp) (Q : β → Hp → Prop) : R α → Prop
  | .ok a => ∀ Φ' H' b, Ext Φ H Φ' H' → rp.rep Φ' H' a b → Q b H'
  | .exc x => ∀ Φ' H' c dd, Ext Φ H Φ' H' → RepX cs Φ' H' x c dd → W c dd σ H'
  | .stuck => False
def tG (K : PySem.W.Frag) (cs : Nat → Addr) (rp : Rp α β) (W : WX) (f : Ev α) : L2.St → Hp → (β → Hp → Prop) → Prop := fun σ H Q => ∃ Φ ρ, Rel K Φ H σ ρ ∧ Run cs rp W σ Φ H Q (f ρ)
theorem Run.ext {cs : Nat → Addr} {rp : Rp α β} {W : WX} {σ : L2.St} {Φ H Φ1 H1 : Hp} {Q : β → Hp → Prop} {r : R α} (x : Ext Φ H Φ1 H1) (h : Run cs rp W σ Φ H Q r) : Run cs rp W σ Φ1 H1 Q r := by
  cases r with
  | ok a => exact fun Φ' H' b y q => h Φ' H' b (x.trans y) q
  | exc z => exact fun Φ' H' c dd y q => h Φ' H' c dd (x.trans y) q
  | stuck => exact h
theorem Run.ok {cs : Nat → Addr} {rp : Rp α β} {W : WX} {σ : L2.St} {Φ H : Hp} {Q : β → Hp → Prop} {a : α} {b : β} (h : Run cs rp W σ Φ H Q (.ok a)) (s : Same Φ H) (r : rp.rep Φ H a b) : Q b H := h Φ H b (.refl s) r
/-- first f, then what hangs on it -/
theorem tG.bind {K : PySem.W.Frag} {cs : Nat → Addr} {rp : Rp α β} {rq : Rp γ δ} {W : WX} {f : Ev α} {k : α → R γ} {σ : L2.St} {ρ : List Sl} {Φ H : Hp} {Q : δ → Hp → Prop} {G : β → Hp → Prop} (r : Rel K Φ H σ ρ)
    (h : Run cs rq W σ Φ H Q ((f ρ).bind k))
    (c : ∀ Φ1 H1 a b, Rel K Φ1 H1 σ ρ → Ext Φ H Φ1 H1 → rp.rep Φ1 H1 a b → Run cs rq W σ Φ1 H1 Q (k a) → G b H1) : tG K cs rp W f σ H G := by
  refine ⟨Φ, ρ, r, ?_⟩
  cases e : f ρ with
  | ok a =>
    rw [e] at h
    exact fun Φ' H' b x q => c Φ' H' a b (r.ext x) x q (h.ext x)
  | exc z =>
    rw [e] at h
    exact h
  | stuck =>
    rw [e] at h
    exact h
end

/-- the same, with what f gave -/
theorem tG.bind' {α β γ δ : Type} {K : PySem.W.Frag} {cs : Nat → Addr} {rp : Rp α β} {rq : Rp γ δ} {W : WX} {f : Ev α} {k : α → R γ} {σ : L2.St} {ρ : List Sl} {Φ H : Hp} {Q : δ → Hp → Prop} {G : β → Hp → Prop} (r : Rel K Φ H σ ρ)
    (h : Run cs rq W σ Φ H Q ((f ρ).bind k))
    (c : ∀ Φ1 H1 a b, f ρ = .ok a → Rel K Φ1 H1 σ ρ → Ext Φ H Φ1 H1 → rp.rep Φ1 H1 a b → Run cs rq W σ Φ1 H1 Q (k a) → G b H1) : tG K cs rp W f σ H G := by
  refine ⟨Φ, ρ, r, ?_⟩
  cases e : f ρ with
  | ok a =>
    rw [e] at h
    exact fun Φ' H' b x q => c Φ' H' a b e (r.ext x) x q (h.ext x)
  | exc z =>
    rw [e] at h
    exact h
  | stuck =>
    rw [e] at h
    exact h

/-! ### a new object that nobody else has -/
def RunN (K : PySem.W.Frag) (cs : Nat → Addr) (W : WX) (σ : L2.St) (Φ H : Hp) (Q : VK) : R D → Prop
  | .ok d => ∀ Φ' H' a, Ext Φ H Φ' H' → H a = none → Φ' a = none → RepOwn K Φ' H' d a → Q (.ref a) H'
  | .exc x => ∀ Φ' H' c dd, Ext Φ H Φ' H' → RepX cs Φ' H' x c dd → W c dd σ H'
  | .stuck => False
def tN (K : PySem.W.Frag) (cs : Nat → Addr) (W : WX) (f : Ev D) : TE := fun σ H Q => ∃ Φ ρ, Rel K Φ H σ ρ ∧ RunN K cs W σ Φ H Q (f ρ)
theorem RunN.ext {K : PySem.W.Frag} {cs : Nat → Addr} {W : WX} {σ : L2.St} {Φ H Φ1 H1 : Hp} {Q : VK} {r : R D} (x : Ext Φ H Φ1 H1) (h : RunN K cs W σ Φ H Q r) : RunN K cs W σ Φ1 H1 Q r := by
  cases r with
  | ok a => exact fun Φ' H' b y hb hp q => h Φ' H' b (x.trans y) (x.heap.free hb) hp q
  | exc z => exact fun Φ' H' c dd y q => h Φ' H' c dd (x.trans y) q
  | stuck => exact h
theorem tG.bindN {α β : Type} {K : PySem.W.Frag} {cs : Nat → Addr} {rp : Rp α β} {W : WX} {f : Ev α} {k : α → R D} {σ : L2.St} {ρ : List Sl} {Φ H : Hp} {Q : VK} {G : β → Hp → Prop} (r : Rel K Φ H σ ρ)
    (h : RunN K cs W σ Φ H Q ((f ρ).bind k))
    (c : ∀ Φ1 H1 a b, Rel K Φ1 H1 σ ρ → Ext Φ H Φ1 H1 → rp.rep Φ1 H1 a b → RunN K cs W σ Φ1 H1 Q (k a) → G b H1) : tG K cs rp W f σ H G := by
  refine ⟨Φ, ρ, r, ?_⟩
  cases e : f ρ with
  | ok a =>
    rw [e] at h
    exact fun Φ' H' b x q => c Φ' H' a b (r.ext x) x q (h.ext x)
  | exc z =>
    rw [e] at h
    exact h
  | stuck =>
    rw [e] at h
    exact h
theorem RepOwn.freeze {K : PySem.W.Frag} {Φ H : Hp} {d : D} {a : Addr} (h : RepOwn K Φ H d a) (hp : Φ a = none) : ∃ o, H a = some o ∧ RepD K (upd Φ a o) d (.ref a) ∧ Same Φ (upd Φ a o) := by
  have mm : ∀ o, Same Φ (upd Φ a o) := fun o b u e => by
    have hb : b ≠ a := fun z => by subst z; rw [hp] at e; cases e
    rw [upd_ne hb]; exact e
  cases h with
  | lst e r => exact ⟨_, e, .lst upd_same (r.mono (mm _)), mm _⟩
  | dic e r => exact ⟨_, e, .dic upd_same (r.mono (mm _)), mm _⟩
theorem Ext.freeze {Φ H Φ' H' : Hp} {a : Addr} {o : HO} (x : Ext Φ H Φ' H') (hH : H a = none) (hp : Φ' a = none) (e : H' a = some o) : Ext Φ H (upd Φ' a o) H' := by
  refine ⟨fun b u h => ?_, x.heap, fun b u h => ?_, fun b u h => ?_⟩
  · have hb : b ≠ a := fun z => by subst z; rw [x.mono _ _ h] at hp; cases hp
    rw [upd_ne hb]; exact x.mono _ _ h
  · by_cases hb : b = a
    · subst hb; rw [upd_same] at h; rw [e]; exact h
    · rw [upd_ne hb] at h; exact x.sub _ _ h
  · by_cases hb : b = a
    · subst hb; exact .inr hH
    · rw [upd_ne hb] at h; exact x.new _ _ h

/-! ### judgements -/
section
variable (X : Cx) (cs : Nat → Addr) (W : WX)
def SV (e : Expr) (f : Ev D) : Prop := PE X e (tG X.K cs (rV X.K) W f)
def SD (e : Expr) (f : Ev D) : Prop := PE X e (tG X.K cs (rD X.K) W f)
def ST (e : Expr) (f : Ev Bool) : Prop := PT X e (tG X.K cs rB W f)
def SW (e : Expr) (f : Ev Bool) : Prop := PW X e (tG X.K cs rB W f)
def SN (e : Expr) (f : Ev D) : Prop := PE X e (tN X.K cs W f)
def SA (es : List Expr) (f : Ev (List D)) : Prop := PA X es (tG X.K cs (rVs X.K) W f)
def SAd (es : List Expr) (f : Ev (List D)) : Prop := PA X es (tG X.K cs (rDs X.K) W f)
end
theorem peImp {X : Cx} {e : Expr} {t t' : TE} (h : PE X e t) (i : ∀ σ H Q, t' σ H Q → t σ H Q) : PE X e t' := ⟨fun pins s σ H Q I hw => h.run pins s σ H Q I (i σ H Q hw)⟩
theorem ptImp {X : Cx} {e : Expr} {t t' : TT} (h : PT X e t) (i : ∀ σ H Q, t' σ H Q → t σ H Q) : PT X e t' := ⟨fun pins s σ H Q I hw => h.run pins s σ H Q I (i σ H Q hw)⟩
theorem pwImp {X : Cx} {e : Expr} {t t' : TT} (h : PW X e t) (i : ∀ σ H Q, t' σ H Q → t σ H Q) : PW X e t' := ⟨fun wh pins s σ H Q I hw => h.run wh pins s σ H Q I (i σ H Q hw)⟩
theorem paImp {X : Cx} {e : List Expr} {t t' : TA} (h : PA X e t) (i : ∀ σ H Q, t' σ H Q → t σ H Q) : PA X e t' := ⟨fun pos pins s σ H Q I hw => h.run pos pins s σ H Q I (i σ H Q hw)⟩
theorem psImp {X : Cx} {e : Stmt} {t t' : TS} (h : PS X e t) (i : ∀ D σ H, t' D σ H → t D σ H) : PS X e t' := ⟨fun pins s σ H D I hw => h.run pins s σ H D I (i D σ H hw)⟩
theorem pssImp {X : Cx} {e : List Stmt} {t t' : TS} (h : PSs X e t) (i : ∀ D σ H, t' D σ H → t D σ H) : PSs X e t' := ⟨fun pins s σ H D I hw => h.run pins s σ H D I (i D σ H hw)⟩

section
variable {X : Cx} {cs : Nat → Addr} {W : WX} {e : Expr} {f : Ev D}
theorem SD.sv (h : SD X cs W e f) : SV X cs W e f := peImp h fun σ H Q ⟨Φ, ρ, r, q⟩ => by
  refine ⟨Φ, ρ, r, ?_⟩
  cases e : f ρ with
  | ok a =>
    rw [e] at q
    exact fun Φ' H' b x y => q Φ' H' b x (.inl y)
  | exc z => rw [e] at q; exact q
  | stuck => rw [e] at q; exact q
theorem SN.sd (h : SN X cs W e f) : SD X cs W e f := peImp h fun σ H Q ⟨Φ, ρ, r, q⟩ => by
  refine ⟨Φ, ρ, r, ?_⟩
  cases e : f ρ with
  | ok a =>
    rw [e] at q
    exact fun Φ' H' b x hb hp y => by
      obtain ⟨o, e1, e2, e3⟩ := y.freeze hp
      exact q _ H' _ (x.freeze hb hp e1) e2
  | exc z => rw [e] at q; exact q
  | stuck => rw [e] at q; exact q
end
end PL

set_option Elab.async false
set_option linter.all false
set_option maxRecDepth 100000
/-! PT: new tuples whose object is known -/
namespace PL
set_option autoImplicit false
open PySem PySem.Spec PyProof.Rows L2
abbrev tupO (us : List Value) : Obj := { cls := .type "tuple", data := .seq us.toArray }
section
variable {X : Cx} {pins : List (Addr × Obj)} {σ : L2.St} {H : Hp} {s : Shared}
theorem laidF {xs : List V} {us : List Value} {h : Heap} {t' : Nat} (I : Inv X pins σ H { s with heap := h }) (r : Vals xs us) (hz : xs.length ≤ sizeLine) :
    Inv X pins σ (upd H h.objs.size (.frz (tupO us) (.tup xs))) { s with heap := h.push (tupO us), toks := t' } :=
  I.laid (s := { s with heap := h }) (o := .frz (tupO us) (.tup xs)) (fun b u e => Heap.get?_push_of_some _ e) (Nat.le_refl _)
    ⟨Heap.get?_push_size _ rfl, hz, us, r, IsTup.new _ _⟩
/-- what comes of a new tuple -/
def NewF (H : Hp) (Q : VK) (xs : List V) : Prop := ∀ p o, H p = none → o.cls = .type "tuple" → o.dict = none → Q (.ref p) (upd H p (.frz o (.tup xs)))
theorem newF {xs : List V} {us : List Value} {h : Heap} {t' : Nat} {Q : VK} (I : Inv X pins σ H { s with heap := h }) (r : Vals xs us) (hz : xs.length ≤ sizeLine) (q : NewF H Q xs) :
    EP X pins σ Q (.ref h.objs.size) { s with heap := h.push (tupO us), toks := t' } :=
  ⟨.ref h.objs.size, _, laidF I r hz, rfl, q _ _ (I.hok.fresh (Nat.le_refl _)) rfl rfl⟩
end
section
variable {X : Cx} {e : Expr} {es : List Expr} {t : TA} {pos : Pos}
def tTupF (t : TA) : TE := fun σ H Q => t σ H fun xs H1 => xs.length ≤ sizeLine ∧ NewF H1 Q xs
theorem pe_tupF {x1 : _} (h : PA X es t) : PE X (.Tuple es x1 pos) (tTupF t) := by
  refine ⟨fun pins s σ H Q I hq => ?_⟩
  refine wpAny_Tuple_spliced (thn (h.run pos pins s σ H _ I hq) fun us s1 ⟨xs, H1, I1, r, z, q⟩ => ⟨by rw [← r.length]; exact z, ?_⟩)
  exact newF (h := s1.heap) (s := s1) I1 r z q
def rSlF (K : PySem.W.Frag) : V → Option Int → Option Int → Hp → VK → Prop := fun x lo hi H Q => ∃ a xs, x = .ref a ∧ SqT K H a xs ∧
  (HT.sIx xs.length 0 lo = 0 ∧ HT.sIx xs.length xs.length hi = xs.length → Q (.ref a) H) ∧ (¬ (HT.sIx xs.length 0 lo = 0 ∧ HT.sIx xs.length xs.length hi = xs.length) → NewF H Q (cutV xs lo hi))
theorem sl_tupF : SlR X (rSlF X.K) := by
  intro pins s σ H x v vl vu lo hi sl Q I rx hs pl pu h
  obtain ⟨a, xs, rfl, hx, q1, q2⟩ := h
  cases rx
  obtain ⟨its, r, ht, hz⟩ := I.tuple hx
  have hlen : its.toArray.size = xs.length := by rw [List.size_toArray]; exact r.length.symm
  refine ⟨"tuple", _, PyProof.Rows.slot_tuple_getitem.lookup, ht.typeIs, ?_⟩
  by_cases hw : HT.sIx xs.length 0 lo = 0 ∧ HT.sIx xs.length xs.length hi = xs.length
  · exact getItem_tuple_whole ht hs pl pu (by rw [hlen]; exact hw) ⟨.ref a, H, I, rfl, q1 hw⟩
  · refine HT.getItem_tuple_cut ht hs pl pu (by rw [hlen]; exact hw) ?_ (by rw [hlen]; exact hz)
    rw [hlen]
    exact newF (h := s.heap) (s := s) I ((r.drop (HT.sIx xs.length 0 lo)).take (HT.sIx xs.length xs.length hi - HT.sIx xs.length 0 lo)) (Nat.le_trans (cutV_length xs lo hi) hz) (q2 hw)
def rCatF (K : PySem.W.Frag) : R2 := fun x y H Q => ∃ a b xs ys, x = .ref a ∧ y = .ref b ∧ SqT K H a xs ∧ SqT K H b ys ∧ xs.length + ys.length ≤ sizeLine ∧
  (xs = [] → Q (.ref b) H) ∧ (xs ≠ [] → ys = [] → Q (.ref a) H) ∧ (xs ≠ [] → ys ≠ [] → NewF H Q (xs ++ ys))
theorem op_catF : OpR X (binaryOp .Add) (rCatF X.K) := by
  intro pins s σ H x y v u Q I rx ry h
  obtain ⟨a, b, xs, ys, rfl, rfl, ha, hb, hz, q0, q1, q2⟩ := h
  cases rx
  cases ry
  obtain ⟨its, r1, p1, _⟩ := I.tuple ha
  obtain ⟨its2, r2, p2, _⟩ := I.tuple hb
  by_cases hx : xs = []
  · subst hx
    cases r1
    exact cat_tup0 p1 p2 ⟨.ref b, H, I, rfl, q0 rfl⟩
  · refine HT.cat_tup p1 p2 (fun z => hx (r1.nil_iff.mp z)) (fun z => ⟨.ref a, H, I, rfl, q1 hx (r2.nil_iff.mp z)⟩) (fun z => ?_) (by rw [← r1.length, ← r2.length]; exact hz)
    exact newF (h := s.heap) (s := s) I (r1.append r2) (by rw [List.length_append]; exact hz) (q2 hx (fun w => z (r2.nil_iff.mpr w)))
def rTupF (K : PySem.W.Frag) : List V → Hp → VK → Prop := fun xs H Q => ∃ p ys, xs = [.ref p] ∧ ((SqL K H p ys ∧ NewF H Q ys) ∨ (SqT K H p ys ∧ Q (.ref p) H))
theorem call_tupleF : CallR X (.type "tuple") (rTupF X.K) := by
  intro pins s σ H xs us Q I r h
  obtain ⟨p, ys, rfl, h⟩ := h
  obtain ⟨u, rfl, rx⟩ := vals1 r
  cases rx
  rcases h with ⟨hq, q⟩ | ⟨hq, q⟩
  · obtain ⟨its, r', pl, hz⟩ := I.list hq
    have hlen := r'.length
    refine call_tuple_list pl.isList (fun h' kp => ?_) (by simp only [List.size_toArray]; omega)
    have I1 : Inv X pins σ H { s with heap := h' } := I.kept (t' := s.toks) kp
    exact newF (h := h') (s := s) I1 r' hz q
  · obtain ⟨its, r', pl, hz⟩ := I.tuple hq
    exact call_tuple_same pl ⟨.ref p, H, I, rfl, q⟩
end
theorem Kn.of {K : PySem.W.Frag} {H : Hp} {p : Addr} {o : Obj} {xs : List V} (hc : o.cls = .type "tuple") (hd : o.dict = none) : Kn K (upd H p (.frz o (.tup xs))) p := .inl ⟨o, xs, upd_same, hc, hd⟩
theorem SqT.ofF {K : PySem.W.Frag} {H : Hp} {p : Addr} {o : Obj} {xs : List V} : SqT K (upd H p (.frz o (.tup xs))) p xs := .inl (.inr ⟨o, upd_same⟩)
end PL

set_option Elab.async false
set_option linter.all false
set_option maxRecDepth 100000
/-! PL2: names, constants, operators, displays, items, slices -/
namespace PL
set_option autoImplicit false
open PySem PySem.Spec PyProof.Rows L2

abbrev LIM : Nat := 1000000
theorem lim_le {n : Nat} (h : n ≤ LIM) : n ≤ sizeLine := Nat.le_trans h (by rw [sizeLine_eq]; decide)
theorem lim_lt {n : Nat} (h : n ≤ LIM) : n < sizeLine := Nat.lt_of_le_of_lt h (by rw [sizeLine_eq]; decide)

section inversions
variable {K : PySem.W.Frag} {Φ H : Hp} {v : V}
theorem RepV.non_inv (h : RepV K Φ H .non v) : v = .non := by rcases h with h | ⟨a, e, h⟩ <;> cases h; rfl
theorem RepV.bl_inv {b : Bool} (h : RepV K Φ H (.bl b) v) : v = .bl b := by rcases h with h | ⟨a, e, h⟩ <;> cases h; rfl
theorem RepV.int_inv {i : Int} (h : RepV K Φ H (.int i) v) : v = .int i := by rcases h with h | ⟨a, e, h⟩ <;> cases h; rfl
theorem RepV.str_inv {s : List Nat} (h : RepV K Φ H (.str s) v) : ∃ x : Str, v = .str x ∧ x.cps.toList = s := by
  rcases h with h | ⟨a, e, h⟩ <;> cases h
  exact ⟨_, rfl, by assumption⟩
theorem RepV.tup_inv {ds : List D} (h : RepV K Φ H (.tup ds) v) (m : Same Φ H) : ∃ a vs, v = .ref a ∧ SqT K H a vs ∧ RepDs K Φ ds vs := by
  rcases h with h | ⟨a, e, h⟩ <;> cases h
  exact ⟨_, _, rfl, sqT_mono m (by assumption), by assumption⟩
theorem RepV.tup_kn {ds : List D} (h : RepV K Φ H (.tup ds) v) (m : Same Φ H) : ∃ a vs, v = .ref a ∧ SqT K H a vs ∧ RepDs K Φ ds vs ∧ (stk ds = true → Kn K H a) := by
  rcases h with h | ⟨a, e, h⟩ <;> cases h
  rename_i k
  exact ⟨_, _, rfl, sqT_mono m (by assumption), by assumption, fun z => (k z).mono m⟩
theorem RepV.lst_inv {ds : List D} (h : RepV K Φ H (.lst ds) v) (m : Same Φ H) : ∃ a vs, v = .ref a ∧ H a = some (.lst vs) ∧ RepDs K Φ ds vs := by
  rcases h with h | ⟨a, e, h⟩ <;> cases h
  · exact ⟨_, _, rfl, m _ _ (by assumption), by assumption⟩
  · exact ⟨_, _, e, by assumption, by assumption⟩
theorem RepV.scr_inv {ns : List Int} (h : RepV K Φ H (.scr ns) v) (m : Same Φ H) : ∃ a, v = .ref a ∧ SqL K H a (ns.map V.int) := by
  rcases h with h | ⟨a, e, h⟩ <;> cases h
  exact ⟨_, rfl, m.seq (by assumption)⟩
theorem RepV.dic_inv {es : List (Kc × D)} (h : RepV K Φ H (.dic es) v) (m : Same Φ H) : ∃ a kvs, v = .ref a ∧ H a = some (.dK kvs) ∧ RepKs K Φ es kvs := by
  rcases h with h | ⟨a, e, h⟩ <;> cases h
  · exact ⟨_, _, rfl, m _ _ (by assumption), by assumption⟩
  · exact ⟨_, _, e, by assumption, by assumption⟩
end inversions

/-- what a sequence holds -/
def D.items : D → Option (List D)
  | .tup ds => some ds
  | .lst ds => some ds
  | .scr ns => some (ns.map D.int)
  | _ => none
theorem RepV.items {K : PySem.W.Frag} {Φ H : Hp} {v : V} {d : D} {ds : List D} (h : RepV K Φ H d v) (m : Same Φ H) (e : d.items = some ds) :
    ∃ a vs, v = .ref a ∧ (SqL K H a vs ∨ SqT K H a vs) ∧ RepDs K Φ ds vs := by
  cases d <;> simp only [D.items, Option.some.injEq, reduceCtorEq] at e
  · subst e
    obtain ⟨a, vs, rfl, h1, h2⟩ := h.tup_inv m
    exact ⟨a, vs, rfl, .inr h1, h2⟩
  · subst e
    obtain ⟨a, vs, rfl, h1, h2⟩ := h.lst_inv m
    exact ⟨a, vs, rfl, .inl (SqL.of h1), h2⟩
  · subst e
    obtain ⟨a, rfl, h1⟩ := h.scr_inv m
    exact ⟨a, _, rfl, .inl h1, RepDs.ints _⟩

section ops
variable {X : Cx} {cs : Nat → Addr} {W : WX} {a b c e o : Expr} {fa fb fc : Ev D} {pos : Pos}

/-! ### names and constants -/
def eVar (i : Nat) : Ev D := fun ρ => match ρ[i]? with
  | some (.val d) => .ok d
  | some (.own d) => .ok d
  | _ => .stuck
def eFrz (i : Nat) : Ev D := fun ρ => match ρ[i]? with
  | some (.val d) => .ok d
  | _ => .stuck
theorem sv_var (i : Nat) {x : Str} (hN : X.N[i]? = some x := by rfl) (hv : Vis X.env.scope x := by first | exact Or.inl rfl | exact Or.inr (Or.inl rfl) | exact Or.inr (Or.inr rfl)) (hd : (x == ("__debug__" : Str)) = false := by decide)
    (hcd : (x == ("__classdict__" : Str)) = false := by decide) : SV X cs W (.Name x pos) (eVar i) := peImp (pe_var hN hv hd hcd) fun σ H Q ⟨Φ, ρ, r, q⟩ => by
  unfold eVar at q
  split at q
  next d e =>
    obtain ⟨v, h1, h2⟩ := r.val i d e
    exact ⟨v, h1, q.ok r.sub (.inl h2)⟩
  next d e =>
    obtain ⟨v, h1, h2, _⟩ := r.own i d e
    exact ⟨_, h1, q.ok r.sub (.inr ⟨v, rfl, h2⟩)⟩
  next => exact False.elim q
theorem sd_var (i : Nat) {x : Str} (hN : X.N[i]? = some x := by rfl) (hv : Vis X.env.scope x := by first | exact Or.inl rfl | exact Or.inr (Or.inl rfl) | exact Or.inr (Or.inr rfl)) (hd : (x == ("__debug__" : Str)) = false := by decide)
    (hcd : (x == ("__classdict__" : Str)) = false := by decide) : SD X cs W (.Name x pos) (eFrz i) := peImp (pe_var hN hv hd hcd) fun σ H Q ⟨Φ, ρ, r, q⟩ => by
  unfold eFrz at q
  split at q
  next d e =>
    obtain ⟨v, h1, h2⟩ := r.val i d e
    exact ⟨v, h1, q.ok r.sub h2⟩
  next => exact False.elim q
def eC (d : D) : Ev D := fun _ => .ok d
theorem sd_int {i : Int} {j : Nat} : SD X cs W (.Constant (.int i) j pos) (eC (.int i)) := peImp pe_int fun σ H Q ⟨Φ, ρ, r, q⟩ => q.ok r.sub (.int i)
theorem sd_bl {i : Bool} {j : Nat} : SD X cs W (.Constant (.bool i) j pos) (eC (.bl i)) := peImp pe_bl fun σ H Q ⟨Φ, ρ, r, q⟩ => q.ok r.sub (.bl i)
theorem sd_non {j : Nat} : SD X cs W (.Constant .none j pos) (eC .non) := peImp pe_non fun σ H Q ⟨Φ, ρ, r, q⟩ => q.ok r.sub .non
theorem sd_str {x : Str} {j : Nat} {s : List Nat} (h : x.cps.toList = s := by rfl) : SD X cs W (.Constant (.str x) j pos) (eC (.str s)) := peImp pe_str fun σ H Q ⟨Φ, ρ, r, q⟩ => q.ok r.sub (.str x s h)
/-- a module's constant -/
theorem sd_gint {x : Str} {i : Int} {t : Tok} (hg : Gl X x) (hm : X.mg x = some (.int i t)) (hd : (x == ("__debug__" : Str)) = false := by decide) : SD X cs W (.Name x pos) (eC (.int i)) := peImp (pe_glob (v := .int i) hg hm ⟨t, rfl⟩ hd) fun σ H Q ⟨Φ, ρ, r, q⟩ => q.ok r.sub (.int i)
theorem sd_gstr {x y : Str} {t : Tok} {s : List Nat} (hg : Gl X x) (hm : X.mg x = some (.str y t)) (h : y.cps.toList = s) (hd : (x == ("__debug__" : Str)) = false := by decide) : SD X cs W (.Name x pos) (eC (.str s)) := peImp (pe_glob (v := .str y) hg hm ⟨t, rfl⟩ hd) fun σ H Q ⟨Φ, ρ, r, q⟩ => q.ok r.sub (.str y s h)

/-! ### two operands -/
def e1 {α : Type} (g : D → R α) (fa : Ev D) : Ev α := fun ρ => (fa ρ).bind g
def e2 {α : Type} (g : D → D → R α) (fa fb : Ev D) : Ev α := fun ρ => (fa ρ).bind fun x => (fb ρ).bind (g x)
def e3 {α : Type} (g : D → D → D → R α) (fa fb fc : Ev D) : Ev α := fun ρ => (fa ρ).bind fun x => (fb ρ).bind fun y => (fc ρ).bind (g x y)
theorem run1 {α β : Type} {rp : Rp α β} {g : D → R α} {σ : L2.St} {H : Hp} {Q : β → Hp → Prop} {G : V → Hp → Prop} (h : tG X.K cs rp W (e1 g fa) σ H Q)
    (c : ∀ Φ H v d, Same Φ H → RepV X.K Φ H d v → Run cs rp W σ Φ H Q (g d) → G v H) : tG X.K cs (rV X.K) W fa σ H G := by
  obtain ⟨Φ, ρ, r, q⟩ := h
  exact tG.bind (rp := rV X.K) r q fun Φ1 H1 d v r1 _ rep q => c Φ1 H1 v d r1.sub rep q
theorem run2 {α β : Type} {rp : Rp α β} {g : D → D → R α} {σ : L2.St} {H : Hp} {Q : β → Hp → Prop} {G : V → V → Hp → Prop} (h : tG X.K cs rp W (e2 g fa fb) σ H Q)
    (c : ∀ Φ H v u d e, Same Φ H → RepV X.K Φ H d v → RepV X.K Φ H e u → Run cs rp W σ Φ H Q (g d e) → G v u H) : tG X.K cs (rV X.K) W fa σ H fun v H1 => tG X.K cs (rV X.K) W fb σ H1 fun u H2 => G v u H2 := by
  obtain ⟨Φ, ρ, r, q⟩ := h
  refine tG.bind (rp := rV X.K) r q fun Φ1 H1 d v r1 _ rep q => ?_
  exact tG.bind (rp := rV X.K) r1 q fun Φ2 H2 e u r2 x2 rep2 q => c Φ2 H2 v u d e r2.sub (rep.ext x2) rep2 q
theorem run3 {α β : Type} {rp : Rp α β} {g : D → D → D → R α} {σ : L2.St} {H : Hp} {Q : β → Hp → Prop} {G : V → V → V → Hp → Prop} (h : tG X.K cs rp W (e3 g fa fb fc) σ H Q)
    (c : ∀ Φ H v u w d e f, Same Φ H → RepV X.K Φ H d v → RepV X.K Φ H e u → RepV X.K Φ H f w → Run cs rp W σ Φ H Q (g d e f) → G v u w H) :
    tG X.K cs (rV X.K) W fa σ H fun v H1 => tG X.K cs (rV X.K) W fb σ H1 fun u H2 => tG X.K cs (rV X.K) W fc σ H2 fun w H3 => G v u w H3 := by
  obtain ⟨Φ, ρ, r, q⟩ := h
  refine tG.bind (rp := rV X.K) r q fun Φ1 H1 d v r1 _ rep q => ?_
  refine tG.bind (rp := rV X.K) r1 q fun Φ2 H2 e u r2 x2 rep2 q => ?_
  exact tG.bind (rp := rV X.K) r2 q fun Φ3 H3 f w r3 x3 rep3 q => c Φ3 H3 v u w d e f r3.sub ((rep.ext x2).ext x3) (rep2.ext x3) rep3 q
/-- what an operator on values does on data -/
def OpD (X : Cx) (cs : Nat → Addr) (W : WX) (r : R2) (g : D → D → R D) : Prop := ∀ (σ : L2.St) (Φ H : Hp) (Q : VK) (v u : V) (d e : D), Same Φ H → RepV X.K Φ H d v → RepV X.K Φ H e u → Run cs (rD X.K) W σ Φ H Q (g d e) → r v u H Q
def OpB (X : Cx) (cs : Nat → Addr) (W : WX) (r : R2) (g : D → D → R Bool) : Prop := ∀ (σ : L2.St) (Φ H : Hp) (Q : Bool → Hp → Prop) (v u : V) (d e : D), Same Φ H → RepV X.K Φ H d v → RepV X.K Φ H e u → Run cs rB W σ Φ H Q (g d e) → r v u H fun x H' => ∃ k, x = .bl k ∧ Q k H'
theorem sd_op {op : Operator} {r : R2} {g : D → D → R D} (ho : OpR X (binaryOp op) r) (hg : OpD X cs W r g) (ha : SV X cs W a fa) (hb : SV X cs W b fb) : SD X cs W (.BinOp a op b pos) (e2 g fa fb) :=
  peImp (pe_op ho ha hb) fun σ H Q h => run2 h fun Φ H v u d e m r1 r2 q => hg σ Φ H Q v u d e m r1 r2 q
/-- a Bool as a value -/
def eBl (f : Ev Bool) : Ev D := fun ρ => (f ρ).bind fun k => .ok (.bl k)
theorem runBl {σ : L2.St} {H : Hp} {Q : VK} {f : Ev Bool} (h : tG X.K cs (rD X.K) W (eBl f) σ H Q) : tG X.K cs rB W f σ H fun k H' => Q (.bl k) H' := by
  obtain ⟨Φ, ρ, r, q⟩ := h
  exact tG.bind (rp := rB) r q fun Φ1 H1 d v r1 _ rep q => by
    cases rep
    exact q.ok r1.sub (.bl d)
theorem st_cmp {op : CmpOp} {r : R2} {g : D → D → R Bool} (ho : OpR X (compareOp op) r) (hg : OpB X cs W r g) (ha : SV X cs W a fa) (hb : SV X cs W b fb) (hm : behindInMarks op b = false) : ST X cs W (.Compare a [op] [b] pos) (e2 g fa fb) :=
  ptImp (pt_cmpR ho ha hb hm) fun σ H Q h => run2 h fun Φ H v u d e m r1 r2 q => hg σ Φ H Q v u d e m r1 r2 q
theorem sd_cmp {op : CmpOp} {r : R2} {g : D → D → R Bool} (hr : ∀ x y H Q Q', (∀ v H, Q v H → Q' v H) → r x y H Q → r x y H Q') (ho : OpR X (compareOp op) r) (hg : OpB X cs W r g) (ha : SV X cs W a fa) (hb : SV X cs W b fb) (hm : behindInMarks op b = false) : SD X cs W (.Compare a [op] [b] pos) (eBl (e2 g fa fb)) :=
  peImp (pe_cmpR ho ha hb hm) fun σ H Q h => run2 (runBl h) fun Φ H v u d e m r1 r2 q => hr _ _ _ _ _ (fun v H ⟨k, e, z⟩ => by rw [e]; exact z) (hg σ Φ H _ v u d e m r1 r2 q)

/-! ### the operators -/
def gAdd : D → D → R D
  | .int i, .int j => .ok (.int (i + j))
  | .str x, .str y => if x.length + y.length ≤ LIM then .ok (.str (x ++ y)) else .stuck
  | .lst x, .lst y => if x.length + y.length ≤ LIM then .ok (.lst (x ++ y)) else .stuck
  | .tup x, .tup y => if x.length + y.length ≤ LIM then .ok (.tup (x ++ y)) else .stuck
  | _, _ => .stuck
theorem toL_append (x y : Str) : (x ++ y).cps.toList = x.cps.toList ++ y.cps.toList := by
  show (x.cps ++ y.cps).toList = _
  rw [Array.toList_append]
theorem len_toL (x : Str) : x.length = x.cps.toList.length := by simp [Str.length]
theorem sd_add (ha : SV X cs W a fa) (hb : SV X cs W b fb) : SD X cs W (.BinOp a .Add b pos) (e2 gAdd fa fb) := by
  refine sd_op (op_add.or (op_add_str.or (op_cat.or op_catF))) (fun σ Φ H Q v u d e m r1 r2 q => ?_) ha hb
  unfold gAdd at q
  split at q
  · cases r1.int_inv; cases r2.int_inv
    exact .inl ⟨_, _, rfl, rfl, q.ok m (.int _)⟩
  · obtain ⟨x, rfl, rfl⟩ := r1.str_inv
    obtain ⟨y, rfl, rfl⟩ := r2.str_inv
    split at q
    next h =>
      rw [← len_toL, ← len_toL] at h
      exact .inr (.inl ⟨_, _, rfl, rfl, lim_le h, q.ok m (.str _ _ (toL_append x y))⟩)
    next => exact q.elim
  · obtain ⟨p, vs, rfl, h1, h2⟩ := r1.lst_inv m
    obtain ⟨p', us, rfl, h3, h4⟩ := r2.lst_inv m
    split at q
    next h =>
      rw [h2.length, h4.length] at h
      exact .inr (.inr (.inl ⟨_, _, _, _, rfl, rfl, h1, h3, lim_le h, fun z hz => q _ _ _ (Ext.fresh m hz) (RepD.lst upd_same ((h2.append h4).mono (Ext.fresh m hz).mono))⟩))
    next => exact q.elim
  · obtain ⟨p, vs, rfl, h1, h2⟩ := r1.tup_inv m
    obtain ⟨p', us, rfl, h3, h4⟩ := r2.tup_inv m
    split at q
    next x y h =>
      rw [h2.length, h4.length] at h
      refine .inr (.inr (.inr ⟨_, _, _, _, rfl, rfl, h1, h3, lim_le h, fun z => ?_, fun _ z => ?_, fun _ _ p o hp hc hd => ?_⟩))
      · subst z
        cases h2
        rcases r2 with r2 | ⟨_, e, w⟩
        · exact q.ok m r2
        · cases w
      · subst z
        cases h4
        rcases r1 with r1 | ⟨_, e, w⟩
        · exact q.ok m (show RepD X.K Φ (.tup (x ++ [])) _ by rw [List.append_nil]; exact r1)
        · cases w
      · exact q _ _ _ (Ext.fresh m hp) (RepD.tup SqT.ofF ((h2.append h4).mono (Ext.fresh m hp).mono) fun _ => Kn.of hc hd)
    next => exact q.elim
  · exact q.elim
def gInt (g : Int → Int → R D) : D → D → R D
  | .int i, .int j => g i j
  | _, _ => .stuck
theorem opInt {C : Int → Int → Prop} {g : Int → Int → Int} {k : Int → Int → R D} (hk : ∀ i j, (C i j ∧ k i j = .ok (.int (g i j))) ∨ k i j = .stuck) : OpD X cs W (rI C fun i j => .int (g i j)) (gInt k) := by
  intro σ Φ H Q v u d e m r1 r2 q
  unfold gInt at q
  split at q
  next i j =>
    cases r1.int_inv; cases r2.int_inv
    rcases hk i j with ⟨hC, h⟩ | h
    · rw [h] at q
      exact ⟨_, _, rfl, rfl, hC, q.ok m (.int _)⟩
    · rw [h] at q; exact q.elim
  next => exact q.elim
theorem opInt0 {g : Int → Int → Int} : OpD X cs W (rI0 fun i j => .int (g i j)) (gInt fun i j => .ok (.int (g i j))) := by
  intro σ Φ H Q v u d e m r1 r2 q
  unfold gInt at q
  split at q
  next i j =>
    cases r1.int_inv; cases r2.int_inv
    exact ⟨_, _, rfl, rfl, q.ok m (.int _)⟩
  next => exact q.elim
def gSub : D → D → R D := gInt fun i j => .ok (.int (i - j))
theorem sd_sub (ha : SV X cs W a fa) (hb : SV X cs W b fb) : SD X cs W (.BinOp a .Sub b pos) (e2 gSub fa fb) := sd_op op_sub opInt0 ha hb
def MulOk (i j : Int) : Bool := decide (i.natAbs < 2 ^ 64) || decide (j.natAbs < 2 ^ 64) || decide (i.natAbs.log2 + j.natAbs.log2 < 1000000)
def gMulI : D → D → R D := gInt fun i j => if MulOk i j then .ok (.int (i * j)) else .stuck
theorem sd_mulI (ha : SV X cs W a fa) (hb : SV X cs W b fb) : SD X cs W (.BinOp a .Mult b pos) (e2 gMulI fa fb) := by
  refine sd_op (op_mul.or op_mulW) (fun σ Φ H Q v u d e m r1 r2 q => ?_) ha hb
  unfold gMulI gInt at q
  split at q
  next i j =>
    cases r1.int_inv; cases r2.int_inv
    dsimp only at q
    split at q
    next h =>
      simp only [MulOk, Bool.or_eq_true, decide_eq_true_eq] at h
      rcases h with (h | h) | h
      · exact .inl ⟨_, _, rfl, rfl, .inl (by omega), q.ok m (.int _)⟩
      · exact .inl ⟨_, _, rfl, rfl, .inr (by omega), q.ok m (.int _)⟩
      · exact .inr ⟨_, _, rfl, rfl, h, q.ok m (.int _)⟩
    next => exact q.elim
  next => exact q.elim
def gDiv : D → D → R D := gInt fun i j => if 0 < j ∧ j < 1073741824 then .ok (.int (i / j)) else .stuck
theorem sd_div (ha : SV X cs W a fa) (hb : SV X cs W b fb) : SD X cs W (.BinOp a .FloorDiv b pos) (e2 gDiv fa fb) := sd_op op_fdiv (opInt fun i j => by
  by_cases h : 0 < j ∧ j < 1073741824
  · exact .inl ⟨h, if_pos h⟩
  · exact .inr (if_neg h)) ha hb
def gDivW : D → D → R D := gInt fun i j => if 0 < j ∧ j.natAbs.log2 < 9000 then .ok (.int (i / j)) else .stuck
theorem sd_divW (ha : SV X cs W a fa) (hb : SV X cs W b fb) : SD X cs W (.BinOp a .FloorDiv b pos) (e2 gDivW fa fb) := sd_op op_fdivW (opInt fun i j => by
  by_cases h : 0 < j ∧ j.natAbs.log2 < 9000
  · exact .inl ⟨h, if_pos h⟩
  · exact .inr (if_neg h)) ha hb
def gMod : D → D → R D := gInt fun i j => if 0 < j then .ok (.int (i % j)) else .stuck
theorem sd_mod (ha : SV X cs W a fa) (hb : SV X cs W b fb) : SD X cs W (.BinOp a .Mod b pos) (e2 gMod fa fb) := sd_op op_mod (opInt fun i j => by
  by_cases h : 0 < j
  · exact .inl ⟨h, if_pos h⟩
  · exact .inr (if_neg h)) ha hb
def gPow : D → D → R D := gInt fun i j => if 0 ≤ j ∧ j ≤ 1000000 ∧ i.natAbs < 2 ^ 64 then .ok (.int (i ^ j.toNat)) else .stuck
theorem sd_pow (ha : SV X cs W a fa) (hb : SV X cs W b fb) : SD X cs W (.BinOp a .Pow b pos) (e2 gPow fa fb) := sd_op op_pow (opInt fun i j => by
  by_cases h : 0 ≤ j ∧ j ≤ 1000000 ∧ i.natAbs < 2 ^ 64
  · exact .inl ⟨h, if_pos h⟩
  · exact .inr (if_neg h)) ha hb
def gShl : D → D → R D := gInt fun i j => if 0 ≤ j ∧ j ≤ 1000000 ∧ i.natAbs < 2 ^ 10000 then .ok (.int (i * 2 ^ j.toNat)) else .stuck
theorem sd_shl (ha : SV X cs W a fa) (hb : SV X cs W b fb) : SD X cs W (.BinOp a .LShift b pos) (e2 gShl fa fb) := sd_op op_shlW (opInt fun i j => by
  by_cases h : 0 ≤ j ∧ j ≤ 1000000 ∧ i.natAbs < 2 ^ 10000
  · refine .inl ⟨?_, if_pos h⟩
    obtain ⟨h1, h2, h3⟩ := h
    have z := shl_ok (i := i) (j := j.toNat) h3 (by omega)
    have e : ((j.toNat : Nat) : Int) = j := by omega
    rwa [e] at z
  · exact .inr (if_neg h)) ha hb
def gShr : D → D → R D := gInt fun i j => if 0 ≤ j then .ok (.int (i / 2 ^ j.toNat)) else .stuck
theorem sd_shr (ha : SV X cs W a fa) (hb : SV X cs W b fb) : SD X cs W (.BinOp a .RShift b pos) (e2 gShr fa fb) := sd_op op_shr (opInt fun i j => by
  by_cases h : 0 ≤ j
  · exact .inl ⟨h, if_pos h⟩
  · exact .inr (if_neg h)) ha hb
def gAnd : D → D → R D := gInt fun i j => .ok (.int (Builtin.bitAnd i j))
def gOr : D → D → R D := gInt fun i j => .ok (.int (Builtin.bitOr i j))
def gXor : D → D → R D := gInt fun i j => .ok (.int (Builtin.bitXor i j))
theorem sd_and (ha : SV X cs W a fa) (hb : SV X cs W b fb) : SD X cs W (.BinOp a .BitAnd b pos) (e2 gAnd fa fb) := sd_op op_and opInt0 ha hb
theorem sd_or (ha : SV X cs W a fa) (hb : SV X cs W b fb) : SD X cs W (.BinOp a .BitOr b pos) (e2 gOr fa fb) := sd_op op_or opInt0 ha hb
theorem sd_xor (ha : SV X cs W a fa) (hb : SV X cs W b fb) : SD X cs W (.BinOp a .BitXor b pos) (e2 gXor fa fb) := sd_op op_xor opInt0 ha hb
def gNeg : D → R D
  | .int i => .ok (.int (-i))
  | _ => .stuck
theorem sd_neg (ha : SV X cs W a fa) : SD X cs W (.UnaryOp .USub a pos) (e1 gNeg fa) := peImp (pe_un un_neg ha) fun σ H Q h => run1 h fun Φ H v d m r q => by
  unfold gNeg at q
  split at q
  · cases r.int_inv
    exact ⟨_, rfl, q.ok m (.int _)⟩
  · exact q.elim

/-! ### comparisons -/
def gCmp (p : Int → Int → Bool) : D → D → R Bool
  | .int i, .int j => .ok (p i j)
  | _, _ => .stuck
theorem opCmp {p : Int → Int → Bool} : OpB X cs W (rI0 fun i j => .bl (p i j)) (gCmp p) := by
  intro σ Φ H Q v u d e m r1 r2 q
  unfold gCmp at q
  split at q
  next i j =>
    cases r1.int_inv; cases r2.int_inv
    exact ⟨_, _, rfl, rfl, _, rfl, q.ok m rfl⟩
  next => exact q.elim
theorem rI0_mono {g : Int → Int → V} (x y : V) (H : Hp) (Q Q' : VK) (h : ∀ v H, Q v H → Q' v H) (z : rI0 g x y H Q) : rI0 g x y H Q' := by
  obtain ⟨i, j, e1, e2, q⟩ := z
  exact ⟨i, j, e1, e2, h _ _ q⟩
abbrev pLt (i j : Int) : Bool := decide (i < j)
abbrev pLe (i j : Int) : Bool := decide (i ≤ j)
abbrev pGt (i j : Int) : Bool := decide (j < i)
abbrev pGe (i j : Int) : Bool := decide (j ≤ i)
theorem st_lt (ha : SV X cs W a fa) (hb : SV X cs W b fb) : ST X cs W (.Compare a [.Lt] [b] pos) (e2 (gCmp pLt) fa fb) := st_cmp op_lt opCmp ha hb (nomark _)
theorem st_le (ha : SV X cs W a fa) (hb : SV X cs W b fb) : ST X cs W (.Compare a [.LtE] [b] pos) (e2 (gCmp pLe) fa fb) := st_cmp op_le opCmp ha hb (nomark _)
theorem st_gt (ha : SV X cs W a fa) (hb : SV X cs W b fb) : ST X cs W (.Compare a [.Gt] [b] pos) (e2 (gCmp pGt) fa fb) := st_cmp op_gt opCmp ha hb (nomark _)
theorem st_ge (ha : SV X cs W a fa) (hb : SV X cs W b fb) : ST X cs W (.Compare a [.GtE] [b] pos) (e2 (gCmp pGe) fa fb) := st_cmp op_ge opCmp ha hb (nomark _)
theorem sd_lt (ha : SV X cs W a fa) (hb : SV X cs W b fb) : SD X cs W (.Compare a [.Lt] [b] pos) (eBl (e2 (gCmp pLt) fa fb)) := sd_cmp rI0_mono op_lt opCmp ha hb (nomark _)
theorem sd_le (ha : SV X cs W a fa) (hb : SV X cs W b fb) : SD X cs W (.Compare a [.LtE] [b] pos) (eBl (e2 (gCmp pLe) fa fb)) := sd_cmp rI0_mono op_le opCmp ha hb (nomark _)
theorem sd_gt (ha : SV X cs W a fa) (hb : SV X cs W b fb) : SD X cs W (.Compare a [.Gt] [b] pos) (eBl (e2 (gCmp pGt) fa fb)) := sd_cmp rI0_mono op_gt opCmp ha hb (nomark _)
theorem sd_ge (ha : SV X cs W a fa) (hb : SV X cs W b fb) : SD X cs W (.Compare a [.GtE] [b] pos) (eBl (e2 (gCmp pGe) fa fb)) := sd_cmp rI0_mono op_ge opCmp ha hb (nomark _)

end ops

/-! ### data for == -/
mutual
def D.py : D → PyData
  | .non => .none
  | .bl b => .bool b
  | .int i => .int i
  | .str s => .str ⟨s.toArray⟩
  | .tup xs => .tuple (D.pys xs)
  | .lst xs => .list (D.pys xs)
  | .scr ns => .list (ns.map PyData.int)
  | .dic _ => .dict []
  | .cls _ => .dict []
  | .exn _ => .dict []
def D.pys : List D → List PyData
  | [] => []
  | d :: ds => d.py :: D.pys ds
end
theorem mk_toL (x : Str) : (⟨x.cps.toList.toArray⟩ : Str) = x := by cases x; simp
section
variable {K : PySem.W.Frag} {Φ H : Hp}
theorem dpInts : ∀ ns : List Int, DpAll K H (ns.map V.int) (ns.map PyData.int)
  | [] => .nil
  | n :: ns => .cons (.int n) (dpInts ns)
mutual
theorem RepD.dp (m : Same Φ H) : ∀ {d : D} {v : V}, RepD K Φ d v → d.py.canLay0 = true → Dp K H v d.py
  | _, _, .non, _ => .non
  | _, _, .bl b, _ => .bl b
  | _, _, .int i, _ => .int i
  | _, _, .str x s e, _ => by
    subst e
    show Dp K H (.str x) (.str ⟨x.cps.toList.toArray⟩)
    rw [mk_toL]
    exact .str x
  | _, _, .tup h r _, z => .tup (sqT_mono m h) (RepDs.dp m r (by simpa [D.py, PyData.canLay0] using z))
  | _, _, .lst h r, z => .lst (SqL.of (m _ _ h)) (RepDs.dp m r (by simpa [D.py, PyData.canLay0] using z))
  | _, _, .scr h, _ => .lst (m.seq h) (dpInts _)
  | _, _, .dic h r, z => by simp [D.py, PyData.canLay0] at z
theorem RepDs.dp (m : Same Φ H) : ∀ {d : List D} {v : List V}, RepDs K Φ d v → PyData.canLayAll0 (D.pys d) = true → DpAll K H v (D.pys d)
  | _, _, .nil, _ => .nil
  | _, _, .cons h r, z => by
    simp only [D.pys, PyData.canLayAll0, Bool.and_eq_true] at z
    exact .cons (RepD.dp m h z.1) (RepDs.dp m r z.2)
end
theorem RepV.dp {d : D} {v : V} (h : RepV K Φ H d v) (m : Same Φ H) (z : d.py.canLay0 = true) : Dp K H v d.py := by
  rcases h with h | ⟨a, rfl, h⟩
  · exact h.dp m z
  · cases h with
    | lst e r => exact .lst (SqL.of e) (r.dp m (by simpa [D.py, PyData.canLay0] using z))
    | dic e r => simp [D.py, PyData.canLay0] at z
end
def D.fits (d : D) : Bool := SeqAt.shaped d.py
def gEq : D → D → R Bool
  | .int i, .int j => .ok (decide (i = j))
  | .str x, .str y => .ok (decide (x = y))
  | .bl x, .bl y => .ok (decide (x = y))
  | d, e => if d.fits = true ∧ e.fits = true then .ok (PyData.eqv d.py e.py) else .stuck
def gNe (d e : D) : R Bool := (gEq d e).bind fun k => .ok (!k)
section
variable {X : Cx} {cs : Nat → Addr} {W : WX} {a b c e o : Expr} {fa fb fc : Ev D} {pos : Pos}
theorem str_dec {x y : Str} : decide (x.cps.toList = y.cps.toList) = decide (x = y) := by
  by_cases h : x = y
  · subst h; simp
  · have h2 : ¬ x.cps.toList = y.cps.toList := fun z => h (by cases x; cases y; simp only [Str.mk.injEq]; exact Array.toList_inj.mp z)
    rw [decide_eq_false h, decide_eq_false h2]
theorem v_int {i j : Int} : decide (V.int i = V.int j) = decide (i = j) := by by_cases h : i = j <;> simp [h]
theorem v_bl {i j : Bool} : decide (V.bl i = V.bl j) = decide (i = j) := by by_cases h : i = j <;> simp [h]
theorem v_str {i j : Str} : decide (V.str i = V.str j) = decide (i = j) := by by_cases h : i = j <;> simp [h]
theorem opEq (hu : X.A.units + 64 < cLine) : OpB X cs W (fun x y H Q => rEq x y H Q ∨ rEqD X.K x y H Q) gEq := by
  intro σ Φ H Q v u d e m r1 r2 q
  unfold gEq at q
  split at q
  · cases r1.int_inv; cases r2.int_inv
    exact .inl ⟨rfl, _, rfl, q.ok m v_int.symm⟩
  · obtain ⟨x, rfl, rfl⟩ := r1.str_inv
    obtain ⟨y, rfl, rfl⟩ := r2.str_inv
    exact .inl ⟨rfl, _, rfl, q.ok m (str_dec.trans v_str.symm)⟩
  · cases r1.bl_inv; cases r2.bl_inv
    exact .inl ⟨rfl, _, rfl, q.ok m v_bl.symm⟩
  · split at q
    next h =>
      exact .inr ⟨_, _, r1.dp m (SeqAt.canLay_of_shaped h.1), r2.dp m (SeqAt.canLay_of_shaped h.2), h.1, h.2, _, rfl, q.ok m rfl⟩
    next => exact q.elim
theorem opNe (hu : X.A.units + 64 < cLine) : OpB X cs W (fun x y H Q => rNe x y H Q ∨ rNeD X.K x y H Q) gNe := by
  intro σ Φ H Q v u d e m r1 r2 q
  unfold gNe gEq at q
  split at q
  · cases r1.int_inv; cases r2.int_inv
    exact .inl ⟨rfl, _, rfl, q.ok m (congrArg (fun k => !k) v_int.symm)⟩
  · obtain ⟨x, rfl, rfl⟩ := r1.str_inv
    obtain ⟨y, rfl, rfl⟩ := r2.str_inv
    exact .inl ⟨rfl, _, rfl, q.ok m (congrArg (fun k => !k) (str_dec.trans v_str.symm))⟩
  · cases r1.bl_inv; cases r2.bl_inv
    exact .inl ⟨rfl, _, rfl, q.ok m (congrArg (fun k => !k) v_bl.symm)⟩
  · split at q
    next h =>
      exact .inr ⟨_, _, r1.dp m (SeqAt.canLay_of_shaped h.1), r2.dp m (SeqAt.canLay_of_shaped h.2), h.1, h.2, _, rfl, q.ok m rfl⟩
    next => exact q.elim
theorem rEq_mono {K : PySem.W.Frag} (x y : V) (H : Hp) (Q Q' : VK) (h : ∀ v H, Q v H → Q' v H) (z : rEq x y H Q ∨ rEqD K x y H Q) : rEq x y H Q' ∨ rEqD K x y H Q' := by
  rcases z with ⟨a, b⟩ | ⟨d, e, a, b, c, f, g⟩
  · exact .inl ⟨a, h _ _ b⟩
  · exact .inr ⟨d, e, a, b, c, f, h _ _ g⟩
theorem rNe_mono {K : PySem.W.Frag} (x y : V) (H : Hp) (Q Q' : VK) (h : ∀ v H, Q v H → Q' v H) (z : rNe x y H Q ∨ rNeD K x y H Q) : rNe x y H Q' ∨ rNeD K x y H Q' := by
  rcases z with ⟨a, b⟩ | ⟨d, e, a, b, c, f, g⟩
  · exact .inl ⟨a, h _ _ b⟩
  · exact .inr ⟨d, e, a, b, c, f, h _ _ g⟩
theorem st_eq (hu : X.A.units + 64 < cLine) (ha : SV X cs W a fa) (hb : SV X cs W b fb) : ST X cs W (.Compare a [.Eq] [b] pos) (e2 gEq fa fb) := st_cmp (op_eq.or (op_eqD hu)) (opEq hu) ha hb (nomark _)
theorem st_ne (hu : X.A.units + 64 < cLine) (ha : SV X cs W a fa) (hb : SV X cs W b fb) : ST X cs W (.Compare a [.NotEq] [b] pos) (e2 gNe fa fb) := st_cmp (op_ne.or (op_neD hu)) (opNe hu) ha hb (nomark _)
theorem sd_eq (hu : X.A.units + 64 < cLine) (ha : SV X cs W a fa) (hb : SV X cs W b fb) : SD X cs W (.Compare a [.Eq] [b] pos) (eBl (e2 gEq fa fb)) := sd_cmp rEq_mono (op_eq.or (op_eqD hu)) (opEq hu) ha hb (nomark _)
theorem sd_ne (hu : X.A.units + 64 < cLine) (ha : SV X cs W a fa) (hb : SV X cs W b fb) : SD X cs W (.Compare a [.NotEq] [b] pos) (eBl (e2 gNe fa fb)) := sd_cmp rNe_mono (op_ne.or (op_neD hu)) (opNe hu) ha hb (nomark _)

/-! ### tests -/
def tBool (d : D) : R Bool := match d with | .bl k => .ok k | _ => .stuck
theorem st_val (h : SD X cs W e fa) (he : ∀ whole, isTrue e X.env whole = (do let v ← whole; standAt e.pos; holding [v] (truthy v)) := by intro _; rfl) : ST X cs W e (e1 tBool fa) :=
  ptImp (pt_val h he) fun σ H Q ⟨Φ, ρ, r, q⟩ => tG.bind (rp := rD X.K) r q fun Φ1 H1 d v r1 _ rep q => by
    unfold tBool at q
    split at q
    · cases rep
      exact ⟨_, rfl, q.ok r1.sub rfl⟩
    · exact q.elim
variable {f g h : Ev Bool} {rest : List Expr}
def tNt (f : Ev Bool) : Ev Bool := fun ρ => (f ρ).bind fun k => .ok (!k)
def tAn (f g : Ev Bool) : Ev Bool := fun ρ => (f ρ).bind fun k => if k = true then g ρ else .ok false
def tOo (f g : Ev Bool) : Ev Bool := fun ρ => (f ρ).bind fun k => if k = true then .ok true else g ρ
theorem st_not (h : ST X cs W a f) : ST X cs W (.UnaryOp .Not a pos) (tNt f) := ptImp (pt_not h) fun σ H Q ⟨Φ, ρ, r, q⟩ => tG.bind (rp := rB) r q fun Φ1 H1 d v r1 _ rep q => by
  cases rep
  exact q.ok r1.sub rfl
theorem sw_and1 (h : ST X cs W a f) : SW X cs W (.BoolOp .And [a] pos) f := pw_and1 h
theorem sw_or1 (h : ST X cs W a f) : SW X cs W (.BoolOp .Or [a] pos) f := pw_or1 h
theorem sw_and (h : ST X cs W a f) (k : SW X cs W (.BoolOp .And (b :: rest) pos) g) : SW X cs W (.BoolOp .And (a :: b :: rest) pos) (tAn f g) := pwImp (pw_and h k) fun σ H Q ⟨Φ, ρ, r, q⟩ => tG.bind (rp := rB) r q fun Φ1 H1 d v r1 _ rep q => by
  cases rep
  cases d with
  | false => exact q.ok r1.sub rfl
  | true => exact ⟨Φ1, ρ, r1, q⟩
theorem sw_or (h : ST X cs W a f) (k : SW X cs W (.BoolOp .Or (b :: rest) pos) g) : SW X cs W (.BoolOp .Or (a :: b :: rest) pos) (tOo f g) := pwImp (pw_or h k) fun σ H Q ⟨Φ, ρ, r, q⟩ => tG.bind (rp := rB) r q fun Φ1 H1 d v r1 _ rep q => by
  cases rep
  cases d with
  | true => exact q.ok r1.sub rfl
  | false => exact ⟨Φ1, ρ, r1, q⟩
theorem SW.st (h : SW X cs W e f) : ST X cs W e f := h.pt
/-- and, or as values: bools all -/
def andR (d : D) (x : R D) : R D := match d with | .bl true => x | .bl false => .ok (.bl false) | _ => .stuck
def orR (d : D) (x : R D) : R D := match d with | .bl true => .ok (.bl true) | .bl false => x | _ => .stuck
def notR (d : D) : R D := match d with | .bl k => .ok (.bl (!k)) | _ => .stuck
def eAn (fa fb : Ev D) : Ev D := fun ρ => (fa ρ).bind fun d => andR d (fb ρ)
def eOo (fa fb : Ev D) : Ev D := fun ρ => (fa ρ).bind fun d => orR d (fb ρ)
def eNt (fa : Ev D) : Ev D := e1 notR fa
theorem sd_one {op : BoolOp} (h : SD X cs W a fa) : SD X cs W (.BoolOp op [a] pos) fa := pe_one h
theorem sd_land (h : SD X cs W a fa) (k : SD X cs W (.BoolOp .And (b :: rest) pos) fb) : SD X cs W (.BoolOp .And (a :: b :: rest) pos) (eAn fa fb) := peImp (pe_and h k) fun σ H Q ⟨Φ, ρ, r, q⟩ => tG.bind (rp := rD X.K) r q fun Φ1 H1 d v r1 _ rep q => by
  first | unfold andR at q | unfold orR at q | unfold notR at q
  split at q
  · cases rep; exact ⟨_, rfl, Φ1, ρ, r1, q⟩
  · cases rep; exact ⟨_, rfl, q.ok r1.sub (.bl _)⟩
  · exact q.elim
theorem sd_lor (h : SD X cs W a fa) (k : SD X cs W (.BoolOp .Or (b :: rest) pos) fb) : SD X cs W (.BoolOp .Or (a :: b :: rest) pos) (eOo fa fb) := peImp (pe_or h k) fun σ H Q ⟨Φ, ρ, r, q⟩ => tG.bind (rp := rD X.K) r q fun Φ1 H1 d v r1 _ rep q => by
  first | unfold andR at q | unfold orR at q | unfold notR at q
  split at q
  · cases rep; exact ⟨_, rfl, q.ok r1.sub (.bl _)⟩
  · cases rep; exact ⟨_, rfl, Φ1, ρ, r1, q⟩
  · exact q.elim
theorem sd_not (h : SD X cs W a fa) : SD X cs W (.UnaryOp .Not a pos) (eNt fa) := peImp (pe_not h) fun σ H Q ⟨Φ, ρ, r, q⟩ => tG.bind (rp := rD X.K) r q fun Φ1 H1 d v r1 _ rep q => by
  first | unfold andR at q | unfold orR at q | unfold notR at q
  split at q
  · cases rep; exact ⟨_, rfl, q.ok r1.sub (.bl _)⟩
  · exact q.elim
def eIf (f : Ev Bool) (fa fb : Ev D) : Ev D := fun ρ => (f ρ).bind fun k => if k = true then fa ρ else fb ρ
theorem sd_if (h : ST X cs W c f) (ha : SD X cs W a fa) (hb : SD X cs W b fb) : SD X cs W (.IfExp c a b pos) (eIf f fa fb) := peImp (pe_ifExp h ha hb) fun σ H Q ⟨Φ, ρ, r, q⟩ => tG.bind (rp := rB) r q fun Φ1 H1 d v r1 _ rep q => by
  cases rep
  cases d with
  | true => exact ⟨Φ1, ρ, r1, q⟩
  | false => exact ⟨Φ1, ρ, r1, q⟩
/-- a < b < c -/
def tCh (p p' : Int → Int → Bool) (fa fb fc : Ev D) : Ev Bool := fun ρ => (fa ρ).bind fun x => (fb ρ).bind fun y => (gCmp p x y).bind fun k => if k = true then (fc ρ).bind fun z => gCmp p' y z else .ok false

/-! ### arguments, displays -/
def aNil : Ev (List D) := fun _ => .ok []
def aCons (fa : Ev D) (fs : Ev (List D)) : Ev (List D) := fun ρ => (fa ρ).bind fun d => (fs ρ).bind fun ds => .ok (d :: ds)
variable {es : List Expr} {fs : Ev (List D)}
theorem sa_nil : SA X cs W [] aNil := paImp pa_nil fun σ H Q ⟨Φ, ρ, r, q⟩ => q.ok r.sub .nil
theorem sa_cons (ha : SV X cs W a fa) (hs : SA X cs W es fs) (h : starEach (a :: es) X.env = (false, eval a X.env) :: starEach es X.env := by rfl) : SA X cs W (a :: es) (aCons fa fs) :=
  paImp (pa_cons ha hs h) fun σ H Q ⟨Φ, ρ, r, q⟩ => tG.bind (rp := rV X.K) r q fun Φ1 H1 d v r1 _ rep q => tG.bind (rp := rVs X.K) r1 q fun Φ2 H2 ds vs r2 x2 rep2 q => q.ok r2.sub (.cons (rep.ext x2) rep2)
theorem sad_nil : SAd X cs W [] aNil := paImp pa_nil fun σ H Q ⟨Φ, ρ, r, q⟩ => q.ok r.sub .nil
theorem sad_cons (ha : SD X cs W a fa) (hs : SAd X cs W es fs) (h : starEach (a :: es) X.env = (false, eval a X.env) :: starEach es X.env := by rfl) : SAd X cs W (a :: es) (aCons fa fs) :=
  paImp (pa_cons ha hs h) fun σ H Q ⟨Φ, ρ, r, q⟩ => tG.bind (rp := rD X.K) r q fun Φ1 H1 d v r1 _ rep q => tG.bind (rp := rDs X.K) r1 q fun Φ2 H2 ds vs r2 x2 rep2 q => q.ok r2.sub (.cons (rep.mono x2.mono) rep2)
def eTup (fs : Ev (List D)) : Ev D := fun ρ => (fs ρ).bind fun ds => if ds.length ≤ LIM then .ok (.tup ds) else .stuck
def eLst (fs : Ev (List D)) : Ev D := fun ρ => (fs ρ).bind fun ds => if ds.length ≤ LIM then .ok (.lst ds) else .stuck
theorem sd_tup {x1 : _} (h : SAd X cs W es fs) : SD X cs W (.Tuple es x1 pos) (eTup fs) := peImp (pe_tupF h) fun σ H Q ⟨Φ, ρ, r, q⟩ => tG.bind (rp := rDs X.K) r q fun Φ1 H1 ds vs r1 _ rep q => by
  split at q
  next h => exact ⟨by rw [← RepDs.length rep]; exact lim_le h, fun p o hp hc hd => q _ _ _ (Ext.fresh r1.sub hp) (RepD.tup SqT.ofF (RepDs.mono (Ext.fresh r1.sub hp).mono rep) fun _ => Kn.of hc hd)⟩
  next => exact q.elim
theorem sn_lst (h : SAd X cs W es fs) : SN X cs W (.List es pos) (eLst fs) := peImp (pe_lst h) fun σ H Q ⟨Φ, ρ, r, q⟩ => tG.bindN (rp := rDs X.K) r q fun Φ1 H1 ds vs r1 _ rep q => by
  split at q
  next h => exact ⟨by rw [← RepDs.length rep]; exact lim_le h, fun p hp => q _ _ _ (Ext.alloc r1.sub hp) hp (by
      cases z : Φ1 p with
      | none => rfl
      | some u => rw [r1.sub _ _ z] at hp; cases hp) (RepOwn.lst upd_same rep)⟩
  next => exact q.elim
theorem sd_lst (h : SAd X cs W es fs) : SD X cs W (.List es pos) (eLst fs) := (sn_lst h).sd
def eDic0 : Ev D := fun _ => .ok (.dic [])
theorem sn_dic0 : SN X cs W (.Dict [] [] pos) eDic0 := peImp pe_dnewK fun σ H Q ⟨Φ, ρ, r, q⟩ p hp => q _ _ _ (Ext.alloc r.sub hp) hp (by
      cases z : Φ p with
      | none => rfl
      | some u => rw [r.sub _ _ z] at hp; cases hp) (RepOwn.dic upd_same .nil)

/-! ### items and slices -/
def oR {α : Type} : Option α → R α
  | some a => .ok a
  | none => .stuck
def gIx : D → D → R D
  | .str s, .int i => if s.length ≤ LIM then (oR (atI s i)).bind fun c => .ok (.str [c]) else .stuck
  | d, .int i => (oR d.items).bind fun ds => oR (atI ds i)
  | _, _ => .stuck
theorem RepDs.atI {K : PySem.W.Frag} {Φ : Hp} {ds : List D} {vs : List V} {i : Int} {d : D} (r : RepDs K Φ ds vs) (h : L2.atI ds i = some d) : ∃ v, L2.atI vs i = some v ∧ RepD K Φ d v := by
  unfold L2.atI at h ⊢
  rw [← r.length]
  cases e : ixN ds.length i with
  | none => rw [e] at h; cases h
  | some j =>
    rw [e] at h
    exact r.get h
theorem oR_bind {α β : Type} {x : Option α} {k : α → R β} {P : R β → Prop} (h : P ((oR x).bind k)) (hs : ¬ P .stuck) : ∃ a, x = some a ∧ P (k a) := by
  cases x with
  | none => exact absurd h hs
  | some a => exact ⟨a, rfl, h⟩
theorem sd_ix (ha : SV X cs W a fa) (hb : SV X cs W b fb) (hs : PlainIx b := by exact fun _ _ => rfl) : SD X cs W (.Subscript a b pos) (e2 gIx fa fb) := peImp (pe_ix ix_seq ha hb hs) fun σ H Q h => run2 h fun Φ H v u d e m r1 r2 q => by
  unfold gIx at q
  split at q
  next s i =>
    cases r2.int_inv
    obtain ⟨x, rfl, rfl⟩ := r1.str_inv
    split at q
    next hl =>
      obtain ⟨c, hc, q⟩ := oR_bind (P := Run cs (rD X.K) W σ Φ H Q) q id
      exact .inr (.inr ⟨x, i, c, rfl, rfl, by rw [len_toL]; exact lim_le hl, hc, q.ok m (.str _ _ rfl)⟩)
    next => exact q.elim
  next i _ =>
    cases r2.int_inv
    obtain ⟨ds, hd, q⟩ := oR_bind (P := Run cs (rD X.K) W σ Φ H Q) q id
    obtain ⟨p, vs, rfl, hs, rs⟩ := r1.items m hd
    cases e : atI ds i with
    | none => rw [e] at q; exact q.elim
    | some w =>
      rw [e] at q
      obtain ⟨w', h1, h2⟩ := rs.atI e
      rcases hs with hs | hs
      · exact .inl ⟨p, vs, i, w', rfl, rfl, hs, h1, q.ok m h2⟩
      · exact .inr (.inl ⟨p, vs, i, w', rfl, rfl, hs, h1, q.ok m h2⟩)
  next => exact q.elim
end
end PL

set_option Elab.async false
set_option linter.all false
set_option maxRecDepth 100000
/-! PL3: slices, calls of built-ins, what is walked, targets, comprehensions -/
namespace PL
set_option autoImplicit false
open PySem PySem.Spec PyProof.Rows L2

section
variable {X : Cx} {cs : Nat → Addr} {W : WX} {a b c e o : Expr} {fa fb fc : Ev D} {pos p : Pos} {es : List Expr} {fs : Ev (List D)}

/-! ### slices -/
def rO : Rp (Option Int) (Option Int) := ⟨fun _ _ a b => a = b, fun h _ => h⟩
def SO (X : Cx) (cs : Nat → Addr) (W : WX) (e : Option Expr) (f : Ev (Option Int)) : Prop := PO X e (tG X.K cs rO W f)
theorem poImp {e : Option Expr} {t t' : TO} (h : PO X e t) (i : ∀ σ H Q, t' σ H Q → t σ H Q) : PO X e t' := by
  obtain ⟨h⟩ := h
  constructor
  intros
  apply h
  · assumption
  · apply i; assumption
def oNone : Ev (Option Int) := fun _ => .ok none
def oSome (fa : Ev D) : Ev (Option Int) := e1 (fun d => match d with | .int i => .ok (some i) | _ => .stuck) fa
theorem so_none : SO X cs W none oNone := poImp po_none fun σ H Q ⟨Φ, ρ, r, q⟩ => q.ok r.sub rfl
theorem so_some (h : SV X cs W e fa) : SO X cs W (some e) (oSome fa) := poImp (po_some h) fun σ H Q ⟨Φ, ρ, r, q⟩ => tG.bind (rp := rV X.K) r q fun Φ1 H1 d v r1 _ rep q => by
  split at q
  · cases RepV.int_inv rep; exact ⟨_, rfl, q.ok r1.sub rfl⟩
  · exact q.elim
def cutL {α : Type} (xs : List α) (lo hi : Option Int) : List α := (xs.drop (HT.sIx xs.length 0 lo)).take (HT.sIx xs.length xs.length hi - HT.sIx xs.length 0 lo)
def gSl (lo hi : Option Int) : D → R D
  | .str s => if s.length ≤ LIM then .ok (.str (cutL s lo hi)) else .stuck
  | .lst ds => .ok (.lst (cutL ds lo hi))
  | .scr ns => .ok (.lst ((cutL ns lo hi).map D.int))
  | .tup ds => .ok (.tup (cutL ds lo hi))
  | _ => .stuck
def eSl (fa : Ev D) (fl fh : Ev (Option Int)) : Ev D := fun ρ => (fa ρ).bind fun d => (fl ρ).bind fun lo => (fh ρ).bind fun hi => gSl lo hi d
theorem RepDs.cut {K : PySem.W.Frag} {Φ : Hp} {ds : List D} {vs : List V} (r : RepDs K Φ ds vs) (lo hi : Option Int) : RepDs K Φ (cutL ds lo hi) (cutV vs lo hi) := by
  unfold cutL cutV
  rw [r.length]
  exact (r.drop _).take _
theorem cutL_map {α β : Type} (f : α → β) (xs : List α) (lo hi : Option Int) : cutL (xs.map f) lo hi = (cutL xs lo hi).map f := by
  unfold cutL
  rw [List.length_map, ← List.map_drop, ← List.map_take]
theorem sd_sl {lo hi : Option Expr} {fl fh : Ev (Option Int)} {p2 : Pos} (ha : SV X cs W a fa) (hl : SO X cs W lo fl) (hh : SO X cs W hi fh) : SD X cs W (.Subscript a (.Slice lo hi none p2) pos) (eSl fa fl fh) :=
  peImp (pe_slice (sl_list.or (sl_tupF.or sl_str)) ha hl hh) fun σ H Q ⟨Φ, ρ, r, q⟩ => by
    refine tG.bind (rp := rV X.K) r q fun Φ1 H1 d v r1 _ rep q => ?_
    refine tG.bind (rp := rO) r1 q fun Φ2 H2 l l' r2 x2 e2 q => ?_
    refine tG.bind (rp := rO) r2 q fun Φ3 H3 h h' r3 x3 e3 q => ?_
    cases e2; cases e3
    have rep3 := (RepV.ext rep x2).ext x3
    have m := r3.sub
    unfold gSl at q
    split at q
    · obtain ⟨x, rfl, rfl⟩ := rep3.str_inv
      split at q
      next hl =>
        refine .inr (.inr ⟨x, rfl, by rw [len_toL]; exact lim_le hl, q.ok m (.str _ _ ?_)⟩)
        simp [cutS, cutL, Str.length]
      next => exact q.elim
    · obtain ⟨p, vs, rfl, h1, h2⟩ := rep3.lst_inv m
      exact .inl ⟨p, vs, rfl, SqL.of h1, fun z hz => q _ _ _ (Ext.fresh m hz) (RepD.lst upd_same ((h2.cut l h).mono (Ext.fresh m hz).mono))⟩
    · obtain ⟨p, rfl, h1⟩ := rep3.scr_inv m
      refine .inl ⟨p, _, rfl, h1, fun z hz => q _ _ _ (Ext.fresh m hz) (RepD.lst upd_same ?_)⟩
      have e : ∀ ns : List Int, cutV (List.map V.int ns) l h = List.map V.int (cutL ns l h) := fun ns => cutL_map V.int ns l h
      rw [e]
      exact RepDs.ints _
    · obtain ⟨p, vs, rfl, h1, h2⟩ := rep3.tup_inv m
      refine .inr (.inl ⟨p, vs, rfl, h1, fun hw => ?_, fun _ z o hz hc hd => q _ _ _ (Ext.fresh m hz) (RepD.tup SqT.ofF ((h2.cut l h).mono (Ext.fresh m hz).mono) fun _ => Kn.of hc hd)⟩)
      rw [← h2.length] at hw
      rcases rep3 with r | ⟨_, e, w⟩
      · refine q.ok m ?_
        unfold cutL
        rw [hw.1, hw.2, List.drop_zero, Nat.sub_zero, List.take_length]
        exact r
      · cases w
    · exact q.elim

/-! ### calls of built-ins -/
def CallD (X : Cx) (cs : Nat → Addr) (W : WX) (r : List V → Hp → VK → Prop) (g : List D → R D) : Prop := ∀ (σ : L2.St) (Φ H : Hp) (Q : VK) (vs : List V) (ds : List D), Same Φ H → RepVs X.K Φ H ds vs → Run cs (rD X.K) W σ Φ H Q (g ds) → r vs H Q
def eCall (g : List D → R D) (fs : Ev (List D)) : Ev D := fun ρ => (fs ρ).bind g
theorem runA {r : List V → Hp → VK → Prop} {g : List D → R D} (hg : CallD X cs W r g) {σ : L2.St} {H : Hp} {Q : VK} (h : tG X.K cs (rD X.K) W (eCall g fs) σ H Q) : tG X.K cs (rVs X.K) W fs σ H fun vs H1 => r vs H1 Q := by
  obtain ⟨Φ, ρ, z, q⟩ := h
  exact tG.bind (rp := rVs X.K) z q fun Φ1 H1 ds vs r1 _ rep q => hg σ Φ1 H1 Q vs ds r1.sub rep q
theorem sd_callB {r : List V → Hp → VK → Prop} {g : List D → R D} {id : String} {x : Str} (hc : CallR X (.builtin id) r) (hd : CallD X cs W r g) (hv : bootBuiltins x = some (.builtin id)) (hg : Gl X x) (hm : X.mg x = none) (ha : SA X cs W (e :: es) fs) (hn : x ≠ "__name__" := by decide) (hdb : (x == ("__debug__" : Str)) = false := by decide)
    (he : starEach (e :: es) X.env = (false, eval e X.env) :: starEach es X.env := by rfl) (hpl : (backTo pos (starEach es X.env)).any (·.1) = false := by rfl) : SD X cs W (.Call (.Name x p) (e :: es) [] pos) (eCall g fs) :=
  peImp (pe_callB hc hg hm hv ha hn hdb he hpl) fun σ H Q h => runA hd h
theorem sd_callT {r : List V → Hp → VK → Prop} {g : List D → R D} {id : String} {x : Str} (hc : CallR X (.type id) r) (hd : CallD X cs W r g) (hv : bootBuiltins x = some (.type id)) (hg : Gl X x) (hm : X.mg x = none) (ha : SA X cs W (e :: es) fs) (hn : x ≠ "__name__" := by decide) (hdb : (x == ("__debug__" : Str)) = false := by decide)
    (he : starEach (e :: es) X.env = (false, eval e X.env) :: starEach es X.env := by rfl) (hpl : (backTo pos (starEach es X.env)).any (·.1) = false := by rfl) : SD X cs W (.Call (.Name x p) (e :: es) [] pos) (eCall g fs) :=
  peImp (pe_callTy hc hg hm hv ha hn hdb he hpl) fun σ H Q h => runA hd h

def gLen : List D → R D
  | [.str s] => if s.length ≤ LIM then .ok (.int s.length) else .stuck
  | [d] => (oR d.items).bind fun ds => .ok (.int ds.length)
  | _ => .stuck
theorem RepVs.one {K : PySem.W.Frag} {Φ H : Hp} {d : D} {vs : List V} (h : RepVs K Φ H [d] vs) : ∃ v, vs = [v] ∧ RepV K Φ H d v := by
  cases h with
  | cons h r => cases r; exact ⟨_, rfl, h⟩
theorem RepVs.two {K : PySem.W.Frag} {Φ H : Hp} {d d2 : D} {vs : List V} (h : RepVs K Φ H [d, d2] vs) : ∃ v u, vs = [v, u] ∧ RepV K Φ H d v ∧ RepV K Φ H d2 u := by
  cases h with
  | cons h r =>
    obtain ⟨u, rfl, h2⟩ := r.one
    exact ⟨_, _, rfl, h, h2⟩
theorem cd_len : CallD X cs W (fun xs H Q => ∃ x n, xs = [x] ∧ LenV X.K x H n ∧ Q (.int n) H) gLen := fun σ Φ H Q vs ds m r q => by
  unfold gLen at q
  split at q
  · obtain ⟨v, rfl, h⟩ := r.one
    obtain ⟨x, rfl, rfl⟩ := h.str_inv
    split at q
    next hl => exact ⟨_, _, rfl, ⟨by rw [len_toL]; exact lim_le hl, rfl⟩, by rw [len_toL]; exact q.ok m (.int _)⟩
    next => exact q.elim
  · obtain ⟨v, rfl, h⟩ := r.one
    obtain ⟨ds, hd, q⟩ := oR_bind (P := Run cs (rD X.K) W σ Φ H Q) q id
    obtain ⟨p, vs, rfl, hs, rs⟩ := h.items m hd
    refine ⟨_, vs.length, rfl, ?_, by rw [← rs.length]; exact q.ok m (.int _)⟩
    rcases hs with hs | hs
    · exact .inl ⟨vs, hs, rfl⟩
    · exact .inr ⟨vs, hs, rfl⟩
  · exact q.elim
theorem sd_len (hg : Gl X "len") (hm : X.mg "len" = none) (ha : SA X cs W (e :: es) fs) 
    (he : starEach (e :: es) X.env = (false, eval e X.env) :: starEach es X.env := by rfl) (hpl : (backTo pos (starEach es X.env)).any (·.1) = false := by rfl) : SD X cs W (.Call (.Name "len" p) (e :: es) [] pos) (eCall gLen fs) := sd_callB call_len cd_len boot_len hg hm ha (by decide) (by decide) he hpl
def gIntOf : List D → R D
  | [.int i] => .ok (.int i)
  | [.bl k] => .ok (.int (if k then 1 else 0))
  | _ => .stuck
theorem sd_intOf (hg : Gl X "int") (hm : X.mg "int" = none) (ha : SA X cs W (e :: es) fs) 
    (he : starEach (e :: es) X.env = (false, eval e X.env) :: starEach es X.env := by rfl) (hpl : (backTo pos (starEach es X.env)).any (·.1) = false := by rfl) : SD X cs W (.Call (.Name "int" p) (e :: es) [] pos) (eCall gIntOf fs) :=
  sd_callT call_int1 (fun σ Φ H Q vs ds m r q => by
    unfold gIntOf at q
    split at q
    · obtain ⟨v, rfl, h⟩ := r.one
      cases h.int_inv
      exact .inl ⟨_, rfl, q.ok m (.int _)⟩
    · obtain ⟨v, rfl, h⟩ := r.one
      cases h.bl_inv
      exact .inr ⟨_, rfl, q.ok m (.int _)⟩
    · exact q.elim) (by decide +kernel) hg hm ha (by decide) (by decide) he hpl
def gMax2 : List D → R D
  | [.int i, .int j] => .ok (.int (if j > i then j else i))
  | _ => .stuck
def gMin2 : List D → R D
  | [.int i, .int j] => .ok (.int (if j < i then j else i))
  | _ => .stuck
theorem sd_max2 (hc : X.calm = true) (hg : Gl X "max") (hm : X.mg "max" = none) (ha : SA X cs W (e :: es) fs) 
    (he : starEach (e :: es) X.env = (false, eval e X.env) :: starEach es X.env := by rfl) (hpl : (backTo pos (starEach es X.env)).any (·.1) = false := by rfl) : SD X cs W (.Call (.Name "max" p) (e :: es) [] pos) (eCall gMax2 fs) :=
  sd_callB (call_max2 hc) (fun σ Φ H Q vs ds m r q => by
    unfold gMax2 at q
    split at q
    · obtain ⟨v, u, rfl, h, h2⟩ := r.two
      cases h.int_inv; cases h2.int_inv
      exact ⟨_, _, rfl, q.ok m (.int _)⟩
    · exact q.elim) (by decide +kernel) hg hm ha (by decide) (by decide) he hpl
theorem sd_min2 (hc : X.calm = true) (hg : Gl X "min") (hm : X.mg "min" = none) (ha : SA X cs W (e :: es) fs) 
    (he : starEach (e :: es) X.env = (false, eval e X.env) :: starEach es X.env := by rfl) (hpl : (backTo pos (starEach es X.env)).any (·.1) = false := by rfl) : SD X cs W (.Call (.Name "min" p) (e :: es) [] pos) (eCall gMin2 fs) :=
  sd_callB (call_min2 hc) (fun σ Φ H Q vs ds m r q => by
    unfold gMin2 at q
    split at q
    · obtain ⟨v, u, rfl, h, h2⟩ := r.two
      cases h.int_inv; cases h2.int_inv
      exact ⟨_, _, rfl, q.ok m (.int _)⟩
    · exact q.elim) (by decide +kernel) hg hm ha (by decide) (by decide) he hpl
def gTupleOf : List D → R D
  | [.tup ds] => .ok (.tup ds)
  | [.lst ds] => .ok (.tup ds)
  | [.scr ns] => .ok (.tup (ns.map D.int))
  | _ => .stuck
theorem sd_tupleOf (hg : Gl X "tuple") (hm : X.mg "tuple" = none) (ha : SA X cs W (e :: es) fs) 
    (he : starEach (e :: es) X.env = (false, eval e X.env) :: starEach es X.env := by rfl) (hpl : (backTo pos (starEach es X.env)).any (·.1) = false := by rfl) : SD X cs W (.Call (.Name "tuple" p) (e :: es) [] pos) (eCall gTupleOf fs) :=
  sd_callT call_tupleF (fun σ Φ H Q vs ds m r q => by
    unfold gTupleOf at q
    split at q
    · obtain ⟨v, rfl, h⟩ := r.one
      obtain ⟨p, vs, rfl, h1, h2⟩ := h.tup_inv m
      refine ⟨_, vs, rfl, .inr ⟨h1, ?_⟩⟩
      rcases h with h | ⟨_, e, w⟩
      · exact q.ok m h
      · cases w
    · obtain ⟨v, rfl, h⟩ := r.one
      obtain ⟨p, vs, rfl, h1, h2⟩ := h.lst_inv m
      exact ⟨_, vs, rfl, .inl ⟨SqL.of h1, fun l o hl hc hd => q _ _ _ (Ext.fresh m hl) (RepD.tup SqT.ofF (h2.mono (Ext.fresh m hl).mono) fun _ => Kn.of hc hd)⟩⟩
    · obtain ⟨v, rfl, h⟩ := r.one
      obtain ⟨p, rfl, h1⟩ := h.scr_inv m
      exact ⟨_, _, rfl, .inl ⟨h1, fun l o hl hc hd => q _ _ _ (Ext.fresh m hl) (RepD.tup SqT.ofF (RepDs.ints _) fun _ => Kn.of hc hd)⟩⟩
    · exact q.elim) (by decide +kernel) hg hm ha (by decide) (by decide) he hpl
def gListOf : List D → R D
  | [.tup ds] => .ok (.lst ds)
  | [.lst ds] => .ok (.lst ds)
  | [.scr ns] => .ok (.lst (ns.map D.int))
  | _ => .stuck
theorem sd_listOf0 (hg : Gl X "list") (hm : X.mg "list" = none) (ha : SA X cs W (e :: es) fs) 
    (he : starEach (e :: es) X.env = (false, eval e X.env) :: starEach es X.env := by rfl) (hpl : (backTo pos (starEach es X.env)).any (·.1) = false := by rfl) : SD X cs W (.Call (.Name "list" p) (e :: es) [] pos) (eCall gListOf fs) :=
  sd_callT call_list_of (fun σ Φ H Q vs ds m r q => by
    unfold gListOf at q
    split at q
    · obtain ⟨v, rfl, h⟩ := r.one
      obtain ⟨p, vs, rfl, h1, h2⟩ := h.tup_inv m
      exact ⟨_, vs, rfl, .inr h1, fun l hl => q _ _ _ (Ext.fresh m hl) (RepD.lst upd_same (h2.mono (Ext.fresh m hl).mono))⟩
    · obtain ⟨v, rfl, h⟩ := r.one
      obtain ⟨p, vs, rfl, h1, h2⟩ := h.lst_inv m
      exact ⟨_, vs, rfl, .inl (SqL.of h1), fun l hl => q _ _ _ (Ext.fresh m hl) (RepD.lst upd_same (h2.mono (Ext.fresh m hl).mono))⟩
    · obtain ⟨v, rfl, h⟩ := r.one
      obtain ⟨p, rfl, h1⟩ := h.scr_inv m
      exact ⟨_, _, rfl, .inl h1, fun l hl => q _ _ _ (Ext.fresh m hl) (RepD.lst upd_same (RepDs.ints _))⟩
    · exact q.elim) (by decide +kernel) hg hm ha (by decide) (by decide) he hpl

/-! ### isinstance with one built-in class -/
def D.ty : D → Option String
  | .non => some "NoneType"
  | .bl _ => some "bool"
  | .int _ => some "int"
  | .str _ => some "str"
  | .tup _ => some "tuple"
  | .lst _ => some "list"
  | .dic _ => some "dict"
  | _ => none
theorem sqT_ty {K : PySem.W.Frag} {Φ : Hp} {a : Addr} {vs : List V} (h : SqT K Φ a vs) : TyX K Φ (.ref a) (.type "tuple") := by
  rcases h with (h | ⟨o, h⟩) | ⟨o, its, n, h1, h2, _⟩
  · exact .base (.tup h)
  · exact .fTuple h
  · exact .kTuple h1 h2
theorem RepV.ty {K : PySem.W.Frag} {Φ H : Hp} {d : D} {v : V} {n : String} (h : RepV K Φ H d v) (m : Same Φ H) (e : d.ty = some n) : TyX K H v (.type n) := by
  cases d <;> simp only [D.ty, Option.some.injEq, reduceCtorEq] at e <;> subst e
  · cases h.non_inv; exact .base .non
  · cases h.bl_inv; exact .base (.bl _)
  · cases h.int_inv; exact .base (.int _)
  · obtain ⟨x, rfl, _⟩ := h.str_inv; exact .base (.str _)
  · obtain ⟨a, vs, rfl, h1, _⟩ := h.tup_inv m; exact sqT_ty h1
  · obtain ⟨a, vs, rfl, h1, _⟩ := h.lst_inv m; exact .base (.lst h1)
  · obtain ⟨a, vs, rfl, h1, _⟩ := h.dic_inv m; exact .base (.dK h1)
/-- the answer of isinstance by the type's name -/
def gIsi (n : String) (d : D) : R Bool := (oR d.ty).bind fun t => (oR (kitB t n)).bind fun b => .ok b
theorem tG1 {β : Type} {K : PySem.W.Frag} {rp : Rp D β} {f : Ev D} {σ : L2.St} {H : Hp} {G : β → Hp → Prop} (h : tG K cs rp W f σ H G) : tG K cs rp W f σ H G := h
theorem sd_isi {y : Str} {n : String} {p1 : Pos} (hg : Gl X "isinstance") (hm : X.mg "isinstance" = none) (ha : SV X cs W a fa) (hy : Gl X y) (hmy : X.mg y = none) (hv : bootBuiltins y = some (.type n)) (hn : y ≠ "__name__" := by decide) (hd : (y == ("__debug__" : Str)) = false := by decide)
    (he : starEach (a :: [.Name y p1]) X.env = (false, eval a X.env) :: starEach [.Name y p1] X.env := by rfl) (hpl : (backTo pos (starEach [.Name y p1] X.env)).any (·.1) = false := by rfl) (h2 : starEach (.Name y p1 :: []) X.env = (false, eval (.Name y p1) X.env) :: starEach [] X.env := by rfl) :
    SD X cs W (.Call (.Name "isinstance" p) [a, .Name y p1] [] pos) (eBl (e1 (gIsi n) fa)) :=
  peImp (pe_callB call_isi hg hm (by decide +kernel) (pa_cons ha (pa_cons (pe_bltn (v := .ty n) hy hmy hv rfl hn hd) pa_nil h2) he) (by decide) (by decide) he hpl) fun σ H Q h => by
    refine run1 (runBl h) fun Φ H v d m r q => ?_
    obtain ⟨t, ht, q⟩ := oR_bind (P := Run cs rB W σ Φ H _) q id
    obtain ⟨b, hb, q⟩ := oR_bind (P := Run cs rB W σ Φ H _) q id
    exact ⟨v, .ty n, .type t, .type n, b, rfl, .ty n, r.ty m ht, kit_ty hb, q.ok m rfl⟩

/-! ### str methods with one argument -/
/-- strs of a sequence -/
def D.strs : List D → Option (List (List Nat))
  | [] => some []
  | .str s :: ds => (D.strs ds).map (s :: ·)
  | _ => none
theorem RepDs.strs {K : PySem.W.Frag} {Φ : Hp} : ∀ {ds : List D} {vs : List V} {ss : List (List Nat)}, RepDs K Φ ds vs → D.strs ds = some ss → ∃ xs : List Str, vs = xs.map V.str ∧ xs.map (·.cps.toList) = ss
  | _, _, _, .nil, e => by simp only [D.strs, Option.some.injEq] at e; subst e; exact ⟨[], rfl, rfl⟩
  | d :: ds, _, ss, .cons h r, e => by
    cases d <;> simp only [D.strs, Option.map_eq_some_iff, reduceCtorEq] at e
    obtain ⟨ss', e1, e2⟩ := e
    obtain ⟨xs, rfl, h2⟩ := RepDs.strs r e1
    obtain ⟨x, h3, h4⟩ := (RepD.toV (H := Φ) h).str_inv
    subst h3
    exact ⟨x :: xs, rfl, by rw [← e2, List.map_cons, h2, h4]⟩
def eM1 (g : List Nat → D → R D) (fa fb : Ev D) : Ev D := fun ρ => (fa ρ).bind fun x => match x with | .str s => (fb ρ).bind (g s) | _ => .stuck
def gJoin (s : List Nat) (d : D) : R D := (oR d.items).bind fun ds => (oR (D.strs ds)).bind fun ss => if (ss.map (·.length)).sum + ss.length * s.length ≤ LIM then .ok (.str (TL.joinL s ss)) else .stuck
theorem runM1 {g : List Nat → D → R D} {r : V → List V → Hp → VK → Prop} {σ : L2.St} {H : Hp} {Q : VK} (h : tG X.K cs (rD X.K) W (eM1 g fa fb) σ H Q)
    (c : ∀ Φ H (x : Str) u d, Same Φ H → RepV X.K Φ H d u → Run cs (rD X.K) W σ Φ H Q (g x.cps.toList d) → r (.str x) [u] H Q) : tM1 r (tG X.K cs (rV X.K) W fa) (tG X.K cs (rV X.K) W fb) σ H Q := by
  obtain ⟨Φ, ρ, z, q⟩ := h
  refine tG.bind (rp := rV X.K) z q fun Φ1 H1 d v r1 _ rep q => ?_
  split at q
  next s =>
    obtain ⟨x, rfl, rfl⟩ := RepV.str_inv rep
    exact ⟨⟨x, rfl⟩, tG.bind (rp := rV X.K) r1 q fun Φ2 H2 d2 u r2 x2 rep2 q => c Φ2 H2 x u d2 r2.sub rep2 q⟩
  next => exact q.elim
theorem sd_join {apos : Pos} (ho : SV X cs W o fa) (ha : SV X cs W e fb) (hs : starEach [e] X.env = [(false, eval e X.env)] := by rfl) (hbase : attributeBase o "join" X.env (eval o X.env) = eval o X.env := by rfl) (hline : (apos.endLine == pos.line) = true := by rfl) :
    SD X cs W (.Call (.Attribute o "join" apos) [e] [] pos) (eM1 gJoin fa fb) := peImp (pe_join ho ha hs hbase hline) fun σ H Q h => runM1 h fun Φ H x u d m r q => by
  unfold gJoin at q
  obtain ⟨ds, hd, q⟩ := oR_bind (P := Run cs (rD X.K) W σ Φ H Q) q id
  obtain ⟨ss, hs, q⟩ := oR_bind (P := Run cs (rD X.K) W σ Φ H Q) q id
  obtain ⟨p, vs, rfl, h1, h2⟩ := r.items m hd
  obtain ⟨xs, rfl, hx⟩ := h2.strs hs
  split at q
  next hl =>
    refine ⟨x, p, xs, rfl, rfl, h1, ?_, q.ok m (.str _ _ ?_)⟩
    · have e1 : (xs.map (·.length)).sum + xs.length * x.length ≤ LIM := by
        have e2 : xs.map (·.length) = ss.map (·.length) := by
          rw [← hx, List.map_map]
          exact List.map_congr_left fun y _ => len_toL y
        have e3 : xs.length = ss.length := by rw [← hx, List.length_map]
        rw [e2, e3, len_toL]
        exact hl
      exact Nat.le_trans e1 (by decide)
    · rw [← hx, TL.join_eq]
      exact TL.tl_join x xs
  next => exact q.elim
end

/-! ### what is walked -/
structure WalksF (K : PySem.W.Frag) (J : It) (ds : List D) (Φ0 : Hp) : Prop where
  go : ∀ (Φ H : Hp) (i : Nat), Same Φ0 Φ → Same Φ H → i < ds.length → J.go i H
  stop : ∀ (Φ H : Hp) (i : Nat), Same Φ0 Φ → Same Φ H → ds.length ≤ i → J.stop i H
  yld : ∀ (Φ H : Hp) (i : Nat) (x : V) (H' : Hp) (d : D), Same Φ0 Φ → Same Φ H → ds[i]? = some d → J.yld i H x H' → ∃ Φ', Ext Φ H Φ' H' ∧ RepD K Φ' d x
structure WalksE (K : PySem.W.Frag) (J : It) (ds : List D) (Φ0 H0 : Hp) : Prop where
  go : ∀ (Φ H : Hp) (i : Nat), Ext Φ0 H0 Φ H → i < ds.length → J.go i H
  stop : ∀ (Φ H : Hp) (i : Nat), Ext Φ0 H0 Φ H → ds.length ≤ i → J.stop i H
  yld : ∀ (Φ H : Hp) (i : Nat) (x : V) (H' : Hp) (d : D), Ext Φ0 H0 Φ H → ds[i]? = some d → J.yld i H x H' → ∃ Φ', Ext Φ H Φ' H' ∧ RepD K Φ' d x
theorem WalksF.e {K : PySem.W.Frag} {J : It} {ds : List D} {Φ0 H0 : Hp} (w : WalksF K J ds Φ0) : WalksE K J ds Φ0 H0 :=
  ⟨fun Φ H i x => w.go Φ H i x.mono x.sub, fun Φ H i x => w.stop Φ H i x.mono x.sub, fun Φ H i x H' d e => w.yld Φ H i x H' d e.mono e.sub⟩
def rIF (K : PySem.W.Frag) : Rp (List D) It := ⟨fun Φ _ ds J => WalksF K J ds Φ, fun w x => ⟨fun Φ H i m => w.go Φ H i (x.mono.trans m), fun Φ H i m => w.stop Φ H i (x.mono.trans m), fun Φ H i y H' d m => w.yld Φ H i y H' d (x.mono.trans m)⟩⟩
def rIE (K : PySem.W.Frag) : Rp (List D) It := ⟨fun Φ H ds J => WalksE K J ds Φ H, fun w x => ⟨fun Φ H i m => w.go Φ H i (x.trans m), fun Φ H i m => w.stop Φ H i (x.trans m), fun Φ H i y H' d m => w.yld Φ H i y H' d (x.trans m)⟩⟩
def SIF (X : Cx) (cs : Nat → Addr) (W : WX) (tg e : Expr) (f : Ev (List D)) : Prop := PI X tg e (tG X.K cs (rIF X.K) W f)
def SIE (X : Cx) (cs : Nat → Addr) (W : WX) (tg e : Expr) (f : Ev (List D)) : Prop := PI X tg e (tG X.K cs (rIE X.K) W f)
theorem piImp {X : Cx} {tg e : Expr} {t t' : TI} (h : PI X tg e t) (i : ∀ σ H Q, t' σ H Q → t σ H Q) : PI X tg e t' := ⟨fun pins s σ H Q I hw => h.run pins s σ H Q I (i σ H Q hw)⟩
theorem piOr {X : Cx} {tg e : Expr} {t t' : TI} (h : PI X tg e t) (h' : PI X tg e t') : PI X tg e (fun σ H R => t σ H R ∨ t' σ H R) := ⟨fun pins s σ H Q I hw => by
  rcases hw with hw | hw
  · exact h.run pins s σ H Q I hw
  · exact h'.run pins s σ H Q I hw⟩
theorem SIF.e {X : Cx} {cs : Nat → Addr} {W : WX} {tg e : Expr} {f : Ev (List D)} (h : SIF X cs W tg e f) : SIE X cs W tg e f := piImp h fun σ H Q ⟨Φ, ρ, r, q⟩ => by
  refine ⟨Φ, ρ, r, ?_⟩
  cases e : f ρ with
  | ok a => rw [e] at q; exact fun Φ' H' b x y => q Φ' H' b x (WalksF.e y)
  | exc z => rw [e] at q; exact q
  | stuck => rw [e] at q; exact q
section
variable {X : Cx} {cs : Nat → Addr} {W : WX} {a b c e tg : Expr} {fa fb fc : Ev D} {pos p : Pos} {es : List Expr} {fs : Ev (List D)}
theorem walk_lst {K : PySem.W.Frag} {Φ H : Hp} {p : Addr} {vs : List V} {ds : List D} (h : H p = some (.lst vs)) (r : RepDs K Φ ds vs) : WalksE K (Itl K p) ds Φ H := by
  refine ⟨fun Φ1 H1 i x hi => ?_, fun Φ1 H1 i x hi => ?_, fun Φ1 H1 i v H' d x hd y => ?_⟩
  · have hv : i < vs.length := by rw [← r.length]; exact hi
    exact ⟨vs, vs[i], SqL.of (x.heap _ _ h), by simp [hv]⟩
  · exact ⟨vs, SqL.of (x.heap _ _ h), by rw [← r.length]; exact hi⟩
  · obtain ⟨rfl, y⟩ := y
    obtain ⟨u, h1, h2⟩ := r.get hd
    have h3 := y vs (SqL.of (x.heap _ _ h))
    rw [h1] at h3
    cases h3
    exact ⟨Φ1, .refl x.sub, h2.mono x.mono⟩
theorem walk_lstF {K : PySem.W.Frag} {Φ : Hp} {p : Addr} {vs : List V} {ds : List D} (h : SqL K Φ p vs) (r : RepDs K Φ ds vs) : WalksF K (Itl K p) ds Φ := by
  refine ⟨fun Φ1 H1 i m s hi => ?_, fun Φ1 H1 i m s hi => ?_, fun Φ1 H1 i v H' d m s hd y => ?_⟩
  · have hv : i < vs.length := by rw [← r.length]; exact hi
    exact ⟨vs, vs[i], (m.trans s).seq h, by simp [hv]⟩
  · exact ⟨vs, (m.trans s).seq h, by rw [← r.length]; exact hi⟩
  · obtain ⟨rfl, y⟩ := y
    obtain ⟨u, h1, h2⟩ := r.get hd
    have h3 := y vs ((m.trans s).seq h)
    rw [h1] at h3
    cases h3
    exact ⟨Φ1, .refl s, h2.mono m⟩
theorem walk_tup {K : PySem.W.Frag} {Φ : Hp} {p : Addr} {vs : List V} {ds : List D} (h : SqT K Φ p vs) (r : RepDs K Φ ds vs) : WalksF K (Itt K p) ds Φ := by
  refine ⟨fun Φ1 H1 i m s hi => ?_, fun Φ1 H1 i m s hi => ?_, fun Φ1 H1 i v H' d m s hd y => ?_⟩
  · have hv : i < vs.length := by rw [← r.length]; exact hi
    exact ⟨vs, vs[i], sqT_mono (m.trans s) h, by simp [hv]⟩
  · exact ⟨vs, sqT_mono (m.trans s) h, by rw [← r.length]; exact hi⟩
  · obtain ⟨rfl, y⟩ := y
    obtain ⟨u, h1, h2⟩ := r.get hd
    have h3 := y vs (sqT_mono (m.trans s) h)
    rw [h1] at h3
    cases h3
    exact ⟨Φ1, .refl s, h2.mono m⟩
def iSeq (fa : Ev D) : Ev (List D) := fun ρ => (fa ρ).bind fun d => oR d.items
theorem sif_seq (h : SD X cs W e fa) : SIF X cs W tg e (iSeq fa) := piImp (piOr (pi_list h) (pi_tup h)) fun σ H Q ⟨Φ, ρ, r, q⟩ => by
  unfold iSeq at q
  cases ed : fa ρ with
  | stuck => rw [ed] at q; exact q.elim
  | exc x => exact .inl (tG.bind' (rp := rD X.K) r q fun Φ1 H1 d' v e1 r1 x rep q => by rw [ed] at e1; cases e1)
  | ok d =>
    cases d with
    | tup ds =>
      refine .inr (tG.bind' (rp := rD X.K) r q fun Φ1 H1 d' v e1 r1 x rep q => ?_)
      rw [ed] at e1; cases e1
      cases rep with
      | tup h1 h2 => exact ⟨_, rfl, ⟨_, sqT_mono r1.sub h1⟩, q.ok r1.sub (walk_tup h1 h2)⟩
    | lst ds =>
      refine .inl (tG.bind' (rp := rD X.K) r q fun Φ1 H1 d' v e1 r1 x rep q => ?_)
      rw [ed] at e1; cases e1
      cases rep with
      | lst h1 h2 => exact ⟨_, rfl, ⟨_, SqL.of (r1.sub _ _ h1)⟩, q.ok r1.sub (walk_lstF (SqL.of h1) h2)⟩
    | scr ns =>
      refine .inl (tG.bind' (rp := rD X.K) r q fun Φ1 H1 d' v e1 r1 x rep q => ?_)
      rw [ed] at e1; cases e1
      cases rep with
      | scr h1 => exact ⟨_, rfl, ⟨_, r1.sub.seq h1⟩, q.ok r1.sub (walk_lstF h1 (RepDs.ints _))⟩
    | _ => rw [ed] at q; exact q.elim
theorem sie_seq (h : SV X cs W e fa) : SIE X cs W tg e (iSeq fa) := piImp (piOr (pi_list h) (pi_tup h)) fun σ H Q ⟨Φ, ρ, r, q⟩ => by
  unfold iSeq at q
  cases ed : fa ρ with
  | stuck => rw [ed] at q; exact q.elim
  | exc x => exact .inl (tG.bind' (rp := rV X.K) r q fun Φ1 H1 d' v e1 r1 x rep q => by rw [ed] at e1; cases e1)
  | ok d =>
    cases d with
    | tup ds =>
      refine .inr (tG.bind' (rp := rV X.K) r q fun Φ1 H1 d' v e1 r1 x rep q => ?_)
      rw [ed] at e1; cases e1
      rcases rep with rep | ⟨_, _, rep⟩
      · cases rep with
        | tup h1 h2 => exact ⟨_, rfl, ⟨_, sqT_mono r1.sub h1⟩, q.ok r1.sub (walk_tup h1 h2).e⟩
      · cases rep
    | lst ds =>
      refine .inl (tG.bind' (rp := rV X.K) r q fun Φ1 H1 d' v e1 r1 x rep q => ?_)
      rw [ed] at e1; cases e1
      obtain ⟨a, vs, rfl, h1, h2⟩ := RepV.lst_inv rep r1.sub
      exact ⟨_, rfl, ⟨_, SqL.of h1⟩, q.ok r1.sub (walk_lst h1 h2)⟩
    | scr ns =>
      refine .inl (tG.bind' (rp := rV X.K) r q fun Φ1 H1 d' v e1 r1 x rep q => ?_)
      rw [ed] at e1; cases e1
      rcases rep with rep | ⟨_, _, rep⟩
      · cases rep with
        | scr h1 => exact ⟨_, rfl, ⟨_, r1.sub.seq h1⟩, q.ok r1.sub (walk_lstF h1 (RepDs.ints _)).e⟩
      · cases rep
    | _ => rw [ed] at q; exact q.elim
def rangeD (a b : Int) : List D := (List.range (b - a).toNat).map fun i => D.int (a + (i : Nat))
theorem walk_rng {K : PySem.W.Frag} {Φ : Hp} (a b : Int) : WalksF K (Itr a (b - a).toNat) (rangeD a b) Φ := by
  have hl : (rangeD a b).length = (b - a).toNat := by simp [rangeD]
  refine ⟨fun Φ1 H1 i m s hi => ?_, fun Φ1 H1 i m s hi => ?_, fun Φ1 H1 i v H' d m s hd y => ?_⟩
  · rw [hl] at hi; exact hi
  · rw [hl] at hi; exact hi
  · obtain ⟨rfl, rfl⟩ := y
    have hi : i < (b - a).toNat := by rw [← hl]; exact (List.getElem?_eq_some_iff.mp hd).1
    have e : d = .int (a + (i : Nat)) := by
      unfold rangeD at hd
      rw [List.getElem?_map, List.getElem?_range hi] at hd
      exact (Option.some.inj hd).symm
    subst e
    exact ⟨Φ1, .refl s, .int _⟩
def smallR (i : Int) : Prop := -(2 ^ 62) ≤ i ∧ i < 2 ^ 62
instance (i : Int) : Decidable (smallR i) := inferInstanceAs (Decidable (_ ∧ _))
def gRng1 : List D → R (List D)
  | [.int n] => if smallR n then .ok (rangeD 0 n) else .stuck
  | _ => .stuck
def gRng2 : List D → R (List D)
  | [.int a, .int b] => if smallR a ∧ smallR b then .ok (rangeD a b) else .stuck
  | _ => .stuck
def iRg (g : List D → R (List D)) (fs : Ev (List D)) : Ev (List D) := fun ρ => (fs ρ).bind g
theorem sif_range1 (hg : Gl X "range") (hm : X.mg "range" = none) (ha : SA X cs W [a] fs) (hs : starEach [a] X.env = [(false, eval a X.env)] := by rfl) : SIF X cs W tg (.Call (.Name "range" p) [a] [] pos) (iRg gRng1 fs) :=
  piImp (pi_range1 hg hm ha hs) fun σ H Q ⟨Φ, ρ, r, q⟩ => tG.bind (rp := rVs X.K) r q fun Φ1 H1 ds vs r1 _ rep q => by
    unfold gRng1 at q
    split at q
    · obtain ⟨v, rfl, h⟩ := RepVs.one rep
      cases h.int_inv
      split at q
      next h =>
        refine ⟨_, rfl, h.1, h.2, q.ok r1.sub ?_⟩
        have w := walk_rng (K := X.K) (Φ := Φ1) 0 (by assumption)
        rwa [Int.sub_zero] at w
      next => exact q.elim
    · exact q.elim
theorem sif_range2 (hg : Gl X "range") (hm : X.mg "range" = none) (ha : SA X cs W [a, b] fs) (hs : starEach [a, b] X.env = [(false, eval a X.env), (false, eval b X.env)] := by rfl) (hs2 : starEach [b] X.env = [(false, eval b X.env)] := by rfl) : SIF X cs W tg (.Call (.Name "range" p) [a, b] [] pos) (iRg gRng2 fs) :=
  piImp (pi_range2 hg hm ha hs hs2) fun σ H Q ⟨Φ, ρ, r, q⟩ => tG.bind (rp := rVs X.K) r q fun Φ1 H1 ds vs r1 _ rep q => by
    unfold gRng2 at q
    split at q
    · obtain ⟨v, u, rfl, h, h2⟩ := RepVs.two rep
      cases h.int_inv; cases h2.int_inv
      split at q
      next h => exact ⟨_, _, rfl, ⟨h.1.1, h.1.2, h.2.1, h.2.2⟩, q.ok r1.sub (walk_rng _ _)⟩
      next => exact q.elim
    · exact q.elim
end

/-! ### targets -/
def setMany {α : Type} (f : V → α) (l : List α) : List (Nat × V) → List α
  | [] => l
  | (i, v) :: r => setMany f (l.set i (f v)) r
def setS (ρ : List Sl) : List (Nat × D) → List Sl
  | [] => ρ
  | (i, d) :: r => setS (ρ.set i (.val d)) r
inductive RepAs (K : PySem.W.Frag) (Φ : Hp) : List (Nat × D) → List (Nat × V) → Prop
  | nil : RepAs K Φ [] []
  | cons {i : Nat} {d : D} {v : V} {ds : List (Nat × D)} {vs : List (Nat × V)} : RepD K Φ d v → RepAs K Φ ds vs → RepAs K Φ ((i, d) :: ds) ((i, v) :: vs)
abbrev setV (σ : L2.St) (l : List (Nat × V)) : L2.St := setMany (fun v => some v) σ l
theorem Rel.set {K : PySem.W.Frag} {Φ H : Hp} {σ : L2.St} {ρ : List Sl} {i : Nat} {d : D} {v : V} (r : Rel K Φ H σ ρ) (h : RepD K Φ d v) : Rel K Φ H (σ.set i (some v)) (ρ.set i (.val d)) := by
  have ow : ∀ j a, OwnAt (σ.set i (some v)) (ρ.set i (.val d)) j a → OwnAt σ ρ j a := fun j a ⟨h1, e, h2⟩ => by
    by_cases hj : i = j
    · subst hj
      by_cases hl : i < ρ.length
      · rw [List.getElem?_set_self hl] at h2; cases h2
      · rw [List.getElem?_eq_none (by simpa using hl)] at h2; cases h2
    · rw [List.getElem?_set_ne hj] at h1 h2
      exact ⟨h1, e, h2⟩
  refine ⟨r.sub, by rw [List.length_set, List.length_set, r.len], fun j e hj => ?_, fun j e hj => ?_, fun j k a h1 h2 => r.sep j k a (ow _ _ h1) (ow _ _ h2)⟩
  · by_cases z : i = j
    · subst z
      by_cases hl : i < ρ.length
      · rw [List.getElem?_set_self hl] at hj
        cases hj
        exact ⟨v, List.getElem?_set_self (by rw [r.len]; exact hl), h⟩
      · rw [List.getElem?_eq_none (by simpa using hl)] at hj; cases hj
    · rw [List.getElem?_set_ne z] at hj ⊢
      exact r.val j e hj
  · by_cases z : i = j
    · subst z
      by_cases hl : i < ρ.length
      · rw [List.getElem?_set_self hl] at hj; cases hj
      · rw [List.getElem?_eq_none (by simpa using hl)] at hj; cases hj
    · rw [List.getElem?_set_ne z] at hj ⊢
      exact r.own j e hj
theorem Rel.setMany {K : PySem.W.Frag} {Φ H : Hp} : ∀ {as : List (Nat × D)} {ws : List (Nat × V)} {σ : L2.St} {ρ : List Sl}, Rel K Φ H σ ρ → RepAs K Φ as ws → Rel K Φ H (setV σ ws) (setS ρ as)
  | _, _, _, _, r, .nil => r
  | (i, d) :: as, (_, v) :: ws, σ, ρ, r, .cons h t => Rel.setMany (σ := σ.set i (some v)) (ρ := ρ.set i (.val d)) (r.set h) t
/-- a target: what it does with a value -/
structure Tgt (X : Cx) (tg : Expr) (g : TG) (ft : D → R (List (Nat × D))) : Prop where
  pg : PG X tg g
  run : ∀ (Φ H : Hp) (σ : L2.St) (d : D) (v : V) (as : List (Nat × D)) (Q : L2.St → Hp → Prop), Same Φ H → RepD X.K Φ d v → ft d = .ok as → (∀ ws, RepAs X.K Φ as ws → Q (setV σ ws) H) → g v σ H Q
def ftOne (i : Nat) (d : D) : R (List (Nat × D)) := .ok [(i, d)]
def ftTup (is : List Nat) : D → R (List (Nat × D))
  | .tup ds => if ds.length = is.length then .ok (is.zip ds) else .stuck
  | _ => .stuck
section
variable {X : Cx} {tg : Expr} {pos : Pos} {es : List Expr}
theorem tg_name (i : Nat) {x : Str} (hN : X.N.Nodup) (hi : X.N[i]? = some x := by rfl) (hx : Loc X.env.scope x := by first | exact Or.inl rfl | exact Or.inr rfl) (hf : X.fn x = true ∨ X.env.scope.names.lookup x = some .local := by first | exact .inl rfl | exact .inr rfl | assumption) : Tgt X (.Name x pos) (gName i) (ftOne i) :=
  ⟨pg_name hN hi hx hf, fun Φ H σ d v as Q m r e k => by
    cases e
    exact k [(i, v)] (.cons r .nil)⟩
structure Tgs (X : Cx) (es : List Expr) (gs : TGs) (is : List Nat) : Prop where
  pg : PGs X es gs
  run : ∀ (vs : List V) (σ : L2.St) (H : Hp) (Q : L2.St → Hp → Prop), vs.length = is.length → Q (setV σ (is.zip vs)) H → gs vs σ H Q
  len : es.length = is.length
theorem tgs_nil : Tgs X [] gNil [] := ⟨pgs_nil, fun vs σ H Q h q => ⟨List.eq_nil_of_length_eq_zero h, q⟩, rfl⟩
theorem tgs_cons (i : Nat) {x : Str} {gs : TGs} {is : List Nat} (hN : X.N.Nodup) (t : Tgs X es gs is) (hi : X.N[i]? = some x := by rfl) (hx : Loc X.env.scope x := by first | exact Or.inl rfl | exact Or.inr rfl) (hf : X.fn x = true ∨ X.env.scope.names.lookup x = some .local := by first | exact .inl rfl | exact .inr rfl | assumption) : Tgs X (.Name x pos :: es) (gCons (gName i) gs) (i :: is) :=
  ⟨pgs_cons (pg_name hN hi hx hf) t.pg, fun vs σ H Q h q => by
    cases vs with
    | nil => cases h
    | cons v vs => exact ⟨v, vs, rfl, t.run vs _ H Q (by simpa using h) q⟩, by simp [t.len]⟩
theorem repAs_zip {K : PySem.W.Frag} {Φ : Hp} : ∀ {is : List Nat} {ds : List D} {vs : List V}, RepDs K Φ ds vs → RepAs K Φ (is.zip ds) (is.zip vs)
  | [], _, _, _ => .nil
  | _ :: _, _, _, .nil => .nil
  | i :: is, _, _, .cons h r => .cons h (repAs_zip r)
theorem tg_tup {k : Nat} {gs : TGs} {is : List Nat} (hc : X.calm = true) (t : Tgs X es gs is) (hn : (assignEach es X.env).length = is.length := by rfl) (hst : (assignEach es X.env).findIdx? (·.1) = none := by rfl) : Tgt X (.Tuple es k pos) (gTup X.K is.length gs) (ftTup is) :=
  ⟨pg_tup hc t.pg hn hst, fun Φ H σ d v as Q m r e kk => by
    unfold ftTup at e
    split at e
    · split at e
      next hl =>
        cases e
        cases r with
        | tup h1 h2 => exact ⟨_, _, rfl, sqT_mono m h1, by rw [← hl, h2.length], t.run _ _ _ _ (by rw [← h2.length, hl]) (kk _ (repAs_zip h2))⟩
      next => cases e
    · cases e⟩
end

/-! ### comprehensions -/
def noX {α : Type} : R α → R α
  | .ok a => .ok a
  | _ => .stuck
def wipeS (ρ : List Sl) : List Nat → List Sl
  | [] => ρ
  | v :: vs => (wipeS ρ vs).set v .emp
theorem Rel.drop {K : PySem.W.Frag} {Φ H : Hp} {σ : L2.St} {ρ : List Sl} (r : Rel K Φ H σ ρ) (i : Nat) : Rel K Φ H (σ.set i none) (ρ.set i .emp) := by
  have ow : ∀ j a, OwnAt (σ.set i none) (ρ.set i .emp) j a → OwnAt σ ρ j a := fun j a ⟨h1, e, h2⟩ => by
    by_cases hj : i = j
    · subst hj
      by_cases hl : i < ρ.length
      · rw [List.getElem?_set_self hl] at h2; cases h2
      · rw [List.getElem?_eq_none (by simpa using hl)] at h2; cases h2
    · rw [List.getElem?_set_ne hj] at h1 h2
      exact ⟨h1, e, h2⟩
  refine ⟨r.sub, by rw [List.length_set, List.length_set, r.len], fun j e hj => ?_, fun j e hj => ?_, fun j k a h1 h2 => r.sep j k a (ow _ _ h1) (ow _ _ h2)⟩
  all_goals
    by_cases z : i = j
    · subst z
      by_cases hl : i < ρ.length
      · rw [List.getElem?_set_self hl] at hj; cases hj
      · rw [List.getElem?_eq_none (by simpa using hl)] at hj; cases hj
    · rw [List.getElem?_set_ne z] at hj ⊢
      first | exact r.val j e hj | exact r.own j e hj
theorem Rel.wipe {K : PySem.W.Frag} {Φ H : Hp} {σ : L2.St} {ρ : List Sl} (r : Rel K Φ H σ ρ) : ∀ vs : List Nat, Rel K Φ H (L2.wipe σ vs) (wipeS ρ vs)
  | [] => r
  | v :: vs => (Rel.wipe r vs).drop v
theorem wipe_set {σ : L2.St} {i : Nat} {x : Option V} : ∀ {vs : List Nat}, i ∈ vs → L2.wipe (σ.set i x) vs = L2.wipe σ vs
  | v :: vs, h => by
    unfold L2.wipe
    rcases List.mem_cons.mp h with h | h
    · subst h
      by_cases hm : i ∈ vs
      · rw [wipe_set hm]
      · have aux : ∀ (us : List Nat) (σ : L2.St), (L2.wipe (σ.set i x) us).set i none = (L2.wipe σ us).set i none := fun us => by
          induction us with
          | nil => intro σ; unfold L2.wipe; rw [List.set_set]
          | cons u us ih =>
            intro σ
            unfold L2.wipe
            by_cases hu : u = i
            · subst hu; rw [List.set_set, List.set_set]; exact ih σ
            · rw [List.set_comm _ _ hu, ih σ, List.set_comm _ _ (Ne.symm hu)]
        exact aux vs σ
    · rw [wipe_set h]
theorem wipe_wipe {σ : L2.St} : ∀ (us vs : List Nat), (∀ i ∈ us, i ∈ vs) → L2.wipe (L2.wipe σ us) vs = L2.wipe σ vs
  | [], _, _ => rfl
  | u :: us, vs, h => by
    show L2.wipe ((L2.wipe σ us).set u none) vs = _
    rw [wipe_set (h u (by simp)), wipe_wipe us vs fun i hi => h i (by simp [hi])]
theorem wipe_setV {vs : List Nat} : ∀ (ws : List (Nat × V)) (σ : L2.St), (∀ p ∈ ws, p.1 ∈ vs) → L2.wipe (setV σ ws) vs = L2.wipe σ vs
  | [], _, _ => rfl
  | (i, v) :: ws, σ, h => by
    show L2.wipe (setV (σ.set i (some v)) ws) vs = _
    rw [wipe_setV ws _ fun p hp => h p (by simp [hp]), wipe_set (h (i, v) (by simp))]
theorem RepAs.fst {K : PySem.W.Frag} {Φ : Hp} {vs : List Nat} : ∀ {as : List (Nat × D)} {ws : List (Nat × V)}, RepAs K Φ as ws → (∀ p ∈ as, p.1 ∈ vs) → ∀ p ∈ ws, p.1 ∈ vs
  | _, _, .nil, _ => fun p hp => by cases hp
  | (i, d) :: as, (_, v) :: ws, .cons _ t, h => fun p hp => by
    rcases List.mem_cons.mp hp with e | hp
    · subst e; exact h (i, d) List.mem_cons_self
    · exact RepAs.fst t (fun q hq => h q (by simp [hq])) p hp
/-- the turns of a comprehension -/
def lcGo (ρ : List Sl) (ft : D → R (List (Nat × D))) (fc : Ev Bool) (fe : Ev D) : List D → R (List D)
  | [] => .ok []
  | d :: ds => (ft d).bind fun as => (noX (fc (setS ρ as))).bind fun k => if k = true then (noX (fe (setS ρ as))).bind fun y => (lcGo ρ ft fc fe ds).bind fun ys => .ok (y :: ys) else lcGo ρ ft fc fe ds
def eLc (vs : List Nat) (fi : Ev (List D)) (ft : D → R (List (Nat × D))) (fc : Ev Bool) (fe : Ev D) : Ev D := fun ρ => (fi ρ).bind fun ds => if ds.length ≤ LIM then (noX (lcGo (wipeS ρ vs) ft fc fe ds)).bind fun ys => .ok (.lst ys) else .stuck
abbrev W0 : WX := fun _ _ _ _ => False
abbrev fcYes : Ev Bool := fun _ => .ok true
def STs (X : Cx) (cs : Nat → Addr) (W : WX) (ifs : List Expr) (f : Ev Bool) : Prop := PTs X ifs (tG X.K cs rB W f)
theorem ptsImp {X : Cx} {e : List Expr} {t t' : TT} (h : PTs X e t) (i : ∀ σ H Q, t' σ H Q → t σ H Q) : PTs X e t' := ⟨fun pins s σ H Q I hw => h.run pins s σ H Q I (i σ H Q hw)⟩
theorem sts_nil {X : Cx} {cs : Nat → Addr} {W : WX} : STs X cs W [] fcYes := ptsImp pts_nil fun σ H Q ⟨Φ, ρ, r, q⟩ => q.ok r.sub rfl
theorem sts_one {X : Cx} {cs : Nat → Addr} {W : WX} {e : Expr} {f : Ev Bool} (h : ST X cs W e f) : STs X cs W [e] f := pts_one h
theorem R.bind_ok {α β : Type} {r : R α} {k : α → R β} {b : β} (h : r.bind k = .ok b) : ∃ a, r = .ok a ∧ k a = .ok b := by
  cases r with
  | ok a => exact ⟨a, rfl, h⟩
  | exc x => cases h
  | stuck => cases h
theorem noX_ok {α : Type} {r : R α} {a : α} (h : noX r = .ok a) : r = .ok a := by
  cases r with
  | ok b => exact h
  | exc x => cases h
  | stuck => cases h
theorem Run.of_ok {α β : Type} {cs : Nat → Addr} {rp : Rp α β} {W : WX} {σ : L2.St} {Φ H : Hp} {Q : β → Hp → Prop} {r : R α} {a : α} (e : r = .ok a) (h : ∀ Φ' H' b, Ext Φ H Φ' H' → rp.rep Φ' H' a b → Q b H') : Run cs rp W σ Φ H Q r := by
  rw [e]; exact h
section
variable {X : Cx} {cs : Nat → Addr} {W : WX}
/-- the reading of a comprehension, from the reading that it makes a new list -/
theorem lc_run {g : TG} {ft : D → R (List (Nat × D))} {fc : Ev Bool} {fe : Ev D} {fi : Ev (List D)} {vs : List Nat} {tg : Expr} {XB : Cx} (hK : XB.K = X.K) (hft : ∀ d as, ft d = .ok as → ∀ p ∈ as, p.1 ∈ vs) (hg : Tgt XB tg g ft)
    {σ : L2.St} {H : Hp} {Q : VK} (h : tN X.K cs W (eLc vs fi ft fc fe) σ H Q) : tLc (tG X.K cs (rIE X.K) W fi) g (tG X.K cs rB W0 fc) (tG X.K cs (rD X.K) W0 fe) vs σ H Q := by
  obtain ⟨Φ, ρ, r, q⟩ := h
  refine tG.bindN (rp := rIE X.K) r q fun Φ1 H1 ds J r1 _ wk q D hD => ?_
  by_cases hlim : ds.length ≤ LIM
  case neg => rw [if_neg hlim] at q; exact q.elim
  rw [if_pos hlim] at q
  cases eg : lcGo (wipeS ρ vs) ft fc fe ds with
  | exc z => rw [eg] at q; exact q.elim
  | stuck => rw [eg] at q; exact q.elim
  | ok out =>
  rw [eg] at q
  have q : RunN X.K cs W σ Φ1 H1 Q (.ok (.lst out)) := q
  refine ⟨fun i m H' => m = ds.length - i ∧ i ≤ ds.length ∧ ∃ Φ' acc accD rest, Ext Φ1 H1 Φ' H' ∧ H' D = some (.lst acc) ∧ Φ' D = none ∧ RepDs X.K Φ' accD acc ∧ acc.length ≤ i ∧ lcGo (wipeS ρ vs) ft fc fe (ds.drop i) = .ok rest ∧ out = accD ++ rest, ⟨ds.length, by simp, Nat.zero_le _, Φ1, [], [], out, Ext.alloc r1.sub hD, upd_same, ?_, .nil, Nat.le_refl _, by simpa using eg, rfl⟩, ?_⟩
  · cases z : Φ1 D with
    | none => rfl
    | some u => rw [r1.sub _ _ z] at hD; cases hD
  rintro i m H2 ⟨rfl, hi, Φ2, acc, accD, rest, x2, hD2, hΦ2, racc, hacc, hrest, hout⟩
  by_cases hlt : i < ds.length
  · refine .inr ⟨wk.go Φ2 H2 i x2 hlt, fun H' => ∃ Φ' acc accD rest, Ext Φ1 H1 Φ' H' ∧ H' D = some (.lst acc) ∧ Φ' D = none ∧ RepDs X.K Φ' accD acc ∧ acc.length ≤ i + 1 ∧ lcGo (wipeS ρ vs) ft fc fe (ds.drop (i + 1)) = .ok rest ∧ out = accD ++ rest, fun H' h => ⟨ds.length - (i + 1), by omega, rfl, hlt, h⟩, fun x H3 hy => ?_⟩
    have hds : ds[i]? = some ds[i] := by simp [hlt]
    obtain ⟨Φ3, x3, rx⟩ := wk.yld Φ2 H2 i x H3 _ x2 hds hy
    rw [List.drop_eq_getElem_cons hlt] at hrest
    unfold lcGo at hrest
    obtain ⟨as, has, hrest⟩ := R.bind_ok hrest
    obtain ⟨k, hk, hrest⟩ := R.bind_ok hrest
    have hk := noX_ok hk
    have keepD : ∀ {Φ' H'}, Ext Φ2 H2 Φ' H' → H' D = some (.lst acc) ∧ Φ' D = none := fun {Φ' H'} y => by
      refine ⟨y.heap _ _ hD2, ?_⟩
      cases z : Φ' D with
      | none => rfl
      | some u =>
        rcases y.new D u z with w | w
        · rw [hΦ2] at w; cases w
        · rw [hD2] at w; cases w
    refine hg.run Φ3 H3 (L2.wipe σ vs) ds[i] x as _ x3.sub (by rw [hK]; exact rx) has fun ws rws => ?_
    rw [hK] at rws
    refine ⟨?_, ?_⟩
    · rw [wipe_setV ws _ (RepAs.fst rws (hft _ _ has)), wipe_wipe _ _ fun i h => h]
    have r3 : Rel X.K Φ3 H3 (setV (L2.wipe σ vs) ws) (setS (wipeS ρ vs) as) := (((r1.ext x2).ext x3).wipe _).setMany rws
    refine ⟨Φ3, _, r3, Run.of_ok hk fun Φ4 H4 b x4 eb => ?_⟩
    cases eb
    cases k with
    | false =>
      rw [if_neg (by decide)] at hrest
      rw [if_neg (by decide)]
      obtain ⟨h1, h2⟩ := keepD (x3.trans x4)
      exact ⟨Φ4, acc, accD, rest, (x2.trans x3).trans x4, h1, h2, racc.mono (x3.trans x4).mono, by omega, hrest, hout⟩
    | true =>
      rw [if_pos rfl] at hrest
      rw [if_pos rfl]
      obtain ⟨y, hy2, hrest⟩ := R.bind_ok hrest
      obtain ⟨ys, hys, hrest⟩ := R.bind_ok hrest
      cases hrest
      refine ⟨Φ4, _, r3.ext x4, Run.of_ok (noX_ok hy2) fun Φ5 H5 v x5 rv => ?_⟩
      have x25 := (x3.trans x4).trans x5
      obtain ⟨h1, h2⟩ := keepD x25
      have hz : acc.length < LIM := by omega
      refine ⟨acc, h1, lim_lt (by omega), Φ5, acc ++ [v], accD ++ [y], ys, ?_, upd_same, h2, (racc.mono x25.mono).append (.cons rv .nil), by simp; omega, hys, by rw [hout]; simp⟩
      have x15 := x2.trans x25
      refine ⟨x15.mono, fun b u e => ?_, fun b u e => ?_, x15.new⟩
      · rw [upd_ne (ne_of_none e hD)]; exact x15.heap b u e
      · have hb : b ≠ D := fun z => by subst z; rw [h2] at e; cases e
        rw [upd_ne hb]; exact x15.sub b u e
  · refine .inl ⟨wk.stop Φ2 H2 i x2 (by omega), ?_⟩
    have e0 : ds.drop i = [] := List.drop_eq_nil_of_le (by omega)
    rw [e0] at hrest
    cases hrest
    rw [List.append_nil] at hout
    subst hout
    exact q Φ2 H2 D x2 hD hΦ2 (RepOwn.lst hD2 racc)
theorem sn_lc {elt tg iter : Expr} {ifs : List Expr} {scope : Scope} {vs : List Nat} (own : List (Str × Nat)) (hv : own.map (·.2) = vs) {pos : Pos} {fi : Ev (List D)} {g : TG} {ft : D → R (List (Nat × D))} {fc : Ev Bool} {fe : Ev D} (hc : X.calm = true) (hN : X.N.Nodup) (hi : SIE X cs W tg iter fi) (ok : BlkOk X.N X.env.scope scope own)
    (hft : ∀ d as, ft d = .ok as → ∀ p ∈ as, p.1 ∈ vs)
    (hg : ∀ (s : Shared) (H : Hp) (C : Addr) (cl : List (Str × Addr)) (fp : List Addr), Tgt (X.blk s H scope (compEnvC scope cl C X.env) fp) tg g ft)
    (ht : ∀ (s : Shared) (H : Hp) (C : Addr) (cl : List (Str × Addr)) (fp : List Addr), STs (X.blk s H scope (compEnvC scope cl C X.env) fp) cs W0 ifs fc)
    (he : ∀ (s : Shared) (H : Hp) (C : Addr) (cl : List (Str × Addr)) (fp : List Addr), SD (X.blk s H scope (compEnvC scope cl C X.env) fp) cs W0 elt fe)
    (hs : ∀ x, foldedSetIterable iter X.env x = pure x := by intro _; rfl) :
    SN X cs W (.ListComp elt [⟨tg, iter, ifs, 0⟩] scope pos) (eLc vs fi ft fc fe) := by
  subst hv
  exact peImp (pe_lc (tt := tG X.K cs rB W0 fc) (te := tG X.K cs (rD X.K) W0 fe) hc hN hi ok (fun s H C cl fp => (hg s H C cl fp).pg) ht he hs) fun σ H Q h => lc_run (XB := X.blk X.s_0 H scope (compEnvC scope [] 0 X.env) []) rfl hft (hg X.s_0 H 0 [] []) h
end
end PL

set_option Elab.async false
set_option linter.all false
set_option maxRecDepth 100000
/-! PL4: statements -/
namespace PL
set_option autoImplicit false
open PySem PySem.Spec PyProof.Rows L2

section
variable {X : Cx} {cs : Nat → Addr} {W : WX} {a b c e o : Expr} {fa fb fc : Ev D} {pos p : Pos} {es : List Expr} {fs : Ev (List D)}
def CallN (X : Cx) (cs : Nat → Addr) (W : WX) (r : List V → Hp → VK → Prop) (g : List D → R D) : Prop := ∀ (σ : L2.St) (Φ H : Hp) (Q : VK) (vs : List V) (ds : List D), Same Φ H → RepVs X.K Φ H ds vs → RunN X.K cs W σ Φ H Q (g ds) → r vs H Q
theorem runAN {r : List V → Hp → VK → Prop} {g : List D → R D} (hg : CallN X cs W r g) {σ : L2.St} {H : Hp} {Q : VK} (h : tN X.K cs W (eCall g fs) σ H Q) : tG X.K cs (rVs X.K) W fs σ H fun vs H1 => r vs H1 Q := by
  obtain ⟨Φ, ρ, z, q⟩ := h
  exact tG.bindN (rp := rVs X.K) z q fun Φ1 H1 ds vs r1 _ rep q => hg σ Φ1 H1 Q vs ds r1.sub rep q
theorem none_of {Φ H : Hp} (m : Same Φ H) {p : Addr} (hp : H p = none) : Φ p = none := m.free hp
theorem RunN.new {σ : L2.St} {Φ H : Hp} {Q : VK} {d : D} (h : RunN X.K cs W σ Φ H Q (.ok d)) (m : Same Φ H) {p : Addr} {u : HO} (hp : H p = none) (r : RepOwn X.K Φ (upd H p u) d p) : Q (.ref p) (upd H p u) :=
  h Φ _ p (Ext.alloc m hp) hp (none_of m hp) r
theorem sn_callT {r : List V → Hp → VK → Prop} {g : List D → R D} {id : String} {x : Str} (hc : CallR X (.type id) r) (hd : CallN X cs W r g) (hv : bootBuiltins x = some (.type id)) (hg : Gl X x) (hm : X.mg x = none) (ha : SA X cs W (e :: es) fs) (hn : x ≠ "__name__" := by decide) (hdb : (x == ("__debug__" : Str)) = false := by decide)
    (he : starEach (e :: es) X.env = (false, eval e X.env) :: starEach es X.env := by rfl) (hpl : (backTo pos (starEach es X.env)).any (·.1) = false := by rfl) : SN X cs W (.Call (.Name x p) (e :: es) [] pos) (eCall g fs) :=
  peImp (pe_callTy hc hg hm hv ha hn hdb he hpl) fun σ H Q h => runAN hd h
theorem sn_listOf (hg : Gl X "list") (hm : X.mg "list" = none) (ha : SA X cs W (e :: es) fs) 
    (he : starEach (e :: es) X.env = (false, eval e X.env) :: starEach es X.env := by rfl) (hpl : (backTo pos (starEach es X.env)).any (·.1) = false := by rfl) : SN X cs W (.Call (.Name "list" p) (e :: es) [] pos) (eCall gListOf fs) :=
  sn_callT call_list_of (fun σ Φ H Q vs ds m r q => by
    unfold gListOf at q
    split at q
    · obtain ⟨v, rfl, h⟩ := r.one
      obtain ⟨p, vs, rfl, h1, h2⟩ := h.tup_inv m
      exact ⟨_, vs, rfl, .inr h1, fun l hl => q.new m hl (RepOwn.lst upd_same h2)⟩
    · obtain ⟨v, rfl, h⟩ := r.one
      obtain ⟨p, vs, rfl, h1, h2⟩ := h.lst_inv m
      exact ⟨_, vs, rfl, .inl (SqL.of h1), fun l hl => q.new m hl (RepOwn.lst upd_same h2)⟩
    · obtain ⟨v, rfl, h⟩ := r.one
      obtain ⟨p, rfl, h1⟩ := h.scr_inv m
      exact ⟨_, _, rfl, .inl h1, fun l hl => q.new m hl (RepOwn.lst upd_same (RepDs.ints _))⟩
    · exact q.elim) (by decide +kernel) hg hm ha (by decide) (by decide) he hpl
theorem sd_listOf (hg : Gl X "list") (hm : X.mg "list" = none) (ha : SA X cs W (e :: es) fs) 
    (he : starEach (e :: es) X.env = (false, eval e X.env) :: starEach es X.env := by rfl) (hpl : (backTo pos (starEach es X.env)).any (·.1) = false := by rfl) : SD X cs W (.Call (.Name "list" p) (e :: es) [] pos) (eCall gListOf fs) := (sn_listOf hg hm ha he hpl).sd
def gRep : D → D → R D
  | .lst ds, .int k => if -(2 ^ 63) ≤ k ∧ k < 2 ^ 63 ∧ ds.length * k.toNat ≤ LIM then .ok (.lst (List.replicate k.toNat ds).flatten) else .stuck
  | _, _ => .stuck
theorem RepDs.rep {K : PySem.W.Frag} {Φ : Hp} {ds : List D} {vs : List V} (h : RepDs K Φ ds vs) : ∀ k : Nat, RepDs K Φ (List.replicate k ds).flatten (List.replicate k vs).flatten
  | 0 => .nil
  | k + 1 => by
    rw [List.replicate_succ, List.replicate_succ, List.flatten_cons, List.flatten_cons]
    exact h.append (RepDs.rep h k)
theorem run2N {g : D → D → R D} {σ : L2.St} {H : Hp} {Q : VK} {G : V → V → Hp → Prop} (h : tN X.K cs W (e2 g fa fb) σ H Q)
    (c : ∀ Φ H v u d e, Same Φ H → RepV X.K Φ H d v → RepV X.K Φ H e u → RunN X.K cs W σ Φ H Q (g d e) → G v u H) : tG X.K cs (rV X.K) W fa σ H fun v H1 => tG X.K cs (rV X.K) W fb σ H1 fun u H2 => G v u H2 := by
  obtain ⟨Φ, ρ, r, q⟩ := h
  refine tG.bindN (rp := rV X.K) r q fun Φ1 H1 d v r1 _ rep q => ?_
  exact tG.bindN (rp := rV X.K) r1 q fun Φ2 H2 e u r2 x2 rep2 q => c Φ2 H2 v u d e r2.sub (rep.ext x2) rep2 q
theorem sn_rep (ha : SV X cs W a fa) (hb : SV X cs W b fb) : SN X cs W (.BinOp a .Mult b pos) (e2 gRep fa fb) := peImp (pe_op op_rep ha hb) fun σ H Q h => run2N h fun Φ H v u d e m r1 r2 q => by
  unfold gRep at q
  split at q
  · obtain ⟨p, vs, rfl, h1, h2⟩ := r1.lst_inv m
    cases r2.int_inv
    split at q
    next h =>
      rw [h2.length] at h
      exact ⟨_, _, vs, rfl, rfl, h1, h.1, h.2.1, lim_le h.2.2, fun z hz => q.new m hz (RepOwn.lst upd_same (h2.rep _))⟩
    next => exact q.elim
  · exact q.elim
def gCat : D → D → R D
  | .lst x, .lst y => if x.length + y.length ≤ LIM then .ok (.lst (x ++ y)) else .stuck
  | _, _ => .stuck
theorem sn_cat (ha : SV X cs W a fa) (hb : SV X cs W b fb) : SN X cs W (.BinOp a .Add b pos) (e2 gCat fa fb) := peImp (pe_op op_cat ha hb) fun σ H Q h => run2N h fun Φ H v u d e m r1 r2 q => by
  unfold gCat at q
  split at q
  · obtain ⟨p, vs, rfl, h1, h2⟩ := r1.lst_inv m
    obtain ⟨p', us, rfl, h3, h4⟩ := r2.lst_inv m
    split at q
    next h =>
      rw [h2.length, h4.length] at h
      exact ⟨_, _, _, _, rfl, rfl, h1, h3, lim_le h, fun z hz => q.new m hz (RepOwn.lst upd_same (h2.append h4))⟩
    next => exact q.elim
  · exact q.elim
end

/-! ### what a statement does -/
inductive RS where
  | nx (ρ : List Sl) | rt (r : Sl) (ρ : List Sl) | bk (ρ : List Sl) | ct (ρ : List Sl) | exc (x : Exn) (ρ : List Sl) | stuck
abbrev Es := List Sl → RS
def Own (σ : L2.St) (ρ : List Sl) : Addr → Prop := fun a => ∃ i, OwnAt σ ρ i a
structure Stp (P : Addr → Prop) (Φ H Φ' H' : Hp) (P' : Addr → Prop) : Prop where
  mono : Same Φ Φ'
  frame : ∀ b o, H b = some o → ¬ P b → H' b = some o
  own : ∀ a, P' a → P a ∨ H a = none
  new : ∀ b o, Φ' b = some o → Φ b = some o ∨ P b ∨ H b = none
theorem Stp.refl {P P' : Addr → Prop} {Φ H : Hp} (h : ∀ a, P' a → P a) : Stp P Φ H Φ H P' := ⟨Same.refl _, fun _ _ e _ => e, fun a p => .inl (h a p), fun _ _ e => .inl e⟩
theorem Stp.ofExt {P P' : Addr → Prop} {Φ H Φ' H' : Hp} (x : Ext Φ H Φ' H') (h : ∀ a, P' a → P a ∨ H a = none) : Stp P Φ H Φ' H' P' :=
  ⟨x.mono, fun b o e _ => x.heap b o e, h, fun b o e => by
    rcases x.new b o e with z | z
    · exact .inl z
    · exact .inr (.inr z)⟩
theorem Stp.trans {P P1 P2 : Addr → Prop} {Φ H Φ1 H1 Φ2 H2 : Hp} (a : Stp P Φ H Φ1 H1 P1) (b : Stp P1 Φ1 H1 Φ2 H2 P2) : Stp P Φ H Φ2 H2 P2 := by
  have back : ∀ c, H1 c = none → P c ∨ H c = none := fun c e => by
    by_cases hp : P c
    · exact .inl hp
    · refine .inr ?_
      cases z : H c with
      | none => rfl
      | some u => rw [a.frame c u z hp] at e; cases e
  have np : ∀ c o, H c = some o → ¬ P c → ¬ P1 c := fun c o e hp h1 => by
    rcases a.own c h1 with z | z
    · exact hp z
    · rw [e] at z; cases z
  refine ⟨a.mono.trans b.mono, fun c o e hp => b.frame c o (a.frame c o e hp) (np c o e hp), fun c h => ?_, fun c o h => ?_⟩
  · rcases b.own c h with z | z
    · exact a.own c z
    · exact back c z
  · rcases b.new c o h with z | z | z
    · exact a.new c o z
    · exact .inr (a.own c z)
    · exact .inr (back c z)

def RunS (K : PySem.W.Frag) (cs : Nat → Addr) (W : WX) (np : Nat) (D : Ends) (P : Addr → Prop) (σ : L2.St) (Φ H : Hp) : RS → Prop
  | .nx ρ' => ∀ Φ' H' σ', Stp P Φ H Φ' H' (Own σ' ρ') → Rel K Φ' H' σ' ρ' → σ'.take np = σ.take np → D.nx σ' H'
  | .bk ρ' => ∀ Φ' H' σ', Stp P Φ H Φ' H' (Own σ' ρ') → Rel K Φ' H' σ' ρ' → σ'.take np = σ.take np → D.bk σ' H'
  | .ct ρ' => ∀ Φ' H' σ', Stp P Φ H Φ' H' (Own σ' ρ') → Rel K Φ' H' σ' ρ' → σ'.take np = σ.take np → D.ct σ' H'
  | .rt r ρ' => ∀ Φ' H' σ' v, Stp P Φ H Φ' H' (Own (σ' ++ [some v]) (ρ' ++ [r])) → Rel K Φ' H' (σ' ++ [some v]) (ρ' ++ [r]) → σ'.take np = σ.take np → D.rt v H'
  | .exc x ρ' => ∀ Φ' H' σ' c dd, Stp P Φ H Φ' H' (Own σ' ρ') → Rel K Φ' H' σ' ρ' → σ'.take np = σ.take np → RepX cs Φ' H' x c dd → W c dd σ' H'
  | .stuck => False
def tS (K : PySem.W.Frag) (cs : Nat → Addr) (W : WX) (np : Nat) (f : Es) : TS := fun D σ H => ∃ Φ ρ, Rel K Φ H σ ρ ∧ RunS K cs W np D (Own σ ρ) σ Φ H (f ρ)
def SS (X : Cx) (cs : Nat → Addr) (W : WX) (np : Nat) (st : Stmt) (f : Es) : Prop := PS X st (tS X.K cs W np f)
def SSs (X : Cx) (cs : Nat → Addr) (W : WX) (np : Nat) (st : List Stmt) (f : Es) : Prop := PSs X st (tS X.K cs W np f)
theorem RunS.step {K : PySem.W.Frag} {cs : Nat → Addr} {W : WX} {np : Nat} {D : Ends} {P P1 : Addr → Prop} {σ σ1 : L2.St} {Φ H Φ1 H1 : Hp} {r : RS} (s : Stp P Φ H Φ1 H1 P1) (t : σ1.take np = σ.take np) (h : RunS K cs W np D P σ Φ H r) : RunS K cs W np D P1 σ1 Φ1 H1 r := by
  cases r with
  | nx ρ => exact fun Φ' H' σ' s' r' t' => h Φ' H' σ' (s.trans s') r' (t'.trans t)
  | bk ρ => exact fun Φ' H' σ' s' r' t' => h Φ' H' σ' (s.trans s') r' (t'.trans t)
  | ct ρ => exact fun Φ' H' σ' s' r' t' => h Φ' H' σ' (s.trans s') r' (t'.trans t)
  | rt v ρ => exact fun Φ' H' σ' v s' r' t' => h Φ' H' σ' v (s.trans s') r' (t'.trans t)
  | exc x ρ => exact fun Φ' H' σ' c dd s' r' t' => h Φ' H' σ' c dd (s.trans s') r' (t'.trans t)
  | stuck => exact h
theorem RunS.nx0 {K : PySem.W.Frag} {cs : Nat → Addr} {W : WX} {np : Nat} {D : Ends} {σ : L2.St} {ρ : List Sl} {Φ H : Hp} (h : RunS K cs W np D (Own σ ρ) σ Φ H (.nx ρ)) (r : Rel K Φ H σ ρ) : D.nx σ H := h Φ H σ (Stp.refl fun _ p => p) r rfl
/-- an expression's answer within a statement -/
def tryE {α : Type} (ρ : List Sl) (r : R α) (k : α → RS) : RS := match r with
  | .ok a => k a
  | .exc x => .exc x ρ
  | .stuck => .stuck
theorem tG.bindS {α β : Type} {K : PySem.W.Frag} {cs : Nat → Addr} {rp : Rp α β} {W : WX} {np : Nat} {D : Ends} {f : Ev α} {k : α → RS} {σ : L2.St} {ρ : List Sl} {Φ H : Hp} {G : β → Hp → Prop} (r : Rel K Φ H σ ρ)
    (h : RunS K cs W np D (Own σ ρ) σ Φ H (tryE ρ (f ρ) k))
    (c : ∀ Φ1 H1 a b, Rel K Φ1 H1 σ ρ → Ext Φ H Φ1 H1 → rp.rep Φ1 H1 a b → RunS K cs W np D (Own σ ρ) σ Φ1 H1 (k a) → G b H1) : tG K cs rp W f σ H G := by
  refine ⟨Φ, ρ, r, ?_⟩
  cases e : f ρ with
  | ok a =>
    rw [e] at h
    exact fun Φ' H' b x q => c Φ' H' a b (r.ext x) x q (RunS.step (Stp.ofExt x fun _ p => .inl p) rfl h)
  | exc z =>
    rw [e] at h
    exact fun Φ' H' c dd x q => h Φ' H' σ c dd (Stp.ofExt x fun _ p => .inl p) (r.ext x) rfl q
  | stuck =>
    rw [e] at h
    exact h

section
variable {X : Cx} {cs : Nat → Addr} {W : WX} {np : Nat} {st : Stmt} {sts : List Stmt} {f g h : Es}
def seqS (f g : Es) : Es := fun ρ => match f ρ with
  | .nx ρ' => g ρ'
  | r => r
def skipS : Es := fun ρ => .nx ρ
theorem ss_nil : SSs X cs W np [] skipS := pssImp pss_nil fun D σ H ⟨Φ, ρ, r, q⟩ => q.nx0 r
theorem ss_one (h : SS X cs W np st f) : SSs X cs W np [st] f := pss_one h
theorem ss_cons (h : SS X cs W np st f) (k : SSs X cs W np sts g) : SSs X cs W np (st :: sts) (seqS f g) := pssImp (pss_cons h k) fun D σ H ⟨Φ, ρ, r, q⟩ => by
  refine ⟨Φ, ρ, r, ?_⟩
  unfold seqS at q
  cases e : f ρ with
  | nx ρ1 =>
    rw [e] at q
    exact fun Φ1 H1 σ1 s1 r1 t1 => ⟨Φ1, ρ1, r1, RunS.step s1 t1 q⟩
  | bk ρ1 => rw [e] at q; exact q
  | ct ρ1 => rw [e] at q; exact q
  | rt v ρ1 => rw [e] at q; exact q
  | exc x ρ1 => rw [e] at q; exact q
  | stuck => rw [e] at q; exact q
theorem ss_pass {pos : Pos} : SS X cs W np (.Pass pos) skipS := psImp ps_pass fun D σ H ⟨Φ, ρ, r, q⟩ => q.nx0 r
theorem ss_doc {x : Str} {j : Nat} {pos pos' : Pos} : SS X cs W np (.Expr (.Constant (.str x) j pos) pos') skipS := psImp ps_doc fun D σ H ⟨Φ, ρ, r, q⟩ => q.nx0 r
def bkS : Es := fun ρ => .bk ρ
def ctS : Es := fun ρ => .ct ρ
theorem ss_break {pos : Pos} : SS X cs W np (.Break pos) bkS := psImp ps_break fun D σ H ⟨Φ, ρ, r, q⟩ => q Φ H σ (Stp.refl fun _ p => p) r rfl
theorem ss_continue {pos : Pos} : SS X cs W np (.Continue pos) ctS := psImp ps_continue fun D σ H ⟨Φ, ρ, r, q⟩ => q Φ H σ (Stp.refl fun _ p => p) r rfl
/-- a slot's own list or dict is frozen, ahead of a statement -/
def frzAt (ρ : List Sl) (i : Nat) : List Sl := match ρ[i]? with
  | some (.own d) => ρ.set i (.val d)
  | _ => ρ
theorem Rel.frz {K : PySem.W.Frag} {Φ H : Hp} {σ : L2.St} {ρ : List Sl} (r : Rel K Φ H σ ρ) (i : Nat) : ∃ Φ', Rel K Φ' H σ (frzAt ρ i) ∧ Stp (Own σ ρ) Φ H Φ' H (Own σ (frzAt ρ i)) := by
  unfold frzAt
  split
  case h_2 => exact ⟨Φ, r, Stp.refl fun _ p => p⟩
  case h_1 d e =>
    obtain ⟨a, h1, h2, h3⟩ := r.own i d e
    obtain ⟨o, e1, e2, e3⟩ := h2.freeze h3
    have hl : i < ρ.length := (List.getElem?_eq_some_iff.mp e).1
    have ow : ∀ j b, OwnAt σ (ρ.set i (.val d)) j b → OwnAt σ ρ j b ∧ j ≠ i := fun j b ⟨w1, w, w2⟩ => by
      by_cases hj : i = j
      · subst hj; rw [List.getElem?_set_self hl] at w2; cases w2
      · rw [List.getElem?_set_ne hj] at w2; exact ⟨⟨w1, w, w2⟩, Ne.symm hj⟩
    have me : OwnAt σ ρ i a := ⟨h1, d, e⟩
    have sub' : Same (upd Φ a o) H := fun b u q => by
      by_cases hb : b = a
      · subst hb; rw [upd_same] at q; rw [e1]; exact q
      · rw [upd_ne hb] at q; exact r.sub _ _ q
    refine ⟨upd Φ a o, ⟨sub', by rw [List.length_set, r.len], fun j w hj => ?_, fun j w hj => ?_, fun j k b w1 w2 => r.sep j k b (ow _ _ w1).1 (ow _ _ w2).1⟩, e3, fun _ _ q _ => q, fun b ⟨j, w⟩ => .inl ⟨j, (ow _ _ w).1⟩, fun b u q => ?_⟩
    · by_cases z : i = j
      · subst z; rw [List.getElem?_set_self hl] at hj; cases hj; exact ⟨_, h1, e2⟩
      · rw [List.getElem?_set_ne z] at hj
        obtain ⟨v, w1, w2⟩ := r.val j w hj
        exact ⟨v, w1, w2.mono e3⟩
    · by_cases z : i = j
      · subst z; rw [List.getElem?_set_self hl] at hj; cases hj
      · rw [List.getElem?_set_ne z] at hj
        obtain ⟨b, w1, w2, w3⟩ := r.own j w hj
        refine ⟨b, w1, w2.at e3 fun _ q => q, ?_⟩
        have hb : b ≠ a := fun y => by subst y; exact z (r.sep i j b me ⟨w1, w, hj⟩)
        rw [upd_ne hb]; exact w3
    · by_cases hb : b = a
      · subst hb; exact .inr (.inl ⟨i, me⟩)
      · rw [upd_ne hb] at q; exact .inl q
def frzS (i : Nat) (f : Es) : Es := fun ρ => f (frzAt ρ i)
theorem ss_frz (i : Nat) (h : SS X cs W np st f) : SS X cs W np st (frzS i f) := psImp h fun D σ H ⟨Φ, ρ, r, q⟩ => by
  obtain ⟨Φ', r', s⟩ := r.frz i
  exact ⟨Φ', _, r', RunS.step s rfl q⟩
end
end PL

set_option Elab.async false
set_option linter.all false
set_option maxRecDepth 100000
/-! PL5: assignments, if, loops, return, lists that change -/
namespace PL
set_option autoImplicit false
open PySem PySem.Spec PyProof.Rows L2

section
variable {K : PySem.W.Frag} {Φ H : Hp} {σ : L2.St} {ρ : List Sl}
theorem ownSet {i : Nat} {d : D} {v : Option V} {j : Nat} {a : Addr} (h : OwnAt (σ.set i v) (ρ.set i (.val d)) j a) : OwnAt σ ρ j a := by
  obtain ⟨h1, e, h2⟩ := h
  by_cases hj : i = j
  · subst hj
    by_cases hl : i < ρ.length
    · rw [List.getElem?_set_self hl] at h2; cases h2
    · rw [List.getElem?_eq_none (by simpa using hl)] at h2; cases h2
  · rw [List.getElem?_set_ne hj] at h1 h2
    exact ⟨h1, e, h2⟩
theorem ownSetMany : ∀ {as : List (Nat × D)} {ws : List (Nat × V)} {σ : L2.St} {ρ : List Sl}, RepAs K Φ as ws → ∀ {j : Nat} {a : Addr}, OwnAt (setV σ ws) (setS ρ as) j a → OwnAt σ ρ j a
  | _, _, _, _, .nil, _, _, h => h
  | (i, d) :: as, (_, v) :: ws, σ, ρ, .cons _ t, j, a, h => ownSet (ownSetMany (σ := σ.set i (some v)) (ρ := ρ.set i (.val d)) t h)
theorem takeSet {α : Type} {l : List α} {n i : Nat} {x : α} (h : n ≤ i) : (l.set i x).take n = l.take n := by
  apply List.ext_getElem?
  intro k
  rw [List.getElem?_take, List.getElem?_take]
  split
  next hk => rw [List.getElem?_set_ne (by omega)]
  next => rfl
theorem takeSetMany {np : Nat} : ∀ (ws : List (Nat × V)) (σ : L2.St), (∀ p ∈ ws, np ≤ p.1) → (setV σ ws).take np = σ.take np
  | [], _, _ => rfl
  | (i, v) :: ws, σ, h => by
    show (setV (σ.set i (some v)) ws).take np = _
    rw [takeSetMany ws _ fun p hp => h p (by simp [hp]), takeSet (h (i, v) (by simp))]
theorem RepAs.le {np : Nat} : ∀ {as : List (Nat × D)} {ws : List (Nat × V)}, RepAs K Φ as ws → (∀ p ∈ as, np ≤ p.1) → ∀ p ∈ ws, np ≤ p.1
  | _, _, .nil, _ => fun p hp => by cases hp
  | (i, d) :: as, (_, v) :: ws, .cons _ t, h => fun p hp => by
    rcases List.mem_cons.mp hp with e | hp
    · subst e; exact h (i, d) List.mem_cons_self
    · exact RepAs.le t (fun q hq => h q (by simp [hq])) p hp
theorem Rel.notOwn (r : Rel K Φ H σ ρ) {a : Addr} (h : H a = none) : ∀ j, ¬ OwnAt σ ρ j a := fun j ⟨h1, d, h2⟩ => by
  obtain ⟨b, e1, e2, _⟩ := r.own j d h2
  rw [h1] at e1
  cases e1
  obtain ⟨o, e⟩ := e2.there
  rw [h] at e; cases e
theorem Rel.setOwn (r : Rel K Φ H σ ρ) {i : Nat} {d : D} {a : Addr} (h : RepOwn K Φ H d a) (hp : Φ a = none) (hn : ∀ j, ¬ OwnAt σ ρ j a) : Rel K Φ H (σ.set i (some (.ref a))) (ρ.set i (.own d)) := by
  have ow : ∀ j b, OwnAt (σ.set i (some (.ref a))) (ρ.set i (.own d)) j b → (j = i ∧ b = a) ∨ (j ≠ i ∧ OwnAt σ ρ j b) := fun j b ⟨h1, e, h2⟩ => by
    by_cases hj : i = j
    · subst hj
      by_cases hl : i < σ.length
      · rw [List.getElem?_set_self hl] at h1; cases h1; exact .inl ⟨rfl, rfl⟩
      · rw [List.getElem?_eq_none (by simpa using hl)] at h1; cases h1
    · rw [List.getElem?_set_ne hj] at h1 h2
      exact .inr ⟨Ne.symm hj, h1, e, h2⟩
  refine ⟨r.sub, by rw [List.length_set, List.length_set, r.len], fun j e hj => ?_, fun j e hj => ?_, fun j k b h1 h2 => ?_⟩
  · by_cases z : i = j
    · subst z
      by_cases hl : i < ρ.length
      · rw [List.getElem?_set_self hl] at hj; cases hj
      · rw [List.getElem?_eq_none (by simpa using hl)] at hj; cases hj
    · rw [List.getElem?_set_ne z] at hj ⊢
      exact r.val j e hj
  · by_cases z : i = j
    · subst z
      by_cases hl : i < ρ.length
      · rw [List.getElem?_set_self hl] at hj
        cases hj
        exact ⟨a, List.getElem?_set_self (by rw [r.len]; exact hl), h, hp⟩
      · rw [List.getElem?_eq_none (by simpa using hl)] at hj; cases hj
    · rw [List.getElem?_set_ne z] at hj ⊢
      exact r.own j e hj
  · rcases ow j b h1 with ⟨rfl, rfl⟩ | ⟨w1, w2⟩ <;> rcases ow k _ h2 with ⟨rfl, z⟩ | ⟨w3, w4⟩
    · rfl
    · exact absurd w4 (hn k)
    · subst z; exact absurd w2 (hn j)
    · exact r.sep j k b w2 w4
theorem ownSetOwn {i : Nat} {d : D} {a : Addr} {b : Addr} (h : Own (σ.set i (some (.ref a))) (ρ.set i (.own d)) b) : b = a ∨ Own σ ρ b := by
  obtain ⟨j, h1, e, h2⟩ := h
  by_cases hj : i = j
  · subst hj
    by_cases hl : i < σ.length
    · rw [List.getElem?_set_self hl] at h1; cases h1; exact .inl rfl
    · rw [List.getElem?_eq_none (by simpa using hl)] at h1; cases h1
  · rw [List.getElem?_set_ne hj] at h1 h2
    exact .inr ⟨j, h1, e, h2⟩
/-- a slot's own object changes -/
theorem Rel.mut (r : Rel K Φ H σ ρ) {i : Nat} {d d' : D} {a : Addr} {u : HO} (hs : σ[i]? = some (some (.ref a))) (hr : ρ[i]? = some (.own d)) (h : RepOwn K Φ (upd H a u) d' a) :
    Rel K Φ (upd H a u) σ (ρ.set i (.own d')) ∧ Stp (Own σ ρ) Φ H Φ (upd H a u) (Own σ (ρ.set i (.own d'))) := by
  have me : OwnAt σ ρ i a := ⟨hs, d, hr⟩
  have hl : i < ρ.length := (List.getElem?_eq_some_iff.mp hr).1
  obtain ⟨a0, g1, g2, g3⟩ := r.own i d hr
  have ea : a0 = a := by rw [hs] at g1; cases g1; rfl
  subst ea
  have ow : ∀ j b, OwnAt σ (ρ.set i (.own d')) j b → OwnAt σ ρ j b := fun j b ⟨h1, e, h2⟩ => by
    by_cases hj : i = j
    · subst hj; exact ⟨h1, d, hr⟩
    · rw [List.getElem?_set_ne hj] at h2; exact ⟨h1, e, h2⟩
  have sub' : Same Φ (upd H a0 u) := fun b o q => by
    have hb : b ≠ a0 := fun z => by subst z; rw [g3] at q; cases q
    rw [upd_ne hb]; exact r.sub _ _ q
  refine ⟨⟨sub', by rw [List.length_set, r.len], fun j w hj => ?_, fun j w hj => ?_, fun j k b w1 w2 => r.sep j k b (ow _ _ w1) (ow _ _ w2)⟩, Same.refl _, fun b o q np => ?_, fun b ⟨j, w⟩ => .inl ⟨j, ow _ _ w⟩, fun b o q => .inl q⟩
  · by_cases z : i = j
    · subst z; rw [List.getElem?_set_self hl] at hj; cases hj
    · rw [List.getElem?_set_ne z] at hj; exact r.val j w hj
  · by_cases z : i = j
    · subst z; rw [List.getElem?_set_self hl] at hj; cases hj; exact ⟨a0, hs, h, g3⟩
    · rw [List.getElem?_set_ne z] at hj
      obtain ⟨b, w1, w2, w3⟩ := r.own j w hj
      have hb : b ≠ a0 := fun y => by subst y; exact z (r.sep i j b me ⟨w1, w, hj⟩)
      exact ⟨b, w1, w2.at (Same.refl _) fun o q => by rw [upd_ne hb]; exact q, w3⟩
  · have hb : b ≠ a0 := fun y => by subst y; exact np ⟨i, me⟩
    rw [upd_ne hb]; exact q
theorem getApp {α : Type} {l : List α} {x : α} {i : Nat} {y : α} (h : (l ++ [x])[i]? = some y) : (l[i]? = some y) ∨ (i = l.length ∧ x = y) := by
  by_cases hi : i < l.length
  · rw [List.getElem?_append_left hi] at h; exact .inl h
  · rw [List.getElem?_append_right (by omega)] at h
    by_cases e : i - l.length = 0
    · rw [e] at h; simp at h; exact .inr ⟨by omega, h⟩
    · rw [List.getElem?_eq_none (by simp; omega)] at h; cases h
theorem Rel.push (r : Rel K Φ H σ ρ) {d : D} {v : V} (h : RepD K Φ d v) : Rel K Φ H (σ ++ [some v]) (ρ ++ [.val d]) := by
  have ow : ∀ j b, OwnAt (σ ++ [some v]) (ρ ++ [.val d]) j b → OwnAt σ ρ j b := fun j b ⟨h1, e, h2⟩ => by
    rcases getApp h2 with h2 | ⟨_, h2⟩
    · have hl : j < σ.length := by rw [r.len]; exact (List.getElem?_eq_some_iff.mp h2).1
      rw [List.getElem?_append_left hl] at h1
      exact ⟨h1, e, h2⟩
    · cases h2
  refine ⟨r.sub, by simp [r.len], fun j e hj => ?_, fun j e hj => ?_, fun j k b w1 w2 => r.sep j k b (ow _ _ w1) (ow _ _ w2)⟩
  · rcases getApp hj with hj | ⟨hq, e2⟩
    · obtain ⟨u, w1, w2⟩ := r.val j e hj
      exact ⟨u, by rw [List.getElem?_append_left (List.getElem?_eq_some_iff.mp w1).1]; exact w1, w2⟩
    · cases e2
      exact ⟨v, by rw [hq, ← r.len]; simp, h⟩
  · rcases getApp hj with hj | ⟨hq, e2⟩
    · obtain ⟨u, w1, w2⟩ := r.own j e hj
      exact ⟨u, by rw [List.getElem?_append_left (List.getElem?_eq_some_iff.mp w1).1]; exact w1, w2⟩
    · cases e2
theorem ownPush {d : D} {v : V} {b : Addr} (hl : σ.length = ρ.length) (h : Own (σ ++ [some v]) (ρ ++ [.val d]) b) : Own σ ρ b := by
  obtain ⟨j, h1, e, h2⟩ := h
  rcases getApp h2 with h2 | ⟨_, h2⟩
  · have hl : j < σ.length := by rw [hl]; exact (List.getElem?_eq_some_iff.mp h2).1
    rw [List.getElem?_append_left hl] at h1
    exact ⟨j, h1, e, h2⟩
  · cases h2
theorem Rel.pushOwn (r : Rel K Φ H σ ρ) {d : D} {a : Addr} (h : RepOwn K Φ H d a) (hp : Φ a = none) (hn : ∀ j, ¬ OwnAt σ ρ j a) : Rel K Φ H (σ ++ [some (.ref a)]) (ρ ++ [.own d]) := by
  have ow : ∀ j b, OwnAt (σ ++ [some (.ref a)]) (ρ ++ [.own d]) j b → (j = σ.length ∧ b = a) ∨ OwnAt σ ρ j b := fun j b ⟨h1, e, h2⟩ => by
    rcases getApp h1 with h1 | ⟨h3, h4⟩
    · have hl : j < ρ.length := by rw [← r.len]; exact (List.getElem?_eq_some_iff.mp h1).1
      rw [List.getElem?_append_left hl] at h2
      exact .inr ⟨h1, e, h2⟩
    · cases h4; exact .inl ⟨h3, rfl⟩
  refine ⟨r.sub, by simp [r.len], fun j e hj => ?_, fun j e hj => ?_, fun j k b w1 w2 => ?_⟩
  · rcases getApp hj with hj | ⟨hq, e2⟩
    · obtain ⟨u, w1, w2⟩ := r.val j e hj
      exact ⟨u, by rw [List.getElem?_append_left (List.getElem?_eq_some_iff.mp w1).1]; exact w1, w2⟩
    · cases e2
  · rcases getApp hj with hj | ⟨hq, e2⟩
    · obtain ⟨u, w1, w2⟩ := r.own j e hj
      exact ⟨u, by rw [List.getElem?_append_left (List.getElem?_eq_some_iff.mp w1).1]; exact w1, w2⟩
    · cases e2
      exact ⟨a, by rw [hq, ← r.len]; simp, h, hp⟩
  · rcases ow _ _ w1 with ⟨z1, z2⟩ | y1 <;> rcases ow _ _ w2 with ⟨z3, z4⟩ | y2
    · rw [z1, z3]
    · subst z2; exact absurd y2 (hn k)
    · subst z4; exact absurd y1 (hn j)
    · exact r.sep j k b y1 y2
theorem ownPushOwn {d : D} {a : Addr} {b : Addr} (hl : σ.length = ρ.length) (h : Own (σ ++ [some (.ref a)]) (ρ ++ [.own d]) b) : b = a ∨ Own σ ρ b := by
  obtain ⟨j, h1, e, h2⟩ := h
  rcases getApp h1 with h1 | ⟨h3, h4⟩
  · have hl : j < ρ.length := by rw [← hl]; exact (List.getElem?_eq_some_iff.mp h1).1
    rw [List.getElem?_append_left hl] at h2
    exact .inr ⟨j, h1, e, h2⟩
  · cases h4; exact .inl rfl
theorem Rel.emp (r : Rel K Φ H σ ρ) (i : Nat) : Rel K Φ H σ (ρ.set i .emp) := by
  have g : ∀ (j : Nat) (s : Sl), s ≠ .emp → (ρ.set i .emp)[j]? = some s → ρ[j]? = some s ∧ j ≠ i := fun j s hs hj => by
    by_cases z : i = j
    · subst z
      by_cases hl : i < ρ.length
      · rw [List.getElem?_set_self hl] at hj; cases hj; exact absurd rfl hs
      · rw [List.getElem?_eq_none (by simpa using hl)] at hj; cases hj
    · rw [List.getElem?_set_ne z] at hj; exact ⟨hj, Ne.symm z⟩
  refine ⟨r.sub, by rw [List.length_set, r.len], fun j e hj => r.val j e (g j _ (by simp) hj).1, fun j e hj => r.own j e (g j _ (by simp) hj).1, fun j k b ⟨w1, d1, w2⟩ ⟨w3, d2, w4⟩ => r.sep j k b ⟨w1, d1, (g j _ (by simp) w2).1⟩ ⟨w3, d2, (g k _ (by simp) w4).1⟩⟩
theorem ownEmp {i j : Nat} {b : Addr} (h : OwnAt σ (ρ.set i .emp) j b) : OwnAt σ ρ j b ∧ j ≠ i := by
  obtain ⟨h1, d, h2⟩ := h
  by_cases z : i = j
  · subst z
    by_cases hl : i < ρ.length
    · rw [List.getElem?_set_self hl] at h2; cases h2
    · rw [List.getElem?_eq_none (by simpa using hl)] at h2; cases h2
  · rw [List.getElem?_set_ne z] at h2; exact ⟨⟨h1, d, h2⟩, Ne.symm z⟩
end

section
variable {X : Cx} {cs : Nat → Addr} {W : WX} {np : Nat} {st : Stmt} {sts : List Stmt} {f g h : Es} {e c tg o : Expr} {fe : Ev D} {fc : Ev Bool} {pos p : Pos}
/-! ### assignments -/
def asgS (ft : D → R (List (Nat × D))) (fe : Ev D) : Es := fun ρ => tryE ρ ((fe ρ).bind ft) fun as => .nx (setS ρ as)
theorem tryE_bind {α β : Type} {ρ : List Sl} {r : R α} {k : α → R β} {q : β → RS} : tryE ρ (r.bind k) q = tryE ρ r fun a => tryE ρ (k a) q := by cases r <;> rfl
theorem runAsg {D' : Ends} {gt : TG} {ft : D → R (List (Nat × D))} (t : Tgt X tg gt ft) (hnp : ∀ d as, ft d = .ok as → ∀ p ∈ as, np ≤ p.1) (hx : ∀ d x, ft d ≠ .exc x) {Φ H : Hp} {σ : L2.St} {ρ : List Sl} {d : D} {v : V} (r : Rel X.K Φ H σ ρ) (rep : RepD X.K Φ d v)
    (q : RunS X.K cs W np D' (Own σ ρ) σ Φ H (tryE ρ (ft d) fun as => .nx (setS ρ as))) : gt v σ H D'.nx := by
  cases e : ft d with
  | stuck => rw [e] at q; exact q.elim
  | exc x => exact absurd e (hx d x)
  | ok as =>
    rw [e] at q
    exact t.run Φ H σ d v as _ r.sub rep e fun ws rws => q Φ H _ (Stp.refl fun b ⟨j, w⟩ => ⟨j, ownSetMany rws w⟩) (r.setMany rws) (takeSetMany ws σ (rws.le (hnp d as e)))
theorem ss_asg {gt : TG} {ft : D → R (List (Nat × D))} (he : SD X cs W e fe) (t : Tgt X tg gt ft) (hnp : ∀ d as, ft d = .ok as → ∀ p ∈ as, np ≤ p.1) (hx : ∀ d x, ft d ≠ .exc x) (hs : swapsWithSole [tg] e pos.line X.env = pure false := by rfl) (hw : swappedStores [tg] e X.env = pure none := by rfl)
    (h1 : (assignEach [tg] X.env).map (·.2) = [assign tg X.env] := by rfl) : SS X cs W np (.Assign [tg] e pos) (asgS ft fe) := psImp (ps_asg he t.pg hs hw h1) fun D' σ H ⟨Φ, ρ, r, q⟩ => by
  unfold asgS at q
  rw [tryE_bind] at q
  exact tG.bindS (rp := rD X.K) r q fun Φ1 H1 d v r1 x rep q => runAsg t hnp hx r1 rep (RunS.step (Stp.refl fun _ p => p) rfl q)
def asgN (i : Nat) (fe : Ev D) : Es := fun ρ => tryE ρ (fe ρ) fun d => .nx (ρ.set i (.own d))
theorem tN.bindS {D' : Ends} {f : Ev D} {k : D → RS} {σ : L2.St} {ρ : List Sl} {Φ H : Hp} {G : VK} (r : Rel X.K Φ H σ ρ)
    (h : RunS X.K cs W np D' (Own σ ρ) σ Φ H (tryE ρ (f ρ) k))
    (c : ∀ Φ1 H1 d a, Rel X.K Φ1 H1 σ ρ → Ext Φ H Φ1 H1 → H a = none → Φ1 a = none → RepOwn X.K Φ1 H1 d a → (∀ j, ¬ OwnAt σ ρ j a) → G (.ref a) H1 ∨ RunS X.K cs W np D' (Own σ ρ) σ Φ H (k d) → G (.ref a) H1) : True := trivial
theorem runN {D' : Ends} {i : Nat} (hi : np ≤ i) {Φ H : Hp} {σ : L2.St} {ρ : List Sl} (r : Rel X.K Φ H σ ρ) (q : RunS X.K cs W np D' (Own σ ρ) σ Φ H (asgN i fe ρ)) : tN X.K cs W fe σ H fun x H1 => gName i x σ H1 D'.nx := by
  refine ⟨Φ, ρ, r, ?_⟩
  unfold asgN at q
  cases e : fe ρ with
  | stuck => rw [e] at q; exact q.elim
  | exc x =>
    rw [e] at q
    exact fun Φ' H' c dd x y => q Φ' H' σ c dd (Stp.ofExt x fun _ p => .inl p) (r.ext x) rfl y
  | ok d =>
    rw [e] at q
    intro Φ' H' a x hb hp y
    have hn := r.notOwn hb
    exact q Φ' H' _ (Stp.ofExt x fun b w => by
      rcases ownSetOwn w with rfl | w
      · exact .inr hb
      · exact .inl w) ((r.ext x).setOwn y hp hn) (takeSet hi)
theorem ss_asgN {i : Nat} {x : Str} {pos' : Pos} (hnp : np ≤ i) (hN : X.N.Nodup) (he : SN X cs W e fe) (hi : X.N[i]? = some x := by rfl) (hx : Loc X.env.scope x := by first | exact Or.inl rfl | exact Or.inr rfl) (hs : swapsWith e (some (.Name x pos')) pos.line X.env = pure false := by rfl) (hf : X.fn x = true ∨ X.env.scope.names.lookup x = some .local := by first | exact .inl rfl | exact .inr rfl | assumption) :
    SS X cs W np (.Assign [.Name x pos'] e pos) (asgN i fe) := psImp (ps_set hN hi hx he hs hf) fun D' σ H ⟨Φ, ρ, r, q⟩ => runN hnp r q
theorem ss_asgLc {i : Nat} {y : Str} {py : Pos} {elt tg iter : Expr} {ifs : List Expr} {scope : Scope} {vs : List Nat} (own : List (Str × Nat)) (hv : own.map (·.2) = vs) {pos spos : Pos} {fi : Ev (List D)} {g : TG} {ft : D → R (List (Nat × D))} {fc : Ev Bool} {fe : Ev D} (hnp : np ≤ i) (hc : X.calm = true) (hN : X.N.Nodup) (hi : SIE X cs W tg iter fi) (ok : BlkOk X.N X.env.scope scope own)
    (hft : ∀ d as, ft d = .ok as → ∀ p ∈ as, p.1 ∈ vs)
    (hg : ∀ (s : Shared) (H : Hp) (C : Addr) (cl : List (Str × Addr)) (fp : List Addr), Tgt (X.blk s H scope (compEnvC scope cl C X.env) fp) tg g ft)
    (ht : ∀ (s : Shared) (H : Hp) (C : Addr) (cl : List (Str × Addr)) (fp : List Addr), STs (X.blk s H scope (compEnvC scope cl C X.env) fp) cs W0 ifs fc)
    (he : ∀ (s : Shared) (H : Hp) (C : Addr) (cl : List (Str × Addr)) (fp : List Addr), SD (X.blk s H scope (compEnvC scope cl C X.env) fp) cs W0 elt fe)
    (hsw : swapsWith (.ListComp elt [⟨tg, iter, ifs, 0⟩] scope pos) (some (.Name y py)) spos.line X.env = pure true)
    (hy : X.N[i]? = some y := by rfl) (hyl : X.env.scope.names.lookup y = some .local := by rfl) (hs : ∀ x, foldedSetIterable iter X.env x = pure x := by intro _; rfl) :
    SS X cs W np (.Assign [.Name y py] (.ListComp elt [⟨tg, iter, ifs, 0⟩] scope pos) spos) (asgN i (eLc vs fi ft fc fe)) := by
  subst hv
  exact psImp (ps_setLc (tt := tG X.K cs rB W0 fc) (te := tG X.K cs (rD X.K) W0 fe) hc hN hy hyl hsw hi ok (fun s H C cl fp => (hg s H C cl fp).pg) ht he hs) fun D' σ H ⟨Φ, ρ, r, q⟩ => lc_run (XB := X.blk X.s_0 H scope (compEnvC scope [] 0 X.env) []) rfl hft (hg X.s_0 H 0 [] []) (runN hnp r q)

/-! ### return, if -/
def retS (fe : Ev D) : Es := fun ρ => tryE ρ (fe ρ) fun d => .rt (.val d) ρ
theorem ss_ret (he : SD X cs W e fe) : SS X cs W np (.Return (some e) pos) (retS fe) := psImp (ps_ret he) fun D' σ H ⟨Φ, ρ, r, q⟩ =>
  tG.bindS (rp := rD X.K) r q fun Φ1 H1 d v r1 x rep q => q Φ1 H1 σ v (Stp.refl fun b w => ownPush r1.len w) (r1.push rep) rfl
def retN (fe : Ev D) : Es := fun ρ => tryE ρ (fe ρ) fun d => .rt (.own d) ρ
theorem ss_retN (he : SN X cs W e fe) : SS X cs W np (.Return (some e) pos) (retN fe) := psImp (ps_ret he) fun D' σ H ⟨Φ, ρ, r, q⟩ => by
  refine ⟨Φ, ρ, r, ?_⟩
  unfold retN at q
  cases e : fe ρ with
  | stuck => rw [e] at q; exact q.elim
  | exc x =>
    rw [e] at q
    exact fun Φ' H' c dd x y => q Φ' H' σ c dd (Stp.ofExt x fun _ p => .inl p) (r.ext x) rfl y
  | ok d =>
    rw [e] at q
    intro Φ' H' a x hb hp y
    have hn := r.notOwn hb
    exact q Φ' H' σ (.ref a) (Stp.ofExt x fun b w => by
      rcases ownPushOwn r.len w with rfl | w
      · exact .inr hb
      · exact .inl w) ((r.ext x).pushOwn y hp hn) rfl
def retV (i : Nat) : Es := fun ρ => match ρ[i]? with
  | some (.val d) => .rt (.val d) ρ
  | some (.own d) => .rt (.own d) (ρ.set i .emp)
  | _ => .stuck
theorem ss_retV (i : Nat) {x : Str} (hN : X.N[i]? = some x := by rfl) (hv : Vis X.env.scope x := by first | exact Or.inl rfl | exact Or.inr (Or.inl rfl) | exact Or.inr (Or.inr rfl)) (hd : (x == ("__debug__" : Str)) = false := by decide)
    (hcd : (x == ("__classdict__" : Str)) = false := by decide) : SS X cs W np (.Return (some (.Name x p)) pos) (retV i) := psImp (ps_ret (pe_var hN hv hd hcd)) fun D' σ H ⟨Φ, ρ, r, q⟩ => by
  unfold retV at q
  split at q
  next d e =>
    obtain ⟨v, h1, h2⟩ := r.val i d e
    exact ⟨v, h1, q Φ H σ v (Stp.refl fun b w => ownPush r.len w) (r.push h2) rfl⟩
  next d e =>
    obtain ⟨a, h1, h2, h3⟩ := r.own i d e
    refine ⟨_, h1, q Φ H σ _ (Stp.refl fun b w => ?_) ((r.emp i).pushOwn h2 h3 fun j w => ?_) rfl⟩
    · rcases ownPushOwn (r.emp i).len w with rfl | ⟨j, w⟩
      · exact ⟨i, h1, d, e⟩
      · exact ⟨j, (ownEmp w).1⟩
    · exact (ownEmp w).2 (r.sep j i a (ownEmp w).1 ⟨h1, d, e⟩)
  next => exact q.elim
def retNone : Es := fun ρ => .rt (.val .non) ρ
theorem ss_retNone : SS X cs W np (.Return none pos) retNone := psImp ps_retN fun D' σ H ⟨Φ, ρ, r, q⟩ => q Φ H σ .non (Stp.refl fun b w => ownPush r.len w) (r.push .non) rfl
def ifS (fc : Ev Bool) (f g : Es) : Es := fun ρ => tryE ρ (fc ρ) fun k => if k = true then f ρ else g ρ
theorem ss_if {as bs : List Stmt} (hc : ST X cs W c fc) (ha : SSs X cs W np as f) (hb : SSs X cs W np bs g) : SS X cs W np (.If c as bs pos) (ifS fc f g) := psImp (ps_if hc ha hb) fun D' σ H ⟨Φ, ρ, r, q⟩ =>
  tG.bindS (rp := rB) r q fun Φ1 H1 d v r1 x rep q => by
    cases rep
    cases d with
    | true => exact ⟨Φ1, ρ, r1, q⟩
    | false => exact ⟨Φ1, ρ, r1, q⟩

/-! ### while -/
def whileS (fc : Ev Bool) (fb : Es) : Nat → Es
  | 0 => fun _ => .stuck
  | n + 1 => fun ρ => tryE ρ (fc ρ) fun k => if k = true then (match fb ρ with
    | .nx ρ' => whileS fc fb n ρ'
    | .ct ρ' => whileS fc fb n ρ'
    | .bk ρ' => .nx ρ'
    | r => r) else .nx ρ
theorem ss_while (n : Nat) {body : List Stmt} (hp : PassesOwn (model X.prog X.w) X.A X.env X.xe) (hc : ST X cs W c fc) (hb : SSs X cs W np body f) : SS X cs W np (.While c body [] pos) (whileS fc f n) := psImp (ps_while hp hc hb) fun D' σ H ⟨Φ, ρ, r, q⟩ => by
  refine ⟨fun m σ1 H1 => ∃ Φ1 ρ1, Rel X.K Φ1 H1 σ1 ρ1 ∧ RunS X.K cs W np D' (Own σ1 ρ1) σ1 Φ1 H1 (whileS fc f m ρ1), ⟨n, Φ, ρ, r, q⟩, ?_⟩
  rintro m σ1 H1 ⟨Φ1, ρ1, r1, q⟩
  cases m with
  | zero => exact q.elim
  | succ m =>
    refine tG.bindS (rp := rB) r1 q fun Φ2 H2 d v r2 x rep q => ?_
    cases rep
    cases d with
    | false => exact q.nx0 r2
    | true =>
      refine ⟨fun σ' H' => ∃ Φ' ρ', Rel X.K Φ' H' σ' ρ' ∧ RunS X.K cs W np D' (Own σ' ρ') σ' Φ' H' (whileS fc f m ρ'), fun σ' H' h => ⟨m, by omega, h⟩, Φ2, ρ1, r2, ?_⟩
      simp only [if_true] at q
      cases e : f ρ1 with
      | nx ρ' => rw [e] at q; exact fun Φ' H' σ' s' r' t' => ⟨Φ', ρ', r', RunS.step s' t' q⟩
      | ct ρ' => rw [e] at q; exact fun Φ' H' σ' s' r' t' => ⟨Φ', ρ', r', RunS.step s' t' q⟩
      | bk ρ' => rw [e] at q; exact q
      | rt v ρ' => rw [e] at q; exact q
      | exc x ρ' => rw [e] at q; exact q
      | stuck => rw [e] at q; exact q

/-! ### for -/
def forGo (ft : D → R (List (Nat × D))) (fb : Es) : List D → Es
  | [] => fun ρ => .nx ρ
  | d :: ds => fun ρ => tryE ρ (noX (ft d)) fun as => match fb (setS ρ as) with
    | .nx ρ' => forGo ft fb ds ρ'
    | .ct ρ' => forGo ft fb ds ρ'
    | .bk ρ' => .nx ρ'
    | r => r
def forS (fi : Ev (List D)) (ft : D → R (List (Nat × D))) (fb : Es) : Es := fun ρ => tryE ρ (fi ρ) fun ds => forGo ft fb ds ρ
theorem ss_for {gt : TG} {ft : D → R (List (Nat × D))} {fi : Ev (List D)} {iter : Expr} {body : List Stmt} (hp : PassesOwn (model X.prog X.w) X.A X.env X.xe) (hc : X.calm = true) (hi : SIF X cs W tg iter fi) (t : Tgt X tg gt ft) (hnp : ∀ d as, ft d = .ok as → ∀ p ∈ as, np ≤ p.1) (hb : SSs X cs W np body f)
    (hs : ∀ x, foldedSetIterable iter X.env x = pure x := by intro _; rfl) : SS X cs W np (.For tg iter body [] pos) (forS fi ft f) := psImp (ps_for hp hc hi t.pg hb hs) fun D' σ H ⟨Φ, ρ, r, q⟩ => by
  refine tG.bindS (rp := rIF X.K) r q fun Φ1 H1 ds J r1 x1 wk q => ?_
  refine ⟨fun i m σ2 H2 => m = ds.length - i ∧ i ≤ ds.length ∧ ∃ Φ2 ρ2, Same Φ1 Φ2 ∧ Rel X.K Φ2 H2 σ2 ρ2 ∧ RunS X.K cs W np D' (Own σ2 ρ2) σ2 Φ2 H2 (forGo ft f (ds.drop i) ρ2), ⟨ds.length, by simp, Nat.zero_le _, Φ1, ρ, Same.refl _, r1, q⟩, ?_⟩
  rintro i m σ2 H2 ⟨rfl, hi, Φ2, ρ2, m2, r2, q⟩
  by_cases hlt : i < ds.length
  · refine .inr ⟨wk.go Φ2 H2 i m2 r2.sub hlt, fun σ' H' => ∃ Φ' ρ', Same Φ1 Φ' ∧ Rel X.K Φ' H' σ' ρ' ∧ RunS X.K cs W np D' (Own σ' ρ') σ' Φ' H' (forGo ft f (ds.drop (i + 1)) ρ'), fun σ' H' h => ⟨ds.length - (i + 1), by omega, rfl, hlt, h⟩, fun y H3 hy => ?_⟩
    obtain ⟨Φ3, x3, ry⟩ := wk.yld Φ2 H2 i y H3 ds[i] m2 r2.sub (by simp [hlt]) hy
    rw [List.drop_eq_getElem_cons hlt] at q
    unfold forGo at q
    cases e : ft ds[i] with
    | stuck => rw [e] at q; exact q.elim
    | exc z => rw [e] at q; exact q.elim
    | ok as =>
      rw [e] at q
      have q : RunS X.K cs W np D' (Own σ2 ρ2) σ2 Φ2 H2 (match f (setS ρ2 as) with
        | .nx ρ' => forGo ft f (ds.drop (i + 1)) ρ'
        | .ct ρ' => forGo ft f (ds.drop (i + 1)) ρ'
        | .bk ρ' => .nx ρ'
        | r => r) := q
      refine t.run Φ3 H3 σ2 ds[i] y as _ x3.sub ry e fun ws rws => ?_
      have r3 := (r2.ext x3).setMany rws
      have s3 : Stp (Own σ2 ρ2) Φ2 H2 Φ3 H3 (Own (setV σ2 ws) (setS ρ2 as)) := Stp.ofExt x3 fun b ⟨j, w⟩ => .inl ⟨j, ownSetMany rws w⟩
      have t3 := takeSetMany ws σ2 (rws.le (hnp _ as e))
      have q := RunS.step s3 t3 q
      refine ⟨Φ3, _, r3, ?_⟩
      have mm : ∀ {Φ' H' P'}, Stp (Own (setV σ2 ws) (setS ρ2 as)) Φ3 H3 Φ' H' P' → Same Φ1 Φ' := fun s => (m2.trans x3.mono).trans s.mono
      cases e2 : f (setS ρ2 as) with
      | nx ρ' => rw [e2] at q; exact fun Φ' H' σ' s' r' t' => ⟨Φ', ρ', mm s', r', RunS.step s' t' q⟩
      | ct ρ' => rw [e2] at q; exact fun Φ' H' σ' s' r' t' => ⟨Φ', ρ', mm s', r', RunS.step s' t' q⟩
      | bk ρ' => rw [e2] at q; exact q
      | rt v ρ' => rw [e2] at q; exact q
      | exc x ρ' => rw [e2] at q; exact q
      | stuck => rw [e2] at q; exact q
  · refine .inl ⟨wk.stop Φ2 H2 i m2 r2.sub (by omega), ?_⟩
    rw [List.drop_eq_nil_of_le (by omega)] at q
    exact q.nx0 r2
end
end PL

set_option Elab.async false
set_option linter.all false
set_option maxRecDepth 100000
/-! PL6: lists that change, functions -/
namespace PL
set_option autoImplicit false
open PySem PySem.Spec PyProof.Rows L2

section
variable {X : Cx} {cs : Nat → Addr} {W : WX} {np : Nat} {e o tg i : Expr} {es : List Expr} {fe fi fv : Ev D} {fs : Ev (List D)} {pos p apos cpos : Pos}
/-! ### methods that change a list -/
/-- g: the list's items, the arguments, to the answer and the new items -/
abbrev GL := List D → List D → R (D × List D)
def MutL (X : Cx) (r : V → List V → Hp → VK → Prop) (g : GL) : Prop := ∀ (Φ H : Hp) (Q : VK) (a : Addr) (vs us : List V) (ds args : List D) (res : D) (ds' : List D), H a = some (.lst vs) → RepDs X.K Φ ds vs → RepDs X.K Φ args us → g ds args = .ok (res, ds') →
  (∀ v' vs', RepD X.K Φ res v' → RepDs X.K Φ ds' vs' → Q v' (upd H a (.lst vs'))) → r (.ref a) us H Q
def mutS (i : Nat) (g : GL) (fs : Ev (List D)) (k : D → List Sl → RS) : Es := fun ρ => match ρ[i]? with
  | some (.own (.lst ds)) => tryE ρ (fs ρ) fun args => match g ds args with
    | .ok (res, ds') => k res (ρ.set i (.own (.lst ds')))
    | _ => .stuck
  | _ => .stuck
theorem runMut {r : V → List V → Hp → VK → Prop} {g : GL} (m : MutL X r g) {j : Nat} {D' : Ends} {σ : L2.St} {ρ : List Sl} {Φ H : Hp} {k : D → List Sl → RS} {G : VK} (rl : Rel X.K Φ H σ ρ)
    (q : RunS X.K cs W np D' (Own σ ρ) σ Φ H (mutS j g fs k ρ)) (c : ∀ Φ1 H1 res v ρ1, Rel X.K Φ1 H1 σ ρ1 → RepD X.K Φ1 res v → RunS X.K cs W np D' (Own σ ρ1) σ Φ1 H1 (k res ρ1) → G v H1) :
    ∃ v, σ[j]? = some (some v) ∧ tyV X.K "list" v H ∧ tG X.K cs (rDs X.K) W fs σ H fun us H1 => r v us H1 G := by
  unfold mutS at q
  split at q
  next ds e =>
    obtain ⟨a, h1, h2, h3⟩ := rl.own j _ e
    cases h2 with
    | lst h2 h4 =>
      refine ⟨_, h1, .inl ⟨rfl, _, SqL.of h2⟩, tG.bindS (rp := rDs X.K) rl q fun Φ1 H1 args us r1 x rep q => ?_⟩
      split at q
      next res ds' eg =>
        refine m Φ1 H1 G a _ us ds args res ds' (x.heap _ _ h2) (h4.mono x.mono) rep eg fun v' vs' w1 w2 => ?_
        obtain ⟨r2, s2⟩ := r1.mut (d' := .lst ds') (u := .lst vs') h1 e (.lst upd_same w2)
        exact c Φ1 _ res v' _ r2 w1 (RunS.step s2 rfl q)
      next => exact q.elim
  next => exact q.elim
def gAppend : GL
  | ds, [d] => if ds.length < LIM then .ok (.non, ds ++ [d]) else .stuck
  | _, _ => .stuck
theorem RepDs.one {K : PySem.W.Frag} {Φ : Hp} {d : D} {vs : List V} (h : RepDs K Φ [d] vs) : ∃ v, vs = [v] ∧ RepD K Φ d v := by
  cases h with
  | cons h r => cases r; exact ⟨_, rfl, h⟩
theorem mu_append : MutL X rAppend gAppend := fun Φ H Q a vs us ds args res ds' ha hd hr e k => by
  unfold gAppend at e
  split at e
  · split at e
    next hl =>
      cases e
      obtain ⟨v, rfl, h⟩ := hr.one
      exact ⟨a, vs, v, rfl, rfl, ha, by rw [← hd.length]; exact lim_lt (by omega), k _ _ .non (hd.append (.cons h .nil))⟩
    next => cases e
  · cases e
def gPop : GL
  | ds, [] => (oR ds[ds.length - 1]?).bind fun d => .ok (d, ds.dropLast)
  | _, _ => .stuck
theorem mu_pop : MutL X rPop gPop := fun Φ H Q a vs us ds args res ds' ha hd hr e k => by
  unfold gPop at e
  split at e
  · cases hr
    cases e1 : ds[ds.length - 1]? with
    | none => rw [e1] at e; cases e
    | some d =>
      rw [e1] at e
      cases e
      obtain ⟨v, h1, h2⟩ := hd.get e1
      exact ⟨a, vs, v, rfl, rfl, ha, by rw [← hd.length]; exact h1, k _ _ h2 hd.dropLast⟩
  · cases e
def gPopAt : GL
  | ds, [.int i] => if -(2 ^ 63) ≤ i ∧ i < 2 ^ 63 then (oR (seqIndex? i ds.length)).bind fun j => (oR ds[j]?).bind fun d => .ok (d, ds.eraseIdx j) else .stuck
  | _, _ => .stuck
theorem mu_popAt : MutL X rPopAt gPopAt := fun Φ H Q a vs us ds args res ds' ha hd hr e k => by
  unfold gPopAt at e
  split at e
  · split at e
    next hl =>
      obtain ⟨u, rfl, h⟩ := hr.one
      cases h
      obtain ⟨j, e1, e⟩ := R.bind_ok e
      obtain ⟨d, e2, e⟩ := R.bind_ok e
      cases e
      cases e3 : seqIndex? _ ds.length with
      | none => rw [e3] at e1; cases e1
      | some j' =>
        rw [e3] at e1; cases e1
        cases e4 : ds[j]? with
        | none => rw [e4] at e2; cases e2
        | some d' =>
          rw [e4] at e2; cases e2
          obtain ⟨v, h1, h2⟩ := hd.get e4
          exact ⟨a, vs, _, j, v, rfl, rfl, ha, hl.1, hl.2, by rw [← hd.length]; exact e3, h1, k _ _ h2 (hd.eraseIdx j)⟩
    next => cases e
  · cases e
def gReverse : GL
  | ds, [] => .ok (.non, ds.reverse)
  | _, _ => .stuck
theorem mu_reverse : MutL X rReverse gReverse := fun Φ H Q a vs us ds args res ds' ha hd hr e k => by
  unfold gReverse at e
  split at e
  · cases hr; cases e
    exact ⟨a, vs, rfl, rfl, ha, k _ _ .non hd.reverse⟩
  · cases e
def gClear : GL
  | ds, [] => .ok (.non, [])
  | _, _ => .stuck
theorem mu_clear : MutL X rClear gClear := fun Φ H Q a vs us ds args res ds' ha hd hr e k => by
  unfold gClear at e
  split at e
  · cases hr; cases e
    exact ⟨a, vs, rfl, rfl, ha, k _ _ .non .nil⟩
  · cases e
abbrev kNx : D → List Sl → RS := fun _ ρ => .nx ρ
abbrev kAsg (ft : D → R (List (Nat × D))) : D → List Sl → RS := fun d ρ => tryE ρ (ft d) fun as => .nx (setS ρ as)
/-- x.m(e) as a statement -/
theorem ss_mut1 {r : V → List V → Hp → VK → Prop} {g : GL} {name x : Str} {id : String} (j : Nat) (m : MutL X r g) (slot : Slot "list" name id) (hty : typeOf (.builtin id) = pure (.type "method_descriptor")) (hm : MtR X id r) (ha : SAd X cs W (e :: es) fs)
    (hN : X.N[j]? = some x := by rfl) (hv : Vis X.env.scope x := by first | exact Or.inl rfl | exact Or.inr (Or.inl rfl) | exact Or.inr (Or.inr rfl)) (hd : (x == ("__debug__" : Str)) = false := by decide) (hcd : (x == ("__classdict__" : Str)) = false := by decide)
    (hbase : attributeBase (.Name x p) name X.env (eval (.Name x p) X.env) = eval (.Name x p) X.env := by rfl)
    (hfew : ((backTo cpos (starEach (e :: es) X.env)).all (fun x => !x.1) && (backToKw cpos (keywordEach [] X.env)).all (fun x => x.1.isSome)
      && decide ((e :: es).length + ([] : List Keyword).length + (if ([] : List Keyword).isEmpty then 0 else 1) < 30)) = true := by rfl)
    (hline : (apos.endLine == cpos.line) = true := by rfl) (hs : starEach (e :: es) X.env = (false, eval e X.env) :: starEach es X.env := by rfl) (hplain : (backTo cpos (starEach es X.env)).any (·.1) = false := by rfl)
    (hsw : swapsWith (.Call (.Attribute (.Name x p) name apos) (e :: es) [] cpos) none pos.line X.env = pure false := by rfl) :
    SS X cs W np (.Expr (.Call (.Attribute (.Name x p) name apos) (e :: es) [] cpos) pos) (mutS j g fs kNx) :=
  psImp (ps_expr (pe_bm PySem.F.plainAttrs_list slot hty hm (pe_var hN hv hd hcd) ha hbase hfew hline hs hplain) hsw) fun D' σ H ⟨Φ, ρ, r, q⟩ => runMut m r q fun Φ1 H1 res v ρ1 r1 _ q => q.nx0 r1
/-- x.m() as a statement -/
theorem ss_mut0 {r : V → List V → Hp → VK → Prop} {g : GL} {name x : Str} {id : String} (j : Nat) (m : MutL X r g) (slot : Slot "list" name id) (hty : typeOf (.builtin id) = pure (.type "method_descriptor")) (hm : MtR X id r)
    (hN : X.N[j]? = some x := by rfl) (hv : Vis X.env.scope x := by first | exact Or.inl rfl | exact Or.inr (Or.inl rfl) | exact Or.inr (Or.inr rfl)) (hd : (x == ("__debug__" : Str)) = false := by decide) (hcd : (x == ("__classdict__" : Str)) = false := by decide)
    (hbase : attributeBase (.Name x p) name X.env (eval (.Name x p) X.env) = eval (.Name x p) X.env := by rfl) (hline : (apos.endLine == cpos.line) = true := by rfl)
    (hsw : swapsWith (.Call (.Attribute (.Name x p) name apos) [] [] cpos) none pos.line X.env = pure false := by rfl) :
    SS X cs W np (.Expr (.Call (.Attribute (.Name x p) name apos) [] [] cpos) pos) (mutS j g aNil kNx) :=
  psImp (ps_expr (pe_bm0 PySem.F.plainAttrs_list slot hty hm (pe_var hN hv hd hcd) hbase hline) hsw) fun D' σ H ⟨Φ, ρ, r, q⟩ => by
    obtain ⟨v, h1, h2, Φ', ρ', r', q'⟩ := runMut (fs := aNil) (G := fun _ H1 => D'.nx σ H1) m r q fun Φ1 H1 res v ρ1 r1 _ q => q.nx0 r1
    exact ⟨v, h1, h2, q'.ok r'.sub .nil⟩
/-- target = x.m() -/
theorem ss_mutA0 {r : V → List V → Hp → VK → Prop} {g : GL} {name x : Str} {id : String} {gt : TG} {ft : D → R (List (Nat × D))} (j : Nat) (t : Tgt X tg gt ft) (hnp : ∀ d as, ft d = .ok as → ∀ p ∈ as, np ≤ p.1) (hx : ∀ d x, ft d ≠ .exc x) (m : MutL X r g) (slot : Slot "list" name id) (hty : typeOf (.builtin id) = pure (.type "method_descriptor")) (hm : MtR X id r)
    (hN : X.N[j]? = some x := by rfl) (hv : Vis X.env.scope x := by first | exact Or.inl rfl | exact Or.inr (Or.inl rfl) | exact Or.inr (Or.inr rfl)) (hd : (x == ("__debug__" : Str)) = false := by decide) (hcd : (x == ("__classdict__" : Str)) = false := by decide)
    (hbase : attributeBase (.Name x p) name X.env (eval (.Name x p) X.env) = eval (.Name x p) X.env := by rfl) (hline : (apos.endLine == cpos.line) = true := by rfl)
    (hs : swapsWithSole [tg] (.Call (.Attribute (.Name x p) name apos) [] [] cpos) pos.line X.env = pure false := by rfl) (hw : swappedStores [tg] (.Call (.Attribute (.Name x p) name apos) [] [] cpos) X.env = pure none := by rfl)
    (h1 : (assignEach [tg] X.env).map (·.2) = [assign tg X.env] := by rfl) :
    SS X cs W np (.Assign [tg] (.Call (.Attribute (.Name x p) name apos) [] [] cpos) pos) (mutS j g aNil (kAsg ft)) :=
  psImp (ps_asg (pe_bm0 PySem.F.plainAttrs_list slot hty hm (pe_var hN hv hd hcd) hbase hline) t.pg hs hw h1) fun D' σ H ⟨Φ, ρ, r, q⟩ => by
    obtain ⟨v, h1, h2, Φ', ρ', r', q'⟩ := runMut (fs := aNil) (G := fun v H1 => gt v σ H1 D'.nx) m r q fun Φ1 H1 res v ρ1 r1 rep q => runAsg t hnp hx r1 rep q
    exact ⟨v, h1, h2, q'.ok r'.sub .nil⟩
end

/-! ### functions -/
inductive RF where
  | ok (r : Sl) (fin : List Sl) | exc (x : Exn) (fin : List Sl) | stuck
abbrev Fn := List Sl → RF
abbrev vS (vs : List V) : L2.St := vs.map some
def RunF (K : PySem.W.Frag) (cs : Nat → Addr) (vs : List V) (args : List Sl) (Φ H : Hp) (Q : VK) (E : XK) : RF → Prop
  | .ok r fin => ∀ Φ' H' v, Stp (Own (vS vs) args) Φ H Φ' H' (Own (vS vs ++ [some v]) (fin ++ [r])) → Rel K Φ' H' (vS vs ++ [some v]) (fin ++ [r]) → Q v H'
  | .exc x fin => ∀ Φ' H' c dd, Stp (Own (vS vs) args) Φ H Φ' H' (Own (vS vs) fin) → Rel K Φ' H' (vS vs) fin → RepX cs Φ' H' x c dd → E c dd H'
  | .stuck => False
/-- what a function promises: n parameters, G on data -/
def spG (K : PySem.W.Frag) (cs : Nat → Addr) (n : Nat) (G : Fn) : Sp := fun vs H Q E => vs.length = n ∧ ∃ Φ args, Rel K Φ H (vS vs) args ∧ RunF K cs vs args Φ H Q E (G args)
def Sl.isVal : Sl → Bool
  | .val _ => true
  | _ => false
def finOf (n np : Nat) (args ρ : List Sl) : List Sl := if n ≤ np then ρ.take n else args
/-- a function from its body: N slots, n parameters, np of them never stored to -/
def bodyF (N n np : Nat) (fb : Es) : Fn := fun args => if n ≤ np ∨ args.all Sl.isVal = true then (match fb (args ++ List.replicate (N - n) .emp) with
  | .rt r ρ => .ok r (finOf n np args ρ)
  | .nx ρ => .ok (.val .non) (finOf n np args ρ)
  | .exc x ρ => .exc x (finOf n np args ρ)
  | _ => .stuck) else .stuck

section
variable {K : PySem.W.Frag} {Φ H : Hp} {σ σ2 : L2.St} {ρ ρ2 : List Sl}
theorem Rel.pick (r : Rel K Φ H σ ρ) (hl : σ2.length = ρ2.length) (f : Nat → Nat) (inj : ∀ i j, f i = f j → i = j) (h : ∀ (j : Nat) (s : Sl), ρ2[j]? = some s → s ≠ .emp → ρ[f j]? = some s ∧ σ[f j]? = σ2[j]?) : Rel K Φ H σ2 ρ2 := by
  have ow : ∀ j a, OwnAt σ2 ρ2 j a → OwnAt σ ρ (f j) a := fun j a ⟨h1, d, h2⟩ => by
    obtain ⟨e1, e2⟩ := h j _ h2 (by simp)
    exact ⟨e2.trans h1, d, e1⟩
  refine ⟨r.sub, hl, fun j d e => ?_, fun j d e => ?_, fun i j a h1 h2 => inj _ _ (r.sep _ _ a (ow _ _ h1) (ow _ _ h2))⟩
  · obtain ⟨e1, e2⟩ := h j _ e (by simp)
    obtain ⟨v, h1, h2⟩ := r.val _ _ e1
    exact ⟨v, e2.symm.trans h1, h2⟩
  · obtain ⟨e1, e2⟩ := h j _ e (by simp)
    obtain ⟨v, h1, h2⟩ := r.own _ _ e1
    exact ⟨v, e2.symm.trans h1, h2⟩
theorem ownPick (f : Nat → Nat) (h : ∀ (j : Nat) (s : Sl), ρ2[j]? = some s → s ≠ .emp → ρ[f j]? = some s ∧ σ[f j]? = σ2[j]?) {a : Addr} (w : Own σ2 ρ2 a) : Own σ ρ a := by
  obtain ⟨j, h1, d, h2⟩ := w
  obtain ⟨e1, e2⟩ := h j _ h2 (by simp)
  exact ⟨f j, e2.trans h1, d, e1⟩
theorem padAt {k : Nat} {j : Nat} {s : Sl} (h : (ρ ++ List.replicate k Sl.emp)[j]? = some s) (hs : s ≠ .emp) : ρ[j]? = some s := by
  by_cases hj : j < ρ.length
  · rwa [List.getElem?_append_left hj] at h
  · rw [List.getElem?_append_right (by omega), List.getElem?_replicate] at h
    split at h
    · cases h; exact absurd rfl hs
    · cases h
theorem Rel.pad (r : Rel K Φ H σ ρ) (k : Nat) : Rel K Φ H (σ ++ List.replicate k none) (ρ ++ List.replicate k .emp) :=
  r.pick (by simp [r.len]) id (fun _ _ e => e) fun j s e hs => by
    have e' := padAt e hs
    exact ⟨e', by rw [List.getElem?_append_left (by rw [r.len]; exact (List.getElem?_eq_some_iff.mp e').1)]; rfl⟩
theorem ownPad (hl : σ.length = ρ.length) {k : Nat} {a : Addr} (w : Own (σ ++ List.replicate k none) (ρ ++ List.replicate k .emp) a) : Own σ ρ a :=
  ownPick id (fun j s e hs => by
    have e' := padAt e hs
    exact ⟨e', by rw [List.getElem?_append_left (by rw [hl]; exact (List.getElem?_eq_some_iff.mp e').1)]; rfl⟩) w
theorem ownPad' (hl : σ.length = ρ.length) {k : Nat} {a : Addr} (w : Own σ ρ a) : Own (σ ++ List.replicate k none) (ρ ++ List.replicate k .emp) a := by
  obtain ⟨j, h1, d, h2⟩ := w
  exact ⟨j, by rw [List.getElem?_append_left (List.getElem?_eq_some_iff.mp h1).1]; exact h1, d, by rw [List.getElem?_append_left (List.getElem?_eq_some_iff.mp h2).1]; exact h2⟩
/-- of a frame, the first n slots and the last one -/
def ends (n m : Nat) (j : Nat) : Nat := if j < n then j else m + (j - n)
theorem ends_inj {n m : Nat} (h : n ≤ m) (i j : Nat) (e : ends n m i = ends n m j) : i = j := by
  unfold ends at e
  split at e <;> split at e <;> omega
theorem ends_ok {n : Nat} {x : Option V} {r : Sl} (hl : σ.length = ρ.length) (hn : n ≤ ρ.length) (j : Nat) (s : Sl) (h : (ρ.take n ++ [r])[j]? = some s) (_ : s ≠ .emp) :
    (ρ ++ [r])[ends n ρ.length j]? = some s ∧ (σ ++ [x])[ends n ρ.length j]? = (σ.take n ++ [x])[j]? := by
  have l1 : (ρ.take n).length = n := by rw [List.length_take]; omega
  have l2 : (σ.take n).length = n := by rw [List.length_take, hl]; omega
  unfold ends
  split
  next hj =>
    rw [List.getElem?_append_left (by omega)] at h
    rw [List.getElem?_append_left (by omega), List.getElem?_append_left (by omega), List.getElem?_append_left (by omega)]
    rw [List.getElem?_take, if_pos hj] at h
    rw [List.getElem?_take, if_pos hj]
    exact ⟨h, rfl⟩
  next hj =>
    rw [List.getElem?_append_right (by omega), l1] at h
    rw [List.getElem?_append_right (by omega), List.getElem?_append_right (by omega), List.getElem?_append_right (by omega), l2, hl]
    rw [show ρ.length + (j - n) - ρ.length = j - n by omega]
    exact ⟨h, rfl⟩
end

theorem allVal {args : List Sl} (h : args.all Sl.isVal = true) {j : Nat} {s : Sl} (e : args[j]? = some s) : ∃ d, s = .val d := by
  have z := List.all_eq_true.mp h s (List.mem_of_getElem? e)
  cases s with
  | val d => exact ⟨d, rfl⟩
  | emp => cases z
  | own d => cases z
theorem Rel.vals {K : PySem.W.Frag} {Φ H Φ' H' : Hp} {σ : L2.St} {ρ : List Sl} (r : Rel K Φ H σ ρ) (h : ρ.all Sl.isVal = true) (m : Same Φ Φ') (s : Same Φ' H') : Rel K Φ' H' σ ρ := by
  refine ⟨s, r.len, fun j d e => ?_, fun j d e => ?_, fun i j a ⟨_, d, e⟩ _ => ?_⟩
  · obtain ⟨v, h1, h2⟩ := r.val j d e
    exact ⟨v, h1, h2.mono m⟩
  · obtain ⟨_, z⟩ := allVal h e; cases z
  · obtain ⟨_, z⟩ := allVal h e; cases z
theorem ownVals {σ : L2.St} {ρ : List Sl} (h : ρ.all Sl.isVal = true) {a : Addr} : ¬ Own σ ρ a := fun ⟨j, _, d, e⟩ => by
  obtain ⟨_, z⟩ := allVal h e; cases z
theorem Rel.lastOnly {K : PySem.W.Frag} {Φ H : Hp} {σ τ : L2.St} {ρ ξ : List Sl} {x : Option V} {r : Sl} (h : Rel K Φ H (σ ++ [x]) (ρ ++ [r])) (hl : σ.length = ρ.length) (g : Rel K Φ H τ ξ) (hv : ξ.all Sl.isVal = true) : Rel K Φ H (τ ++ [x]) (ξ ++ [r]) := by
  have last : ∀ {s : Sl}, s = r → (ρ ++ [r])[ρ.length]? = some s := fun e => by subst e; simp
  have lx : (σ ++ [x])[ρ.length]? = some x := by rw [← hl]; simp
  have tx : (τ ++ [x])[ξ.length]? = some x := by rw [← g.len]; simp
  refine ⟨g.sub, by simp [g.len], fun j d e => ?_, fun j d e => ?_, fun i j a ⟨_, d, e⟩ ⟨_, d', e'⟩ => ?_⟩
  · rcases getApp e with e | ⟨hj, e1⟩
    · obtain ⟨v, h1, h2⟩ := g.val j d e
      exact ⟨v, by rw [List.getElem?_append_left (List.getElem?_eq_some_iff.mp h1).1]; exact h1, h2⟩
    · obtain ⟨v, h1, h2⟩ := h.val _ d (last e1.symm)
      rw [lx] at h1
      exact ⟨v, by rw [hj, tx]; exact h1, h2⟩
  · rcases getApp e with e | ⟨hj, e1⟩
    · obtain ⟨_, z⟩ := allVal hv e; cases z
    · obtain ⟨v, h1, h2⟩ := h.own _ d (last e1.symm)
      rw [lx] at h1
      exact ⟨v, by rw [hj, tx]; exact h1, h2⟩
  · rcases getApp e with e | ⟨hi, e1⟩
    · obtain ⟨_, z⟩ := allVal hv e; cases z
    · rcases getApp e' with e' | ⟨hj, e2⟩
      · obtain ⟨_, z⟩ := allVal hv e'; cases z
      · rw [hi, hj]
theorem ownLast {σ τ : L2.St} {ρ ξ : List Sl} {x : Option V} {r : Sl} (hl : σ.length = ρ.length) (hl2 : τ.length = ξ.length) (hv : ξ.all Sl.isVal = true) {a : Addr} (w : Own (τ ++ [x]) (ξ ++ [r]) a) : Own (σ ++ [x]) (ρ ++ [r]) a := by
  obtain ⟨j, h1, d, e⟩ := w
  rcases getApp e with e | ⟨hj, e1⟩
  · obtain ⟨_, z⟩ := allVal hv e; cases z
  · rw [hj, ← hl2] at h1
    simp at h1
    exact ⟨ρ.length, by rw [← hl]; simp [h1], d, by simp [e1]⟩

/-- THE RULE for a def -/
theorem okF {P : Program} {w : World} {K : PySem.W.Frag} {mg : Str → Option Value} {base : Heap} {x qual : Str} {st : Stmt} {f : Addr} {fd : FuncData} {N ps : List Str} {k : Nat} (F : Fun K x qual st f fd) (S : FnScope N ps (defScope st)) (cs : Nat → Addr) (np : Nat) (fb : Es)
    (hb : ∀ (cdv : Value) (A : Around) (outer : List PySem.Env) (s : Shared) (H : Hp) (E : XK), Room k (A.deeper (envOfC qual (defScope st) s.heap.objs.size f cdv)) →
      SSs (cxOf (L2.CX P w) P w K mg base N qual (defScope st) f cdv A outer s H E) cs (fun c d _ H => E c d H) np (defBody st) fb) :
    FnOk P w K mg base (L2.CX P w) (k + 1) f fd ps (spG K cs ps.length (bodyF N.length ps.length np fb)) := by
  refine F.okX S (fun vs H Q E h => h.1) fun cdv A outer s H vs Q E hr hsp => ⟨_, hb cdv A outer s H E hr, ?_⟩
  obtain ⟨hlen, Φ, args, r, q⟩ := hsp
  have hal : args.length = ps.length := by rw [← r.len, List.length_map, hlen]
  have hst : L2.start N vs = vS vs ++ List.replicate (N.length - ps.length) none := by unfold L2.start; rw [hlen]
  have hps : ps.length ≤ N.length := by have := congrArg List.length S.pre; rw [List.length_take] at this; omega
  rw [hst]
  refine ⟨Φ, args ++ List.replicate (N.length - ps.length) Sl.emp, r.pad (N.length - ps.length), ?_⟩
  unfold bodyF at q
  split at q
  case isFalse => exact q.elim
  next hg =>
  have own0 : ∀ {P' : Addr → Prop} {Φ' H'}, Stp (Own (vS vs ++ List.replicate (N.length - ps.length) none) (args ++ List.replicate (N.length - ps.length) .emp)) Φ H Φ' H' P' → Stp (Own (vS vs) args) Φ H Φ' H' P' := fun s =>
    ⟨s.mono, fun b o e hn => s.frame b o e fun w => hn (ownPad r.len w), fun b p => (s.own b p).imp (ownPad r.len) id, fun b o e => (s.new b o e).imp id (Or.imp (ownPad r.len) id)⟩
  have take0 : ∀ {σ' : L2.St}, ps.length ≤ np → σ'.take np = (vS vs ++ List.replicate (N.length - ps.length) none).take np → σ'.take ps.length = vS vs := fun {σ'} hle ht => by
    have h1 := congrArg (List.take ps.length) ht
    rw [List.take_take, List.take_take, Nat.min_eq_left hle] at h1
    rw [h1, List.take_append_of_le_length (by simp [hlen])]
    exact List.take_of_length_le (by simp [hlen])
  have main : ∀ (rr : Sl) (ρ' : List Sl) (σ' : L2.St) (v : V) (Φ' H' : Hp), RunF K cs vs args Φ H Q E (.ok rr (finOf ps.length np args ρ')) → Stp (Own (vS vs) args) Φ H Φ' H' (Own (σ' ++ [some v]) (ρ' ++ [rr])) → Rel K Φ' H' (σ' ++ [some v]) (ρ' ++ [rr]) → (ps.length ≤ np → σ'.take ps.length = vS vs) → Q v H' := fun rr ρ' σ' v Φ' H' q s r' t => by
    have hl' : σ'.length = ρ'.length := by simpa using r'.len
    unfold finOf at q
    split at q
    next hnp =>
      have hle : ps.length ≤ ρ'.length := by
        have h1 := congrArg List.length (t hnp)
        rw [List.length_take, List.length_map] at h1
        omega
      have hpick := fun j s h hs => ends_ok (σ := σ') (ρ := ρ') (n := ps.length) (x := some v) (r := rr) hl' hle j s h hs
      rw [t hnp] at hpick
      refine q Φ' H' v ⟨s.mono, s.frame, fun b p => s.own b (ownPick _ hpick p), s.new⟩ (r'.pick ?_ _ (ends_inj hle) hpick)
      simp [hlen, List.length_take]; omega
    next hnp =>
      have hv : args.all Sl.isVal = true := hg.resolve_left hnp
      exact q Φ' H' v ⟨s.mono, s.frame, fun b p => s.own b (ownLast hl' r.len hv p), s.new⟩ (r'.lastOnly hl' (r.vals hv s.mono r'.sub) hv)
  have mainX : ∀ (x : Exn) (ρ' : List Sl) (σ' : L2.St) (Φ' H' : Hp) (c : Value) (dd : Option Addr), RunF K cs vs args Φ H Q E (.exc x (finOf ps.length np args ρ')) → Stp (Own (vS vs) args) Φ H Φ' H' (Own σ' ρ') → Rel K Φ' H' σ' ρ' → (ps.length ≤ np → σ'.take ps.length = vS vs) → RepX cs Φ' H' x c dd → E c dd H' := fun x ρ' σ' Φ' H' c dd q s r' t hx => by
    have hl' : σ'.length = ρ'.length := r'.len
    unfold finOf at q
    split at q
    next hnp =>
      have hle : ps.length ≤ ρ'.length := by
        have h1 := congrArg List.length (t hnp)
        rw [List.length_take, List.length_map] at h1
        omega
      have hpick : ∀ (j : Nat) (s : Sl), (ρ'.take ps.length)[j]? = some s → s ≠ .emp → ρ'[id j]? = some s ∧ σ'[id j]? = (vS vs)[j]? := fun j s h _ => by
        have hj : j < ps.length := by
          have := (List.getElem?_eq_some_iff.mp h).1
          rw [List.length_take] at this; omega
        rw [← t hnp]
        rw [List.getElem?_take, if_pos hj] at h
        exact ⟨h, by rw [List.getElem?_take, if_pos hj]; rfl⟩
      exact q Φ' H' c dd ⟨s.mono, s.frame, fun b p => s.own b (ownPick id hpick p), s.new⟩ (r'.pick (by simp [hlen, List.length_take]; omega) id (fun _ _ e => e) hpick) hx
    next hnp =>
      have hv : args.all Sl.isVal = true := hg.resolve_left hnp
      exact q Φ' H' c dd ⟨s.mono, s.frame, fun b p => absurd p (ownVals hv), s.new⟩ (r.vals hv s.mono r'.sub) hx
  cases e : fb (args ++ List.replicate (N.length - ps.length) .emp) with
  | stuck => rw [e] at q; exact q.elim
  | bk ρ' => rw [e] at q; exact q.elim
  | ct ρ' => rw [e] at q; exact q.elim
  | exc x ρ' =>
    rw [e] at q
    exact fun Φ' H' σ' c dd s' r' t' hx => mainX x ρ' σ' Φ' H' c dd q (own0 s') r' (fun hle => take0 hle t') hx
  | rt rr ρ' =>
    rw [e] at q
    exact fun Φ' H' σ' v s' r' t' => main rr ρ' σ' v Φ' H' q (own0 s') r' fun hle => take0 hle t'
  | nx ρ' =>
    rw [e] at q
    intro Φ' H' σ' s' r' t'
    refine main (.val .non) ρ' σ' .non Φ' H' q ?_ (r'.push .non) fun hle => take0 hle t'
    have s0 := own0 s'
    exact ⟨s0.mono, s0.frame, fun b p => s0.own b (ownPush r'.len p), s0.new⟩

/-! ### calls of functions on data alone -/
def eFn (G : Fn) (fs : Ev (List D)) : Ev D := fun ρ => (fs ρ).bind fun ds => match G (ds.map .val) with
  | .ok (.val d) _ => .ok d
  | .ok (.own d) _ => .ok d
  | .exc x _ => .exc x
  | _ => .stuck
def eFnN (G : Fn) (fs : Ev (List D)) : Ev D := fun ρ => (fs ρ).bind fun ds => match G (ds.map .val) with
  | .ok (.own d) _ => .ok d
  | .exc x _ => .exc x
  | _ => .stuck
section
variable {X : Cx} {cs : Nat → Addr} {W : WX} {e : Expr} {es : List Expr} {fs : Ev (List D)} {pos p : Pos} {x : Str}
theorem valsAll (ds : List D) : (ds.map Sl.val).all Sl.isVal = true := List.all_eq_true.mpr fun s h => by
  obtain ⟨d, _, rfl⟩ := List.mem_map.mp h
  rfl
theorem relVals {K : PySem.W.Frag} {Φ H : Hp} (s : Same Φ H) {ds : List D} {vs : List V} (h : RepDs K Φ ds vs) : Rel K Φ H (vS vs) (ds.map .val) := by
  refine ⟨s, by simp [h.length], fun j d e => ?_, fun j d e => ?_, fun i j a ⟨_, d, e⟩ _ => ?_⟩
  · rw [List.getElem?_map] at e
    cases e2 : ds[j]? with
    | none => rw [e2] at e; cases e
    | some d' =>
      rw [e2] at e; cases e
      obtain ⟨v, h1, h2⟩ := h.get e2
      exact ⟨v, by simp [h1], h2⟩
  · obtain ⟨_, z⟩ := allVal (valsAll ds) e; cases z
  · obtain ⟨_, z⟩ := allVal (valsAll ds) e; cases z
/-- a step that owns nothing is growth -/
theorem Stp.ext {P P' : Addr → Prop} {Φ H Φ' H' : Hp} (s : Stp P Φ H Φ' H' P') (h : ∀ a, ¬ P a) (sub : Same Φ' H') : Ext Φ H Φ' H' :=
  ⟨s.mono, fun b o e => s.frame b o e (h b), sub, fun b o e => by
    rcases s.new b o e with z | z | z
    · exact .inl z
    · exact absurd z (h b)
    · exact .inr z⟩
theorem Rel.last {K : PySem.W.Frag} {Φ H : Hp} {σ : L2.St} {ρ : List Sl} {v : V} {d : D} (r : Rel K Φ H (σ ++ [some v]) (ρ ++ [.val d])) : RepD K Φ d v := by
  have hl : σ.length = ρ.length := by simpa using r.len
  obtain ⟨u, h1, h2⟩ := r.val ρ.length d (by simp)
  rw [← hl] at h1
  simp at h1
  subst h1
  exact h2
theorem Rel.lastOwn {K : PySem.W.Frag} {Φ H : Hp} {σ : L2.St} {ρ : List Sl} {v : V} {d : D} (r : Rel K Φ H (σ ++ [some v]) (ρ ++ [.own d])) : ∃ a, v = .ref a ∧ RepOwn K Φ H d a ∧ Φ a = none ∧ Own (σ ++ [some v]) (ρ ++ [.own d]) a := by
  have hl : σ.length = ρ.length := by simpa using r.len
  obtain ⟨a, h1, h2, h3⟩ := r.own ρ.length d (by simp)
  have h1' := h1
  rw [← hl] at h1
  simp at h1
  subst h1
  exact ⟨a, rfl, h2, h3, ρ.length, h1', d, by simp⟩
theorem runFn {n : Nat} {G : Fn} {ds : List D} {vs : List V} {σ : L2.St} {Φ H : Hp} {Q : VK} (s : Same Φ H) (h : RepDs X.K Φ ds vs) (hn : ds.length = n)
    (q : RunN X.K cs W σ Φ H Q (match G (ds.map .val) with
      | .ok (.own d) _ => .ok d
      | .exc x _ => .exc x
      | _ => .stuck) ∨ Run cs (rD X.K) W σ Φ H Q (match G (ds.map .val) with
      | .ok (.val d) _ => .ok d
      | .ok (.own d) _ => .ok d
      | .exc x _ => .exc x
      | _ => .stuck)) : spG X.K cs n G vs H Q (WE W σ) := by
  refine ⟨by rw [← h.length]; exact hn, Φ, ds.map .val, relVals s h, ?_⟩
  have no : ∀ a, ¬ Own (vS vs) (ds.map .val) a := fun a => ownVals (valsAll ds)
  cases e : G (ds.map .val) with
  | stuck => rw [e] at q; rcases q with q | q <;> exact q.elim
  | exc x fin =>
    rw [e] at q
    intro Φ' H' c dd s' r' hx
    have x' := s'.ext no r'.sub
    rcases q with q | q <;> exact q Φ' H' c dd x' hx
  | ok r fin =>
    rw [e] at q
    intro Φ' H' v s' r'
    have x' := s'.ext no r'.sub
    cases r with
    | emp => rcases q with q | q <;> exact q.elim
    | val d =>
      rcases q with q | q
      · exact q.elim
      · exact q Φ' H' v x' r'.last
    | own d =>
      obtain ⟨a, rfl, h2, h3, h4⟩ := r'.lastOwn
      have hb : H a = none := (s'.own a h4).resolve_left (no a)
      rcases q with q | q
      · exact q Φ' H' a x' hb h3 h2
      · obtain ⟨o, e1, e2, e3⟩ := h2.freeze h3
        exact q _ H' _ (x'.freeze hb h3 e1) e2
theorem sd_call {k n : Nat} {f : Addr} {fd : FuncData} {ps : List Str} {G : Fn} (F : FnOk X.prog X.w X.K X.mg X.base (L2.CX X.prog X.w) k f fd ps (spG X.K cs n G)) (hr : Room k X.A) (hg : Gl X x) (hm : X.mg x = some (.ref f)) (hk : PySem.W.keepIn X.K (.ref f) = true) (hb : Binds X.K fd ps [])
    (tk : Takes X W) (ha : SAd X cs W (e :: es) fs) (hl : ∀ ρ ds, fs ρ = .ok ds → ds.length = n) (hdb : (x == ("__debug__" : Str)) = false := by decide) (he : starEach (e :: es) X.env = (false, eval e X.env) :: starEach es X.env := by rfl) (hpl : (backTo pos (starEach es X.env)).any (·.1) = false := by rfl) :
    SD X cs W (.Call (.Name x p) (e :: es) [] pos) (eFn G fs) := peImp (pe_callS F hr hg hm hk hb (fun σ => passAt tk σ) ha hdb he hpl) fun σ H Q ⟨Φ, ρ, r, q⟩ =>
  tG.bind' (rp := rDs X.K) r q fun Φ1 H1 ds vs e1 r1 x rep q => runFn r1.sub rep (hl ρ ds e1) (.inr q)
theorem sn_call {k n : Nat} {f : Addr} {fd : FuncData} {ps : List Str} {G : Fn} (F : FnOk X.prog X.w X.K X.mg X.base (L2.CX X.prog X.w) k f fd ps (spG X.K cs n G)) (hr : Room k X.A) (hg : Gl X x) (hm : X.mg x = some (.ref f)) (hk : PySem.W.keepIn X.K (.ref f) = true) (hb : Binds X.K fd ps [])
    (tk : Takes X W) (ha : SAd X cs W (e :: es) fs) (hl : ∀ ρ ds, fs ρ = .ok ds → ds.length = n) (hdb : (x == ("__debug__" : Str)) = false := by decide) (he : starEach (e :: es) X.env = (false, eval e X.env) :: starEach es X.env := by rfl) (hpl : (backTo pos (starEach es X.env)).any (·.1) = false := by rfl) :
    SN X cs W (.Call (.Name x p) (e :: es) [] pos) (eFnN G fs) := peImp (pe_callS F hr hg hm hk hb (fun σ => passAt tk σ) ha hdb he hpl) fun σ H Q ⟨Φ, ρ, r, q⟩ => by
  refine ⟨Φ, ρ, r, ?_⟩
  unfold eFnN at q
  cases e1 : fs ρ with
  | stuck => rw [e1] at q; exact q.elim
  | exc z => rw [e1] at q; exact q
  | ok ds =>
    rw [e1] at q
    exact fun Φ' H' b x rep => runFn x.sub rep (hl ρ ds e1) (.inl (q.ext x))
theorem aCons_len {fa : Ev D} {n : Nat} (h : ∀ ρ ds, fs ρ = .ok ds → ds.length = n) (ρ : List Sl) (ds : List D) (e : aCons fa fs ρ = .ok ds) : ds.length = n + 1 := by
  obtain ⟨d, _, e⟩ := R.bind_ok e
  obtain ⟨ds', h1, e⟩ := R.bind_ok e
  cases e
  rw [List.length_cons, h ρ ds' h1]
theorem aNil_len (ρ : List Sl) (ds : List D) (e : aNil ρ = .ok ds) : ds.length = 0 := by cases e; rfl
end
end PL

set_option Elab.async false
set_option linter.all false
set_option maxRecDepth 100000
/-! PL7: small words for printed derivations -/
namespace PL
set_option autoImplicit false
open PySem PySem.Spec PyProof.Rows L2

theorem ftOne_in {i : Nat} {l : List Nat} (h : i ∈ l) (d : D) (as : List (Nat × D)) (e : ftOne i d = .ok as) : ∀ p ∈ as, p.1 ∈ l := by
  cases e
  intro p hp
  simp at hp
  subst hp
  exact h
theorem ftOne_ge {i n : Nat} (h : n ≤ i) (d : D) (as : List (Nat × D)) (e : ftOne i d = .ok as) : ∀ p ∈ as, n ≤ p.1 := by
  cases e
  intro p hp
  simp at hp
  subst hp
  exact h
theorem ftOne_nx (i : Nat) (d : D) (x : Exn) : ftOne i d ≠ .exc x := fun e => by cases e
theorem zip_mem {α : Type} : ∀ {is : List Nat} {ds : List α} {p : Nat × α}, p ∈ is.zip ds → p.1 ∈ is
  | [], _, _, h => by simp at h
  | _ :: _, [], _, h => by simp at h
  | i :: is, d :: ds, p, h => by
    rw [List.zip_cons_cons] at h
    rcases List.mem_cons.mp h with h | h
    · subst h; exact List.mem_cons_self
    · exact List.mem_cons_of_mem _ (zip_mem h)
theorem ftTup_in {is l : List Nat} (h : ∀ i ∈ is, i ∈ l) (d : D) (as : List (Nat × D)) (e : ftTup is d = .ok as) : ∀ p ∈ as, p.1 ∈ l := by
  unfold ftTup at e
  split at e
  · split at e
    · cases e; exact fun p hp => h _ (zip_mem hp)
    · cases e
  · cases e
theorem ftTup_ge {is : List Nat} {n : Nat} (h : ∀ i ∈ is, n ≤ i) (d : D) (as : List (Nat × D)) (e : ftTup is d = .ok as) : ∀ p ∈ as, n ≤ p.1 := by
  unfold ftTup at e
  split at e
  · split at e
    · cases e; exact fun p hp => h _ (zip_mem hp)
    · cases e
  · cases e
theorem ftTup_nx (is : List Nat) (d : D) (x : Exn) : ftTup is d ≠ .exc x := fun e => by
  unfold ftTup at e
  split at e
  · split at e <;> cases e
  · cases e
/-- a def of the text as it stands behind the top -/
structure Fx (K : PySem.W.Frag) (mg : Str → Option Value) (x : Str) (st : Stmt) (ps : List Str) where
  f : Addr
  fd : FuncData
  fn : Fun K x x st f fd
  mg : mg x = some (.ref f)
  bd : Binds K fd ps []
theorem okStuck {P : Program} {w : World} {K : PySem.W.Frag} {mg : Str → Option Value} {base : Heap} {CX : CXT} {k : Nat} {f : Addr} {fd : FuncData} {ps : List Str} (cs : Nat → Addr) : FnOk P w K mg base CX k f fd ps (spG K cs ps.length fun _ => .stuck) :=
  ⟨fun vs H Q E h => h.1, fun A outer s H args us vs Q E _ _ _ _ h => by
    obtain ⟨_, _, _, _, q⟩ := h
    exact q.elim⟩
/-- the law's own promise -/
theorem law_sp {K : PySem.W.Frag} {cs : Nat → Addr} {G : Fn} {H : Hp} {a : Addr} {ns : List Int} (h : ∃ fin, G [.val (.scr ns)] = .ok (.val (.bl true)) fin) (hs : SqL K H a (ns.map V.int)) :
    spG K cs 1 G [.ref a] H (fun v _ => v = .bl true) fun _ _ _ => False := by
  obtain ⟨fin, h⟩ := h
  refine ⟨rfl, H, [.val (.scr ns)], relVals (ds := [.scr ns]) (Same.refl H) (.cons (.scr hs) .nil), ?_⟩
  rw [h]
  intro Φ' H' v s' r'
  have z := r'.last
  cases z
  rfl
theorem law_cx {P : Program} {w : World} (H : Hp) (s : Shared) (e : Value) (s' : Shared) (h : L2.CX P w [] H s (fun _ _ _ => False) e s') : False := by
  obtain ⟨_, _, _, _, _, _, _, _, _, _, _, _, z⟩ := h
  exact z
end PL

set_option Elab.async false
set_option linter.all false
set_option maxRecDepth 100000
/-! PL8: dicts; two pops -/
namespace PL
set_option autoImplicit false
open PySem PySem.Spec PyProof.Rows L2

theorem kcK_inj {a b : Key} (h : kcK a = kcK b) : a = b := by
  cases a <;> cases b <;> simp only [kcK, Sum.inl.injEq, Sum.inr.injEq, reduceCtorEq] at h
  · rw [h]
  · rename_i x y
    cases x; cases y
    congr 1
    exact congrArg Str.mk (Array.toList_inj.mp h)
theorem kcK_dec (a b : Key) : decide (kcK a = kcK b) = decide (a = b) := by
  by_cases h : a = b
  · subst h; simp
  · rw [decide_eq_false h, decide_eq_false fun z => h (kcK_inj z)]
def lookC (es : List (Kc × D)) (k : Kc) : Option D := (es.find? fun e => decide (e.1 = k)).map (·.2)
def putC (es : List (Kc × D)) (k : Kc) (d : D) : List (Kc × D) :=
  if (es.any fun e => decide (e.1 = k)) = true then es.map (fun e => if e.1 = k then (e.1, d) else e) else es ++ [(k, d)]
def mergeC (es more : List (Kc × D)) : List (Kc × D) := more.foldl (fun acc kv => putC acc kv.1 kv.2) es
def D.key : D → Option Kc
  | .int i => some (.inl i)
  | .str s => some (.inr s)
  | _ => none
section
variable {K : PySem.W.Frag} {Φ H : Hp}
theorem RepKs.look {k : Key} : ∀ {es : List (Kc × D)} {kvs : List (Key × V)}, RepKs K Φ es kvs → (lookC es (kcK k) = none ∧ valV kvs k = none) ∨ ∃ d v, lookC es (kcK k) = some d ∧ valV kvs k = some v ∧ RepD K Φ d v
  | _, _, .nil => .inl ⟨rfl, rfl⟩
  | _, _, .cons (k := j) (d := d) (v := v) (ds := ds) (vs := vs) h r => by
    by_cases e : j = k
    · refine .inr ⟨d, v, by simp [lookC, e], valV_pos e, h⟩
    · have e2 : ¬ kcK j = kcK k := fun z => e (kcK_inj z)
      have e3 : lookC ((kcK j, d) :: ds) (kcK k) = lookC ds (kcK k) := by simp [lookC, e2]
      rw [e3, valV_neg (p := (j, v)) e]
      exact RepKs.look r
theorem RepKs.any {k : Key} : ∀ {es : List (Kc × D)} {kvs : List (Key × V)}, RepKs K Φ es kvs → (es.any fun e => decide (e.1 = kcK k)) = (kvs.any fun kv => decide (kv.1 = k))
  | _, _, .nil => rfl
  | _, _, .cons h r => by rw [List.any_cons, List.any_cons, RepKs.any r, kcK_dec]
theorem RepKs.repl {k : Key} {d : D} {v : V} (h : RepD K Φ d v) : ∀ {es : List (Kc × D)} {kvs : List (Key × V)}, RepKs K Φ es kvs → RepKs K Φ (es.map (fun e => if e.1 = kcK k then (e.1, d) else e)) (kvs.map fun kv => if kv.1 = k then (kv.1, v) else kv)
  | _, _, .nil => .nil
  | _, _, .cons (k := j) g r => by
    rw [List.map_cons, List.map_cons]
    by_cases e : j = k
    · simp only [e, if_true]
      exact .cons h (RepKs.repl h r)
    · have e2 : ¬ kcK j = kcK k := fun z => e (kcK_inj z)
      simp only [e, e2, if_false]
      exact .cons g (RepKs.repl h r)
theorem RepKs.append : ∀ {es fs : List (Kc × D)} {kvs gs : List (Key × V)}, RepKs K Φ es kvs → RepKs K Φ fs gs → RepKs K Φ (es ++ fs) (kvs ++ gs)
  | _, _, _, _, .nil, s => s
  | _, _, _, _, .cons h r, s => .cons h (RepKs.append r s)
theorem RepKs.put {k : Key} {d : D} {v : V} {es : List (Kc × D)} {kvs : List (Key × V)} (r : RepKs K Φ es kvs) (h : RepD K Φ d v) : RepKs K Φ (putC es (kcK k) d) (putK kvs k v) := by
  unfold putC putK
  rw [r.any]
  split
  · exact r.repl h
  · exact r.append (.cons h .nil)
theorem RepKs.merge : ∀ {more es : List (Kc × D)} {ms kvs : List (Key × V)}, RepKs K Φ more ms → RepKs K Φ es kvs → RepKs K Φ (mergeC es more) (mergeK kvs ms)
  | _, _, _, _, .nil, r => r
  | _, es, _, kvs, .cons (k := k) h t, r => RepKs.merge (es := putC es (kcK k) _) (kvs := putK kvs k _) t (r.put h)
theorem RepKs.length : ∀ {es : List (Kc × D)} {kvs : List (Key × V)}, RepKs K Φ es kvs → es.length = kvs.length
  | _, _, .nil => rfl
  | _, _, .cons _ r => by rw [List.length_cons, List.length_cons, RepKs.length r]
theorem RepV.key {d : D} {v : V} {kc : Kc} (h : RepV K Φ H d v) (e : d.key = some kc) : ∃ k, v = kV k ∧ kcK k = kc := by
  cases d <;> simp only [D.key, Option.some.injEq, reduceCtorEq] at e <;> subst e
  · cases h.int_inv; exact ⟨.inl _, rfl, rfl⟩
  · obtain ⟨x, rfl, rfl⟩ := h.str_inv; exact ⟨.inr x, rfl, rfl⟩
end

/-! ### displays -/
def pairsE : List (Ev D × Ev D) → Ev (List (D × D))
  | [] => fun _ => .ok []
  | (fk, fv) :: r => fun ρ => (fk ρ).bind fun k => (fv ρ).bind fun v => (pairsE r ρ).bind fun l => .ok ((k, v) :: l)
def keysC : List (D × D) → Option (List (Kc × D))
  | [] => some []
  | (k, d) :: r => match k.key, keysC r with
    | some kc, some l => some ((kc, d) :: l)
    | _, _ => none
def gDisp (l : List (D × D)) : R D := (oR (keysC l)).bind fun es => if es.length ≤ 15 then .ok (.dic (mergeC [] es)) else .stuck
def eDisp (prs : List (Ev D × Ev D)) : Ev D := fun ρ => (pairsE prs ρ).bind gDisp
inductive RepPs (K : PySem.W.Frag) (Φ : Hp) : List (D × D) → List (V × V) → Prop
  | nil : RepPs K Φ [] []
  | cons {k d : D} {u v : V} {ds : List (D × D)} {vs : List (V × V)} : RepD K Φ k u → RepD K Φ d v → RepPs K Φ ds vs → RepPs K Φ ((k, d) :: ds) ((u, v) :: vs)
theorem RepPs.mono {K : PySem.W.Frag} {Φ Φ' : Hp} (m : Same Φ Φ') : ∀ {ds : List (D × D)} {vs : List (V × V)}, RepPs K Φ ds vs → RepPs K Φ' ds vs
  | _, _, .nil => .nil
  | _, _, .cons h g r => .cons (h.mono m) (g.mono m) (RepPs.mono m r)
theorem RepPs.keys {K : PySem.W.Frag} {Φ : Hp} : ∀ {ds : List (D × D)} {vs : List (V × V)} {es : List (Kc × D)}, RepPs K Φ ds vs → keysC ds = some es → ∃ kvs : List (Key × V), vs = kvs.map (fun kv => (kV kv.1, kv.2)) ∧ RepKs K Φ es kvs
  | _, _, _, .nil, e => by cases e; exact ⟨[], rfl, .nil⟩
  | _, _, es, .cons (k := k) (ds := ds) h g r, e => by
    simp only [keysC] at e
    split at e
    next kc l e1 e2 =>
      cases e
      obtain ⟨kvs, rfl, rk⟩ := RepPs.keys r e2
      obtain ⟨k', rfl, rfl⟩ := (RepD.toV (H := Φ) h).key e1
      exact ⟨(k', _) :: kvs, rfl, .cons g rk⟩
    next => cases e
section
variable {X : Cx} {cs : Nat → Addr} {W : WX} {np : Nat} {a b c e o : Expr} {fa fb fc : Ev D} {pos p apos cpos : Pos}
def SPs (X : Cx) (cs : Nat → Addr) (W : WX) (pos : Pos) (ks : List (Option Expr)) (vs : List Expr) (prs : List (Ev D × Ev D)) : Prop := PPs X pos ks vs (prs.map fun q => (tG X.K cs (rD X.K) W q.1, tG X.K cs (rD X.K) W q.2))
theorem sps_nil : SPs X cs W pos [] [] [] := pps_nil
theorem sps_cons {ks : List (Option Expr)} {vs : List Expr} {prs : List (Ev D × Ev D)} (hk : SD X cs W a fa) (hv : SD X cs W b fb) (h : SPs X cs W pos ks vs prs) : SPs X cs W pos (some a :: ks) (b :: vs) ((fa, fb) :: prs) := pps_cons hk hv h
theorem R.bind_assoc {α β γ : Type} (x : R α) (f : α → R β) (g : β → R γ) : (x.bind f).bind g = x.bind fun a => (f a).bind g := by cases x <;> rfl
theorem pairs_run {σ : L2.St} {Q : VK} {G : List (V × V) → Hp → Prop} {ρ : List Sl} : ∀ {prs : List (Ev D × Ev D)} {Φ H : Hp} {k : List (D × D) → R D}, Rel X.K Φ H σ ρ → RunN X.K cs W σ Φ H Q ((pairsE prs ρ).bind k) →
    (∀ Φ1 H1 l vs, pairsE prs ρ = .ok l → Ext Φ H Φ1 H1 → RepPs X.K Φ1 l vs → G vs H1) → tPairs (prs.map fun q => (tG X.K cs (rD X.K) W q.1, tG X.K cs (rD X.K) W q.2)) σ H G
  | [], Φ, H, k, r, q, c => c Φ H [] [] rfl (Ext.refl r.sub) .nil
  | (fk, fv) :: prs, Φ, H, k, r, q, c => by
    refine ⟨Φ, ρ, r, ?_⟩
    show Run cs (rD X.K) W σ Φ H _ (fk ρ)
    simp only [pairsE, R.bind_assoc] at q
    cases e1 : fk ρ with
    | stuck => rw [e1] at q; exact q.elim
    | exc z => rw [e1] at q; exact q
    | ok k1 =>
      rw [e1] at q
      intro Φ1 H1 u x1 rk
      refine ⟨Φ1, ρ, r.ext x1, ?_⟩
      show Run cs (rD X.K) W σ Φ1 H1 _ (fv ρ)
      cases e2 : fv ρ with
      | stuck => rw [e2] at q; exact q.elim
      | exc z => rw [e2] at q; exact q.ext x1
      | ok d1 =>
        rw [e2] at q
        intro Φ2 H2 v x2 rd
        have x12 := x1.trans x2
        refine pairs_run (k := fun l => k ((k1, d1) :: l)) (r.ext x12) (RunN.ext x12 q) fun Φ3 H3 l vs e3 x3 rl => ?_
        refine c Φ3 H3 _ _ ?_ (x12.trans x3) (.cons (RepD.mono (x2.trans x3).mono rk) (RepD.mono x3.mono rd) rl)
        simp only [pairsE, e1, e2, e3, R.bind]
theorem sn_disp {ks : List (Option Expr)} {vs : List Expr} {prs : List (Ev D × Ev D)} (h : SPs X cs W pos ks vs prs) (hall : ks.all (·.isSome) = true := by rfl) (hl : ks.length = vs.length := by rfl) (h0 : ks ≠ [] := by exact fun z => by cases z)
    (h15 : ks.length ≤ 15 := by decide) : SN X cs W (.Dict ks vs pos) (eDisp prs) := peImp (pe_disp h hall hl h0 h15) fun σ H Q ⟨Φ, ρ, r, q⟩ p hp => by
  have x0 : Ext Φ H Φ (upd H p (.dK [])) := Ext.alloc r.sub hp
  have h0 : Φ p = none := r.sub.free hp
  refine pairs_run (r.ext x0) (q.ext x0) fun Φ1 H1 l vs el x1 rl => ?_
  have e1 : H1 p = some (.dK []) := x1.heap _ _ upd_same
  have e2 : Φ1 p = none := by
    cases z : Φ1 p with
    | none => rfl
    | some u =>
      rcases x1.new p u z with w | w
      · rw [h0] at w; cases w
      · rw [upd_same] at w; cases w
  refine ⟨e1, ?_⟩
  unfold eDisp at q
  rw [el] at q
  have q : RunN X.K cs W σ Φ H Q ((oR (keysC l)).bind fun es => if es.length ≤ 15 then .ok (.dic (mergeC [] es)) else .stuck) := q
  cases ek : keysC l with
  | none => rw [ek] at q; exact q.elim
  | some es =>
    rw [ek] at q
    have q : RunN X.K cs W σ Φ H Q (if es.length ≤ 15 then .ok (.dic (mergeC [] es)) else .stuck) := q
    obtain ⟨kvs, rfl, rk⟩ := rl.keys ek
    by_cases h15 : es.length ≤ 15
    case neg => rw [if_neg h15] at q; exact q.elim
    rw [if_pos h15] at q
    have x01 := x0.trans x1
    refine ⟨kvs, rfl, by rw [← rk.length]; exact h15, q Φ1 _ p ⟨x01.mono, fun b u e => ?_, fun b u e => ?_, x01.new⟩ hp e2 (RepOwn.dic upd_same (rk.merge .nil))⟩
    · rw [upd_ne (ne_of_none e hp)]; exact x01.heap b u e
    · have hb : b ≠ p := fun z => by subst z; rw [e2] at e; cases e
      rw [upd_ne hb]; exact x1.sub b u e
/-! ### look-ups -/
def gDix : D → D → R D
  | .dic es, k => (oR k.key).bind fun kc => oR (lookC es kc)
  | _, _ => .stuck
theorem sd_dix (hu : X.A.units < cLine) (hu1 : X.A.units + 1 < cLine) (ha : SV X cs W a fa) (hb : SV X cs W b fb) (hs : NoSl b := by exact fun _ _ => rfl) : SD X cs W (.Subscript a b pos) (e2 gDix fa fb) := peImp (pe_dget hu1 ha hb hs) fun σ H Q h => run2 h fun Φ H v u d e m r1 r2 q => by
  unfold gDix at q
  split at q
  · obtain ⟨p, kvs, rfl, h1, h2⟩ := r1.dic_inv m
    obtain ⟨kc, hk, q⟩ := oR_bind (P := Run cs (rD X.K) W σ Φ H Q) q id
    obtain ⟨k, rfl, rfl⟩ := r2.key hk
    rcases h2.look (k := k) with ⟨z1, z2⟩ | ⟨d', v', z1, z2, z3⟩
    · rw [z1] at q; exact q.elim
    · rw [z1] at q
      exact ⟨p, v', rfl, by rw [← z2]; exact DGet.k h1, q.ok m z3⟩
  · exact q.elim
def eDget2 (fa fb fc : Ev D) : Ev D := fun ρ => (fa ρ).bind fun x => match x with
  | .dic es => (fb ρ).bind fun k => (fc ρ).bind fun d => (oR k.key).bind fun kc => .ok ((lookC es kc).getD d)
  | _ => .stuck
theorem sd_dget2 (hu1 : X.A.units + 1 < cLine) (ha : SV X cs W a fa) (hb : SV X cs W b fb) (hc : SD X cs W c fc) (m2 : M2 X a "get" apos b c cpos := by exact ⟨rfl, rfl, rfl, rfl⟩) : SD X cs W (.Call (.Attribute a "get" apos) [b, c] [] cpos) (eDget2 fa fb fc) :=
  peImp (pe_dget2 hu1 ha hb hc m2) fun σ H Q ⟨Φ, ρ, r, q⟩ => by
    refine tG.bind (rp := rV X.K) r q fun Φ1 H1 x v r1 _ rx q => ?_
    split at q
    · obtain ⟨p, kvs, rfl, h1, h2⟩ := RepV.dic_inv rx r1.sub
      refine ⟨p, rfl, .inl ⟨kvs, .inl h1⟩, ?_⟩
      refine tG.bind (rp := rV X.K) r1 q fun Φ2 H2 k u r2 x2 rk q => ?_
      refine tG.bind (rp := rD X.K) r2 q fun Φ3 H3 d w r3 x3 rd q => ?_
      obtain ⟨kc, hk, q⟩ := oR_bind (P := Run cs (rD X.K) W σ Φ3 H3 Q) q id
      obtain ⟨k', rfl, rfl⟩ := RepV.key rk hk
      refine ⟨_, DGet.k ((x2.trans x3).heap _ _ h1), ?_⟩
      rcases (h2.mono (x2.trans x3).mono).look (k := k') with ⟨z1, z2⟩ | ⟨d', v', z1, z2, z3⟩
      · rw [z1] at q; rw [z2]; exact q.ok r3.sub rd
      · rw [z1] at q; rw [z2]; exact q.ok r3.sub z3
    · exact q.elim
def eDget1 (fa fb : Ev D) : Ev D := fun ρ => (fa ρ).bind fun x => match x with
  | .dic es => (fb ρ).bind fun k => (oR k.key).bind fun kc => .ok ((lookC es kc).getD .non)
  | _ => .stuck
theorem sd_dget1 (hu1 : X.A.units + 1 < cLine) (ha : SV X cs W a fa) (hb : SV X cs W b fb) (m2 : M1 X a "get" apos b cpos := by exact ⟨rfl, rfl, rfl, rfl⟩) : SD X cs W (.Call (.Attribute a "get" apos) [b] [] cpos) (eDget1 fa fb) :=
  peImp (pe_dget1 hu1 ha hb m2) fun σ H Q ⟨Φ, ρ, r, q⟩ => by
    refine tG.bind (rp := rV X.K) r q fun Φ1 H1 x v r1 _ rx q => ?_
    split at q
    · obtain ⟨p, kvs, rfl, h1, h2⟩ := RepV.dic_inv rx r1.sub
      refine ⟨p, rfl, .inl ⟨kvs, .inl h1⟩, ?_⟩
      refine tG.bind (rp := rV X.K) r1 q fun Φ2 H2 k u r2 x2 rk q => ?_
      obtain ⟨kc, hk, q⟩ := oR_bind (P := Run cs (rD X.K) W σ Φ2 H2 Q) q id
      obtain ⟨k', rfl, rfl⟩ := RepV.key rk hk
      refine ⟨_, DGet.k (x2.heap _ _ h1), ?_⟩
      rcases (h2.mono x2.mono).look (k := k') with ⟨z1, z2⟩ | ⟨d', v', z1, z2, z3⟩
      · rw [z1] at q; rw [z2]; exact q.ok r2.sub .non
      · rw [z1] at q; rw [z2]; exact q.ok r2.sub z3
    · exact q.elim
/-! ### x = (y.pop(0), y.pop(0)) -/
def pop2S (i j : Nat) : Es := fun ρ => match ρ[j]? with
  | some (.own (.lst (d1 :: d2 :: ds))) => .nx ((ρ.set j (.own (.lst ds))).set i (.val (.tup [d1, d2])))
  | _ => .stuck
theorem tyL {K : PySem.W.Frag} {H : Hp} {a : Addr} {vs : List V} (h : H a = some (.lst vs)) : tyV K "list" (.ref a) H := .inl ⟨rfl, vs, SqL.of h⟩
theorem seq0 (n : Nat) : seqIndex? 0 (n + 1) = some 0 := by unfold seqIndex?; simp
theorem ss_pop2 (i j : Nat) {x y : Str} {p1 p2 a1 a2 c1 c2 py tp : Pos} {k1 k2 kk : Nat} (hi : np ≤ i) (hij : i ≠ j) (hN : X.N.Nodup) (hj : X.N[j]? = some y := by rfl) (hix : X.N[i]? = some x := by rfl) (hv : Vis X.env.scope y := by first | exact Or.inl rfl | exact Or.inr (Or.inl rfl) | exact Or.inr (Or.inr rfl)) (hx : Loc X.env.scope x := by first | exact Or.inl rfl | exact Or.inr rfl) (hd : (y == ("__debug__" : Str)) = false := by decide) (hcd : (y == ("__classdict__" : Str)) = false := by decide)
    (hb1 : attributeBase (.Name y p1) "pop" X.env (eval (.Name y p1) X.env) = eval (.Name y p1) X.env := by rfl) (hb2 : attributeBase (.Name y p2) "pop" X.env (eval (.Name y p2) X.env) = eval (.Name y p2) X.env := by rfl)
    (hf1 : ((backTo c1 (starEach [.Constant (.int 0) k1 a1] X.env)).all (fun x => !x.1) && (backToKw c1 (keywordEach [] X.env)).all (fun x => x.1.isSome) && decide (([.Constant (.int 0) k1 a1] : List Expr).length + ([] : List Keyword).length + (if ([] : List Keyword).isEmpty then 0 else 1) < 30)) = true := by rfl)
    (hf2 : ((backTo c2 (starEach [.Constant (.int 0) k2 a2] X.env)).all (fun x => !x.1) && (backToKw c2 (keywordEach [] X.env)).all (fun x => x.1.isSome) && decide (([.Constant (.int 0) k2 a2] : List Expr).length + ([] : List Keyword).length + (if ([] : List Keyword).isEmpty then 0 else 1) < 30)) = true := by rfl)
    {q1 q2 : Pos} (hl1 : (q1.endLine == c1.line) = true := by rfl) (hl2 : (q2.endLine == c2.line) = true := by rfl)
    (hs : swapsWith (.Tuple [.Call (.Attribute (.Name y p1) "pop" q1) [.Constant (.int 0) k1 a1] [] c1, .Call (.Attribute (.Name y p2) "pop" q2) [.Constant (.int 0) k2 a2] [] c2] kk tp) (some (.Name x py)) pos.line X.env = pure false := by rfl) (hf : X.fn x = true ∨ X.env.scope.names.lookup x = some .local := by first | exact .inl rfl | exact .inr rfl | assumption) :
    SS X cs W np (.Assign [.Name x py] (.Tuple [.Call (.Attribute (.Name y p1) "pop" q1) [.Constant (.int 0) k1 a1] [] c1, .Call (.Attribute (.Name y p2) "pop" q2) [.Constant (.int 0) k2 a2] [] c2] kk tp) pos) (pop2S i j) :=
  psImp (ps_set hN hix hx (pe_tupF (pa_cons (pe_bm PySem.F.plainAttrs_list PySem.F.slot_list_pop PySem.F.type_list_pop mt_popAt (pe_var hj hv hd hcd) (pa_cons pe_int pa_nil) hb1 hf1 hl1)
    (pa_cons (pe_bm PySem.F.plainAttrs_list PySem.F.slot_list_pop PySem.F.type_list_pop mt_popAt (pe_var hj hv hd hcd) (pa_cons pe_int pa_nil) hb2 hf2 hl2) pa_nil))) hs hf) fun D' σ H ⟨Φ, ρ, r, q⟩ => by
  unfold pop2S at q
  split at q
  next d1 d2 ds e =>
    obtain ⟨a, h1, h2, h3⟩ := r.own j _ e
    cases h2 with
    | @lst _ vs _ h2 h4 =>
      cases h4 with
      | @cons _ v1 _ _ g1 h4 =>
      cases h4 with
      | @cons _ v2 _ vs g2 h4 =>
      obtain ⟨r1, s1⟩ := r.mut (d' := .lst (d2 :: ds)) (u := .lst (v2 :: vs)) h1 e (.lst upd_same (.cons g2 h4))
      have hjl : j < ρ.length := (List.getElem?_eq_some_iff.mp e).1
      obtain ⟨r2, s2⟩ := r1.mut (d' := .lst ds) (u := .lst vs) h1 (List.getElem?_set_self hjl) (.lst upd_same h4)
      refine ⟨_, h1, tyL h2, a, _, 0, 0, v1, rfl, rfl, h2, by decide, by decide, seq0 _, rfl, _, h1, tyL upd_same, a, _, 0, 0, v2, rfl, rfl, upd_same, by decide, by decide, seq0 _, rfl, by rw [sizeLine_eq]; exact (by decide : 2 ≤ 16777216), fun p o hp hc hdd => ?_⟩
      have x3 : Ext Φ _ (upd Φ p (.frz o (.tup [v1, v2]))) _ := Ext.fresh (o := .frz o (.tup [v1, v2])) r2.sub hp
      have r3 := (r2.ext x3).set (i := i) (v := .ref p) (d := .tup [d1, d2]) (RepD.tup SqT.ofF (.cons (g1.mono x3.mono) (.cons (g2.mono x3.mono) .nil)) fun _ => Kn.of hc hdd)
      have e3 : ((ρ.set j (.own (.lst (d2 :: ds)))).set j (.own (.lst ds))) = ρ.set j (.own (.lst ds)) := List.set_set ..
      rw [e3] at r3 s2
      refine q _ _ _ ((s1.trans s2).trans (Stp.ofExt x3 fun b ⟨k, w⟩ => .inl ⟨k, ?_⟩)) r3 (takeSet hi)
      exact ownSet (i := i) (d := .tup [d1, d2]) (v := some (.ref p)) w
  next => exact q.elim
def parS (i j : Nat) (fs : Ev (List D)) : Es := fun ρ => tryE ρ (fs ρ) fun ds => match ds with
  | [x, y] => .nx (setS ρ [(i, x), (j, y)])
  | _ => .stuck
theorem ss_par (i j : Nat) {x y : Str} {fs : Ev (List D)} {px py pt : Pos} {kt k2 : Nat} {pt2 : Pos} (hc : X.calm = true) (hi' : np ≤ i) (hj' : np ≤ j) (hij : i ≠ j) (hN : X.N.Nodup) (ha : SAd X cs W [a, b] fs) (hi : X.N[i]? = some x := by rfl) (hj : X.N[j]? = some y := by rfl)
    (hx : X.env.scope.names.lookup x = some .local := by rfl) (hy : X.env.scope.names.lookup y = some .local := by rfl)
    (hw : swappedStores [.Tuple [.Name x px, .Name y py] kt pt] (.Tuple [a, b] k2 pt2) X.env = pure (some [x, y]) := by rfl)
    (hs : swapsWithSole [.Tuple [.Name x px, .Name y py] kt pt] (.Tuple [a, b] k2 pt2) pos.line X.env = pure false := by rfl) :
    SS X cs W np (.Assign [.Tuple [.Name x px, .Name y py] kt pt] (.Tuple [a, b] k2 pt2) pos) (parS i j fs) := psImp (ps_par hc hN hi hj hij hx hy ha hw hs) fun D' σ H ⟨Φ, ρ, r, q⟩ =>
  tG.bindS (rp := rDs X.K) r q fun Φ1 H1 ds vs r1 x rep q => by
    split at q
    · cases rep with
      | cons h1 rep =>
      cases rep with
      | cons h2 rep =>
      cases rep
      exact ⟨_, _, rfl, q _ _ _ (Stp.refl fun b ⟨k, z⟩ => ⟨k, ownSetMany (.cons h1 (.cons h2 .nil)) z⟩) (r1.setMany (.cons h1 (.cons h2 .nil))) (takeSetMany [(i, _), (j, _)] σ (by simp [hi', hj']))⟩
    · exact q.elim
end
end PL

set_option Elab.async false
set_option linter.all false
set_option maxRecDepth 100000
/-! PL9: enumerate, reversed, zip, sum, min, max, all, any, sorted, item stores, in-place operators -/
namespace PL
set_option autoImplicit false
open PySem PySem.Spec PyProof.Rows L2

/-! ### enumerate over a list or a tuple -/
def IteT (K : PySem.W.Frag) (a : Addr) : It :=
  ⟨fun i G => ∃ (ys : List V) (y : V), SqT K G a ys ∧ ys[i]? = some y, fun i G r G' => ∃ q y, r = .ref q ∧ G q = none ∧ G' = upd G q (.tup [.int (i : Nat), y]) ∧ ∀ ys, SqT K G a ys → ys[i]? = some y, fun i G => ∃ ys : List V, SqT K G a ys ∧ ys.length ≤ i⟩
theorem turn_enT {P : Program} {w : World} {K : PySem.W.Frag} {el : List Expr} {k1 : Nat} {tp : Pos} (a c j : Addr) :
    Turn P w K (.Tuple el k1 tp) (IteT K a) [c, j] c (fun i h => (∃ old, IsEnum h c j ((i : Nat) : Int) old) ∧ h.IsTupleIter j a i ∧ c ≠ j) where
  mem := List.mem_cons_self ..
  obj := fun i h ⟨⟨old, he⟩, ⟨o, ho, _, hd⟩, _⟩ b hb => by
    rcases List.mem_cons.mp hb with z | z
    · rw [z]; exact ⟨_, he, fun v q => nomatch q⟩
    · rw [List.mem_singleton.mp z]; exact ⟨o, ho, fun v q => by rw [hd] at q; cases q⟩
  keep := fun i h h' ⟨⟨old, he⟩, hi, hne⟩ k => ⟨⟨old, k c (List.mem_cons_self ..) _ he⟩, hi.at fun o q => k j (by simp) o q, hne⟩
  item := by
    intro X hP hw hK hc i pins s σ H E I hf ⟨⟨old, he⟩, hit, hne⟩ ⟨ys, y, hq, hy⟩
    subst hP hw hK
    obtain ⟨us, rv, p, _⟩ := I.tuple hq
    obtain ⟨u, hu, ru⟩ := rv.get hy
    have p2 : s.heap.IsTuple a us.toArray := p
    have cl : c < s.heap.objs.size := Heap.lt_size he
    have jl : j < s.heap.objs.size := by obtain ⟨_, q, _⟩ := hit; exact Heap.lt_size q
    have aj : a ≠ j := fun z => by
      obtain ⟨o, q1, q2, _⟩ := id p2
      obtain ⟨o', q3, q4, _⟩ := id hit
      rw [z, q3] at q1; cases q1; rw [q4] at q2; exact absurd (Value.type.inj q2) (by decide)
    have ac : c ≠ a := fun z => by
      obtain ⟨o, q1, q2, _⟩ := id p2
      rw [← z, he] at q1; cases q1; exact absurd (Value.type.inj q2) (by decide)
    have dr := Draws.tuple (prog := X.prog) (w := X.w) (A := X.A.in1) (I.ok.hd hc) j a aj us.toArray
    have lt : i < us.toArray.size := by
      have := (List.getElem?_eq_some_iff.mp hu).1
      simpa using this
    refine wpAny_pyNext_enum_itemD dr he ⟨hit, p2⟩ lt hne (by simp [hne, ac]) fun z g tk hz ho hst hT _ hk => ?_
    have ez : z = u := by
      have e2 : us.toArray[i]? = some u := by simpa using hu
      rw [e2] at hz; exact (Option.some.inj hz).symm
    subst ez
    refine ⟨_, rfl, wpAny_letOwnedTupleGo_enum (s := { s with heap := g, toks := tk + 1 }) ho fun g2 he2 sb => ?_⟩
    have hT2 : g2.get? s.heap.objs.size = some { cls := .type "tuple", data := .seq #[.int i tk, z] } := (sb.2 _ (Nat.ne_of_gt cl)).trans hT
    have nw : ObjOk X.prog X.w (upd H s.heap.objs.size (.tup [.int (i : Nat), y])) g2 s.heap.objs.size (.tup [.int (i : Nat), y]) :=
      ⟨by show 2 ≤ sizeLine; decide, [.int i tk, z], .cons ⟨_, rfl⟩ (.cons ru .nil), ⟨_, hT2, rfl, _, rfl⟩⟩
    have I1 : Inv X pins σ (upd H s.heap.objs.size (.tup [.int (i : Nat), y])) { s with heap := g2, toks := tk + 1 } :=
      I.turnedNew (ch := [c, j]) (fun b ob hb q => (sb.2 b (fun z => hb (by simp [z]))).trans (hk b ob (fun z => hb (by simp [z])) (fun z => hb (by simp [z])) q)) hf (Nat.le_refl _) nw
    refine ⟨.ref s.heap.objs.size, _, I1, rfl, ⟨_, y, rfl, I.hok.fresh (Nat.le_refl _), rfl, fun zs hz => by rw [I.tuple_inj hz hq]; exact hy⟩, ⟨⟨z, ?_⟩, hst.1.at fun o q => (sb.2 j (Ne.symm hne)).trans q, hne⟩, fun b hb => ?_⟩
    · have e1 : ((i + 1 : Nat) : Int) = (i : Int) + 1 := by omega
      rw [e1]; exact he2
    · have hl : b < s.heap.objs.size := by
        rcases List.mem_cons.mp hb with z | z
        · rw [z]; exact cl
        · rw [List.mem_singleton.mp z]; exact jl
      rw [upd_ne (Nat.ne_of_lt hl)]
      exact (hf b hb).1
  done := by
    intro X hP hw hK hc i pins s σ H E I hf ⟨⟨old, he⟩, hit, hne⟩ ⟨ys, hq, hy⟩
    subst hP hw hK
    obtain ⟨us, rv, p, _⟩ := I.tuple hq
    have p2 : s.heap.IsTuple a us.toArray := p
    obtain ⟨f0, f1, f2, f3, f4, f5⟩ := hf j (by simp)
    have ln := rv.length
    have hx : us.toArray[i]? = none := by simp; omega
    unfold pyNext
    have hT : s.TypeIs (.ref c) "enumerate" := ⟨_, he, rfl⟩
    refine wpAny_bind (wpAny_attempt (wpAny_callSpecial?_slot (name := Str.ofString "__next__") hT F.slot_enumerate_next (wpAny_call_entry F.slot_enumerate_next hT F.entry_enumerate_next ?_ (F.args_enumerate_next_1 _))))
    show wpAny _ _ (field (.ref c) 2 >>= _) _ _ _
    refine wpAny_bind (wpAny_field he rfl (x := .ref j) rfl (wpAny_bind (wpAny_nextOf_tuple_end (I.ok.hd hc) hit p2 hx fun g x hg hx' => ?_)))
    obtain ⟨o, ho, hcl⟩ := hx'
    refine wpAny_bind (wpAny_isInstance (T := "StopIteration") (b := true) ⟨o, ho, hcl⟩ isSubtype_stop (wpAny_pure ⟨rfl, ?_⟩))
    exact I.turned (t' := s.toks) (fun b o hb q => hg b o hb q) f0 f1 f3 f4 f5
  self := fun A i s Q E ⟨⟨_, he⟩, _⟩ h => wpAny_pyIter_enum he h

theorem meets_enT (l : Addr) (us : Array Value) :
    Meets (Builtin.«enumerate.__new__» ⟨[.type "enumerate", .ref l], []⟩) (fun _ R s => s.heap.IsTuple l us ∧
      R (.ok (.ret (.ref (s.heap.push { cls := .type "tuple_iterator", data := .fields #[.ref l, .int 0 0] }).objs.size)))
        { s with heap := (s.heap.push { cls := .type "tuple_iterator", data := .fields #[.ref l, .int 0 0] }).push { cls := .type "enumerate", data := .fields #[.none, .bool false, .ref s.heap.objs.size, rawInt 0, .none, .none] } }) :=
  .of_wp fun prog w A R s h => by
    obtain ⟨hp, gn, dr, tk, os⟩ := s; obtain ⟨hl, h⟩ := h
    have hsub := sub_enumerate
    have hT : Heap.IsTuple (Shared.heap ⟨hp, gn, dr, tk, os⟩) l us := hl
    obtain ⟨ob, ho, hcl, nn, hdt⟩ := id hT
    wp_walk using wpAny_pyIter_tuple hT
    refine wpAny_stack_any fun st => wpAny_pure ?_
    split
    · rename_i c _ _ _ _ _
      cases (c == Value.type "enumerate")
      · wp_walk using wpAny_pyIter_tuple hT
        exact ⟨_, rfl, h⟩
      · wp_walk using wpAny_pyIter_tuple hT
        exact ⟨_, rfl, h⟩
    · wp_walk using wpAny_pyIter_tuple hT
      exact ⟨_, rfl, h⟩
theorem call_enT {prog : Program} {w : World} {A : Around} {E : Value → Shared → Prop} {s : Shared} {l : Addr} {us : Array Value} {Q : Value → Shared → Prop} (hl : s.heap.IsTuple l us)
    (h : ∀ g, IsEnum g (s.heap.objs.size + 1) s.heap.objs.size 0 .none → g.IsTupleIter s.heap.objs.size l 0 → (∀ b o, s.heap.get? b = some o → g.get? b = some o) → Q (.ref (s.heap.objs.size + 1)) { s with heap := g }) :
    wpAny (model prog w) A (call (.type "enumerate") [.ref l]) Q E s := by
  refine callType_new F.called_enumerate (by decide) (F.typeCall_enumerate_1 _) (F.newCall_enumerate_1 _) (fun obj => F.args_object_init_2 obj _) F.entry_enumerate_new (meets_enT l us) ⟨hl, ?_⟩
  have sz : (s.heap.push { cls := .type "tuple_iterator", data := .fields #[.ref l, .int 0 0] }).objs.size = s.heap.objs.size + 1 := Heap.size_push ..
  have ge := Heap.get?_push_size (s.heap.push { cls := .type "tuple_iterator", data := .fields #[.ref l, .int 0 0] }) (o := { cls := .type "enumerate", data := .fields #[.none, .bool false, .ref s.heap.objs.size, rawInt 0, .none, .none] }) rfl
  rw [sz] at ge
  show _ ∧ _
  rw [sz]
  exact ⟨⟨_, ge, rfl⟩, h _ ge ⟨_, Heap.get?_push_of_some _ (Heap.get?_push_size _ rfl), rfl, rfl⟩ fun b o x => Heap.get?_push_of_some _ (Heap.get?_push_of_some _ x)⟩
def iEnA (K : PySem.W.Frag) (te : TE) : TI := fun σ H R => te σ H fun v H1 => ∃ (a : Addr) (xs : List V), v = .ref a ∧ ((SqL K H1 a xs ∧ R (Ite K a) H1) ∨ (SqT K H1 a xs ∧ R (IteT K a) H1))
theorem pi_enA {X : Cx} {e : Expr} {te : TE} {p pos tpos : Pos} {elts : List Expr} {kk : Nat} (hg : Gl X "enumerate") (hm : X.mg "enumerate" = none) (he : PE X e te) (hs : starEach [e] X.env = (false, eval e X.env) :: starEach [] X.env := by rfl) :
    PI X (.Tuple elts kk tpos) (.Call (.Name "enumerate" p) [e] [] pos) (iEnA X.K te) := by
  refine ⟨fun pins s σ H R I h => Call_ (ld_blt I hg hm boot_enumerate (PyProof.Rows.callWith_type1 (args_cons (thn (he.run pins s σ H _ I h) fun u s1 ⟨v, H1, I1, r1, q1⟩ => args_nil ?_) hs) hs rfl))⟩
  obtain ⟨a, xs, rfl, q⟩ := q1
  obtain rfl : u = Value.ref a := r1
  have fp : ∀ b ∈ [s1.heap.objs.size + 1, s1.heap.objs.size], FpOk X pins H1 b := fun b hb => by
    have hle : s1.heap.objs.size ≤ b := by
      rcases List.mem_cons.mp hb with z | z
      · rw [z]; exact Nat.le_add_right _ _
      · rw [List.mem_singleton.mp z]; exact Nat.le_refl _
    exact I1.fpOk hle (I1.hok.fresh hle)
  rcases q with ⟨hq, q⟩ | ⟨hq, q⟩
  · obtain ⟨its, rv, p', _⟩ := I1.list hq
    refine call_enumerate_list p'.isList fun g hen hit _ hk => wpAny_pyIter_enum hen ?_
    exact ⟨s1.heap.objs.size + 1, [s1.heap.objs.size + 1, s1.heap.objs.size], _, _, H1, rfl, I1.kept (t' := s1.toks) hk, turn_enum a (s1.heap.objs.size + 1) s1.heap.objs.size, ⟨⟨.none, hen⟩, hit, Nat.succ_ne_self _⟩, fp, q⟩
  · obtain ⟨its, rv, p', _⟩ := I1.tuple hq
    refine call_enT (us := its.toArray) p' fun g hen hit hk => wpAny_pyIter_enum hen ?_
    exact ⟨s1.heap.objs.size + 1, [s1.heap.objs.size + 1, s1.heap.objs.size], _, _, H1, rfl, I1.kept (t' := s1.toks) hk, turn_enT a (s1.heap.objs.size + 1) s1.heap.objs.size, ⟨⟨.none, hen⟩, hit, Nat.succ_ne_self _⟩, fp, q⟩
/-- the pairs of enumerate -/
def enD : Nat → List D → List D
  | _, [] => []
  | i, d :: ds => .tup [.int i, d] :: enD (i + 1) ds
theorem enD_length : ∀ (ds : List D) (i : Nat), (enD i ds).length = ds.length
  | [], _ => rfl
  | _ :: ds, i => by simp [enD, enD_length ds]
theorem enD_get : ∀ (ds : List D) (i j : Nat), (enD i ds)[j]? = ds[j]?.map fun d => D.tup [.int ((i + j : Nat) : Int), d]
  | [], _, _ => by simp [enD]
  | d :: ds, i, 0 => by simp [enD]
  | d :: ds, i, j + 1 => by
    have e : i + 1 + j = i + (j + 1) := by omega
    simp only [enD, List.getElem?_cons_succ, enD_get ds, e]
section
variable {K : PySem.W.Frag} {Φ H : Hp} {p : Addr} {vs : List V} {ds : List D}
theorem yld_en {Φ1 H1 H' : Hp} {i : Nat} {q : Addr} {x : V} {d' : D} (s : Same Φ1 H1) (m : Same Φ Φ1) (r : RepDs K Φ ds vs) (hd : (enD 0 ds)[i]? = some d') (hq : H1 q = none) (e : H' = upd H1 q (.tup [.int (i : Nat), x])) (hx : vs[i]? = some x) : ∃ Φ', Ext Φ1 H1 Φ' H' ∧ RepD K Φ' d' (.ref q) := by
  rw [enD_get] at hd
  cases e1 : ds[i]? with
  | none => rw [e1] at hd; cases hd
  | some d =>
    rw [e1] at hd
    cases hd
    obtain ⟨v, h1, h2⟩ := r.get e1
    rw [hx] at h1; cases h1
    subst e
    have y := Ext.fresh (o := .tup [.int (i : Nat), x]) s hq
    have e0 : ((0 + i : Nat) : Int) = (i : Int) := by omega
    rw [e0]
    exact ⟨_, y, .tup (SqT.of upd_same) (.cons (.int _) (.cons ((h2.mono m).mono y.mono) .nil)) fun z => nomatch z⟩
theorem walk_en {H0 : Hp} (h : H0 p = some (.lst vs)) (r : RepDs K Φ ds vs) : WalksE K (Ite K p) (enD 0 ds) Φ H0 := by
  refine ⟨fun Φ1 H1 i x hi => ?_, fun Φ1 H1 i x hi => ?_, fun Φ1 H1 i v H' d x hd y => ?_⟩
  · rw [enD_length] at hi
    have hv : i < vs.length := by rw [← r.length]; exact hi
    exact ⟨vs, vs[i], SqL.of (x.heap _ _ h), by simp [hv]⟩
  · rw [enD_length] at hi
    exact ⟨vs, SqL.of (x.heap _ _ h), by rw [← r.length]; exact hi⟩
  · obtain ⟨q, x', rfl, hq, e, f⟩ := y
    exact yld_en x.sub x.mono r hd hq e (f vs (SqL.of (x.heap _ _ h)))
theorem walk_enF (h : SqL K Φ p vs) (r : RepDs K Φ ds vs) : WalksF K (Ite K p) (enD 0 ds) Φ := by
  refine ⟨fun Φ1 H1 i m s hi => ?_, fun Φ1 H1 i m s hi => ?_, fun Φ1 H1 i v H' d m s hd y => ?_⟩
  · rw [enD_length] at hi
    have hv : i < vs.length := by rw [← r.length]; exact hi
    exact ⟨vs, vs[i], (m.trans s).seq h, by simp [hv]⟩
  · rw [enD_length] at hi
    exact ⟨vs, (m.trans s).seq h, by rw [← r.length]; exact hi⟩
  · obtain ⟨q, x', rfl, hq, e, f⟩ := y
    exact yld_en s m r hd hq e (f vs ((m.trans s).seq h))
theorem walk_enT (h : SqT K Φ p vs) (r : RepDs K Φ ds vs) : WalksF K (IteT K p) (enD 0 ds) Φ := by
  refine ⟨fun Φ1 H1 i m s hi => ?_, fun Φ1 H1 i m s hi => ?_, fun Φ1 H1 i v H' d m s hd y => ?_⟩
  · rw [enD_length] at hi
    have hv : i < vs.length := by rw [← r.length]; exact hi
    exact ⟨vs, vs[i], sqT_mono (m.trans s) h, by simp [hv]⟩
  · rw [enD_length] at hi
    exact ⟨vs, sqT_mono (m.trans s) h, by rw [← r.length]; exact hi⟩
  · obtain ⟨q, x', rfl, hq, e, f⟩ := y
    exact yld_en s m r hd hq e (f vs (sqT_mono (m.trans s) h))
end
def iEn (fa : Ev D) : Ev (List D) := fun ρ => (fa ρ).bind fun d => (oR d.items).bind fun ds => .ok (enD 0 ds)
section
variable {X : Cx} {cs : Nat → Addr} {W : WX} {e : Expr} {fa : Ev D} {pos p tpos : Pos} {elts : List Expr} {kk : Nat}
theorem sif_en (hg : Gl X "enumerate") (hm : X.mg "enumerate" = none) (h : SD X cs W e fa) (hs : starEach [e] X.env = (false, eval e X.env) :: starEach [] X.env := by rfl) : SIF X cs W (.Tuple elts kk tpos) (.Call (.Name "enumerate" p) [e] [] pos) (iEn fa) :=
  piImp (pi_enA hg hm h hs) fun σ H Q ⟨Φ, ρ, r, q⟩ => tG.bind (rp := rD X.K) r q fun Φ1 H1 d v r1 x rep q => by
    obtain ⟨ds, hd, q⟩ := oR_bind (P := Run cs (rIF X.K) W σ Φ1 H1 Q) q id
    exact match d, rep, hd, q with
    | _, .tup h1 h2 _, rfl, q => ⟨_, _, rfl, .inr ⟨sqT_mono r1.sub h1, q.ok r1.sub (walk_enT h1 h2)⟩⟩
    | _, .lst h1 h2, rfl, q => ⟨_, _, rfl, .inl ⟨SqL.of (r1.sub _ _ h1), q.ok r1.sub (walk_enF (SqL.of h1) h2)⟩⟩
    | _, .scr h1, rfl, q => ⟨_, _, rfl, .inl ⟨r1.sub.seq h1, q.ok r1.sub (walk_enF h1 (RepDs.ints _))⟩⟩
theorem sie_en (hg : Gl X "enumerate") (hm : X.mg "enumerate" = none) (h : SV X cs W e fa) (hs : starEach [e] X.env = (false, eval e X.env) :: starEach [] X.env := by rfl) : SIE X cs W (.Tuple elts kk tpos) (.Call (.Name "enumerate" p) [e] [] pos) (iEn fa) :=
  piImp (pi_enA hg hm h hs) fun σ H Q ⟨Φ, ρ, r, q⟩ => tG.bind (rp := rV X.K) r q fun Φ1 H1 d v r1 x rep q => by
    obtain ⟨ds, hd, q⟩ := oR_bind (P := Run cs (rIE X.K) W σ Φ1 H1 Q) q id
    rcases rep with rep | ⟨a, rfl, rep⟩
    · exact match d, rep, hd, q with
      | _, .tup h1 h2 _, rfl, q => ⟨_, _, rfl, .inr ⟨sqT_mono r1.sub h1, q.ok r1.sub (walk_enT h1 h2).e⟩⟩
      | _, .lst h1 h2, rfl, q => ⟨_, _, rfl, .inl ⟨SqL.of (r1.sub _ _ h1), q.ok r1.sub (walk_enF (SqL.of h1) h2).e⟩⟩
      | _, .scr h1, rfl, q => ⟨_, _, rfl, .inl ⟨r1.sub.seq h1, q.ok r1.sub (walk_enF h1 (RepDs.ints _)).e⟩⟩
    · exact match d, rep, hd, q with
      | _, .lst h1 h2, rfl, q => ⟨_, _, rfl, .inl ⟨SqL.of h1, q.ok r1.sub (walk_en h1 h2)⟩⟩
end
end PL

set_option Elab.async false
set_option linter.all false
set_option maxRecDepth 100000
/-! PL10: is None, in, chains, min, max, sum, all, any, text * n, stores and in-place operators on names and own lists and dicts, reversed, sorted -/
namespace PL
set_option autoImplicit false
open PySem PySem.Spec PyProof.Rows L2

section
variable {X : Cx} {cs : Nat → Addr} {W : WX} {np : Nat} {a b c e o i tg : Expr} {fa fb fc fe fi : Ev D} {pos p apos cpos pos' : Pos} {es : List Expr} {fs : Ev (List D)}

/-! ### a statement that is not reached -/
def deadS : Es := fun _ => .stuck
theorem ss_dead {st : Stmt} : SS X cs W np st deadS := ⟨fun _ _ _ _ _ _ h => by obtain ⟨_, _, _, q⟩ := h; exact q.elim⟩

/-! ### is None -/
def D.isNon : D → Bool
  | .non => true
  | _ => false
def gIsN (d : D) : R Bool := .ok d.isNon
def gNotN (d : D) : R Bool := .ok (!d.isNon)
theorem RepV.isNon {K : PySem.W.Frag} {Φ H : Hp} {d : D} {v : V} (h : RepV K Φ H d v) : decide (v = .non) = d.isNon := by
  rcases h with h | ⟨_, rfl, h⟩
  · cases h <;> rfl
  · cases h <;> rfl
theorem sd_isN {j : Nat} (ha : SV X cs W a fa) : SD X cs W (.Compare a [.Is] [.Constant .none j pos'] pos) (eBl (e1 gIsN fa)) := peImp (pe_cmp (pc_isN ha)) fun σ H Q h => run1 (runBl h) fun Φ H v d m r q => by
  rw [r.isNon]; exact q.ok m rfl
theorem sd_notN {j : Nat} (ha : SV X cs W a fa) : SD X cs W (.Compare a [.IsNot] [.Constant .none j pos'] pos) (eBl (e1 gNotN fa)) := peImp (pe_cmp (pc_notN ha)) fun σ H Q h => run1 (runBl h) fun Φ H v d m r q => by
  rw [r.isNon]; exact q.ok m rfl
theorem st_isN {j : Nat} (ha : SV X cs W a fa) : ST X cs W (.Compare a [.Is] [.Constant .none j pos'] pos) (e1 gIsN fa) := ptImp (pt_cmp (pc_isN ha)) fun σ H Q h => run1 h fun Φ H v d m r q => ⟨_, rfl, by rw [r.isNon]; exact q.ok m rfl⟩
theorem st_notN {j : Nat} (ha : SV X cs W a fa) : ST X cs W (.Compare a [.IsNot] [.Constant .none j pos'] pos) (e1 gNotN fa) := ptImp (pt_cmp (pc_notN ha)) fun σ H Q h => run1 h fun Φ H v d m r q => ⟨_, rfl, by rw [r.isNon]; exact q.ok m rfl⟩

/-! ### in -/
def D.flat : D → Bool
  | .non => true
  | .bl _ => true
  | .int _ => true
  | .str _ => true
  | _ => false
def eqF : D → D → Bool
  | .non, .non => true
  | .bl a, .bl b => a == b
  | .bl a, .int b => (if a then 1 else 0) == b
  | .int a, .bl b => a == (if b then 1 else 0)
  | .int a, .int b => a == b
  | .str a, .str b => a == b
  | _, _ => false
theorem RepD.flat {K : PySem.W.Frag} {Φ : Hp} {d : D} {v : V} (h : RepD K Φ d v) (f : d.flat = true) : flatV v = true := by cases h <;> first | rfl | cases f
theorem RepV.flatD {K : PySem.W.Frag} {Φ H : Hp} {d : D} {v : V} (h : RepV K Φ H d v) (f : d.flat = true) : RepD K Φ d v := by
  rcases h with h | ⟨_, _, h⟩
  · exact h
  · cases h <;> cases f
theorem str_beq {x y : Str} : (x.cps.toList == y.cps.toList) = (x == y) := by
  have h := str_dec (x := x) (y := y)
  rw [Bool.beq_eq_decide_eq, Bool.beq_eq_decide_eq, h]
theorem RepD.eqF {K : PySem.W.Frag} {Φ : Hp} {d e : D} {v u : V} (h : RepD K Φ d v) (g : RepD K Φ e u) : PL.eqF d e = eqV v u := by
  cases h <;> cases g <;> first | rfl | (rename_i e1 _ _ e2; subst e1 e2; exact str_beq) | skip
theorem RepDs.flat {K : PySem.W.Frag} {Φ : Hp} : ∀ {ds : List D} {vs : List V}, RepDs K Φ ds vs → ds.all D.flat = true → vs.all flatV = true
  | _, _, .nil, _ => rfl
  | _, _, .cons h r, f => by
    rw [List.all_cons, Bool.and_eq_true] at f ⊢
    exact ⟨h.flat f.1, RepDs.flat r f.2⟩
theorem RepDs.inF {K : PySem.W.Frag} {Φ : Hp} {x : D} {v : V} (hx : RepD K Φ x v) : ∀ {ds : List D} {vs : List V}, RepDs K Φ ds vs → (ds.any fun y => PL.eqF y x) = vs.any fun y => eqV y v
  | _, _, .nil => rfl
  | _, _, .cons h r => by rw [List.any_cons, List.any_cons, h.eqF hx, RepDs.inF hx r]
def gInL (x : D) (ds : List D) : R Bool := if x.flat = true ∧ ds.all D.flat = true then .ok (ds.any fun y => eqF y x) else .stuck
def gIn (x : D) : D → R Bool
  | .tup ds => gInL x ds
  | .lst ds => gInL x ds
  | .scr ns => gInL x (ns.map .int)
  | .dic es => (oR x.key).bind fun k => .ok (lookC es k).isSome
  | .str s => match x with
    | .str [c] => .ok (decide (c ∈ s))
    | _ => .stuck
  | _ => .stuck
def gNi (x d : D) : R Bool := (gIn x d).bind fun k => .ok (!k)
theorem pc_or {op : CmpOp} {t t' : TE} (h : PC X op a b t) (h' : PC X op a b t') : PC X op a b (fun σ H Q => t σ H Q ∨ t' σ H Q) := ⟨fun pins s σ H Q I hw => by
  rcases hw with hw | hw
  · exact h.run pins s σ H Q I hw
  · exact h'.run pins s σ H Q I hw⟩
theorem pc_op {op : CmpOp} {r : R2} {ta tb : TE} (ho : OpR X (compareOp op) r) (ha : PE X a ta) (hb : PE X b tb) : PC X op a b (tOp r ta tb) :=
  ⟨fun pins s σ H Q I h => binT ha hb I h fun v u s2 x y H2 I2 rx ry q => ho pins s2 σ H2 x y v u Q I2 rx ry q⟩
/-- x in y, by values -/
def rInA (K : PySem.W.Frag) (neg : Bool) : R2 := fun x y H Q => rIn K neg x y H Q ∨ ∃ (c : Nat) (z : Str), x = .str ⟨#[c]⟩ ∧ y = .str z ∧ Q (.bl (if neg then !decide (c ∈ z.cps.toList) else decide (c ∈ z.cps.toList))) H
theorem str_one {x : Str} {c : Nat} (h : x.cps.toList = [c]) : x = ⟨#[c]⟩ := by
  cases x with
  | mk cps => simp only at h; rw [← Array.toArray_toList (xs := cps), h]
theorem in_run {neg : Bool} {g : D → D → R Bool} (hg : ∀ x d, g x d = (gIn x d).bind fun k => .ok (if neg then !k else k)) {σ : L2.St} {H : Hp} {Q : Bool → Hp → Prop} (h : tG X.K cs rB W (e2 g fa fb) σ H Q) :
    (tOp (rInA X.K neg) (tG X.K cs (rV X.K) W fa) (tG X.K cs (rV X.K) W fb) σ H fun v H1 => ∃ k, v = .bl k ∧ Q k H1) ∨
    (tG X.K cs (rV X.K) W fa σ H fun y H1 => tG X.K cs (rV X.K) W fb σ H1 fun x H2 => ∃ a o, x = .ref a ∧ DGet H2 a y o ∧ Q (if neg then !o.isSome else o.isSome) H2) := by
  obtain ⟨Φ, ρ, r, q⟩ := h
  have q0 := q
  unfold e2 at q
  cases ea : fa ρ with
  | stuck => rw [ea] at q; exact q.elim
  | exc x => exact .inl (tG.bind' (rp := rV X.K) r q0 fun Φ1 H1 d' v e1 r1 x rep q => by rw [ea] at e1; cases e1)
  | ok d =>
    cases eb : fb ρ with
    | stuck => rw [ea, eb] at q; exact q.elim
    | exc x => exact .inl (tG.bind' (rp := rV X.K) r q0 fun Φ1 H1 d' v e1 r1 x rep q => tG.bind' (rp := rV X.K) r1 q fun Φ2 H2 d2 v2 e2 r2 x2 rep2 q => by rw [eb] at e2; cases e2)
    | ok y =>
      have fin : ∀ (Φ H : Hp) (v u : V), Same Φ H → RepV X.K Φ H d v → RepV X.K Φ H y u → Run cs rB W σ Φ H Q (g d y) → rInA X.K neg v u H (fun v H1 => ∃ k, v = .bl k ∧ Q k H1) ∨ ∃ es, y = .dic es := fun Φ H v u m rv ru q => by
        rw [hg] at q
        have lst : ∀ (p : Addr) (vs : List V) (ds : List D), (SqL X.K H p vs ∨ SqT X.K H p vs) → RepDs X.K Φ ds vs → Run cs rB W σ Φ H Q ((gInL d ds).bind fun k => .ok (if neg then !k else k)) → rInA X.K neg v (.ref p) H (fun v H1 => ∃ k, v = .bl k ∧ Q k H1) := fun p vs ds hs rs q => by
          unfold gInL at q
          split at q
          next hf =>
            have rd := rv.flatD hf.1
            refine .inl ⟨p, vs, rfl, hs, rd.flat hf.1, rs.flat hf.2, _, rfl, ?_⟩
            have q1 := q.ok m rfl
            rw [rs.inF rd] at q1
            exact q1
          next => exact q.elim
        unfold gIn at q
        split at q
        · obtain ⟨p, vs, rfl, h1, h2⟩ := ru.tup_inv m
          exact .inl (lst p vs _ (.inr h1) h2 q)
        · obtain ⟨p, vs, rfl, h1, h2⟩ := ru.lst_inv m
          exact .inl (lst p vs _ (.inl (SqL.of h1)) h2 q)
        · obtain ⟨p, rfl, h1⟩ := ru.scr_inv m
          exact .inl (lst p _ _ (.inl h1) (RepDs.ints _) q)
        · exact .inr ⟨_, rfl⟩
        · obtain ⟨z, rfl, rfl⟩ := ru.str_inv
          split at q
          next c =>
            obtain ⟨x, rfl, hx⟩ := rv.str_inv
            have := str_one hx
            subst this
            exact .inl (.inr ⟨c, z, rfl, rfl, _, rfl, q.ok m rfl⟩)
          next => exact q.elim
        · exact q.elim
      by_cases hy : ∃ es, y = .dic es
      · obtain ⟨es, rfl⟩ := hy
        refine .inr (tG.bind' (rp := rV X.K) r q0 fun Φ1 H1 d' v e1 r1 x rep q => ?_)
        rw [ea] at e1; cases e1
        refine tG.bind' (rp := rV X.K) r1 q fun Φ2 H2 d2 u e2 r2 x2 rep2 q => ?_
        rw [eb] at e2; cases e2
        obtain ⟨p, kvs, rfl, h1, h2⟩ := rep2.dic_inv r2.sub
        rw [hg] at q
        simp only [gIn] at q
        rw [R.bind_assoc] at q
        obtain ⟨kc, hk, q⟩ := oR_bind (P := Run cs rB W σ Φ2 H2 Q) q id
        obtain ⟨k', rfl, rfl⟩ := RepV.key (RepV.ext rep x2) hk
        refine ⟨p, _, rfl, DGet.k h1, ?_⟩
        rcases h2.look (k := k') with ⟨z1, z2⟩ | ⟨d', v', z1, z2, z3⟩
        · rw [z2]; rw [z1] at q; exact q.ok r2.sub rfl
        · rw [z2]; rw [z1] at q; exact q.ok r2.sub rfl
      · refine .inl (tG.bind' (rp := rV X.K) r q0 fun Φ1 H1 d' v e1 r1 x rep q => ?_)
        rw [ea] at e1; cases e1
        refine tG.bind' (rp := rV X.K) r1 q fun Φ2 H2 d2 u e2 r2 x2 rep2 q => ?_
        rw [eb] at e2; cases e2
        exact (fin _ _ v u r2.sub (rep.ext x2) rep2 q).resolve_right hy
theorem op_inA : OpR X (compareOp .In) (rInA X.K false) := op_in_seq.or op_in_sign
theorem op_niA : OpR X (compareOp .NotIn) (rInA X.K true) := op_notIn_seq.or op_notIn_sign
theorem gIn_f (x d : D) : gIn x d = (gIn x d).bind fun k => .ok (if false then !k else k) := by cases gIn x d <;> rfl
theorem gNi_t (x d : D) : gNi x d = (gIn x d).bind fun k => .ok (if true then !k else k) := rfl
theorem Run.imp {α β : Type} {rp : Rp α β} {σ : L2.St} {Φ H : Hp} {Q Q' : β → Hp → Prop} {r : R α} (h : Run cs rp W σ Φ H Q r) (i : ∀ b H, Q b H → Q' b H) : Run cs rp W σ Φ H Q' r := by
  cases r with
  | ok a => exact fun Φ' H' b x y => i _ _ (h Φ' H' b x y)
  | exc z => exact h
  | stuck => exact h
theorem tG.imp {K : PySem.W.Frag} {α β : Type} {rp : Rp α β} {σ : L2.St} {H : Hp} {Q Q' : β → Hp → Prop} {f : Ev α} (h : tG K cs rp W f σ H Q) (i : ∀ b H, Q b H → Q' b H) : tG K cs rp W f σ H Q' := by
  obtain ⟨Φ, ρ, r, z⟩ := h
  exact ⟨Φ, ρ, r, Run.imp z i⟩
theorem rInA_mono {K : PySem.W.Frag} {neg : Bool} {x y : V} {H : Hp} {Q Q' : VK} (h : rInA K neg x y H Q) (i : ∀ b H, Q b H → Q' b H) : rInA K neg x y H Q' := by
  rcases h with ⟨p, xs, e, h1, h2, h3, q⟩ | ⟨c, z, e1, e2, q⟩
  · exact .inl ⟨p, xs, e, h1, h2, h3, i _ _ q⟩
  · exact .inr ⟨c, z, e1, e2, i _ _ q⟩
theorem pc_inA (hu : X.A.units + 1 < cLine) (ha : SV X cs W a fa) (hb : SV X cs W b fb) : PC X .In a b (fun σ H Q => tOp (rInA X.K false) (tG X.K cs (rV X.K) W fa) (tG X.K cs (rV X.K) W fb) σ H Q ∨ tDIn (tG X.K cs (rV X.K) W fa) (tG X.K cs (rV X.K) W fb) σ H Q) := pc_or (pc_op op_inA ha hb) (pc_din hu ha hb)
theorem pc_niA (hu : X.A.units + 1 < cLine) (ha : SV X cs W a fa) (hb : SV X cs W b fb) : PC X .NotIn a b (fun σ H Q => tOp (rInA X.K true) (tG X.K cs (rV X.K) W fa) (tG X.K cs (rV X.K) W fb) σ H Q ∨ tDNotIn (tG X.K cs (rV X.K) W fa) (tG X.K cs (rV X.K) W fb) σ H Q) := pc_or (pc_op op_niA ha hb) (pc_dnotin hu ha hb)
theorem bl_mono {Q : VK} {v : V} {H : Hp} (h : ∃ k, v = .bl k ∧ Q (.bl k) H) : Q v H := by
  obtain ⟨k, rfl, q⟩ := h
  exact q
theorem st_in (hu : X.A.units + 1 < cLine) (ha : SV X cs W a fa) (hb : SV X cs W b fb) (hm : behindInMarks .In b = false := by rfl) : ST X cs W (.Compare a [.In] [b] pos) (e2 gIn fa fb) :=
  ptImp (pt_cmp (pc_inA hu ha hb) hm) fun σ H Q h => by
    rcases in_run gIn_f h with z | z
    · exact .inl z
    · exact .inr (z.imp fun y H1 z => z.imp fun x H2 ⟨a, o, e, g, q⟩ => ⟨a, o, e, g, _, rfl, q⟩)
theorem st_ni (hu : X.A.units + 1 < cLine) (ha : SV X cs W a fa) (hb : SV X cs W b fb) (hm : behindInMarks .NotIn b = false := by rfl) : ST X cs W (.Compare a [.NotIn] [b] pos) (e2 gNi fa fb) :=
  ptImp (pt_cmp (pc_niA hu ha hb) hm) fun σ H Q h => by
    rcases in_run gNi_t h with z | z
    · exact .inl z
    · exact .inr (z.imp fun y H1 z => z.imp fun x H2 ⟨a, o, e, g, q⟩ => ⟨a, o, e, g, _, rfl, q⟩)
theorem sd_in (hu : X.A.units + 1 < cLine) (ha : SV X cs W a fa) (hb : SV X cs W b fb) (hm : behindInMarks .In b = false := by rfl) : SD X cs W (.Compare a [.In] [b] pos) (eBl (e2 gIn fa fb)) :=
  peImp (pe_cmp (pc_inA hu ha hb) hm) fun σ H Q h => by
    rcases in_run gIn_f (runBl h) with z | z
    · exact .inl (tG.imp z fun y H1 z => tG.imp z fun x H2 z => rInA_mono z fun v H3 => bl_mono)
    · exact .inr z
theorem sd_ni (hu : X.A.units + 1 < cLine) (ha : SV X cs W a fa) (hb : SV X cs W b fb) (hm : behindInMarks .NotIn b = false := by rfl) : SD X cs W (.Compare a [.NotIn] [b] pos) (eBl (e2 gNi fa fb)) :=
  peImp (pe_cmp (pc_niA hu ha hb) hm) fun σ H Q h => by
    rcases in_run gNi_t (runBl h) with z | z
    · exact .inl (tG.imp z fun y H1 z => tG.imp z fun x H2 z => rInA_mono z fun v H3 => bl_mono)
    · exact .inr z

/-! ### chains of two comparisons of ints -/
def eCh (p q : Int → Int → Bool) (fa fb fc : Ev D) : Ev Bool := fun ρ => (fa ρ).bind fun x => (fb ρ).bind fun y => (gCmp p x y).bind fun k => if k = true then (fc ρ).bind (gCmp q y) else .ok false
theorem ch_run {p q : Int → Int → Bool} {σ : L2.St} {H : Hp} {Q : Bool → Hp → Prop} (h : tG X.K cs rB W (eCh p q fa fb fc) σ H Q) :
    tChain (rI0 fun i j => .bl (p i j)) (rI0 fun i j => .bl (q i j)) (tG X.K cs (rV X.K) W fa) (tG X.K cs (rV X.K) W fb) (tG X.K cs (rV X.K) W fc) σ H fun v H1 => ∃ k, v = .bl k ∧ Q k H1 := by
  obtain ⟨Φ, ρ, r, q0⟩ := h
  refine tG.bind (rp := rV X.K) r q0 fun Φ1 H1 d v r1 _ rep q1 => tG.bind (rp := rV X.K) r1 q1 fun Φ2 H2 d2 u r2 x2 rep2 q2 => ?_
  have rp1 := rep.ext x2
  unfold gCmp at q2
  split at q2
  next i j =>
    cases rp1.int_inv; cases rep2.int_inv
    refine ⟨i, j, rfl, rfl, _, rfl, ?_⟩
    simp only [R.bind] at q2
    split
    next hk =>
      rw [if_pos hk] at q2
      refine tG.bind (rp := rV X.K) r2 q2 fun Φ3 H3 d3 w r3 x3 rep3 q3 => ?_
      cases d3 with
      | int m =>
        cases rep3.int_inv
        exact ⟨_, _, rfl, rfl, _, rfl, Run.ok q3 r3.sub rfl⟩
      | _ => exact q3.elim
    next hk =>
      rw [if_neg hk] at q2
      exact ⟨_, rfl, q2.ok r2.sub rfl⟩
  next => exact q2.elim
theorem st_ch {op op' : CmpOp} {p q : Int → Int → Bool} (ho : OpR X (compareOp op) (rI0 fun i j => .bl (p i j))) (ho' : OpR X (compareOp op') (rI0 fun i j => .bl (q i j))) (ha : SV X cs W a fa) (hb : SV X cs W b fb) (hc : SV X cs W c fc) (hm : lastMarks [op, op'] [b, c] = false := by with_unfolding_all rfl) :
    ST X cs W (.Compare a [op, op'] [b, c] pos) (eCh p q fa fb fc) := ptImp (pt_chain ho ho' ha hb hc hm) fun σ H Q h => ch_run h
theorem tChain_bl {p q : Int → Int → Bool} {ta tb tc : TE} {σ : L2.St} {H : Hp} {Q : VK} (ma : ∀ {σ H Q Q'}, ta σ H Q → (∀ v H, Q v H → Q' v H) → ta σ H Q') (mb : ∀ {σ H Q Q'}, tb σ H Q → (∀ v H, Q v H → Q' v H) → tb σ H Q') (mc : ∀ {σ H Q Q'}, tc σ H Q → (∀ v H, Q v H → Q' v H) → tc σ H Q')
    (h : tChain (rI0 fun i j => .bl (p i j)) (rI0 fun i j => .bl (q i j)) ta tb tc σ H fun v H1 => ∃ k, v = .bl k ∧ Q (.bl k) H1) : tChain (rI0 fun i j => .bl (p i j)) (rI0 fun i j => .bl (q i j)) ta tb tc σ H Q :=
  ma h fun v H1 h => mb h fun u H2 ⟨i, j, e1, e2, k, e3, h⟩ => ⟨i, j, e1, e2, k, e3, by
    split at h
    next hk => rw [if_pos hk]; exact mc h fun w H3 ⟨i, j, e1, e2, z⟩ => ⟨i, j, e1, e2, bl_mono z⟩
    next hk => rw [if_neg hk]; exact bl_mono h⟩
theorem sd_ch {op op' : CmpOp} {p q : Int → Int → Bool} (ho : OpR X (compareOp op) (rI0 fun i j => .bl (p i j))) (ho' : OpR X (compareOp op') (rI0 fun i j => .bl (q i j))) (ha : SV X cs W a fa) (hb : SV X cs W b fb) (hc : SV X cs W c fc) (hm : lastMarks [op, op'] [b, c] = false := by with_unfolding_all rfl) :
    SD X cs W (.Compare a [op, op'] [b, c] pos) (eBl (eCh p q fa fb fc)) := peImp (pe_chain ho ho' ha hb hc hm) fun σ H Q h => tChain_bl tG.imp tG.imp tG.imp (ch_run (runBl h))
end
end PL

set_option Elab.async false
set_option linter.all false
set_option maxRecDepth 100000
/-! PL11: sum, min, max, all, any, sorted, text * n, stores and in-place operators, reversed -/
namespace PL
set_option autoImplicit false
open PySem PySem.Spec PyProof.Rows L2
theorem ixN_of (n : Nat) (j : Nat) (h : j < n) : L2.ixN n (j : Int) = some j := by
  unfold L2.ixN
  rw [if_pos (by omega), if_pos (by omega)]
  simp

/-! ### lists of ints, of Bools, of texts -/
def D.ints : List D → Option (List Int)
  | [] => some []
  | .int i :: ds => (D.ints ds).map (i :: ·)
  | _ => none
def D.bls : List D → Option (List Bool)
  | [] => some []
  | .bl i :: ds => (D.bls ds).map (i :: ·)
  | _ => none
theorem ints_eq : ∀ {ds : List D} {ns : List Int}, D.ints ds = some ns → ds = ns.map .int
  | [], _, e => by cases e; rfl
  | .int i :: ds, ns, e => by
    cases h : D.ints ds with
    | none => simp [D.ints, h] at e
    | some l => simp [D.ints, h] at e; subst e; rw [ints_eq h]; rfl
theorem bls_eq : ∀ {ds : List D} {ns : List Bool}, D.bls ds = some ns → ds = ns.map .bl
  | [], _, e => by cases e; rfl
  | .bl i :: ds, ns, e => by
    cases h : D.bls ds with
    | none => simp [D.bls, h] at e
    | some l => simp [D.bls, h] at e; subst e; rw [bls_eq h]; rfl
theorem ints_map : ∀ ns : List Int, D.ints (ns.map .int) = some ns
  | [] => rfl
  | n :: ns => by simp [D.ints, ints_map ns]
theorem bls_map : ∀ ns : List Bool, D.bls (ns.map .bl) = some ns
  | [] => rfl
  | n :: ns => by simp [D.bls, bls_map ns]
theorem RepDs.bls_inv {K : PySem.W.Frag} {Φ : Hp} : ∀ {ns : List Bool} {vs : List V}, RepDs K Φ (ns.map D.bl) vs → vs = ns.map V.bl
  | [], _, .nil => rfl
  | n :: ns, _, .cons (.bl _) r => by rw [RepDs.bls_inv r]; rfl
def minI : List Int → Int
  | [] => 0
  | n :: ns => ns.foldl min n
def maxI : List Int → Int
  | [] => 0
  | n :: ns => ns.foldl max n
theorem foldl_min_le : ∀ (ns : List Int) (n : Int), ns.foldl min n ≤ n ∧ ∀ y ∈ ns, ns.foldl min n ≤ y
  | [], n => ⟨Int.le_refl _, by simp⟩
  | a :: ns, n => by
    obtain ⟨h1, h2⟩ := foldl_min_le ns (min n a)
    simp only [List.foldl_cons]
    refine ⟨by omega, fun y hy => ?_⟩
    rcases List.mem_cons.mp hy with rfl | hy
    · omega
    · exact h2 y hy
theorem foldl_min_mem : ∀ (ns : List Int) (n : Int), ns.foldl min n = n ∨ ns.foldl min n ∈ ns
  | [], n => .inl rfl
  | a :: ns, n => by
    simp only [List.foldl_cons]
    rcases foldl_min_mem ns (min n a) with h | h
    · rw [h]
      by_cases hl : n ≤ a
      · exact .inl (by omega)
      · exact .inr (by have e : min n a = a := by omega
                       rw [e]; simp)
    · exact .inr (by simp [h])
theorem foldl_max_le : ∀ (ns : List Int) (n : Int), n ≤ ns.foldl max n ∧ ∀ y ∈ ns, y ≤ ns.foldl max n
  | [], n => ⟨Int.le_refl _, by simp⟩
  | a :: ns, n => by
    obtain ⟨h1, h2⟩ := foldl_max_le ns (max n a)
    simp only [List.foldl_cons]
    refine ⟨by omega, fun y hy => ?_⟩
    rcases List.mem_cons.mp hy with rfl | hy
    · omega
    · exact h2 y hy
theorem foldl_max_mem : ∀ (ns : List Int) (n : Int), ns.foldl max n = n ∨ ns.foldl max n ∈ ns
  | [], n => .inl rfl
  | a :: ns, n => by
    simp only [List.foldl_cons]
    rcases foldl_max_mem ns (max n a) with h | h
    · rw [h]
      by_cases hl : a ≤ n
      · exact .inl (by omega)
      · exact .inr (by have e : max n a = a := by omega
                       rw [e]; simp)
    · exact .inr (by simp [h])
theorem minI_le {ns : List Int} {y : Int} (h : y ∈ ns) : minI ns ≤ y := by
  cases ns with
  | nil => cases h
  | cons n ns =>
    rcases List.mem_cons.mp h with rfl | h
    · exact (foldl_min_le ns y).1
    · exact (foldl_min_le ns n).2 y h
theorem minI_mem {ns : List Int} (h : ns ≠ []) : minI ns ∈ ns := by
  cases ns with
  | nil => exact absurd rfl h
  | cons n ns =>
    show ns.foldl min n ∈ n :: ns
    rcases foldl_min_mem ns n with h | h
    · rw [h]; simp
    · simp [h]
theorem maxI_le {ns : List Int} {y : Int} (h : y ∈ ns) : y ≤ maxI ns := by
  cases ns with
  | nil => cases h
  | cons n ns =>
    rcases List.mem_cons.mp h with rfl | h
    · exact (foldl_max_le ns y).1
    · exact (foldl_max_le ns n).2 y h
theorem maxI_mem {ns : List Int} (h : ns ≠ []) : maxI ns ∈ ns := by
  cases ns with
  | nil => exact absurd rfl h
  | cons n ns =>
    show ns.foldl max n ∈ n :: ns
    rcases foldl_max_mem ns n with h | h
    · rw [h]; simp
    · simp [h]

section
variable {X : Cx} {cs : Nat → Addr} {W : WX} {np : Nat} {a b c e o i tg : Expr} {fa fb fc fe fi : Ev D} {pos p apos cpos pos' : Pos} {es : List Expr} {fs : Ev (List D)}
theorem RepV.intsL {K : PySem.W.Frag} {Φ H : Hp} {d : D} {v : V} {ds : List D} {ns : List Int} (h : RepV K Φ H d v) (m : Same Φ H) (e : d.items = some ds) (e2 : D.ints ds = some ns) : ∃ a, v = .ref a ∧ (SqL K H a (ns.map V.int) ∨ SqT K H a (ns.map V.int)) := by
  obtain ⟨a, vs, rfl, h1, h2⟩ := h.items m e
  rw [ints_eq e2] at h2
  rw [h2.ints_inv] at h1
  exact ⟨a, rfl, h1⟩
/-- min of a tuple of ints -/
def rMinT (K : PySem.W.Frag) : List V → Hp → VK → Prop := fun vs H Q => ∃ (a : Addr) (ns : List Int), vs = [V.ref a] ∧ SqT K H a (ns.map V.int) ∧ ns ≠ [] ∧ Q (.int (minI ns)) H
def rMaxT (K : PySem.W.Frag) : List V → Hp → VK → Prop := fun vs H Q => ∃ (a : Addr) (ns : List Int), vs = [V.ref a] ∧ SqT K H a (ns.map V.int) ∧ ns ≠ [] ∧ Q (.int (maxI ns)) H
theorem valsReads {h : Heap} : ∀ {ns : List Int} {us : List Value}, Vals (ns.map V.int) us → ReadsAll h us (ns.map PyData.int) []
  | [], _, .nil => .nil
  | n :: ns, _, .cons ⟨t, e⟩ r => by subst e; exact .cons (as := []) (bs := []) (.int n t) (valsReads r)
theorem alikeInts (ns : List Int) : PySem.W.AlikeAll (ns.map PyData.int) := by
  refine ⟨fun x hx y hy => ?_, fun x hx => ?_⟩
  · obtain ⟨i, _, rfl⟩ := List.mem_map.mp hx
    obtain ⟨j, _, rfl⟩ := List.mem_map.mp hy
    rfl
  · obtain ⟨i, _, rfl⟩ := List.mem_map.mp hx
    exact fun z => by cases z
theorem depthInts : ∀ ns : List Int, PyData.depthAll (ns.map PyData.int) ≤ 1
  | [] => by simp [PyData.depthAll]
  | n :: ns => by
    have := depthInts ns
    simp only [List.map_cons, PyData.depthAll, PyData.depth]
    omega
theorem cr_minT (hc : X.calm = true) (hu : X.A.units + 64 < cLine) : CallR X (.builtin "min") (rMinT X.K) := by
  intro pins s σ H vs us Q I r h
  obtain ⟨a, ns, rfl, hs, hne, q⟩ := h
  obtain ⟨its, rv, hl, _⟩ := I.tuple hs
  rw [Vals.ref1 r]
  cases ns with
  | nil => exact absurd rfl hne
  | cons n ns =>
    have hr := valsReads (h := s.heap) rv
    have dp := depthInts (n :: ns)
    simp only [List.map_cons] at hr dp
    refine PySem.W.min_tuple_data (vs := its.toArray) (I.ok.hd hc) hl (x := .int n) (xs := ns.map .int) (by simpa using hr) (by have := alikeInts (n :: ns); simpa using this) (by omega) fun j v h' tk bs _ hv hk => ?_
    rw [PySem.W.minD_ints] at hv
    cases hv with
    | int _ t => exact ⟨.int _, H, I.kept hk, ⟨_, rfl⟩, q⟩
theorem cr_maxT (hc : X.calm = true) (hu : X.A.units + 64 < cLine) : CallR X (.builtin "max") (rMaxT X.K) := by
  intro pins s σ H vs us Q I r h
  obtain ⟨a, ns, rfl, hs, hne, q⟩ := h
  obtain ⟨its, rv, hl, _⟩ := I.tuple hs
  rw [Vals.ref1 r]
  cases ns with
  | nil => exact absurd rfl hne
  | cons n ns =>
    have hr := valsReads (h := s.heap) rv
    have dp := depthInts (n :: ns)
    simp only [List.map_cons] at hr dp
    refine PySem.W.max_tuple_data (vs := its.toArray) (I.ok.hd hc) hl (x := .int n) (xs := ns.map .int) (by simpa using hr) (by have := alikeInts (n :: ns); simpa using this) (by omega) fun j v h' tk bs _ hv hk => ?_
    rw [PySem.W.maxD_ints] at hv
    cases hv with
    | int _ t => exact ⟨.int _, H, I.kept hk, ⟨_, rfl⟩, q⟩
theorem crOr {f : Value} {r r' : List V → Hp → VK → Prop} (h : CallR X f r) (h' : CallR X f r') : CallR X f (fun xs H Q => r xs H Q ∨ r' xs H Q) := by
  intro pins s σ H xs us Q I rx q
  rcases q with q | q
  · exact h pins s σ H xs us Q I rx q
  · exact h' pins s σ H xs us Q I rx q
def gMin1 : List D → R D
  | [d] => (oR d.items).bind fun ds => (oR (D.ints ds)).bind fun ns => if ns = [] then .stuck else .ok (.int (minI ns))
  | _ => .stuck
def gMax1 : List D → R D
  | [d] => (oR d.items).bind fun ds => (oR (D.ints ds)).bind fun ns => if ns = [] then .stuck else .ok (.int (maxI ns))
  | _ => .stuck
theorem minI_eq {ns : List Int} {m : Int} (h1 : m ∈ ns) (h2 : ∀ y, y ∈ ns → m ≤ y) : m = minI ns := by
  have hne : ns ≠ [] := fun z => by subst z; cases h1
  have h3 := minI_le h1
  have h4 := h2 _ (minI_mem hne)
  omega
theorem maxI_eq {ns : List Int} {m : Int} (h1 : m ∈ ns) (h2 : ∀ y, y ∈ ns → y ≤ m) : m = maxI ns := by
  have hne : ns ≠ [] := fun z => by subst z; cases h1
  have h3 := maxI_le h1
  have h4 := h2 _ (maxI_mem hne)
  omega
theorem sd_min1 (hc : X.calm = true) (hu : X.A.units + 64 < cLine) (hg : Gl X "min") (hm : X.mg "min" = none) (ha : SA X cs W (e :: es) fs)
    (he : starEach (e :: es) X.env = (false, eval e X.env) :: starEach es X.env := by rfl) (hpl : (backTo pos (starEach es X.env)).any (·.1) = false := by rfl) : SD X cs W (.Call (.Name "min" p) (e :: es) [] pos) (eCall gMin1 fs) :=
  sd_callB (crOr (cr_min hc) (cr_minT hc hu)) (fun σ Φ H Q vs ds m r q => by
    unfold gMin1 at q
    split at q
    · obtain ⟨v, rfl, h⟩ := r.one
      obtain ⟨ds, h1, q⟩ := oR_bind (P := Run cs (rD X.K) W σ Φ H Q) q id
      obtain ⟨ns, h2, q⟩ := oR_bind (P := Run cs (rD X.K) W σ Φ H Q) q id
      obtain ⟨a, rfl, h3⟩ := h.intsL m h1 h2
      split at q
      next => exact q.elim
      next hne =>
        rcases h3 with h3 | h3
        · exact .inl ⟨a, ns, rfl, h3, List.length_pos_iff.mpr hne, fun y hy hl => by rw [minI_eq hy hl]; exact q.ok m (.int _)⟩
        · exact .inr ⟨a, ns, rfl, h3, hne, q.ok m (.int _)⟩
    · exact q.elim) (by decide +kernel) hg hm ha (by decide) (by decide) he hpl
theorem sd_max1 (hc : X.calm = true) (hu : X.A.units + 64 < cLine) (hg : Gl X "max") (hm : X.mg "max" = none) (ha : SA X cs W (e :: es) fs)
    (he : starEach (e :: es) X.env = (false, eval e X.env) :: starEach es X.env := by rfl) (hpl : (backTo pos (starEach es X.env)).any (·.1) = false := by rfl) : SD X cs W (.Call (.Name "max" p) (e :: es) [] pos) (eCall gMax1 fs) :=
  sd_callB (crOr (cr_max hc) (cr_maxT hc hu)) (fun σ Φ H Q vs ds m r q => by
    unfold gMax1 at q
    split at q
    · obtain ⟨v, rfl, h⟩ := r.one
      obtain ⟨ds, h1, q⟩ := oR_bind (P := Run cs (rD X.K) W σ Φ H Q) q id
      obtain ⟨ns, h2, q⟩ := oR_bind (P := Run cs (rD X.K) W σ Φ H Q) q id
      obtain ⟨a, rfl, h3⟩ := h.intsL m h1 h2
      split at q
      next => exact q.elim
      next hne =>
        rcases h3 with h3 | h3
        · exact .inl ⟨a, ns, rfl, h3, List.length_pos_iff.mpr hne, fun y hy hl => by rw [maxI_eq hy hl]; exact q.ok m (.int _)⟩
        · exact .inr ⟨a, ns, rfl, h3, hne, q.ok m (.int _)⟩
    · exact q.elim) (by decide +kernel) hg hm ha (by decide) (by decide) he hpl
def gSum : List D → R D
  | [.lst ds] => (oR (D.ints ds)).bind fun ns => .ok (.int ns.sum)
  | [.scr ns] => .ok (.int ns.sum)
  | _ => .stuck
theorem sd_sum (hc : X.calm = true) (hg : Gl X "sum") (hm : X.mg "sum" = none) (ha : SA X cs W (e :: es) fs)
    (he : starEach (e :: es) X.env = (false, eval e X.env) :: starEach es X.env := by rfl) (hpl : (backTo pos (starEach es X.env)).any (·.1) = false := by rfl) : SD X cs W (.Call (.Name "sum" p) (e :: es) [] pos) (eCall gSum fs) :=
  sd_callB (cr_sum hc) (fun σ Φ H Q vs ds m r q => by
    unfold gSum at q
    split at q
    · obtain ⟨v, rfl, h⟩ := r.one
      obtain ⟨ns, h2, q⟩ := oR_bind (P := Run cs (rD X.K) W σ Φ H Q) q id
      obtain ⟨a, vs, rfl, h3, h4⟩ := h.lst_inv m
      rw [ints_eq h2] at h4
      rw [h4.ints_inv] at h3
      exact ⟨a, ns, rfl, SqL.of h3, q.ok m (.int _)⟩
    · obtain ⟨v, rfl, h⟩ := r.one
      obtain ⟨a, rfl, h3⟩ := h.scr_inv m
      exact ⟨a, _, rfl, h3, q.ok m (.int _)⟩
    · exact q.elim) (by decide +kernel) hg hm ha (by decide) (by decide) he hpl
def gAll : List D → R D
  | [.lst ds] => (oR (D.bls ds)).bind fun ns => .ok (.bl (ns.all id))
  | _ => .stuck
def gAny : List D → R D
  | [.lst ds] => (oR (D.bls ds)).bind fun ns => .ok (.bl (ns.any id))
  | _ => .stuck
theorem sd_all (hc : X.calm = true) (hg : Gl X "all") (hm : X.mg "all" = none) (ha : SA X cs W (e :: es) fs)
    (he : starEach (e :: es) X.env = (false, eval e X.env) :: starEach es X.env := by rfl) (hpl : (backTo pos (starEach es X.env)).any (·.1) = false := by rfl) : SD X cs W (.Call (.Name "all" p) (e :: es) [] pos) (eCall gAll fs) :=
  sd_callB (cr_all hc) (fun σ Φ H Q vs ds m r q => by
    unfold gAll at q
    split at q
    · obtain ⟨v, rfl, h⟩ := r.one
      obtain ⟨ns, h2, q⟩ := oR_bind (P := Run cs (rD X.K) W σ Φ H Q) q id
      obtain ⟨a, vs, rfl, h3, h4⟩ := h.lst_inv m
      rw [bls_eq h2] at h4
      rw [h4.bls_inv] at h3
      exact ⟨a, ns, rfl, SqL.of h3, q.ok m (.bl _)⟩
    · exact q.elim) (by decide +kernel) hg hm ha (by decide) (by decide) he hpl
theorem sd_any (hc : X.calm = true) (hg : Gl X "any") (hm : X.mg "any" = none) (ha : SA X cs W (e :: es) fs)
    (he : starEach (e :: es) X.env = (false, eval e X.env) :: starEach es X.env := by rfl) (hpl : (backTo pos (starEach es X.env)).any (·.1) = false := by rfl) : SD X cs W (.Call (.Name "any" p) (e :: es) [] pos) (eCall gAny fs) :=
  sd_callB (cr_any hc) (fun σ Φ H Q vs ds m r q => by
    unfold gAny at q
    split at q
    · obtain ⟨v, rfl, h⟩ := r.one
      obtain ⟨ns, h2, q⟩ := oR_bind (P := Run cs (rD X.K) W σ Φ H Q) q id
      obtain ⟨a, vs, rfl, h3, h4⟩ := h.lst_inv m
      rw [bls_eq h2] at h4
      rw [h4.bls_inv] at h3
      exact ⟨a, ns, rfl, SqL.of h3, q.ok m (.bl _)⟩
    · exact q.elim) (by decide +kernel) hg hm ha (by decide) (by decide) he hpl

/-! ### text * n -/
def rMulS : R2 := fun x y H Q => ∃ (z : Str) (i : Int), x = .str z ∧ y = .int i ∧ z.length ≤ 16 ∧ -(2 ^ 63) ≤ i ∧ i ≤ 1048576 ∧ Q (.str (Txt.mul z i)) H
theorem op_mulS : OpR X (binaryOp .Mult) rMulS := by
  intro pins s σ H x y v u Q I rx ry h
  obtain ⟨z, i, rfl, rfl, h1, h2, h3, q⟩ := h
  obtain ⟨t, rfl⟩ := rx
  obtain ⟨t', rfl⟩ := ry
  exact SB.mul (mulOk_of 16 1048576 h1 h3 h2 (by decide) (by decide)) fun t' k => ⟨.str _, H, I.tok _, ⟨_, rfl⟩, q⟩
theorem foldl_app (x : Array Nat) : ∀ (n : Nat) (acc : Array Nat), ((List.replicate n x).foldl (· ++ ·) acc).toList = acc.toList ++ (List.replicate n x.toList).flatten
  | 0, acc => by simp
  | n + 1, acc => by simp [List.replicate_succ, foldl_app x n]
theorem mul_toL (z : Str) (i : Int) : (Txt.mul z i).cps.toList = (List.replicate i.toNat z.cps.toList).flatten := by
  unfold Txt.mul
  split
  next h =>
    have e : i.toNat = 0 := by omega
    rw [e]; rfl
  next h =>
    split
    next h2 =>
      simp only [Bool.or_eq_true, beq_iff_eq] at h2
      rcases h2 with h2 | h2
      · rw [h2]; simp
      · have e : z.cps.toList = [] := by
          rw [len_toL] at h2; exact List.eq_nil_of_length_eq_zero h2
        rw [e]
        clear e h2
        induction i.toNat with
        | zero => rfl
        | succ n ih => simpa [List.replicate_succ] using ih
    next h2 => simp [foldl_app]
def gMul : D → D → R D
  | .str s, .int i => if s.length ≤ 16 ∧ -(2 ^ 63) ≤ i ∧ i ≤ 1048576 then .ok (.str (List.replicate i.toNat s).flatten) else .stuck
  | d, e => gMulI d e
theorem sd_mul (ha : SV X cs W a fa) (hb : SV X cs W b fb) : SD X cs W (.BinOp a .Mult b pos) (e2 gMul fa fb) := by
  refine sd_op ((op_mul.or op_mulW).or op_mulS) (fun σ Φ H Q v u d e m r1 r2 q => ?_) ha hb
  unfold gMul at q
  split at q
  · obtain ⟨x, rfl, rfl⟩ := r1.str_inv
    cases r2.int_inv
    split at q
    next h =>
      rw [← len_toL] at h
      exact .inr ⟨x, _, rfl, rfl, h.1, h.2.1, h.2.2, q.ok m (.str _ _ (mul_toL _ _))⟩
    next => exact q.elim
  · refine .inl ?_
    unfold gMulI gInt at q
    split at q
    next i j =>
      cases r1.int_inv; cases r2.int_inv
      dsimp only at q
      split at q
      next h =>
        simp only [MulOk, Bool.or_eq_true, decide_eq_true_eq] at h
        rcases h with (h | h) | h
        · exact .inl ⟨_, _, rfl, rfl, .inl (by omega), q.ok m (.int _)⟩
        · exact .inl ⟨_, _, rfl, rfl, .inr (by omega), q.ok m (.int _)⟩
        · exact .inr ⟨_, _, rfl, rfl, h, q.ok m (.int _)⟩
      next => exact q.elim
    next => exact q.elim

/-! ### x op= e -/
def IpD (X : Cx) (cs : Nat → Addr) (W : WX) (r : TIp) (g : D → D → R D) : Prop := OpD X cs W r g
def augV (i : Nat) (g : D → D → R D) (fe : Ev D) : Es := fun ρ => match ρ[i]? with
  | some (.val d) => tryE ρ (fe ρ) fun y => tryE ρ (g d y) fun z => .nx (ρ.set i (.val z))
  | _ => .stuck
theorem ss_aug {op : Operator} {r : TIp} {g : D → D → R D} (j : Nat) {x : Str} (hn : np ≤ j) (hN : X.N.Nodup) (ho : PIp X op r) (hg : OpD X cs (fun _ _ _ _ => False) r g) (hx : ∀ d e z, g d e ≠ .exc z) (he : SV X cs W e fe) (hi : X.N[j]? = some x := by rfl) (hl : Loc X.env.scope x := by first | exact Or.inl rfl | exact Or.inr rfl) (hf : X.fn x = true ∨ X.env.scope.names.lookup x = some .local := by first | exact .inl rfl | exact .inr rfl | assumption) :
    SS X cs W np (.AugAssign (.Name x pos') op e pos) (augV j g fe) := psImp (ps_aug hN hi hl he ho hf) fun D' σ H ⟨Φ, ρ, r, q⟩ => by
  unfold augV at q
  split at q
  next d e1 =>
    obtain ⟨v, h1, h2⟩ := r.val j d e1
    refine ⟨v, h1, tG.bindS (rp := rV X.K) r q fun Φ1 H1 y u r1 x1 rep q => ?_⟩
    cases e3 : g d y with
    | stuck => rw [e3] at q; exact q.elim
    | exc z => exact absurd e3 (hx _ _ _)
    | ok z =>
      rw [e3] at q
      refine hg σ Φ1 H1 _ v u d y r1.sub (.inl (h2.mono x1.mono)) rep ?_
      rw [e3]
      intro Φ2 H2 w x2 rz
      have r2 : Rel X.K Φ2 H2 (σ.set j (some w)) (ρ.set j (.val z)) := (r1.ext x2).set rz
      refine q Φ2 H2 _ (Stp.ofExt x2 fun a ⟨k, p1, d', p2⟩ => .inl ?_) r2 ?_
      · by_cases hk : j = k
        · subst hk
          by_cases hlen : j < ρ.length
          · rw [List.getElem?_set_self hlen] at p2; cases p2
          · rw [List.getElem?_eq_none (by simpa using hlen)] at p2; cases p2
        · rw [List.getElem?_set_ne hk] at p1 p2
          exact ⟨k, p1, d', p2⟩
      · rw [List.take_set_of_le hn]
  next => exact q.elim
theorem ipOr {op : Operator} {r r' : TIp} (h : PIp X op r) (h' : PIp X op r') : PIp X op (fun x y H Q => r x y H Q ∨ r' x y H Q) := by
  intro pins s σ H x y v u Q I rx ry q
  rcases q with q | q
  · exact h pins s σ H x y v u Q I rx ry q
  · exact h' pins s σ H x y v u Q I rx ry q
def gAddA : D → D → R D
  | .int i, .int j => .ok (.int (i + j))
  | .str x, .str y => if x.length + y.length ≤ LIM then .ok (.str (x ++ y)) else .stuck
  | _, _ => .stuck
theorem ss_augAdd (j : Nat) {x : Str} (hn : np ≤ j) (hN : X.N.Nodup) (he : SV X cs W e fe) (hi : X.N[j]? = some x := by rfl) (hl : Loc X.env.scope x := by first | exact Or.inl rfl | exact Or.inr rfl) (hf : X.fn x = true ∨ X.env.scope.names.lookup x = some .local := by first | exact .inl rfl | exact .inr rfl | assumption) :
    SS X cs W np (.AugAssign (.Name x pos') .Add e pos) (augV j gAddA fe) :=
  ss_aug j hn hN (ipOr ip_add (r' := fun x y H Q => ∃ i j, x = .str i ∧ y = .str j ∧ i.length + j.length ≤ sizeLine ∧ Q (.str (i ++ j)) H) iop_add_str) (fun σ Φ H Q v u d e m r1 r2 q => by
    unfold gAddA at q
    split at q
    · cases r1.int_inv; cases r2.int_inv
      exact .inl ⟨_, _, rfl, rfl, q.ok m (.int _)⟩
    · obtain ⟨x, rfl, rfl⟩ := r1.str_inv
      obtain ⟨y, rfl, rfl⟩ := r2.str_inv
      split at q
      next h =>
        rw [← len_toL, ← len_toL] at h
        exact .inr ⟨_, _, rfl, rfl, lim_le h, q.ok m (.str _ _ (toL_append x y))⟩
      next => exact q.elim
    · exact q.elim) (fun d e z h => by unfold gAddA at h; split at h <;> first | cases h | (split at h <;> cases h)) he hi hl hf
theorem gInt_nx (f : Int → Int → Int) (d e : D) (z : Exn) : gInt (fun i j => .ok (.int (f i j))) d e ≠ .exc z := fun h => by
  unfold gInt at h; split at h <;> cases h
theorem ss_augSub (j : Nat) {x : Str} (hn : np ≤ j) (hN : X.N.Nodup) (he : SV X cs W e fe) (hi : X.N[j]? = some x := by rfl) (hl : Loc X.env.scope x := by first | exact Or.inl rfl | exact Or.inr rfl) (hf : X.fn x = true ∨ X.env.scope.names.lookup x = some .local := by first | exact .inl rfl | exact .inr rfl | assumption) :
    SS X cs W np (.AugAssign (.Name x pos') .Sub e pos) (augV j gSub fe) := ss_aug j hn hN (r := rI0 fun i j => .int (i - j)) ip_sub opInt0 (gInt_nx _) he hi hl hf
theorem ss_augOr (j : Nat) {x : Str} (hn : np ≤ j) (hN : X.N.Nodup) (he : SV X cs W e fe) (hi : X.N[j]? = some x := by rfl) (hl : Loc X.env.scope x := by first | exact Or.inl rfl | exact Or.inr rfl) (hf : X.fn x = true ∨ X.env.scope.names.lookup x = some .local := by first | exact .inl rfl | exact .inr rfl | assumption) :
    SS X cs W np (.AugAssign (.Name x pos') .BitOr e pos) (augV j gOr fe) := ss_aug j hn hN (r := rI0 fun i j => .int (Builtin.bitOr i j)) iop_or opInt0 (gInt_nx _) he hi hl hf
theorem ss_augAnd (j : Nat) {x : Str} (hn : np ≤ j) (hN : X.N.Nodup) (he : SV X cs W e fe) (hi : X.N[j]? = some x := by rfl) (hl : Loc X.env.scope x := by first | exact Or.inl rfl | exact Or.inr rfl) (hf : X.fn x = true ∨ X.env.scope.names.lookup x = some .local := by first | exact .inl rfl | exact .inr rfl | assumption) :
    SS X cs W np (.AugAssign (.Name x pos') .BitAnd e pos) (augV j gAnd fe) := ss_aug j hn hN (r := rI0 fun i j => .int (Builtin.bitAnd i j)) iop_and opInt0 (gInt_nx _) he hi hl hf
theorem ss_augXor (j : Nat) {x : Str} (hn : np ≤ j) (hN : X.N.Nodup) (he : SV X cs W e fe) (hi : X.N[j]? = some x := by rfl) (hl : Loc X.env.scope x := by first | exact Or.inl rfl | exact Or.inr rfl) (hf : X.fn x = true ∨ X.env.scope.names.lookup x = some .local := by first | exact .inl rfl | exact .inr rfl | assumption) :
    SS X cs W np (.AugAssign (.Name x pos') .BitXor e pos) (augV j gXor fe) := ss_aug j hn hN (r := rI0 fun i j => .int (Builtin.bitXor i j)) iop_xor opInt0 (gInt_nx _) he hi hl hf

/-! ### own lists and dicts: x[i] = e, x[i] += e, d[k] = e -/
def setL (j : Nat) (fi fv : Ev D) : Es := fun ρ => match ρ[j]? with
  | some (.own (.lst ds)) => tryE ρ (fv ρ) fun d => tryE ρ (fi ρ) fun k => match k with
    | .int k => (match ixN ds.length k with
      | some m => .nx (ρ.set j (.own (.lst (ds.set m d))))
      | none => .stuck)
    | _ => .stuck
  | _ => .stuck
def setD (j : Nat) (fi fv : Ev D) : Es := fun ρ => match ρ[j]? with
  | some (.own (.dic es)) => tryE ρ (fv ρ) fun d => tryE ρ (fi ρ) fun k => match k.key with
    | some kc => if es.length < LIM then .nx (ρ.set j (.own (.dic (putC es kc d)))) else .stuck
    | none => .stuck
  | _ => .stuck
/-- x[k] op= e, x a list of its own, k not below 0 -/
def augL (j : Nat) (fi : Ev D) (g : D → D → R D) (fe : Ev D) : Es := fun ρ => match ρ[j]? with
  | some (.own (.lst ds)) => tryE ρ (fi ρ) fun k => match k with
    | .int k => if 0 ≤ k ∧ k < LIM then (match ds[k.toNat]? with
      | some d => tryE ρ (fe ρ) fun y => tryE ρ (g d y) fun z => .nx (ρ.set j (.own (.lst (ds.set k.toNat z))))
      | none => .stuck) else .stuck
    | _ => .stuck
  | _ => .stuck
theorem ss_setL (j : Nat) {x : Str} (hv : SD X cs W e fe) (hii : SV X cs W i fi) (hN : X.N[j]? = some x := by rfl) (hvis : Vis X.env.scope x := by first | exact Or.inl rfl | exact Or.inr (Or.inl rfl) | exact Or.inr (Or.inr rfl)) (hd : (x == ("__debug__" : Str)) = false := by decide) (hcd : (x == ("__classdict__" : Str)) = false := by decide)
    (hs : swapsWithSole [.Subscript (.Name x p) i pos'] e pos.line X.env = pure false := by rfl) (hw : swappedStores [.Subscript (.Name x p) i pos'] e X.env = pure none := by rfl)
    (h1 : (assignEach [.Subscript (.Name x p) i pos'] X.env).map (·.2) = [assign (.Subscript (.Name x p) i pos') X.env] := by rfl)
    (ha : ∀ v, assign (.Subscript (.Name x p) i pos') X.env v = (do
      let ov ← holding [v] (eval (.Name x p) X.env)
      let iv ← holding [v, ov] (eval i X.env)
      standAt pos'
      holding [v, ov, iv] (setItem ov iv v)
      release [v, ov, iv] []) := by intro _; rfl) :
    SS X cs W np (.Assign [.Subscript (.Name x p) i pos'] e pos) (setL j fi fe) :=
  psImp (ps_asg hv (pg_sub (pe_var hN hvis hd hcd) hii set_list ha) hs hw h1) fun D' σ H ⟨Φ, ρ, r, q⟩ => by
    unfold setL at q
    split at q
    next ds e0 =>
      refine tG.bindS (rp := rD X.K) r q fun Φ1 H1 d v r1 x1 rep q => ?_
      obtain ⟨a, h1, h2, h3⟩ := r1.own j _ e0
      refine ⟨_, h1, tG.bindS (rp := rV X.K) r1 q fun Φ2 H2 k u r2 x2 rep2 q => ?_⟩
      cases h2 with
      | lst h2 h4 =>
        split at q
        next k =>
          cases rep2.int_inv
          split at q
          next m hm =>
            refine ⟨a, _, _, m, rfl, rfl, x2.heap _ _ h2, by rw [← h4.length]; exact hm, ?_⟩
            obtain ⟨r3, s3⟩ := r2.mut (d' := .lst (ds.set m d)) (u := .lst _) h1 e0 (.lst upd_same ((h4.mono x2.mono).set (rep.mono x2.mono) m))
            exact q _ _ σ s3 r3 rfl
          next => exact q.elim
        next => exact q.elim
    next => exact q.elim
theorem ss_setD (hu : X.A.units + 1 < cLine) (j : Nat) {x : Str} (hv : SD X cs W e fe) (hii : SV X cs W i fi) (hN : X.N[j]? = some x := by rfl) (hvis : Vis X.env.scope x := by first | exact Or.inl rfl | exact Or.inr (Or.inl rfl) | exact Or.inr (Or.inr rfl)) (hd : (x == ("__debug__" : Str)) = false := by decide) (hcd : (x == ("__classdict__" : Str)) = false := by decide)
    (hs : swapsWithSole [.Subscript (.Name x p) i pos'] e pos.line X.env = pure false := by rfl) (hw : swappedStores [.Subscript (.Name x p) i pos'] e X.env = pure none := by rfl)
    (h1 : (assignEach [.Subscript (.Name x p) i pos'] X.env).map (·.2) = [assign (.Subscript (.Name x p) i pos') X.env] := by rfl)
    (ha : ∀ v, assign (.Subscript (.Name x p) i pos') X.env v = (do
      let ov ← holding [v] (eval (.Name x p) X.env)
      let iv ← holding [v, ov] (eval i X.env)
      standAt pos'
      holding [v, ov, iv] (setItem ov iv v)
      release [v, ov, iv] []) := by intro _; rfl) :
    SS X cs W np (.Assign [.Subscript (.Name x p) i pos'] e pos) (setD j fi fe) :=
  psImp (ps_asg hv (pg_sub (pe_var hN hvis hd hcd) hii (set_dict hu) ha) hs hw h1) fun D' σ H ⟨Φ, ρ, r, q⟩ => by
    unfold setD at q
    split at q
    next es e0 =>
      refine tG.bindS (rp := rD X.K) r q fun Φ1 H1 d v r1 x1 rep q => ?_
      obtain ⟨a, h1, h2, h3⟩ := r1.own j _ e0
      refine ⟨_, h1, tG.bindS (rp := rV X.K) r1 q fun Φ2 H2 k u r2 x2 rep2 q => ?_⟩
      cases h2 with
      | dic h2 h4 =>
        split at q
        next kc hk =>
          obtain ⟨k', rfl, rfl⟩ := RepV.key rep2 hk
          split at q
          next hl =>
            have h5 := h4.mono x2.mono
            refine ⟨a, _, rfl, DPut.k (x2.heap _ _ h2) (by rw [← h4.length]; exact lim_lt (by omega)), ?_⟩
            obtain ⟨r3, s3⟩ := r2.mut (d' := .dic (putC es (kcK k') d)) (u := .dK _) h1 e0 (.dic upd_same (h5.put (rep.mono x2.mono)))
            exact q _ _ σ s3 r3 rfl
          next => exact q.elim
        next => exact q.elim
    next => exact q.elim
def rGetL (K : PySem.W.Frag) : V → V → Hp → VK → Prop := fun x y H Q => ∃ p xs k v, x = .ref p ∧ y = .int k ∧ SqL K H p xs ∧ 0 ≤ k ∧ k < 2 ^ 63 ∧ xs[k.toNat]? = some v ∧ Q v H
theorem get_listL : PGet X (rGetL X.K) := by
  intro pins s σ H o i ov iv Q I ro ri h
  obtain ⟨p, xs, k, v, rfl, rfl, hq, h0, h1, hv, q⟩ := h
  cases ro
  obtain ⟨t, rfl⟩ := ri
  obtain ⟨its, r, pl, hz⟩ := I.list hq
  obtain ⟨w, ew, rw'⟩ := r.get hv
  exact wpAny_getItem_list pl.isList h0 h1 (x := w) (by simpa using ew) ⟨v, H, I, rw', q⟩
theorem ss_augL {op : Operator} {r : TIp} {g : D → D → R D} (j : Nat) {x : Str} (ho : PIp X op r) (hg : OpD X cs (fun _ _ _ _ => False) r g) (hx : ∀ d e z, g d e ≠ .exc z) (hii : SV X cs W i fi) (he : SV X cs W e fe) (hN : X.N[j]? = some x := by rfl) (hvis : Vis X.env.scope x := by first | exact Or.inl rfl | exact Or.inr (Or.inl rfl) | exact Or.inr (Or.inr rfl)) (hd : (x == ("__debug__" : Str)) = false := by decide) (hcd : (x == ("__classdict__" : Str)) = false := by decide)
    (ha : ∀ ov iv new, augStore i ov iv new = (do holding [new, ov, iv] (setItem ov iv new); release [new, ov, iv] []; pure .next) := by intros; rfl) :
    SS X cs W np (.AugAssign (.Subscript (.Name x p) i pos') op e pos) (augL j fi g fe) :=
  psImp (ps_augS (pe_var hN hvis hd hcd) hii get_listL he ho set_list ha) fun D' σ H ⟨Φ, ρ, r0, q⟩ => by
    unfold augL at q
    split at q
    next ds e0 =>
      obtain ⟨a, h1, h2, h3⟩ := r0.own j _ e0
      refine ⟨_, h1, tG.bindS (rp := rV X.K) r0 q fun Φ1 H1 k u r1 x1 rep q => ?_⟩
      cases h2 with
      | lst h2 h4 =>
        split at q
        next k =>
          cases rep.int_inv
          split at q
          next hk =>
            split at q
            next d hd =>
              obtain ⟨v, hv1, hv2⟩ := h4.get hd
              have hlim : k < 2 ^ 63 := by have := hk.2; simp only [LIM] at this; omega
              refine ⟨a, _, _, v, rfl, rfl, SqL.of (x1.heap _ _ h2), hk.1, hlim, hv1, tG.bindS (rp := rV X.K) r1 q fun Φ2 H2 y w r2 x2 rep2 q => ?_⟩
              cases e3 : g d y with
              | stuck => rw [e3] at q; exact q.elim
              | exc z => exact absurd e3 (hx _ _ _)
              | ok z =>
                rw [e3] at q
                refine hg σ Φ2 H2 _ v w d y r2.sub (.inl ((hv2.mono x1.mono).mono x2.mono)) rep2 ?_
                rw [e3]
                intro Φ3 H3 zv x3 rz
                have hm : ixN ds.length k = some k.toNat := by
                  have := ixN_of ds.length k.toNat (List.getElem?_eq_some_iff.mp hd).1
                  have e4 : ((k.toNat : Nat) : Int) = k := by omega
                  rwa [e4] at this
                refine ⟨a, _, _, k.toNat, rfl, rfl, x3.heap _ _ (x2.heap _ _ (x1.heap _ _ h2)), by rw [← h4.length]; exact hm, ?_⟩
                have m3 := (x1.mono.trans x2.mono).trans x3.mono
                obtain ⟨r3, s3⟩ := (r2.ext x3).mut (d' := .lst (ds.set k.toNat z)) (u := .lst _) h1 e0 (.lst upd_same ((h4.mono m3).set rz k.toNat))
                exact q _ _ σ ((Stp.ofExt x3 fun a p => .inl p).trans s3) r3 rfl
            next => exact q.elim
          next => exact q.elim
        next => exact q.elim
    next => exact q.elim
theorem ss_augLAdd (j : Nat) {x : Str} (hii : SV X cs W i fi) (he : SV X cs W e fe) (hN : X.N[j]? = some x := by rfl) (hvis : Vis X.env.scope x := by first | exact Or.inl rfl | exact Or.inr (Or.inl rfl) | exact Or.inr (Or.inr rfl)) (hd : (x == ("__debug__" : Str)) = false := by decide) (hcd : (x == ("__classdict__" : Str)) = false := by decide)
    (ha : ∀ ov iv new, augStore i ov iv new = (do holding [new, ov, iv] (setItem ov iv new); release [new, ov, iv] []; pure .next) := by intros; rfl) :
    SS X cs W np (.AugAssign (.Subscript (.Name x p) i pos') .Add e pos) (augL j fi (gInt fun i j => .ok (.int (i + j))) fe) :=
  ss_augL j (r := rI0 fun i j => .int (i + j)) ip_add opInt0 (gInt_nx _) hii he hN hvis hd hcd ha
end
end PL

set_option Elab.async false
set_option linter.all false
set_option maxRecDepth 100000
/-! PL12: expression statements, text walks, reversed, sorted -/
namespace PL
set_option autoImplicit false
open PySem PySem.Spec PyProof.Rows L2
section
variable {X : Cx} {cs : Nat → Addr} {W : WX} {np : Nat} {a b c e o i tg : Expr} {fa fb fc fe fi : Ev D} {pos p apos cpos pos' : Pos} {es : List Expr} {fs : Ev (List D)}
def expS (fe : Ev D) : Es := fun ρ => tryE ρ (fe ρ) fun _ => .nx ρ
theorem ss_exp (he : SV X cs W e fe) (hsw : swapsWith e none pos.line X.env = pure false := by rfl) : SS X cs W np (.Expr e pos) (expS fe) :=
  psImp (ps_expr he hsw) fun D' σ H ⟨Φ, ρ, r, q⟩ => tG.bindS (rp := rV X.K) r q fun Φ1 H1 d v r1 x rep q => q.nx0 r1
end
end PL

set_option Elab.async false
set_option linter.all false
set_option maxRecDepth 100000
/-! PL13: calls that are handed lists and dicts of the caller's own -/
namespace PL
set_option autoImplicit false
open PySem PySem.Spec PyProof.Rows L2

/-- an argument: frozen data, or a slot's own list or dict -/
inductive Ar where
  | fz (f : Ev D) | bw (j : Nat)
def Ar.j : Ar → Option Nat
  | .fz _ => none
  | .bw j => some j
def bwK (r : R (List Sl)) (s : Option Sl) : R (List Sl) := match s with
  | some (.own d) => r.bind fun l => .ok (.own d :: l)
  | _ => .stuck
def arS : List Ar → List Sl → R (List Sl)
  | [], _ => .ok []
  | .fz f :: r, ρ => (f ρ).bind fun d => (arS r ρ).bind fun l => .ok (.val d :: l)
  | .bw j :: r, ρ => bwK (arS r ρ) ρ[j]?
/-- the slots behind a call -/
def bwSet : List Ar → List Sl → List Sl → List Sl
  | [], _, ρ => ρ
  | .fz _ :: r, _ :: fin, ρ => bwSet r fin ρ
  | .bw j :: r, s :: fin, ρ => bwSet r fin (ρ.set j s)
  | _ :: _, [], ρ => ρ
inductive ArgR (K : PySem.W.Frag) (Φ : Hp) (σ : L2.St) (ρ : List Sl) : List Ar → List Sl → List V → Prop
  | nil : ArgR K Φ σ ρ [] [] []
  | fz {f : Ev D} {d : D} {v : V} {ars : List Ar} {l : List Sl} {vs : List V} : RepD K Φ d v → ArgR K Φ σ ρ ars l vs → ArgR K Φ σ ρ (.fz f :: ars) (.val d :: l) (v :: vs)
  | bw {j : Nat} {d : D} {v : V} {ars : List Ar} {l : List Sl} {vs : List V} : ρ[j]? = some (.own d) → σ[j]? = some (some v) → ArgR K Φ σ ρ ars l vs → ArgR K Φ σ ρ (.bw j :: ars) (.own d :: l) (v :: vs)
section
variable {K : PySem.W.Frag} {Φ Φ' H H' : Hp} {σ : L2.St} {ρ : List Sl}
theorem ArgR.len : ∀ {ars : List Ar} {l : List Sl} {vs : List V}, ArgR K Φ σ ρ ars l vs → l.length = ars.length ∧ vs.length = ars.length
  | _, _, _, .nil => ⟨rfl, rfl⟩
  | _, _, _, .fz _ h => by have := h.len; simp [this.1, this.2]
  | _, _, _, .bw _ _ h => by have := h.len; simp [this.1, this.2]
theorem ArgR.at : ∀ {ars : List Ar} {l : List Sl} {vs : List V} {p : Nat} {s : Sl}, ArgR K Φ σ ρ ars l vs → l[p]? = some s → ∃ v, vs[p]? = some v ∧ ((∃ d, s = .val d ∧ RepD K Φ d v ∧ (∃ f, ars[p]? = some (.fz f))) ∨ ∃ d j, s = .own d ∧ ars[p]? = some (.bw j) ∧ ρ[j]? = some (.own d) ∧ σ[j]? = some (some v))
  | _, _, _, _, _, .nil, e => by simp at e
  | _, _, _, 0, _, .fz h _, e => by simp at e; subst e; exact ⟨_, rfl, .inl ⟨_, rfl, h, _, rfl⟩⟩
  | _, _, _, 0, _, .bw h1 h2 _, e => by simp at e; subst e; exact ⟨_, rfl, .inr ⟨_, _, rfl, rfl, h1, h2⟩⟩
  | _, _, _, p + 1, _, .fz _ h, e => by
    obtain ⟨v, h1, h2⟩ := ArgR.at (p := p) h (by simpa using e)
    exact ⟨v, by simpa using h1, by simpa using h2⟩
  | _, _, _, p + 1, _, .bw _ _ h, e => by
    obtain ⟨v, h1, h2⟩ := ArgR.at (p := p) h (by simpa using e)
    exact ⟨v, by simpa using h1, by simpa using h2⟩
theorem ArgR.atV : ∀ {ars : List Ar} {l : List Sl} {vs : List V} {p j : Nat}, ArgR K Φ σ ρ ars l vs → ars[p]? = some (.bw j) → ∃ v, vs[p]? = some v ∧ σ[j]? = some (some v)
  | _, _, _, _, _, .nil, e => by simp at e
  | _, _, _, 0, _, .fz h _, e => by simp at e
  | _, _, _, 0, _, .bw h1 h2 _, e => by simp at e; subst e; exact ⟨_, rfl, h2⟩
  | _, _, _, p + 1, _, .fz _ h, e => by
    obtain ⟨v, h1, h2⟩ := ArgR.atV (p := p) h (by simpa using e)
    exact ⟨v, by simpa using h1, h2⟩
  | _, _, _, p + 1, _, .bw _ _ h, e => by
    obtain ⟨v, h1, h2⟩ := ArgR.atV (p := p) h (by simpa using e)
    exact ⟨v, by simpa using h1, h2⟩
theorem bwUniq : ∀ {ars : List Ar}, (ars.filterMap Ar.j).Nodup → ∀ {p q j : Nat}, ars[p]? = some (.bw j) → ars[q]? = some (.bw j) → p = q
  | [], _, p, q, j, h, _ => by simp at h
  | a :: ars, hn, p, q, j, h1, h2 => by
    have mem : ∀ {r : Nat}, ars[r]? = some (.bw j) → j ∈ ars.filterMap Ar.j := fun h => List.mem_filterMap.mpr ⟨_, List.mem_of_getElem? h, rfl⟩
    have hn' : (ars.filterMap Ar.j).Nodup := by
      cases a with
      | fz f => simpa [List.filterMap_cons, Ar.j] using hn
      | bw i => simp [List.filterMap_cons, Ar.j] at hn; exact hn.2
    have top : a = .bw j → ∀ {r : Nat}, ars[r]? ≠ some (Ar.bw j) := fun e r h => by
      subst e
      simp only [List.filterMap_cons, Ar.j, List.nodup_cons] at hn
      exact hn.1 (mem h)
    cases p with
    | zero =>
      cases q with
      | zero => rfl
      | succ q => exact absurd (by simpa using h2) (top (by simpa using h1) (r := q))
    | succ p =>
      cases q with
      | zero => exact absurd (by simpa using h1) (top (by simpa using h2) (r := p))
      | succ q => exact congrArg (· + 1) (bwUniq hn' (by simpa using h1) (by simpa using h2))
theorem bwSet_len : ∀ (ars : List Ar) (fin ρ : List Sl), (bwSet ars fin ρ).length = ρ.length
  | [], _, _ => rfl
  | .fz _ :: r, [], _ => rfl
  | .bw _ :: r, [], _ => rfl
  | .fz _ :: r, _ :: fin, ρ => bwSet_len r fin ρ
  | .bw j :: r, s :: fin, ρ => by rw [bwSet, bwSet_len r fin]; simp
theorem bwSet_at : ∀ (ars : List Ar) (fin ρ : List Sl) (i : Nat) (s : Sl), (bwSet ars fin ρ)[i]? = some s → ars.length = fin.length → (ρ[i]? = some s ∧ ∀ p : Nat, ars[p]? ≠ some (Ar.bw i)) ∨ ∃ p : Nat, ars[p]? = some (Ar.bw i) ∧ fin[p]? = some s
  | [], fin, ρ, i, s, h, _ => .inl ⟨h, fun p => by simp⟩
  | .fz _ :: r, [], _, _, _, _, e => by simp at e
  | .bw _ :: r, [], _, _, _, _, e => by simp at e
  | .fz f :: r, x :: fin, ρ, i, s, h, e => by
    rcases bwSet_at r fin ρ i s h (by simpa using e) with ⟨h1, h2⟩ | ⟨p, h1, h2⟩
    · refine .inl ⟨h1, fun p => ?_⟩
      cases p with
      | zero => simp
      | succ p => simpa using h2 p
    · exact .inr ⟨p + 1, by simpa using h1, by simpa using h2⟩
  | .bw j :: r, x :: fin, ρ, i, s, h, e => by
    rcases bwSet_at r fin (ρ.set j x) i s h (by simpa using e) with ⟨h1, h2⟩ | ⟨p, h1, h2⟩
    · by_cases hj : j = i
      · subst hj
        by_cases hl : j < ρ.length
        · rw [List.getElem?_set_self hl] at h1
          exact .inr ⟨0, rfl, by simpa using h1⟩
        · rw [List.getElem?_eq_none (by simpa using hl)] at h1; cases h1
      · rw [List.getElem?_set_ne hj] at h1
        refine .inl ⟨h1, fun p => ?_⟩
        cases p with
        | zero => simp; exact hj
        | succ p => simpa using h2 p
    · exact .inr ⟨p + 1, by simpa using h1, by simpa using h2⟩
theorem ArgR.mono {ars : List Ar} {l : List Sl} {vs : List V} (m : Same Φ Φ') (h : ArgR K Φ σ ρ ars l vs) : ArgR K Φ' σ ρ ars l vs := by
  induction h with
  | nil => exact .nil
  | fz h _ ih => exact .fz (h.mono m) ih
  | bw h1 h2 _ ih => exact .bw h1 h2 ih
theorem ArgR.own {ars : List Ar} {l : List Sl} {vs : List V} (h : ArgR K Φ σ ρ ars l vs) {p : Nat} {a : Addr} (w : OwnAt (vS vs) l p a) : ∃ j, ars[p]? = some (.bw j) ∧ OwnAt σ ρ j a := by
  obtain ⟨h1, d, h2⟩ := w
  obtain ⟨v, e1, z⟩ := h.at h2
  rcases z with ⟨d', e, _⟩ | ⟨d', j, e, e2, e3, e4⟩
  · cases e
  · simp only [vS, List.getElem?_map, e1, Option.map_some] at h1
    cases h1
    exact ⟨j, e2, e4, d', e3⟩
/-- the callee's slots -/
theorem ArgR.rel {ars : List Ar} {l : List Sl} {vs : List V} (h : ArgR K Φ σ ρ ars l vs) (hn : (ars.filterMap Ar.j).Nodup) (r : Rel K Φ H σ ρ) : Rel K Φ H (vS vs) l := by
  refine ⟨r.sub, by simp [h.len.1, h.len.2], fun p d e => ?_, fun p d e => ?_, fun p q a h1 h2 => ?_⟩
  · obtain ⟨v, e1, z⟩ := h.at e
    rcases z with ⟨d', e, hr, _⟩ | ⟨d', j, e, _⟩
    · cases e; exact ⟨v, by simp [e1], hr⟩
    · cases e
  · obtain ⟨v, e1, z⟩ := h.at e
    rcases z with ⟨d', e, _⟩ | ⟨d', j, e, e2, e3, e4⟩
    · cases e
    · cases e
      obtain ⟨a, g1, g2, g3⟩ := r.own j _ e3
      rw [e4] at g1; cases g1
      exact ⟨a, by simp [e1], g2, g3⟩
  · obtain ⟨i, k1, k2⟩ := h.own h1
    obtain ⟨j, k3, k4⟩ := h.own h2
    have := r.sep i j a k2 k4
    subst this
    exact bwUniq hn k1 k3
/-- the caller's slots behind the call, the answer last -/
theorem callBack {ars : List Ar} {l fin : List Sl} {vs : List V} {v : V} {rr : Sl} (h : ArgR K Φ σ ρ ars l vs) (r : Rel K Φ H σ ρ) (s : Stp (Own (vS vs) l) Φ H Φ' H' (Own (vS vs ++ [some v]) (fin ++ [rr]))) (r' : Rel K Φ' H' (vS vs ++ [some v]) (fin ++ [rr])) :
    Rel K Φ' H' (σ ++ [some v]) (bwSet ars fin ρ ++ [rr]) ∧ Stp (Own σ ρ) Φ H Φ' H' (Own (σ ++ [some v]) (bwSet ars fin ρ ++ [rr])) := by
  have hlf : fin.length = ars.length := by
    have := r'.len
    simp at this
    rw [← this, h.len.2]
  have hlv : (vS vs).length = fin.length := by simpa using r'.len
  have hl : (bwSet ars fin ρ).length = ρ.length := bwSet_len _ _ _
  have out : ∀ i a, OwnAt σ ρ i a → (∀ p : Nat, ars[p]? ≠ some (Ar.bw i)) → ¬ Own (vS vs) l a := fun i a h1 h2 ⟨p, w⟩ => by
    obtain ⟨j, k1, k2⟩ := h.own w
    have := r.sep i j a h1 k2
    subst this
    exact h2 p k1
  have inn : ∀ a, Own (vS vs) l a → Own σ ρ a := fun a ⟨p, w⟩ => by
    obtain ⟨j, _, k2⟩ := h.own w
    exact ⟨j, k2⟩
  have sg : ∀ i v', σ[i]? = some v' → i < ρ.length → (σ ++ [some v])[i]? = some v' := fun i v' e hi => by rw [List.getElem?_append_left (by rw [r.len]; exact hi)]; exact e
  /- each slot of the new frame: an old one, or a slot of the callee's -/
  have kind : ∀ i sl, (bwSet ars fin ρ ++ [rr])[i]? = some sl → (i < ρ.length ∧ ρ[i]? = some sl ∧ ∀ p : Nat, ars[p]? ≠ some (Ar.bw i)) ∨ ∃ p, (fin ++ [rr])[p]? = some sl ∧ (vS vs ++ [some v])[p]? = (σ ++ [some v])[i]? ∧ ((i < ρ.length ∧ ars[p]? = some (.bw i)) ∨ (i = ρ.length ∧ p = fin.length)) := fun i sl e => by
    rcases getApp e with e | ⟨hi, e1⟩
    · have hi : i < ρ.length := by rw [← hl]; exact (List.getElem?_eq_some_iff.mp e).1
      rcases bwSet_at ars fin ρ i sl e hlf.symm with ⟨h1, h2⟩ | ⟨p, h1, h2⟩
      · exact .inl ⟨hi, h1, h2⟩
      · obtain ⟨u, k1, k2⟩ := h.atV h1
        have hp : p < fin.length := (List.getElem?_eq_some_iff.mp h2).1
        refine .inr ⟨p, by rw [List.getElem?_append_left hp]; exact h2, ?_, .inl ⟨hi, h1⟩⟩
        rw [List.getElem?_append_left (by rw [hlv]; exact hp), sg i _ k2 hi]
        simp [k1]
    · refine .inr ⟨fin.length, by simp [e1], ?_, .inr ⟨by omega, rfl⟩⟩
      rw [hi, hl, ← hlv, ← r.len]
      simp
  have ownK : ∀ i a, OwnAt (σ ++ [some v]) (bwSet ars fin ρ ++ [rr]) i a → (OwnAt σ ρ i a ∧ ∀ p : Nat, ars[p]? ≠ some (Ar.bw i)) ∨ ∃ p, OwnAt (vS vs ++ [some v]) (fin ++ [rr]) p a ∧ ((i < ρ.length ∧ ars[p]? = some (.bw i)) ∨ (i = ρ.length ∧ p = fin.length)) := fun i a ⟨h1, d, h2⟩ => by
    rcases kind i _ h2 with ⟨hi, k1, k2⟩ | ⟨p, k1, k2, k3⟩
    · rw [List.getElem?_append_left (by rw [r.len]; exact hi)] at h1
      exact .inl ⟨⟨h1, d, k1⟩, k2⟩
    · exact .inr ⟨p, ⟨by rw [k2]; exact h1, d, k1⟩, k3⟩
  have aux : ∀ i j a, (OwnAt σ ρ i a ∧ ∀ p : Nat, ars[p]? ≠ some (Ar.bw i)) → (∃ p, OwnAt (vS vs ++ [some v]) (fin ++ [rr]) p a ∧ ((j < ρ.length ∧ ars[p]? = some (.bw j)) ∨ (j = ρ.length ∧ p = fin.length))) → False := fun i j a ⟨w1, w2⟩ ⟨p, w3, _⟩ => by
    rcases s.own a ⟨p, w3⟩ with z | z
    · exact out i a w1 w2 z
    · obtain ⟨h1, d, h2⟩ := w1
      obtain ⟨a', g1, g2, _⟩ := r.own i d h2
      rw [h1] at g1; cases g1
      obtain ⟨o, ho⟩ := g2.there
      rw [z] at ho; cases ho
  refine ⟨⟨r'.sub, by simp [r.len, hl], fun i d e => ?_, fun i d e => ?_, fun i j a h1 h2 => ?_⟩, ⟨s.mono, fun b o e hn => s.frame b o e fun w => hn (inn b w), fun a ⟨i, w⟩ => ?_, fun b o e => (s.new b o e).imp id (Or.imp (inn b) id)⟩⟩
  · rcases kind i _ e with ⟨hi, k1, k2⟩ | ⟨p, k1, k2, _⟩
    · obtain ⟨u, g1, g2⟩ := r.val i d k1
      exact ⟨u, sg i _ g1 hi, g2.mono s.mono⟩
    · obtain ⟨u, g1, g2⟩ := r'.val p d k1
      exact ⟨u, by rw [← k2]; exact g1, g2⟩
  · rcases kind i _ e with ⟨hi, k1, k2⟩ | ⟨p, k1, k2, _⟩
    · obtain ⟨a, g1, g2, g3⟩ := r.own i d k1
      have no := out i a ⟨g1, d, k1⟩ k2
      refine ⟨a, sg i _ g1 hi, g2.at s.mono fun o ho => s.frame a o ho no, ?_⟩
      cases q : Φ' a with
      | none => rfl
      | some o =>
        rcases s.new a o q with z | z | z
        · rw [g3] at z; cases z
        · exact absurd z no
        · obtain ⟨o', ho⟩ := g2.there
          rw [z] at ho; cases ho
    · obtain ⟨a, g1, g2, g3⟩ := r'.own p d k1
      exact ⟨a, by rw [← k2]; exact g1, g2, g3⟩
  · rcases ownK i a h1 with w1 | ⟨p, w1, w2⟩
    · rcases ownK j a h2 with w3 | w3
      · exact r.sep i j a w1.1 w3.1
      · exact (aux i j a w1 w3).elim
    · rcases ownK j a h2 with w3 | ⟨q, w3, w4⟩
      · exact (aux j i a w3 ⟨p, w1, w2⟩).elim
      · have hpq := r'.sep p q a w1 w3
        subst hpq
        rcases w2 with ⟨_, w2⟩ | ⟨w2, w5⟩
        · rcases w4 with ⟨_, w4⟩ | ⟨_, w6⟩
          · rw [w2] at w4; cases w4; rfl
          · rw [w6, ← hlf.symm, List.getElem?_eq_none (by omega)] at w2; cases w2
        · rcases w4 with ⟨_, w4⟩ | ⟨w4, _⟩
          · rw [w5, List.getElem?_eq_none (by omega)] at w4; cases w4
          · rw [w2, w4]
  · rcases ownK i a w with w1 | ⟨p, w1, _⟩
    · exact .inl ⟨i, w1.1⟩
    · exact (s.own a ⟨p, w1⟩).imp (inn a) id
end
section
variable {X : Cx} {cs : Nat → Addr} {W : WX} {np : Nat} {a e tg : Expr} {es : List Expr} {f : Ev D} {ars : List Ar} {pos p cpos pos' : Pos} {x : Str}
def RunAr (K : PySem.W.Frag) (cs : Nat → Addr) (W : WX) (σ : L2.St) (ρ : List Sl) (ars : List Ar) (Φ H : Hp) (Q : List V → Hp → Prop) : R (List Sl) → Prop
  | .ok l => ∀ Φ' H' vs, Ext Φ H Φ' H' → ArgR K Φ' σ ρ ars l vs → Q vs H'
  | .exc z => ∀ Φ' H' c dd, Ext Φ H Φ' H' → RepX cs Φ' H' z c dd → W c dd σ H'
  | .stuck => False
def tAr (K : PySem.W.Frag) (cs : Nat → Addr) (W : WX) (ars : List Ar) : TA := fun σ H Q => ∃ Φ ρ, Rel K Φ H σ ρ ∧ RunAr K cs W σ ρ ars Φ H Q (arS ars ρ)
/-- arguments -/
def SB (X : Cx) (cs : Nat → Addr) (W : WX) (es : List Expr) (ars : List Ar) : Prop := PA X es (tAr X.K cs W ars)
theorem sb_nil : SB X cs W [] [] := paImp pa_nil fun σ H Q ⟨Φ, ρ, r, q⟩ => q Φ H [] (Ext.refl r.sub) .nil
theorem sb_fz (ha : SD X cs W a f) (hs : SB X cs W es ars) (h : starEach (a :: es) X.env = (false, eval a X.env) :: starEach es X.env := by rfl) : SB X cs W (a :: es) (.fz f :: ars) :=
  paImp (pa_cons ha hs h) fun σ H Q ⟨Φ, ρ, r, q⟩ => by
    refine ⟨Φ, ρ, r, ?_⟩
    simp only [arS] at q
    cases e1 : f ρ with
    | stuck => rw [e1] at q; exact q.elim
    | exc z => rw [e1] at q; exact q
    | ok d =>
      rw [e1] at q
      intro Φ1 H1 v x1 rep
      refine ⟨Φ1, ρ, r.ext x1, ?_⟩
      cases e2 : arS ars ρ with
      | stuck => rw [e2] at q; exact q.elim
      | exc z => rw [e2] at q; exact fun Φ' H' c dd y hx => q Φ' H' c dd (x1.trans y) hx
      | ok l =>
        rw [e2] at q
        exact fun Φ2 H2 vs x2 ra => q Φ2 H2 (v :: vs) (x1.trans x2) (.fz (rep.mono x2.mono) ra)
theorem sb_bw (j : Nat) {y : Str} (hs : SB X cs W es ars) (hN : X.N[j]? = some y := by rfl) (hv : Vis X.env.scope y := by first | exact Or.inl rfl | exact Or.inr (Or.inl rfl) | exact Or.inr (Or.inr rfl)) (hd : (y == ("__debug__" : Str)) = false := by decide) (hcd : (y == ("__classdict__" : Str)) = false := by decide)
    (h : starEach (.Name y p :: es) X.env = (false, eval (.Name y p) X.env) :: starEach es X.env := by rfl) : SB X cs W (.Name y p :: es) (.bw j :: ars) :=
  paImp (pa_cons (pe_var hN hv hd hcd) hs h) fun σ H Q ⟨Φ, ρ, r, q⟩ => by
    simp only [arS, bwK] at q
    split at q
    next d e1 =>
      obtain ⟨b, h1, h2, h3⟩ := r.own j d e1
      refine ⟨_, h1, Φ, ρ, r, ?_⟩
      cases e2 : arS ars ρ with
      | stuck => rw [e2] at q; exact q.elim
      | exc z => rw [e2] at q; exact q
      | ok l =>
        rw [e2] at q
        exact fun Φ2 H2 vs x2 ra => q Φ2 H2 (_ :: vs) x2 (.bw e1 h1 ra)
    next => exact q.elim
theorem Rel.init {K : PySem.W.Frag} {Φ H : Hp} {σ : L2.St} {ρ : List Sl} {v : Option V} {s : Sl} (r : Rel K Φ H (σ ++ [v]) (ρ ++ [s])) : Rel K Φ H σ ρ := by
  have hl : σ.length = ρ.length := by simpa using r.len
  refine r.pick hl id (fun _ _ e => e) fun j s' e _ => ?_
  have hj : j < ρ.length := (List.getElem?_eq_some_iff.mp e).1
  exact ⟨by rw [List.getElem?_append_left (by exact hj)]; exact e, by rw [List.getElem?_append_left (by rw [hl]; exact hj)]; rfl⟩
theorem ownInit {σ : L2.St} {ρ : List Sl} {v : Option V} {s : Sl} (hl : σ.length = ρ.length) {a : Addr} (w : Own σ ρ a) : Own (σ ++ [v]) (ρ ++ [s]) a := by
  obtain ⟨j, h1, d, h2⟩ := w
  have hj : j < ρ.length := (List.getElem?_eq_some_iff.mp h2).1
  exact ⟨j, by rw [List.getElem?_append_left (by rw [hl]; exact hj)]; exact h1, d, by rw [List.getElem?_append_left hj]; exact h2⟩
def callR (k : Sl → List Sl → RS) (ars : List Ar) (ρ : List Sl) : RF → RS
  | .ok r fin => k r (bwSet ars fin ρ)
  | .exc z fin => .exc z (bwSet ars fin ρ)
  | .stuck => .stuck
def callS (ars : List Ar) (G : Fn) (k : Sl → List Sl → RS) : Es := fun ρ => tryE ρ (arS ars ρ) fun l => callR k ars ρ (G l)
theorem runCall {n : Nat} {G : Fn} {k : Sl → List Sl → RS} {D' : Ends} {σ : L2.St} {ρ : List Sl} {Φ H : Hp} {Qv : VK} (hn : ars.length = n) (hd : (ars.filterMap Ar.j).Nodup) (r : Rel X.K Φ H σ ρ) (q : RunS X.K cs W np D' (Own σ ρ) σ Φ H (callS ars G k ρ))
    (c : ∀ rr fin v Φ2 H2, Rel X.K Φ2 H2 (σ ++ [some v]) (bwSet ars fin ρ ++ [rr]) → Stp (Own σ ρ) Φ H Φ2 H2 (Own (σ ++ [some v]) (bwSet ars fin ρ ++ [rr])) → RunS X.K cs W np D' (Own σ ρ) σ Φ H (k rr (bwSet ars fin ρ)) → Qv v H2) :
    tAr X.K cs W ars σ H fun vs H1 => spG X.K cs n G vs H1 Qv (WE W σ) := by
  refine ⟨Φ, ρ, r, ?_⟩
  unfold callS at q
  cases e1 : arS ars ρ with
  | stuck => rw [e1] at q; exact q.elim
  | exc z => rw [e1] at q; exact fun Φ' H' c dd y hx => q Φ' H' σ c dd (Stp.ofExt y fun _ p => .inl p) (r.ext y) rfl hx
  | ok l =>
    rw [e1] at q
    intro Φ1 H1 vs x1 ra
    have ra1 : ArgR X.K Φ1 σ ρ ars l vs := ra
    refine ⟨by rw [ra.len.2]; exact hn, Φ1, l, ra1.rel hd (r.ext x1), ?_⟩
    have s1 : Stp (Own σ ρ) Φ H Φ1 H1 (Own σ ρ) := Stp.ofExt x1 fun _ p => .inl p
    cases e2 : G l with
    | stuck => simp only [tryE, callR, e2] at q; exact q.elim
    | exc z fin =>
      simp only [tryE, callR, e2] at q
      intro Φ2 H2 c dd s2 r2 hx
      have r3 := r2.push (d := .non) (v := .non) .non
      have s3 : Stp (Own (vS vs) l) Φ1 H1 Φ2 H2 (Own (vS vs ++ [some .non]) (fin ++ [.val .non])) := ⟨s2.mono, s2.frame, fun b p => s2.own b (by
        obtain ⟨j, h1, d, h2⟩ := p
        rcases getApp h2 with h2 | ⟨_, h3⟩
        · rw [List.getElem?_append_left (by rw [r2.len]; exact (List.getElem?_eq_some_iff.mp h2).1)] at h1
          exact ⟨j, h1, d, h2⟩
        · cases h3), s2.new⟩
      obtain ⟨R, S⟩ := callBack ra1 (r.ext x1) s3 r3
      have hl := R.init.len
      exact q Φ2 H2 σ c dd (s1.trans ⟨S.mono, S.frame, fun b p => S.own b (ownInit hl p), S.new⟩) R.init rfl hx
    | ok rr fin =>
      simp only [tryE, callR, e2] at q
      intro Φ2 H2 v s2 r2
      obtain ⟨R, S⟩ := callBack ra1 (r.ext x1) s2 r2
      exact c rr fin v Φ2 H2 R (s1.trans S) q
abbrev kDrop : Sl → List Sl → RS := fun _ ρ => .nx ρ
def kOwn (i : Nat) : Sl → List Sl → RS := fun r ρ => match r with
  | .own d => .nx (ρ.set i (.own d))
  | _ => .stuck
def kVal (ft : D → R (List (Nat × D))) : Sl → List Sl → RS := fun r ρ => match r with
  | .val d => tryE ρ (ft d) fun as => .nx (setS ρ as)
  | _ => .stuck
abbrev kRet : Sl → List Sl → RS := fun r ρ => .rt r ρ
section
variable {k n : Nat} {fa : Addr} {fd : FuncData} {ps : List Str} {G : Fn}
theorem ss_callE (F : FnOk X.prog X.w X.K X.mg X.base (L2.CX X.prog X.w) k fa fd ps (spG X.K cs n G)) (hr : Room k X.A) (hg : Gl X x) (hm : X.mg x = some (.ref fa)) (hk : PySem.W.keepIn X.K (.ref fa) = true) (hb : Binds X.K fd ps [])
    (tk : Takes X W) (ha : SB X cs W (e :: es) ars) (hl : ars.length = n) (hd : (ars.filterMap Ar.j).Nodup) (hdb : (x == ("__debug__" : Str)) = false := by decide) (he : starEach (e :: es) X.env = (false, eval e X.env) :: starEach es X.env := by rfl) (hpl : (backTo cpos (starEach es X.env)).any (·.1) = false := by rfl)
    (hsw : swapsWith (.Call (.Name x p) (e :: es) [] cpos) none pos.line X.env = pure false := by rfl) :
    SS X cs W np (.Expr (.Call (.Name x p) (e :: es) [] cpos) pos) (callS ars G kDrop) :=
  psImp (ps_expr (pe_callS F hr hg hm hk hb (fun σ => passAt tk σ) ha hdb he hpl) hsw) fun D' σ H ⟨Φ, ρ, r, q⟩ => runCall hl hd r q fun rr fin v Φ2 H2 R S q =>
    q Φ2 H2 σ ⟨S.mono, S.frame, fun b p => S.own b (ownInit R.init.len p), S.new⟩ R.init rfl
theorem ss_callO {i : Nat} {y : Str} (hnp : np ≤ i) (hN : X.N.Nodup) (F : FnOk X.prog X.w X.K X.mg X.base (L2.CX X.prog X.w) k fa fd ps (spG X.K cs n G)) (hr : Room k X.A) (hg : Gl X x) (hm : X.mg x = some (.ref fa)) (hk : PySem.W.keepIn X.K (.ref fa) = true) (hb : Binds X.K fd ps [])
    (tk : Takes X W) (ha : SB X cs W (e :: es) ars) (hl : ars.length = n) (hd : (ars.filterMap Ar.j).Nodup) (hi : X.N[i]? = some y := by rfl) (hx : Loc X.env.scope y := by first | exact Or.inl rfl | exact Or.inr rfl) (hdb : (x == ("__debug__" : Str)) = false := by decide) (he : starEach (e :: es) X.env = (false, eval e X.env) :: starEach es X.env := by rfl) (hpl : (backTo cpos (starEach es X.env)).any (·.1) = false := by rfl)
    (hs : swapsWith (.Call (.Name x p) (e :: es) [] cpos) (some (.Name y pos')) pos.line X.env = pure false := by rfl) (hf : X.fn y = true ∨ X.env.scope.names.lookup y = some .local := by first | exact .inl rfl | exact .inr rfl | assumption) :
    SS X cs W np (.Assign [.Name y pos'] (.Call (.Name x p) (e :: es) [] cpos) pos) (callS ars G (kOwn i)) :=
  psImp (ps_set hN hi hx (pe_callS F hr hg hm hk hb (fun σ => passAt tk σ) ha hdb he hpl) hs hf) fun D' σ H ⟨Φ, ρ, r, q⟩ => runCall hl hd r q fun rr fin v Φ2 H2 R S q => by
    unfold kOwn at q
    split at q
    next d =>
      obtain ⟨b, rfl, h2, h3, h4⟩ := R.lastOwn
      have hno : ∀ j, ¬ OwnAt σ (bwSet ars fin ρ) j b := fun j w => by
        have hl' := R.init.len
        have hj : j < (bwSet ars fin ρ).length := by obtain ⟨_, d', w2⟩ := w; exact (List.getElem?_eq_some_iff.mp w2).1
        have w1 : OwnAt (σ ++ [some (.ref b)]) (bwSet ars fin ρ ++ [.own d]) j b := by
          obtain ⟨w1, d', w2⟩ := w
          exact ⟨by rw [List.getElem?_append_left (by rw [hl']; exact hj)]; exact w1, d', by rw [List.getElem?_append_left hj]; exact w2⟩
        have w2 : OwnAt (σ ++ [some (.ref b)]) (bwSet ars fin ρ ++ [.own d]) (bwSet ars fin ρ).length b := ⟨by rw [← hl']; simp, d, by simp⟩
        have := R.sep _ _ b w1 w2
        omega
      refine q Φ2 H2 _ ⟨S.mono, S.frame, fun c w => ?_, S.new⟩ (R.init.setOwn h2 h3 hno) (takeSet hnp)
      rcases ownSetOwn w with rfl | w
      · exact S.own _ h4
      · exact S.own _ (ownInit R.init.len w)
    next => exact q.elim
theorem ss_callV {gt : TG} {ft : D → R (List (Nat × D))} (t : Tgt X tg gt ft) (hnp : ∀ d as, ft d = .ok as → ∀ p ∈ as, np ≤ p.1) (hfx : ∀ d z, ft d ≠ .exc z) (F : FnOk X.prog X.w X.K X.mg X.base (L2.CX X.prog X.w) k fa fd ps (spG X.K cs n G)) (hr : Room k X.A) (hg : Gl X x) (hm : X.mg x = some (.ref fa)) (hk : PySem.W.keepIn X.K (.ref fa) = true) (hb : Binds X.K fd ps [])
    (tk : Takes X W) (ha : SB X cs W (e :: es) ars) (hl : ars.length = n) (hd : (ars.filterMap Ar.j).Nodup) (hdb : (x == ("__debug__" : Str)) = false := by decide) (he : starEach (e :: es) X.env = (false, eval e X.env) :: starEach es X.env := by rfl) (hpl : (backTo cpos (starEach es X.env)).any (·.1) = false := by rfl)
    (hs : swapsWithSole [tg] (.Call (.Name x p) (e :: es) [] cpos) pos.line X.env = pure false := by rfl) (hw : swappedStores [tg] (.Call (.Name x p) (e :: es) [] cpos) X.env = pure none := by rfl)
    (h1 : (assignEach [tg] X.env).map (·.2) = [assign tg X.env] := by rfl) :
    SS X cs W np (.Assign [tg] (.Call (.Name x p) (e :: es) [] cpos) pos) (callS ars G (kVal ft)) :=
  psImp (ps_asg (pe_callS F hr hg hm hk hb (fun σ => passAt tk σ) ha hdb he hpl) t.pg hs hw h1) fun D' σ H ⟨Φ, ρ, r, q⟩ => runCall hl hd r q fun rr fin v Φ2 H2 R S q => by
    unfold kVal at q
    split at q
    next d =>
      have S' : Stp (Own σ ρ) Φ H Φ2 H2 (Own σ (bwSet ars fin ρ)) := ⟨S.mono, S.frame, fun b p => S.own b (ownInit R.init.len p), S.new⟩
      exact runAsg t hnp hfx R.init R.last (RunS.step S' rfl q)
    next => exact q.elim
theorem ss_callR (F : FnOk X.prog X.w X.K X.mg X.base (L2.CX X.prog X.w) k fa fd ps (spG X.K cs n G)) (hr : Room k X.A) (hg : Gl X x) (hm : X.mg x = some (.ref fa)) (hk : PySem.W.keepIn X.K (.ref fa) = true) (hb : Binds X.K fd ps [])
    (tk : Takes X W) (ha : SB X cs W (e :: es) ars) (hl : ars.length = n) (hd : (ars.filterMap Ar.j).Nodup) (hdb : (x == ("__debug__" : Str)) = false := by decide) (he : starEach (e :: es) X.env = (false, eval e X.env) :: starEach es X.env := by rfl) (hpl : (backTo cpos (starEach es X.env)).any (·.1) = false := by rfl) :
    SS X cs W np (.Return (some (.Call (.Name x p) (e :: es) [] cpos)) pos) (callS ars G kRet) :=
  psImp (ps_ret (pe_callS F hr hg hm hk hb (fun σ => passAt tk σ) ha hdb he hpl)) fun D' σ H ⟨Φ, ρ, r, q⟩ => runCall hl hd r q fun rr fin v Φ2 H2 R S q => q Φ2 H2 σ v S R rfl
end
end
end PL

set_option Elab.async false
set_option linter.all false
set_option maxRecDepth 100000
/-! PL14: sorted, list of a dict, insert, x[::-1], max with default -/
namespace PL
set_option autoImplicit false
open PySem PySem.Spec PyProof.Rows L2

/-! ### the order of texts -/
theorem ltCps_eq : ∀ a b : List Nat, ltCps a b = decide (a < b)
  | [], [] => by simp [ltCps]
  | [], b :: bs => by simp [ltCps]
  | a :: as, [] => by simp [ltCps]
  | a :: as, b :: bs => by
    have ih := ltCps_eq as bs
    show (decide (a < b) || (a == b && ltCps as bs)) = _
    have e : decide (a :: as < b :: bs) = decide (a < b ∨ a = b ∧ as < bs) := decide_eq_decide.mpr List.cons_lt_cons_iff
    rw [ih, e]
    by_cases h1 : a < b
    · simp [h1]
    · by_cases h2 : a = b
      · subst h2; simp
      · simp [h1, h2]
def leS (a b : List Nat) : Prop := ltCps b a = false
theorem leS_iff (a b : List Nat) : leS a b ↔ a ≤ b := by
  unfold leS
  rw [ltCps_eq, decide_eq_false_iff_not, List.not_lt]
theorem leS_trans {a b c : List Nat} (h : leS a b) (g : leS b c) : leS a c := by
  rw [leS_iff] at *
  exact List.le_trans h g
theorem leS_anti {a b : List Nat} (h : leS a b) (g : leS b a) : a = b := by
  rw [leS_iff] at *
  exact List.le_antisymm h g
/-- one order of the items of a list, by choice -/
noncomputable def sortP {α : Type} (P : List α → Prop) : List α := open Classical in if h : ∃ ys : List α, P ys then Classical.choose h else []
noncomputable def sortOf {α : Type} (le : α → α → Prop) (xs : List α) : List α := sortP fun ys : List α => ys.Perm xs ∧ ys.Pairwise le
theorem sort_uniq {α : Type} {le : α → α → Prop} (ha : ∀ a b, le a b → le b a → a = b) : ∀ {xs ys : List α}, xs.Perm ys → xs.Pairwise le → ys.Pairwise le → xs = ys
  | [], ys, h, _, _ => by rw [List.nil_perm] at h; exact h.symm
  | x :: xs, [], h, _, _ => by have := h.length_eq; simp at this
  | x :: xs, y :: ys, h, hx, hy => by
    have e : x = y := by
      have m1 : x ∈ y :: ys := h.mem_iff.mp (by simp)
      have m2 : y ∈ x :: xs := h.mem_iff.mpr (by simp)
      rcases List.mem_cons.mp m1 with e | m1
      · exact e
      · rcases List.mem_cons.mp m2 with e | m2
        · exact e.symm
        · exact ha _ _ ((List.pairwise_cons.mp hx).1 y m2) ((List.pairwise_cons.mp hy).1 x m1)
    subst e
    rw [sort_uniq ha (List.Perm.cons_inv h) (List.pairwise_cons.mp hx).2 (List.pairwise_cons.mp hy).2]
theorem sortOf_eq {α : Type} {le : α → α → Prop} (ha : ∀ a b, le a b → le b a → a = b) {xs ys : List α} (h : ys.Perm xs) (hs : ys.Pairwise le) : sortOf le xs = ys := by
  unfold sortOf sortP
  have hex : ∃ ys : List α, ys.Perm xs ∧ ys.Pairwise le := ⟨ys, h, hs⟩
  rw [dif_pos hex]
  obtain ⟨h1, h2⟩ := Classical.choose_spec hex
  exact sort_uniq ha (h1.trans h.symm) h2 hs
theorem sortOf_perm {α : Type} (le : α → α → Prop) {xs ys : List α} (h : xs.Perm ys) : sortOf le xs = sortOf le ys := by
  have e : (fun zs : List α => zs.Perm xs ∧ zs.Pairwise le) = fun zs => zs.Perm ys ∧ zs.Pairwise le := by
    funext zs
    exact propext ⟨fun ⟨a, b⟩ => ⟨a.trans h, b⟩, fun ⟨a, b⟩ => ⟨a.trans h.symm, b⟩⟩
  exact congrArg sortP e
theorem rising_pw : ∀ (l : List Str) (p : Str), risingS p l = true → (p :: l).Pairwise fun a b => leS a.cps.toList b.cps.toList
  | [], p, _ => by simp
  | x :: r, p, h => by
    simp only [risingS, Bool.and_eq_true, Bool.not_eq_true'] at h
    have ih := rising_pw r x h.2
    have h1 : leS p.cps.toList x.cps.toList := h.1
    refine List.pairwise_cons.mpr ⟨fun y hy => ?_, ih⟩
    rcases List.mem_cons.mp hy with rfl | hy
    · exact h1
    · exact leS_trans h1 ((List.pairwise_cons.mp ih).1 y hy)
theorem sortedS_pw : ∀ (l : List Str), sortedS l = true → l.Pairwise fun a b => leS a.cps.toList b.cps.toList
  | [], _ => .nil
  | x :: r, h => rising_pw r x h
def keyD : Kc → D
  | .inl i => .int i
  | .inr s => .str s
section
variable {X : Cx} {cs : Nat → Addr} {W : WX} {np : Nat} {a b c e o i tg : Expr} {fa fb fc fe fi : Ev D} {pos p apos cpos pos' : Pos} {es : List Expr} {fs : Ev (List D)}
theorem RepKs.keys {K : PySem.W.Frag} {Φ : Hp} : ∀ {es : List (Kc × D)} {kvs : List (Key × V)}, RepKs K Φ es kvs → RepDs K Φ (es.map fun q => keyD q.1) (kvs.map fun kv => kV kv.1)
  | _, _, .nil => .nil
  | _, _, .cons (k := k) h r => by
    refine .cons ?_ (RepKs.keys r)
    cases k with
    | inl i => exact .int i
    | inr s => exact .str s _ rfl
/-- list(x) -/
def gListA : List D → R D
  | [.dic es] => .ok (.lst (es.map fun q => keyD q.1))
  | ds => gListOf ds
theorem RepVs.one' {K : PySem.W.Frag} {Φ H : Hp} {d : D} {vs : List V} (h : RepVs K Φ H [d] vs) : ∃ v, vs = [v] ∧ RepV K Φ H d v := h.one
theorem sn_listA (hc : X.calm = true) (hg : Gl X "list") (hm : X.mg "list" = none) (ha : SA X cs W (e :: es) fs)
    (he : starEach (e :: es) X.env = (false, eval e X.env) :: starEach es X.env := by rfl) (hpl : (backTo pos (starEach es X.env)).any (·.1) = false := by rfl) : SN X cs W (.Call (.Name "list" p) (e :: es) [] pos) (eCall gListA fs) :=
  sn_callT (crOr call_list_of (call_listD hc)) (fun σ Φ H Q vs ds m r q => by
    unfold gListA at q
    split at q
    · obtain ⟨v, rfl, h⟩ := r.one
      obtain ⟨p, kvs, rfl, h1, h2⟩ := h.dic_inv m
      exact .inr ⟨p, kvs, rfl, .inl h1, fun l hl => q.new m hl (RepOwn.lst upd_same h2.keys)⟩
    · refine .inl ?_
      unfold gListOf at q
      split at q
      · obtain ⟨v, rfl, h⟩ := r.one
        obtain ⟨p, vs, rfl, h1, h2⟩ := h.tup_inv m
        exact ⟨_, vs, rfl, .inr h1, fun l hl => q.new m hl (RepOwn.lst upd_same h2)⟩
      · obtain ⟨v, rfl, h⟩ := r.one
        obtain ⟨p, vs, rfl, h1, h2⟩ := h.lst_inv m
        exact ⟨_, vs, rfl, .inl (SqL.of h1), fun l hl => q.new m hl (RepOwn.lst upd_same h2)⟩
      · obtain ⟨v, rfl, h⟩ := r.one
        obtain ⟨p, rfl, h1⟩ := h.scr_inv m
        exact ⟨_, _, rfl, .inl h1, fun l hl => q.new m hl (RepOwn.lst upd_same (RepDs.ints _))⟩
      · exact q.elim) (by decide +kernel) hg hm ha (by decide) (by decide) he hpl
noncomputable def gSorted : List D → R D
  | [.lst ds] => match D.ints ds with
    | some ns => .ok (.lst ((sortOf (· ≤ ·) ns).map .int))
    | none => (oR (D.strs ds)).bind fun ss => if ss.length < 64 then .ok (.lst ((sortOf leS ss).map .str)) else .stuck
  | _ => .stuck
theorem sn_callB {r : List V → Hp → VK → Prop} {g : List D → R D} {id : String} {x : Str} (hc : CallR X (.builtin id) r) (hd : CallN X cs W r g) (hv : bootBuiltins x = some (.builtin id)) (hg : Gl X x) (hm : X.mg x = none) (ha : SA X cs W (e :: es) fs) (hn : x ≠ "__name__" := by decide) (hdb : (x == ("__debug__" : Str)) = false := by decide)
    (he : starEach (e :: es) X.env = (false, eval e X.env) :: starEach es X.env := by rfl) (hpl : (backTo pos (starEach es X.env)).any (·.1) = false := by rfl) : SN X cs W (.Call (.Name x p) (e :: es) [] pos) (eCall g fs) :=
  peImp (pe_callB hc hg hm hv ha hn hdb he hpl) fun σ H Q h => runAN hd h
theorem RepDs.strsTo {K : PySem.W.Frag} {Φ : Hp} : ∀ (ys : List Str), RepDs K Φ (ys.map fun y => D.str y.cps.toList) (ys.map V.str)
  | [] => .nil
  | y :: ys => .cons (.str y _ rfl) (RepDs.strsTo ys)
theorem sn_sorted (hg : Gl X "sorted") (hm : X.mg "sorted" = none) (ha : SA X cs W (e :: es) fs)
    (he : starEach (e :: es) X.env = (false, eval e X.env) :: starEach es X.env := by rfl) (hpl : (backTo pos (starEach es X.env)).any (·.1) = false := by rfl) : SN X cs W (.Call (.Name "sorted" p) (e :: es) [] pos) (eCall gSorted fs) :=
  sn_callB (crOr cr_sortedI cr_sortedS) (fun σ Φ H Q vs ds m r q => by
    unfold gSorted at q
    split at q
    · obtain ⟨v, rfl, h⟩ := r.one
      obtain ⟨a, vs, rfl, h3, h4⟩ := h.lst_inv m
      split at q
      next ns h2 =>
        rw [ints_eq h2] at h4
        rw [h4.ints_inv] at h3
        refine .inl ⟨a, ns, rfl, SqL.of h3, fun ns' p hp hs hH => ?_⟩
        rw [sortOf_eq (fun a b h g => Int.le_antisymm h g) hp hs] at q
        exact q.new m hH (RepOwn.lst upd_same (RepDs.ints _))
      next =>
        obtain ⟨ss, h2, q⟩ := oR_bind (P := RunN X.K cs W σ Φ H Q) q id
        obtain ⟨xs, rfl, hx⟩ := h4.strs h2
        split at q
        next hl =>
          refine .inr ⟨a, xs, rfl, SqL.of h3, by rw [← hx, List.length_map] at hl; exact hl, fun ys p hp hs hH => ?_⟩
          have e1 : sortOf leS ss = ys.map fun y => y.cps.toList := sortOf_eq (fun a b h g => leS_anti h g) (by rw [← hx]; exact hp.map _) (List.pairwise_map.mpr (sortedS_pw ys hs))
          rw [e1] at q
          exact q.new m hH (RepOwn.lst upd_same (by rw [List.map_map]; exact RepDs.strsTo ys))
        next => exact q.elim
    · exact q.elim) (by decide +kernel) hg hm ha (by decide) (by decide) he hpl
def gInsert : GL
  | ds, [.int i, d] => if ds.length < LIM ∧ 0 ≤ i ∧ i < LIM then .ok (.non, ds.take i.toNat ++ [d] ++ ds.drop i.toNat) else .stuck
  | _, _ => .stuck
theorem mu_insert : MutL X (fun x vs H Q => ∃ (l : Addr) (xs : List V) (i : Int) (y : V), x = .ref l ∧ vs = [.int i, y] ∧ H l = some (.lst xs) ∧ xs.length < sizeLine ∧ 0 ≤ i ∧ i < 2 ^ 63 ∧
    Q .non (upd H l (.lst (xs.take i.toNat ++ [y] ++ xs.drop i.toNat)))) gInsert := fun Φ H Q a vs us ds args res ds' ha hd hr e k => by
  unfold gInsert at e
  split at e
  · split at e
    next hl =>
      cases e
      cases hr with
      | cons h1 hr =>
        obtain ⟨y, rfl, h2⟩ := hr.one
        cases h1
        have h63 : ∀ i : Int, i < LIM → i < 2 ^ 63 := fun i h => by simp only [LIM] at h; omega
        exact ⟨a, vs, _, y, rfl, rfl, ha, by rw [← hd.length]; exact lim_lt (by omega), hl.2.1, h63 _ hl.2.2, k _ _ .non (((hd.take _).append (.cons h2 .nil)).append (hd.drop _))⟩
    next => cases e
  · cases e
def gRevL : D → R D
  | .lst ds => .ok (.lst ds.reverse)
  | _ => .stuck
theorem sn_revL {k : Nat} {p1 p2 p3 : Pos} (ha : SV X cs W a fa) : SN X cs W (.Subscript a (.Slice none none (some (.UnaryOp .USub (.Constant (.int 1) k p1) p2)) p3) pos) (e1 gRevL fa) := peImp (pe_revL ha) fun σ H Q ⟨Φ, ρ, r, q⟩ =>
  tG.bindN (rp := rV X.K) r q fun Φ1 H1 d v r1 x rep q => by
    unfold gRevL at q
    split at q
    · obtain ⟨p, vs, rfl, h1, h2⟩ := RepV.lst_inv rep r1.sub
      exact ⟨p, vs, rfl, SqL.of h1, fun l hl => q.new r1.sub hl (RepOwn.lst upd_same h2.reverse)⟩
    · exact q.elim
/-! ### max(x, default=c) -/
def rMaxDf (K : PySem.W.Frag) : List V → List V → Hp → VK → Prop := fun vs zs H Q => ∃ (a : Addr) (ns : List Int) (d : V), vs = [V.ref a] ∧ zs = [d] ∧ SqL K H a (ns.map V.int) ∧ Q (if ns = [] then d else .int (maxI ns)) H
theorem cr_maxDf (hc : X.calm = true) (hu : X.A.units + 64 < cLine) : CallRK X (.builtin "max") [Str.ofString "default"] (rMaxDf X.K) := by
  intro pins s σ H xs zs us ws Q I rx rz h
  obtain ⟨a, ns, d, rfl, rfl, hs, q⟩ := h
  obtain ⟨its, rv, hl, _⟩ := I.list hs
  rw [Vals.ref1 rx]
  cases rz with
  | cons rd rz =>
    rename_i dv ws
    cases rz
    have hr := valsReads (h := s.heap) rv
    have dp := depthInts ns
    refine PySem.W.max_list_default (vs := its.toArray) (I.ok.hd hc) hl.isList (xs := ns.map .int) (by simpa using hr) (alikeInts ns) (by omega) (fun h0 h' tk hk => ?_) fun y ys j v h' tk bs e0 _ hv hk => ?_
    · have e : ns = [] := by simpa using h0
      rw [if_pos e] at q
      exact ⟨d, H, I.kept hk, rd, q⟩
    · cases ns with
      | nil => cases e0
      | cons n ns =>
        simp only [List.map_cons, List.cons.injEq] at e0
        obtain ⟨rfl, rfl⟩ := e0
        rw [PySem.W.maxD_ints] at hv
        rw [if_neg (by simp)] at q
        cases hv with
        | int _ t => exact ⟨.int _, H, I.kept hk, ⟨_, rfl⟩, q⟩
def gMaxDf (d : D) (c : D) : R D := match d with
  | .lst ds => (oR (D.ints ds)).bind fun ns => .ok (if ns = [] then c else .int (maxI ns))
  | _ => .stuck
def eMaxDf (fa fc : Ev D) : Ev D := fun ρ => (fa ρ).bind fun d => (fc ρ).bind fun z => gMaxDf d z
theorem sd_maxDf {kpos : Pos} (hc : X.calm = true) (hu : X.A.units + 64 < cLine) (hg : Gl X "max") (hm : X.mg "max" = none) (ha : SV X cs W e fa) (hb : SD X cs W c fc)
    (he : backTo pos (starEach [e] X.env) = (false, eval e X.env) :: backTo pos (starEach [] X.env) := by rfl) (hs0 : starEach [e] X.env = (false, eval e X.env) :: starEach [] X.env := by rfl) (hpl : (backTo pos (starEach [e] X.env)).any (·.1) = false := by rfl)
    (hall : (backToKw pos (keywordEach [⟨some "default", c, kpos⟩] X.env)).all (·.1.isSome) = true := by rfl) (hnone : (backToKw pos (keywordEach [⟨some "default", c, kpos⟩] X.env)).any (·.1.isNone) = false := by rfl) (hks : (backToKw pos (keywordEach [⟨some "default", c, kpos⟩] X.env)).filterMap (·.1) = [Str.ofString "default"] := by rfl) :
    SD X cs W (.Call (.Name "max" p) [e] [⟨some "default", c, kpos⟩] pos) (eMaxDf fa fc) :=
  peImp (pe_callBK (cr_maxDf hc hu) hg hm (by decide +kernel) (pa_cons ha pa_nil hs0) (pk_cons hb pk_nil) (by decide) (by decide) he hpl hall hnone hks) fun σ H Q ⟨Φ, ρ, r, q⟩ => by
    refine tG.bind (rp := rV X.K) r q fun Φ1 H1 d v r1 _ rep q => ?_
    refine tG.bind (rp := rD X.K) r1 q fun Φ2 H2 z u r2 x2 rz q => ?_
    unfold gMaxDf at q
    split at q
    · obtain ⟨ns, h2, q⟩ := oR_bind (P := Run cs (rD X.K) W σ Φ2 H2 Q) q id
      obtain ⟨a, vs, rfl, h3, h4⟩ := RepV.lst_inv (rep.ext x2) r2.sub
      rw [ints_eq h2] at h4
      rw [h4.ints_inv] at h3
      refine ⟨a, ns, u, rfl, rfl, SqL.of h3, ?_⟩
      split
      next h => rw [if_pos h] at q; exact q.ok r2.sub rz
      next h => rw [if_neg h] at q; exact q.ok r2.sub (.int _)
    · exact q.elim
end
end PL

set_option Elab.async false
set_option linter.all false
set_option maxRecDepth 100000
/-! PL15: names.index(x) -/
namespace PL
set_option autoImplicit false
open PySem PySem.Spec PyProof.Rows L2
section
variable {X : Cx} {pins : List (Addr × Obj)} {σ : L2.St} {H : Hp} {s : Shared}
theorem kn_is {p : Addr} (I : Inv X pins σ H s) (h : Kn X.K H p) : ∃ ob, s.heap.get? p = some ob ∧ ob.cls = .type "tuple" ∧ ob.dict = none := by
  rcases h with ⟨o, xs, h, h1, h2⟩ | ⟨o, h, h1, h2⟩
  · obtain ⟨e, _⟩ := (show ObjOk X.prog X.w H s.heap p (.frz o (.tup xs)) from I.hok p _ h)
    exact ⟨o, e, h1, h2⟩
  · exact ⟨o, I.kIn p o h, h1, h2⟩
def tBMK (K : PySem.W.Frag) (r : V → List V → Hp → VK → Prop) (to : TE) (t : TA) : TE := fun σ H Q => to σ H fun x H1 => (∃ p, x = .ref p ∧ Kn K H1 p) ∧ t σ H1 fun xs H2 => r x xs H2 Q
variable {o e : Expr} {es : List Expr} {to : TE} {t : TA} {name : Str} {apos cpos : Pos} {id : String} {r : V → List V → Hp → VK → Prop}
/-- a method of a tuple whose dict is known -/
theorem pe_bmK (slot : Slot "tuple" name id) (hty : typeOf (.builtin id) = pure (.type "method_descriptor")) (hm : MtR X id r) (ho : PE X o to) (ha : PA X (e :: es) t)
    (hbase : attributeBase o name X.env (eval o X.env) = eval o X.env := by rfl)
    (hfew : ((backTo cpos (starEach (e :: es) X.env)).all (fun x => !x.1) && (backToKw cpos (keywordEach [] X.env)).all (fun x => x.1.isSome)
      && decide ((e :: es).length + ([] : List Keyword).length + (if ([] : List Keyword).isEmpty then 0 else 1) < 30)) = true := by rfl)
    (hline : (apos.endLine == cpos.line) = true := by rfl) (hs : starEach (e :: es) X.env = (false, eval e X.env) :: starEach es X.env := by rfl) (hplain : (backTo cpos (starEach es X.env)).any (·.1) = false := by rfl) :
    PE X (.Call (.Attribute o name apos) (e :: es) [] cpos) (tBMK X.K r to t) := by
  refine ⟨fun pins s σ H Q I h => ?_⟩
  refine wpAny_Call_method_late hbase hfew hline rfl (thn (ho.run pins s σ H _ I h) fun v s1 ⟨x, H1, I1, r1, ⟨p, hx, kn⟩, q1⟩ => ?_)
  subst hx
  cases r1
  obtain ⟨ob, e1, e2, e3⟩ := kn_is I1 kn
  refine ⟨"tuple", id, PySem.F.plainAttrs_tuple, slot, hty, ⟨ob, e1, e2⟩, fun a z => by cases z; exact ⟨ob, e1, e3⟩, ?_⟩
  have hA := ha.run cpos pins s1 σ H1 _ I1 q1
  rw [hs] at hA ⊢
  refine Calls.callWith_builtin (by show (false || (backTo cpos (starEach es X.env)).any (·.1)) = false; rw [hplain]; rfl) (Calls.evalArgs_plain ?_)
  exact thn hA fun us s2 ⟨vs, H2, I2, r2, q2⟩ => hm pins s2 σ H2 (.ref p) vs (.ref p) us Q I2 rfl r2 q2
end
/-- the first place of a text -/
def posS : List (List Nat) → List Nat → Option Nat
  | [], _ => none
  | y :: ys, x => if y = x then some 0 else (posS ys x).map (· + 1)
theorem posS_spec : ∀ {ys : List (List Nat)} {x : List Nat} {j : Nat}, posS ys x = some j → ys[j]? = some x ∧ ∀ m, m < j → ys[m]? ≠ some x
  | [], _, _, h => by cases h
  | y :: ys, x, j, h => by
    unfold posS at h
    split at h
    next e =>
      cases h
      exact ⟨by rw [e]; rfl, fun m hm => absurd hm (Nat.not_lt_zero _)⟩
    next e =>
      cases h1 : posS ys x with
      | none => rw [h1] at h; cases h
      | some i =>
        rw [h1] at h
        cases h
        obtain ⟨h2, h3⟩ := posS_spec h1
        refine ⟨by simpa using h2, fun m hm => ?_⟩
        cases m with
        | zero => simpa using e
        | succ m =>
          have hm' : m + 1 < i + 1 := hm
          simpa using h3 m (by omega)
theorem posS_mem : ∀ {ys : List (List Nat)} {x : List Nat}, x ∈ ys → ∃ j, posS ys x = some j ∧ j < ys.length
  | [], _, h => by cases h
  | y :: ys, x, h => by
    unfold posS
    by_cases e : y = x
    · exact ⟨0, by rw [if_pos e], by simp⟩
    · rcases List.mem_cons.mp h with h | h
      · exact absurd h.symm e
      · obtain ⟨j, h1, h2⟩ := posS_mem h
        exact ⟨j + 1, by rw [if_neg e, h1]; rfl, by simpa using h2⟩
def D.nms : D → Option (List (List Nat))
  | .tup (d :: ds) => D.strs (d :: ds)
  | _ => none
def gIndex (ss : List (List Nat)) : D → R D
  | .str x => (oR (posS ss x)).bind fun j => .ok (.int (j : Nat))
  | _ => .stuck
def eIndex (fa fe : Ev D) : Ev D := fun ρ => (fa ρ).bind fun d => (oR d.nms).bind fun ss => (fe ρ).bind (gIndex ss)
theorem stk_strs : ∀ {ds : List D} {ss : List (List Nat)}, D.strs ds = some ss → ds.all D.isS = true
  | [], _, _ => rfl
  | .str s :: ds, ss, h => by
    cases h1 : D.strs ds with
    | none => simp [D.strs, h1] at h
    | some rs => 
      have := stk_strs h1
      simpa [D.isS] using this
  | .non :: _, _, h => by cases h
  | .bl _ :: _, _, h => by cases h
  | .int _ :: _, _, h => by cases h
  | .tup _ :: _, _, h => by cases h
  | .lst _ :: _, _, h => by cases h
  | .scr _ :: _, _, h => by cases h
  | .dic _ :: _, _, h => by cases h
  | .cls _ :: _, _, h => by cases h
  | .exn _ :: _, _, h => by cases h
theorem str_eq {x y : Str} (h : x.cps.toList = y.cps.toList) : x = y := by
  rw [← mk_toL x, ← mk_toL y, h]
section
variable {X : Cx} {cs : Nat → Addr} {W : WX} {o e : Expr} {fa fe : Ev D} {apos cpos : Pos}
theorem sd_index (ho : SV X cs W o fa) (he : SV X cs W e fe)
    (hbase : attributeBase o "index" X.env (eval o X.env) = eval o X.env := by rfl)
    (hfew : ((backTo cpos (starEach [e] X.env)).all (fun x => !x.1) && (backToKw cpos (keywordEach [] X.env)).all (fun x => x.1.isSome)
      && decide ([e].length + ([] : List Keyword).length + (if ([] : List Keyword).isEmpty then 0 else 1) < 30)) = true := by rfl)
    (hline : (apos.endLine == cpos.line) = true := by rfl) (hs : starEach [e] X.env = (false, eval e X.env) :: starEach [] X.env := by rfl) (hplain : (backTo cpos (starEach [] X.env)).any (·.1) = false := by rfl) :
    SD X cs W (.Call (.Attribute o "index" apos) [e] [] cpos) (eIndex fa fe) :=
  peImp (pe_bmK PySem.F.slot_tuple_index PySem.F.type_tuple_index mt_tup_index ho (pa_cons he pa_nil hs) hbase hfew hline hs hplain) fun σ H Q ⟨Φ, ρ, r, q⟩ => by
    refine tG.bind (rp := rV X.K) r q fun Φ1 H1 d v r1 _ rep q => ?_
    obtain ⟨ss, e1, q'⟩ := oR_bind (P := Run cs (rD X.K) W σ Φ1 H1 Q) q id
    clear q
    unfold D.nms at e1
    split at e1
    next d ds =>
      obtain ⟨p, vs, rfl, h1, h2, kn⟩ := RepV.tup_kn rep r1.sub
      refine ⟨⟨p, rfl, kn (stk_strs e1)⟩, ?_⟩
      refine tG.bind (rp := rV X.K) r1 q' fun Φ2 H2 z u r2 x2 rz q => ?_
      unfold gIndex at q
      split at q
      next x =>
        obtain ⟨w, rfl, rfl⟩ := RepV.str_inv rz
        obtain ⟨j, e2, q⟩ := oR_bind (P := Run cs (rD X.K) W σ Φ2 H2 Q) q id
        obtain ⟨xs, rfl, hx⟩ := h2.strs e1
        obtain ⟨e3, e4⟩ := posS_spec e2
        refine ⟨p, xs, w, j, rfl, rfl, sqT_mono x2.heap h1, ?_, fun m hm z => e4 m hm ?_, q.ok r2.sub (.int _)⟩
        · rw [← hx, List.getElem?_map] at e3
          cases e5 : xs[j]? with
          | none => rw [e5] at e3; cases e3
          | some y =>
            rw [e5] at e3
            rw [str_eq (Option.some.inj e3)]
        · rw [← hx, List.getElem?_map, z]; rfl
      next => exact q.elim
    next => cases e1
end
end PL

set_option Elab.async false
set_option linter.all false
set_option maxRecDepth 100000
/-! PLev: equations of the operators at constructors, and rules for loops -/
namespace PL
set_option autoImplicit false
open L2
def limR {α : Type} (n : Nat) (r : R α) : R α := if n ≤ LIM then r else .stuck
theorem tr {α : Type} {a b : α} (h : a = b) : a = b := h
@[simp] theorem limR_ok {α : Type} (n : Nat) (r : R α) (h : n ≤ 1000000) : limR n r = r := if_pos h
@[simp] theorem gIx_tup (ds : List D) (i : Int) : gIx (.tup ds) (.int i) = oR (L2.atI ds i) := tr rfl
@[simp] theorem gIx_lst (ds : List D) (i : Int) : gIx (.lst ds) (.int i) = oR (L2.atI ds i) := tr rfl
@[simp] theorem gIx_scr (ns : List Int) (i : Int) : gIx (.scr ns) (.int i) = oR (L2.atI (ns.map D.int) i) := tr rfl
@[simp] theorem gIx_str (s : List Nat) (i : Int) (h : s.length ≤ 1000000) : gIx (.str s) (.int i) = (oR (L2.atI s i)).bind fun c => .ok (.str [c]) := if_pos h
@[simp] theorem gEq_ii (i j : Int) : gEq (.int i) (.int j) = .ok (decide (i = j)) := tr rfl
@[simp] theorem gEq_ss (i j : List Nat) : gEq (.str i) (.str j) = .ok (decide (i = j)) := tr rfl
@[simp] theorem gEq_bb (i j : Bool) : gEq (.bl i) (.bl j) = .ok (decide (i = j)) := tr rfl
@[simp] theorem gNe_ii (i j : Int) : gNe (.int i) (.int j) = .ok (!decide (i = j)) := tr rfl
@[simp] theorem gNe_ss (i j : List Nat) : gNe (.str i) (.str j) = .ok (!decide (i = j)) := tr rfl
@[simp] theorem gNe_bb (i j : Bool) : gNe (.bl i) (.bl j) = .ok (!decide (i = j)) := tr rfl
@[simp] theorem gCmp_ii (p : Int → Int → Bool) (i j : Int) : gCmp p (.int i) (.int j) = .ok (p i j) := tr rfl
@[simp] theorem gAdd_ii (i j : Int) : gAdd (.int i) (.int j) = .ok (.int (i + j)) := tr rfl
@[simp] theorem gAdd_ss (x y : List Nat) (h : x.length + y.length ≤ 1000000) : gAdd (.str x) (.str y) = .ok (.str (x ++ y)) := if_pos h
@[simp] theorem gAdd_ll (x y : List D) (h : x.length + y.length ≤ 1000000) : gAdd (.lst x) (.lst y) = .ok (.lst (x ++ y)) := if_pos h
@[simp] theorem gAdd_tt (x y : List D) (h : x.length + y.length ≤ 1000000) : gAdd (.tup x) (.tup y) = .ok (.tup (x ++ y)) := if_pos h
@[simp] theorem gCat_ll (x y : List D) (h : x.length + y.length ≤ 1000000) : gCat (.lst x) (.lst y) = .ok (.lst (x ++ y)) := if_pos h
@[simp] theorem gSub_ii (i j : Int) : gSub (.int i) (.int j) = .ok (.int (i - j)) := tr rfl
theorem gMul_ok {i j : Int} (h : MulOk i j = true) : gMulI (.int i) (.int j) = .ok (.int (i * j)) := if_pos h
theorem mulOk_l {i j : Int} (h : i.natAbs < 2 ^ 64) : MulOk i j = true := by simp [MulOk, h]
theorem mulOk_r {i j : Int} (h : j.natAbs < 2 ^ 64) : MulOk i j = true := by simp [MulOk, h]
@[simp] theorem gMul_l (i j : Int) (h : -1000000000000 ≤ i) (h2 : i ≤ 1000000000000) : gMulI (.int i) (.int j) = .ok (.int (i * j)) := gMul_ok (mulOk_l (by omega))
@[simp] theorem gMul_r (i j : Int) (h : -1000000000000 ≤ j) (h2 : j ≤ 1000000000000) : gMulI (.int i) (.int j) = .ok (.int (i * j)) := gMul_ok (mulOk_r (by omega))
@[simp] theorem gDiv_ii (i j : Int) (h : 0 < j) (h2 : j < 1073741824) : gDiv (.int i) (.int j) = .ok (.int (i / j)) := if_pos ⟨h, h2⟩
@[simp] theorem gMod_ii (i j : Int) (h : 0 < j) : gMod (.int i) (.int j) = .ok (.int (i % j)) := if_pos h
@[simp] theorem gPow_ii (i j : Int) (h : 0 ≤ j ∧ j ≤ 1000000 ∧ i.natAbs < 2 ^ 64) : gPow (.int i) (.int j) = .ok (.int (i ^ j.toNat)) := if_pos h
theorem gShl_ok {i j : Int} (h : 0 ≤ j) (h2 : j ≤ 1000000) (h3 : i.natAbs < 2 ^ 10000) : gShl (.int i) (.int j) = .ok (.int (i * 2 ^ j.toNat)) := if_pos ⟨h, h2, h3⟩
@[simp] theorem gShr_ii (i j : Int) (h : 0 ≤ j) : gShr (.int i) (.int j) = .ok (.int (i / 2 ^ j.toNat)) := if_pos h
@[simp] theorem gAnd_ii (i j : Int) : gAnd (.int i) (.int j) = .ok (.int (PySem.Builtin.bitAnd i j)) := tr rfl
@[simp] theorem gOr_ii (i j : Int) : gOr (.int i) (.int j) = .ok (.int (PySem.Builtin.bitOr i j)) := tr rfl
@[simp] theorem gXor_ii (i j : Int) : gXor (.int i) (.int j) = .ok (.int (PySem.Builtin.bitXor i j)) := tr rfl
@[simp] theorem gNeg_i (i : Int) : gNeg (.int i) = .ok (.int (-i)) := tr rfl
@[simp] theorem gLen_str (s : List Nat) (h : s.length ≤ 1000000) : gLen [.str s] = .ok (.int s.length) := if_pos h
@[simp] theorem gLen_tup (s : List D) : gLen [.tup s] = .ok (.int s.length) := tr rfl
@[simp] theorem gLen_lst (s : List D) : gLen [.lst s] = .ok (.int s.length) := tr rfl
@[simp] theorem gLen_scr (s : List Int) : gLen [.scr s] = .ok (.int s.length) := by simp [gLen, D.items, oR, R.bind]
@[simp] theorem gIntOf_i (i : Int) : gIntOf [.int i] = .ok (.int i) := tr rfl
@[simp] theorem gIntOf_b (k : Bool) : gIntOf [.bl k] = .ok (.int (if k then 1 else 0)) := tr rfl
@[simp] theorem gMax2_ii (i j : Int) : gMax2 [.int i, .int j] = .ok (.int (if j > i then j else i)) := tr rfl
@[simp] theorem gMin2_ii (i j : Int) : gMin2 [.int i, .int j] = .ok (.int (if j < i then j else i)) := tr rfl
@[simp] theorem gTupleOf_t (ds : List D) : gTupleOf [.tup ds] = .ok (.tup ds) := tr rfl
@[simp] theorem gTupleOf_l (ds : List D) : gTupleOf [.lst ds] = .ok (.tup ds) := tr rfl
@[simp] theorem gTupleOf_s (ns : List Int) : gTupleOf [.scr ns] = .ok (.tup (ns.map D.int)) := tr rfl
@[simp] theorem gListOf_t (ds : List D) : gListOf [.tup ds] = .ok (.lst ds) := tr rfl
@[simp] theorem gListOf_l (ds : List D) : gListOf [.lst ds] = .ok (.lst ds) := tr rfl
@[simp] theorem gListOf_s (ns : List Int) : gListOf [.scr ns] = .ok (.lst (ns.map D.int)) := tr rfl
/-- the order and equality of numbers as plain functions (no instance within) -/
def ltb (a b : Nat) : Bool := decide (a < b)
def eqb (a b : Nat) : Bool := decide (a = b)
theorem ltb_dec (a b : Nat) : ltb a b = decide (a < b) := rfl
theorem eqb_dec (a b : Nat) : eqb a b = decide (a = b) := rfl
theorem cl1 (n : Nat) : decide ((n : Int) < 1) = ltb n 1 := by rw [ltb_dec]; exact decide_eq_decide.mpr (by omega)
theorem ce1 (n : Nat) : decide ((n : Int) = 1) = eqb n 1 := by rw [eqb_dec]; exact decide_eq_decide.mpr (by omega)
theorem cl2 (n : Nat) : decide ((n : Int) < 2) = ltb n 2 := by rw [ltb_dec]; exact decide_eq_decide.mpr (by omega)
theorem ce2 (n : Nat) : decide ((n : Int) = 2) = eqb n 2 := by rw [eqb_dec]; exact decide_eq_decide.mpr (by omega)
theorem cl3 (n : Nat) : decide ((n : Int) < 3) = ltb n 3 := by rw [ltb_dec]; exact decide_eq_decide.mpr (by omega)
theorem ce3 (n : Nat) : decide ((n : Int) = 3) = eqb n 3 := by rw [eqb_dec]; exact decide_eq_decide.mpr (by omega)
theorem cl4 (n : Nat) : decide ((n : Int) < 4) = ltb n 4 := by rw [ltb_dec]; exact decide_eq_decide.mpr (by omega)
theorem ce4 (n : Nat) : decide ((n : Int) = 4) = eqb n 4 := by rw [eqb_dec]; exact decide_eq_decide.mpr (by omega)
theorem cl5 (n : Nat) : decide ((n : Int) < 5) = ltb n 5 := by rw [ltb_dec]; exact decide_eq_decide.mpr (by omega)
theorem ce5 (n : Nat) : decide ((n : Int) = 5) = eqb n 5 := by rw [eqb_dec]; exact decide_eq_decide.mpr (by omega)
theorem cl6 (n : Nat) : decide ((n : Int) < 6) = ltb n 6 := by rw [ltb_dec]; exact decide_eq_decide.mpr (by omega)
theorem ce6 (n : Nat) : decide ((n : Int) = 6) = eqb n 6 := by rw [eqb_dec]; exact decide_eq_decide.mpr (by omega)
theorem cl7 (n : Nat) : decide ((n : Int) < 7) = ltb n 7 := by rw [ltb_dec]; exact decide_eq_decide.mpr (by omega)
theorem ce7 (n : Nat) : decide ((n : Int) = 7) = eqb n 7 := by rw [eqb_dec]; exact decide_eq_decide.mpr (by omega)
theorem cl8 (n : Nat) : decide ((n : Int) < 8) = ltb n 8 := by rw [ltb_dec]; exact decide_eq_decide.mpr (by omega)
theorem ce8 (n : Nat) : decide ((n : Int) = 8) = eqb n 8 := by rw [eqb_dec]; exact decide_eq_decide.mpr (by omega)
theorem dl0 (n : Nat) : decide (0 < (n : Int)) = ltb 0 n := by rw [ltb_dec]; exact decide_eq_decide.mpr (by omega)
theorem dl1 (n : Nat) : decide (1 < (n : Int)) = ltb 1 n := by rw [ltb_dec]; exact decide_eq_decide.mpr (by omega)
theorem dl2 (n : Nat) : decide (2 < (n : Int)) = ltb 2 n := by rw [ltb_dec]; exact decide_eq_decide.mpr (by omega)
theorem dl3 (n : Nat) : decide (3 < (n : Int)) = ltb 3 n := by rw [ltb_dec]; exact decide_eq_decide.mpr (by omega)
theorem dl4 (n : Nat) : decide (4 < (n : Int)) = ltb 4 n := by rw [ltb_dec]; exact decide_eq_decide.mpr (by omega)
theorem dl5 (n : Nat) : decide (5 < (n : Int)) = ltb 5 n := by rw [ltb_dec]; exact decide_eq_decide.mpr (by omega)
theorem dl6 (n : Nat) : decide (6 < (n : Int)) = ltb 6 n := by rw [ltb_dec]; exact decide_eq_decide.mpr (by omega)
theorem dl7 (n : Nat) : decide (7 < (n : Int)) = ltb 7 n := by rw [ltb_dec]; exact decide_eq_decide.mpr (by omega)
theorem dl8 (n : Nat) : decide (8 < (n : Int)) = ltb 8 n := by rw [ltb_dec]; exact decide_eq_decide.mpr (by omega)
@[simp] theorem andR_b (k : Bool) (x : R D) : andR (.bl k) x = if k = true then x else .ok (.bl false) := by cases k <;> rfl
@[simp] theorem orR_b (k : Bool) (x : R D) : orR (.bl k) x = if k = true then .ok (.bl true) else x := by cases k <;> rfl
@[simp] theorem notR_b (k : Bool) : notR (.bl k) = .ok (.bl (!k)) := tr rfl
@[simp] theorem R_ite {α : Type} (c : Prop) [Decidable c] (a b : α) : (if c then R.ok a else R.ok b) = R.ok (if c then a else b) := by split <;> rfl
@[simp] theorem bl_ite (c : Prop) [Decidable c] (a b : Bool) : (if c then D.bl a else D.bl b) = D.bl (if c then a else b) := by split <;> rfl
@[simp] theorem tBool_b (k : Bool) : tBool (.bl k) = .ok k := tr rfl

theorem atI_of {α : Type} (xs : List α) (j : Nat) (h : j < xs.length) : L2.atI xs (j : Int) = some xs[j] := by
  unfold L2.atI
  rw [ixN_of _ _ h]
  simp [h]
/-! ### evaluation, step by step: simp goes on only where the step ahead has come out -/
section
variable {α β : Type}
@[simp] theorem bind_ok (a : α) (k : α → R β) : (R.ok a).bind k = k a := tr rfl
@[simp] theorem bind_exc (x : Exn) (k : α → R β) : (R.exc x : R α).bind k = .exc x := tr rfl
@[simp] theorem bind_stuck (k : α → R β) : (R.stuck : R α).bind k = .stuck := tr rfl
@[simp] theorem oR_some (a : α) : oR (some a) = .ok a := tr rfl
@[simp] theorem oR_none : oR (none : Option α) = .stuck := tr rfl
@[simp] theorem noX_ok' (a : α) : noX (.ok a) = .ok a := tr rfl
@[simp] theorem tryE_ok (ρ : List Sl) (a : α) (k : α → RS) : tryE ρ (.ok a) k = k a := tr rfl
@[simp] theorem tryE_exc (ρ : List Sl) (x : Exn) (k : α → RS) : tryE ρ (.exc x) k = .exc x ρ := tr rfl
@[simp] theorem tryE_stuck (ρ : List Sl) (k : α → RS) : tryE ρ .stuck k = .stuck := tr rfl
end
def RS.seq (r : RS) (g : Es) : RS := match r with
  | .nx ρ' => g ρ'
  | r => r
@[simp] theorem seq_nx (ρ : List Sl) (g : Es) : RS.seq (.nx ρ) g = g ρ := tr rfl
@[simp] theorem seq_rt (v : Sl) (ρ : List Sl) (g : Es) : RS.seq (.rt v ρ) g = .rt v ρ := tr rfl
@[simp] theorem seq_bk (ρ : List Sl) (g : Es) : RS.seq (.bk ρ) g = .bk ρ := tr rfl
@[simp] theorem seq_ct (ρ : List Sl) (g : Es) : RS.seq (.ct ρ) g = .ct ρ := tr rfl
@[simp] theorem seq_exc (x : Exn) (ρ : List Sl) (g : Es) : RS.seq (.exc x ρ) g = .exc x ρ := tr rfl
@[simp] theorem seq_stuck (g : Es) : RS.seq .stuck g = .stuck := tr rfl
@[simp] theorem seqS_eq (f g : Es) (ρ : List Sl) : seqS f g ρ = RS.seq (f ρ) g := tr rfl
@[simp] theorem skipS_eq (ρ : List Sl) : skipS ρ = .nx ρ := tr rfl
@[simp] theorem ctS_eq (ρ : List Sl) : ctS ρ = .ct ρ := tr rfl
@[simp] theorem bkS_eq (ρ : List Sl) : bkS ρ = .bk ρ := tr rfl
@[simp] theorem asgS_eq (ft : D → R (List (Nat × D))) (fe : Ev D) (ρ : List Sl) : asgS ft fe ρ = tryE ρ ((fe ρ).bind ft) fun as => .nx (setS ρ as) := tr rfl
@[simp] theorem asgN_eq (i : Nat) (fe : Ev D) (ρ : List Sl) : asgN i fe ρ = tryE ρ (fe ρ) fun d => .nx (ρ.set i (.own d)) := tr rfl
def par2 (i j : Nat) (ρ : List Sl) (ds : List D) : RS := match ds with
  | [x, y] => .nx (setS ρ [(i, x), (j, y)])
  | _ => .stuck
@[simp] theorem par2_eq (i j : Nat) (ρ : List Sl) (x y : D) : par2 i j ρ [x, y] = .nx (setS ρ [(i, x), (j, y)]) := tr rfl
@[simp] theorem parS_eq (i j : Nat) (fs : Ev (List D)) (ρ : List Sl) : parS i j fs ρ = tryE ρ (fs ρ) (par2 i j ρ) := tr rfl
def ifK (f g : Es) (ρ : List Sl) (k : Bool) : RS := if k = true then f ρ else g ρ
@[simp] theorem ifK_t (f g : Es) (ρ : List Sl) : ifK f g ρ true = f ρ := tr rfl
@[simp] theorem ifK_f (f g : Es) (ρ : List Sl) : ifK f g ρ false = g ρ := tr rfl
@[simp] theorem ifS_eq (fc : Ev Bool) (f g : Es) (ρ : List Sl) : ifS fc f g ρ = tryE ρ (fc ρ) (ifK f g ρ) := tr rfl
@[simp] theorem retS_eq (fe : Ev D) (ρ : List Sl) : retS fe ρ = tryE ρ (fe ρ) fun d => .rt (.val d) ρ := tr rfl
@[simp] theorem retN_eq (fe : Ev D) (ρ : List Sl) : retN fe ρ = tryE ρ (fe ρ) fun d => .rt (.own d) ρ := tr rfl
@[simp] theorem retNone_eq (ρ : List Sl) : retNone ρ = .rt (.val .non) ρ := tr rfl
def rtSl (i : Nat) (ρ : List Sl) (s : Option Sl) : RS := match s with
  | some (.val d) => .rt (.val d) ρ
  | some (.own d) => .rt (.own d) (ρ.set i .emp)
  | _ => .stuck
@[simp] theorem rtSl_val (i : Nat) (ρ : List Sl) (d : D) : rtSl i ρ (some (.val d)) = .rt (.val d) ρ := tr rfl
@[simp] theorem rtSl_own (i : Nat) (ρ : List Sl) (d : D) : rtSl i ρ (some (.own d)) = .rt (.own d) (ρ.set i .emp) := tr rfl
@[simp] theorem retV_eq (i : Nat) (ρ : List Sl) : retV i ρ = rtSl i ρ ρ[i]? := tr rfl
def frz1 (ρ : List Sl) (i : Nat) (s : Option Sl) : List Sl := match s with
  | some (.own d) => ρ.set i (.val d)
  | _ => ρ
@[simp] theorem frz1_own (i : Nat) (ρ : List Sl) (d : D) : frz1 ρ i (some (.own d)) = ρ.set i (.val d) := tr rfl
@[simp] theorem frz1_val (i : Nat) (ρ : List Sl) (d : D) : frz1 ρ i (some (.val d)) = ρ := tr rfl
@[simp] theorem frz1_emp (i : Nat) (ρ : List Sl) : frz1 ρ i (some .emp) = ρ := tr rfl
@[simp] theorem frzS_eq (i : Nat) (f : Es) (ρ : List Sl) : frzS i f ρ = f (frz1 ρ i ρ[i]?) := tr rfl
@[simp] theorem e1_eq {α : Type} (g : D → R α) (fa : Ev D) (ρ : List Sl) : e1 g fa ρ = (fa ρ).bind g := tr rfl
@[simp] theorem e2_eq {α : Type} (g : D → D → R α) (fa fb : Ev D) (ρ : List Sl) : e2 g fa fb ρ = (fa ρ).bind fun x => (fb ρ).bind (g x) := tr rfl
def Sl.rd (s : Option Sl) : R D := match s with
  | some (.val d) => .ok d
  | some (.own d) => .ok d
  | _ => .stuck
def Sl.rf (s : Option Sl) : R D := match s with
  | some (.val d) => .ok d
  | _ => .stuck
@[simp] theorem rd_val (d : D) : Sl.rd (some (.val d)) = .ok d := tr rfl
@[simp] theorem rd_own (d : D) : Sl.rd (some (.own d)) = .ok d := tr rfl
@[simp] theorem rf_val (d : D) : Sl.rf (some (.val d)) = .ok d := tr rfl
@[simp] theorem eVar_eq (i : Nat) (ρ : List Sl) : eVar i ρ = Sl.rd ρ[i]? := tr rfl
@[simp] theorem eFrz_eq (i : Nat) (ρ : List Sl) : eFrz i ρ = Sl.rf ρ[i]? := tr rfl
@[simp] theorem eC_eq (d : D) (ρ : List Sl) : eC d ρ = .ok d := tr rfl
@[simp] theorem eBl_eq (f : Ev Bool) (ρ : List Sl) : eBl f ρ = (f ρ).bind fun k => .ok (.bl k) := tr rfl
@[simp] theorem eTup_eq (fs : Ev (List D)) (ρ : List Sl) : eTup fs ρ = (fs ρ).bind fun ds => limR ds.length (.ok (.tup ds)) := tr rfl
@[simp] theorem eLst_eq (fs : Ev (List D)) (ρ : List Sl) : eLst fs ρ = (fs ρ).bind fun ds => limR ds.length (.ok (.lst ds)) := tr rfl
@[simp] theorem aNil_eq (ρ : List Sl) : aNil ρ = .ok [] := tr rfl
@[simp] theorem aCons_eq (fa : Ev D) (fs : Ev (List D)) (ρ : List Sl) : aCons fa fs ρ = (fa ρ).bind fun d => (fs ρ).bind fun ds => .ok (d :: ds) := tr rfl
@[simp] theorem eCall_eq (g : List D → R D) (fs : Ev (List D)) (ρ : List Sl) : eCall g fs ρ = (fs ρ).bind g := tr rfl
def RF.data (r : RF) : R D := match r with
  | .ok (.val d) _ => .ok d
  | .ok (.own d) _ => .ok d
  | .exc x _ => .exc x
  | _ => .stuck
def RF.dataN (r : RF) : R D := match r with
  | .ok (.own d) _ => .ok d
  | .exc x _ => .exc x
  | _ => .stuck
@[simp] theorem data_val (d : D) (l : List Sl) : RF.data (.ok (.val d) l) = .ok d := tr rfl
@[simp] theorem data_own (d : D) (l : List Sl) : RF.data (.ok (.own d) l) = .ok d := tr rfl
@[simp] theorem data_exc (x : Exn) (l : List Sl) : RF.data (.exc x l) = .exc x := tr rfl
@[simp] theorem dataN_own (d : D) (l : List Sl) : RF.dataN (.ok (.own d) l) = .ok d := tr rfl
@[simp] theorem dataN_exc (x : Exn) (l : List Sl) : RF.dataN (.exc x l) = .exc x := tr rfl
@[simp] theorem eFn_eq (G : Fn) (fs : Ev (List D)) (ρ : List Sl) : eFn G fs ρ = (fs ρ).bind fun ds => RF.data (G (ds.map .val)) := tr rfl
@[simp] theorem eFnN_eq (G : Fn) (fs : Ev (List D)) (ρ : List Sl) : eFnN G fs ρ = (fs ρ).bind fun ds => RF.dataN (G (ds.map .val)) := tr rfl
@[simp] theorem eIf_eq (f : Ev Bool) (fa fb : Ev D) (ρ : List Sl) : eIf f fa fb ρ = (f ρ).bind fun k => if k = true then fa ρ else fb ρ := tr rfl
@[simp] theorem eAn_eq (fa fb : Ev D) (ρ : List Sl) : eAn fa fb ρ = (fa ρ).bind fun d => andR d (fb ρ) := tr rfl
@[simp] theorem eOo_eq (fa fb : Ev D) (ρ : List Sl) : eOo fa fb ρ = (fa ρ).bind fun d => orR d (fb ρ) := tr rfl
@[simp] theorem eNt_eq (fa : Ev D) (ρ : List Sl) : eNt fa ρ = (fa ρ).bind notR := tr rfl
@[simp] theorem tNt_eq (f : Ev Bool) (ρ : List Sl) : tNt f ρ = (f ρ).bind fun k => .ok (!k) := tr rfl
@[simp] theorem tAn_eq (f g : Ev Bool) (ρ : List Sl) : tAn f g ρ = (f ρ).bind fun k => if k = true then g ρ else .ok false := tr rfl
@[simp] theorem tOo_eq (f g : Ev Bool) (ρ : List Sl) : tOo f g ρ = (f ρ).bind fun k => if k = true then .ok true else g ρ := tr rfl
@[simp] theorem oNone_eq (ρ : List Sl) : oNone ρ = .ok none := tr rfl
def D.oi (d : D) : R (Option Int) := match d with | .int i => .ok (some i) | _ => .stuck
@[simp] theorem oi_int (i : Int) : D.oi (.int i) = .ok (some i) := tr rfl
@[simp] theorem oSome_eq (fa : Ev D) (ρ : List Sl) : oSome fa ρ = (fa ρ).bind D.oi := tr rfl
@[simp] theorem eSl_eq (fa : Ev D) (fl fh : Ev (Option Int)) (ρ : List Sl) : eSl fa fl fh ρ = (fa ρ).bind fun d => (fl ρ).bind fun lo => (fh ρ).bind fun hi => gSl lo hi d := tr rfl
@[simp] theorem gSl_str (lo hi : Option Int) (s : List Nat) (h : s.length ≤ 1000000) : gSl lo hi (.str s) = .ok (.str (cutL s lo hi)) := if_pos h
@[simp] theorem gSl_lst (lo hi : Option Int) (s : List D) : gSl lo hi (.lst s) = .ok (.lst (cutL s lo hi)) := tr rfl
@[simp] theorem gSl_scr (lo hi : Option Int) (s : List Int) : gSl lo hi (.scr s) = .ok (.lst ((cutL s lo hi).map D.int)) := tr rfl
@[simp] theorem gSl_tup (lo hi : Option Int) (s : List D) : gSl lo hi (.tup s) = .ok (.tup (cutL s lo hi)) := tr rfl
@[simp] theorem eDisp_eq (prs : List (Ev D × Ev D)) (ρ : List Sl) : eDisp prs ρ = (pairsE prs ρ).bind gDisp := tr rfl
@[simp] theorem pairsE_nil (ρ : List Sl) : pairsE [] ρ = .ok [] := tr rfl
@[simp] theorem pairsE_cons (fk fv : Ev D) (r : List (Ev D × Ev D)) (ρ : List Sl) : pairsE ((fk, fv) :: r) ρ = (fk ρ).bind fun k => (fv ρ).bind fun v => (pairsE r ρ).bind fun l => .ok ((k, v) :: l) := tr rfl
@[simp] theorem pLt_eq (i j : Int) : pLt i j = decide (i < j) := tr rfl
@[simp] theorem pLe_eq (i j : Int) : pLe i j = decide (i ≤ j) := tr rfl
@[simp] theorem pGt_eq (i j : Int) : pGt i j = decide (j < i) := tr rfl
@[simp] theorem pGe_eq (i j : Int) : pGe i j = decide (j ≤ i) := tr rfl
def limD (n : Nat) (r : R D) : R D := if n ≤ 15 then r else .stuck
@[simp] theorem limD_ok (n : Nat) (r : R D) (h : n ≤ 15) : limD n r = r := if_pos h
@[simp] theorem gDisp_eq (l : List (D × D)) : gDisp l = (oR (keysC l)).bind fun es => limD es.length (.ok (.dic (mergeC [] es))) := tr rfl
@[simp] theorem keysC_nil : keysC [] = some [] := tr rfl
@[simp] theorem keysC_str (s : List Nat) (d : D) (r : List (D × D)) : keysC ((.str s, d) :: r) = (keysC r).map ((.inr s, d) :: ·) := by
  simp only [keysC, D.key]
  cases keysC r <;> rfl
@[simp] theorem keysC_int (s : Int) (d : D) (r : List (D × D)) : keysC ((.int s, d) :: r) = (keysC r).map ((.inl s, d) :: ·) := by
  simp only [keysC, D.key]
  cases keysC r <;> rfl
@[simp] theorem mergeC_nil (es : List (Kc × D)) : mergeC es [] = es := tr rfl
@[simp] theorem mergeC_cons (es : List (Kc × D)) (k : Kc) (d : D) (r : List (Kc × D)) : mergeC es ((k, d) :: r) = mergeC (putC es k d) r := tr rfl
@[simp] theorem key_int (i : Int) : D.key (.int i) = some (.inl i) := tr rfl
@[simp] theorem key_str (s : List Nat) : D.key (.str s) = some (.inr s) := tr rfl
def getS2 (es : List (Kc × D)) (fb fc : Ev D) (ρ : List Sl) : R D := (fb ρ).bind fun k => (fc ρ).bind fun d => (oR k.key).bind fun kc => .ok ((lookC es kc).getD d)
def get2 (fb fc : Ev D) (ρ : List Sl) (x : D) : R D := match x with
  | .dic es => getS2 es fb fc ρ
  | _ => .stuck
@[simp] theorem get2_dic (fb fc : Ev D) (ρ : List Sl) (es : List (Kc × D)) : get2 fb fc ρ (.dic es) = (fb ρ).bind fun k => (fc ρ).bind fun d => (oR k.key).bind fun kc => .ok ((lookC es kc).getD d) := tr rfl
@[simp] theorem eDget2_eq (fa fb fc : Ev D) (ρ : List Sl) : eDget2 fa fb fc ρ = (fa ρ).bind (get2 fb fc ρ) := by
  show (fa ρ).bind _ = _
  cases fa ρ with
  | ok d => cases d <;> rfl
  | _ => rfl
@[simp] theorem gDix_dic (es : List (Kc × D)) (k : D) : gDix (.dic es) k = (oR k.key).bind fun kc => oR (lookC es kc) := tr rfl
def m1R (g : List Nat → D → R D) (fb : Ev D) (ρ : List Sl) (x : D) : R D := match x with
  | .str s => (fb ρ).bind (g s)
  | _ => .stuck
@[simp] theorem m1R_str (g : List Nat → D → R D) (fb : Ev D) (ρ : List Sl) (s : List Nat) : m1R g fb ρ (.str s) = (fb ρ).bind (g s) := tr rfl
@[simp] theorem eM1_eq (g : List Nat → D → R D) (fa fb : Ev D) (ρ : List Sl) : eM1 g fa fb ρ = (fa ρ).bind (m1R g fb ρ) := tr rfl
@[simp] theorem ftOne_eq (i : Nat) (d : D) : ftOne i d = .ok [(i, d)] := tr rfl
@[simp] theorem ftTup_eq (is : List Nat) (ds : List D) (h : ds.length = is.length) : ftTup is (.tup ds) = .ok (is.zip ds) := if_pos h
@[simp] theorem setS_nil (ρ : List Sl) : setS ρ [] = ρ := tr rfl
@[simp] theorem setS_cons (ρ : List Sl) (i : Nat) (d : D) (r : List (Nat × D)) : setS ρ ((i, d) :: r) = setS (ρ.set i (.val d)) r := tr rfl
@[simp] theorem items_tup (ds : List D) : D.items (.tup ds) = some ds := tr rfl
@[simp] theorem items_lst (ds : List D) : D.items (.lst ds) = some ds := tr rfl
@[simp] theorem items_scr (ns : List Int) : D.items (.scr ns) = some (ns.map D.int) := tr rfl
@[simp] theorem rangeD_length (a b : Int) : (rangeD a b).length = (b - a).toNat := by simp [rangeD]
@[simp] theorem iEn_eq (fa : Ev D) (ρ : List Sl) : iEn fa ρ = (fa ρ).bind fun d => (oR d.items).bind fun ds => .ok (enD 0 ds) := tr rfl
@[simp] theorem iSeq_eq (fa : Ev D) (ρ : List Sl) : iSeq fa ρ = (fa ρ).bind fun d => oR d.items := tr rfl
@[simp] theorem forS_eq (fi : Ev (List D)) (ft : D → R (List (Nat × D))) (fb : Es) (ρ : List Sl) : forS fi ft fb ρ = tryE ρ (fi ρ) fun ds => forGo ft fb ds ρ := tr rfl
@[simp] theorem iRg_eq (g : List D → R (List D)) (fs : Ev (List D)) (ρ : List Sl) : iRg g fs ρ = (fs ρ).bind g := tr rfl
@[simp] theorem gRng1_i (n : Int) (h0 : -1000000000000 ≤ n) (h1 : n ≤ 1000000000000) : gRng1 [.int n] = .ok (rangeD 0 n) := if_pos ⟨by omega, by omega⟩
@[simp] theorem gRng2_ii (a b : Int) (h0 : -1000000000000 ≤ a) (h1 : a ≤ 1000000000000) (h2 : -1000000000000 ≤ b) (h3 : b ≤ 1000000000000) : gRng2 [.int a, .int b] = .ok (rangeD a b) := if_pos ⟨⟨by omega, by omega⟩, by omega, by omega⟩
theorem smallR_of {n : Int} (h0 : -1000000000000 ≤ n) (h1 : n ≤ 1000000000000) : smallR n := ⟨by omega, by omega⟩
def mutR (i : Nat) (ρ : List Sl) (k : D → List Sl → RS) (r : R (D × List D)) : RS := match r with
  | .ok (res, ds') => k res (ρ.set i (.own (.lst ds')))
  | _ => .stuck
@[simp] theorem mutR_ok (i : Nat) (ρ : List Sl) (k : D → List Sl → RS) (res : D) (ds' : List D) : mutR i ρ k (.ok (res, ds')) = k res (ρ.set i (.own (.lst ds'))) := tr rfl
def mutL (i : Nat) (g : GL) (fs : Ev (List D)) (k : D → List Sl → RS) (ρ : List Sl) (s : Option Sl) : RS := match s with
  | some (.own (.lst ds)) => tryE ρ (fs ρ) fun args => mutR i ρ k (g ds args)
  | _ => .stuck
@[simp] theorem mutL_own (i : Nat) (g : GL) (fs : Ev (List D)) (k : D → List Sl → RS) (ρ : List Sl) (ds : List D) : mutL i g fs k ρ (some (.own (.lst ds))) = tryE ρ (fs ρ) fun args => mutR i ρ k (g ds args) := tr rfl
@[simp] theorem mutS_eq (i : Nat) (g : GL) (fs : Ev (List D)) (k : D → List Sl → RS) (ρ : List Sl) : mutS i g fs k ρ = mutL i g fs k ρ ρ[i]? := tr rfl
@[simp] theorem pop2S_eq (i j : Nat) (ρ : List Sl) (d1 d2 : D) (ds : List D) (h : ρ[j]? = some (.own (.lst (d1 :: d2 :: ds)))) : pop2S i j ρ = .nx ((ρ.set j (.own (.lst ds))).set i (.val (.tup [d1, d2]))) := by simp [pop2S, h]
@[simp] theorem isVal_val (d : D) : Sl.isVal (.val d) = true := tr rfl
def RS.fin (n np : Nat) (args : List Sl) (r : RS) : RF := match r with
  | .rt r ρ => .ok r (finOf n np args ρ)
  | .nx ρ => .ok (.val .non) (finOf n np args ρ)
  | .exc x ρ => .exc x (finOf n np args ρ)
  | _ => .stuck
@[simp] theorem fin_rt (n np : Nat) (args : List Sl) (r : Sl) (ρ : List Sl) : RS.fin n np args (.rt r ρ) = .ok r (if n ≤ np then ρ.take n else args) := tr rfl
@[simp] theorem fin_nx (n np : Nat) (args : List Sl) (ρ : List Sl) : RS.fin n np args (.nx ρ) = .ok (.val .non) (if n ≤ np then ρ.take n else args) := tr rfl
@[simp] theorem fin_exc (n np : Nat) (args : List Sl) (x : Exn) (ρ : List Sl) : RS.fin n np args (.exc x ρ) = .exc x (if n ≤ np then ρ.take n else args) := tr rfl
theorem bodyF_eq (N n np : Nat) (fb : Es) (args : List Sl) (h : n ≤ np ∨ args.all Sl.isVal = true) : bodyF N n np fb args = RS.fin n np args (fb (args ++ List.replicate (N - n) .emp)) := by
  unfold bodyF; rw [if_pos h]; rfl
@[simp] theorem bodyF_full (N n : Nat) (fb : Es) (args : List Sl) : bodyF N n n fb args = RS.fin n n args (fb (args ++ List.replicate (N - n) .emp)) := bodyF_eq _ _ _ _ _ (.inl (Nat.le_refl _))
@[simp] theorem bodyF_zero (N n : Nat) (fb : Es) (args : List Sl) (h : args.all Sl.isVal = true) : bodyF N n 0 fb args = RS.fin n 0 args (fb (args ++ List.replicate (N - n) .emp)) := bodyF_eq _ _ _ _ _ (.inr h)
@[simp] theorem eLc_eq (vs : List Nat) (fi : Ev (List D)) (ft : D → R (List (Nat × D))) (fc : Ev Bool) (fe : Ev D) (ρ : List Sl) : eLc vs fi ft fc fe ρ = (fi ρ).bind fun ds => limR ds.length ((noX (lcGo (wipeS ρ vs) ft fc fe ds)).bind fun ys => .ok (.lst ys)) := tr rfl
@[simp] theorem wipeS_nil (ρ : List Sl) : wipeS ρ [] = ρ := tr rfl
@[simp] theorem wipeS_cons (ρ : List Sl) (v : Nat) (vs : List Nat) : wipeS ρ (v :: vs) = (wipeS ρ vs).set v .emp := tr rfl
section
variable {α : Type}
@[simp] theorem atI_0 (x : α) (l : List α) : L2.atI (x :: l) 0 = some x := atI_of (x :: l) 0 (by simp)
@[simp] theorem atI_1 (x y : α) (l : List α) : L2.atI (x :: y :: l) 1 = some y := atI_of (x :: y :: l) 1 (by simp)
@[simp] theorem atI_2 (x y z : α) (l : List α) : L2.atI (x :: y :: z :: l) 2 = some z := atI_of (x :: y :: z :: l) 2 (by simp)
@[simp] theorem atI_3 (x y z w : α) (l : List α) : L2.atI (x :: y :: z :: w :: l) 3 = some w := atI_of (x :: y :: z :: w :: l) 3 (by simp)
@[simp] theorem atI_snoc (x : α) (l : List α) : L2.atI (l ++ [x]) (-1) = some x := L2.atI_last l x
@[simp] theorem atI_m1a (x : α) : L2.atI [x] (-1) = some x := L2.atI_last [] x
@[simp] theorem atI_m1b (x y : α) : L2.atI [x, y] (-1) = some y := L2.atI_last [x] y
@[simp] theorem atI_m1c (x y z : α) : L2.atI [x, y, z] (-1) = some z := L2.atI_last [x, y] z
end
@[simp] theorem lim_eq : LIM = 1000000 := tr rfl
@[simp] theorem gAppend_1 (ds : List D) (d : D) (h : ds.length < 1000000) : gAppend ds [d] = .ok (.non, ds ++ [d]) := if_pos h
@[simp] theorem gPop_snoc (ds : List D) (d : D) : gPop (ds ++ [d]) [] = .ok (d, ds) := by
  simp [gPop, oR, R.bind]
/-- a for loop by an invariant: it goes on, or it leaves with an answer -/
theorem forGo_inv {ft : D → R (List (Nat × D))} {fb : Es} (Fin : RS → Prop) : ∀ (ds : List D) (I : Nat → List Sl → Prop) (ρ : List Sl), I 0 ρ →
    (∀ i d ρ, ds[i]? = some d → I i ρ → ∃ as, ft d = .ok as ∧ ((∃ ρ', (fb (setS ρ as) = .nx ρ' ∨ fb (setS ρ as) = .ct ρ') ∧ I (i + 1) ρ') ∨ ((∀ ρ', fb (setS ρ as) ≠ .nx ρ' ∧ fb (setS ρ as) ≠ .ct ρ' ∧ fb (setS ρ as) ≠ .bk ρ') ∧ Fin (fb (setS ρ as))))) →
    (∃ ρ', forGo ft fb ds ρ = .nx ρ' ∧ I ds.length ρ') ∨ Fin (forGo ft fb ds ρ)
  | [], I, ρ, h0, _ => .inl ⟨ρ, rfl, h0⟩
  | d :: ds, I, ρ, h0, hs => by
    obtain ⟨as, ha, h⟩ := hs 0 d ρ rfl h0
    have e : forGo ft fb (d :: ds) ρ = match fb (setS ρ as) with
      | .nx ρ' => forGo ft fb ds ρ'
      | .ct ρ' => forGo ft fb ds ρ'
      | .bk ρ' => .nx ρ'
      | r => r := by
      show tryE ρ (noX (ft d)) (fun as => match fb (setS ρ as) with
        | .nx ρ' => forGo ft fb ds ρ'
        | .ct ρ' => forGo ft fb ds ρ'
        | .bk ρ' => .nx ρ'
        | r => r) = _
      rw [ha]
      rfl
    rcases h with ⟨ρ', h, hI⟩ | ⟨hn, hf⟩
    · have e2 : forGo ft fb (d :: ds) ρ = forGo ft fb ds ρ' := by rcases h with h | h <;> rw [e, h]
      rw [e2]
      rcases forGo_inv Fin ds (fun i => I (i + 1)) ρ' hI (fun i d' ρ1 h1 h2 => hs (i + 1) d' ρ1 (by simpa using h1) h2) with ⟨ρ2, h3, h4⟩ | h3
      · exact .inl ⟨ρ2, h3, h4⟩
      · exact .inr h3
    · refine .inr ?_
      have e2 : forGo ft fb (d :: ds) ρ = fb (setS ρ as) := by
        rw [e]
        cases q : fb (setS ρ as) with
        | nx r => exact absurd q (hn r).1
        | ct r => exact absurd q (hn r).2.1
        | bk r => exact absurd q (hn r).2.2
        | _ => rfl
      rw [e2]; exact hf
/-- a for loop that never leaves -/
theorem forGo_nx {ft : D → R (List (Nat × D))} {fb : Es} (ds : List D) (I : Nat → List Sl → Prop) (ρ : List Sl) (h0 : I 0 ρ)
    (hs : ∀ i d ρ, ds[i]? = some d → I i ρ → ∃ as ρ', ft d = .ok as ∧ (fb (setS ρ as) = .nx ρ' ∨ fb (setS ρ as) = .ct ρ') ∧ I (i + 1) ρ') : ∃ ρ', forGo ft fb ds ρ = .nx ρ' ∧ I ds.length ρ' := by
  rcases forGo_inv (fun _ => False) ds I ρ h0 (fun i d ρ h1 h2 => by
    obtain ⟨as, ρ', h3, h4, h5⟩ := hs i d ρ h1 h2
    exact ⟨as, h3, .inl ⟨ρ', h4, h5⟩⟩) with h | h
  · exact h
  · exact h.elim
/-- a while loop by an invariant and a measure -/
theorem while_nx {fc : Ev Bool} {fb : Es} (I : List Sl → Prop) (m : List Sl → Nat) (hs : ∀ ρ, I ρ → fc ρ = .ok false ∨ (fc ρ = .ok true ∧ ∃ ρ', (fb ρ = .nx ρ' ∨ fb ρ = .ct ρ') ∧ I ρ' ∧ m ρ' < m ρ)) :
    ∀ (n : Nat) (ρ : List Sl), I ρ → m ρ < n → ∃ ρ', whileS fc fb n ρ = .nx ρ' ∧ I ρ' ∧ fc ρ' = .ok false
  | 0, _, _, h => absurd h (Nat.not_lt_zero _)
  | n + 1, ρ, hI, hm => by
    rcases hs ρ hI with h | ⟨h, ρ', h1, h2, h3⟩
    · exact ⟨ρ, by simp [whileS, h, tryE], hI, h⟩
    · obtain ⟨ρ2, h4, h5⟩ := while_nx I m hs n ρ' h2 (by omega)
      refine ⟨ρ2, ?_, h5⟩
      rw [← h4]
      rcases h1 with h1 | h1 <;> simp [whileS, h, tryE, h1]
/-- a comprehension whose element always comes, no test -/
theorem lcGo_map {ρ : List Sl} {ft : D → R (List (Nat × D))} {fe : Ev D} : ∀ (ds : List D) (h : D → D), (∀ d ∈ ds, ∃ as, ft d = .ok as ∧ fe (setS ρ as) = .ok (h d)) → lcGo ρ ft fcYes fe ds = .ok (ds.map h)
  | [], _, _ => rfl
  | d :: ds, h, hs => by
    obtain ⟨as, h1, h2⟩ := hs d (by simp)
    have ih := lcGo_map ds h fun d hd => hs d (by simp [hd])
    simp [lcGo, h1, h2, R.bind, noX, ih]
/-- a comprehension with a test -/
theorem lcGo_filter {ρ : List Sl} {ft : D → R (List (Nat × D))} {fc : Ev Bool} {fe : Ev D} (p : D → Bool) : ∀ (ds : List D) (h : D → D), (∀ d ∈ ds, ∃ as, ft d = .ok as ∧ fc (setS ρ as) = .ok (p d) ∧ (p d = true → fe (setS ρ as) = .ok (h d))) → lcGo ρ ft fc fe ds = .ok ((ds.filter p).map h)
  | [], _, _ => rfl
  | d :: ds, h, hs => by
    obtain ⟨as, h1, h2, h3⟩ := hs d (by simp)
    have ih := lcGo_filter p ds h fun d hd => hs d (by simp [hd])
    cases hp : p d with
    | false => simp [lcGo, h1, h2, R.bind, noX, ih, hp, List.filter_cons]
    | true => simp [lcGo, h1, h2, h3 hp, R.bind, noX, ih, hp, List.filter_cons]
/-! ### PL9 .. PL12 -/
@[simp] theorem gMul_ii (i j : Int) : gMul (.int i) (.int j) = gMulI (.int i) (.int j) := tr rfl
@[simp] theorem gMul_si (s : List Nat) (i : Int) (h : s.length ≤ 16) (h0 : -1000000000000 ≤ i) (h2 : i ≤ 1048576) : gMul (.str s) (.int i) = .ok (.str (List.replicate i.toNat s).flatten) := if_pos ⟨h, by omega, h2⟩
theorem gRep_li (ds : List D) (k : Int) (h0 : 0 ≤ k) (h1 : k ≤ 1000000) (h : ds.length * k.toNat ≤ 1000000) : gRep (.lst ds) (.int k) = .ok (.lst (List.replicate k.toNat ds).flatten) := if_pos ⟨by omega, by omega, h⟩
@[simp] theorem deadS_eq (ρ : List Sl) : deadS ρ = .stuck := tr rfl
@[simp] theorem expS_eq (fe : Ev D) (ρ : List Sl) : expS fe ρ = tryE ρ (fe ρ) fun _ => .nx ρ := tr rfl
@[simp] theorem gIsN_eq (d : D) : gIsN d = .ok d.isNon := tr rfl
@[simp] theorem gNotN_eq (d : D) : gNotN d = .ok (!d.isNon) := tr rfl
@[simp] theorem isNon_non : D.isNon .non = true := tr rfl
@[simp] theorem isNon_int (i : Int) : D.isNon (.int i) = false := tr rfl
@[simp] theorem isNon_bl (i : Bool) : D.isNon (.bl i) = false := tr rfl
@[simp] theorem isNon_str (i : List Nat) : D.isNon (.str i) = false := tr rfl
@[simp] theorem isNon_tup (i : List D) : D.isNon (.tup i) = false := tr rfl
@[simp] theorem isNon_lst (i : List D) : D.isNon (.lst i) = false := tr rfl
@[simp] theorem gIn_tup (x : D) (ds : List D) : gIn x (.tup ds) = gInL x ds := tr rfl
@[simp] theorem gIn_lst (x : D) (ds : List D) : gIn x (.lst ds) = gInL x ds := tr rfl
@[simp] theorem gIn_dic (x : D) (es : List (Kc × D)) : gIn x (.dic es) = (oR x.key).bind fun k => .ok (lookC es k).isSome := tr rfl
@[simp] theorem gIn_chr (c : Nat) (s : List Nat) : gIn (.str [c]) (.str s) = .ok (decide (c ∈ s)) := tr rfl
@[simp] theorem gNi_eq (x d : D) : gNi x d = (gIn x d).bind fun k => .ok (!k) := tr rfl
theorem gInL_strs (x : List Nat) (l : List (List Nat)) : gInL (.str x) (l.map .str) = .ok (decide (x ∈ l)) := by
  have h1 : (l.map D.str).all D.flat = true := by simp [D.flat]
  have h2 : ((l.map D.str).any fun y => eqF y (.str x)) = decide (x ∈ l) := by
    induction l with
    | nil => simp
    | cons a l ih =>
      have ih := ih (by simp [D.flat])
      rw [List.map_cons, List.any_cons, ih]
      show ((a == x) || decide (x ∈ l)) = decide (x ∈ a :: l)
      by_cases h : a = x
      · subst h; simp
      · have h' : ¬ x = a := fun e => h e.symm
        simp [h, h']
  unfold gInL
  rw [if_pos ⟨rfl, h1⟩, h2]
@[simp] theorem eCh_eq (p q : Int → Int → Bool) (fa fb fc : Ev D) (ρ : List Sl) : eCh p q fa fb fc ρ = (fa ρ).bind fun x => (fb ρ).bind fun y => (gCmp p x y).bind fun k => if k = true then (fc ρ).bind (gCmp q y) else .ok false := tr rfl
theorem gMin1_ok (d : D) (ds : List D) (ns : List Int) (h1 : d.items = some ds) (h2 : D.ints ds = some ns) (h3 : ns ≠ []) : gMin1 [d] = .ok (.int (minI ns)) := by simp [gMin1, h1, h2, h3]
theorem gMax1_ok (d : D) (ds : List D) (ns : List Int) (h1 : d.items = some ds) (h2 : D.ints ds = some ns) (h3 : ns ≠ []) : gMax1 [d] = .ok (.int (maxI ns)) := by simp [gMax1, h1, h2, h3]
theorem gMin1_l (ns : List Int) (h : ns ≠ []) : gMin1 [.lst (ns.map .int)] = .ok (.int (minI ns)) := gMin1_ok _ _ _ rfl (ints_map ns) h
theorem gMin1_t (ns : List Int) (h : ns ≠ []) : gMin1 [.tup (ns.map .int)] = .ok (.int (minI ns)) := gMin1_ok _ _ _ rfl (ints_map ns) h
theorem gMax1_l (ns : List Int) (h : ns ≠ []) : gMax1 [.lst (ns.map .int)] = .ok (.int (maxI ns)) := gMax1_ok _ _ _ rfl (ints_map ns) h
theorem gMax1_t (ns : List Int) (h : ns ≠ []) : gMax1 [.tup (ns.map .int)] = .ok (.int (maxI ns)) := gMax1_ok _ _ _ rfl (ints_map ns) h
theorem gSum_l (ns : List Int) : gSum [.lst (ns.map .int)] = .ok (.int ns.sum) := by simp [gSum, ints_map]
theorem gAll_l (ns : List Bool) : gAll [.lst (ns.map .bl)] = .ok (.bl (ns.all id)) := by simp [gAll, bls_map]
theorem gAny_l (ns : List Bool) : gAny [.lst (ns.map .bl)] = .ok (.bl (ns.any id)) := by simp [gAny, bls_map]
theorem gAll_f {α : Type} (p : α → Bool) (l : List α) : gAll [.lst (l.map fun x => .bl (p x))] = .ok (.bl (l.all p)) := by
  have h := gAll_l (l.map p)
  rw [List.map_map] at h
  rw [show (fun x => D.bl (p x)) = D.bl ∘ p from rfl, h, List.all_map]
  rfl
theorem gAny_f {α : Type} (p : α → Bool) (l : List α) : gAny [.lst (l.map fun x => .bl (p x))] = .ok (.bl (l.any p)) := by
  have h := gAny_l (l.map p)
  rw [List.map_map] at h
  rw [show (fun x => D.bl (p x)) = D.bl ∘ p from rfl, h, List.any_map]
  rfl
@[simp] theorem gAddA_ii (i j : Int) : gAddA (.int i) (.int j) = .ok (.int (i + j)) := tr rfl
@[simp] theorem gAddA_ss (x y : List Nat) (h : x.length + y.length ≤ 1000000) : gAddA (.str x) (.str y) = .ok (.str (x ++ y)) := if_pos h
@[simp] theorem gInt_ii (g : Int → Int → R D) (i j : Int) : gInt g (.int i) (.int j) = g i j := tr rfl
def augK (i : Nat) (g : D → D → R D) (fe : Ev D) (ρ : List Sl) (s : Option Sl) : RS := match s with
  | some (.val d) => tryE ρ (fe ρ) fun y => tryE ρ (g d y) fun z => .nx (ρ.set i (.val z))
  | _ => .stuck
@[simp] theorem augK_val (i : Nat) (g : D → D → R D) (fe : Ev D) (ρ : List Sl) (d : D) : augK i g fe ρ (some (.val d)) = tryE ρ (fe ρ) fun y => tryE ρ (g d y) fun z => .nx (ρ.set i (.val z)) := tr rfl
@[simp] theorem augV_eq (i : Nat) (g : D → D → R D) (fe : Ev D) (ρ : List Sl) : augV i g fe ρ = augK i g fe ρ ρ[i]? := tr rfl
def setK (j : Nat) (ρ : List Sl) (ds : List D) (d : D) (o : Option Nat) : RS := match o with
  | some m => .nx (ρ.set j (.own (.lst (ds.set m d))))
  | none => .stuck
def setLK (j : Nat) (fi fv : Ev D) (ρ : List Sl) (s : Option Sl) : RS := match s with
  | some (.own (.lst ds)) => tryE ρ (fv ρ) fun d => tryE ρ (fi ρ) fun k => match k with
    | .int k => (match ixN ds.length k with
      | some m => .nx (ρ.set j (.own (.lst (ds.set m d))))
      | none => .stuck)
    | _ => .stuck
  | _ => .stuck
@[simp] theorem setL_eq (j : Nat) (fi fv : Ev D) (ρ : List Sl) : setL j fi fv ρ = setLK j fi fv ρ ρ[j]? := tr rfl
def setI (j : Nat) (ρ : List Sl) (ds : List D) (d k : D) : RS := match k with
  | .int k => (match ixN ds.length k with
    | some m => .nx (ρ.set j (.own (.lst (ds.set m d))))
    | none => .stuck)
  | _ => .stuck
@[simp] theorem setLK_own (j : Nat) (fi fv : Ev D) (ρ : List Sl) (ds : List D) : setLK j fi fv ρ (some (.own (.lst ds))) = tryE ρ (fv ρ) fun d => tryE ρ (fi ρ) fun k => setI j ρ ds d k := tr rfl
@[simp] theorem setI_int (j : Nat) (ρ : List Sl) (ds : List D) (d : D) (k : Int) (h0 : 0 ≤ k) (h1 : k.toNat < ds.length) : setI j ρ ds d (.int k) = .nx (ρ.set j (.own (.lst (ds.set k.toNat d)))) := by
  have h := ixN_of ds.length k.toNat h1
  have e : ((k.toNat : Nat) : Int) = k := by omega
  rw [e] at h
  simp [setI, h]
def setDK (j : Nat) (fi fv : Ev D) (ρ : List Sl) (s : Option Sl) : RS := match s with
  | some (.own (.dic es)) => tryE ρ (fv ρ) fun d => tryE ρ (fi ρ) fun k => match k.key with
    | some kc => if es.length < LIM then .nx (ρ.set j (.own (.dic (putC es kc d)))) else .stuck
    | none => .stuck
  | _ => .stuck
@[simp] theorem setD_eq (j : Nat) (fi fv : Ev D) (ρ : List Sl) : setD j fi fv ρ = setDK j fi fv ρ ρ[j]? := tr rfl
def setDI (j : Nat) (ρ : List Sl) (es : List (Kc × D)) (d : D) (k : Option Kc) : RS := match k with
  | some kc => if es.length < LIM then .nx (ρ.set j (.own (.dic (putC es kc d)))) else .stuck
  | none => .stuck
@[simp] theorem setDK_own (j : Nat) (fi fv : Ev D) (ρ : List Sl) (es : List (Kc × D)) : setDK j fi fv ρ (some (.own (.dic es))) = tryE ρ (fv ρ) fun d => tryE ρ (fi ρ) fun k => setDI j ρ es d k.key := tr rfl
@[simp] theorem setDI_some (j : Nat) (ρ : List Sl) (es : List (Kc × D)) (d : D) (k : Kc) (h : es.length < 1000000) : setDI j ρ es d (some k) = .nx (ρ.set j (.own (.dic (putC es k d)))) := if_pos h
def augLK (j : Nat) (fi : Ev D) (g : D → D → R D) (fe : Ev D) (ρ : List Sl) (s : Option Sl) : RS := match s with
  | some (.own (.lst ds)) => tryE ρ (fi ρ) fun k => match k with
    | .int k => if 0 ≤ k ∧ k < LIM then (match ds[k.toNat]? with
      | some d => tryE ρ (fe ρ) fun y => tryE ρ (g d y) fun z => .nx (ρ.set j (.own (.lst (ds.set k.toNat z))))
      | none => .stuck) else .stuck
    | _ => .stuck
  | _ => .stuck
@[simp] theorem augL_eq (j : Nat) (fi : Ev D) (g : D → D → R D) (fe : Ev D) (ρ : List Sl) : augL j fi g fe ρ = augLK j fi g fe ρ ρ[j]? := tr rfl
def augI (j : Nat) (g : D → D → R D) (fe : Ev D) (ρ : List Sl) (ds : List D) (k : D) : RS := match k with
  | .int k => if 0 ≤ k ∧ k < LIM then (match ds[k.toNat]? with
    | some d => tryE ρ (fe ρ) fun y => tryE ρ (g d y) fun z => .nx (ρ.set j (.own (.lst (ds.set k.toNat z))))
    | none => .stuck) else .stuck
  | _ => .stuck
@[simp] theorem augLK_own (j : Nat) (fi : Ev D) (g : D → D → R D) (fe : Ev D) (ρ : List Sl) (ds : List D) : augLK j fi g fe ρ (some (.own (.lst ds))) = tryE ρ (fi ρ) fun k => augI j g fe ρ ds k := tr rfl
theorem augI_int (j : Nat) (g : D → D → R D) (fe : Ev D) (ρ : List Sl) (ds : List D) (k : Nat) (d : D) (hk : k < 1000000) (h : ds[k]? = some d) : augI j g fe ρ ds (.int k) = tryE ρ (fe ρ) fun y => tryE ρ (g d y) fun z => .nx (ρ.set j (.own (.lst (ds.set k z)))) := by
  have e : 0 ≤ (k : Int) ∧ (k : Int) < (LIM : Nat) := ⟨by omega, by show (k : Int) < 1000000; omega⟩
  simp only [augI, Int.toNat_natCast, h]
  exact if_pos e
/-! ### PL13, PL14 -/
@[simp] theorem eMaxDf_eq (fa fc : Ev D) (ρ : List Sl) : eMaxDf fa fc ρ = (fa ρ).bind fun d => (fc ρ).bind fun z => gMaxDf d z := tr rfl
theorem gMaxDf_l (ns : List Int) (c : D) : gMaxDf (.lst (ns.map .int)) c = .ok (if ns = [] then c else .int (maxI ns)) := by simp [gMaxDf, ints_map, oR, R.bind]
@[simp] theorem gListA_d (es : List (Kc × D)) : gListA [.dic es] = .ok (.lst (es.map fun q => keyD q.1)) := tr rfl
@[simp] theorem gListA_l (ds : List D) : gListA [.lst ds] = .ok (.lst ds) := tr rfl
@[simp] theorem gListA_t (ds : List D) : gListA [.tup ds] = .ok (.lst ds) := tr rfl
@[simp] theorem gRevL_l (ds : List D) : gRevL (.lst ds) = .ok (.lst ds.reverse) := tr rfl
@[simp] theorem gInsert_ok (ds : List D) (i : Int) (d : D) (h : ds.length < 1000000) (h0 : 0 ≤ i) (h1 : i < 1000000) : gInsert ds [.int i, d] = .ok (.non, ds.take i.toNat ++ [d] ++ ds.drop i.toNat) := if_pos ⟨h, h0, h1⟩
@[simp] theorem arS_nil (ρ : List Sl) : arS [] ρ = .ok [] := tr rfl
@[simp] theorem arS_fz (f : Ev D) (ars : List Ar) (ρ : List Sl) : arS (.fz f :: ars) ρ = (f ρ).bind fun d => (arS ars ρ).bind fun l => .ok (.val d :: l) := tr rfl
@[simp] theorem arS_bw (j : Nat) (ars : List Ar) (ρ : List Sl) : arS (.bw j :: ars) ρ = bwK (arS ars ρ) ρ[j]? := tr rfl
@[simp] theorem bwK_own (r : R (List Sl)) (d : D) : bwK r (some (.own d)) = r.bind fun l => .ok (.own d :: l) := tr rfl
@[simp] theorem bwSet_nil (fin ρ : List Sl) : bwSet [] fin ρ = ρ := by unfold bwSet; rfl
@[simp] theorem bwSet_bw (j : Nat) (ars : List Ar) (s : Sl) (fin ρ : List Sl) : bwSet (.bw j :: ars) (s :: fin) ρ = bwSet ars fin (ρ.set j s) := tr rfl
@[simp] theorem bwSet_fz (f : Ev D) (ars : List Ar) (s : Sl) (fin ρ : List Sl) : bwSet (.fz f :: ars) (s :: fin) ρ = bwSet ars fin ρ := tr rfl
@[simp] theorem callR_ok (k : Sl → List Sl → RS) (ars : List Ar) (ρ : List Sl) (r : Sl) (fin : List Sl) : callR k ars ρ (.ok r fin) = k r (bwSet ars fin ρ) := tr rfl
@[simp] theorem callR_exc (k : Sl → List Sl → RS) (ars : List Ar) (ρ : List Sl) (r : Exn) (fin : List Sl) : callR k ars ρ (.exc r fin) = .exc r (bwSet ars fin ρ) := tr rfl
@[simp] theorem callS_eq (ars : List Ar) (G : Fn) (k : Sl → List Sl → RS) (ρ : List Sl) : callS ars G k ρ = tryE ρ (arS ars ρ) fun l => callR k ars ρ (G l) := tr rfl
@[simp] theorem kOwn_own (i : Nat) (d : D) (ρ : List Sl) : kOwn i (.own d) ρ = .nx (ρ.set i (.own d)) := tr rfl
@[simp] theorem kVal_val (ft : D → R (List (Nat × D))) (d : D) (ρ : List Sl) : kVal ft (.val d) ρ = tryE ρ (ft d) fun as => .nx (setS ρ as) := tr rfl
@[simp] theorem eIndex_eq (fa fe : Ev D) (ρ : List Sl) : eIndex fa fe ρ = (fa ρ).bind fun d => (oR d.nms).bind fun ss => (fe ρ).bind (gIndex ss) := tr rfl
@[simp] theorem gIndex_str (ss : List (List Nat)) (x : List Nat) : gIndex ss (.str x) = (oR (posS ss x)).bind fun j => .ok (.int (j : Nat)) := tr rfl
theorem nms_map : ∀ (l : List (List Nat)), l ≠ [] → D.nms (.tup (l.map .str)) = some l
  | [], h => absurd rfl h
  | x :: l, _ => by
    have h : ∀ l : List (List Nat), D.strs (l.map .str) = some l := fun l => by
      induction l with
      | nil => rfl
      | cons a l ih => simp [D.strs, ih]
    exact h (x :: l)
@[simp] theorem eDic0_eq (ρ : List Sl) : eDic0 ρ = .ok (.dic []) := tr rfl
end PL

set_option Elab.async false
set_option linter.all false
set_option maxRecDepth 100000
namespace PL
set_option autoImplicit false
open L2
def b_strength : Es := (seqS (ifS (e2 gEq (eVar 0) (eC (.str [115, 97, 109, 101]))) (retS (eC (.int (1)))) skipS)
  (seqS (ifS (e2 gEq (eVar 0) (eC (.str [116, 104, 101, 110]))) (retS (eC (.int (2)))) skipS)
  (seqS (ifS (e2 gEq (eVar 0) (eC (.str [111, 114]))) (retS (eC (.int (3)))) skipS)
  (seqS (ifS (e2 gEq (eVar 0) (eC (.str [97, 110, 100]))) (retS (eC (.int (4)))) skipS)
  (retS (eC (.int (5))))))))
def b_within : Es := (seqS (ifS (e1 tBool (eFrz 1)) (retS (e2 gAdd (e2 gAdd (eC (.str [40])) (eVar 0)) (eC (.str [41])))) skipS)
  (retS (eFrz 0)))
def b_sign_of (f_strength : Fn) : Es := (retS (e2 gIx (eC (.str [61, 62, 124, 38])) (e2 gSub (eFn f_strength (aCons (eFrz 0) aNil)) (eC (.int (1))))))
def b_shown (f_strength f_shown f_within f_sign_of : Fn) : Es := (seqS (asgS (ftOne 1) (e2 gIx (eVar 0) (eC (.int (0)))))
  (seqS (ifS (e2 gEq (eVar 1) (eC (.str [110, 97, 109, 101]))) (retS (e2 gIx (eVar 0) (eC (.int (1))))) skipS)
  (seqS (ifS (tOo (e2 gEq (eVar 1) (eC (.str [121, 101, 115]))) (e2 gEq (eVar 1) (eC (.str [110, 111])))) (retS (eIf (e2 gEq (eVar 1) (eC (.str [121, 101, 115]))) (eC (.str [49])) (eC (.str [48])))) skipS)
  (seqS (asgS (ftOne 2) (eFn f_strength (aCons (eFrz 1) aNil)))
  (seqS (ifS (e2 gEq (eVar 1) (eC (.str [110, 111, 116]))) (retS (e2 gAdd (eC (.str [126])) (eFn f_within (aCons (eFn f_shown (aCons (e2 gIx (eVar 0) (eC (.int (1)))) aNil)) (aCons (eBl (e2 (gCmp pLt) (eFn f_strength (aCons (e2 gIx (e2 gIx (eVar 0) (eC (.int (1)))) (eC (.int (0)))) aNil)) (eVar 2))) aNil))))) skipS)
  (seqS (asgS (ftOne 3) (eFn f_strength (aCons (e2 gIx (e2 gIx (eVar 0) (eC (.int (1)))) (eC (.int (0)))) aNil)))
  (seqS (asgS (ftOne 4) (eFn f_strength (aCons (e2 gIx (e2 gIx (eVar 0) (eC (.int (2)))) (eC (.int (0)))) aNil)))
  (seqS (asgS (ftOne 5) (eFn f_within (aCons (eFn f_shown (aCons (e2 gIx (eVar 0) (eC (.int (1)))) aNil)) (aCons (eOo (eBl (e2 (gCmp pLt) (eVar 3) (eVar 2))) (eAn (eBl (e2 gEq (eVar 3) (eVar 2))) (eBl (e2 gEq (eVar 1) (eC (.str [116, 104, 101, 110])))))) aNil))))
  (seqS (asgS (ftOne 6) (eFn f_within (aCons (eFn f_shown (aCons (e2 gIx (eVar 0) (eC (.int (2)))) aNil)) (aCons (eOo (eBl (e2 (gCmp pLt) (eVar 4) (eVar 2))) (eAn (eBl (e2 gEq (eVar 4) (eVar 2))) (eBl (e2 gNe (eVar 1) (eC (.str [116, 104, 101, 110])))))) aNil))))
  (retS (e2 gAdd (e2 gAdd (e2 gAdd (e2 gAdd (eVar 5) (eC (.str [32]))) (eFn f_sign_of (aCons (eFrz 1) aNil))) (eC (.str [32]))) (eVar 6))))))))))))
def b_cell_at_86d1 : Es := (seqS (ifS (e2 (gCmp pLt) (eVar 1) (eCall gLen (aCons (eVar 0) aNil))) (retS (e2 gIx (eVar 0) (eVar 1))) skipS)
  (retS (eC (.int (0)))))
def b_names_by_5a28 : Es := (seqS (asgS (ftOne 2) (eC (.str [97, 98, 99, 100, 101, 102, 103, 104, 105, 106, 107, 108, 109, 110, 111, 112, 113, 114, 115, 116, 117, 118, 119, 120, 121, 122])))
  (seqS (asgS (ftOne 3) (e2 gDiv (eVar 0) (eC (.int (3)))))
  (seqS (asgS (ftOne 4) (eM1 gJoin (eC (.str [])) (eLc [8] (iRg gRng1 (aCons (eC (.int (8))) aNil)) (ftOne 8) fcYes (e2 gIx (eVar 2) (e2 gMod (e2 gAdd (e2 gAdd (e2 gDiv (eVar 3) (eC (.int (3)))) (e2 gMul (e2 gMul (eC (.int (7))) (eVar 8)) (eVar 8))) (eVar 8)) (eC (.int (26))))))))
  (seqS (asgS (ftOne 5) (eLc [8] (iRg gRng1 (aCons (eVar 1) aNil)) (ftOne 8) fcYes (e2 gIx (eVar 2) (e2 gMod (e2 gAdd (e2 gDiv (eVar 3) (eC (.int (5)))) (e2 gMul (eC (.int (5))) (eVar 8))) (eC (.int (26)))))))
  (seqS (ifS (e2 gEq (e2 gMod (eVar 0) (eC (.int (3)))) (eC (.int (0)))) (seqS (asgS (ftOne 6) (e2 gAdd (eC (.int (1))) (e2 gMod (eVar 3) (eC (.int (8))))))
  (seqS (asgS (ftOne 7) (e2 gMod (e2 gDiv (eVar 3) (eC (.int (8)))) (eVar 6)))
  (retS (eCall gTupleOf (aCons (eLc [9] (iSeq (eVar 5)) (ftOne 9) fcYes (e2 gAdd (e2 gAdd (eSl (eVar 4) oNone (oSome (eVar 7))) (eVar 9)) (eSl (eVar 4) (oSome (e2 gAdd (eVar 7) (eC (.int (1))))) (oSome (eVar 6))))) aNil))))) skipS)
  (seqS (ifS (e2 gEq (e2 gMod (eVar 0) (eC (.int (3)))) (eC (.int (1)))) (retS (eCall gTupleOf (aCons (eLc [8] (iRg gRng1 (aCons (eVar 1) aNil)) (ftOne 8) fcYes (eSl (eVar 4) oNone (oSome (e2 gAdd (eC (.int (1))) (e2 gMod (e2 gAdd (e2 gMul (eC (.int (3))) (eVar 8)) (eVar 3)) (eC (.int (8)))))))) aNil))) skipS)
  (retS (eCall gTupleOf (aCons (eLc [8] (iRg gRng1 (aCons (eVar 1) aNil)) (ftOne 8) fcYes (e2 gAdd (e2 gIx (eVar 5) (eVar 8)) (eSl (eVar 4) oNone (oSome (e2 gMod (e2 gAdd (e2 gMul (eC (.int (3))) (eVar 8)) (eVar 3)) (eC (.int (8)))))))) aNil)))))))))
def b_leaf_b7bf : Es := (seqS (asgS (ftOne 2) (e2 gMod (eVar 1) (e2 gAdd (e2 gMul (eC (.int (4))) (eCall gLen (aCons (eVar 0) aNil))) (eC (.int (2))))))
  (seqS (ifS (e2 (gCmp pLt) (eVar 2) (e2 gMul (eC (.int (4))) (eCall gLen (aCons (eVar 0) aNil)))) (retS (eTup (aCons (eC (.str [110, 97, 109, 101])) (aCons (e2 gIx (eVar 0) (e2 gMod (eVar 2) (eCall gLen (aCons (eVar 0) aNil)))) aNil)))) skipS)
  (retS (e2 gIx (eLst (aCons (eTup (aCons (eC (.str [121, 101, 115])) aNil)) (aCons (eTup (aCons (eC (.str [110, 111])) aNil)) aNil))) (e2 gSub (eVar 2) (e2 gMul (eC (.int (4))) (eCall gLen (aCons (eVar 0) aNil))))))))
def b_grown_b77c_l1 (f__law_leaf : Fn) : Es := (seqS (asgS (ftOne 5) (e2 gMod (eVar 4) (eC (.int (8)))))
  (seqS (asgS (ftOne 6) (e2 gDiv (eVar 4) (eC (.int (8)))))
  (seqS (ifS (tOo (e2 (gCmp pLt) (eVar 5) (eC (.int (3)))) (tOo (e2 gEq (eCall gLen (aCons (eVar 3) aNil)) (eC (.int (0)))) (tAn (e2 (gCmp pGt) (eVar 5) (eC (.int (3)))) (e2 gEq (eCall gLen (aCons (eVar 3) aNil)) (eC (.int (1))))))) (seqS (mutS 3 gAppend (aCons (eTup (aCons (eFn f__law_leaf (aCons (eFrz 0) (aCons (eFrz 6) aNil))) (aCons (eC (.int (1))) aNil))) aNil) kNx)
  ctS) skipS)
  (seqS (mutS 3 gPop aNil (kAsg (ftTup [7, 8])))
  (seqS (ifS (e2 gEq (eVar 5) (eC (.int (3)))) (asgS (ftTup [7, 8]) (e2 gIx (eLst (aCons (eTup (aCons (eTup (aCons (eC (.str [110, 111, 116])) (aCons (eFrz 7) aNil))) (aCons (e2 gAdd (eVar 8) (eC (.int (1)))) aNil))) (aCons (eTup (aCons (eFrz 7) (aCons (eFrz 8) aNil))) aNil))) (eCall gIntOf (aCons (eBl (e2 (gCmp pGe) (eVar 8) (eVar 2))) aNil)))) (ifS (e2 (gCmp pLt) (eCall gMax2 (aCons (eVar 8) (aCons (e2 gIx (e2 gIx (eVar 3) (e1 gNeg (eC (.int (1))))) (eC (.int (1)))) aNil))) (eVar 2)) (seqS (mutS 3 gPop aNil (kAsg (ftTup [9, 10])))
  (seqS (asgS (ftOne 11) (e2 gIx (eLst (aCons (eTup (aCons (eFrz 9) (aCons (eFrz 7) aNil))) (aCons (eTup (aCons (eFrz 7) (aCons (eFrz 9) aNil))) aNil))) (e2 gMod (eVar 6) (eC (.int (2))))))
  (parS 7 8 (aCons (e2 gAdd (eTup (aCons (e2 gIx (eLst (aCons (eC (.str [97, 110, 100])) (aCons (eC (.str [111, 114])) (aCons (eC (.str [116, 104, 101, 110])) (aCons (eC (.str [115, 97, 109, 101])) aNil))))) (e2 gSub (eVar 5) (eC (.int (4))))) aNil)) (eVar 11)) (aCons (e2 gAdd (eC (.int (1))) (eCall gMax2 (aCons (eVar 8) (aCons (eVar 10) aNil)))) aNil))))) skipS))
  (mutS 3 gAppend (aCons (eTup (aCons (eFrz 7) (aCons (eFrz 8) aNil))) aNil) kNx))))))
def b_grown_b77c_l2 (f__law_leaf : Fn) : Es := (seqS (pop2S 11 12)
  (mutS 12 gAppend (aCons (e2 gAdd (eTup (aCons (e2 gIx (eLst (aCons (eC (.str [97, 110, 100])) (aCons (eC (.str [111, 114])) (aCons (eC (.str [116, 104, 101, 110])) (aCons (eC (.str [115, 97, 109, 101])) aNil))))) (e2 gMod (eCall gLen (aCons (eVar 12) aNil)) (eC (.int (4))))) aNil)) (eVar 11)) aNil) kNx))
def b_grown_b77c (f__law_leaf : Fn) : Es := (seqS (asgN 3 (eLst aNil))
  (seqS (forS (iSeq (eFrz 1)) (ftOne 4) (b_grown_b77c_l1 f__law_leaf))
  (seqS (asgN 12 (e2 gCat (eLc [7, 8] (iSeq (eVar 3)) (ftTup [7, 8]) fcYes (eFrz 7)) (eSl (eLst (aCons (eFn f__law_leaf (aCons (eFrz 0) (aCons (eCall gLen (aCons (eVar 1) aNil)) aNil))) aNil)) oNone (oSome (eCall gIntOf (aCons (eBl (e2 gEq (eCall gLen (aCons (eVar 3) aNil)) (eC (.int (0))))) aNil))))))
  (seqS (whileS (e2 (gCmp pGt) (eCall gLen (aCons (eVar 12) aNil)) (eC (.int (1)))) (b_grown_b77c_l2 f__law_leaf) 1000000)
  (retS (e2 gIx (eVar 12) (eC (.int (0)))))))))
def b_strength_b9d7 : Es := (retS (eDget2 (eDisp [((eC (.str [115, 97, 109, 101])), (eC (.int (1)))), ((eC (.str [116, 104, 101, 110])), (eC (.int (2)))), ((eC (.str [111, 114])), (eC (.int (3)))), ((eC (.str [97, 110, 100])), (eC (.int (4)))), ((eC (.str [110, 111, 116])), (eC (.int (5))))]) (e2 gIx (eVar 0) (eC (.int (0)))) (eC (.int (6)))))
def b_text_1028 (f__law_strength f__law_text : Fn) : Es := (seqS (asgS (ftOne 2) (eFn f__law_strength (aCons (eFrz 0) aNil)))
  (seqS (ifS (e2 gEq (eVar 2) (eC (.int (6)))) (asgS (ftOne 3) (eDget2 (eDisp [((eC (.str [121, 101, 115])), (eC (.str [49]))), ((eC (.str [110, 111])), (eC (.str [48])))]) (e2 gIx (eVar 0) (eC (.int (0)))) (e2 gIx (eVar 0) (e1 gNeg (eC (.int (1))))))) (ifS (e2 gEq (eVar 2) (eC (.int (5)))) (asgS (ftOne 3) (e2 gAdd (eC (.str [126])) (eFn f__law_text (aCons (e2 gIx (eVar 0) (eC (.int (1)))) (aCons (eC (.int (5))) aNil))))) (seqS (asgS (ftOne 4) (e2 gAdd (eVar 2) (eCall gIntOf (aCons (eBl (e2 gEq (eVar 2) (eC (.int (2))))) aNil))))
  (seqS (asgS (ftOne 5) (e2 gAdd (eVar 2) (eCall gIntOf (aCons (eBl (e2 gNe (eVar 2) (eC (.int (2))))) aNil))))
  (seqS (asgS (ftOne 6) (e2 gAdd (e2 gAdd (eC (.str [32])) (e2 gIx (eC (.str [61, 62, 124, 38])) (e2 gSub (eVar 2) (eC (.int (1)))))) (eC (.str [32]))))
  (asgS (ftOne 3) (e2 gAdd (e2 gAdd (eFn f__law_text (aCons (e2 gIx (eVar 0) (eC (.int (1)))) (aCons (eFrz 4) aNil))) (eVar 6)) (eFn f__law_text (aCons (e2 gIx (eVar 0) (eC (.int (2)))) (aCons (eFrz 5) aNil))))))))))
  (seqS (ifS (e2 (gCmp pLt) (eVar 2) (eVar 1)) (retS (e2 gAdd (e2 gAdd (eC (.str [40])) (eVar 3)) (eC (.str [41])))) skipS)
  (retS (eFrz 3)))))
end PL

set_option Elab.async false
set_option linter.all false
set_option maxRecDepth 100000
namespace PL
set_option autoImplicit false
open L2
def b_lowered : Es := (seqS (asgS (ftOne 2) (eCall gMin1 (aCons (eVar 1) aNil)))
  (retS (eTup (aCons (eCall gTupleOf (aCons (eVar 0) aNil)) (aCons (eCall gTupleOf (aCons (eLc [3] (iSeq (eVar 1)) (ftOne 3) fcYes (e2 gSub (eVar 3) (eVar 2))) aNil)) aNil)))))
def b_shared_names_l1 : Es := (ifS (e2 gNe (e2 gIx (eVar 2) (eC (.int (0)))) (eVar 1)) deadS skipS)
def b_shared_names : Es := (seqS (ifS (e2 gEq (eCall gLen (aCons (eVar 0) aNil)) (eC (.int (0)))) deadS skipS)
  (seqS (asgS (ftOne 1) (e2 gIx (e2 gIx (eVar 0) (eC (.int (0)))) (eC (.int (0)))))
  (seqS (forS (iSeq (eFrz 0)) (ftOne 2) b_shared_names_l1)
  (retS (eFrz 1)))))
def b_poured_l1 (f_shared_names f_lowered : Fn) : Es := (augL 2 (eVar 5) (gInt fun i j => .ok (.int (i + j))) (e2 gMul (eVar 4) (eVar 6)))
def b_poured_l2 (f_shared_names f_lowered : Fn) : Es := (forS (iEn (e2 gIx (eVar 3) (eC (.int (1))))) (ftTup [5, 6]) (b_poured_l1 f_shared_names f_lowered))
def b_poured (f_shared_names f_lowered : Fn) : Es := (seqS (asgS (ftOne 1) (eFn f_shared_names (aCons (eLc [7] (iSeq (eVar 0)) (ftOne 7) fcYes (e2 gIx (eVar 7) (eC (.int (0))))) aNil)))
  (seqS (asgN 2 (e2 gRep (eLst (aCons (eC (.int (0))) aNil)) (e2 gShl (eC (.int (1))) (eCall gLen (aCons (eVar 1) aNil)))))
  (seqS (forS (iSeq (eFrz 0)) (ftTup [3, 4]) (b_poured_l2 f_shared_names f_lowered))
  (frzS 2 (retS (eFn f_lowered (aCons (eFrz 1) (aCons (eFrz 2) aNil))))))))
def b_whole_f85d : Es := (retS (eAn (eBl (e1 (gIsi "int") (eVar 0))) (eNt (eBl (e1 (gIsi "bool") (eVar 0))))))
def b_names_by_963f : Es := (seqS (asgS (ftOne 2) (eC (.str [97, 98, 99, 100, 101, 102, 103, 104, 105, 106, 107, 108, 109, 110, 111, 112, 113, 114, 115, 116, 117, 118, 119, 120, 121, 122])))
  (seqS (asgS (ftOne 3) (e2 gMod (eVar 0) (eC (.int (2147483629)))))
  (seqS (asgS (ftOne 4) (e2 gIx (eVar 2) (e2 gMod (e2 gDiv (eVar 3) (eC (.int (4)))) (eC (.int (26))))))
  (seqS (asgS (ftOne 5) (e2 gMod (e2 gDiv (eVar 3) (eC (.int (104)))) (eC (.int (26)))))
  (seqS (ifS (e2 gEq (e2 gMod (eVar 3) (eC (.int (4)))) (eC (.int (0)))) (retS (eCall gTupleOf (aCons (eLc [9] (iRg gRng1 (aCons (eVar 1) aNil)) (ftOne 9) fcYes (e2 gMul (eVar 4) (e2 gAdd (eC (.int (1))) (e2 gMod (e2 gAdd (eVar 5) (e2 gMul (eC (.int (3))) (eVar 9))) (eC (.int (8))))))) aNil))) skipS)
  (seqS (asgS (ftOne 6) (e2 gAdd (eC (.int (1))) (e2 gMod (e2 gDiv (eVar 3) (eC (.int (2704)))) (eC (.int (8))))))
  (seqS (asgS (ftOne 7) (e2 gMod (e2 gDiv (eVar 3) (eC (.int (21632)))) (eVar 6)))
  (seqS (asgN 8 (eLc [9] (iRg gRng1 (aCons (eVar 1) aNil)) (ftOne 9) fcYes (e2 gIx (eVar 2) (e2 gMod (e2 gAdd (eVar 5) (e2 gMul (eC (.int (5))) (eVar 9))) (eC (.int (26)))))))
  (retS (eCall gTupleOf (aCons (eLc [10] (iSeq (eVar 8)) (ftOne 10) fcYes (e2 gAdd (e2 gAdd (e2 gMul (eVar 4) (eVar 7)) (eVar 10)) (e2 gMul (eVar 4) (e2 gSub (e2 gSub (eVar 6) (eC (.int (1)))) (eVar 7))))) aNil)))))))))))
def b_many_3526 : Es := (retS (e2 gIx (eTup (aCons (eC (.int (1))) (aCons (eC (.int (2))) (aCons (eC (.int (3))) (aCons (eC (.int (4))) (aCons (eC (.int (5))) (aCons (eC (.int (6))) (aCons (eC (.int (7))) (aCons (eC (.int (8))) (aCons (eC (.int (2))) (aCons (eC (.int (3))) (aCons (eC (.int (3))) (aCons (eC (.int (4))) aNil))))))))))))) (e2 gMod (eVar 0) (eC (.int (12))))))
def b_mind_by_c7c7_l1 (f__law_cell_at : Fn) : Es := (seqS (asgS (ftOne 5) (e2 gDiv (eVar 4) (eC (.int (8)))))
  (seqS (asgS (ftOne 6) (e2 gMod (eFn f__law_cell_at (aCons (eFrz 1) (aCons (e2 gMod (eVar 4) (eC (.int (8)))) aNil))) (e2 gPow (eC (.int (10))) (eC (.int (30))))))
  (seqS (asgS (ftOne 7) (e2 gMod (e2 gMul (e2 gAdd (eVar 6) (eVar 5)) (e2 gAdd (e2 gMul (e2 gMul (eVar 5) (eVar 5)) (eC (.int (48271)))) (eC (.int (1))))) (e2 gPow (eC (.int (10))) (eC (.int (30))))))
  (seqS (ifS (e2 gEq (e2 gMod (eVar 2) (eC (.int (4)))) (eC (.int (1)))) (asgS (ftOne 7) (e2 gMod (eVar 7) (eC (.int (4))))) skipS)
  (seqS (ifS (e2 gEq (e2 gMod (eVar 2) (eC (.int (4)))) (eC (.int (2)))) (asgS (ftOne 7) (e2 gMul (e2 gMod (eVar 7) (eC (.int (3)))) (eVar 7))) skipS)
  (seqS (ifS (e2 gEq (e2 gMod (eVar 2) (eC (.int (4)))) (eC (.int (3)))) (asgS (ftOne 7) (e2 gMod (eVar 7) (eC (.int (2))))) skipS)
  (mutS 3 gAppend (aCons (eFrz 7) aNil) kNx)))))))
def b_mind_by_c7c7 (f__law_cell_at : Fn) : Es := (seqS (asgN 3 (eLst aNil))
  (seqS (forS (iRg gRng1 (aCons (e2 gShl (eC (.int (1))) (eCall gLen (aCons (eVar 0) aNil))) aNil)) (ftOne 4) (b_mind_by_c7c7_l1 f__law_cell_at))
  (seqS (asgS (ftOne 8) (eCall gMin1 (aCons (eVar 3) aNil)))
  (retS (eTup (aCons (eFrz 0) (aCons (eCall gTupleOf (aCons (eLc [7] (iSeq (eVar 3)) (ftOne 7) fcYes (e2 gSub (eVar 7) (eVar 8))) aNil)) aNil)))))))
def b_pairs_by_b403_l1 (f__law_cell_at f__law_mind_by : Fn) : Es := (seqS (asgN 6 (eLc [8] (iRg gRng1 (aCons (eC (.int (8))) aNil)) (ftOne 8) fcYes (e2 gAdd (e2 gMul (e2 gMul (eFn f__law_cell_at (aCons (eFrz 1) (aCons (e2 gAdd (eVar 2) (eVar 5)) aNil))) (e2 gAdd (eVar 5) (eC (.int (1))))) (eC (.int (69621)))) (e2 gMul (e2 gMul (eVar 8) (eVar 8)) (eC (.int (48271)))))))
  (seqS (asgS (ftOne 7) (e2 gAdd (eC (.int (1))) (e2 gMod (e2 gMod (e2 gMul (eFn f__law_cell_at (aCons (eFrz 1) (aCons (e2 gAdd (eVar 2) (eVar 5)) aNil))) (eC (.int (16807)))) (eC (.int (2147483647)))) (eC (.int (7))))))
  (seqS (ifS (e2 gEq (e2 gMod (eFn f__law_cell_at (aCons (eFrz 1) (aCons (e2 gAdd (eVar 2) (eVar 5)) aNil))) (eC (.int (3)))) (eC (.int (1)))) (asgS (ftOne 7) (e2 gAdd (eC (.int (1))) (e2 gMod (e2 gMul (eFn f__law_cell_at (aCons (eFrz 1) (aCons (e2 gAdd (eVar 2) (eVar 5)) aNil))) (eC (.int (40692)))) (e2 gPow (eC (.int (10))) (eC (.int (30))))))) skipS)
  (frzS 6 (mutS 4 gAppend (aCons (eTup (aCons (eFn f__law_mind_by (aCons (eFrz 0) (aCons (eFrz 6) (aCons (e2 gAdd (eFn f__law_cell_at (aCons (eFrz 1) (aCons (e2 gAdd (eVar 2) (eVar 5)) aNil))) (eVar 5)) aNil)))) (aCons (eFrz 7) aNil))) aNil) kNx)))))
def b_pairs_by_b403 (f__law_cell_at f__law_mind_by : Fn) : Es := (seqS (asgN 4 (eLst aNil))
  (seqS (forS (iRg gRng1 (aCons (eVar 3) aNil)) (ftOne 5) (b_pairs_by_b403_l1 f__law_cell_at f__law_mind_by))
  (frzS 4 (retS (eFrz 4)))))
def b_is_mind_5c83 (f__law_whole : Fn) : Es := (seqS (ifS (tOo (tNt (e1 tBool (eBl (e1 (gIsi "tuple") (eVar 0))))) (tOo (e2 gNe (eCall gLen (aCons (eVar 0) aNil)) (eC (.int (2)))) (tOo (e2 gNe (e2 gIx (eVar 0) (eC (.int (0)))) (eVar 1)) (tNt (e1 tBool (eBl (e1 (gIsi "tuple") (e2 gIx (eVar 0) (eC (.int (0))))))))))) (retS (eC (.bl false))) skipS)
  (seqS (ifS (tOo (tNt (e1 tBool (eBl (e1 (gIsi "tuple") (e2 gIx (eVar 0) (eC (.int (1)))))))) (e2 gNe (e2 gIx (eVar 0) (eC (.int (1)))) (eCall gTupleOf (aCons (eVar 2) aNil)))) (retS (eC (.bl false))) skipS)
  (retS (eCall gAll (aCons (eLc [3] (iSeq (e2 gIx (eVar 0) (eC (.int (1))))) (ftOne 3) fcYes (eFn f__law_whole (aCons (eFrz 3) aNil))) aNil)))))
def b_sums_58e6_l1 : Es := (asgS (ftOne 2) (eLc [6] (iRg gRng1 (aCons (eCall gLen (aCons (eVar 2) aNil)) aNil)) (ftOne 6) fcYes (e2 gAdd (e2 gIx (eVar 2) (eVar 6)) (e2 gMul (eVar 4) (e2 gIx (e2 gIx (eVar 3) (eC (.int (1)))) (eVar 6))))))
def b_sums_58e6 : Es := (seqS (asgS (ftOne 2) (eLc [6] (iRg gRng1 (aCons (e2 gShl (eC (.int (1))) (eCall gLen (aCons (eVar 0) aNil))) aNil)) (ftOne 6) fcYes (eC (.int (0)))))
  (seqS (forS (iSeq (eFrz 1)) (ftTup [3, 4]) b_sums_58e6_l1)
  (seqS (asgS (ftOne 5) (eCall gMin1 (aCons (eVar 2) aNil)))
  (retS (eLc [7] (iSeq (eVar 2)) (ftOne 7) fcYes (e2 gSub (eVar 7) (eVar 5)))))))
def b_pair_by_1bb5 (f__law_mind_by : Fn) : Es := (seqS (asgN 3 (eLc [5] (iRg gRng1 (aCons (eC (.int (8))) aNil)) (ftOne 5) fcYes (e2 gAdd (e2 gMul (e2 gMul (eVar 1) (e2 gAdd (eVar 5) (eC (.int (1))))) (eC (.int (69621)))) (e2 gMul (e2 gMul (e2 gMul (e2 gAdd (eVar 2) (eC (.int (3)))) (eVar 5)) (eVar 5)) (eC (.int (48271)))))))
  (seqS (asgS (ftOne 4) (e2 gAdd (eC (.int (1))) (e2 gMod (e2 gMod (e2 gMul (eVar 1) (eC (.int (16807)))) (eC (.int (2147483647)))) (eC (.int (7))))))
  (seqS (ifS (e2 gEq (e2 gMod (e2 gAdd (eVar 1) (eVar 2)) (eC (.int (3)))) (eC (.int (1)))) (asgS (ftOne 4) (e2 gAdd (eC (.int (1))) (e2 gMod (e2 gMul (eVar 1) (eC (.int (40692)))) (e2 gPow (eC (.int (10))) (eC (.int (9))))))) skipS)
  (frzS 3 (retS (eTup (aCons (eFn f__law_mind_by (aCons (eFrz 0) (aCons (eFrz 3) (aCons (e2 gAdd (e2 gDiv (eVar 1) (eC (.int (5)))) (eVar 2)) aNil)))) (aCons (eFrz 4) aNil))))))))
end PL

set_option Elab.async false
set_option linter.all false
set_option maxRecDepth 100000
set_option maxHeartbeats 1000000
/-! PLm: plain lemmas: slices, comprehensions, joins -/
namespace PL
set_option autoImplicit false
open PySem L2
theorem sIx_pos (n d : Nat) (v : Int) (h : 0 ≤ v) : HT.sIx n d (some v) = min v.toNat n := if_neg (by omega)
theorem cut_to {α : Type} (s : List α) (i : Int) (h : 0 ≤ i) : cutL s none (some i) = s.take i.toNat := by
  unfold cutL
  rw [sIx_pos _ _ _ h]
  show (s.drop 0).take (min i.toNat s.length - 0) = _
  rw [List.drop_zero, Nat.sub_zero, ← List.take_take, List.take_length]
theorem cut_from {α : Type} (s : List α) (i : Int) (h : 0 ≤ i) : cutL s (some i) none = s.drop i.toNat := by
  unfold cutL
  rw [sIx_pos _ _ _ h]
  show (s.drop (min i.toNat s.length)).take (s.length - min i.toNat s.length) = _
  rw [List.take_of_length_le (by simp)]
  by_cases hl : i.toNat ≤ s.length
  · rw [Nat.min_eq_left hl]
  · rw [Nat.min_eq_right (by omega), List.drop_length, List.drop_of_length_le (by omega)]
theorem cut_both {α : Type} (s : List α) (i j : Int) (h : 0 ≤ i) (h2 : 0 ≤ j) : cutL s (some i) (some j) = (s.take j.toNat).drop i.toNat := by
  unfold cutL
  rw [sIx_pos _ _ _ h, sIx_pos _ _ _ h2, List.drop_take]
  by_cases hl : i.toNat ≤ s.length
  · rw [Nat.min_eq_left hl]
    by_cases hj : j.toNat ≤ s.length
    · rw [Nat.min_eq_left hj]
    · rw [Nat.min_eq_right (a := j.toNat) (b := s.length) (by omega), List.take_of_length_le (by simp), List.take_of_length_le (by simp; omega)]
  · have e : List.drop (min i.toNat s.length) s = [] := List.drop_of_length_le (by omega)
    have e2 : List.drop i.toNat s = [] := List.drop_of_length_le (by omega)
    rw [e, e2, List.take_nil, List.take_nil]
@[simp] theorem gIsi_str_non : gIsi "str" .non = .ok false := tr rfl
@[simp] theorem gIsi_str_bl (b : Bool) : gIsi "str" (.bl b) = .ok false := tr rfl
@[simp] theorem gIsi_str_int (i : Int) : gIsi "str" (.int i) = .ok false := tr rfl
@[simp] theorem gIsi_str_str (s : List Nat) : gIsi "str" (.str s) = .ok true := tr rfl
@[simp] theorem gIsi_str_tup (ds : List D) : gIsi "str" (.tup ds) = .ok false := tr rfl
@[simp] theorem gIsi_str_lst (ds : List D) : gIsi "str" (.lst ds) = .ok false := tr rfl
@[simp] theorem gIsi_str_dic (es : List (Kc × D)) : gIsi "str" (.dic es) = .ok false := tr rfl
@[simp] theorem gIsi_int_non : gIsi "int" .non = .ok false := tr rfl
@[simp] theorem gIsi_int_bl (b : Bool) : gIsi "int" (.bl b) = .ok true := tr rfl
@[simp] theorem gIsi_int_int (i : Int) : gIsi "int" (.int i) = .ok true := tr rfl
@[simp] theorem gIsi_int_str (s : List Nat) : gIsi "int" (.str s) = .ok false := tr rfl
@[simp] theorem gIsi_int_tup (ds : List D) : gIsi "int" (.tup ds) = .ok false := tr rfl
@[simp] theorem gIsi_int_lst (ds : List D) : gIsi "int" (.lst ds) = .ok false := tr rfl
@[simp] theorem gIsi_int_dic (es : List (Kc × D)) : gIsi "int" (.dic es) = .ok false := tr rfl
@[simp] theorem gIsi_tuple_non : gIsi "tuple" .non = .ok false := tr rfl
@[simp] theorem gIsi_tuple_bl (b : Bool) : gIsi "tuple" (.bl b) = .ok false := tr rfl
@[simp] theorem gIsi_tuple_int (i : Int) : gIsi "tuple" (.int i) = .ok false := tr rfl
@[simp] theorem gIsi_tuple_str (s : List Nat) : gIsi "tuple" (.str s) = .ok false := tr rfl
@[simp] theorem gIsi_tuple_tup (ds : List D) : gIsi "tuple" (.tup ds) = .ok true := tr rfl
@[simp] theorem gIsi_tuple_lst (ds : List D) : gIsi "tuple" (.lst ds) = .ok false := tr rfl
@[simp] theorem gIsi_tuple_dic (es : List (Kc × D)) : gIsi "tuple" (.dic es) = .ok false := tr rfl
@[simp] theorem gIsi_list_non : gIsi "list" .non = .ok false := tr rfl
@[simp] theorem gIsi_list_bl (b : Bool) : gIsi "list" (.bl b) = .ok false := tr rfl
@[simp] theorem gIsi_list_int (i : Int) : gIsi "list" (.int i) = .ok false := tr rfl
@[simp] theorem gIsi_list_str (s : List Nat) : gIsi "list" (.str s) = .ok false := tr rfl
@[simp] theorem gIsi_list_tup (ds : List D) : gIsi "list" (.tup ds) = .ok false := tr rfl
@[simp] theorem gIsi_list_lst (ds : List D) : gIsi "list" (.lst ds) = .ok true := tr rfl
@[simp] theorem gIsi_list_dic (es : List (Kc × D)) : gIsi "list" (.dic es) = .ok false := tr rfl
@[simp] theorem gIsi_bool_non : gIsi "bool" .non = .ok false := tr rfl
@[simp] theorem gIsi_bool_bl (b : Bool) : gIsi "bool" (.bl b) = .ok true := tr rfl
@[simp] theorem gIsi_bool_int (i : Int) : gIsi "bool" (.int i) = .ok false := tr rfl
@[simp] theorem gIsi_bool_str (s : List Nat) : gIsi "bool" (.str s) = .ok false := tr rfl
@[simp] theorem gIsi_bool_tup (ds : List D) : gIsi "bool" (.tup ds) = .ok false := tr rfl
@[simp] theorem gIsi_bool_lst (ds : List D) : gIsi "bool" (.lst ds) = .ok false := tr rfl
@[simp] theorem gIsi_bool_dic (es : List (Kc × D)) : gIsi "bool" (.dic es) = .ok false := tr rfl
@[simp] theorem gIsi_dict_non : gIsi "dict" .non = .ok false := tr rfl
@[simp] theorem gIsi_dict_bl (b : Bool) : gIsi "dict" (.bl b) = .ok false := tr rfl
@[simp] theorem gIsi_dict_int (i : Int) : gIsi "dict" (.int i) = .ok false := tr rfl
@[simp] theorem gIsi_dict_str (s : List Nat) : gIsi "dict" (.str s) = .ok false := tr rfl
@[simp] theorem gIsi_dict_tup (ds : List D) : gIsi "dict" (.tup ds) = .ok false := tr rfl
@[simp] theorem gIsi_dict_lst (ds : List D) : gIsi "dict" (.lst ds) = .ok false := tr rfl
@[simp] theorem gIsi_dict_dic (es : List (Kc × D)) : gIsi "dict" (.dic es) = .ok true := tr rfl
@[simp] theorem gSl_t1 (a : D) (r : List D) : gSl (some 1) none (.tup (a :: r)) = .ok (.tup r) := by
  rw [gSl_tup, cut_from _ _ (by decide)]
  rfl
@[simp] theorem cut_1 {α : Type} (a : α) (r : List α) : cutL (a :: r) (some 1) none = r := by rw [cut_from _ _ (by decide)]; rfl
theorem joinL_nil (ss : List (List Nat)) : TL.joinL [] ss = ss.flatten := by
  induction ss with
  | nil => rfl
  | cons p r ih =>
    cases r with
    | nil => simp [TL.joinL]
    | cons q r => simp [TL.joinL, ih]
theorem strs_map {α : Type} (f : α → List Nat) : ∀ l : List α, D.strs (l.map fun x => D.str (f x)) = some (l.map f)
  | [] => rfl
  | x :: l => by simp [D.strs, strs_map f l]
theorem flat_one {α : Type} (f : α → Nat) : ∀ l : List α, (l.map fun x => [f x]).flatten = l.map f
  | [] => rfl
  | x :: l => by simp [flat_one f l]
theorem sum_one {α : Type} (f : α → Nat) (n : Nat) : ∀ l : List α, (∀ x ∈ l, f x ≤ n) → (l.map f).sum ≤ l.length * n
  | [], _ => by simp
  | x :: l, h => by
    have h1 := h x (by simp)
    have h2 := sum_one f n l fun y hy => h y (by simp [hy])
    simp only [List.map_cons, List.sum_cons, List.length_cons, Nat.add_mul]
    omega
theorem gJoin_nil {α : Type} (f : α → List Nat) (l : List α) (n : Nat) (h : ∀ x ∈ l, (f x).length ≤ n) (hn : l.length * n ≤ 1000000) : gJoin [] (.lst (l.map fun x => .str (f x))) = .ok (.str (l.map f).flatten) := by
  have h1 := sum_one (fun x => (f x).length) n l h
  have e : (((l.map f).map (·.length)).sum + (l.map f).length * ([] : List Nat).length) ≤ LIM := by
    rw [List.map_map]
    show (l.map fun x => (f x).length).sum + _ ≤ 1000000
    simp only [List.length_nil, Nat.mul_zero]
    omega
  unfold gJoin
  simp only [items_lst, oR_some, bind_ok, strs_map, joinL_nil, if_pos e]
theorem gJoin_one {α : Type} (f : α → Nat) (l : List α) (h : l.length ≤ 1000000) : gJoin [] (.lst (l.map fun x => .str [f x])) = .ok (.str (l.map f)) := by
  rw [gJoin_nil (fun x => [f x]) l 1 (fun x _ => Nat.le_refl _) (by omega), flat_one]
theorem lcGo_cons {ρ : List Sl} {ft : D → R (List (Nat × D))} {fe : Ev D} {d y : D} {ds ys : List D} {as : List (Nat × D)} (h1 : ft d = .ok as) (h2 : fe (setS ρ as) = .ok y) (h3 : lcGo ρ ft fcYes fe ds = .ok ys) : lcGo ρ ft fcYes fe (d :: ds) = .ok (y :: ys) := by
  have e : lcGo ρ ft fcYes fe (d :: ds) = (ft d).bind fun as => (noX (fe (setS ρ as))).bind fun y => (lcGo ρ ft fcYes fe ds).bind fun ys => .ok (y :: ys) := rfl
  rw [e, h1]
  show (noX (fe (setS ρ as))).bind _ = _
  rw [h2]
  show (lcGo ρ ft fcYes fe ds).bind _ = _
  rw [h3]
  rfl
theorem lc_one {ρ : List Sl} {i : Nat} {fe : Ev D} (ds : List D) (h : D → D) (hs : ∀ d ∈ ds, fe (ρ.set i (.val d)) = .ok (h d)) : lcGo ρ (ftOne i) fcYes fe ds = .ok (ds.map h) :=
  lcGo_map ds h fun d hd => ⟨_, rfl, hs d hd⟩
theorem lc_map {α : Type} {ρ : List Sl} {i : Nat} {fe : Ev D} (f : α → D) (h : α → D) : ∀ (l : List α), (∀ x ∈ l, fe (ρ.set i (.val (f x))) = .ok (h x)) → lcGo ρ (ftOne i) fcYes fe (l.map f) = .ok (l.map h)
  | [], _ => rfl
  | x :: l, hs => by
    have h1 := hs x (by simp)
    have ih := lc_map (ρ := ρ) (i := i) (fe := fe) f h l fun y hy => hs y (by simp [hy])
    simp [lcGo, setS, ftOne, h1, R.bind, noX, ih]
theorem lc_tup2 {α : Type} {ρ : List Sl} {i j : Nat} {fe : Ev D} (a b h : α → D) : ∀ (l : List α), (∀ x ∈ l, fe ((ρ.set i (.val (a x))).set j (.val (b x))) = .ok (h x)) → lcGo ρ (ftTup [i, j]) fcYes fe (l.map fun x => .tup [a x, b x]) = .ok (l.map h)
  | [], _ => rfl
  | x :: l, hs => by
    have h1 := hs x (by simp)
    have ih := lc_tup2 (ρ := ρ) (i := i) (j := j) (fe := fe) a b h l fun y hy => hs y (by simp [hy])
    simp [lcGo, setS, ftTup, h1, R.bind, noX, ih]
theorem lc_rng {ρ : List Sl} {i : Nat} {fe : Ev D} (n : Nat) (h : Nat → D) (hs : ∀ k, k < n → fe (ρ.set i (.val (.int (k : Nat)))) = .ok (h k)) : lcGo ρ (ftOne i) fcYes fe (rangeD 0 n) = .ok ((List.range n).map h) := by
  have e : (((n : Nat) : Int) - 0).toNat = n := by omega
  unfold rangeD
  rw [e]
  refine lc_map _ _ _ fun k hk => ?_
  have e2 : (0 + (k : Nat) : Int) = (k : Nat) := by omega
  rw [e2]
  exact hs k (by simpa using hk)
theorem lc_rngI {ρ : List Sl} {i : Nat} {fe : Ev D} (n : Int) (h : Nat → D) (hs : ∀ k : Nat, (k : Int) < n → fe (ρ.set i (.val (.int k))) = .ok (h k)) : lcGo ρ (ftOne i) fcYes fe (rangeD 0 n) = .ok ((List.range n.toNat).map h) := by
  unfold rangeD
  rw [Int.sub_zero]
  refine lc_map _ _ _ fun k hk => ?_
  have e2 : (0 + (k : Nat) : Int) = (k : Nat) := by omega
  rw [e2]
  exact hs k (by have := List.mem_range.mp hk; omega)
theorem lc_filter {α : Type} {ρ : List Sl} {i : Nat} {fc : Ev Bool} {fe : Ev D} (f : α → D) (p : α → Bool) (h : α → D) : ∀ (l : List α), (∀ x ∈ l, fc (ρ.set i (.val (f x))) = .ok (p x)) → (∀ x ∈ l, p x = true → fe (ρ.set i (.val (f x))) = .ok (h x)) → lcGo ρ (ftOne i) fc fe (l.map f) = .ok ((l.filter p).map h)
  | [], _, _ => rfl
  | x :: l, hp, hs => by
    have h1 := hs x (by simp)
    have h2 := hp x (by simp)
    have ih := lc_filter (ρ := ρ) (i := i) (fc := fc) (fe := fe) f p h l (fun y hy => hp y (by simp [hy])) fun y hy => hs y (by simp [hy])
    cases hb : p x with
    | true => simp [lcGo, setS, ftOne, h1 hb, h2, hb, R.bind, noX, ih]
    | false => simp [lcGo, setS, ftOne, h2, hb, R.bind, noX, ih]
/-- a body goes on with P -/
def Nxt (P : List Sl → Prop) : RS → Prop
  | .nx ρ => P ρ
  | .ct ρ => P ρ
  | _ => False
@[simp] theorem nxt_nx (P : List Sl → Prop) (ρ : List Sl) : Nxt P (.nx ρ) = P ρ := tr rfl
@[simp] theorem nxt_ct (P : List Sl → Prop) (ρ : List Sl) : Nxt P (.ct ρ) = P ρ := tr rfl
theorem Nxt.or {P : List Sl → Prop} {r : RS} (h : Nxt P r) : ∃ ρ', (r = .nx ρ' ∨ r = .ct ρ') ∧ P ρ' := by
  cases r with
  | nx ρ => exact ⟨ρ, .inl rfl, h⟩
  | ct ρ => exact ⟨ρ, .inr rfl, h⟩
  | _ => exact h.elim
theorem forGo_nxt {ft : D → R (List (Nat × D))} {fb : Es} (ds : List D) (I : Nat → List Sl → Prop) (ρ : List Sl) (h0 : I 0 ρ)
    (hs : ∀ i d ρ, ds[i]? = some d → I i ρ → ∃ as, ft d = .ok as ∧ Nxt (I (i + 1)) (fb (setS ρ as))) : ∃ ρ', forGo ft fb ds ρ = .nx ρ' ∧ I ds.length ρ' :=
  forGo_nx ds I ρ h0 fun i d ρ h1 h2 => by
    obtain ⟨as, h3, h4⟩ := hs i d ρ h1 h2
    obtain ⟨ρ', h5, h6⟩ := h4.or
    exact ⟨as, ρ', h3, h5, h6⟩
theorem forGo_cons_nx {ft : D → R (List (Nat × D))} {fb : Es} {d : D} {ds : List D} {ρ ρ' : List Sl} {as : List (Nat × D)} (h1 : ft d = .ok as) (h2 : fb (setS ρ as) = .nx ρ') : forGo ft fb (d :: ds) ρ = forGo ft fb ds ρ' := by
  have e : forGo ft fb (d :: ds) ρ = tryE ρ (noX (ft d)) (fun as => match fb (setS ρ as) with
        | .nx ρ' => forGo ft fb ds ρ'
        | .ct ρ' => forGo ft fb ds ρ'
        | .bk ρ' => .nx ρ'
        | r => r) := rfl
  rw [e, h1]
  show (match fb (setS ρ as) with
        | .nx ρ' => forGo ft fb ds ρ'
        | .ct ρ' => forGo ft fb ds ρ'
        | .bk ρ' => .nx ρ'
        | r => r) = _
  rw [h2]
theorem while_nxt {fc : Ev Bool} {fb : Es} (I : List Sl → Prop) (m : List Sl → Nat) (hs : ∀ ρ, I ρ → fc ρ = .ok false ∨ (fc ρ = .ok true ∧ Nxt (fun ρ' => I ρ' ∧ m ρ' < m ρ) (fb ρ)))
    (n : Nat) (ρ : List Sl) (h0 : I ρ) (hm : m ρ < n) : ∃ ρ', whileS fc fb n ρ = .nx ρ' ∧ I ρ' ∧ fc ρ' = .ok false :=
  while_nx I m (fun ρ h => by
    rcases hs ρ h with h | ⟨h, h4⟩
    · exact .inl h
    · obtain ⟨ρ', h5, h6, h7⟩ := h4.or
      exact .inr ⟨h, ρ', h5, h6, h7⟩) n ρ h0 hm
theorem atI_nn {α : Type} (xs : List α) (i : Int) (h0 : 0 ≤ i) (h1 : i.toNat < xs.length) : L2.atI xs i = some xs[i.toNat] := by
  have h := atI_of xs i.toNat h1
  have e : ((i.toNat : Nat) : Int) = i := by omega
  rwa [e] at h
theorem atI_map {α β : Type} (f : α → β) (xs : List α) (i : Int) (h0 : 0 ≤ i) (h1 : i.toNat < xs.length) : L2.atI (xs.map f) i = some (f xs[i.toNat]) := by
  rw [atI_nn _ i h0 (by simpa using h1)]; simp
theorem gPop_snoc2 (ds : List D) (x d : D) : gPop (ds ++ [x, d]) [] = .ok (d, ds ++ [x]) := by
  have h := gPop_snoc (ds ++ [x]) d
  rwa [List.append_assoc] at h
theorem noX_eq {α : Type} {r : R α} {a : α} (h : r = .ok a) : noX r = .ok a := by rw [h]; rfl
theorem ceN (n m : Nat) : decide ((n : Int) = (m : Int)) = eqb n m := by rw [eqb_dec]; exact decide_eq_decide.mpr (by omega)
theorem clN (n m : Nat) : decide ((n : Int) < (m : Int)) = ltb n m := by rw [ltb_dec]; exact decide_eq_decide.mpr (by omega)
end PL

set_option Elab.async false
set_option linter.all false
set_option maxRecDepth 100000
set_option maxHeartbeats 1000000
/-! PLq: equality of data -/
namespace PL
set_option autoImplicit false
open PySem L2
def Okd (n : Nat) (d : D) : Prop := d.py.canLay0 = true ∧ d.py.depth ≤ n
theorem Okd.le {n m : Nat} {d : D} (h : Okd n d) (hm : n ≤ m) : Okd m d := ⟨h.1, Nat.le_trans h.2 hm⟩
theorem okd_int (n : Nat) (i : Int) : Okd n (.int i) := ⟨rfl, Nat.zero_le _⟩
theorem okd_bl (n : Nat) (i : Bool) : Okd n (.bl i) := ⟨rfl, Nat.zero_le _⟩
theorem okd_non (n : Nat) : Okd n .non := ⟨rfl, Nat.zero_le _⟩
def chOk (s : List Nat) : Prop := ∀ c ∈ s, c < 1114112
theorem okd_str (n : Nat) (s : List Nat) (h : chOk s) : Okd n (.str s) := ⟨by
  show PyData.strOk _ = true
  unfold PyData.strOk
  rw [show ((⟨s.toArray⟩ : Str).cps.all fun x => decide (x < 1114112)) = s.all fun x => decide (x < 1114112) from List.all_toArray ..]
  rw [List.all_eq_true]
  intro c hc
  exact decide_eq_true (h c hc), Nat.zero_le _⟩
theorem okds {n : Nat} : ∀ {ds : List D}, (∀ d ∈ ds, Okd n d) → PyData.canLayAll0 (D.pys ds) = true ∧ PyData.depthAll (D.pys ds) ≤ n
  | [], _ => ⟨rfl, Nat.zero_le _⟩
  | d :: ds, h => by
    obtain ⟨h1, h2⟩ := h d (by simp)
    obtain ⟨h3, h4⟩ := okds (ds := ds) fun x hx => h x (by simp [hx])
    refine ⟨?_, ?_⟩
    · simp only [D.pys, PyData.canLayAll0, h1, h3, Bool.and_self]
    · simp only [D.pys, PyData.depthAll]; omega
theorem okd_tup {n : Nat} {ds : List D} (h : ∀ d ∈ ds, Okd n d) : Okd (n + 1) (.tup ds) := by
  obtain ⟨h1, h2⟩ := okds h
  exact ⟨by simpa only [D.py, PyData.canLay0] using h1, by simp only [D.py, PyData.depth]; omega⟩
theorem okd_lst {n : Nat} {ds : List D} (h : ∀ d ∈ ds, Okd n d) : Okd (n + 1) (.lst ds) := by
  obtain ⟨h1, h2⟩ := okds h
  exact ⟨by simpa only [D.py, PyData.canLay0] using h1, by simp only [D.py, PyData.depth]; omega⟩
theorem Okd.fits {n : Nat} {d : D} (h : Okd n d) (hn : n ≤ 64) : d.fits = true := by
  unfold D.fits SeqAt.shaped
  rw [h.1, Bool.true_and]
  exact decide_eq_true (Nat.le_trans h.2 hn)
theorem gEq_gen {n : Nat} {d e : D} (h : Okd n d) (g : Okd n e) (hn : n ≤ 64) : gEq d e = .ok (PyData.eqv d.py e.py) := by
  have f1 := h.fits hn
  have f2 := g.fits hn
  unfold gEq
  split
  · simp only [D.py, PyData.eqv, Bool.beq_eq_decide_eq]
  · rename_i x y
    have e1 : (decide (x = y)) = (PyData.eqv (D.py (.str x)) (D.py (.str y))) := by
      simp only [D.py, PyData.eqv]
      by_cases q : x = y
      · subst q; simp
      · simp [q]
    rw [e1]
  · simp only [D.py, PyData.eqv, Bool.beq_eq_decide_eq]
  · rw [if_pos ⟨f1, f2⟩]
theorem gEq_refl {n : Nat} {d : D} (h : Okd n d) (hn : n ≤ 64) : gEq d d = .ok true := by rw [gEq_gen h h hn, SeqAt.eqv_refl _ h.1]
theorem gNe_refl {n : Nat} {d : D} (h : Okd n d) (hn : n ≤ 64) : gNe d d = .ok false := by unfold gNe; rw [gEq_refl h hn]; rfl
theorem eqv_ints : ∀ ns ms : List Int, PyData.eqvAll (D.pys (ns.map .int)) (D.pys (ms.map .int)) = decide (ns = ms)
  | [], [] => rfl
  | [], _ :: _ => rfl
  | _ :: _, [] => rfl
  | n :: ns, m :: ms => by
    simp only [List.map_cons, D.pys, D.py, PyData.eqvAll, PyData.eqv, eqv_ints ns ms]
    by_cases h : n = m
    · by_cases h2 : ns = ms <;> simp [h, h2]
    · simp [h]
theorem okd_ints (ns : List Int) : ∀ d ∈ ns.map D.int, Okd 0 d := fun d hd => by obtain ⟨i, _, rfl⟩ := List.mem_map.mp hd; exact okd_int _ _
theorem gEq_ti (ns ms : List Int) : gEq (.tup (ns.map .int)) (.tup (ms.map .int)) = .ok (decide (ns = ms)) := by
  rw [gEq_gen (okd_tup (okd_ints ns)) (okd_tup (okd_ints ms)) (by decide)]
  simp only [D.py, PyData.eqv, eqv_ints]
theorem gEq_li (ns ms : List Int) : gEq (.lst (ns.map .int)) (.lst (ms.map .int)) = .ok (decide (ns = ms)) := by
  rw [gEq_gen (okd_lst (okd_ints ns)) (okd_lst (okd_ints ms)) (by decide)]
  simp only [D.py, PyData.eqv, eqv_ints]
theorem gNe_ti (ns ms : List Int) : gNe (.tup (ns.map .int)) (.tup (ms.map .int)) = .ok (!decide (ns = ms)) := by unfold gNe; rw [gEq_ti]; rfl
theorem gNe_li (ns ms : List Int) : gNe (.lst (ns.map .int)) (.lst (ms.map .int)) = .ok (!decide (ns = ms)) := by unfold gNe; rw [gEq_li]; rfl
def nmD (ns : List (List Nat)) : D := .tup (ns.map .str)
def nmOk (ns : List (List Nat)) : Prop := ∀ x ∈ ns, chOk x
theorem okd_nm {ns : List (List Nat)} (h : nmOk ns) : Okd 1 (nmD ns) := okd_tup fun d hd => by obtain ⟨x, hx, rfl⟩ := List.mem_map.mp hd; exact okd_str _ _ (h x hx)
/-! ### big numbers -/
def BIG : Int := 2 ^ 1000
def bigOk (i : Int) : Prop := -BIG ≤ i ∧ i ≤ BIG
theorem BIG_pos : 0 < BIG := by unfold BIG; exact Int.pow_pos (by decide)
theorem log2_big {i : Int} (h : bigOk i) : i.natAbs.log2 < 1001 := by
  have h1 : i.natAbs ≤ 2 ^ 1000 := by
    have e : ((2 ^ 1000 : Nat) : Int) = BIG := by unfold BIG; exact Int.natCast_pow 2 1000
    obtain ⟨h2, h3⟩ := h
    rw [← e] at h2 h3
    generalize 2 ^ 1000 = N at *
    omega
  by_cases h0 : i.natAbs = 0
  · rw [h0]; decide
  · rw [Nat.log2_lt h0]
    have : (2 : Nat) ^ 1000 < 2 ^ 1001 := Nat.pow_lt_pow_right (by decide) (by decide)
    omega
theorem gMul_big {i j : Int} (h : bigOk i) (g : bigOk j) : gMulI (.int i) (.int j) = .ok (.int (i * j)) := gMul_ok (by
  have h1 := log2_big h
  have h2 := log2_big g
  simp only [MulOk, Bool.or_eq_true, decide_eq_true_eq]
  exact .inr (by omega))
end PL

set_option Elab.async false
set_option linter.all false
set_option maxRecDepth 100000
set_option maxHeartbeats 1000000
/-! LA: sentences as trees; shown -/
namespace PL
set_option autoImplicit false
open L2
inductive K4 where
  | an | or | th | sm
  deriving DecidableEq
/-- sentences -/
inductive T where
  | nm (x : List Nat) | yes | no | nt (t : T) | bin (k : K4) (s t : T)
  deriving DecidableEq
def K4.code : K4 → List Nat
  | .an => [97, 110, 100]
  | .or => [111, 114]
  | .th => [116, 104, 101, 110]
  | .sm => [115, 97, 109, 101]
def K4.st : K4 → Nat
  | .an => 4
  | .or => 3
  | .th => 2
  | .sm => 1
def K4.sign : K4 → Nat
  | .an => 38
  | .or => 124
  | .th => 62
  | .sm => 61
def T.kind : T → List Nat
  | .nm _ => [110, 97, 109, 101]
  | .yes => [121, 101, 115]
  | .no => [110, 111]
  | .nt _ => [110, 111, 116]
  | .bin k _ _ => k.code
def T.toD : T → D
  | .nm x => .tup [.str [110, 97, 109, 101], .str x]
  | .yes => .tup [.str [121, 101, 115]]
  | .no => .tup [.str [110, 111]]
  | .nt t => .tup [.str [110, 111, 116], t.toD]
  | .bin k s t => .tup [.str k.code, s.toD, t.toD]
def T.size : T → Nat
  | .nt t => t.size + 1
  | .bin _ s t => s.size + t.size + 1
  | _ => 1
def T.depth : T → Nat
  | .nt t => t.depth + 1
  | .bin _ s t => max s.depth t.depth + 1
  | _ => 1
def T.st : T → Nat
  | .bin k _ _ => k.st
  | _ => 5
def wi (s : List Nat) (b : Bool) : List Nat := if b then 40 :: (s ++ [41]) else s
def T.shown : T → List Nat
  | .nm x => x
  | .yes => [49]
  | .no => [48]
  | .nt t => 126 :: wi t.shown (ltb t.st 5)
  | .bin k s t => wi s.shown (ltb s.st k.st || (eqb s.st k.st && eqb k.st 2)) ++ [32] ++ [k.sign] ++ [32] ++ wi t.shown (ltb t.st k.st || (eqb t.st k.st && !eqb k.st 2))
theorem wi_len (s : List Nat) (b : Bool) : s.length ≤ (wi s b).length ∧ (wi s b).length ≤ s.length + 2 := by
  cases b <;> simp [wi] <;> omega
/-- names of a tree are at most so long -/
def T.nmLe (m : Nat) : T → Prop
  | .nm x => x.length ≤ m
  | .nt t => t.nmLe m
  | .bin _ s t => s.nmLe m ∧ t.nmLe m
  | _ => True
theorem T.shown_len (m : Nat) : ∀ t : T, t.nmLe m → t.shown.length ≤ t.size * (m + 8)
  | .nm x, h => by simp only [T.nmLe] at h; simp only [T.shown, T.size]; omega
  | .yes, _ => by simp only [T.shown, T.size, List.length_cons, List.length_nil]; omega
  | .no, _ => by simp only [T.shown, T.size, List.length_cons, List.length_nil]; omega
  | .nt t, h => by
    have h1 := T.shown_len m t h
    have h2 := (wi_len t.shown (ltb t.st 5)).2
    simp only [T.shown, T.size, List.length_cons]
    rw [Nat.add_mul]
    omega
  | .bin k s t, h => by
    have h1 := T.shown_len m s h.1
    have h2 := T.shown_len m t h.2
    have h3 := (wi_len s.shown (ltb s.st k.st || (eqb s.st k.st && eqb k.st 2))).2
    have h4 := (wi_len t.shown (ltb t.st k.st || (eqb t.st k.st && !eqb k.st 2))).2
    simp only [T.shown, T.size, List.length_append, List.length_cons, List.length_nil]
    rw [Nat.add_mul, Nat.add_mul]
    omega

/-! ### strength, within, sign_of, shown -/
def StrengthOk (f : Fn) : Prop := ∀ t : T, f [.val (.str t.kind)] = .ok (.val (.int t.st)) [.val (.str t.kind)]
theorem strength_ok : StrengthOk (bodyF 1 1 1 b_strength) := fun t => by
  cases t with
  | bin k s t => cases k <;> rfl
  | _ => rfl
def WithinOk (f : Fn) : Prop := ∀ (s : List Nat) (b : Bool), s.length + 2 ≤ 1000000 → f [.val (.str s), .val (.bl b)] = .ok (.val (.str (wi s b))) [.val (.str s), .val (.bl b)]
theorem within_ok : WithinOk (bodyF 2 2 2 b_within) := fun s b h => by
  cases b
  · rfl
  · simp (disch := first | assumption | omega | (simp only [List.length_append, List.length_cons, List.length_nil, List.length_map, List.length_reverse, List.length_replicate, List.length_range, List.length_take, List.length_drop, enD_length, rangeD_length]; omega) | (simp; done) | fail) [decide_eq_true, decide_eq_false, kAsg, kNx, b_within, wi]
def SignOk (f : Fn) : Prop := ∀ k : K4, f [.val (.str k.code)] = .ok (.val (.str [k.sign])) [.val (.str k.code)]
theorem sign_ok {f : Fn} (h : StrengthOk f) : SignOk (bodyF 1 1 1 (b_sign_of f)) := fun k => by
  have h1 := h (.bin k .yes .yes)
  simp only [T.kind] at h1
  cases k <;> simp [T.st, K4.st, K4.code, K4.sign] at h1 ⊢ <;> simp (disch := first | assumption | omega | (simp only [List.length_append, List.length_cons, List.length_nil, List.length_map, List.length_reverse, List.length_replicate, List.length_range, List.length_take, List.length_drop, enD_length, rangeD_length]; omega) | (simp; done) | fail) [decide_eq_true, decide_eq_false, kAsg, kNx, b_sign_of, h1]
def ShownOk (n : Nat) (f : Fn) : Prop := ∀ t : T, t.depth ≤ n → t.shown.length + 2 ≤ 1000000 → f [.val t.toD] = .ok (.val (.str t.shown)) [.val t.toD]
theorem ix0 (t : T) : gIx t.toD (.int 0) = .ok (.str t.kind) := by cases t <;> rfl
theorem shown_ok {n : Nat} {fs fr fw fg : Fn} (hs : StrengthOk fs) (hr : ShownOk n fr) (hw : WithinOk fw) (hg : SignOk fg) : ShownOk (n + 1) (bodyF 7 1 1 (b_shown fs fr fw fg)) := fun t ht hl => by
  cases t with
  | nm x => simp (disch := first | assumption | omega | (simp only [List.length_append, List.length_cons, List.length_nil, List.length_map, List.length_reverse, List.length_replicate, List.length_range, List.length_take, List.length_drop, enD_length, rangeD_length]; omega) | (simp; done) | fail) [decide_eq_true, decide_eq_false, kAsg, kNx, b_shown, T.toD, T.shown]
  | yes => simp (disch := first | assumption | omega | (simp only [List.length_append, List.length_cons, List.length_nil, List.length_map, List.length_reverse, List.length_replicate, List.length_range, List.length_take, List.length_drop, enD_length, rangeD_length]; omega) | (simp; done) | fail) [decide_eq_true, decide_eq_false, kAsg, kNx, b_shown, T.toD, T.shown]
  | no => simp (disch := first | assumption | omega | (simp only [List.length_append, List.length_cons, List.length_nil, List.length_map, List.length_reverse, List.length_replicate, List.length_range, List.length_take, List.length_drop, enD_length, rangeD_length]; omega) | (simp; done) | fail) [decide_eq_true, decide_eq_false, kAsg, kNx, b_shown, T.toD, T.shown]
  | nt t =>
    have l1 := (wi_len t.shown (ltb t.st 5)).1
    simp only [T.shown, List.length_cons] at hl
    have h1 := hr t (by simp only [T.depth] at ht; omega) (by omega)
    have h2 := fun b => hw t.shown b (by omega)
    have h3 := hs t
    have h4 := hs (.nt t)
    simp only [T.kind, T.st] at h4
    have ix := ix0 t
    simp (disch := first | assumption | omega | (simp only [List.length_append, List.length_cons, List.length_nil, List.length_map, List.length_reverse, List.length_replicate, List.length_range, List.length_take, List.length_drop, enD_length, rangeD_length]; omega) | (simp; done) | fail) [decide_eq_true, decide_eq_false, kAsg, kNx, b_shown, T.toD, T.shown, ix, h1, h2, h3, h4, cl5]
  | bin k s t =>
    have l1 := (wi_len s.shown (ltb s.st k.st || (eqb s.st k.st && eqb k.st 2))).1
    have l2 := (wi_len t.shown (ltb t.st k.st || (eqb t.st k.st && !eqb k.st 2))).1
    simp only [T.shown, List.length_append, List.length_cons, List.length_nil] at hl
    have h1 := hr s (by simp only [T.depth] at ht; omega) (by omega)
    have h2 := hr t (by simp only [T.depth] at ht; omega) (by omega)
    have h3 := hs s
    have h4 := hs t
    have h5 := hs (.bin k s t)
    simp only [T.kind, T.st] at h5
    have h6 := hg k
    have w1 := fun b => hw s.shown b (by omega)
    have w2 := fun b => hw t.shown b (by omega)
    have ix1 := ix0 s
    have ix2 := ix0 t
    have e42 : eqb 4 2 = false := rfl
    have e32 : eqb 3 2 = false := rfl
    have e22 : eqb 2 2 = true := rfl
    have e12 : eqb 1 2 = false := rfl
    cases k <;> simp [K4.code, K4.st, K4.sign, e42, e32, e22, e12] at h5 h6 hl <;>
      simp (disch := first | assumption | omega | (simp only [List.length_append, List.length_cons, List.length_nil, List.length_map, List.length_reverse, List.length_replicate, List.length_range, List.length_take, List.length_drop, enD_length, rangeD_length]; omega) | (simp; done) | fail) [decide_eq_true, decide_eq_false, kAsg, kNx, b_shown, T.toD, T.shown, K4.code, K4.st, K4.sign, ix1, ix2, h1, h2, h3, h4, h5, h6, w1, w2, e42, e32, e22, e12, cl1, cl2, cl3, cl4, ce1, ce2, ce3, ce4]
end PL

set_option Elab.async false
set_option linter.all false
set_option maxRecDepth 100000
set_option maxHeartbeats 1000000
/-! LA2: the laws' own helpers on sentences -/
namespace PL
set_option autoImplicit false
open L2
def CellOk (f : Fn) : Prop := ∀ (ns : List Int) (k : Nat), ns.length ≤ 1000 → f [.val (.scr ns), .val (.int k)] = .ok (.val (.int (ns.getD k 0))) [.val (.scr ns), .val (.int k)]
theorem cell_ok : CellOk (bodyF 2 2 2 b_cell_at_86d1) := fun ns k hl => by
  by_cases h : k < ns.length
  · have h2 : (k : Int) < (ns.length : Int) := by omega
    have h3 : L2.atI (ns.map D.int) (k : Int) = some (D.int ns[k]) := by
      rw [atI_of _ k (by simpa using h)]; simp
    simp (disch := first | assumption | omega | (simp only [List.length_append, List.length_cons, List.length_nil, List.length_map, List.length_reverse, List.length_replicate, List.length_range, List.length_take, List.length_drop, enD_length, rangeD_length]; omega) | (simp; done) | fail) [decide_eq_true, decide_eq_false, kAsg, kNx, b_cell_at_86d1, h2, h3, h]
  · have h2 : ¬ (k : Int) < (ns.length : Int) := by omega
    have h4 : ns[k]? = none := List.getElem?_eq_none (by omega)
    simp (disch := first | assumption | omega | (simp only [List.length_append, List.length_cons, List.length_nil, List.length_map, List.length_reverse, List.length_replicate, List.length_range, List.length_take, List.length_drop, enD_length, rangeD_length]; omega) | (simp; done) | fail) [decide_eq_true, decide_eq_false, kAsg, kNx, b_cell_at_86d1, h2, h4]

/-! ### the laws' own strength and text -/
def T.st6 : T → Nat
  | .bin k _ _ => k.st
  | .nt _ => 5
  | _ => 6
def LStrengthOk (f : Fn) : Prop := ∀ t : T, f [.val t.toD] = .ok (.val (.int t.st6)) [.val t.toD]
theorem lstrength_ok : LStrengthOk (bodyF 1 1 1 b_strength_b9d7) := fun t => by
  have ix := ix0 t
  cases t with
  | bin k s t => cases k <;> simp (disch := first | assumption | omega | (simp only [List.length_append, List.length_cons, List.length_nil, List.length_map, List.length_reverse, List.length_replicate, List.length_range, List.length_take, List.length_drop, enD_length, rangeD_length]; omega) | (simp; done) | fail) [decide_eq_true, decide_eq_false, kAsg, kNx, b_strength_b9d7, T.st6, T.toD, K4.code, K4.st, putC, lookC]
  | _ => simp (disch := first | assumption | omega | (simp only [List.length_append, List.length_cons, List.length_nil, List.length_map, List.length_reverse, List.length_replicate, List.length_range, List.length_take, List.length_drop, enD_length, rangeD_length]; omega) | (simp; done) | fail) [decide_eq_true, decide_eq_false, kAsg, kNx, b_strength_b9d7, T.st6, T.toD, putC, lookC]
def LTextOk (n : Nat) (f : Fn) : Prop := ∀ (t : T) (m : Nat), t.depth ≤ n → t.shown.length + 2 ≤ 1000000 → f [.val t.toD, .val (.int m)] = .ok (.val (.str (wi t.shown (ltb t.st6 m)))) [.val t.toD, .val (.int m)]
theorem wi_t (s : List Nat) : wi s true = 40 :: (s ++ [41]) := rfl
theorem wi_f (s : List Nat) : wi s false = s := rfl
theorem wi_bl (s : List Nat) (b c : Bool) (h : b = c) : wi s b = wi s c := by rw [h]
theorem ltext_ok {n : Nat} {fs ft : Fn} (hs : LStrengthOk fs) (hr : LTextOk n ft) : LTextOk (n + 1) (bodyF 7 2 2 (b_text_1028 fs ft)) := fun t m ht hl => by
  have h0 := hs t
  have lm : ∀ a : Nat, decide ((a : Int) < m) = ltb a m := fun a => by simp [ltb]
  have l5 := dl5 m
  have l6 := dl6 m
  cases t with
  | nm x =>
    simp only [T.shown] at hl
    simp [T.st6, T.toD] at h0
    cases hb : ltb 6 m <;> simp (disch := first | assumption | omega | (simp only [List.length_append, List.length_cons, List.length_nil, List.length_map, List.length_reverse, List.length_replicate, List.length_range, List.length_take, List.length_drop, enD_length, rangeD_length]; omega) | (simp; done) | fail) [decide_eq_true, decide_eq_false, kAsg, kNx, b_text_1028, putC, lookC, T.toD, T.shown, T.st6, h0, l6, hb, wi]
  | yes =>
    simp [T.st6, T.toD] at h0
    cases hb : ltb 6 m <;> simp (disch := first | assumption | omega | (simp only [List.length_append, List.length_cons, List.length_nil, List.length_map, List.length_reverse, List.length_replicate, List.length_range, List.length_take, List.length_drop, enD_length, rangeD_length]; omega) | (simp; done) | fail) [decide_eq_true, decide_eq_false, kAsg, kNx, b_text_1028, putC, lookC, T.toD, T.shown, T.st6, h0, l6, hb, wi]
  | no =>
    simp [T.st6, T.toD] at h0
    cases hb : ltb 6 m <;> simp (disch := first | assumption | omega | (simp only [List.length_append, List.length_cons, List.length_nil, List.length_map, List.length_reverse, List.length_replicate, List.length_range, List.length_take, List.length_drop, enD_length, rangeD_length]; omega) | (simp; done) | fail) [decide_eq_true, decide_eq_false, kAsg, kNx, b_text_1028, putC, lookC, T.toD, T.shown, T.st6, h0, l6, hb, wi]
  | nt t =>
    have l1 := (wi_len t.shown (ltb t.st 5)).1
    simp only [T.shown, List.length_cons] at hl
    have h1 : ft [.val t.toD, .val (.int 5)] = .ok (.val (.str (wi t.shown (ltb t.st6 5)))) [.val t.toD, .val (.int 5)] := hr t 5 (by simp only [T.depth] at ht; omega) (by omega)
    have e5 : ltb t.st6 5 = ltb t.st 5 := by cases t <;> first | rfl | (rename_i k _ _; cases k <;> rfl)
    rw [e5] at h1
    simp [T.st6, T.toD] at h0
    cases hb : ltb 5 m <;> simp (disch := first | assumption | omega | (simp only [List.length_append, List.length_cons, List.length_nil, List.length_map, List.length_reverse, List.length_replicate, List.length_range, List.length_take, List.length_drop, enD_length, rangeD_length]; omega) | (simp; done) | fail) [decide_eq_true, decide_eq_false, kAsg, kNx, b_text_1028, putC, lookC, T.toD, T.shown, T.st6, h0, h1, l5, hb, wi_t, wi_f]
  | bin k s t =>
    have l1 := (wi_len s.shown (ltb s.st k.st || (eqb s.st k.st && eqb k.st 2))).1
    have l2 := (wi_len t.shown (ltb t.st k.st || (eqb t.st k.st && !eqb k.st 2))).1
    simp only [T.shown, List.length_append, List.length_cons, List.length_nil] at hl
    have d1 : s.depth ≤ n := by simp only [T.depth] at ht; omega
    have d2 : t.depth ≤ n := by simp only [T.depth] at ht; omega
    have h1 := fun m => hr s m d1 (by omega)
    have h2 := fun m => hr t m d2 (by omega)
    simp [T.st6, T.toD] at h0
    have e1 : ∀ s : T, ltb s.st6 (k.st + if k = .th then 1 else 0) = (ltb s.st k.st || (eqb s.st k.st && eqb k.st 2)) := fun s => by
      cases s with
      | bin j _ _ => cases j <;> cases k <;> rfl
      | _ => cases k <;> rfl
    have e2 : ∀ s : T, ltb s.st6 (k.st + if k = .th then 0 else 1) = (ltb s.st k.st || (eqb s.st k.st && !eqb k.st 2)) := fun s => by
      cases s with
      | bin j _ _ => cases j <;> cases k <;> rfl
      | _ => cases k <;> rfl
    have g1 := h1 (k.st + if k = .th then 1 else 0)
    have g2 := h2 (k.st + if k = .th then 0 else 1)
    rw [e1 s] at g1
    rw [e2 t] at g2
    have hsh : (T.bin k s t).shown = wi s.shown (ltb s.st k.st || (eqb s.st k.st && eqb k.st 2)) ++ [32] ++ [k.sign] ++ [32] ++ wi t.shown (ltb t.st k.st || (eqb t.st k.st && !eqb k.st 2)) := rfl
    generalize wi s.shown (ltb s.st k.st || (eqb s.st k.st && eqb k.st 2)) = ws at *
    generalize wi t.shown (ltb t.st k.st || (eqb t.st k.st && !eqb k.st 2)) = wt at *
    cases hb : ltb k.st m <;> cases k <;> simp [K4.st, K4.sign, K4.code] at g1 g2 h0 hb hl hsh <;> simp (disch := first | assumption | omega | (simp only [List.length_append, List.length_cons, List.length_nil, List.length_map, List.length_reverse, List.length_replicate, List.length_range, List.length_take, List.length_drop, enD_length, rangeD_length]; omega) | (simp; done) | fail) [decide_eq_true, decide_eq_false, kAsg, kNx, b_text_1028, putC, lookC, T.toD, hsh, T.st6, K4.st, K4.sign, K4.code, h0, g1, g2, dl1, dl2, dl3, dl4, hb, wi_t, wi_f]
end PL

set_option Elab.async false
set_option linter.all false
set_option maxRecDepth 100000
set_option maxHeartbeats 1000000
/-! NB: the names of a script -/
namespace PL
set_option autoImplicit false
open L2
def abc : List Nat := [97, 98, 99, 100, 101, 102, 103, 104, 105, 106, 107, 108, 109, 110, 111, 112, 113, 114, 115, 116, 117, 118, 119, 120, 121, 122]
theorem abc_fin : ∀ n : Fin 26, abc[n.val]? = some (97 + n.val) := by decide
theorem abc_at (i : Int) : L2.atI abc (i % 26) = some (97 + (i % 26).toNat) := by
  have h0 : 0 ≤ i % 26 := Int.emod_nonneg _ (by decide)
  have h1 : i % 26 < 26 := Int.emod_lt_of_pos _ (by decide)
  have e : i % 26 = ((i % 26).toNat : Int) := by omega
  have hl : (i % 26).toNat < abc.length := by show _ < 26; omega
  have h2 := abc_fin ⟨(i % 26).toNat, hl⟩
  rw [e, atI_of _ _ hl]
  rw [List.getElem?_eq_getElem hl] at h2
  exact h2
/-- the letter at a number -/
def letter (i : Int) : Nat := 97 + (i % 26).toNat
def stemL (r : Int) : List Nat := (List.range 8).map fun (k : Nat) => letter (r / 3 + 7 * k * k + k)
def signL (r : Int) (k : Nat) : Nat := letter (r / 5 + 5 * k)
/-- the names of a script -/
def namesA (c : Int) (m : Nat) : List (List Nat) :=
  let r := c / 3
  if c % 3 = 0 then (List.range m).map fun (k : Nat) => (stemL r).take (r / 8 % (1 + r % 8)).toNat ++ [signL r k] ++ ((stemL r).take (1 + r % 8).toNat).drop (r / 8 % (1 + r % 8) + 1).toNat
  else if c % 3 = 1 then (List.range m).map fun (k : Nat) => (stemL r).take (1 + (3 * k + r) % 8).toNat
  else (List.range m).map fun (k : Nat) => signL r k :: (stemL r).take ((3 * k + r) % 8).toNat
def NamesOk (f : Fn) : Prop := ∀ (c : Int) (m : Nat), m ≤ 1000 → f [.val (.int c), .val (.int m)] = .ok (.val (.tup ((namesA c m).map .str))) [.val (.int c), .val (.int m)]
theorem letter_eq (i : Int) : (oR (L2.atI abc (i % 26))).bind (fun c => R.ok (D.str [c])) = .ok (.str [letter i]) := by rw [abc_at]; rfl
theorem names_ok : NamesOk (bodyF 10 2 2 b_names_by_5a28) := fun c m hm => by
  have hj : gJoin [] (.lst ((List.range 8).map fun k : Nat => D.str [letter (c / 3 / 3 + 7 * k * k + k)])) = .ok (.str (stemL (c / 3))) := gJoin_one _ _ (by decide)
  have ha : (97 :: 98 :: 99 :: 100 :: 101 :: 102 :: 103 :: 104 :: 105 :: 106 :: 107 :: 108 :: 109 :: 110 :: 111 :: 112 :: 113 :: 114 :: 115 :: 116 :: 117 :: 118 :: 119 :: 120 :: 121 :: 122 :: []) = abc := rfl
  have hal : abc.length = 26 := rfl
  have hsl : (stemL (c / 3)).length = 8 := by simp [stemL]
  unfold b_names_by_5a28
  rw [ha]
  simp (disch := first | assumption | omega | (simp only [List.length_append, List.length_cons, List.length_nil, List.length_map, List.length_reverse, List.length_replicate, List.length_range, List.length_take, List.length_drop, enD_length, rangeD_length]; omega) | (simp; done) | fail) [decide_eq_true, decide_eq_false, kAsg, kNx, hal]
  rw [lc_rngI 8 (fun k : Nat => .str [letter (c / 3 / 3 + 7 * k * k + k)]) (fun k hk => by simp (disch := first | assumption | omega | (simp only [List.length_append, List.length_cons, List.length_nil, List.length_map, List.length_reverse, List.length_replicate, List.length_range, List.length_take, List.length_drop, enD_length, rangeD_length]; omega) | (simp; done) | fail) [decide_eq_true, decide_eq_false, kAsg, kNx, letter_eq, hal])]
  simp (disch := first | assumption | omega | (simp only [List.length_append, List.length_cons, List.length_nil, List.length_map, List.length_reverse, List.length_replicate, List.length_range, List.length_take, List.length_drop, enD_length, rangeD_length]; omega) | (simp; done) | fail) [decide_eq_true, decide_eq_false, kAsg, kNx, hal, hj]
  rw [lc_rngI m (fun k : Nat => .str [signL (c / 3) k]) (fun k hk => by simp (disch := first | assumption | omega | (simp only [List.length_append, List.length_cons, List.length_nil, List.length_map, List.length_reverse, List.length_replicate, List.length_range, List.length_take, List.length_drop, enD_length, rangeD_length]; omega) | (simp; done) | fail) [decide_eq_true, decide_eq_false, kAsg, kNx, letter_eq, hal, signL])]
  have q0 : 0 ≤ c / 3 / 8 % (1 + c / 3 % 8) := Int.emod_nonneg _ (by omega)
  have q1 : c / 3 / 8 % (1 + c / 3 % 8) < 1 + c / 3 % 8 := Int.emod_lt_of_pos _ (by omega)
  by_cases h0 : c % 3 = 0
  · simp (disch := first | assumption | omega | (simp only [List.length_append, List.length_cons, List.length_nil, List.length_map, List.length_reverse, List.length_replicate, List.length_range, List.length_take, List.length_drop, enD_length, rangeD_length]; omega) | (simp; done) | fail) [decide_eq_true, decide_eq_false, kAsg, kNx, h0, namesA]
    rw [lc_map (fun k : Nat => D.str [signL (c / 3) k]) (fun k : Nat => .str ((stemL (c / 3)).take (c / 3 / 8 % (1 + c / 3 % 8)).toNat ++ signL (c / 3) k :: ((stemL (c / 3)).take (1 + c / 3 % 8).toNat).drop (c / 3 / 8 % (1 + c / 3 % 8) + 1).toNat)) _ (fun k hk => by simp (disch := first | assumption | omega | (simp only [List.length_append, List.length_cons, List.length_nil, List.length_map, List.length_reverse, List.length_replicate, List.length_range, List.length_take, List.length_drop, enD_length, rangeD_length]; omega) | (simp; done) | fail) [decide_eq_true, decide_eq_false, kAsg, kNx, hsl, cut_to, cut_both])]
    simp (disch := first | assumption | omega | (simp only [List.length_append, List.length_cons, List.length_nil, List.length_map, List.length_reverse, List.length_replicate, List.length_range, List.length_take, List.length_drop, enD_length, rangeD_length]; omega) | (simp; done) | fail) [decide_eq_true, decide_eq_false, kAsg, kNx, Function.comp_def]
  · by_cases h1 : c % 3 = 1
    · simp (disch := first | assumption | omega | (simp only [List.length_append, List.length_cons, List.length_nil, List.length_map, List.length_reverse, List.length_replicate, List.length_range, List.length_take, List.length_drop, enD_length, rangeD_length]; omega) | (simp; done) | fail) [decide_eq_true, decide_eq_false, kAsg, kNx, h0, h1, namesA]
      rw [lc_rngI m (fun k : Nat => .str ((stemL (c / 3)).take (1 + (3 * k + c / 3) % 8).toNat)) (fun k hk => by simp (disch := first | assumption | omega | (simp only [List.length_append, List.length_cons, List.length_nil, List.length_map, List.length_reverse, List.length_replicate, List.length_range, List.length_take, List.length_drop, enD_length, rangeD_length]; omega) | (simp; done) | fail) [decide_eq_true, decide_eq_false, kAsg, kNx, hsl, cut_to])]
      simp (disch := first | assumption | omega | (simp only [List.length_append, List.length_cons, List.length_nil, List.length_map, List.length_reverse, List.length_replicate, List.length_range, List.length_take, List.length_drop, enD_length, rangeD_length]; omega) | (simp; done) | fail) [decide_eq_true, decide_eq_false, kAsg, kNx, Function.comp_def]
    · simp (disch := first | assumption | omega | (simp only [List.length_append, List.length_cons, List.length_nil, List.length_map, List.length_reverse, List.length_replicate, List.length_range, List.length_take, List.length_drop, enD_length, rangeD_length]; omega) | (simp; done) | fail) [decide_eq_true, decide_eq_false, kAsg, kNx, h0, h1, namesA]
      rw [lc_rngI m (fun k : Nat => .str (signL (c / 3) k :: (stemL (c / 3)).take ((3 * k + c / 3) % 8).toNat)) (fun k hk => by
        have e : L2.atI (List.map (fun k : Nat => D.str [signL (c / 3) k]) (List.range m)) (k : Int) = some (D.str [signL (c / 3) k]) := by
          rw [atI_of _ k (by simp; omega)]; simp
        simp (disch := first | assumption | omega | (simp only [List.length_append, List.length_cons, List.length_nil, List.length_map, List.length_reverse, List.length_replicate, List.length_range, List.length_take, List.length_drop, enD_length, rangeD_length]; omega) | (simp; done) | fail) [decide_eq_true, decide_eq_false, kAsg, kNx, hsl, cut_to, e]
        trace_state)]
      simp (disch := first | assumption | omega | (simp only [List.length_append, List.length_cons, List.length_nil, List.length_map, List.length_reverse, List.length_replicate, List.length_range, List.length_take, List.length_drop, enD_length, rangeD_length]; omega) | (simp; done) | fail) [decide_eq_true, decide_eq_false, kAsg, kNx, Function.comp_def]
theorem namesA_len (c : Int) (m : Nat) : (namesA c m).length = m := by
  unfold namesA
  dsimp only
  split
  · simp
  · split <;> simp
theorem namesA_le (c : Int) (m : Nat) : ∀ x ∈ namesA c m, x.length ≤ 8 := by
  intro x hx
  unfold namesA at hx
  dsimp only at hx
  have hsl : (stemL (c / 3)).length = 8 := by simp [stemL]
  split at hx
  · obtain ⟨k, _, rfl⟩ := List.mem_map.mp hx
    have q0 : 0 ≤ c / 3 / 8 % (1 + c / 3 % 8) := Int.emod_nonneg _ (by omega)
    have q1 : c / 3 / 8 % (1 + c / 3 % 8) < 1 + c / 3 % 8 := Int.emod_lt_of_pos _ (by omega)
    simp only [List.length_append, List.length_take, List.length_drop, List.length_cons, List.length_nil, hsl]
    omega
  · split at hx
    · obtain ⟨k, _, rfl⟩ := List.mem_map.mp hx
      simp only [List.length_take, hsl]; omega
    · obtain ⟨k, _, rfl⟩ := List.mem_map.mp hx
      simp only [List.length_take, List.length_cons, hsl]; omega
end PL

set_option Elab.async false
set_option linter.all false
set_option maxRecDepth 100000
set_option maxHeartbeats 1000000
/-! LG: leaves, grown sentences -/
namespace PL
set_option autoImplicit false
open L2
def T.nmIn (ns : List (List Nat)) : T → Prop
  | .nm x => x ∈ ns
  | .nt t => t.nmIn ns
  | .bin _ s t => s.nmIn ns ∧ t.nmIn ns
  | _ => True
theorem nmLe_of {ns : List (List Nat)} {m : Nat} (h : ∀ x ∈ ns, x.length ≤ m) : ∀ t : T, t.nmIn ns → t.nmLe m
  | .nm x, e => h x e
  | .yes, _ => trivial
  | .no, _ => trivial
  | .nt t, e => nmLe_of h t e
  | .bin _ s t, e => ⟨nmLe_of h s e.1, nmLe_of h t e.2⟩
theorem T.depth_pos (t : T) : 1 ≤ t.depth := by cases t <;> simp only [T.depth] <;> omega
def leafT (ns : List (List Nat)) (c : Int) : T :=
  if c % (4 * (ns.length : Int) + 2) < 4 * (ns.length : Int) then .nm (ns.getD (c % (4 * (ns.length : Int) + 2) % ns.length).toNat [])
  else if c % (4 * (ns.length : Int) + 2) = 4 * (ns.length : Int) then .yes else .no
def LeafOk (f : Fn) : Prop := ∀ (ns : List (List Nat)) (c : Int), 1 ≤ ns.length → ns.length ≤ 1000 → f [.val (nmD ns), .val (.int c)] = .ok (.val (leafT ns c).toD) [.val (nmD ns), .val (.int c)]
theorem leaf_ok : LeafOk (bodyF 3 2 2 b_leaf_b7bf) := fun ns c h1 h2 => by
  have q0 : 0 ≤ c % (4 * (ns.length : Int) + 2) := Int.emod_nonneg _ (by omega)
  have q1 : c % (4 * (ns.length : Int) + 2) < 4 * (ns.length : Int) + 2 := Int.emod_lt_of_pos _ (by omega)
  have r0 : 0 ≤ c % (4 * (ns.length : Int) + 2) % ns.length := Int.emod_nonneg _ (by omega)
  have r1 : c % (4 * (ns.length : Int) + 2) % ns.length < ns.length := Int.emod_lt_of_pos _ (by omega)
  by_cases hp : c % (4 * (ns.length : Int) + 2) < 4 * (ns.length : Int)
  · have e := atI_map D.str ns (c % (4 * (ns.length : Int) + 2) % ns.length) r0 (by omega)
    have e2 : ns[(c % (4 * (ns.length : Int) + 2) % ns.length).toNat]'(by omega) = ns.getD (c % (4 * (ns.length : Int) + 2) % ns.length).toNat [] := by rw [List.getD_eq_getElem?_getD, List.getElem?_eq_getElem (by omega)]; rfl
    rw [e2] at e
    simp (disch := first | assumption | omega | (simp only [List.length_append, List.length_cons, List.length_nil, List.length_map, List.length_reverse, List.length_replicate, List.length_range, List.length_take, List.length_drop, enD_length, rangeD_length]; omega) | (simp; done) | fail) [decide_eq_true, decide_eq_false, kAsg, kNx, b_leaf_b7bf, nmD, hp, leafT, T.toD, e]
  · by_cases hq : c % (4 * (ns.length : Int) + 2) = 4 * (ns.length : Int)
    · simp (disch := first | assumption | omega | (simp only [List.length_append, List.length_cons, List.length_nil, List.length_map, List.length_reverse, List.length_replicate, List.length_range, List.length_take, List.length_drop, enD_length, rangeD_length]; omega) | (simp; done) | fail) [decide_eq_true, decide_eq_false, kAsg, kNx, b_leaf_b7bf, nmD, leafT, T.toD, hq]
    · have e : c % (4 * (ns.length : Int) + 2) - 4 * (ns.length : Int) = 1 := by omega
      simp (disch := first | assumption | omega | (simp only [List.length_append, List.length_cons, List.length_nil, List.length_map, List.length_reverse, List.length_replicate, List.length_range, List.length_take, List.length_drop, enD_length, rangeD_length]; omega) | (simp; done) | fail) [decide_eq_true, decide_eq_false, kAsg, kNx, b_leaf_b7bf, nmD, leafT, T.toD, hp, hq, e]
theorem leafT_in (ns : List (List Nat)) (c : Int) (h : 1 ≤ ns.length) : (leafT ns c).nmIn ns := by
  have r0 : 0 ≤ c % (4 * (ns.length : Int) + 2) % ns.length := Int.emod_nonneg _ (by omega)
  have r1 : c % (4 * (ns.length : Int) + 2) % ns.length < ns.length := Int.emod_lt_of_pos _ (by omega)
  unfold leafT
  split
  · show _ ∈ ns
    rw [List.getD_eq_getElem?_getD, List.getElem?_eq_getElem (by omega)]
    exact List.getElem_mem _
  · split <;> exact trivial
theorem leafT_size (ns : List (List Nat)) (c : Int) : (leafT ns c).size = 1 := by unfold leafT; (repeat' split) <;> rfl
theorem leafT_depth (ns : List (List Nat)) (c : Int) : (leafT ns c).depth = 1 := by unfold leafT; (repeat' split) <;> rfl

/-! ### grown sentences -/
def pr (t : T) : D := .tup [t.toD, .int t.depth]
def sizes : List T → Nat
  | [] => 0
  | t :: r => t.size + sizes r
def T.fit (ns : List (List Nat)) (m : Int) (t : T) : Prop := t.nmIn ns ∧ (t.depth : Int) ≤ m
/-- the loop's frame: r the stack from its top down -/
def GS (ns : List (List Nat)) (a1 : Sl) (most : Int) (i : Nat) (ρ : List Sl) : Prop :=
  ∃ (r : List T) (s4 s5 s6 s7 s8 s9 s10 s11 s12 : Sl), ρ = [.val (nmD ns), a1, .val (.int most), .own (.lst (r.reverse.map pr)), s4, s5, s6, s7, s8, s9, s10, s11, s12] ∧ (∀ t ∈ r, t.fit ns most) ∧ sizes r ≤ i ∧ r.length ≤ i
theorem GS.push {ns : List (List Nat)} {a1 : Sl} {most : Int} {i : Nat} {t : T} {r : List T} (ht : t.fit ns most) (hr : ∀ t ∈ r, t.fit ns most) (hs : t.size + sizes r ≤ i) (hn : r.length + 1 ≤ i) (s4 s5 s6 s7 s8 s9 s10 s11 s12 : Sl) :
    GS ns a1 most i [.val (nmD ns), a1, .val (.int most), .own (.lst (r.reverse.map pr ++ [.tup [t.toD, .int t.depth]])), s4, s5, s6, s7, s8, s9, s10, s11, s12] := by
  refine ⟨t :: r, s4, s5, s6, s7, s8, s9, s10, s11, s12, ?_, fun u hu => ?_, hs, hn⟩
  · simp [pr]
  · rcases List.mem_cons.mp hu with e | hu
    · subst e; exact ht
    · exact hr u hu
def kOf (w : Int) : K4 := if w = 0 then .an else if w = 1 then .or else if w = 2 then .th else .sm
theorem kind_at (w : Int) (h0 : 0 ≤ w) (h1 : w < 4) : L2.atI [D.str [97, 110, 100], D.str [111, 114], D.str [116, 104, 101, 110], D.str [115, 97, 109, 101]] w = some (.str (kOf w).code) := by
  have h : w = 0 ∨ w = 1 ∨ w = 2 ∨ w = 3 := by omega
  rcases h with h | h | h | h <;> subst h <;> simp [kOf, K4.code]
theorem grown_l1 {fl : Fn} (hl : LeafOk fl) (ns : List (List Nat)) (h1 : 1 ≤ ns.length) (h2 : ns.length ≤ 1000) (a1 : Sl) (most : Int) (hm : 1 ≤ most) (i : Nat) (hi : i < 1000) (c : Int) (ρ : List Sl) (g : GS ns a1 most i ρ) : Nxt (GS ns a1 most (i + 1)) (b_grown_b77c_l1 fl (setS ρ [(4, .int c)])) := by
  obtain ⟨r, s4, s5, s6, s7, s8, s9, s10, s11, s12, rfl, hf, hs, hn⟩ := g
  have hle := hl ns (c / 8) h1 h2
  have w0 : 0 ≤ c % 8 := Int.emod_nonneg _ (by decide)
  have w1 : c % 8 < 8 := Int.emod_lt_of_pos _ (by decide)
  have lfit : (leafT ns (c / 8)).fit ns most := ⟨leafT_in _ _ h1, by rw [leafT_depth]; exact hm⟩
  have ld := leafT_depth ns (c / 8)
  have lsz := leafT_size ns (c / 8)
  have push := @GS.push ns a1 most (i + 1) (leafT ns (c / 8)) r lfit hf (by omega) (by omega)
  rw [ld] at push
  by_cases hw : c % 8 < 3
  · simp (disch := first | assumption | omega | (simp only [List.length_append, List.length_cons, List.length_nil, List.length_map, List.length_reverse, List.length_replicate, List.length_range, List.length_take, List.length_drop, enD_length, rangeD_length]; omega) | (simp; done) | fail) [decide_eq_true, decide_eq_false, kAsg, kNx, b_grown_b77c_l1, hw, hle]
    simpa using push _ _ _ _ _ _ _ _ _
  cases r with
  | nil =>
    simp (disch := first | assumption | omega | (simp only [List.length_append, List.length_cons, List.length_nil, List.length_map, List.length_reverse, List.length_replicate, List.length_range, List.length_take, List.length_drop, enD_length, rangeD_length]; omega) | (simp; done) | fail) [decide_eq_true, decide_eq_false, kAsg, kNx, b_grown_b77c_l1, hw, hle]
    simpa using push _ _ _ _ _ _ _ _ _
  | cons t r =>
    have tf := hf t (by simp)
    have hf' : ∀ u ∈ r, u.fit ns most := fun u hu => hf u (by simp [hu])
    simp only [sizes, List.length_cons] at hs hn
    by_cases hw3 : c % 8 = 3
    · by_cases hd : most ≤ t.depth
      · have p := @GS.push ns a1 most (i + 1) t r tf hf' (by omega) (by omega)
        simp (disch := first | assumption | omega | (simp only [List.length_append, List.length_cons, List.length_nil, List.length_map, List.length_reverse, List.length_replicate, List.length_range, List.length_take, List.length_drop, enD_length, rangeD_length]; omega) | (simp; done) | fail) [decide_eq_true, decide_eq_false, kAsg, kNx, b_grown_b77c_l1, hw3, hd, pr]
        simpa [pr] using p _ _ _ _ _ _ _ _ _
      · have p := @GS.push ns a1 most (i + 1) (.nt t) r ⟨tf.1, by simp only [T.depth]; omega⟩ hf' (by simp only [T.size]; omega) (by omega)
        simp only [T.toD, T.depth] at p
        simp (disch := first | assumption | omega | (simp only [List.length_append, List.length_cons, List.length_nil, List.length_map, List.length_reverse, List.length_replicate, List.length_range, List.length_take, List.length_drop, enD_length, rangeD_length]; omega) | (simp; done) | fail) [decide_eq_true, decide_eq_false, kAsg, kNx, b_grown_b77c_l1, hw3, hd, pr]
        simpa [pr] using p _ _ _ _ _ _ _ _ _
    · have hw4 : 3 < c % 8 := by omega
      cases r with
      | nil =>
        simp (disch := first | assumption | omega | (simp only [List.length_append, List.length_cons, List.length_nil, List.length_map, List.length_reverse, List.length_replicate, List.length_range, List.length_take, List.length_drop, enD_length, rangeD_length]; omega) | (simp; done) | fail) [decide_eq_true, decide_eq_false, kAsg, kNx, b_grown_b77c_l1, hw, hw4, hle, pr]
        simpa [pr] using push _ _ _ _ _ _ _ _ _
      | cons s r =>
        have sf := hf s (by simp)
        have hf2 : ∀ u ∈ r, u.fit ns most := fun u hu => hf u (by simp [hu])
        simp only [sizes, List.length_cons] at hs hn
        have kn := kind_at (c % 8 - 4) (by omega) (by omega)
        have bin : ∀ (d : Nat), d = max s.depth t.depth → (d : Int) < most → ∀ a b : T, (a = s ∧ b = t ∨ a = t ∧ b = s) → ∀ (s4 s5 s6 s7 s8 s9 s10 s11 s12 : Sl),
            GS ns a1 most (i + 1) [.val (nmD ns), a1, .val (.int most), .own (.lst (r.reverse.map pr ++ [.tup [.tup [.str (kOf (c % 8 - 4)).code, a.toD, b.toD], .int (1 + (d : Int))]])), s4, s5, s6, s7, s8, s9, s10, s11, s12] := fun d hd hm a b hab => by
          have p := @GS.push ns a1 most (i + 1) (.bin (kOf (c % 8 - 4)) a b) r (by
            rcases hab with ⟨rfl, rfl⟩ | ⟨rfl, rfl⟩
            · exact ⟨⟨sf.1, tf.1⟩, by simp only [T.depth]; omega⟩
            · exact ⟨⟨tf.1, sf.1⟩, by simp only [T.depth]; omega⟩) hf2 (by rcases hab with ⟨rfl, rfl⟩ | ⟨rfl, rfl⟩ <;> simp only [T.size] <;> omega) (by omega)
          have e : ((T.bin (kOf (c % 8 - 4)) a b).depth : Int) = 1 + (d : Int) := by rcases hab with ⟨rfl, rfl⟩ | ⟨rfl, rfl⟩ <;> simp only [T.depth] <;> omega
          rw [e] at p
          simp only [T.toD] at p
          exact p
        by_cases hts : t.depth < s.depth
        · by_cases hd : (s.depth : Int) < most
          · by_cases hc : c / 8 % 2 = 0
            · simp (disch := first | assumption | omega | (simp only [List.length_append, List.length_cons, List.length_nil, List.length_map, List.length_reverse, List.length_replicate, List.length_range, List.length_take, List.length_drop, enD_length, rangeD_length]; omega) | (simp; done) | fail) [decide_eq_true, decide_eq_false, kAsg, kNx, b_grown_b77c_l1, hw, hw4, hts, hd, hc, kn, pr, gPop_snoc2]
              simpa [pr] using bin s.depth (by omega) hd s t (.inl ⟨rfl, rfl⟩) _ _ _ _ _ _ _ _ _
            · have hc : c / 8 % 2 = 1 := by omega
              simp (disch := first | assumption | omega | (simp only [List.length_append, List.length_cons, List.length_nil, List.length_map, List.length_reverse, List.length_replicate, List.length_range, List.length_take, List.length_drop, enD_length, rangeD_length]; omega) | (simp; done) | fail) [decide_eq_true, decide_eq_false, kAsg, kNx, b_grown_b77c_l1, hw, hw4, hts, hd, hc, kn, pr, gPop_snoc2]
              simpa [pr] using bin s.depth (by omega) hd t s (.inr ⟨rfl, rfl⟩) _ _ _ _ _ _ _ _ _
          · simp (disch := first | assumption | omega | (simp only [List.length_append, List.length_cons, List.length_nil, List.length_map, List.length_reverse, List.length_replicate, List.length_range, List.length_take, List.length_drop, enD_length, rangeD_length]; omega) | (simp; done) | fail) [decide_eq_true, decide_eq_false, kAsg, kNx, b_grown_b77c_l1, hw, hw4, hts, hd, pr, gPop_snoc2]
            have p := @GS.push ns a1 most (i + 1) t (s :: r) tf hf' (by simp only [sizes]; omega) (by simp only [List.length_cons]; omega)
            simpa [pr] using p _ _ _ _ _ _ _ _ _
        · by_cases hd : (t.depth : Int) < most
          · by_cases hc : c / 8 % 2 = 0
            · simp (disch := first | assumption | omega | (simp only [List.length_append, List.length_cons, List.length_nil, List.length_map, List.length_reverse, List.length_replicate, List.length_range, List.length_take, List.length_drop, enD_length, rangeD_length]; omega) | (simp; done) | fail) [decide_eq_true, decide_eq_false, kAsg, kNx, b_grown_b77c_l1, hw, hw4, hts, hd, hc, kn, pr, gPop_snoc2]
              simpa [pr] using bin t.depth (by omega) hd s t (.inl ⟨rfl, rfl⟩) _ _ _ _ _ _ _ _ _
            · have hc : c / 8 % 2 = 1 := by omega
              simp (disch := first | assumption | omega | (simp only [List.length_append, List.length_cons, List.length_nil, List.length_map, List.length_reverse, List.length_replicate, List.length_range, List.length_take, List.length_drop, enD_length, rangeD_length]; omega) | (simp; done) | fail) [decide_eq_true, decide_eq_false, kAsg, kNx, b_grown_b77c_l1, hw, hw4, hts, hd, hc, kn, pr, gPop_snoc2]
              simpa [pr] using bin t.depth (by omega) hd t s (.inr ⟨rfl, rfl⟩) _ _ _ _ _ _ _ _ _
          · simp (disch := first | assumption | omega | (simp only [List.length_append, List.length_cons, List.length_nil, List.length_map, List.length_reverse, List.length_replicate, List.length_range, List.length_take, List.length_drop, enD_length, rangeD_length]; omega) | (simp; done) | fail) [decide_eq_true, decide_eq_false, kAsg, kNx, b_grown_b77c_l1, hw, hw4, hts, hd, pr, gPop_snoc2]
            have p := @GS.push ns a1 most (i + 1) t (s :: r) tf hf' (by simp only [sizes]; omega) (by simp only [List.length_cons]; omega)
            simpa [pr] using p _ _ _ _ _ _ _ _ _

/-! ### the queue -/
def Qd (m L : Nat) (ts : List T) : Prop := ∃ (A B : List T) (j : Nat), ts = A ++ B ∧ (∀ t ∈ A, t.depth ≤ m + j) ∧ (∀ t ∈ B, t.depth ≤ m + j + 1) ∧ A.length + 2 * B.length ≤ 2 ^ (L - j) ∧ j ≤ L
theorem Qd.init {m L : Nat} {ts : List T} (h : ∀ t ∈ ts, t.depth ≤ m) (hl : ts.length ≤ 2 ^ L) : Qd m L ts := ⟨ts, [], 0, by simp, h, by simp, by simpa using hl, Nat.zero_le _⟩
theorem pow_pos2 (n : Nat) : 0 < 2 ^ n := Nat.pow_pos (by decide)
theorem Qd.step {m L : Nat} {k : K4} {a b : T} {ts : List T} (h : Qd m L (a :: b :: ts)) : Qd m L (ts ++ [.bin k a b]) := by
  obtain ⟨A, B, j, e, hA, hB, hn, hj⟩ := h
  match A, B, e with
  | x :: y :: A, B, e =>
    simp only [List.cons_append, List.cons.injEq] at e
    obtain ⟨rfl, rfl, rfl⟩ := e
    have d1 := hA a (by simp)
    have d2 := hA b (by simp)
    refine ⟨A, B ++ [.bin k a b], j, by simp, fun t ht => hA t (by simp [ht]), fun t ht => ?_, by simp at hn ⊢; omega, hj⟩
    rcases List.mem_append.mp ht with ht | ht
    · exact hB t ht
    · rw [List.mem_singleton.mp ht]; simp only [T.depth]; omega
  | [x], y :: B, e =>
    simp only [List.cons_append, List.nil_append, List.cons.injEq] at e
    obtain ⟨rfl, rfl, rfl⟩ := e
    have d1 := hA a (by simp)
    have d2 := hB b (by simp)
    simp only [List.length_cons, List.length_nil] at hn
    have hj1 : j + 1 ≤ L := by
      rcases Nat.lt_or_ge j L with h | h
      · exact h
      · have : L - j = 0 := by omega
        rw [this] at hn; simp at hn; omega
    have e2 : 2 ^ (L - j) = 2 * 2 ^ (L - (j + 1)) := by rw [← Nat.pow_succ']; congr 1; omega
    refine ⟨ts, [.bin k a b], j + 1, rfl, fun t ht => by have := hB t (by simp [ht]); omega, fun t ht => ?_, by simp; omega, hj1⟩
    rw [List.mem_singleton.mp ht]; simp only [T.depth]; omega
  | [], x :: y :: B, e =>
    simp only [List.nil_append, List.cons.injEq] at e
    obtain ⟨rfl, rfl, rfl⟩ := e
    have d1 := hB a (by simp)
    have d2 := hB b (by simp)
    simp only [List.length_cons, List.length_nil] at hn
    have hj1 : j + 1 ≤ L := by
      rcases Nat.lt_or_ge j L with h | h
      · exact h
      · have : L - j = 0 := by omega
        rw [this] at hn; simp at hn; omega
    have e2 : 2 ^ (L - j) = 2 * 2 ^ (L - (j + 1)) := by rw [← Nat.pow_succ']; congr 1; omega
    refine ⟨ts, [.bin k a b], j + 1, rfl, fun t ht => by have := hB t (by simp [ht]); omega, fun t ht => ?_, by simp; omega, hj1⟩
    rw [List.mem_singleton.mp ht]; simp only [T.depth]; omega
  | [x], [], e => simp at e
  | [], [x], e => simp at e
  | [], [], e => simp at e
theorem Qd.one {m L : Nat} {t : T} (h : Qd m L [t]) : t.depth ≤ m + L := by
  obtain ⟨A, B, j, e, hA, hB, hn, hj⟩ := h
  match A, B, e with
  | x :: A, B, e =>
    simp at e
    have := hA x (by simp)
    rw [e.1]; omega
  | [], x :: B, e =>
    simp at e
    have := hB x (by simp)
    rw [e.1]
    simp only [List.length_cons, List.length_nil] at hn
    rcases Nat.lt_or_ge j L with h | h
    · omega
    · have : L - j = 0 := by omega
      rw [this] at hn; simp at hn; omega
def WS (ns : List (List Nat)) (m L N : Nat) (a0 a1 a2 : Sl) (ρ : List Sl) : Prop :=
  ∃ (ts : List T) (s3 s4 s5 s6 s7 s8 s9 s10 s11 : Sl), ρ = [a0, a1, a2, s3, s4, s5, s6, s7, s8, s9, s10, s11, .own (.lst (ts.map T.toD))] ∧ ts ≠ [] ∧ (∀ t ∈ ts, t.nmIn ns) ∧ Qd m L ts ∧ sizes ts + ts.length ≤ N
def lenO : Option Sl → Nat
  | some (.own (.lst ds)) => ds.length
  | _ => 0
def len12 (ρ : List Sl) : Nat := lenO ρ[12]?
theorem sizes_app : ∀ (a b : List T), sizes (a ++ b) = sizes a + sizes b
  | [], b => by simp [sizes]
  | t :: a, b => by simp [sizes, sizes_app a b]; omega
theorem grown_l2 (fl : Fn) (ns : List (List Nat)) (m L N : Nat) (hN : N < 100000) (a0 a1 a2 : Sl) (ρ : List Sl) (g : WS ns m L N a0 a1 a2 ρ) :
    (e2 (gCmp pGt) (eCall gLen (aCons (eVar 12) aNil)) (eC (.int (1)))) ρ = .ok false ∨ ((e2 (gCmp pGt) (eCall gLen (aCons (eVar 12) aNil)) (eC (.int (1)))) ρ = .ok true ∧ Nxt (fun ρ' => WS ns m L N a0 a1 a2 ρ' ∧ len12 ρ' < len12 ρ) (b_grown_b77c_l2 fl ρ)) := by
  obtain ⟨ts, s3, s4, s5, s6, s7, s8, s9, s10, s11, rfl, hne, hin, hq, hs⟩ := g
  match ts, hne with
  | [t], _ => exact .inl (by simp (disch := first | assumption | omega | (simp only [List.length_append, List.length_cons, List.length_nil, List.length_map, List.length_reverse, List.length_replicate, List.length_range, List.length_take, List.length_drop, enD_length, rangeD_length]; omega) | (simp; done) | fail) [decide_eq_true, decide_eq_false, kAsg, kNx])
  | a :: b :: ts, _ =>
    refine .inr ⟨by simp (disch := first | assumption | omega | (simp only [List.length_append, List.length_cons, List.length_nil, List.length_map, List.length_reverse, List.length_replicate, List.length_range, List.length_take, List.length_drop, enD_length, rangeD_length]; omega) | (simp; done) | fail) [decide_eq_true, decide_eq_false, kAsg, kNx], ?_⟩
    simp only [sizes, List.length_cons] at hs
    have kn := kind_at ((ts.length : Int) % 4) (Int.emod_nonneg _ (by decide)) (Int.emod_lt_of_pos _ (by decide))
    have p2 := pop2S_eq 11 12 [a0, a1, a2, s3, s4, s5, s6, s7, s8, s9, s10, s11, .own (.lst ((a :: b :: ts).map T.toD))] a.toD b.toD (ts.map T.toD) rfl
    simp only [List.map_cons] at p2
    simp (disch := first | assumption | omega | (simp only [List.length_append, List.length_cons, List.length_nil, List.length_map, List.length_reverse, List.length_replicate, List.length_range, List.length_take, List.length_drop, enD_length, rangeD_length]; omega) | (simp; done) | fail) [decide_eq_true, decide_eq_false, kAsg, kNx, b_grown_b77c_l2, p2, kn]
    refine ⟨⟨ts ++ [.bin (kOf ((ts.length : Int) % 4)) a b], s3, s4, s5, s6, s7, s8, s9, s10, .val (.tup [a.toD, b.toD]), by simp [T.toD], by simp, ?_, hq.step, ?_⟩, ?_⟩
    · intro t ht
      rcases List.mem_append.mp ht with ht | ht
      · exact hin t (by simp [ht])
      · rw [List.mem_singleton.mp ht]; exact ⟨hin a (by simp), hin b (by simp)⟩
    · simp only [sizes_app, sizes, T.size, List.length_append, List.length_cons, List.length_nil]; omega
    · simp [len12, lenO]
def GrownOk (f : Fn) : Prop := ∀ (ns : List (List Nat)) (cs : List Int) (most L : Nat), 1 ≤ ns.length → ns.length ≤ 1000 → 1 ≤ most → cs.length ≤ 2 ^ L → cs.length ≤ 1000 →
  ∃ t : T, f [.val (nmD ns), .val (.lst (cs.map .int)), .val (.int most)] = .ok (.val t.toD) [.val (nmD ns), .val (.lst (cs.map .int)), .val (.int most)] ∧ t.nmIn ns ∧ t.depth ≤ most + L ∧ t.size ≤ 2 * cs.length + 1
theorem grown_ok {fl : Fn} (hl : LeafOk fl) : GrownOk (bodyF 13 3 3 (b_grown_b77c fl)) := fun ns cs most L h1 h2 hm hL hc => by
  obtain ⟨ρ1, e1, g1⟩ := forGo_nxt (ft := ftOne 4) (fb := b_grown_b77c_l1 fl) (cs.map D.int) (fun i ρ => GS ns (.val (.lst (cs.map .int))) (most : Int) i ρ) [.val (nmD ns), .val (.lst (cs.map .int)), .val (.int most), .own (.lst []), .emp, .emp, .emp, .emp, .emp, .emp, .emp, .emp, .emp]
    ⟨[], _, _, _, _, _, _, _, _, _, rfl, by simp, Nat.le_refl _, Nat.le_refl _⟩ (fun i d ρ hd g => by
      have hi : i < cs.length := by have := (List.getElem?_eq_some_iff.mp hd).1; simpa using this
      simp [hi] at hd
      subst hd
      exact ⟨_, rfl, grown_l1 hl ns h1 h2 _ most (by omega) i (by omega) _ ρ g⟩)
  rw [List.length_map] at g1
  obtain ⟨r, s4, s5, s6, s7, s8, s9, s10, s11, s12, rfl, hf, hs, hn⟩ := g1
  have hlc : lcGo [.val (nmD ns), .val (.lst (cs.map .int)), .val (.int most), .own (.lst (r.reverse.map pr)), s4, s5, s6, .emp, .emp, s9, s10, s11, s12] (ftTup [7, 8]) fcYes (eFrz 7) (r.reverse.map pr) = .ok (r.reverse.map T.toD) := lc_tup2 T.toD (fun t => .int t.depth) T.toD r.reverse fun t _ => by simp
  have hle := hl ns cs.length h1 h2
  have W : ∃ ts : List T, ts ≠ [] ∧ (∀ t ∈ ts, t.nmIn ns) ∧ Qd most L ts ∧ sizes ts + ts.length ≤ 2 * cs.length + 2 ∧
      (r.reverse.map T.toD ++ cutL [(leafT ns cs.length).toD] none (some (if r = [] then 1 else 0)) = ts.map T.toD) := by
    cases r with
    | nil =>
      refine ⟨[leafT ns cs.length], by simp, by simp [leafT_in _ _ h1], Qd.init (by simp [leafT_depth, hm]) (by simp; exact pow_pos2 L), by simp [sizes, leafT_size], by simp (disch := first | assumption | omega | (simp only [List.length_append, List.length_cons, List.length_nil, List.length_map, List.length_reverse, List.length_replicate, List.length_range, List.length_take, List.length_drop, enD_length, rangeD_length]; omega) | (simp; done) | fail) [decide_eq_true, decide_eq_false, kAsg, kNx, cut_to]⟩
    | cons t r =>
      have hsz : ∀ l : List T, sizes l.reverse = sizes l := fun l => by
        induction l with
        | nil => rfl
        | cons a l ih => simp only [List.reverse_cons, sizes_app, sizes, ih]; omega
      refine ⟨(t :: r).reverse, by simp, fun u hu => (hf u (List.mem_reverse.mp hu)).1, Qd.init (fun u hu => by have := (hf u (List.mem_reverse.mp hu)).2; omega) (by simp at hn ⊢; omega), by rw [hsz, List.length_reverse]; omega, by simp (disch := first | assumption | omega | (simp only [List.length_append, List.length_cons, List.length_nil, List.length_map, List.length_reverse, List.length_replicate, List.length_range, List.length_take, List.length_drop, enD_length, rangeD_length]; omega) | (simp; done) | fail) [decide_eq_true, decide_eq_false, kAsg, kNx, cut_to]⟩
  obtain ⟨ts, w1, w2, w3, w4, w5⟩ := W
  obtain ⟨ρ2, e2', ⟨ts2, t3, t4, t5, t6, t7, t8, t9, t10, t11, rfl, v1, v2, v3, v4⟩, e3⟩ := while_nxt (fb := b_grown_b77c_l2 fl) (WS ns most L (2 * cs.length + 2) (.val (nmD ns)) (.val (.lst (cs.map .int))) (.val (.int most))) len12 (grown_l2 fl ns most L (2 * cs.length + 2) (by omega) _ _ _) 1000000
    [.val (nmD ns), .val (.lst (cs.map .int)), .val (.int most), .own (.lst (r.reverse.map pr)), s4, s5, s6, s7, s8, s9, s10, s11, .own (.lst (ts.map T.toD))] ⟨ts, _, _, _, _, _, _, _, _, _, rfl, w1, w2, w3, w4⟩ (by simp [len12, lenO]; omega)
  have hone : ∃ t, ts2 = [t] := by
    match ts2, v1 with
    | [t], _ => exact ⟨t, rfl⟩
    | a :: b :: l, _ =>
      exfalso
      revert e3
      simp (disch := first | assumption | omega | (simp only [List.length_append, List.length_cons, List.length_nil, List.length_map, List.length_reverse, List.length_replicate, List.length_range, List.length_take, List.length_drop, enD_length, rangeD_length]; omega) | (simp; done) | fail) [decide_eq_true, decide_eq_false, kAsg, kNx]
  obtain ⟨t, rfl⟩ := hone
  refine ⟨t, ?_, v2 t (by simp), v3.one, by simp only [sizes, List.length_cons, List.length_nil] at v4; omega⟩
  simp only [List.map_reverse] at hlc w5 e2'
  have w6 := congrArg List.length w5
  simp only [List.length_append, List.length_map, List.length_reverse] at w6
  unfold b_grown_b77c
  simp (disch := first | assumption | omega | (simp only [List.length_append, List.length_cons, List.length_nil, List.length_map, List.length_reverse, List.length_replicate, List.length_range, List.length_take, List.length_drop, enD_length, rangeD_length]; omega) | (simp; done) | fail) [decide_eq_true, decide_eq_false, kAsg, kNx, e1, hle, hlc, w5, e2']
  trace_state
end PL

set_option Elab.async false
set_option linter.all false
set_option maxRecDepth 100000
namespace PL
set_option autoImplicit false
open L2
noncomputable def b_parts_of : Es := (seqS (ifS (e2 gEq (e2 gIx (eVar 0) (eC (.int (0)))) (eC (.str [110, 97, 109, 101]))) (retS (eLst aNil)) skipS)
  (retS (eCall gListOf (aCons (eSl (eVar 0) (oSome (eC (.int (1)))) oNone) aNil))))
noncomputable def b_depth (f_parts_of f_depth : Fn) : Es := (retS (e2 gAdd (eC (.int (1))) (eMaxDf (eLc [1] (iSeq (eFn f_parts_of (aCons (eFrz 0) aNil))) (ftOne 1) fcYes (eFn f_depth (aCons (eFrz 1) aNil))) (eC (.int (0))))))
noncomputable def b_gather_l1 (f_parts_of f_gather : Fn) : Es := (callS [.fz (eFrz 2), .bw 1] f_gather kDrop)
noncomputable def b_gather (f_parts_of f_gather : Fn) : Es := (seqS (ifS (e2 gEq (e2 gIx (eVar 0) (eC (.int (0)))) (eC (.str [110, 97, 109, 101]))) (setD 1 (e2 gIx (eVar 0) (eC (.int (1)))) (eC (.bl true))) skipS)
  (forS (iSeq (eFn f_parts_of (aCons (eFrz 0) aNil))) (ftOne 2) (b_gather_l1 f_parts_of f_gather)))
noncomputable def b_names_in (f_gather : Fn) : Es := (seqS (asgN 1 eDic0)
  (seqS (callS [.fz (eFrz 0), .bw 1] f_gather kDrop)
  (retS (eCall gSorted (aCons (eCall gListA (aCons (eVar 1) aNil)) aNil)))))
noncomputable def b_deep_4d5c (f__law_deep : Fn) : Es := (seqS (ifS (tOo (e2 gEq (eCall gLen (aCons (eVar 0) aNil)) (eC (.int (1)))) (e2 gEq (e2 gIx (eVar 0) (eC (.int (0)))) (eC (.str [110, 97, 109, 101])))) (retS (eC (.int (1)))) skipS)
  (retS (e2 gAdd (eC (.int (1))) (eCall gMax1 (aCons (eLc [1] (iSeq (eSl (eVar 0) (oSome (eC (.int (1)))) oNone)) (ftOne 1) fcYes (eFn f__law_deep (aCons (eFrz 1) aNil))) aNil)))))
noncomputable def b_has_ccb4 (f__law_has : Fn) : Es := (seqS (ifS (e2 gEq (e2 gIx (eVar 0) (eC (.int (0)))) (eC (.str [110, 97, 109, 101]))) (retS (eBl (e2 gEq (e2 gIx (eVar 0) (eC (.int (1)))) (eVar 1)))) skipS)
  (retS (eCall gAny (aCons (eLc [2] (iSeq (eSl (eVar 0) (oSome (eC (.int (1)))) oNone)) (ftOne 2) fcYes (eFn f__law_has (aCons (eFrz 2) (aCons (eFrz 1) aNil)))) aNil))))
noncomputable def b_holds_56de (f_depth f__law_deep f_names_in f__law_has : Fn) : Es := (seqS (asgS (ftOne 2) (eFn f_depth (aCons (eFrz 1) aNil)))
  (seqS (ifS (tOo (tNt (e1 tBool (eBl (e1 (gIsi "int") (eVar 2))))) (tOo (e1 tBool (eBl (e1 (gIsi "bool") (eVar 2)))) (e2 gNe (eVar 2) (eFn f__law_deep (aCons (eFrz 1) aNil))))) (retS (eC (.bl false))) skipS)
  (seqS (asgS (ftOne 3) (eFn f_names_in (aCons (eFrz 1) aNil)))
  (seqS (ifS (tOo (tNt (e1 tBool (eBl (e1 (gIsi "list") (eVar 3))))) (tNt (e1 tBool (eCall gAll (aCons (eLc [4] (iSeq (eVar 3)) (ftOne 4) fcYes (eBl (e1 (gIsi "str") (eVar 4)))) aNil))))) (retS (eC (.bl false))) skipS)
  (retS (eBl (e2 gEq (eVar 3) (eCall gSorted (aCons (eLc [4] (iSeq (eVar 0)) (ftOne 4) (e1 tBool (eFn f__law_has (aCons (eFrz 1) (aCons (eFrz 4) aNil)))) (eFrz 4)) aNil)))))))))
end PL

set_option Elab.async false
set_option linter.all false
set_option maxRecDepth 100000
set_option maxHeartbeats 1000000
/-! LN: depth and names of sentences -/
namespace PL
set_option autoImplicit false
open L2
def T.parts : T → List T
  | .nt t => [t]
  | .bin _ s t => [s, t]
  | _ => []
theorem K4.code_ne (k : K4) : k.code ≠ [110, 97, 109, 101] := by cases k <;> simp [K4.code]
theorem nm_ne (t : T) (h : ∀ x, t ≠ .nm x) : t.kind ≠ [110, 97, 109, 101] := by
  cases t with
  | nm x => exact absurd rfl (h x)
  | bin k s t => exact K4.code_ne k
  | _ => simp [T.kind]
def PartsOk (f : Fn) : Prop := ∀ t : T, f [.val t.toD] = .ok (.val (.lst (t.parts.map T.toD))) [.val t.toD]
theorem parts_ok : PartsOk (bodyF 1 1 1 b_parts_of) := fun t => by
  cases t with
  | bin k s t => have h := K4.code_ne k; simp (disch := first | assumption | omega | (simp only [List.length_append, List.length_cons, List.length_nil, List.length_map, List.length_reverse, List.length_replicate, List.length_range, List.length_take, List.length_drop, enD_length, rangeD_length]; omega) | (simp; done) | fail) [decide_eq_true, decide_eq_false, kAsg, kNx, b_parts_of, T.toD, T.parts, h]
  | _ => simp (disch := first | assumption | omega | (simp only [List.length_append, List.length_cons, List.length_nil, List.length_map, List.length_reverse, List.length_replicate, List.length_range, List.length_take, List.length_drop, enD_length, rangeD_length]; omega) | (simp; done) | fail) [decide_eq_true, decide_eq_false, kAsg, kNx, b_parts_of, T.toD, T.parts]
theorem maxI_one (a : Int) : maxI [a] = a := rfl
theorem maxI_two (a b : Int) : maxI [a, b] = max a b := by
  simp only [maxI, List.foldl_cons, List.foldl_nil]
def DepthOk (n : Nat) (f : Fn) : Prop := ∀ t : T, t.depth ≤ n → f [.val t.toD] = .ok (.val (.int t.depth)) [.val t.toD]
theorem parts_depth {n : Nat} {t : T} (ht : t.depth ≤ n + 1) : ∀ u ∈ t.parts, u.depth ≤ n := by
  intro u hu
  cases t with
  | nt t => simp [T.parts] at hu; subst hu; simp only [T.depth] at ht; omega
  | bin k s t =>
    simp [T.parts] at hu
    simp only [T.depth] at ht
    rcases hu with rfl | rfl <;> omega
  | _ => simp [T.parts] at hu
theorem parts_len (t : T) : t.parts.length ≤ 2 := by cases t <;> simp [T.parts]
theorem depth_ok {n : Nat} {fp fd : Fn} (hp : PartsOk fp) (hd : DepthOk n fd) : DepthOk (n + 1) (bodyF 2 1 1 (b_depth fp fd)) := fun t ht => by
  have h1 := hp t
  have hl := parts_len t
  have hlc : ∀ a : Sl, lcGo [a, .emp] (ftOne 1) fcYes (eFn fd (aCons (eFrz 1) aNil)) (t.parts.map T.toD) = .ok (t.parts.map fun u => .int u.depth) := fun a => lc_map _ _ _ fun u hu => by
    have h2 := hd u (parts_depth ht u hu)
    simp (disch := first | assumption | omega | (simp only [List.length_append, List.length_cons, List.length_nil, List.length_map, List.length_reverse, List.length_replicate, List.length_range, List.length_take, List.length_drop, enD_length, rangeD_length]; omega) | (simp; done) | fail) [decide_eq_true, decide_eq_false, kAsg, kNx, h2]
  have hmx : gMaxDf (.lst (t.parts.map fun u => .int u.depth)) (.int 0) = .ok (.int ((t.depth : Int) - 1)) := by
    have e := gMaxDf_l (t.parts.map fun u => (u.depth : Int)) (.int 0)
    rw [List.map_map] at e
    rw [show (fun u : T => D.int (u.depth : Int)) = D.int ∘ (fun u => (u.depth : Int)) from rfl, e]
    cases t with
    | nt t => simp [T.parts, T.depth, maxI_one]
    | bin k s t => simp only [T.parts, T.depth, List.map_cons, List.map_nil, maxI_two, reduceCtorEq, if_false]; congr 2; omega
    | _ => simp [T.parts, T.depth]
  simp (disch := first | assumption | omega | (simp only [List.length_append, List.length_cons, List.length_nil, List.length_map, List.length_reverse, List.length_replicate, List.length_range, List.length_take, List.length_drop, enD_length, rangeD_length]; omega) | (simp; done) | fail) [decide_eq_true, decide_eq_false, kAsg, kNx, b_depth, h1, hlc, hmx]
  omega
/-! ### the names that stand in a sentence -/
def addN (xs : List (List Nat)) (x : List Nat) : List (List Nat) := if x ∈ xs then xs else xs ++ [x]
def T.names : T → List (List Nat) → List (List Nat)
  | .nm x, xs => addN xs x
  | .nt t, xs => t.names xs
  | .bin _ s t, xs => t.names (s.names xs)
  | _, xs => xs
def metE (xs : List (List Nat)) : List (Kc × D) := xs.map fun x => (.inr x, .bl true)
theorem putC_met (xs : List (List Nat)) (x : List Nat) : putC (metE xs) (.inr x) (.bl true) = metE (addN xs x) := by
  have e1 : ((metE xs).any fun e => decide (e.1 = .inr x)) = decide (x ∈ xs) := by
    unfold metE
    rw [List.any_map]
    induction xs with
    | nil => simp
    | cons a l ih => 
      rw [List.any_cons, ih]
      by_cases h : a = x
      · subst h; simp
      · have h' : ¬ x = a := fun e => h e.symm
        simp [h, h']
  unfold putC addN
  rw [e1]
  by_cases h : x ∈ xs
  · simp only [h, decide_true, if_true]
    unfold metE
    rw [List.map_map]
    refine List.map_congr_left fun y _ => ?_
    simp only [Function.comp]
    split <;> rfl
  · simp only [h, decide_false, if_false, Bool.false_eq_true]
    simp [metE]
theorem addN_len (xs : List (List Nat)) (x : List Nat) : (addN xs x).length ≤ xs.length + 1 := by unfold addN; split <;> simp
theorem names_len : ∀ (t : T) (xs : List (List Nat)), (t.names xs).length ≤ xs.length + t.size
  | .nm x, xs => addN_len xs x
  | .yes, xs => by simp only [T.names, T.size]; omega
  | .no, xs => by simp only [T.names, T.size]; omega
  | .nt t, xs => by have := names_len t xs; simp only [T.names, T.size]; omega
  | .bin _ s t, xs => by
    have h1 := names_len s xs
    have h2 := names_len t (s.names xs)
    simp only [T.names, T.size]; omega
def GatherOk (n : Nat) (f : Fn) : Prop := ∀ (t : T) (xs : List (List Nat)), t.depth ≤ n → xs.length + t.size ≤ 1000000 → f [.val t.toD, .own (.dic (metE xs))] = .ok (.val .non) [.val t.toD, .own (.dic (metE (t.names xs)))]
theorem metE_len (xs : List (List Nat)) : (metE xs).length = xs.length := List.length_map _
theorem fgn (ft : D → R (List (Nat × D))) (fb : Es) (ρ : List Sl) : forGo ft fb [] ρ = .nx ρ := rfl
theorem gather_l1 {n : Nat} {fp fg : Fn} (hg : GatherOk n fg) (u : T) (xs : List (List Nat)) (hu : u.depth ≤ n) (hx : xs.length + u.size ≤ 1000000) (a : Sl) : b_gather_l1 fp fg [a, .own (.dic (metE xs)), .val u.toD] = .nx [a, .own (.dic (metE (u.names xs))), .val u.toD] := by
  have h := hg u xs hu hx
  simp (disch := first | assumption | omega | (simp only [List.length_append, List.length_cons, List.length_nil, List.length_map, List.length_reverse, List.length_replicate, List.length_range, List.length_take, List.length_drop, enD_length, rangeD_length]; omega) | (simp; done) | fail) [decide_eq_true, decide_eq_false, kAsg, kNx, b_gather_l1, h]
theorem gather_ok {n : Nat} {fp fg : Fn} (hp : PartsOk fp) (hg : GatherOk n fg) : GatherOk (n + 1) (bodyF 3 2 2 (b_gather fp fg)) := fun t xs ht hx => by
  have h1 := hp t
  cases t with
  | nm x =>
    have e := putC_met xs x
    have hm : (metE xs).length < 1000000 := by rw [metE_len]; simp only [T.size] at hx; omega
    simp only [T.toD, T.parts, List.map_nil] at h1
    simp (disch := first | assumption | omega | (simp only [List.length_append, List.length_cons, List.length_nil, List.length_map, List.length_reverse, List.length_replicate, List.length_range, List.length_take, List.length_drop, enD_length, rangeD_length]; omega) | (simp; done) | fail) [decide_eq_true, decide_eq_false, kAsg, kNx, b_gather, h1, T.toD, T.names, key_str, e, fgn]
  | yes => 
    simp only [T.toD, T.parts, List.map_nil] at h1
    simp (disch := first | assumption | omega | (simp only [List.length_append, List.length_cons, List.length_nil, List.length_map, List.length_reverse, List.length_replicate, List.length_range, List.length_take, List.length_drop, enD_length, rangeD_length]; omega) | (simp; done) | fail) [decide_eq_true, decide_eq_false, kAsg, kNx, b_gather, h1, T.toD, T.names, fgn]
  | no => 
    simp only [T.toD, T.parts, List.map_nil] at h1
    simp (disch := first | assumption | omega | (simp only [List.length_append, List.length_cons, List.length_nil, List.length_map, List.length_reverse, List.length_replicate, List.length_range, List.length_take, List.length_drop, enD_length, rangeD_length]; omega) | (simp; done) | fail) [decide_eq_true, decide_eq_false, kAsg, kNx, b_gather, h1, T.toD, T.names, fgn]
  | nt t => 
    simp only [T.depth, T.size] at ht hx
    have g := fun (a b : Sl) => forGo_cons_nx (ft := ftOne 2) (fb := b_gather_l1 fp fg) (d := t.toD) (ds := []) (ρ := [a, .own (.dic (metE xs)), b]) rfl (gather_l1 hg t xs (by omega) (by omega) a)
    simp only [T.toD, T.parts, List.map_nil, List.map_cons] at h1
    simp (disch := first | assumption | omega | (simp only [List.length_append, List.length_cons, List.length_nil, List.length_map, List.length_reverse, List.length_replicate, List.length_range, List.length_take, List.length_drop, enD_length, rangeD_length]; omega) | (simp; done) | fail) [decide_eq_true, decide_eq_false, kAsg, kNx, b_gather, h1, T.toD, T.names, g, fgn]
  | bin k s t => 
    have hk := K4.code_ne k
    simp only [T.depth, T.size] at ht hx
    have hs := names_len s xs
    have g := fun (a b : Sl) => forGo_cons_nx (ft := ftOne 2) (fb := b_gather_l1 fp fg) (d := s.toD) (ds := [t.toD]) (ρ := [a, .own (.dic (metE xs)), b]) rfl (gather_l1 hg s xs (by omega) (by omega) a)
    have g2 := fun (a b : Sl) => forGo_cons_nx (ft := ftOne 2) (fb := b_gather_l1 fp fg) (d := t.toD) (ds := []) (ρ := [a, .own (.dic (metE (s.names xs))), b]) rfl (gather_l1 hg t (s.names xs) (by omega) (by omega) a)
    simp only [T.toD, T.parts, List.map_nil, List.map_cons] at h1
    simp (disch := first | assumption | omega | (simp only [List.length_append, List.length_cons, List.length_nil, List.length_map, List.length_reverse, List.length_replicate, List.length_range, List.length_take, List.length_drop, enD_length, rangeD_length]; omega) | (simp; done) | fail) [decide_eq_true, decide_eq_false, kAsg, kNx, b_gather, h1, T.toD, T.names, g, g2, hk, fgn]
theorem sortOf_nil {α : Type} (le : α → α → Prop) : sortOf le ([] : List α) = [] := by
  unfold sortOf sortP
  split
  next h => exact List.perm_nil.mp (Classical.choose_spec h).1
  next => rfl
theorem sortOf_mem {α : Type} {le : α → α → Prop} {xs : List α} {x : α} (h : x ∈ sortOf le xs) : x ∈ xs := by
  unfold sortOf sortP at h
  split at h
  next g => exact (Classical.choose_spec g).1.mem_iff.mp h
  next => cases h
theorem sortOf_len {α : Type} (le : α → α → Prop) (xs : List α) : (sortOf le xs).length ≤ xs.length := by
  unfold sortOf sortP
  split
  next g => exact Nat.le_of_eq (Classical.choose_spec g).1.length_eq
  next => exact Nat.zero_le _
theorem all_tt {α : Type} : ∀ l : List α, (l.all fun _ => true) = true
  | [] => rfl
  | _ :: l => all_tt l
theorem gSorted_s (xs : List (List Nat)) (h : xs.length < 64) : gSorted [.lst (xs.map .str)] = .ok (.lst ((sortOf leS xs).map .str)) := by
  cases xs with
  | nil => rw [sortOf_nil]; simp [gSorted, D.ints, sortOf_nil]
  | cons x xs =>
    have e : D.ints ((x :: xs).map D.str) = none := rfl
    have e2 : D.strs ((x :: xs).map D.str) = some (x :: xs) := by have := strs_map (fun x : List Nat => x) (x :: xs); simpa using this
    unfold gSorted
    simp only [e, e2]
    exact if_pos h
theorem map_keyD (xs : List (List Nat)) : (metE xs).map (fun q => keyD q.1) = xs.map .str := by
  unfold metE
  rw [List.map_map]
  rfl
def NamesInOk (n : Nat) (f : Fn) : Prop := ∀ t : T, t.depth ≤ n → t.size ≤ 1000000 → (t.names []).length < 64 → f [.val t.toD] = .ok (.val (.lst ((sortOf leS (t.names [])).map .str))) [.val t.toD]
theorem names_in_ok {n : Nat} {fg : Fn} (hg : GatherOk n fg) : NamesInOk n (bodyF 2 1 1 (b_names_in fg)) := fun t ht hs hl => by
  have h := hg t [] ht (by simpa using hs)
  have e : metE [] = [] := rfl
  rw [e] at h
  have h2 := gSorted_s _ hl
  have h3 := map_keyD (t.names [])
  have h4 := gListA_d (metE (t.names []))
  rw [h3] at h4
  simp (disch := first | assumption | omega | (simp only [List.length_append, List.length_cons, List.length_nil, List.length_map, List.length_reverse, List.length_replicate, List.length_range, List.length_take, List.length_drop, enD_length, rangeD_length]; omega) | (simp; done) | fail) [decide_eq_true, decide_eq_false, kAsg, kNx, b_names_in, h, h4, h2]
/-! ### the laws' own -/
theorem deep_ok {n : Nat} {fd : Fn} (hd : DepthOk n fd) : DepthOk (n + 1) (bodyF 2 1 1 (b_deep_4d5c fd)) := fun t ht => by
  cases t with
  | nm x => simp (disch := first | assumption | omega | (simp only [List.length_append, List.length_cons, List.length_nil, List.length_map, List.length_reverse, List.length_replicate, List.length_range, List.length_take, List.length_drop, enD_length, rangeD_length]; omega) | (simp; done) | fail) [decide_eq_true, decide_eq_false, kAsg, kNx, b_deep_4d5c, T.toD, T.depth]
  | yes => simp (disch := first | assumption | omega | (simp only [List.length_append, List.length_cons, List.length_nil, List.length_map, List.length_reverse, List.length_replicate, List.length_range, List.length_take, List.length_drop, enD_length, rangeD_length]; omega) | (simp; done) | fail) [decide_eq_true, decide_eq_false, kAsg, kNx, b_deep_4d5c, T.toD, T.depth]
  | no => simp (disch := first | assumption | omega | (simp only [List.length_append, List.length_cons, List.length_nil, List.length_map, List.length_reverse, List.length_replicate, List.length_range, List.length_take, List.length_drop, enD_length, rangeD_length]; omega) | (simp; done) | fail) [decide_eq_true, decide_eq_false, kAsg, kNx, b_deep_4d5c, T.toD, T.depth]
  | nt t =>
    simp only [T.depth] at ht
    have h2 := hd t (by omega)
    have hlc : ∀ a : Sl, lcGo [a, .emp] (ftOne 1) fcYes (eFn fd (aCons (eFrz 1) aNil)) ([t].map T.toD) = .ok ([t].map fun u => .int u.depth) := fun a => lc_map _ _ _ fun u hu => by
      simp at hu; subst hu
      simp (disch := first | assumption | omega | (simp only [List.length_append, List.length_cons, List.length_nil, List.length_map, List.length_reverse, List.length_replicate, List.length_range, List.length_take, List.length_drop, enD_length, rangeD_length]; omega) | (simp; done) | fail) [decide_eq_true, decide_eq_false, kAsg, kNx, h2]
    have hm := gMax1_l [(t.depth : Int)] (by simp)
    simp only [List.map_cons, List.map_nil, maxI_one] at hlc hm
    simp (disch := first | assumption | omega | (simp only [List.length_append, List.length_cons, List.length_nil, List.length_map, List.length_reverse, List.length_replicate, List.length_range, List.length_take, List.length_drop, enD_length, rangeD_length]; omega) | (simp; done) | fail) [decide_eq_true, decide_eq_false, kAsg, kNx, b_deep_4d5c, T.toD, T.depth, hlc, hm]
    omega
  | bin k s t =>
    have hk := K4.code_ne k
    simp only [T.depth] at ht
    have h1 := hd s (by omega)
    have h2 := hd t (by omega)
    have hlc : ∀ a : Sl, lcGo [a, .emp] (ftOne 1) fcYes (eFn fd (aCons (eFrz 1) aNil)) ([s, t].map T.toD) = .ok ([s, t].map fun u => .int u.depth) := fun a => lc_map _ _ _ fun u hu => by
      simp at hu
      rcases hu with rfl | rfl
      · simp (disch := first | assumption | omega | (simp only [List.length_append, List.length_cons, List.length_nil, List.length_map, List.length_reverse, List.length_replicate, List.length_range, List.length_take, List.length_drop, enD_length, rangeD_length]; omega) | (simp; done) | fail) [decide_eq_true, decide_eq_false, kAsg, kNx, h1]
      · simp (disch := first | assumption | omega | (simp only [List.length_append, List.length_cons, List.length_nil, List.length_map, List.length_reverse, List.length_replicate, List.length_range, List.length_take, List.length_drop, enD_length, rangeD_length]; omega) | (simp; done) | fail) [decide_eq_true, decide_eq_false, kAsg, kNx, h2]
    have hm := gMax1_l [(s.depth : Int), t.depth] (by simp)
    simp only [List.map_cons, List.map_nil, maxI_two] at hlc hm
    simp (disch := first | assumption | omega | (simp only [List.length_append, List.length_cons, List.length_nil, List.length_map, List.length_reverse, List.length_replicate, List.length_range, List.length_take, List.length_drop, enD_length, rangeD_length]; omega) | (simp; done) | fail) [decide_eq_true, decide_eq_false, kAsg, kNx, b_deep_4d5c, T.toD, T.depth, hlc, hm, hk]
    omega
def T.has (x : List Nat) : T → Bool
  | .nm y => decide (y = x)
  | .nt t => t.has x
  | .bin _ s t => s.has x || t.has x
  | _ => false
def LHasOk (n : Nat) (f : Fn) : Prop := ∀ (t : T) (x : List Nat), t.depth ≤ n → f [.val t.toD, .val (.str x)] = .ok (.val (.bl (t.has x))) [.val t.toD, .val (.str x)]
theorem has_ok {n : Nat} {fh : Fn} (hh : LHasOk n fh) : LHasOk (n + 1) (bodyF 3 2 2 (b_has_ccb4 fh)) := fun t x ht => by
  have g0 : gAny [.lst []] = .ok (.bl false) := rfl
  cases t with
  | nm y => simp (disch := first | assumption | omega | (simp only [List.length_append, List.length_cons, List.length_nil, List.length_map, List.length_reverse, List.length_replicate, List.length_range, List.length_take, List.length_drop, enD_length, rangeD_length]; omega) | (simp; done) | fail) [decide_eq_true, decide_eq_false, kAsg, kNx, b_has_ccb4, T.toD, T.has]
  | yes => 
    have e : cutL [D.str [121, 101, 115]] (some 1) none = [] := by rw [cut_from _ _ (by decide)]; rfl
    have e2 : gSl (some 1) none (.tup [D.str [121, 101, 115]]) = .ok (.tup []) := by simp
    simp (disch := first | assumption | omega | (simp only [List.length_append, List.length_cons, List.length_nil, List.length_map, List.length_reverse, List.length_replicate, List.length_range, List.length_take, List.length_drop, enD_length, rangeD_length]; omega) | (simp; done) | fail) [decide_eq_true, decide_eq_false, kAsg, kNx, b_has_ccb4, T.toD, T.has, e2, lcGo, g0]
  | no => 
    have e2 : gSl (some 1) none (.tup [D.str [110, 111]]) = .ok (.tup []) := by simp
    simp (disch := first | assumption | omega | (simp only [List.length_append, List.length_cons, List.length_nil, List.length_map, List.length_reverse, List.length_replicate, List.length_range, List.length_take, List.length_drop, enD_length, rangeD_length]; omega) | (simp; done) | fail) [decide_eq_true, decide_eq_false, kAsg, kNx, b_has_ccb4, T.toD, T.has, e2, lcGo, g0]
  | nt t =>
    simp only [T.depth] at ht
    have h2 := hh t x (by omega)
    have hlc : ∀ a : Sl, lcGo [a, .val (.str x), .emp] (ftOne 2) fcYes (eFn fh (aCons (eFrz 2) (aCons (eFrz 1) aNil))) ([t].map T.toD) = .ok ([t].map fun u => .bl (u.has x)) := fun a => lc_map _ _ _ fun u hu => by
      simp at hu; subst hu
      simp (disch := first | assumption | omega | (simp only [List.length_append, List.length_cons, List.length_nil, List.length_map, List.length_reverse, List.length_replicate, List.length_range, List.length_take, List.length_drop, enD_length, rangeD_length]; omega) | (simp; done) | fail) [decide_eq_true, decide_eq_false, kAsg, kNx, h2]
    have hm := gAny_f (fun u : T => u.has x) [t]
    simp only [List.map_cons, List.map_nil] at hlc hm
    simp (disch := first | assumption | omega | (simp only [List.length_append, List.length_cons, List.length_nil, List.length_map, List.length_reverse, List.length_replicate, List.length_range, List.length_take, List.length_drop, enD_length, rangeD_length]; omega) | (simp; done) | fail) [decide_eq_true, decide_eq_false, kAsg, kNx, b_has_ccb4, T.toD, T.has, hlc, hm]
  | bin k s t =>
    have hk := K4.code_ne k
    simp only [T.depth] at ht
    have h1 := hh s x (by omega)
    have h2 := hh t x (by omega)
    have hlc : ∀ a : Sl, lcGo [a, .val (.str x), .emp] (ftOne 2) fcYes (eFn fh (aCons (eFrz 2) (aCons (eFrz 1) aNil))) ([s, t].map T.toD) = .ok ([s, t].map fun u => .bl (u.has x)) := fun a => lc_map _ _ _ fun u hu => by
      simp at hu
      rcases hu with rfl | rfl
      · simp (disch := first | assumption | omega | (simp only [List.length_append, List.length_cons, List.length_nil, List.length_map, List.length_reverse, List.length_replicate, List.length_range, List.length_take, List.length_drop, enD_length, rangeD_length]; omega) | (simp; done) | fail) [decide_eq_true, decide_eq_false, kAsg, kNx, h1]
      · simp (disch := first | assumption | omega | (simp only [List.length_append, List.length_cons, List.length_nil, List.length_map, List.length_reverse, List.length_replicate, List.length_range, List.length_take, List.length_drop, enD_length, rangeD_length]; omega) | (simp; done) | fail) [decide_eq_true, decide_eq_false, kAsg, kNx, h2]
    have hm := gAny_f (fun u : T => u.has x) [s, t]
    simp only [List.map_cons, List.map_nil] at hlc hm
    simp (disch := first | assumption | omega | (simp only [List.length_append, List.length_cons, List.length_nil, List.length_map, List.length_reverse, List.length_replicate, List.length_range, List.length_take, List.length_drop, enD_length, rangeD_length]; omega) | (simp; done) | fail) [decide_eq_true, decide_eq_false, kAsg, kNx, b_has_ccb4, T.toD, T.has, hlc, hm, hk]
/-! ### plain: which names stand in a sentence -/
theorem addN_mem (xs : List (List Nat)) (x y : List Nat) : y ∈ addN xs x ↔ y ∈ xs ∨ y = x := by
  unfold addN
  split
  next h => exact ⟨.inl, fun g => g.elim id fun e => e ▸ h⟩
  next h => simp
theorem addN_nodup (xs : List (List Nat)) (x : List Nat) (h : xs.Nodup) : (addN xs x).Nodup := by
  unfold addN
  split
  · exact h
  next g => exact List.nodup_append.mpr ⟨h, by simp, fun a ha b hb => by simp at hb; subst hb; exact fun e => g (e ▸ ha)⟩
theorem names_mem : ∀ (t : T) (xs : List (List Nat)) (y : List Nat), y ∈ t.names xs ↔ y ∈ xs ∨ t.has y = true
  | .nm x, xs, y => by
    simp only [T.names, T.has, addN_mem, decide_eq_true_eq]
    exact ⟨fun h => h.imp id fun e => e.symm, fun h => h.imp id fun e => e.symm⟩
  | .yes, xs, y => by simp [T.names, T.has]
  | .no, xs, y => by simp [T.names, T.has]
  | .nt t, xs, y => names_mem t xs y
  | .bin _ s t, xs, y => by
    simp only [T.names, T.has, Bool.or_eq_true]
    rw [names_mem t, names_mem s, or_assoc]
theorem names_nodup : ∀ (t : T) (xs : List (List Nat)), xs.Nodup → (t.names xs).Nodup
  | .nm x, xs, h => addN_nodup xs x h
  | .yes, xs, h => h
  | .no, xs, h => h
  | .nt t, xs, h => names_nodup t xs h
  | .bin _ s t, xs, h => names_nodup t _ (names_nodup s xs h)
theorem has_in {ns : List (List Nat)} {y : List Nat} : ∀ {t : T}, t.nmIn ns → t.has y = true → y ∈ ns
  | .nm x, h, e => by simp only [T.has, decide_eq_true_eq] at e; subst e; exact h
  | .yes, _, e => by cases e
  | .no, _, e => by cases e
  | .nt t, h, e => has_in (t := t) h e
  | .bin _ s t, h, e => by
    simp only [T.has, Bool.or_eq_true] at e
    rcases e with e | e
    · exact has_in h.1 e
    · exact has_in h.2 e
theorem perm_of {α : Type} [DecidableEq α] : ∀ {xs ys : List α}, xs.Nodup → ys.Nodup → (∀ a, a ∈ xs ↔ a ∈ ys) → xs.Perm ys
  | [], ys, _, _, h => by
    cases ys with
    | nil => exact .nil
    | cons y ys => exact absurd ((h y).mpr (by simp)) (by simp)
  | x :: xs, ys, hx, hy, h => by
    have hm : x ∈ ys := (h x).mp (by simp)
    have p := List.perm_cons_erase hm
    refine (List.Perm.cons x (perm_of (List.nodup_cons.mp hx).2 (hy.erase x) fun a => ?_)).trans p.symm
    rw [hy.mem_erase_iff]
    constructor
    · intro ha
      exact ⟨fun e => (List.nodup_cons.mp hx).1 (e ▸ ha), (h a).mp (by simp [ha])⟩
    · rintro ⟨h1, h2⟩
      rcases List.mem_cons.mp ((h a).mpr h2) with e | e
      · exact absurd e h1
      · exact e
theorem names_filter {ns : List (List Nat)} (hn : ns.Nodup) {t : T} (h : t.nmIn ns) : sortOf leS (t.names []) = sortOf leS (ns.filter fun x => t.has x) :=
  sortOf_perm _ (perm_of (names_nodup t [] (by simp)) (List.Pairwise.filter _ hn) fun a => by
    rw [names_mem, List.mem_filter]
    constructor
    · rintro (h1 | h1)
      · cases h1
      · exact ⟨has_in h h1, h1⟩
    · rintro ⟨_, h1⟩
      exact .inr h1)
theorem names_le {ns : List (List Nat)} (hn : ns.Nodup) {t : T} (h : t.nmIn ns) : (t.names []).length ≤ ns.length := by
  have p : (t.names []).Perm (ns.filter fun x => t.has x) := perm_of (names_nodup t [] (by simp)) (List.Pairwise.filter _ hn) fun a => by
    rw [names_mem, List.mem_filter]
    constructor
    · rintro (h1 | h1)
      · cases h1
      · exact ⟨has_in h h1, h1⟩
    · rintro ⟨_, h1⟩
      exact .inr h1
  rw [p.length_eq]
  exact List.length_filter_le _ _
/-! ### the names of a script are good -/
theorem nodup_range {α : Type} (f : Nat → α) (m : Nat) (h : ∀ i j, i < j → j < m → f i ≠ f j) : ((List.range m).map f).Nodup := by
  refine List.pairwise_map.mpr ?_
  have hp : (List.range m).Pairwise (fun a b => a < b) := List.pairwise_lt_range
  refine List.Pairwise.imp_of_mem (fun {a b} ha hb hab => h a b hab (List.mem_range.mp hb)) hp
theorem signL_ne (r : Int) (i j : Nat) (h : i < j) (hj : j < 8) : signL r i ≠ signL r j := by
  unfold signL letter
  omega
theorem namesA_nodup (c : Int) (m : Nat) (hm : m ≤ 8) : (namesA c m).Nodup := by
  unfold namesA
  dsimp only
  have hsl : (stemL (c / 3)).length = 8 := by simp [stemL]
  split
  · refine nodup_range _ _ fun i j h hj e => ?_
    rw [List.append_assoc, List.append_assoc] at e
    have e2 := List.append_cancel_left e
    simp only [List.singleton_append, List.cons.injEq] at e2
    exact signL_ne _ i j h (by omega) e2.1
  · split
    · refine nodup_range _ _ fun i j h hj e => ?_
      have e2 := congrArg List.length e
      simp only [List.length_take, hsl] at e2
      omega
    · refine nodup_range _ _ fun i j h hj e => ?_
      simp only [List.cons.injEq] at e
      exact signL_ne _ i j h (by omega) e.1
theorem letter_ok (i : Int) : letter i < 1114112 := by unfold letter; omega
theorem stemL_ok (r : Int) : chOk (stemL r) := fun c hc => by
  obtain ⟨k, _, rfl⟩ := List.mem_map.mp hc
  exact letter_ok _
theorem namesA_ok (c : Int) (m : Nat) : nmOk (namesA c m) := by
  intro x hx y hy
  unfold namesA at hx
  dsimp only at hx
  have hs := stemL_ok (c / 3)
  split at hx
  · obtain ⟨k, _, rfl⟩ := List.mem_map.mp hx
    simp only [List.mem_append, List.mem_singleton] at hy
    rcases hy with (hy | hy) | hy
    · exact hs y (List.mem_of_mem_take hy)
    · rw [hy]; exact letter_ok _
    · exact hs y (List.mem_of_mem_take (List.mem_of_mem_drop hy))
  · split at hx
    · obtain ⟨k, _, rfl⟩ := List.mem_map.mp hx
      exact hs y (List.mem_of_mem_take hy)
    · obtain ⟨k, _, rfl⟩ := List.mem_map.mp hx
      rcases List.mem_cons.mp hy with hy | hy
      · rw [hy]; exact letter_ok _
      · exact hs y (List.mem_of_mem_take hy)
end PL

set_option Elab.async false
set_option linter.all false
set_option maxRecDepth 100000
set_option maxHeartbeats 1000000
/-! LP: minds and pouring -/
namespace PL
set_option autoImplicit false
open PySem L2
def intsD (ns : List Int) : List D := ns.map .int
def mindD (ns : List (List Nat)) (rk : List Int) : D := .tup [nmD ns, .tup (rk.map .int)]
theorem okd_mind {ns : List (List Nat)} (h : nmOk ns) (rk : List Int) : Okd 2 (mindD ns rk) := okd_tup fun d hd => by
  simp only [List.mem_cons, List.not_mem_nil, or_false] at hd
  rcases hd with rfl | rfl
  · exact okd_nm h
  · exact okd_tup (okd_ints rk)
def lowL (ms : List Int) : List Int := ms.map fun m => m - minI ms
def LoweredOk (f : Fn) : Prop := ∀ (xs : List D) (ms : List Int), ms ≠ [] → ms.length ≤ 1000 → f [.val (.tup xs), .val (.lst (ms.map .int))] = .ok (.val (.tup [.tup xs, .tup ((lowL ms).map .int)])) [.val (.tup xs), .val (.lst (ms.map .int))]
theorem lowered_ok : LoweredOk (bodyF 4 2 2 b_lowered) := fun xs ms hne hl => by
  have h1 := gMin1_l ms hne
  simp (disch := first | assumption | omega | (simp only [List.length_append, List.length_cons, List.length_nil, List.length_map, List.length_reverse, List.length_replicate, List.length_range, List.length_take, List.length_drop, enD_length, rangeD_length]; omega) | (simp; done) | fail) [decide_eq_true, decide_eq_false, kAsg, kNx, b_lowered, h1]
  rw [lc_map D.int (fun m => .int (m - minI ms)) ms (fun m hm => by simp (disch := first | assumption | omega | (simp only [List.length_append, List.length_cons, List.length_nil, List.length_map, List.length_reverse, List.length_replicate, List.length_range, List.length_take, List.length_drop, enD_length, rangeD_length]; omega) | (simp; done) | fail) [decide_eq_true, decide_eq_false, kAsg, kNx])]
  simp (disch := first | assumption | omega | (simp only [List.length_append, List.length_cons, List.length_nil, List.length_map, List.length_reverse, List.length_replicate, List.length_range, List.length_take, List.length_drop, enD_length, rangeD_length]; omega) | (simp; done) | fail) [decide_eq_true, decide_eq_false, kAsg, kNx, lowL, Function.comp_def]
def SharedOk (f : Fn) : Prop := ∀ (ns : List (List Nat)) (rks : List (List Int)), nmOk ns → rks ≠ [] → rks.length ≤ 1000 → f [.val (.lst (rks.map (mindD ns)))] = .ok (.val (nmD ns)) [.val (.lst (rks.map (mindD ns)))]
theorem shared_ok : SharedOk (bodyF 3 1 1 b_shared_names) := fun ns rks hn hne hl => by
  cases rks with
  | nil => exact absurd rfl hne
  | cons r rks =>
    have hx := gNe_refl (okd_nm hn) (by decide)
    obtain ⟨ρ', h1, y, rfl⟩ := forGo_nxt (ft := ftOne 2) (fb := b_shared_names_l1) ((r :: rks).map (mindD ns)) (fun _ ρ => ∃ y, ρ = [.val (.lst ((r :: rks).map (mindD ns))), .val (nmD ns), y]) [.val (.lst ((r :: rks).map (mindD ns))), .val (nmD ns), .emp] ⟨_, rfl⟩ (fun i d ρ hd ⟨y, e⟩ => by
      subst e
      obtain ⟨q, hq⟩ : ∃ q, d = mindD ns q := by
        rw [List.getElem?_map] at hd
        cases h : (r :: rks)[i]? with
        | none => rw [h] at hd; cases hd
        | some q => rw [h] at hd; exact ⟨q, by simpa using hd.symm⟩
      subst hq
      refine ⟨_, rfl, ?_⟩
      simp (disch := first | assumption | omega | (simp only [List.length_append, List.length_cons, List.length_nil, List.length_map, List.length_reverse, List.length_replicate, List.length_range, List.length_take, List.length_drop, enD_length, rangeD_length]; omega) | (simp; done) | fail) [decide_eq_true, decide_eq_false, kAsg, kNx, b_shared_names_l1, mindD, hx])
    simp only [List.map_cons, mindD] at h1
    simp (disch := first | assumption | omega | (simp only [List.length_append, List.length_cons, List.length_nil, List.length_map, List.length_reverse, List.length_replicate, List.length_range, List.length_take, List.length_drop, enD_length, rangeD_length]; omega) | (simp; done) | fail) [decide_eq_true, decide_eq_false, kAsg, kNx, b_shared_names, mindD, h1]
/-- one mind's share -/
def addW (w : Int) (s r : List Int) : List Int := List.zipWith (fun a b => a + w * b) s r
theorem addW_len (w : Int) (s r : List Int) : (addW w s r).length = min s.length r.length := by simp [addW]
theorem addW_at (w : Int) (s r : List Int) (i : Nat) (a b : Int) (h : s[i]? = some a) (g : r[i]? = some b) : (addW w s r)[i]? = some (a + w * b) := by simp [addW, List.getElem?_zipWith, h, g]
theorem step_set {α : Type} (t s : List α) (i : Nat) (x : α) (h : t[i]? = some x) (hl : t.length = s.length) : (t.take i ++ s.drop i).set i x = t.take (i + 1) ++ s.drop (i + 1) := by
  have hi : i < t.length := (List.getElem?_eq_some_iff.mp h).1
  have e : (t.take i).length = i := by simp; omega
  have e2 : s.drop i = s[i]'(by omega) :: s.drop (i + 1) := by rw [List.drop_eq_getElem_cons]
  rw [List.set_append, if_neg (by omega), e, Nat.sub_self, e2, List.set_cons_zero, List.take_succ, h]
  simp
theorem step_set0 {α : Type} (t s : List α) (i : Nat) (x : α) (h : t[i]? = some x) (hl : t.length = s.length) : t.take i ++ (s.drop i).set 0 x = t.take (i + 1) ++ s.drop (i + 1) := by
  have hi : i < t.length := (List.getElem?_eq_some_iff.mp h).1
  have e2 : s.drop i = s[i]'(by omega) :: s.drop (i + 1) := by rw [List.drop_eq_getElem_cons]
  rw [e2, List.set_cons_zero, List.take_succ, h]
  simp
theorem step_get {α : Type} (t s : List α) (i : Nat) (hl : t.length = s.length) (hi : i < t.length) : (t.take i ++ s.drop i)[i]? = s[i]? := by
  rw [List.getElem?_append_right (by simp; omega)]
  simp
  congr 1
  omega
def pairD (ns : List (List Nat)) (p : List Int × Int) : D := .tup [mindD ns p.1, .int p.2]
def goodP (n : Nat) (p : List Int × Int) : Prop := p.1.length = 2 ^ n ∧ (∀ r ∈ p.1, bigOk r) ∧ bigOk p.2
theorem inner_ok (f1 f2 : Fn) (ns : List (List Nat)) (s r : List Int) (w : Int) (hl : s.length = r.length) (hs : s.length ≤ 1000) (hw : bigOk w) (hr : ∀ x ∈ r, bigOk x) (a0 a1 a3 a7 x5 x6 : Sl) :
    ∃ y5 y6, forGo (ftTup [5, 6]) (b_poured_l1 f1 f2) (enD 0 (r.map .int)) [a0, a1, .own (.lst (s.map .int)), a3, .val (.int w), x5, x6, a7] = .nx [a0, a1, .own (.lst ((addW w s r).map .int)), a3, .val (.int w), y5, y6, a7] := by
  have hlen : (addW w s r).length = s.length := by rw [addW_len]; omega
  obtain ⟨ρ', h1, y5, y6, rfl⟩ := forGo_nxt (ft := ftTup [5, 6]) (fb := b_poured_l1 f1 f2) (enD 0 (r.map .int)) (fun i ρ => ∃ y5 y6, ρ = [a0, a1, .own (.lst (((addW w s r).take i ++ s.drop i).map .int)), a3, .val (.int w), y5, y6, a7]) [a0, a1, .own (.lst (s.map .int)), a3, .val (.int w), x5, x6, a7] ⟨x5, x6, by simp⟩ (fun i d ρ hd ⟨y5, y6, e⟩ => by
    subst e
    have hi : i < r.length := by have := (List.getElem?_eq_some_iff.mp hd).1; rw [enD_length] at this; simpa using this
    have hr' : r[i]? = some r[i] := List.getElem?_eq_getElem hi
    have hs' : s[i]? = some (s[i]'(by omega)) := List.getElem?_eq_getElem (by omega)
    rw [enD_get, List.getElem?_map, hr'] at hd
    have ed : d = .tup [.int (i : Nat), .int r[i]] := by simpa using hd.symm
    subst ed
    have ha := addW_at w s r i _ _ hs' hr'
    have hg : (((addW w s r).take i ++ s.drop i).map D.int)[i]? = some (.int (s[i]'(by omega))) := by
      rw [List.getElem?_map, step_get _ _ _ hlen (by omega), hs']; rfl
    have hm := gMul_big hw (hr r[i] (List.getElem_mem hi))
    refine ⟨_, rfl, ?_⟩
    simp (disch := first | assumption | omega | (simp only [List.length_append, List.length_cons, List.length_nil, List.length_map, List.length_reverse, List.length_replicate, List.length_range, List.length_take, List.length_drop, enD_length, rangeD_length]; omega) | (simp; done) | fail) [decide_eq_true, decide_eq_false, kAsg, kNx, b_poured_l1, ftTup]
    rw [augI_int _ _ _ _ _ i _ (by omega) (by simpa using hg)]
    simp (disch := first | assumption | omega | (simp only [List.length_append, List.length_cons, List.length_nil, List.length_map, List.length_reverse, List.length_replicate, List.length_range, List.length_take, List.length_drop, enD_length, rangeD_length]; omega) | (simp; done) | fail) [decide_eq_true, decide_eq_false, kAsg, kNx, hm]
    have h3 := step_set0 ((addW w s r).map D.int) (s.map D.int) i (.int (s[i] + w * r[i])) (by rw [List.getElem?_map, ha]; rfl) (by simp [hlen])
    simpa using h3)
  rw [enD_length, List.length_map] at h1
  have e : (addW w s r).take r.length ++ s.drop r.length = addW w s r := by
    rw [List.take_of_length_le (by omega), List.drop_of_length_le (by omega), List.append_nil]
  rw [e] at h1
  exact ⟨y5, y6, h1⟩
theorem gShl_one (n : Nat) (h : n ≤ 1000) : gShl (.int 1) (.int (n : Nat)) = .ok (.int ((2 ^ n : Nat) : Int)) := by
  have e : (1 : Int).natAbs < 2 ^ 10000 := by rw [show (1 : Int).natAbs = 2 ^ 0 from rfl]; exact Nat.pow_lt_pow_right (by decide) (by decide)
  rw [gShl_ok (by omega) (by omega) e]
  simp
theorem gRep_zero (N : Nat) (h : N ≤ 1000) : gRep (.lst [.int 0]) (.int (N : Nat)) = .ok (.lst ((List.replicate N (0 : Int)).map .int)) := by
  have e : (List.replicate N [D.int 0]).flatten = (List.replicate N (0 : Int)).map .int := by
    clear h
    induction N with
    | zero => rfl
    | succ n ih => simp only [List.replicate_succ, List.flatten_cons, ih]; rfl
  rw [gRep_li _ _ (by omega) (by omega) (by show 1 * ((N : Nat) : Int).toNat ≤ 1000000; omega), Int.toNat_natCast, e]
/-- the outer loop of poured -/
def sumsL (n : Nat) (ps : List (List Int × Int)) : List Int := ps.foldl (fun s p => addW p.2 s p.1) (List.replicate (2 ^ n) 0)
theorem foldl_len (n : Nat) : ∀ (ps : List (List Int × Int)) (s : List Int), s.length = n → (∀ p ∈ ps, p.1.length = n) → (ps.foldl (fun s p => addW p.2 s p.1) s).length = n
  | [], s, h, _ => h
  | p :: ps, s, h, hp => foldl_len n ps _ (by have := hp p (by simp); rw [addW_len]; omega) fun q hq => hp q (by simp [hq])
theorem outer_ok (f1 f2 : Fn) (ns : List (List Nat)) (n : Nat) (hn : n ≤ 8) : ∀ (ps : List (List Int × Int)) (s : List Int), s.length = 2 ^ n → (∀ p ∈ ps, goodP n p) → ∀ (a0 a1 a7 x3 x4 x5 x6 : Sl),
    ∃ y3 y4 y5 y6, forGo (ftTup [3, 4]) (b_poured_l2 f1 f2) (ps.map (pairD ns)) [a0, a1, .own (.lst (s.map .int)), x3, x4, x5, x6, a7] = .nx [a0, a1, .own (.lst ((ps.foldl (fun s p => addW p.2 s p.1) s).map .int)), y3, y4, y5, y6, a7]
  | [], s, _, _, a0, a1, a7, x3, x4, x5, x6 => ⟨x3, x4, x5, x6, rfl⟩
  | p :: ps, s, hs, hp, a0, a1, a7, x3, x4, x5, x6 => by
    obtain ⟨g1, g2, g3⟩ := hp p (by simp)
    have h256 : 2 ^ n ≤ 256 := Nat.pow_le_pow_right (n := 2) (by decide) hn
    obtain ⟨y5, y6, h1⟩ := inner_ok f1 f2 ns s p.1 p.2 (by omega) (by omega) g3 g2 a0 a1 (.val (mindD ns p.1)) a7 x5 x6
    obtain ⟨z3, z4, z5, z6, h2⟩ := outer_ok f1 f2 ns n hn ps (addW p.2 s p.1) (by rw [addW_len]; omega) (fun q hq => hp q (by simp [hq])) a0 a1 a7 (.val (mindD ns p.1)) (.val (.int p.2)) y5 y6
    refine ⟨z3, z4, z5, z6, ?_⟩
    have hb : b_poured_l2 f1 f2 [a0, a1, .own (.lst (s.map .int)), .val (mindD ns p.1), .val (.int p.2), x5, x6, a7] = .nx [a0, a1, .own (.lst ((addW p.2 s p.1).map .int)), .val (mindD ns p.1), .val (.int p.2), y5, y6, a7] := by
      simp only [mindD] at h1 ⊢
      simp (disch := first | assumption | omega | (simp only [List.length_append, List.length_cons, List.length_nil, List.length_map, List.length_reverse, List.length_replicate, List.length_range, List.length_take, List.length_drop, enD_length, rangeD_length]; omega) | (simp; done) | fail) [decide_eq_true, decide_eq_false, kAsg, kNx, b_poured_l2, h1]
    have e : forGo (ftTup [3, 4]) (b_poured_l2 f1 f2) ((p :: ps).map (pairD ns)) [a0, a1, .own (.lst (s.map .int)), x3, x4, x5, x6, a7] = (match b_poured_l2 f1 f2 [a0, a1, .own (.lst (s.map .int)), .val (mindD ns p.1), .val (.int p.2), x5, x6, a7] with
      | .nx ρ' => forGo (ftTup [3, 4]) (b_poured_l2 f1 f2) (ps.map (pairD ns)) ρ'
      | .ct ρ' => forGo (ftTup [3, 4]) (b_poured_l2 f1 f2) (ps.map (pairD ns)) ρ'
      | .bk ρ' => .nx ρ'
      | r => r) := rfl
    rw [e, hb]
    exact h2
def PouredOk (f : Fn) : Prop := ∀ (ns : List (List Nat)) (ps : List (List Int × Int)), nmOk ns → ns.length ≤ 8 → ps ≠ [] → ps.length ≤ 1000 → (∀ p ∈ ps, goodP ns.length p) →
  f [.val (.lst (ps.map (pairD ns)))] = .ok (.val (mindD ns (lowL (sumsL ns.length ps)))) [.val (.lst (ps.map (pairD ns)))]
theorem poured_ok {fs fl : Fn} (hs : SharedOk fs) (hl : LoweredOk fl) : PouredOk (bodyF 8 1 1 (b_poured fs fl)) := fun ns ps hn h8 hne hlen hp => by
  have h256 : 2 ^ ns.length ≤ 256 := Nat.pow_le_pow_right (n := 2) (by decide) h8
  have hsl : (sumsL ns.length ps).length = 2 ^ ns.length := foldl_len _ ps _ (by simp) fun p h => (hp p h).1
  have h1 := hs ns (ps.map (·.1)) hn (by simpa using hne) (by simpa using hlen)
  have h2 := hl (ns.map .str) (sumsL ns.length ps) (by intro e; rw [e] at hsl; simp at hsl; have := Nat.pow_pos (n := ns.length) (show 0 < 2 by decide); omega) (by omega)
  obtain ⟨y3, y4, y5, y6, h3⟩ := outer_ok fs fl ns ns.length h8 ps (List.replicate (2 ^ ns.length) 0) (by simp) hp (.val (.lst (ps.map (pairD ns)))) (.val (nmD ns)) .emp .emp .emp .emp .emp
  have hlc : lcGo [.val (.lst (ps.map (pairD ns))), .emp, .emp, .emp, .emp, .emp, .emp, .emp] (ftOne 7) fcYes (e2 gIx (eVar 7) (eC (.int (0)))) (ps.map (pairD ns)) = .ok (ps.map fun p => mindD ns p.1) := lc_map _ _ ps fun p _ => by simp (disch := first | assumption | omega | (simp only [List.length_append, List.length_cons, List.length_nil, List.length_map, List.length_reverse, List.length_replicate, List.length_range, List.length_take, List.length_drop, enD_length, rangeD_length]; omega) | (simp; done) | fail) [decide_eq_true, decide_eq_false, kAsg, kNx, pairD]
  rw [List.map_map] at h1
  have e0 : (mindD ns ∘ fun x : List Int × Int => x.1) = fun p => mindD ns p.1 := rfl
  rw [e0] at h1
  have e1 : ps.foldl (fun s p => addW p.2 s p.1) (List.replicate (2 ^ ns.length) 0) = sumsL ns.length ps := rfl
  rw [e1] at h3
  have hshl := gShl_one ns.length (by omega)
  have hrep := gRep_zero (2 ^ ns.length) (by omega)
  generalize 2 ^ ns.length = N at *
  simp only [List.map_replicate, nmD, mindD] at h3 hrep h1 h2 hlc
  unfold b_poured
  simp (disch := first | assumption | omega | (simp only [List.length_append, List.length_cons, List.length_nil, List.length_map, List.length_reverse, List.length_replicate, List.length_range, List.length_take, List.length_drop, enD_length, rangeD_length]; omega) | (simp; done) | fail) [decide_eq_true, decide_eq_false, kAsg, kNx, hlc, h1, hshl, hrep, h3, h2, mindD, nmD]

/-! ### the law's own helpers -/
theorem many_ok (c : Int) : ∃ m : Nat, 1 ≤ m ∧ m ≤ 8 ∧ bodyF 1 1 1 b_many_3526 [.val (.int c)] = .ok (.val (.int m)) [.val (.int c)] := by
  have h : c % 12 = 0 ∨ c % 12 = 1 ∨ c % 12 = 2 ∨ c % 12 = 3 ∨ c % 12 = 4 ∨ c % 12 = 5 ∨ c % 12 = 6 ∨ c % 12 = 7 ∨ c % 12 = 8 ∨ c % 12 = 9 ∨ c % 12 = 10 ∨ c % 12 = 11 := by omega
  have key : ∀ k : Nat, k < 12 → ∃ m : Nat, 1 ≤ m ∧ m ≤ 8 ∧ L2.atI [D.int 1, D.int 2, D.int 3, D.int 4, D.int 5, D.int 6, D.int 7, D.int 8, D.int 2, D.int 3, D.int 3, D.int 4] (k : Int) = some (.int m) := by
    intro k hk
    have e := atI_of [D.int 1, D.int 2, D.int 3, D.int 4, D.int 5, D.int 6, D.int 7, D.int 8, D.int 2, D.int 3, D.int 3, D.int 4] k hk
    rw [e]
    match k, hk with
    | 0, _ => exact ⟨1, by decide, by decide, rfl⟩
    | 1, _ => exact ⟨2, by decide, by decide, rfl⟩
    | 2, _ => exact ⟨3, by decide, by decide, rfl⟩
    | 3, _ => exact ⟨4, by decide, by decide, rfl⟩
    | 4, _ => exact ⟨5, by decide, by decide, rfl⟩
    | 5, _ => exact ⟨6, by decide, by decide, rfl⟩
    | 6, _ => exact ⟨7, by decide, by decide, rfl⟩
    | 7, _ => exact ⟨8, by decide, by decide, rfl⟩
    | 8, _ => exact ⟨2, by decide, by decide, rfl⟩
    | 9, _ => exact ⟨3, by decide, by decide, rfl⟩
    | 10, _ => exact ⟨3, by decide, by decide, rfl⟩
    | 11, _ => exact ⟨4, by decide, by decide, rfl⟩
  have e : c % 12 = ((c % 12).toNat : Int) := by omega
  obtain ⟨m, h1, h2, h3⟩ := key (c % 12).toNat (by omega)
  rw [← e] at h3
  refine ⟨m, h1, h2, ?_⟩
  simp (disch := first | assumption | omega | (simp only [List.length_append, List.length_cons, List.length_nil, List.length_map, List.length_reverse, List.length_replicate, List.length_range, List.length_take, List.length_drop, enD_length, rangeD_length]; omega) | (simp; done) | fail) [decide_eq_true, decide_eq_false, kAsg, kNx, b_many_3526, h3]
def WholeOk (f : Fn) : Prop := ∀ i : Int, f [.val (.int i)] = .ok (.val (.bl true)) [.val (.int i)]
theorem whole_ok : WholeOk (bodyF 1 1 1 b_whole_f85d) := fun i => by simp (disch := first | assumption | omega | (simp only [List.length_append, List.length_cons, List.length_nil, List.length_map, List.length_reverse, List.length_replicate, List.length_range, List.length_take, List.length_drop, enD_length, rangeD_length]; omega) | (simp; done) | fail) [decide_eq_true, decide_eq_false, kAsg, kNx, b_whole_f85d]
def IsMindOk (f : Fn) : Prop := ∀ (ns : List (List Nat)) (rk due : List Int), nmOk ns → rk.length ≤ 1000 → due.length ≤ 1000 → f [.val (mindD ns rk), .val (nmD ns), .val (.lst (due.map .int))] = .ok (.val (.bl (decide (rk = due)))) [.val (mindD ns rk), .val (nmD ns), .val (.lst (due.map .int))]
theorem isMind_ok {fw : Fn} (hw : WholeOk fw) : IsMindOk (bodyF 4 3 3 (b_is_mind_5c83 fw)) := fun ns rk due hn h1 h2 => by
  have e1 := gNe_refl (okd_nm hn) (by decide)
  have e2 := gNe_ti rk due
  have hall := gAll_f (fun _ : Int => true) rk
  simp only [nmD] at e1
  by_cases h : rk = due
  · subst h
    simp only [decide_true, Bool.not_true] at e2
    simp (disch := first | assumption | omega | (simp only [List.length_append, List.length_cons, List.length_nil, List.length_map, List.length_reverse, List.length_replicate, List.length_range, List.length_take, List.length_drop, enD_length, rangeD_length]; omega) | (simp; done) | fail) [decide_eq_true, decide_eq_false, kAsg, kNx, b_is_mind_5c83, mindD, nmD, e1, e2]
    rw [lc_map D.int (fun _ => .bl true) rk (fun i _ => by simp (disch := first | assumption | omega | (simp only [List.length_append, List.length_cons, List.length_nil, List.length_map, List.length_reverse, List.length_replicate, List.length_range, List.length_take, List.length_drop, enD_length, rangeD_length]; omega) | (simp; done) | fail) [decide_eq_true, decide_eq_false, kAsg, kNx, hw i])]
    simp (disch := first | assumption | omega | (simp only [List.length_append, List.length_cons, List.length_nil, List.length_map, List.length_reverse, List.length_replicate, List.length_range, List.length_take, List.length_drop, enD_length, rangeD_length]; omega) | (simp; done) | fail) [decide_eq_true, decide_eq_false, kAsg, kNx, hall]
  · simp (disch := first | assumption | omega | (simp only [List.length_append, List.length_cons, List.length_nil, List.length_map, List.length_reverse, List.length_replicate, List.length_range, List.length_take, List.length_drop, enD_length, rangeD_length]; omega) | (simp; done) | fail) [decide_eq_true, decide_eq_false, kAsg, kNx, b_is_mind_5c83, mindD, nmD, e1, e2, h]

def CellLOk (f : Fn) : Prop := ∀ (ns : List Int) (k : Nat), ns.length ≤ 1000 → f [.val (.lst (ns.map .int)), .val (.int k)] = .ok (.val (.int (ns.getD k 0))) [.val (.lst (ns.map .int)), .val (.int k)]
theorem cellL_ok : CellLOk (bodyF 2 2 2 b_cell_at_86d1) := fun ns k hl => by
  by_cases h : k < ns.length
  · have h2 : (k : Int) < (ns.length : Int) := by omega
    have h3 : L2.atI (ns.map D.int) (k : Int) = some (D.int ns[k]) := by
      rw [atI_of _ k (by simpa using h)]; simp
    simp (disch := first | assumption | omega | (simp only [List.length_append, List.length_cons, List.length_nil, List.length_map, List.length_reverse, List.length_replicate, List.length_range, List.length_take, List.length_drop, enD_length, rangeD_length]; omega) | (simp; done) | fail) [decide_eq_true, decide_eq_false, kAsg, kNx, b_cell_at_86d1, h2, h3, h]
  · have h2 : ¬ (k : Int) < (ns.length : Int) := by omega
    have h4 : ns[k]? = none := List.getElem?_eq_none (by omega)
    simp (disch := first | assumption | omega | (simp only [List.length_append, List.length_cons, List.length_nil, List.length_map, List.length_reverse, List.length_replicate, List.length_range, List.length_take, List.length_drop, enD_length, rangeD_length]; omega) | (simp; done) | fail) [decide_eq_true, decide_eq_false, kAsg, kNx, b_cell_at_86d1, h2, h4]
def M30 : Int := 10 ^ 30
def RS3 (a0 a1 a2 : Sl) (i : Nat) (ρ : List Sl) : Prop := ∃ (rs : List Int) (x4 x5 x6 x7 x8 : Sl), ρ = [a0, a1, a2, .own (.lst (rs.map .int)), x4, x5, x6, x7, x8] ∧ rs.length = i ∧ ∀ r ∈ rs, 0 ≤ r ∧ r ≤ 2000000000000000000000000000000
theorem mind_l1 {fc : Fn} (hc : CellLOk fc) (cs : List Int) (hcs : cs.length ≤ 1000) (way : Int) (a0 : Sl) (i : Nat) (hi : i < 256) (ρ : List Sl) (g : RS3 a0 (.val (.lst (cs.map .int))) (.val (.int way)) i ρ) : Nxt (RS3 a0 (.val (.lst (cs.map .int))) (.val (.int way)) (i + 1)) (b_mind_by_c7c7_l1 fc (setS ρ [(4, .int (i : Nat))])) := by
  obtain ⟨rs, x4, x5, x6, x7, x8, rfl, hl, hr⟩ := g
  have e8 : ((i : Int) % 8) = ((i % 8 : Nat) : Int) := by omega
  have hcell := hc cs (i % 8) hcs
  rw [← e8] at hcell
  generalize cs.getD (i % 8) 0 = v at hcell
  have t0 : 0 ≤ (i : Int) / 8 := by omega
  have t1 : (i : Int) / 8 ≤ 31 := by omega
  have t2 : 0 ≤ (i : Int) / 8 * ((i : Int) / 8) := Int.mul_nonneg t0 t0
  have t3 : (i : Int) / 8 * ((i : Int) / 8) ≤ 31 * 31 := Int.mul_le_mul t1 t1 t0 (by decide)
  have fin : ∀ (q : Int) (x4 x5 x6 x7 x8 : Sl), 0 ≤ q → q ≤ 2000000000000000000000000000000 → RS3 a0 (.val (.lst (cs.map .int))) (.val (.int way)) (i + 1) [a0, .val (.lst (cs.map .int)), .val (.int way), .own (.lst (rs.map .int ++ [.int q])), x4, x5, x6, x7, x8] := fun q x4 x5 x6 x7 x8 h0 h1 => ⟨rs ++ [q], x4, x5, x6, x7, x8, by simp, by simp [hl], fun r h => by
    rcases List.mem_append.mp h with h | h
    · exact hr r h
    · rw [List.mem_singleton.mp h]; exact ⟨h0, h1⟩⟩
  have p0 : 0 ≤ (v % 1000000000000000000000000000000 + (i : Int) / 8) * ((i : Int) / 8 * ((i : Int) / 8) * 48271 + 1) % 1000000000000000000000000000000 := Int.emod_nonneg _ (by decide)
  have p1 : (v % 1000000000000000000000000000000 + (i : Int) / 8) * ((i : Int) / 8 * ((i : Int) / 8) * 48271 + 1) % 1000000000000000000000000000000 < 1000000000000000000000000000000 := Int.emod_lt_of_pos _ (by decide)
  by_cases h1 : way % 4 = 1
  · simp (disch := first | assumption | omega | (simp only [List.length_append, List.length_cons, List.length_nil, List.length_map, List.length_reverse, List.length_replicate, List.length_range, List.length_take, List.length_drop, enD_length, rangeD_length]; omega) | (simp; done) | fail) [decide_eq_true, decide_eq_false, kAsg, kNx, b_mind_by_c7c7_l1, hcell, h1]
    generalize (v % 1000000000000000000000000000000 + (i : Int) / 8) * ((i : Int) / 8 * ((i : Int) / 8) * 48271 + 1) % 1000000000000000000000000000000 = q at *
    exact fin _ _ _ _ _ _ (by omega) (by omega)
  · by_cases h2 : way % 4 = 2
    · simp (disch := first | assumption | omega | (simp only [List.length_append, List.length_cons, List.length_nil, List.length_map, List.length_reverse, List.length_replicate, List.length_range, List.length_take, List.length_drop, enD_length, rangeD_length]; omega) | (simp; done) | fail) [decide_eq_true, decide_eq_false, kAsg, kNx, b_mind_by_c7c7_l1, hcell, h1, h2]
      generalize (v % 1000000000000000000000000000000 + (i : Int) / 8) * ((i : Int) / 8 * ((i : Int) / 8) * 48271 + 1) % 1000000000000000000000000000000 = q at *
      have m0 : 0 ≤ q % 3 := by omega
      have m1 : q % 3 ≤ 2 := by omega
      refine fin _ _ _ _ _ _ (Int.mul_nonneg m0 p0) ?_
      have := Int.mul_le_mul m1 (show q ≤ 1000000000000000000000000000000 by omega) p0 (by decide)
      omega
    · by_cases h3 : way % 4 = 3
      · simp (disch := first | assumption | omega | (simp only [List.length_append, List.length_cons, List.length_nil, List.length_map, List.length_reverse, List.length_replicate, List.length_range, List.length_take, List.length_drop, enD_length, rangeD_length]; omega) | (simp; done) | fail) [decide_eq_true, decide_eq_false, kAsg, kNx, b_mind_by_c7c7_l1, hcell, h1, h2, h3]
        generalize (v % 1000000000000000000000000000000 + (i : Int) / 8) * ((i : Int) / 8 * ((i : Int) / 8) * 48271 + 1) % 1000000000000000000000000000000 = q at *
        exact fin _ _ _ _ _ _ (by omega) (by omega)
      · simp (disch := first | assumption | omega | (simp only [List.length_append, List.length_cons, List.length_nil, List.length_map, List.length_reverse, List.length_replicate, List.length_range, List.length_take, List.length_drop, enD_length, rangeD_length]; omega) | (simp; done) | fail) [decide_eq_true, decide_eq_false, kAsg, kNx, b_mind_by_c7c7_l1, hcell, h1, h2, h3]
        exact fin _ _ _ _ _ _ p0 (by omega)
theorem rangeD_get {n : Nat} {i : Nat} {d : D} (h : (rangeD 0 (n : Nat))[i]? = some d) : i < n ∧ d = .int (i : Nat) := by
  have hi : i < n := by have := (List.getElem?_eq_some_iff.mp h).1; simp at this; omega
  refine ⟨hi, ?_⟩
  unfold rangeD at h
  rw [List.getElem?_map, List.getElem?_range (by omega)] at h
  have e : (0 + (i : Nat) : Int) = (i : Nat) := by omega
  have h2 := Option.some.inj h
  rw [← h2]
  show D.int (0 + (i : Nat)) = _
  rw [e]
theorem minI_cons (ns : List Int) (h : ns ≠ []) : minI ns ∈ ns := minI_mem h
theorem minI_low {ns : List Int} (h : ns ≠ []) : minI (lowL ns) = 0 := by
  refine (minI_eq (m := 0) ?_ ?_).symm
  · exact List.mem_map.mpr ⟨minI ns, minI_mem h, by omega⟩
  · intro y hy
    obtain ⟨m, hm, rfl⟩ := List.mem_map.mp hy
    have := minI_le hm
    omega
theorem minI_mul {ns : List Int} (h : ns ≠ []) (w : Int) (hw : 0 ≤ w) : minI (ns.map (w * ·)) = w * minI ns := by
  refine (minI_eq (m := w * minI ns) ?_ ?_).symm
  · exact List.mem_map.mpr ⟨minI ns, minI_mem h, rfl⟩
  · intro y hy
    obtain ⟨m, hm, rfl⟩ := List.mem_map.mp hy
    exact Int.mul_le_mul_of_nonneg_left (minI_le hm) hw
theorem addW_zero (w : Int) : ∀ (r : List Int) (n : Nat), r.length = n → addW w (List.replicate n 0) r = r.map (w * ·)
  | [], _, h => by subst h; rfl
  | a :: r, n, h => by
    subst h
    have ih := addW_zero w r r.length rfl
    simp only [addW] at ih
    simp [addW, List.replicate_succ, ih]
theorem sums_one {n : Nat} {rk : List Int} {w : Int} (hl : rk.length = 2 ^ n) (h0 : minI rk = 0) (hw : 0 ≤ w) : lowL (sumsL n [(rk, w)]) = rk.map (w * ·) := by
  have hne : rk ≠ [] := by intro e; subst e; simp at hl; have := Nat.pow_pos (n := n) (show 0 < 2 by decide); omega
  have e : sumsL n [(rk, w)] = rk.map (w * ·) := addW_zero w rk _ hl
  rw [e]
  unfold lowL
  rw [minI_mul hne w hw, h0]
  simp
def rkOk (n : Nat) (rk : List Int) : Prop := rk.length = 2 ^ n ∧ ∀ r ∈ rk, 0 ≤ r ∧ r ≤ 2000000000000000000000000000000
theorem rkOk_low {n : Nat} {rs : List Int} (h : rkOk n rs) : rkOk n (lowL rs) := by
  refine ⟨by simp [lowL, h.1], fun r hr => ?_⟩
  obtain ⟨m, hm, rfl⟩ := List.mem_map.mp hr
  have h1 := minI_le hm
  have h2 := h.2 m hm
  have h3 := h.2 _ (minI_mem (ns := rs) (by intro e; subst e; cases hm))
  omega
def MindByOk (f : Fn) : Prop := ∀ (ns : List (List Nat)) (cs : List Int) (way : Int), ns.length ≤ 8 → cs.length ≤ 1000 → ∃ rk, f [.val (nmD ns), .val (.lst (cs.map .int)), .val (.int way)] = .ok (.val (mindD ns rk)) [.val (nmD ns), .val (.lst (cs.map .int)), .val (.int way)] ∧ rkOk ns.length rk ∧ minI rk = 0
theorem mindBy_ok {fc : Fn} (hc : CellLOk fc) : MindByOk (bodyF 9 3 3 (b_mind_by_c7c7 fc)) := fun ns cs way h8 hcs => by
  have h256 : 2 ^ ns.length ≤ 256 := Nat.pow_le_pow_right (n := 2) (by decide) h8
  have hpos : 0 < 2 ^ ns.length := Nat.pow_pos (by decide)
  have hshl := gShl_one ns.length (by omega)
  obtain ⟨ρ', h1, rs, x4, x5, x6, x7, x8, rfl, hl, hr⟩ := forGo_nxt (ft := ftOne 4) (fb := b_mind_by_c7c7_l1 fc) (rangeD 0 (2 ^ ns.length : Nat)) (fun i ρ => RS3 (.val (nmD ns)) (.val (.lst (cs.map .int))) (.val (.int way)) i ρ) [.val (nmD ns), .val (.lst (cs.map .int)), .val (.int way), .own (.lst []), .emp, .emp, .emp, .emp, .emp] ⟨[], _, _, _, _, _, rfl, rfl, by simp⟩ (fun i d ρ hd g => by
    obtain ⟨hi, rfl⟩ := rangeD_get hd
    exact ⟨_, rfl, mind_l1 hc cs hcs way _ i (by omega) ρ g⟩)
  rw [rangeD_length] at hl
  have hl2 : rs.length = 2 ^ ns.length := by omega
  have hne : rs ≠ [] := by intro e; subst e; simp at hl2; omega
  have hmin := gMin1_l rs hne
  refine ⟨lowL rs, ?_, rkOk_low ⟨hl2, hr⟩, minI_low hne⟩
  have hlc : ∀ a0 a1 a2 x4 x5 x6 : Sl, lcGo [a0, a1, a2, .own (.lst (rs.map .int)), x4, x5, x6, .emp, .val (.int (minI rs))] (ftOne 7) fcYes (e2 gSub (eVar 7) (eVar 8)) (rs.map .int) = .ok (rs.map fun r => .int (r - minI rs)) := fun a0 a1 a2 x4 x5 x6 => lc_map D.int (fun r => .int (r - minI rs)) rs fun r _ => by simp (disch := first | assumption | omega | (simp only [List.length_append, List.length_cons, List.length_nil, List.length_map, List.length_reverse, List.length_replicate, List.length_range, List.length_take, List.length_drop, enD_length, rangeD_length]; omega) | (simp; done) | fail) [decide_eq_true, decide_eq_false, kAsg, kNx]
  have hlow : (lowL rs).map D.int = rs.map fun r => D.int (r - minI rs) := by simp [lowL, Function.comp_def]
  generalize 2 ^ ns.length = N at *
  simp only [nmD] at h1
  simp (disch := first | assumption | omega | (simp only [List.length_append, List.length_cons, List.length_nil, List.length_map, List.length_reverse, List.length_replicate, List.length_range, List.length_take, List.length_drop, enD_length, rangeD_length]; omega) | (simp; done) | fail) [decide_eq_true, decide_eq_false, kAsg, kNx, b_mind_by_c7c7, nmD, hshl, h1, hmin, hlc, mindD, hlow]
def okP (n : Nat) (p : List Int × Int) : Prop := rkOk n p.1 ∧ 1 ≤ p.2 ∧ p.2 ≤ 1000000000000000000000000000000 ∧ minI p.1 = 0
def PS4 (ns : List (List Nat)) (a1 a2 a3 : Sl) (i : Nat) (ρ : List Sl) : Prop := ∃ (ps : List (List Int × Int)) (x5 x6 x7 x8 : Sl), ρ = [.val (nmD ns), a1, a2, a3, .own (.lst (ps.map (pairD ns))), x5, x6, x7, x8] ∧ ps.length = i ∧ ∀ p ∈ ps, okP ns.length p
theorem pairs_l1 {fc fm : Fn} (hc : CellOk fc) (hm : MindByOk fm) (ns : List (List Nat)) (h8 : ns.length ≤ 8) (s : List Int) (hs : s.length ≤ 100) (a : Nat) (a3 : Sl) (i : Nat) (hi : i < 1000) (ρ : List Sl) (g : PS4 ns (.val (.scr s)) (.val (.int (a : Nat))) a3 i ρ) : Nxt (PS4 ns (.val (.scr s)) (.val (.int (a : Nat))) a3 (i + 1)) (b_pairs_by_b403_l1 fc fm (setS ρ [(5, .int (i : Nat))])) := by
  obtain ⟨ps, x5, x6, x7, x8, rfl, hl, hp⟩ := g
  have hcell := hc s (a + i) (by omega)
  have e8 : ((a + i : Nat) : Int) = (a : Int) + (i : Int) := by omega
  rw [e8] at hcell
  generalize s.getD (a + i) 0 = v at hcell
  obtain ⟨rk, hk1, hk2, hk3⟩ := hm ns ((List.range 8).map fun j : Nat => v * ((i : Int) + 1) * 69621 + (j : Int) * (j : Int) * 48271) (v + (i : Int)) h8 (by simp)
  simp only [List.map_map, Function.comp_def] at hk1
  have fin : ∀ (w : Int) (x5 x6 x7 x8 : Sl), 1 ≤ w → w ≤ 1000000000000000000000000000000 → PS4 ns (.val (.scr s)) (.val (.int (a : Nat))) a3 (i + 1) [.val (nmD ns), .val (.scr s), .val (.int (a : Nat)), a3, .own (.lst (ps.map (pairD ns) ++ [.tup [mindD ns rk, .int w]])), x5, x6, x7, x8] := fun w x5 x6 x7 x8 h0 h1 => ⟨ps ++ [(rk, w)], x5, x6, x7, x8, by simp [pairD], by simp [hl], fun r h => by
    rcases List.mem_append.mp h with h | h
    · exact hp r h
    · rw [List.mem_singleton.mp h]; exact ⟨hk2, h0, h1, hk3⟩⟩
  have hlc : lcGo [.val (nmD ns), .val (.scr s), .val (.int (a : Nat)), a3, .own (.lst (ps.map (pairD ns))), .val (.int (i : Nat)), x6, x7, .emp] (ftOne 8) fcYes (e2 gAdd (e2 gMul (e2 gMul (eFn fc (aCons (eFrz 1) (aCons (e2 gAdd (eVar 2) (eVar 5)) aNil))) (e2 gAdd (eVar 5) (eC (.int (1))))) (eC (.int (69621)))) (e2 gMul (e2 gMul (eVar 8) (eVar 8)) (eC (.int (48271))))) (rangeD 0 8) = .ok ((List.range 8).map fun j : Nat => .int (v * ((i : Int) + 1) * 69621 + (j : Int) * (j : Int) * 48271)) :=
    lc_rngI 8 (fun j : Nat => .int (v * ((i : Int) + 1) * 69621 + (j : Int) * (j : Int) * 48271)) fun j hj => by simp (disch := first | assumption | omega | (simp only [List.length_append, List.length_cons, List.length_nil, List.length_map, List.length_reverse, List.length_replicate, List.length_range, List.length_take, List.length_drop, enD_length, rangeD_length]; omega) | (simp; done) | fail) [decide_eq_true, decide_eq_false, kAsg, kNx, hcell]
  simp only [nmD] at hlc hk1
  by_cases h1 : v % 3 = 1
  · have p0 : 0 ≤ v * 40692 % 1000000000000000000000000000000 := Int.emod_nonneg _ (by decide)
    have p1 : v * 40692 % 1000000000000000000000000000000 < 1000000000000000000000000000000 := Int.emod_lt_of_pos _ (by decide)
    simp (disch := first | assumption | omega | (simp only [List.length_append, List.length_cons, List.length_nil, List.length_map, List.length_reverse, List.length_replicate, List.length_range, List.length_take, List.length_drop, enD_length, rangeD_length]; omega) | (simp; done) | fail) [decide_eq_true, decide_eq_false, kAsg, kNx, b_pairs_by_b403_l1, hlc, hcell, h1, nmD, hk1]
    exact fin _ _ _ _ _ (by omega) (by omega)
  · simp (disch := first | assumption | omega | (simp only [List.length_append, List.length_cons, List.length_nil, List.length_map, List.length_reverse, List.length_replicate, List.length_range, List.length_take, List.length_drop, enD_length, rangeD_length]; omega) | (simp; done) | fail) [decide_eq_true, decide_eq_false, kAsg, kNx, b_pairs_by_b403_l1, hlc, hcell, h1, nmD, hk1]
    exact fin _ _ _ _ _ (by omega) (by omega)
def PairsOk (f : Fn) : Prop := ∀ (ns : List (List Nat)) (s : List Int) (a m : Nat), ns.length ≤ 8 → s.length ≤ 100 → m ≤ 1000 → ∃ ps : List (List Int × Int), f [.val (nmD ns), .val (.scr s), .val (.int (a : Nat)), .val (.int (m : Nat))] = .ok (.val (.lst (ps.map (pairD ns)))) [.val (nmD ns), .val (.scr s), .val (.int (a : Nat)), .val (.int (m : Nat))] ∧ ps.length = m ∧ ∀ p ∈ ps, okP ns.length p
theorem pairs_ok {fc fm : Fn} (hc : CellOk fc) (hm : MindByOk fm) : PairsOk (bodyF 9 4 4 (b_pairs_by_b403 fc fm)) := fun ns s a m h8 hs hm1 => by
  obtain ⟨ρ', h1, ps, x5, x6, x7, x8, rfl, hl, hp⟩ := forGo_nxt (ft := ftOne 5) (fb := b_pairs_by_b403_l1 fc fm) (rangeD 0 (m : Nat)) (fun i ρ => PS4 ns (.val (.scr s)) (.val (.int (a : Nat))) (.val (.int (m : Nat))) i ρ) [.val (nmD ns), .val (.scr s), .val (.int (a : Nat)), .val (.int (m : Nat)), .own (.lst []), .emp, .emp, .emp, .emp] ⟨[], _, _, _, _, rfl, rfl, by simp⟩ (fun i d ρ hd g => by
    obtain ⟨hi, rfl⟩ := rangeD_get hd
    exact ⟨_, rfl, pairs_l1 hc hm ns h8 s hs a _ i (by omega) ρ g⟩)
  rw [rangeD_length] at hl
  refine ⟨ps, ?_, by omega, hp⟩
  simp (disch := first | assumption | omega | (simp only [List.length_append, List.length_cons, List.length_nil, List.length_map, List.length_reverse, List.length_replicate, List.length_range, List.length_take, List.length_drop, enD_length, rangeD_length]; omega) | (simp; done) | fail) [decide_eq_true, decide_eq_false, kAsg, kNx, b_pairs_by_b403, h1]
def SumsOk (f : Fn) : Prop := ∀ (ns : List (List Nat)) (ps : List (List Int × Int)), ns.length ≤ 8 → ps.length ≤ 1000 → (∀ p ∈ ps, goodP ns.length p) → f [.val (nmD ns), .val (.lst (ps.map (pairD ns)))] = .ok (.val (.lst ((lowL (sumsL ns.length ps)).map .int))) [.val (nmD ns), .val (.lst (ps.map (pairD ns)))]
theorem range_addW (w : Int) (s r : List Int) (hl : s.length = r.length) : (List.range s.length).map (fun k => s.getD k 0 + w * r.getD k 0) = addW w s r := by
  apply List.ext_getElem?
  intro k
  by_cases h : k < s.length
  · rw [addW_at w s r k _ _ (List.getElem?_eq_getElem h) (List.getElem?_eq_getElem (by omega))]
    simp [h, show k < r.length by omega]
  · rw [List.getElem?_eq_none (by simp; omega), List.getElem?_eq_none (by rw [addW_len]; omega)]
theorem sums_loop (ns : List (List Nat)) (n : Nat) (hn : n ≤ 8) : ∀ (ps : List (List Int × Int)) (s : List Int), s.length = 2 ^ n → (∀ p ∈ ps, goodP n p) → ∀ (a0 a1 x3 x4 x5 x7 : Sl), ∃ y3 y4, forGo (ftTup [3, 4]) b_sums_58e6_l1 (ps.map (pairD ns)) [a0, a1, .val (.lst (s.map .int)), x3, x4, x5, .emp, x7] = .nx [a0, a1, .val (.lst ((ps.foldl (fun s p => addW p.2 s p.1) s).map .int)), y3, y4, x5, .emp, x7]
  | [], s, _, _, a0, a1, x3, x4, x5, x7 => ⟨x3, x4, rfl⟩
  | p :: ps, s, hs, hp, a0, a1, x3, x4, x5, x7 => by
    obtain ⟨g1, g2, g3⟩ := hp p (by simp)
    have h256 : 2 ^ n ≤ 256 := Nat.pow_le_pow_right (n := 2) (by decide) hn
    obtain ⟨y3, y4, h2⟩ := sums_loop ns n hn ps (addW p.2 s p.1) (by rw [addW_len]; omega) (fun q hq => hp q (by simp [hq])) a0 a1 (.val (mindD ns p.1)) (.val (.int p.2)) x5 x7
    refine ⟨y3, y4, ?_⟩
    have hlc : lcGo [a0, a1, .val (.lst (s.map .int)), .val (mindD ns p.1), .val (.int p.2), x5, .emp, x7] (ftOne 6) fcYes (e2 gAdd (e2 gIx (eVar 2) (eVar 6)) (e2 gMul (eVar 4) (e2 gIx (e2 gIx (eVar 3) (eC (.int (1)))) (eVar 6)))) (rangeD 0 (s.length : Nat)) = .ok ((addW p.2 s p.1).map .int) := by
      rw [lc_rngI (s.length : Nat) (fun k : Nat => .int (s.getD k 0 + p.2 * p.1.getD k 0)) (fun k hk => by
        have hk1 : k < s.length := by omega
        have hk2 : k < p.1.length := by omega
        have e1 : L2.atI (s.map D.int) (k : Int) = some (.int s[k]) := by rw [atI_of _ k (by simpa using hk1)]; simp
        have e2 : L2.atI (p.1.map D.int) (k : Int) = some (.int p.1[k]) := by rw [atI_of _ k (by simpa using hk2)]; simp
        have e3 := gMul_big g3 (g2 _ (List.getElem_mem hk2))
        have d1 : s.getD k 0 = s[k] := by rw [List.getD_eq_getElem?_getD, List.getElem?_eq_getElem hk1]; rfl
        have d2 : p.1.getD k 0 = p.1[k] := by rw [List.getD_eq_getElem?_getD, List.getElem?_eq_getElem hk2]; rfl
        rw [d1, d2]
        simp (disch := first | assumption | omega | (simp only [List.length_append, List.length_cons, List.length_nil, List.length_map, List.length_reverse, List.length_replicate, List.length_range, List.length_take, List.length_drop, enD_length, rangeD_length]; omega) | (simp; done) | fail) [decide_eq_true, decide_eq_false, kAsg, kNx, mindD, e1, e2, e3])]
      rw [← range_addW _ _ _ (by omega), List.map_map]
      simp [Function.comp_def]
    have hb : b_sums_58e6_l1 [a0, a1, .val (.lst (s.map .int)), .val (mindD ns p.1), .val (.int p.2), x5, .emp, x7] = .nx [a0, a1, .val (.lst ((addW p.2 s p.1).map .int)), .val (mindD ns p.1), .val (.int p.2), x5, .emp, x7] := by
      simp (disch := first | assumption | omega | (simp only [List.length_append, List.length_cons, List.length_nil, List.length_map, List.length_reverse, List.length_replicate, List.length_range, List.length_take, List.length_drop, enD_length, rangeD_length]; omega) | (simp; done) | fail) [decide_eq_true, decide_eq_false, kAsg, kNx, b_sums_58e6_l1, hlc]
    have hb' : b_sums_58e6_l1 (setS [a0, a1, .val (.lst (s.map .int)), x3, x4, x5, .emp, x7] [(3, mindD ns p.1), (4, .int p.2)]) = .nx [a0, a1, .val (.lst ((addW p.2 s p.1).map .int)), .val (mindD ns p.1), .val (.int p.2), x5, .emp, x7] := by
      simp only [setS_cons, setS_nil, List.set_cons_succ, List.set_cons_zero]; exact hb
    have hft : ftTup [3, 4] (pairD ns p) = .ok [(3, mindD ns p.1), (4, .int p.2)] := by unfold pairD; simp (disch := first | assumption | omega | (simp only [List.length_append, List.length_cons, List.length_nil, List.length_map, List.length_reverse, List.length_replicate, List.length_range, List.length_take, List.length_drop, enD_length, rangeD_length]; omega) | (simp; done) | fail) [decide_eq_true, decide_eq_false, kAsg, kNx]
    exact (forGo_cons_nx hft hb').trans h2
theorem sums_ok : SumsOk (bodyF 8 2 2 b_sums_58e6) := fun ns ps h8 hlen hp => by
  have h256 : 2 ^ ns.length ≤ 256 := Nat.pow_le_pow_right (n := 2) (by decide) h8
  have hsl : (sumsL ns.length ps).length = 2 ^ ns.length := foldl_len _ ps _ (by simp) fun p h => (hp p h).1
  have hne : sumsL ns.length ps ≠ [] := by intro e; rw [e] at hsl; simp at hsl; have := Nat.pow_pos (n := ns.length) (show 0 < 2 by decide); omega
  obtain ⟨y3, y4, h3⟩ := sums_loop ns ns.length h8 ps (List.replicate (2 ^ ns.length) 0) (by simp) hp (.val (nmD ns)) (.val (.lst (ps.map (pairD ns)))) .emp .emp .emp .emp
  have e1 : ps.foldl (fun s p => addW p.2 s p.1) (List.replicate (2 ^ ns.length) 0) = sumsL ns.length ps := rfl
  rw [e1] at h3
  have hshl := gShl_one ns.length (by omega)
  have hmin := gMin1_l _ hne
  have hlow : (lowL (sumsL ns.length ps)).map D.int = (sumsL ns.length ps).map fun r => D.int (r - minI (sumsL ns.length ps)) := by simp [lowL, Function.comp_def]
  have hlc0 : ∀ a0 a1 : Sl, lcGo [a0, a1, .emp, .emp, .emp, .emp, .emp, .emp] (ftOne 6) fcYes (eC (.int 0)) (rangeD 0 (2 ^ ns.length : Nat)) = .ok (List.replicate (2 ^ ns.length) (.int 0)) := fun a0 a1 => by
    rw [lc_rngI (2 ^ ns.length : Nat) (fun _ : Nat => .int 0) (fun k hk => by rfl), Int.toNat_natCast, List.map_const', List.length_range]
  have hlc1 : ∀ a0 a1 a3 a4 a6 : Sl, lcGo [a0, a1, .val (.lst ((sumsL ns.length ps).map .int)), a3, a4, .val (.int (minI (sumsL ns.length ps))), a6, .emp] (ftOne 7) fcYes (e2 gSub (eVar 7) (eVar 5)) ((sumsL ns.length ps).map .int) = .ok ((sumsL ns.length ps).map fun r => .int (r - minI (sumsL ns.length ps))) := fun a0 a1 a3 a4 a6 => lc_map D.int (fun r => .int (r - minI (sumsL ns.length ps))) _ fun r _ => by simp (disch := first | assumption | omega | (simp only [List.length_append, List.length_cons, List.length_nil, List.length_map, List.length_reverse, List.length_replicate, List.length_range, List.length_take, List.length_drop, enD_length, rangeD_length]; omega) | (simp; done) | fail) [decide_eq_true, decide_eq_false, kAsg, kNx]
  generalize sumsL ns.length ps = S at *
  generalize 2 ^ ns.length = N at *
  simp only [List.map_replicate, nmD] at h3
  simp (disch := first | assumption | omega | (simp only [List.length_append, List.length_cons, List.length_nil, List.length_map, List.length_reverse, List.length_replicate, List.length_range, List.length_take, List.length_drop, enD_length, rangeD_length]; omega) | (simp; done) | fail) [decide_eq_true, decide_eq_false, kAsg, kNx, b_sums_58e6, hshl, hlc0, h3, hmin, hlc1, hlow, nmD]
end PL

set_option Elab.async false
set_option linter.all false
set_option maxRecDepth 100000
set_option maxHeartbeats 1000000
/-! NP: names of one stem with a letter at any place or of unlike lengths -/
namespace PL
set_option autoImplicit false
open PySem L2
theorem letter_lt (i : Int) : letter i ≤ 122 := by unfold letter; omega
theorem letter_ge (i : Int) : 97 ≤ letter i := by unfold letter; omega
def namesB (c : Int) (many : Nat) : List (List Nat) :=
  let m := c % 2147483629
  let fill := letter (m / 4)
  let first := m / 104 % 26
  if m % 4 = 0 then (List.range many).map fun (k : Nat) => List.replicate (1 + (first + 3 * k) % 8).toNat fill
  else (List.range many).map fun (k : Nat) => List.replicate (m / 21632 % (1 + m / 2704 % 8)).toNat fill ++ letter (first + 5 * k) :: List.replicate (1 + m / 2704 % 8 - 1 - m / 21632 % (1 + m / 2704 % 8)).toNat fill
theorem flat_rep (n : Nat) (c : Nat) : (List.replicate n [c]).flatten = List.replicate n c := by
  induction n with
  | zero => rfl
  | succ n ih => simp [List.replicate_succ, ih]
def NamesBOk (f : Fn) : Prop := ∀ (c : Int) (m : Nat), m ≤ 1000 → f [.val (.int c), .val (.int m)] = .ok (.val (nmD (namesB c m))) [.val (.int c), .val (.int m)]
theorem namesB_len (c : Int) (m : Nat) : (namesB c m).length = m := by
  unfold namesB
  dsimp only
  split <;> simp
theorem namesB_ch (c : Int) (m : Nat) : ∀ x ∈ namesB c m, x ≠ [] ∧ x.length ≤ 8 ∧ ∀ d ∈ x, 97 ≤ d ∧ d ≤ 122 := by
  intro x hx
  unfold namesB at hx
  dsimp only at hx
  have q1 : 0 ≤ c % 2147483629 / 21632 % (1 + c % 2147483629 / 2704 % 8) := Int.emod_nonneg _ (by omega)
  have q2 : c % 2147483629 / 21632 % (1 + c % 2147483629 / 2704 % 8) < 1 + c % 2147483629 / 2704 % 8 := Int.emod_lt_of_pos _ (by omega)
  split at hx
  · obtain ⟨k, _, rfl⟩ := List.mem_map.mp hx
    refine ⟨?_, by simp; omega, fun d hd => ?_⟩
    · intro e
      have := congrArg List.length e
      simp at this
      omega
    · rw [(List.mem_replicate.mp hd).2]
      exact ⟨letter_ge _, letter_lt _⟩
  · obtain ⟨k, _, rfl⟩ := List.mem_map.mp hx
    refine ⟨by simp, by simp; omega, fun d hd => ?_⟩
    rcases List.mem_append.mp hd with hd | hd
    · rw [(List.mem_replicate.mp hd).2]
      exact ⟨letter_ge _, letter_lt _⟩
    · rcases List.mem_cons.mp hd with rfl | hd
      · exact ⟨letter_ge _, letter_lt _⟩
      · rw [(List.mem_replicate.mp hd).2]
        exact ⟨letter_ge _, letter_lt _⟩
theorem namesB_nm (c : Int) (m : Nat) : nmOk (namesB c m) := fun x hx d hd => by have := (namesB_ch c m x hx).2.2 d hd; omega
theorem letter_mod (i : Int) : letter (i % 26) = letter i := by unfold letter; omega
theorem namesB_ok : NamesBOk (bodyF 11 2 2 b_names_by_963f) := fun c m hm => by
  have ha : (97 :: 98 :: 99 :: 100 :: 101 :: 102 :: 103 :: 104 :: 105 :: 106 :: 107 :: 108 :: 109 :: 110 :: 111 :: 112 :: 113 :: 114 :: 115 :: 116 :: 117 :: 118 :: 119 :: 120 :: 121 :: 122 :: []) = abc := rfl
  have hal : abc.length = 26 := rfl
  have q1 : 0 ≤ c % 2147483629 / 21632 % (1 + c % 2147483629 / 2704 % 8) := Int.emod_nonneg _ (by omega)
  have q2 : c % 2147483629 / 21632 % (1 + c % 2147483629 / 2704 % 8) < 1 + c % 2147483629 / 2704 % 8 := Int.emod_lt_of_pos _ (by omega)
  unfold b_names_by_963f
  rw [ha]
  by_cases h0 : c % 2147483629 % 4 = 0
  · simp (disch := first | assumption | omega | (simp only [List.length_append, List.length_cons, List.length_nil, List.length_map, List.length_reverse, List.length_replicate, List.length_range, List.length_take, List.length_drop, enD_length, rangeD_length]; omega) | (simp; done) | fail) [decide_eq_true, decide_eq_false, kAsg, kNx, hal, letter_eq, h0]
    rw [lc_rngI m (fun k : Nat => .str (List.replicate (1 + (c % 2147483629 / 104 % 26 + 3 * k) % 8).toNat (letter (c % 2147483629 / 4)))) (fun k hk => by simp (disch := first | assumption | omega | (simp only [List.length_append, List.length_cons, List.length_nil, List.length_map, List.length_reverse, List.length_replicate, List.length_range, List.length_take, List.length_drop, enD_length, rangeD_length]; omega) | (simp; done) | fail) [decide_eq_true, decide_eq_false, kAsg, kNx, flat_rep])]
    simp (disch := first | assumption | omega | (simp only [List.length_append, List.length_cons, List.length_nil, List.length_map, List.length_reverse, List.length_replicate, List.length_range, List.length_take, List.length_drop, enD_length, rangeD_length]; omega) | (simp; done) | fail) [decide_eq_true, decide_eq_false, kAsg, kNx, nmD, namesB, h0, Function.comp_def]
  · simp (disch := first | assumption | omega | (simp only [List.length_append, List.length_cons, List.length_nil, List.length_map, List.length_reverse, List.length_replicate, List.length_range, List.length_take, List.length_drop, enD_length, rangeD_length]; omega) | (simp; done) | fail) [decide_eq_true, decide_eq_false, kAsg, kNx, hal, letter_eq, h0]
    rw [lc_rngI m (fun k : Nat => .str [letter (c % 2147483629 / 104 % 26 + 5 * k)]) (fun k hk => by
      simp (disch := first | assumption | omega | (simp only [List.length_append, List.length_cons, List.length_nil, List.length_map, List.length_reverse, List.length_replicate, List.length_range, List.length_take, List.length_drop, enD_length, rangeD_length]; omega) | (simp; done) | fail) [decide_eq_true, decide_eq_false, kAsg, kNx, letter_eq, hal]
      unfold letter
      omega)]
    simp (disch := first | assumption | omega | (simp only [List.length_append, List.length_cons, List.length_nil, List.length_map, List.length_reverse, List.length_replicate, List.length_range, List.length_take, List.length_drop, enD_length, rangeD_length]; omega) | (simp; done) | fail) [decide_eq_true, decide_eq_false, kAsg, kNx, nmD]
    rw [lc_map (fun k : Nat => D.str [letter (c % 2147483629 / 104 % 26 + 5 * k)]) (fun k : Nat => .str (List.replicate (c % 2147483629 / 21632 % (1 + c % 2147483629 / 2704 % 8)).toNat (letter (c % 2147483629 / 4)) ++ letter (c % 2147483629 / 104 % 26 + 5 * k) :: List.replicate (1 + c % 2147483629 / 2704 % 8 - 1 - c % 2147483629 / 21632 % (1 + c % 2147483629 / 2704 % 8)).toNat (letter (c % 2147483629 / 4)))) _ (fun k hk => by simp (disch := first | assumption | omega | (simp only [List.length_append, List.length_cons, List.length_nil, List.length_map, List.length_reverse, List.length_replicate, List.length_range, List.length_take, List.length_drop, enD_length, rangeD_length]; omega) | (simp; done) | fail) [decide_eq_true, decide_eq_false, kAsg, kNx, flat_rep])]
    simp (disch := first | assumption | omega | (simp only [List.length_append, List.length_cons, List.length_nil, List.length_map, List.length_reverse, List.length_replicate, List.length_range, List.length_take, List.length_drop, enD_length, rangeD_length]; omega) | (simp; done) | fail) [decide_eq_true, decide_eq_false, kAsg, kNx, namesB, h0, Function.comp_def]
end PL

set_option Elab.async false
set_option linter.all false
set_option maxRecDepth 100000
set_option maxHeartbeats 1000000
/-! LP2: sums world by world -/
namespace PL
set_option autoImplicit false
open PySem L2
def tot : List (List Int × Int) → Nat → Int
  | [], _ => 0
  | p :: ps, k => p.2 * p.1.getD k 0 + tot ps k
theorem foldl_tot (N : Nat) : ∀ (ps : List (List Int × Int)) (s : List Int), s.length = N → (∀ p ∈ ps, p.1.length = N) → ps.foldl (fun s p => addW p.2 s p.1) s = (List.range N).map fun k => s.getD k 0 + tot ps k
  | [], s, h, _ => by
    subst h
    apply List.ext_getElem?
    intro k
    by_cases hk : k < s.length
    · simp [hk, tot]
    · simp [hk]
  | p :: ps, s, h, hp => by
    have hl := hp p (by simp)
    have ih := foldl_tot N ps (addW p.2 s p.1) (by rw [addW_len]; omega) fun q hq => hp q (by simp [hq])
    rw [List.foldl_cons, ih]
    apply List.map_congr_left
    intro k hk
    have hk' : k < N := List.mem_range.mp hk
    rw [← range_addW _ _ _ (by omega)]
    have e : ((List.range s.length).map fun k => s.getD k 0 + p.2 * p.1.getD k 0).getD k 0 = s.getD k 0 + p.2 * p.1.getD k 0 := by
      rw [List.getD_eq_getElem?_getD, List.getElem?_map, List.getElem?_range (by omega)]
      rfl
    rw [e]
    simp only [tot]
    omega
theorem sumsL_tot {n : Nat} {ps : List (List Int × Int)} (h : ∀ p ∈ ps, p.1.length = 2 ^ n) : sumsL n ps = (List.range (2 ^ n)).map (tot ps) := by
  unfold sumsL
  rw [foldl_tot (2 ^ n) ps _ (by simp) h]
  apply List.map_congr_left
  intro k hk
  have hk' := List.mem_range.mp hk
  rw [List.getD_eq_getElem?_getD, List.getElem?_replicate, if_pos hk']
  simp
theorem tot_app (a b : List (List Int × Int)) (k : Nat) : tot (a ++ b) k = tot a k + tot b k := by
  induction a with
  | nil => simp [tot]
  | cons p a ih => simp only [List.cons_append, tot, ih]; omega
theorem tot_scale (w : Int) (a : List (List Int × Int)) (k : Nat) : tot (a.map fun p => (p.1, w * p.2)) k = w * tot a k := by
  induction a with
  | nil => simp [tot]
  | cons p a ih => simp only [List.map_cons, tot, ih, Int.mul_add, Int.mul_assoc]
theorem minI_shift (l : List Int) (c : Int) (h : l ≠ []) : minI (l.map (· + c)) = minI l + c := by
  refine (minI_eq (m := minI l + c) ?_ ?_).symm
  · exact List.mem_map.mpr ⟨minI l, minI_mem h, rfl⟩
  · intro y hy
    obtain ⟨m, hm, rfl⟩ := List.mem_map.mp hy
    have := minI_le hm
    omega
theorem lowL_shift (l : List Int) (c : Int) : lowL (l.map (· + c)) = lowL l := by
  by_cases h : l = []
  · subst h; rfl
  · unfold lowL
    rw [minI_shift l c h, List.map_map]
    apply List.map_congr_left
    intro m _
    simp only [Function.comp]
    omega
theorem lowL_eq {N : Nat} {f g : Nat → Int} (c : Int) (h : ∀ k, k < N → f k = g k + c) : lowL ((List.range N).map f) = lowL ((List.range N).map g) := by
  have e : (List.range N).map f = ((List.range N).map g).map (· + c) := by
    rw [List.map_map]
    apply List.map_congr_left
    intro k hk
    exact h k (List.mem_range.mp hk)
  rw [e, lowL_shift]
theorem lowL_at {N : Nat} (f : Nat → Int) {k : Nat} (hk : k < N) : (lowL ((List.range N).map f)).getD k 0 = f k - minI ((List.range N).map f) := by
  rw [List.getD_eq_getElem?_getD]
  simp [lowL, hk]
/-- a pair's share is small -/
def smallP (B : Int) (n : Nat) (p : List Int × Int) : Prop := p.1.length = 2 ^ n ∧ (∀ r ∈ p.1, 0 ≤ r ∧ r ≤ B) ∧ 0 ≤ p.2 ∧ p.2 ≤ B
theorem tot_le {n : Nat} {B : Int} (hB : 0 ≤ B) : ∀ {ps : List (List Int × Int)}, (∀ p ∈ ps, smallP B n p) → ∀ k, k < 2 ^ n → 0 ≤ tot ps k ∧ tot ps k ≤ ps.length * (B * B)
  | [], _, k, _ => by simp [tot]
  | p :: ps, h, k, hk => by
    obtain ⟨h1, h2, h3, h4⟩ := h p (by simp)
    have ih := tot_le hB (ps := ps) (fun q hq => h q (by simp [hq])) k hk
    have hr := h2 (p.1.getD k 0) (by rw [List.getD_eq_getElem?_getD, List.getElem?_eq_getElem (by omega)]; exact List.getElem_mem _)
    have m0 : 0 ≤ p.2 * p.1.getD k 0 := Int.mul_nonneg h3 hr.1
    have m1 : p.2 * p.1.getD k 0 ≤ B * B := Int.mul_le_mul h4 hr.2 hr.1 hB
    simp only [tot, List.length_cons]
    have e : ((ps.length + 1 : Nat) : Int) * (B * B) = ps.length * (B * B) + B * B := by
      rw [Int.natCast_add, Int.add_mul]; simp
    omega
theorem lowL_le {n : Nat} {B : Int} {ps : List (List Int × Int)} (hB : 0 ≤ B) (h : ∀ p ∈ ps, smallP B n p) : ∀ r ∈ lowL (sumsL n ps), 0 ≤ r ∧ r ≤ ps.length * (B * B) := by
  intro r hr
  rw [sumsL_tot fun p hp => (h p hp).1] at hr
  obtain ⟨m, hm, rfl⟩ := List.mem_map.mp hr
  have h1 := minI_le hm
  have h2 := minI_mem (ns := (List.range (2 ^ n)).map (tot ps)) (by intro e; rw [e] at hm; cases hm)
  obtain ⟨k, hk, e⟩ := List.mem_map.mp hm
  obtain ⟨k2, hk2, e2⟩ := List.mem_map.mp h2
  have t1 := tot_le hB h k (List.mem_range.mp hk)
  have t2 := tot_le hB h k2 (List.mem_range.mp hk2)
  omega
theorem lowL_len (n : Nat) {ps : List (List Int × Int)} (h : ∀ p ∈ ps, p.1.length = 2 ^ n) : (lowL (sumsL n ps)).length = 2 ^ n := by
  rw [sumsL_tot h]; simp [lowL]
theorem big_of {i B : Int} (h0 : 0 ≤ i) (h1 : i ≤ B) (hB : B ≤ BIG) : bigOk i := ⟨by have := BIG_pos; omega, by omega⟩
theorem smallP_good {n : Nat} {B : Int} {p : List Int × Int} (h : smallP B n p) (hB : B ≤ BIG) : goodP n p :=
  ⟨h.1, fun r hr => big_of (h.2.1 r hr).1 (h.2.1 r hr).2 hB, big_of h.2.2.1 h.2.2.2 hB⟩
theorem okP_small {n : Nat} {p : List Int × Int} (h : okP n p) : smallP 2000000000000000000000000000000 n p := ⟨h.1.1, h.1.2, by have := h.2; omega, by have := h.2; omega⟩
theorem okd_pairs {ns : List (List Nat)} (h : nmOk ns) (ps : List (List Int × Int)) : Okd 4 (.lst (ps.map (pairD ns))) := okd_lst fun d hd => by
  obtain ⟨p, _, rfl⟩ := List.mem_map.mp hd
  exact okd_tup fun d hd => by
    simp only [List.mem_cons, List.not_mem_nil, or_false] at hd
    rcases hd with rfl | rfl
    · exact okd_mind h _
    · exact okd_int _ _
theorem okP_good {n : Nat} {p : List Int × Int} (h : okP n p) : goodP n p := smallP_good (okP_small h) (by unfold BIG; decide +kernel)
theorem BIG_ge : (1000000000000000000000000000000000000000000000000000000000000000000000000000000000000000000000000000000000000000000 : Int) ≤ BIG := by unfold BIG; decide +kernel
end PL

set_option Elab.async false
set_option linter.all false
set_option maxRecDepth 100000
namespace PL
set_option autoImplicit false
open L2
noncomputable def b_look_names_l1 (f_names_in : Fn) : Es := (ifS (e2 gNi (eVar 2) (eVar 0)) deadS skipS)
noncomputable def b_look_names (f_names_in : Fn) : Es := (forS (iSeq (eFn f_names_in (aCons (eFrz 1) aNil))) (ftOne 2) (b_look_names_l1 f_names_in))
noncomputable def b_full : Es := (retS (e2 gSub (e2 gShl (eC (.int (1))) (e2 gShl (eC (.int (1))) (eCall gLen (aCons (eVar 0) aNil)))) (eC (.int (1)))))
noncomputable def b_column_l1 : Es := (seqS (augV 3 gOr (e2 gShl (eVar 3) (eVar 2)))
  (asgS (ftOne 2) (e2 gMul (eC (.int (2))) (eVar 2))))
noncomputable def b_column : Es := (seqS (asgS (ftOne 2) (e2 gShl (eC (.int (1))) (eVar 1)))
  (seqS (asgS (ftOne 3) (e2 gShl (e2 gSub (e2 gShl (eC (.int (1))) (eVar 2)) (eC (.int (1)))) (eVar 2)))
  (seqS (asgS (ftOne 2) (e2 gMul (eC (.int (2))) (eVar 2)))
  (seqS (whileS (e2 (gCmp pLt) (eVar 2) (e2 gShl (eC (.int (1))) (eVar 0))) b_column_l1 1000000)
  (retS (eFrz 3))))))
noncomputable def b_table_within (f_column f_full f_table_within : Fn) : Es := (seqS (asgS (ftOne 2) (e2 gIx (eVar 1) (eC (.int (0)))))
  (seqS (ifS (e2 gEq (eVar 2) (eC (.str [110, 97, 109, 101]))) (retS (eFn f_column (aCons (eCall gLen (aCons (eVar 0) aNil)) (aCons (eIndex (eVar 0) (e2 gIx (eVar 1) (eC (.int (1))))) aNil)))) skipS)
  (seqS (ifS (tOo (e2 gEq (eVar 2) (eC (.str [121, 101, 115]))) (e2 gEq (eVar 2) (eC (.str [110, 111])))) (retS (eIf (e2 gEq (eVar 2) (eC (.str [121, 101, 115]))) (eFn f_full (aCons (eFrz 0) aNil)) (eC (.int (0))))) skipS)
  (seqS (asgS (ftOne 3) (eFn f_table_within (aCons (eFrz 0) (aCons (e2 gIx (eVar 1) (eC (.int (1)))) aNil))))
  (seqS (ifS (e2 gEq (eVar 2) (eC (.str [110, 111, 116]))) (retS (e2 gXor (eFn f_full (aCons (eFrz 0) aNil)) (eVar 3))) skipS)
  (seqS (asgS (ftOne 4) (eFn f_table_within (aCons (eFrz 0) (aCons (e2 gIx (eVar 1) (eC (.int (2)))) aNil))))
  (seqS (ifS (e2 gEq (eVar 2) (eC (.str [97, 110, 100]))) (retS (e2 gAnd (eVar 3) (eVar 4))) skipS)
  (seqS (ifS (e2 gEq (eVar 2) (eC (.str [111, 114]))) (retS (e2 gOr (eVar 3) (eVar 4))) skipS)
  (seqS (ifS (e2 gEq (eVar 2) (eC (.str [116, 104, 101, 110]))) (retS (e2 gOr (e2 gXor (eFn f_full (aCons (eFrz 0) aNil)) (eVar 3)) (eVar 4))) skipS)
  (retS (e2 gXor (e2 gXor (eFn f_full (aCons (eFrz 0) aNil)) (eVar 3)) (eVar 4))))))))))))
noncomputable def b_table (f_look_names f_table_within : Fn) : Es := (seqS (expS (eFn f_look_names (aCons (eFrz 0) (aCons (eFrz 1) aNil))))
  (retS (eFn f_table_within (aCons (eFrz 0) (aCons (eFrz 1) aNil)))))
noncomputable def b_flat : Es := (retS (eTup (aCons (eCall gTupleOf (aCons (eVar 0) aNil)) (aCons (eCall gTupleOf (aCons (e2 gRep (eLst (aCons (eC (.int (0))) aNil)) (e2 gShl (eC (.int (1))) (eCall gLen (aCons (eVar 0) aNil)))) aNil)) aNil))))
noncomputable def b_mind_of_l1 (f_full f_table f_lowered : Fn) : Es := (ifS (tAn (e2 gEq (e2 gAnd (e2 gShr (eVar 5) (eVar 6)) (eC (.int (1)))) (eC (.int (1)))) (e2 (gCmp pLt) (e2 gIx (eVar 2) (eVar 6)) (eVar 4))) (setL 2 (eVar 6) (eFrz 4)) skipS)
noncomputable def b_mind_of_l2 (f_full f_table f_lowered : Fn) : Es := (seqS (asgS (ftOne 5) (e2 gXor (eFn f_full (aCons (eFrz 0) aNil)) (eFn f_table (aCons (eFrz 0) (aCons (eFrz 3) aNil)))))
  (forS (iRg gRng1 (aCons (eCall gLen (aCons (eVar 2) aNil)) aNil)) (ftOne 6) (b_mind_of_l1 f_full f_table f_lowered)))
noncomputable def b_mind_of (f_full f_table f_lowered : Fn) : Es := (seqS (asgN 2 (e2 gRep (eLst (aCons (eC (.int (0))) aNil)) (e2 gShl (eC (.int (1))) (eCall gLen (aCons (eVar 0) aNil)))))
  (seqS (forS (iSeq (eFrz 1)) (ftTup [3, 4]) (b_mind_of_l2 f_full f_table f_lowered))
  (frzS 2 (retS (eFn f_lowered (aCons (eFrz 0) (aCons (eFrz 2) aNil)))))))
noncomputable def b_tree_by_6b1a (f__law_tree_by : Fn) : Es := (seqS (asgS (ftOne 3) (e2 gMod (eVar 1) (eC (.int (2147483647)))))
  (seqS (asgS (ftOne 4) (e2 gMod (eVar 3) (eC (.int (9)))))
  (seqS (asgS (ftOne 5) (e2 gDiv (eVar 3) (eC (.int (9)))))
  (seqS (ifS (tOo (e2 gEq (eVar 2) (eC (.int (0)))) (e2 (gCmp pLt) (eVar 4) (eC (.int (2))))) (seqS (ifS (e2 gEq (e2 gMod (eVar 5) (eC (.int (11)))) (eC (.int (0)))) (retS (e2 gIx (eTup (aCons (eTup (aCons (eC (.str [121, 101, 115])) aNil)) (aCons (eTup (aCons (eC (.str [110, 111])) aNil)) aNil))) (e2 gMod (e2 gDiv (eVar 5) (eC (.int (11)))) (eC (.int (2)))))) skipS)
  (retS (eTup (aCons (eC (.str [110, 97, 109, 101])) (aCons (e2 gIx (eVar 0) (e2 gMod (eVar 5) (eCall gLen (aCons (eVar 0) aNil)))) aNil))))) skipS)
  (seqS (asgS (ftOne 6) (eFn f__law_tree_by (aCons (eFrz 0) (aCons (e2 gMod (e2 gMul (e2 gAdd (eVar 5) (eC (.int (1)))) (eC (.int (48271)))) (eC (.int (2147483647)))) (aCons (e2 gSub (eVar 2) (eC (.int (1)))) aNil)))))
  (seqS (ifS (e2 gEq (eVar 4) (eC (.int (2)))) (retS (eTup (aCons (eC (.str [110, 111, 116])) (aCons (eFrz 6) aNil)))) skipS)
  (seqS (asgS (ftOne 7) (eFn f__law_tree_by (aCons (eFrz 0) (aCons (e2 gMod (e2 gMul (e2 gAdd (eVar 5) (eC (.int (7)))) (eC (.int (69621)))) (eC (.int (2147483629)))) (aCons (e2 gSub (eVar 2) (eC (.int (1)))) aNil)))))
  (retS (eTup (aCons (e2 gIx (eTup (aCons (eC (.str [97, 110, 100])) (aCons (eC (.str [111, 114])) (aCons (eC (.str [116, 104, 101, 110])) (aCons (eC (.str [115, 97, 109, 101])) (aCons (eC (.str [97, 110, 100])) (aCons (eC (.str [111, 114])) aNil))))))) (e2 gSub (eVar 4) (eC (.int (3))))) (aCons (eFrz 6) (aCons (eFrz 7) aNil))))))))))))
noncomputable def b_column_9b2c_l1 : Es := (seqS (asgS (ftOne 2) (e2 gOr (eVar 2) (e2 gShl (eVar 2) (eVar 3))))
  (asgS (ftOne 3) (e2 gMul (eC (.int (2))) (eVar 3))))
noncomputable def b_column_9b2c : Es := (seqS (asgS (ftOne 2) (e2 gShl (e2 gSub (e2 gShl (eC (.int (1))) (e2 gShl (eC (.int (1))) (eVar 1))) (eC (.int (1)))) (e2 gShl (eC (.int (1))) (eVar 1))))
  (seqS (asgS (ftOne 3) (e2 gShl (eC (.int (2))) (eVar 1)))
  (seqS (whileS (e2 (gCmp pLt) (eVar 3) (e2 gShl (eC (.int (1))) (eVar 0))) b_column_9b2c_l1 1000000)
  (retS (eFrz 2)))))
noncomputable def b_table_c67c (f__law_column f__law_table : Fn) : Es := (seqS (asgS (ftOne 2) (e2 gSub (e2 gShl (eC (.int (1))) (e2 gShl (eC (.int (1))) (eCall gLen (aCons (eVar 0) aNil)))) (eC (.int (1)))))
  (seqS (ifS (e2 gEq (eCall gLen (aCons (eVar 1) aNil)) (eC (.int (1)))) (retS (e2 gIx (eLst (aCons (eC (.int (0))) (aCons (eFrz 2) aNil))) (eCall gIntOf (aCons (eBl (e2 gEq (e2 gIx (eVar 1) (eC (.int (0)))) (eC (.str [121, 101, 115])))) aNil)))) skipS)
  (seqS (ifS (e2 gEq (e2 gIx (eVar 1) (eC (.int (0)))) (eC (.str [110, 97, 109, 101]))) (retS (eFn f__law_column (aCons (eCall gLen (aCons (eVar 0) aNil)) (aCons (eIndex (eVar 0) (e2 gIx (eVar 1) (eC (.int (1))))) aNil)))) skipS)
  (seqS (asgS (ftOne 3) (eFn f__law_table (aCons (eFrz 0) (aCons (e2 gIx (eVar 1) (eC (.int (1)))) aNil))))
  (seqS (ifS (e2 gEq (e2 gIx (eVar 1) (eC (.int (0)))) (eC (.str [110, 111, 116]))) (retS (e2 gXor (eVar 2) (eVar 3))) skipS)
  (seqS (asgS (ftOne 4) (eFn f__law_table (aCons (eFrz 0) (aCons (e2 gIx (eVar 1) (eC (.int (2)))) aNil))))
  (seqS (ifS (e2 gEq (e2 gIx (eVar 1) (eC (.int (0)))) (eC (.str [97, 110, 100]))) (retS (e2 gAnd (eVar 3) (eVar 4))) skipS)
  (seqS (ifS (e2 gEq (e2 gIx (eVar 1) (eC (.int (0)))) (eC (.str [111, 114]))) (retS (e2 gOr (eVar 3) (eVar 4))) skipS)
  (seqS (ifS (e2 gEq (e2 gIx (eVar 1) (eC (.int (0)))) (eC (.str [116, 104, 101, 110]))) (retS (e2 gOr (e2 gXor (eVar 2) (eVar 3)) (eVar 4))) skipS)
  (retS (e2 gXor (e2 gXor (eVar 2) (eVar 3)) (eVar 4))))))))))))
noncomputable def b_told_by_460e_l1 (f__law_tree_by : Fn) : Es := (seqS (asgS (ftOne 6) (e2 gMod (e2 gMul (eVar 5) (eC (.int (48271)))) (eC (.int (2147483647)))))
  (seqS (asgS (ftOne 7) (e2 gAdd (eC (.int (1))) (e2 gMod (eVar 6) (eC (.int (5))))))
  (seqS (ifS (e2 gEq (e2 gMod (e2 gDiv (eVar 6) (eC (.int (5)))) (eC (.int (3)))) (eC (.int (0)))) (asgS (ftOne 7) (e2 gAdd (eC (.int (1))) (e2 gMod (e2 gAdd (eVar 5) (eVar 4)) (e2 gPow (eC (.int (10))) (eC (.int (30))))))) skipS)
  (mutS 3 gAppend (aCons (eTup (aCons (eFn f__law_tree_by (aCons (eFrz 0) (aCons (e2 gAdd (e2 gMul (eVar 5) (eC (.int (16807)))) (eVar 4)) (aCons (eFrz 2) aNil)))) (aCons (eFrz 7) aNil))) aNil) kNx))))
noncomputable def b_told_by_460e (f__law_tree_by : Fn) : Es := (seqS (asgN 3 (eLst aNil))
  (seqS (forS (iEn (eFrz 1)) (ftTup [4, 5]) (b_told_by_460e_l1 f__law_tree_by))
  (frzS 3 (retS (eFrz 3)))))
noncomputable def b_marks_157a_l1 (f__law_table : Fn) : Es := (seqS (asgS (ftOne 5) (eFn f__law_table (aCons (eFrz 0) (aCons (eFrz 3) aNil))))
  (asgN 2 (eLc [6, 7] (iEn (eVar 2)) (ftTup [6, 7]) fcYes (eCall gMax2 (aCons (eVar 7) (aCons (e2 gMul (eVar 4) (e2 gSub (eC (.int (1))) (e2 gMod (e2 gShr (eVar 5) (eVar 6)) (eC (.int (2)))))) aNil))))))
noncomputable def b_marks_157a (f__law_table : Fn) : Es := (seqS (asgN 2 (eLc [6] (iRg gRng1 (aCons (e2 gShl (eC (.int (1))) (eCall gLen (aCons (eVar 0) aNil))) aNil)) (ftOne 6) fcYes (eC (.int (0)))))
  (seqS (forS (iSeq (eFrz 1)) (ftTup [3, 4]) (b_marks_157a_l1 f__law_table))
  (frzS 2 (retS (eFrz 2)))))
noncomputable def b_least_rank_l1 : Es := (ifS (tAn (e2 gEq (e2 gAnd (e2 gShr (eVar 1) (eVar 3)) (eC (.int (1)))) (eC (.int (1)))) (tOo (e1 gIsN (eVar 2)) (e2 (gCmp pLt) (eVar 4) (eVar 2)))) (asgS (ftOne 2) (eFrz 4)) skipS)
noncomputable def b_least_rank : Es := (seqS (asgS (ftOne 2) (eC .non))
  (seqS (forS (iEn (eFrz 0)) (ftTup [3, 4]) b_least_rank_l1)
  (retS (eFrz 2))))
noncomputable def b_firmness (f_full f_table f_least_rank : Fn) : Es := (seqS (asgS (ftTup [2, 3]) (eFrz 0))
  (retS (eFn f_least_rank (aCons (eFrz 3) (aCons (e2 gXor (eFn f_full (aCons (eFrz 2) aNil)) (eFn f_table (aCons (eFrz 2) (aCons (eFrz 1) aNil)))) aNil)))))
noncomputable def b_held (f_firmness : Fn) : Es := (seqS (asgS (ftOne 2) (eFn f_firmness (aCons (eFrz 0) (aCons (eFrz 1) aNil))))
  (retS (eOo (eBl (e1 gIsN (eVar 2))) (eBl (e2 (gCmp pGt) (eVar 2) (eC (.int (0))))))))
noncomputable def b_least_8f77 : Es := (seqS (asgN 2 (eLc [3] (iRg gRng1 (aCons (eCall gLen (aCons (eVar 0) aNil)) aNil)) (ftOne 3) (e2 gEq (e2 gMod (e2 gShr (eVar 1) (eVar 3)) (eC (.int (2)))) (eC (.int (1)))) (e2 gIx (eVar 0) (eVar 3))))
  (seqS (ifS (e2 gEq (eVar 2) (eLst aNil)) (retS (eC .non)) skipS)
  (retS (eCall gMin1 (aCons (eVar 2) aNil)))))
noncomputable def b_firm_fits_071e (f__law_table f__law_least f_firmness f_held f__law_whole : Fn) : Es := (seqS (asgS (ftOne 2) (e2 gXor (e2 gSub (e2 gShl (eC (.int (1))) (eCall gLen (aCons (e2 gIx (eVar 0) (eC (.int (1)))) aNil))) (eC (.int (1)))) (eFn f__law_table (aCons (e2 gIx (eVar 0) (eC (.int (0)))) (aCons (eFrz 1) aNil)))))
  (seqS (asgS (ftOne 3) (eFn f__law_least (aCons (e2 gIx (eVar 0) (eC (.int (1)))) (aCons (eFrz 2) aNil))))
  (seqS (asgS (ftOne 4) (eFn f_firmness (aCons (eFrz 0) (aCons (eFrz 1) aNil))))
  (seqS (asgS (ftOne 5) (eFn f_held (aCons (eFrz 0) (aCons (eFrz 1) aNil))))
  (seqS (ifS (tOo (tNt (e1 tBool (eBl (e1 (gIsi "bool") (eVar 5))))) (e2 gNe (eVar 5) (eOo (eBl (e1 gIsN (eVar 3))) (eBl (e2 (gCmp pGt) (eVar 3) (eC (.int (0)))))))) (retS (eC (.bl false))) skipS)
  (seqS (ifS (e1 gIsN (eVar 3)) (retS (eBl (e1 gIsN (eVar 4)))) skipS)
  (retS (eAn (eFn f__law_whole (aCons (eFrz 4) aNil)) (eBl (e2 gEq (eVar 4) (eVar 3)))))))))))
noncomputable def b_keeps : Es := (retS (eBl (e2 gEq (e2 gAnd (e2 gShr (eVar 0) (eVar 1)) (eC (.int (1)))) (eC (.int (1))))))
noncomputable def b_turned_l1 (f_table f_full f_least_rank f_keeps : Fn) : Es := (ifS (e1 tBool (eFn f_keeps (aCons (eFrz 5) (aCons (eFrz 10) aNil)))) (mutS 9 gAppend (aCons (e2 gAdd (eVar 11) (eVar 7)) aNil) kNx) (mutS 9 gAppend (aCons (e2 gAdd (eVar 11) (eVar 8)) aNil) kNx))
noncomputable def b_turned (f_table f_full f_least_rank f_keeps : Fn) : Es := (seqS (asgS (ftTup [3, 4]) (eFrz 0))
  (seqS (asgS (ftOne 5) (eFn f_table (aCons (eFrz 3) (aCons (eFrz 1) aNil))))
  (seqS (asgS (ftOne 6) (eFn f_full (aCons (eFrz 3) aNil)))
  (seqS (ifS (e2 gEq (eVar 5) (eVar 6)) deadS skipS)
  (seqS (ifS (e2 gEq (eVar 5) (eC (.int (0)))) deadS skipS)
  (seqS (asgS (ftOne 7) (e2 gSub (eCall gMax2 (aCons (eC (.int (0))) (aCons (e1 gNeg (eVar 2)) aNil))) (eFn f_least_rank (aCons (eFrz 4) (aCons (eFrz 5) aNil)))))
  (seqS (asgS (ftOne 8) (e2 gSub (eCall gMax2 (aCons (eC (.int (0))) (aCons (eVar 2) aNil))) (eFn f_least_rank (aCons (eFrz 4) (aCons (e2 gXor (eVar 6) (eVar 5)) aNil)))))
  (seqS (asgN 9 (eLst aNil))
  (seqS (forS (iEn (eFrz 4)) (ftTup [10, 11]) (b_turned_l1 f_table f_full f_least_rank f_keeps))
  (retS (eTup (aCons (eFrz 3) (aCons (eCall gTupleOf (aCons (eVar 9) aNil)) aNil)))))))))))))
noncomputable def b_many_by_f86d : Es := (retS (e2 gIx (eLst (aCons (eC (.int (1))) (aCons (eC (.int (2))) (aCons (eC (.int (2))) (aCons (eC (.int (3))) (aCons (eC (.int (3))) (aCons (eC (.int (4))) (aCons (eC (.int (3))) (aCons (e2 gAdd (eC (.int (1))) (e2 gMod (e2 gDiv (eVar 0) (eC (.int (8)))) (eC (.int (8))))) aNil))))))))) (e2 gMod (eVar 0) (eC (.int (8))))))
noncomputable def b_names_by_4145 : Es := (seqS (asgS (ftOne 2) (eC (.str [97, 98, 99, 100, 101, 102, 103, 104, 105, 106, 107, 108, 109, 110, 111, 112, 113, 114, 115, 116, 117, 118, 119, 120, 121, 122])))
  (seqS (asgS (ftOne 3) (e2 gMod (eVar 0) (eC (.int (26)))))
  (seqS (asgS (ftOne 4) (e2 gAdd (eC (.int (1))) (e2 gMod (e2 gDiv (eVar 0) (eC (.int (26)))) (eC (.int (8))))))
  (seqS (asgS (ftOne 5) (e2 gMod (e2 gDiv (eVar 0) (eC (.int (208)))) (eVar 4)))
  (seqS (ifS (e2 gEq (e2 gMod (e2 gDiv (eVar 0) (eC (.int (3)))) (eC (.int (4)))) (eC (.int (1)))) (retS (eCall gTupleOf (aCons (eLc [7] (iRg gRng1 (aCons (eVar 1) aNil)) (ftOne 7) fcYes (eSl (e2 gMul (e2 gIx (eVar 2) (eVar 3)) (eC (.int (8)))) oNone (oSome (e2 gAdd (eC (.int (1))) (e2 gMod (e2 gAdd (e2 gMul (eC (.int (3))) (eVar 7)) (e2 gDiv (eVar 0) (eC (.int (12))))) (eC (.int (8)))))))) aNil))) skipS)
  (seqS (asgS (ftOne 6) (e2 gMul (e2 gIx (eVar 2) (e2 gMod (e2 gDiv (eVar 0) (eC (.int (1664)))) (eC (.int (26))))) (eVar 4)))
  (retS (eCall gTupleOf (aCons (eLc [7] (iRg gRng1 (aCons (eVar 1) aNil)) (ftOne 7) fcYes (e2 gAdd (e2 gAdd (eSl (eVar 6) oNone (oSome (eVar 5))) (e2 gIx (eVar 2) (e2 gMod (e2 gAdd (eVar 3) (e2 gMul (eC (.int (5))) (eVar 7))) (eC (.int (26)))))) (eSl (eVar 6) (oSome (e2 gAdd (eVar 5) (eC (.int (1))))) oNone))) aNil)))))))))
noncomputable def b_column_e13e_l1 : Es := (seqS (asgS (ftOne 3) (e2 gOr (eVar 3) (e2 gShl (eVar 3) (eVar 2))))
  (asgS (ftOne 2) (e2 gMul (eC (.int (2))) (eVar 2))))
noncomputable def b_column_e13e : Es := (seqS (asgS (ftOne 2) (e2 gShl (eC (.int (1))) (eVar 0)))
  (seqS (asgS (ftOne 3) (e2 gShl (e2 gSub (e2 gShl (eC (.int (1))) (eVar 2)) (eC (.int (1)))) (eVar 2)))
  (seqS (asgS (ftOne 2) (e2 gMul (eC (.int (2))) (eVar 2)))
  (seqS (whileS (e2 (gCmp pLt) (eVar 2) (e2 gShl (eC (.int (1))) (eVar 1))) b_column_e13e_l1 1000000)
  (retS (eFrz 3))))))
noncomputable def b_truth_2882 (f__law_column f__law_truth : Fn) : Es := (seqS (asgS (ftOne 2) (e2 gSub (e2 gShl (eC (.int (1))) (e2 gShl (eC (.int (1))) (eCall gLen (aCons (eVar 0) aNil)))) (eC (.int (1)))))
  (seqS (ifS (e2 gEq (e2 gIx (eVar 1) (eC (.int (0)))) (eC (.str [110, 97, 109, 101]))) (retS (eFn f__law_column (aCons (eIndex (eVar 0) (e2 gIx (eVar 1) (eC (.int (1))))) (aCons (eCall gLen (aCons (eVar 0) aNil)) aNil)))) skipS)
  (seqS (ifS (e2 gEq (e2 gIx (eVar 1) (eC (.int (0)))) (eC (.str [121, 101, 115]))) (retS (eFrz 2)) skipS)
  (seqS (ifS (e2 gEq (e2 gIx (eVar 1) (eC (.int (0)))) (eC (.str [110, 111]))) (retS (eC (.int (0)))) skipS)
  (seqS (asgS (ftOne 3) (eFn f__law_truth (aCons (eFrz 0) (aCons (e2 gIx (eVar 1) (eC (.int (1)))) aNil))))
  (seqS (ifS (e2 gEq (e2 gIx (eVar 1) (eC (.int (0)))) (eC (.str [110, 111, 116]))) (retS (e2 gXor (eVar 2) (eVar 3))) skipS)
  (seqS (asgS (ftOne 4) (eFn f__law_truth (aCons (eFrz 0) (aCons (e2 gIx (eVar 1) (eC (.int (2)))) aNil))))
  (seqS (ifS (e2 gEq (e2 gIx (eVar 1) (eC (.int (0)))) (eC (.str [97, 110, 100]))) (retS (e2 gAnd (eVar 3) (eVar 4))) skipS)
  (seqS (ifS (e2 gEq (e2 gIx (eVar 1) (eC (.int (0)))) (eC (.str [111, 114]))) (retS (e2 gOr (eVar 3) (eVar 4))) skipS)
  (seqS (ifS (e2 gEq (e2 gIx (eVar 1) (eC (.int (0)))) (eC (.str [116, 104, 101, 110]))) (retS (e2 gOr (e2 gXor (eVar 2) (eVar 3)) (eVar 4))) skipS)
  (retS (e2 gXor (e2 gXor (eVar 2) (eVar 3)) (eVar 4)))))))))))))
noncomputable def b_tree_by_7894 (f__law_tree_by : Fn) : Es := (seqS (asgS (ftOne 3) (e2 gMod (eVar 1) (eC (.int (11)))))
  (seqS (asgS (ftOne 4) (e2 gDiv (eVar 1) (eC (.int (11)))))
  (seqS (ifS (tOo (e2 gEq (eVar 2) (eC (.int (0)))) (e2 (gCmp pLt) (eVar 3) (eC (.int (2))))) (seqS (ifS (e2 gEq (e2 gMod (eVar 4) (eC (.int (9)))) (eC (.int (8)))) (retS (e2 gIx (eLst (aCons (eTup (aCons (eC (.str [121, 101, 115])) aNil)) (aCons (eTup (aCons (eC (.str [110, 111])) aNil)) aNil))) (e2 gMod (e2 gDiv (eVar 4) (eC (.int (9)))) (eC (.int (2)))))) skipS)
  (retS (eTup (aCons (eC (.str [110, 97, 109, 101])) (aCons (e2 gIx (eVar 0) (e2 gMod (eVar 4) (eCall gLen (aCons (eVar 0) aNil)))) aNil))))) skipS)
  (seqS (asgS (ftOne 5) (eFn f__law_tree_by (aCons (eFrz 0) (aCons (e2 gMod (e2 gMul (e2 gAdd (e2 gMod (eVar 1) (eC (.int (2147483647)))) (eC (.int (1)))) (eC (.int (48271)))) (eC (.int (2147483647)))) (aCons (e2 gSub (eVar 2) (eC (.int (1)))) aNil)))))
  (seqS (ifS (e2 (gCmp pLt) (eVar 3) (eC (.int (4)))) (retS (eTup (aCons (eC (.str [110, 111, 116])) (aCons (eFrz 5) aNil)))) skipS)
  (seqS (asgS (ftOne 6) (eFn f__law_tree_by (aCons (eFrz 0) (aCons (e2 gMod (e2 gMul (e2 gAdd (e2 gMod (eVar 1) (eC (.int (2147483629)))) (eC (.int (2)))) (eC (.int (69621)))) (eC (.int (2147483629)))) (aCons (e2 gSub (eVar 2) (eC (.int (1)))) aNil)))))
  (retS (eTup (aCons (e2 gIx (eLst (aCons (eC (.str [97, 110, 100])) (aCons (eC (.str [111, 114])) (aCons (eC (.str [116, 104, 101, 110])) (aCons (eC (.str [115, 97, 109, 101])) aNil))))) (e2 gMod (eVar 4) (eC (.int (4))))) (aCons (eFrz 5) (aCons (eFrz 6) aNil)))))))))))
noncomputable def b_open_by_4ae7 (f__law_tree_by f__law_truth : Fn) : Es := (seqS (asgS (ftOne 2) (eFn f__law_tree_by (aCons (eFrz 0) (aCons (eFrz 1) (aCons (eC (.int (4))) aNil)))))
  (seqS (ifS (e2 gEq (e2 gMod (eFn f__law_truth (aCons (eFrz 0) (aCons (eFrz 2) aNil))) (e2 gSub (e2 gShl (eC (.int (1))) (e2 gShl (eC (.int (1))) (eCall gLen (aCons (eVar 0) aNil)))) (eC (.int (1))))) (eC (.int (0)))) (seqS (asgS (ftOne 2) (eTup (aCons (eC (.str [110, 97, 109, 101])) (aCons (e2 gIx (eVar 0) (e2 gMod (e2 gDiv (eVar 1) (eC (.int (2)))) (eCall gLen (aCons (eVar 0) aNil)))) aNil))))
  (ifS (e2 gEq (e2 gMod (eVar 1) (eC (.int (2)))) (eC (.int (1)))) (asgS (ftOne 2) (eTup (aCons (eC (.str [110, 111, 116])) (aCons (eFrz 2) aNil)))) skipS)) skipS)
  (retS (eFrz 2))))
noncomputable def b_mind_by_72c0_l1 (f__law_cell_at : Fn) : Es := (seqS (asgS (ftOne 5) (eFn f__law_cell_at (aCons (eFrz 0) (aCons (e2 gAdd (eVar 1) (e2 gMod (eVar 4) (eC (.int (8))))) aNil))))
  (seqS (ifS (e2 (gCmp pGt) (eVar 4) (eC (.int (7)))) (asgS (ftOne 5) (e2 gMod (e2 gMul (e2 gAdd (eVar 5) (e2 gMul (eVar 4) (eVar 4))) (eC (.int (48271)))) (eC (.int (2147483647))))) skipS)
  (ifS (e2 gEq (e2 gMod (eVar 5) (eC (.int (3)))) (eC (.int (0)))) (mutS 3 gAppend (aCons (e2 gMod (e2 gDiv (eVar 5) (eC (.int (3)))) (e2 gPow (eC (.int (10))) (eC (.int (30))))) aNil) kNx) (mutS 3 gAppend (aCons (e2 gMod (e2 gDiv (eVar 5) (eC (.int (3)))) (eC (.int (4)))) aNil) kNx))))
noncomputable def b_mind_by_72c0 (f__law_cell_at : Fn) : Es := (seqS (asgN 3 (eLst aNil))
  (seqS (forS (iRg gRng1 (aCons (e2 gShl (eC (.int (1))) (eCall gLen (aCons (eVar 2) aNil))) aNil)) (ftOne 4) (b_mind_by_72c0_l1 f__law_cell_at))
  (seqS (asgS (ftOne 6) (eCall gMin1 (aCons (eVar 3) aNil)))
  (retS (eTup (aCons (eFrz 2) (aCons (eCall gTupleOf (aCons (eLc [7] (iSeq (eVar 3)) (ftOne 7) fcYes (e2 gSub (eVar 7) (eVar 6))) aNil)) aNil)))))))
noncomputable def b_least_7900_l1 : Es := (ifS (tAn (e2 gEq (e2 gAnd (e2 gShr (eVar 1) (eVar 3)) (eC (.int (1)))) (eC (.int (1)))) (tOo (e1 gIsN (eVar 2)) (e2 (gCmp pLt) (e2 gIx (eVar 0) (eVar 3)) (eVar 2)))) (asgS (ftOne 2) (e2 gIx (eVar 0) (eVar 3))) skipS)
noncomputable def b_least_7900 : Es := (seqS (asgS (ftOne 2) (eC .non))
  (seqS (forS (iRg gRng1 (aCons (eCall gLen (aCons (eVar 0) aNil)) aNil)) (ftOne 3) b_least_7900_l1)
  (retS (eFrz 2))))
noncomputable def b_form_8ecd_l1 (f__law_whole : Fn) : Es := (ifS (tOo (tNt (e1 tBool (eFn f__law_whole (aCons (eFrz 2) aNil)))) (e2 (gCmp pLt) (eVar 2) (eC (.int (0))))) (retS (eC (.bl false))) skipS)
noncomputable def b_form_8ecd (f__law_whole : Fn) : Es := (seqS (ifS (tOo (tNt (e1 tBool (eBl (e1 (gIsi "tuple") (eVar 0))))) (tOo (e2 gNe (eCall gLen (aCons (eVar 0) aNil)) (eC (.int (2)))) (tOo (tNt (e1 tBool (eBl (e1 (gIsi "tuple") (e2 gIx (eVar 0) (eC (.int (0)))))))) (e2 gNe (e2 gIx (eVar 0) (eC (.int (0)))) (eVar 1))))) (retS (eC (.bl false))) skipS)
  (seqS (ifS (tOo (tNt (e1 tBool (eBl (e1 (gIsi "tuple") (e2 gIx (eVar 0) (eC (.int (1)))))))) (e2 gNe (eCall gLen (aCons (e2 gIx (eVar 0) (eC (.int (1)))) aNil)) (e2 gShl (eC (.int (1))) (eCall gLen (aCons (eVar 1) aNil))))) (retS (eC (.bl false))) skipS)
  (seqS (forS (iSeq (e2 gIx (eVar 0) (eC (.int (1))))) (ftOne 2) (b_form_8ecd_l1 f__law_whole))
  (retS (eC (.bl true))))))
noncomputable def b_lean_by_8e4a : Es := (seqS (ifS (e2 gEq (e2 gMod (eVar 0) (eC (.int (4)))) (eC (.int (0)))) (retS (e2 gSub (e2 gMod (e2 gDiv (eVar 0) (eC (.int (4)))) (eC (.int (5)))) (eC (.int (2))))) skipS)
  (seqS (ifS (e2 gEq (e2 gMod (eVar 0) (eC (.int (4)))) (eC (.int (1)))) (retS (eC (.int (0)))) skipS)
  (seqS (ifS (e2 gEq (e2 gMod (eVar 0) (eC (.int (4)))) (eC (.int (2)))) (retS (e2 gMod (e2 gDiv (eVar 0) (eC (.int (4)))) (e2 gPow (eC (.int (10))) (eC (.int (30)))))) skipS)
  (retS (e1 gNeg (e2 gMod (e2 gDiv (eVar 0) (eC (.int (4)))) (e2 gPow (eC (.int (10))) (eC (.int (30))))))))))
noncomputable def b_side_65e0_l1 (f__law_least : Fn) : Es := (ifS (e2 gEq (e2 gAnd (e2 gShr (eVar 2) (eVar 5)) (eC (.int (1)))) (eC (.int (1)))) (seqS (ifS (e1 gIsN (eVar 4)) (asgS (ftOne 4) (eFrz 5)) skipS)
  (ifS (e2 gNe (e2 gSub (e2 gIx (eVar 1) (eVar 5)) (e2 gIx (eVar 1) (eVar 4))) (e2 gSub (e2 gIx (eVar 0) (eVar 5)) (e2 gIx (eVar 0) (eVar 4)))) (retS (eC (.bl false))) skipS)) skipS)
noncomputable def b_side_65e0 (f__law_least : Fn) : Es := (seqS (asgS (ftOne 4) (eC .non))
  (seqS (forS (iRg gRng1 (aCons (eCall gLen (aCons (eVar 0) aNil)) aNil)) (ftOne 5) (b_side_65e0_l1 f__law_least))
  (retS (eBl (e2 gEq (eFn f__law_least (aCons (eFrz 1) (aCons (eFrz 2) aNil))) (eVar 3))))))
noncomputable def b_sides_c0c7 (f__law_form f__law_truth f__law_side : Fn) : Es := (seqS (asgS (ftTup [4, 5]) (eFrz 0))
  (seqS (ifS (tNt (e1 tBool (eFn f__law_form (aCons (eFrz 1) (aCons (eFrz 4) aNil))))) (retS (eC (.bl false))) skipS)
  (seqS (asgS (ftOne 6) (eFn f__law_truth (aCons (eFrz 4) (aCons (eFrz 2) aNil))))
  (seqS (asgS (ftOne 7) (e2 gSub (e2 gShl (eC (.int (1))) (e2 gShl (eC (.int (1))) (eCall gLen (aCons (eVar 4) aNil)))) (eC (.int (1)))))
  (seqS (ifS (tNt (e1 tBool (eFn f__law_side (aCons (eFrz 5) (aCons (e2 gIx (eVar 1) (eC (.int (1)))) (aCons (eFrz 6) (aCons (eCall gMax2 (aCons (eC (.int (0))) (aCons (e1 gNeg (eVar 3)) aNil))) aNil))))))) (retS (eC (.bl false))) skipS)
  (retS (eFn f__law_side (aCons (eFrz 5) (aCons (e2 gIx (eVar 1) (eC (.int (1)))) (aCons (e2 gXor (eVar 7) (eVar 6)) (aCons (eCall gMax2 (aCons (eC (.int (0))) (aCons (eVar 3) aNil))) aNil)))))))))))
noncomputable def b_leaning (f_table f_full f_least_rank : Fn) : Es := (seqS (asgS (ftTup [2, 3]) (eFrz 0))
  (seqS (asgS (ftOne 4) (eFn f_table (aCons (eFrz 2) (aCons (eFrz 1) aNil))))
  (seqS (asgS (ftOne 5) (e2 gXor (eFn f_full (aCons (eFrz 2) aNil)) (eVar 4)))
  (seqS (ifS (e2 gEq (eVar 5) (eC (.int (0)))) deadS skipS)
  (seqS (ifS (e2 gEq (eVar 4) (eC (.int (0)))) deadS skipS)
  (retS (e2 gSub (eFn f_least_rank (aCons (eFrz 3) (aCons (eFrz 5) aNil))) (eFn f_least_rank (aCons (eFrz 3) (aCons (eFrz 4) aNil))))))))))
noncomputable def b_given_up (f_firmness f_turned : Fn) : Es := (seqS (asgS (ftOne 2) (eFn f_firmness (aCons (eFrz 0) (aCons (eFrz 1) aNil))))
  (seqS (ifS (e1 gIsN (eVar 2)) deadS skipS)
  (seqS (ifS (e2 gEq (eVar 2) (eC (.int (0)))) (retS (eFrz 0)) skipS)
  (retS (eFn f_turned (aCons (eFrz 0) (aCons (eFrz 1) (aCons (eC (.int (0))) aNil))))))))
noncomputable def b_others_by_aa56_l1 (f__law_tree_by : Fn) : Es := (seqS (asgS (ftOne 5) (eFn f__law_tree_by (aCons (eFrz 0) (aCons (e2 gDiv (eVar 4) (eC (.int (4)))) (aCons (eC (.int (3))) aNil)))))
  (seqS (ifS (e2 gEq (e2 gMod (eVar 4) (eC (.int (4)))) (eC (.int (0)))) (asgS (ftOne 5) (eTup (aCons (eC (.str [111, 114])) (aCons (eFrz 1) (aCons (eFrz 5) aNil))))) skipS)
  (seqS (ifS (e2 gEq (e2 gMod (eVar 4) (eC (.int (4)))) (eC (.int (1)))) (asgS (ftOne 5) (eTup (aCons (eC (.str [116, 104, 101, 110])) (aCons (eFrz 1) (aCons (eFrz 5) aNil))))) skipS)
  (mutS 3 gAppend (aCons (eFrz 5) aNil) kNx))))
noncomputable def b_others_by_aa56 (f__law_tree_by : Fn) : Es := (seqS (asgN 3 (eLst aNil))
  (seqS (forS (iSeq (eFrz 2)) (ftOne 4) (b_others_by_aa56_l1 f__law_tree_by))
  (frzS 3 (retS (eFrz 3)))))
noncomputable def b_stays_1374 (f__law_truth f__law_least f_firmness f_held : Fn) : Es := (seqS (asgS (ftTup [4, 5]) (eFrz 0))
  (seqS (asgS (ftOne 6) (e2 gSub (e2 gShl (eC (.int (1))) (e2 gShl (eC (.int (1))) (eCall gLen (aCons (eVar 4) aNil)))) (eC (.int (1)))))
  (seqS (asgS (ftOne 7) (eFn f__law_truth (aCons (eFrz 4) (aCons (eFrz 2) aNil))))
  (seqS (asgS (ftOne 8) (eFn f__law_least (aCons (eFrz 5) (aCons (e2 gXor (eVar 6) (eVar 7)) aNil))))
  (seqS (asgS (ftOne 9) (eFn f__law_least (aCons (eFrz 5) (aCons (e2 gXor (eVar 6) (e2 gOr (eVar 7) (eFn f__law_truth (aCons (eFrz 4) (aCons (eFrz 3) aNil))))) aNil))))
  (seqS (asgS (ftOne 10) (eFn f_firmness (aCons (eFrz 0) (aCons (eTup (aCons (eC (.str [111, 114])) (aCons (eFrz 2) (aCons (eFrz 3) aNil)))) aNil))))
  (seqS (ifS (tOo (e2 gNe (eVar 10) (eVar 9)) (e2 gNe (eFn f_firmness (aCons (eFrz 0) (aCons (eFrz 2) aNil))) (eVar 8))) (retS (eC (.bl false))) skipS)
  (seqS (ifS (e2 gEq (eVar 8) (eC (.int (0)))) (retS (eBl (e2 gEq (eFn f_held (aCons (eFrz 1) (aCons (eFrz 3) aNil))) (eFn f_held (aCons (eFrz 0) (aCons (eFrz 3) aNil)))))) skipS)
  (retS (eOo (eNt (eFn f_held (aCons (eFrz 0) (aCons (eFrz 3) aNil)))) (eBl (e2 gEq (eFn f_held (aCons (eFrz 1) (aCons (eFrz 3) aNil))) (eOo (eBl (e1 gIsN (eVar 10))) (eBl (e2 (gCmp pGt) (eVar 10) (eVar 8))))))))))))))))
noncomputable def b_taken_on (f_table f_full f_turned : Fn) : Es := (seqS (asgS (ftOne 3) (e2 gIx (eVar 0) (eC (.int (0)))))
  (seqS (ifS (e2 gEq (eFn f_table (aCons (eFrz 3) (aCons (eFrz 1) aNil))) (eFn f_full (aCons (eFrz 3) aNil))) (retS (eFrz 0)) skipS)
  (retS (eFn f_turned (aCons (eFrz 0) (aCons (eFrz 1) (aCons (eFrz 2) aNil)))))))
noncomputable def b_held_by_6cf5 (f__law_open_by f_held : Fn) : Es := (seqS (asgS (ftOne 3) (eFn f__law_open_by (aCons (eFrz 1) (aCons (e2 gDiv (eVar 2) (eC (.int (2)))) aNil))))
  (seqS (ifS (tAn (e2 gEq (e2 gMod (eVar 2) (eC (.int (2)))) (eC (.int (1)))) (tAn (tNt (e1 tBool (eFn f_held (aCons (eFrz 0) (aCons (eFrz 3) aNil))))) (e1 tBool (eFn f_held (aCons (eFrz 0) (aCons (eTup (aCons (eC (.str [110, 111, 116])) (aCons (eFrz 3) aNil))) aNil)))))) (retS (eTup (aCons (eC (.str [110, 111, 116])) (aCons (eFrz 3) aNil)))) skipS)
  (retS (eFrz 3))))
noncomputable def b_together_a2d0 (f_held : Fn) : Es := (seqS (ifS (tAn (e1 tBool (eFn f_held (aCons (eFrz 0) (aCons (eFrz 5) aNil)))) (tAn (e1 tBool (eFn f_held (aCons (eFrz 1) (aCons (eFrz 5) aNil)))) (tNt (e1 tBool (eFn f_held (aCons (eFrz 2) (aCons (eFrz 5) aNil))))))) (retS (eC (.bl false))) skipS)
  (seqS (ifS (tAn (tNt (e1 tBool (eFn f_held (aCons (eFrz 2) (aCons (eFrz 3) aNil))))) (tAn (e1 tBool (eFn f_held (aCons (eFrz 2) (aCons (eFrz 5) aNil)))) (tNt (e1 tBool (eFn f_held (aCons (eFrz 0) (aCons (eFrz 5) aNil))))))) (retS (eC (.bl false))) skipS)
  (retS (eOo (eFn f_held (aCons (eFrz 2) (aCons (eFrz 4) aNil))) (eOo (eNt (eFn f_held (aCons (eFrz 2) (aCons (eFrz 5) aNil)))) (eFn f_held (aCons (eFrz 1) (aCons (eFrz 5) aNil))))))))
noncomputable def b_second_by_66f0 (f__law_open_by f__law_truth : Fn) : Es := (seqS (asgS (ftOne 3) (eFn f__law_open_by (aCons (eFrz 0) (aCons (e2 gDiv (eVar 2) (eC (.int (3)))) aNil))))
  (seqS (asgS (ftOne 4) (eTup (aCons (eC (.str [97, 110, 100])) (aCons (e2 gIx (eLst (aCons (eFrz 1) (aCons (eTup (aCons (eC (.str [110, 111, 116])) (aCons (eFrz 1) aNil))) aNil))) (e2 gMod (e2 gMod (eVar 2) (eC (.int (3)))) (eC (.int (2))))) (aCons (eFrz 3) aNil)))))
  (seqS (ifS (tAn (e2 (gCmp pLt) (e2 gMod (eVar 2) (eC (.int (3)))) (eC (.int (2)))) (e2 gNe (eFn f__law_truth (aCons (eFrz 0) (aCons (eFrz 4) aNil))) (eC (.int (0))))) (retS (eFrz 4)) skipS)
  (retS (eFrz 3)))))
noncomputable def b_broken_at_l1 (f_keeps : Fn) : Es := (ifS (tAn (e2 gEq (eVar 4) (eVar 2)) (tNt (e1 tBool (eFn f_keeps (aCons (eFrz 1) (aCons (eFrz 3) aNil)))))) (retS (eFrz 3)) skipS)
noncomputable def b_broken_at (f_keeps : Fn) : Es := (seqS (forS (iEn (eFrz 0)) (ftTup [3, 4]) (b_broken_at_l1 f_keeps))
  (retS (eC .non)))
noncomputable def b_goes_8a44 (f__law_least f__law_truth f_held : Fn) : Es := (seqS (asgS (ftTup [5, 6]) (eFrz 0))
  (seqS (asgS (ftOne 7) (e2 gSub (e2 gShl (eC (.int (1))) (e2 gShl (eC (.int (1))) (eCall gLen (aCons (eVar 5) aNil)))) (eC (.int (1)))))
  (seqS (asgS (ftOne 8) (eFn f__law_least (aCons (eFrz 6) (aCons (e2 gXor (eVar 7) (eVar 2)) aNil))))
  (seqS (asgS (ftOne 9) (eFn f__law_truth (aCons (eFrz 5) (aCons (eFrz 4) aNil))))
  (seqS (asgS (ftOne 10) (eC (.bl false)))
  (seqS (ifS (tAn (e2 (gCmp pGt) (eVar 8) (eC (.int (0)))) (e2 gNe (eFn f__law_least (aCons (eFrz 6) (aCons (e2 gXor (eVar 7) (eVar 9)) aNil))) (eC (.int (0))))) (asgS (ftOne 10) (eBl (e2 gEq (eFn f__law_least (aCons (eFrz 6) (aCons (e2 gXor (eVar 7) (e2 gOr (eVar 2) (eVar 9))) aNil))) (eVar 8)))) skipS)
  (seqS (ifS (e2 gNe (eVar 10) (eAn (eFn f_held (aCons (eFrz 0) (aCons (eFrz 4) aNil))) (eNt (eFn f_held (aCons (eFrz 1) (aCons (eFrz 4) aNil)))))) (retS (eC .non)) skipS)
  (retS (eFrz 10)))))))))
noncomputable def b_pairs_eb99_l1 (f__law_least f__law_whole : Fn) : Es := (seqS (asgS (ftOne 9) (e2 gIx (eVar 4) (eVar 8)))
  (seqS (ifS (tOo (tNt (e1 tBool (eBl (e1 (gIsi "tuple") (eVar 9))))) (tOo (e2 gNe (eCall gLen (aCons (eVar 9) aNil)) (eC (.int (2)))) (tOo (tNt (e1 tBool (eFn f__law_whole (aCons (e2 gIx (eVar 9) (eC (.int (0)))) aNil)))) (tNt (e1 tBool (eFn f__law_whole (aCons (e2 gIx (eVar 9) (eC (.int (1)))) aNil))))))) (retS (eC (.bl false))) skipS)
  (seqS (ifS (tOo (e2 gNe (e2 gIx (eVar 9) (eC (.int (0)))) (e2 gIx (eVar 3) (eVar 8))) (tOo (tNt (eCh pLe pLt (eC (.int (0))) (e2 gIx (eVar 9) (eC (.int (1)))) (eCall gLen (aCons (eVar 6) aNil)))) (e2 gNe (e2 gIx (eVar 6) (e2 gIx (eVar 9) (eC (.int (1))))) (eVar 7)))) (retS (eC (.bl false))) skipS)
  (ifS (e2 gEq (e2 gAnd (e2 gShr (e2 gOr (eVar 1) (e2 gIx (eVar 2) (e2 gIx (eVar 3) (eVar 8)))) (e2 gIx (eVar 9) (eC (.int (1))))) (eC (.int (1)))) (eC (.int (1)))) (retS (eC (.bl false))) skipS))))
noncomputable def b_pairs_eb99 (f__law_least f__law_whole : Fn) : Es := (seqS (asgS (ftTup [5, 6]) (eFrz 0))
  (seqS (asgS (ftOne 7) (eFn f__law_least (aCons (eFrz 6) (aCons (e2 gXor (eVar 1) (e2 gSub (e2 gShl (eC (.int (1))) (e2 gShl (eC (.int (1))) (eCall gLen (aCons (eVar 5) aNil)))) (eC (.int (1))))) aNil))))
  (seqS (ifS (tOo (tNt (e1 tBool (eBl (e1 (gIsi "list") (eVar 4))))) (e2 gNe (eCall gLen (aCons (eVar 4) aNil)) (eCall gLen (aCons (eVar 3) aNil)))) (retS (eC (.bl false))) skipS)
  (seqS (forS (iRg gRng1 (aCons (eCall gLen (aCons (eVar 3) aNil)) aNil)) (ftOne 8) (b_pairs_eb99_l1 f__law_least f__law_whole))
  (retS (eC (.bl true)))))))
noncomputable def b_like_5a18 (f__law_tree_by : Fn) : Es := (seqS (asgS (ftOne 3) (e2 gMod (eVar 2) (eC (.int (8)))))
  (seqS (asgS (ftOne 4) (e2 gDiv (eVar 2) (eC (.int (8)))))
  (seqS (asgS (ftOne 5) (eFn f__law_tree_by (aCons (eFrz 0) (aCons (e2 gDiv (eVar 4) (eC (.int (8)))) (aCons (eC (.int (2))) aNil)))))
  (seqS (ifS (e2 gEq (eVar 3) (eC (.int (0)))) (retS (eTup (aCons (eC (.str [110, 111, 116])) (aCons (eTup (aCons (eC (.str [110, 111, 116])) (aCons (eFrz 1) aNil))) aNil)))) skipS)
  (seqS (ifS (e2 gEq (eVar 3) (eC (.int (1)))) (retS (eTup (aCons (eC (.str [97, 110, 100])) (aCons (eFrz 1) (aCons (eFrz 1) aNil))))) skipS)
  (seqS (ifS (e2 gEq (eVar 3) (eC (.int (2)))) (retS (eTup (aCons (eC (.str [111, 114])) (aCons (eTup (aCons (eC (.str [110, 111])) aNil)) (aCons (eFrz 1) aNil))))) skipS)
  (seqS (ifS (e2 gEq (eVar 3) (eC (.int (3)))) (retS (eTup (aCons (eC (.str [116, 104, 101, 110])) (aCons (eTup (aCons (eC (.str [121, 101, 115])) aNil)) (aCons (eFrz 1) aNil))))) skipS)
  (seqS (ifS (e2 gEq (eVar 3) (eC (.int (4)))) (retS (eTup (aCons (eC (.str [115, 97, 109, 101])) (aCons (eFrz 1) (aCons (eTup (aCons (eC (.str [121, 101, 115])) aNil)) aNil))))) skipS)
  (seqS (ifS (e2 gEq (eVar 3) (eC (.int (5)))) (retS (eTup (aCons (eC (.str [97, 110, 100])) (aCons (eFrz 1) (aCons (eTup (aCons (eC (.str [111, 114])) (aCons (eFrz 5) (aCons (eFrz 1) aNil)))) aNil))))) skipS)
  (seqS (ifS (e2 gEq (eVar 3) (eC (.int (6)))) (retS (eTup (aCons (eC (.str [111, 114])) (aCons (eTup (aCons (eC (.str [97, 110, 100])) (aCons (eFrz 1) (aCons (eFrz 5) aNil)))) (aCons (eTup (aCons (eC (.str [97, 110, 100])) (aCons (eTup (aCons (eC (.str [110, 111, 116])) (aCons (eFrz 5) aNil))) (aCons (eFrz 1) aNil)))) aNil))))) skipS)
  (retS (eTup (aCons (eC (.str [110, 111, 116])) (aCons (eTup (aCons (eC (.str [116, 104, 101, 110])) (aCons (eFrz 1) (aCons (eTup (aCons (eC (.str [110, 111, 116])) (aCons (eFrz 1) aNil))) aNil)))) aNil))))))))))))))
end PL

set_option Elab.async false
set_option linter.all false
set_option maxRecDepth 100000
set_option maxHeartbeats 1000000
set_option exponentiation.threshold 20000
/-! LT: tables of sentences -/
namespace PL
set_option autoImplicit false
open PySem L2 PyProof.Rows
theorem band_nat (a b : Nat) : Builtin.bitAnd (a : Int) (b : Int) = ((a &&& b : Nat) : Int) := PySem.W.os_band a b
theorem bor_nat (a b : Nat) : Builtin.bitOr (a : Int) (b : Int) = ((a ||| b : Nat) : Int) := by
  have e1 : decide (0 ≤ Builtin.bitNot (a : Int)) = false := decide_eq_false (by unfold Builtin.bitNot; omega)
  have e2 : decide (0 ≤ Builtin.bitNot (b : Int)) = false := decide_eq_false (by unfold Builtin.bitNot; omega)
  have e3 : (Builtin.bitNot (Builtin.bitNot (a : Int))).toNat = a := by unfold Builtin.bitNot; omega
  have e4 : (Builtin.bitNot (Builtin.bitNot (b : Int))).toNat = b := by unfold Builtin.bitNot; omega
  unfold Builtin.bitOr Builtin.bitAnd
  simp only [e1, e2, e3, e4]
  unfold Builtin.bitNot
  omega
theorem or_and_xor : ∀ (n a b : Nat), a ≤ n → (a ||| b) = (a ^^^ b) + (a &&& b)
  | 0, a, b, h => by
    have e : a = 0 := by omega
    subst e; simp
  | n + 1, a, b, h => by
    by_cases h0 : a = 0
    · subst h0; simp
    · have ih := or_and_xor n (a / 2) (b / 2) (by omega)
      have d1 : (a ||| b) / 2 = (a / 2 ||| b / 2) := Nat.or_div_two
      have d2 : (a ^^^ b) / 2 = (a / 2 ^^^ b / 2) := Nat.xor_div_two
      have d3 : (a &&& b) / 2 = (a / 2 &&& b / 2) := Nat.and_div_two
      have m : (a ||| b) % 2 = (a ^^^ b) % 2 + (a &&& b) % 2 := by
        have q1 : (a ||| b).testBit 0 = (a.testBit 0 || b.testBit 0) := Nat.testBit_or ..
        have q2 : (a ^^^ b).testBit 0 = (a.testBit 0 ^^ b.testBit 0) := Nat.testBit_xor ..
        have q3 : (a &&& b).testBit 0 = (a.testBit 0 && b.testBit 0) := Nat.testBit_and ..
        simp only [Nat.testBit_zero] at q1 q2 q3
        rcases Nat.mod_two_eq_zero_or_one a with ha | ha <;> rcases Nat.mod_two_eq_zero_or_one b with hb | hb <;> rcases Nat.mod_two_eq_zero_or_one (a ||| b) with h1 | h1 <;> rcases Nat.mod_two_eq_zero_or_one (a ^^^ b) with h2 | h2 <;> rcases Nat.mod_two_eq_zero_or_one (a &&& b) with h3 | h3 <;>
          rw [h1, ha, hb] at q1 <;> rw [h2, ha, hb] at q2 <;> rw [h3, ha, hb] at q3 <;> rw [h1, h2, h3] <;> first | rfl | exact absurd q1 (by decide) | exact absurd q2 (by decide) | exact absurd q3 (by decide)
      omega
theorem bxor_nat (a b : Nat) : Builtin.bitXor (a : Int) (b : Int) = ((a ^^^ b : Nat) : Int) := by
  unfold Builtin.bitXor
  rw [bor_nat, band_nat]
  have := or_and_xor a a b (Nat.le_refl _)
  omega
theorem modI (a w : Nat) : (a : Int) / 2 ^ w % 2 = if a.testBit w = true then 1 else 0 := by
  have e : (a : Int) / 2 ^ w % 2 = ((a / 2 ^ w % 2 : Nat) : Int) := by simp
  rw [e]
  have h : a.testBit w = decide (a / 2 ^ w % 2 = 1) := by
    rw [Nat.testBit_eq_decide_div_mod_eq]
  rw [h]
  rcases Nat.mod_two_eq_zero_or_one (a / 2 ^ w) with q | q <;> rw [q] <;> simp
theorem bitI (a w : Nat) : Builtin.bitAnd ((a : Int) / 2 ^ w) 1 = if a.testBit w = true then 1 else 0 := by
  rw [bitAnd_m1, modI]
/-! ### the table of a row of worlds -/
def tabOf (p : Nat → Bool) : Nat → Nat
  | 0 => 0
  | n + 1 => tabOf p n + (if p n = true then 2 ^ n else 0)
theorem tabOf_lt (p : Nat → Bool) : ∀ n, tabOf p n < 2 ^ n
  | 0 => by simp [tabOf]
  | n + 1 => by
    have := tabOf_lt p n
    simp only [tabOf, Nat.pow_succ]
    split <;> omega
theorem tabOf_bit (p : Nat → Bool) : ∀ (n w : Nat), (tabOf p n).testBit w = (decide (w < n) && p w)
  | 0, w => by simp [tabOf]
  | n + 1, w => by
    have hlt := tabOf_lt p n
    have ih := tabOf_bit p n w
    simp only [tabOf]
    by_cases hp : p n = true
    · rw [if_pos hp, Nat.add_comm]
      by_cases hw : w < n
      · rw [Nat.testBit_two_pow_add_gt hw, ih]
        simp [hw, show w < n + 1 by omega]
      · by_cases he : w = n
        · subst he
          rw [Nat.testBit_two_pow_add_eq, Nat.testBit_lt_two_pow hlt]
          simp [hp]
        · have h1 : 2 ^ n + tabOf p n < 2 ^ w := by
            have : 2 ^ (n + 1) ≤ 2 ^ w := Nat.pow_le_pow_right (by decide) (by omega)
            rw [Nat.pow_succ] at this; omega
          rw [Nat.testBit_lt_two_pow h1]
          simp [show ¬ w < n + 1 by omega]
    · rw [if_neg hp, Nat.add_zero, ih]
      by_cases hw : w < n
      · simp [hw, show w < n + 1 by omega]
      · by_cases he : w = n
        · subst he; simp [hp]
        · simp [hw, show ¬ w < n + 1 by omega]
theorem tab_eq {a : Nat} {p : Nat → Bool} {n : Nat} (h : ∀ w, a.testBit w = (decide (w < n) && p w)) : a = tabOf p n :=
  Nat.eq_of_testBit_eq fun w => by rw [h, tabOf_bit]
theorem tab_congr {p q : Nat → Bool} {n : Nat} (h : ∀ w, w < n → p w = q w) : tabOf p n = tabOf q n :=
  tab_eq fun w => by
    rw [tabOf_bit]
    by_cases hw : w < n
    · rw [h w hw]
    · simp [hw]
theorem tab_inj {p q : Nat → Bool} {n : Nat} (h : tabOf p n = tabOf q n) : ∀ w, w < n → p w = q w := fun w hw => by
  have := congrArg (fun a => a.testBit w) h
  simpa [tabOf_bit, hw] using this
theorem tab_full (n : Nat) : 2 ^ n - 1 = tabOf (fun _ => true) n := tab_eq fun w => by rw [Nat.testBit_two_pow_sub_one]; simp
theorem tab_and (p q : Nat → Bool) (n : Nat) : (tabOf p n &&& tabOf q n) = tabOf (fun w => p w && q w) n := tab_eq fun w => by
  rw [Nat.testBit_and, tabOf_bit, tabOf_bit]; cases decide (w < n) <;> simp
theorem tab_or (p q : Nat → Bool) (n : Nat) : (tabOf p n ||| tabOf q n) = tabOf (fun w => p w || q w) n := tab_eq fun w => by
  rw [Nat.testBit_or, tabOf_bit, tabOf_bit]; cases decide (w < n) <;> simp
theorem tab_xor (p q : Nat → Bool) (n : Nat) : (tabOf p n ^^^ tabOf q n) = tabOf (fun w => p w ^^ q w) n := tab_eq fun w => by
  rw [Nat.testBit_xor, tabOf_bit, tabOf_bit]; cases decide (w < n) <;> simp
theorem tab_zero (n : Nat) : tabOf (fun _ => false) n = 0 := (tab_eq fun w => by simp).symm
def tabD (p : Nat → Bool) (n : Nat) : D := .int (tabOf p n : Nat)
/-! ### columns -/
def colP (k w : Nat) : Bool := w.testBit k
theorem col_start (k : Nat) : (2 ^ 2 ^ k - 1) * 2 ^ 2 ^ k = tabOf (colP k) (2 ^ (k + 1)) := tab_eq fun w => by
  have hp : 2 ^ (k + 1) = 2 ^ k + 2 ^ k := by rw [Nat.pow_succ]; omega
  rw [Nat.mul_comm, Nat.testBit_two_pow_mul, Nat.testBit_two_pow_sub_one]
  unfold colP
  by_cases h1 : w < 2 ^ k
  · have h2 : ¬ w ≥ 2 ^ k := by omega
    rw [Nat.testBit_lt_two_pow h1]
    simp [h1, h2]
  · by_cases h2 : w < 2 ^ (k + 1)
    · have e : w = 2 ^ k + (w - 2 ^ k) := by omega
      have h3 : w - 2 ^ k < 2 ^ k := by omega
      rw [e, Nat.testBit_two_pow_add_eq, Nat.testBit_lt_two_pow h3]
      have h4 : 2 ^ k + (w - 2 ^ k) < 2 ^ (k + 1) := by omega
      simp [h3, h4, Nat.add_sub_cancel_left]
    · have h3 : ¬ w - 2 ^ k < 2 ^ k := by omega
      simp [h2, h3]
theorem col_step (k j : Nat) (h : k < j) : (tabOf (colP k) (2 ^ j) ||| tabOf (colP k) (2 ^ j) * 2 ^ 2 ^ j) = tabOf (colP k) (2 ^ (j + 1)) := tab_eq fun w => by
  have hp : 2 ^ (j + 1) = 2 ^ j + 2 ^ j := by rw [Nat.pow_succ]; omega
  rw [Nat.testBit_or, Nat.mul_comm, Nat.testBit_two_pow_mul, tabOf_bit, tabOf_bit]
  unfold colP
  by_cases h1 : w < 2 ^ j
  · have h2 : ¬ w ≥ 2 ^ j := by omega
    have h3 : w < 2 ^ (j + 1) := by omega
    simp [h1, h2, h3]
  · by_cases h2 : w < 2 ^ (j + 1)
    · have e : w = 2 ^ j + (w - 2 ^ j) := by omega
      have h3 : w - 2 ^ j < 2 ^ j := by omega
      have h4 : w.testBit k = (w - 2 ^ j).testBit k := by
        conv => lhs; rw [e]
        rw [Nat.testBit_two_pow_add_gt h]
      have h5 : w ≥ 2 ^ j := by omega
      simp [h1, h2, h3, h4, h5]
    · have h3 : ¬ w - 2 ^ j < 2 ^ j := by omega
      simp [h1, h2, h3]
theorem gShl_nat (a b : Nat) (h : a < 2 ^ 10000) (h2 : b ≤ 1000000) : gShl (.int (a : Nat)) (.int (b : Nat)) = .ok (.int ((a * 2 ^ b : Nat) : Int)) := by
  rw [gShl_ok (by omega) (by omega) (by simpa using h)]
  simp
theorem one_big : (1 : Nat) < 2 ^ 10000 := by rw [show (1 : Nat) = 2 ^ 0 from rfl]; exact Nat.pow_lt_pow_right (by decide) (by decide)
theorem gShl_p (b : Nat) (h2 : b ≤ 1000000) : gShl (.int 1) (.int (b : Nat)) = .ok (.int ((2 ^ b : Nat) : Int)) := by
  have h := gShl_nat 1 b one_big h2
  rw [Nat.one_mul] at h
  exact h
theorem while_stop {fc : Ev Bool} {fb : Es} {ρ : List Sl} (n : Nat) (h : fc ρ = .ok false) : whileS fc fb (n + 1) ρ = .nx ρ := by simp [whileS, h, tryE]
theorem while_go {fc : Ev Bool} {fb : Es} {ρ ρ' : List Sl} (n : Nat) (h : fc ρ = .ok true) (hb : fb ρ = .nx ρ') : whileS fc fb (n + 1) ρ = whileS fc fb n ρ' := by simp [whileS, h, tryE, hb]
theorem pow_small {n : Nat} (h : n ≤ 9) : 2 ^ n ≤ 512 := Nat.pow_le_pow_right (n := 2) (by decide) h
theorem pow_big {n : Nat} (h : n ≤ 512) : 2 ^ n < 2 ^ 10000 := Nat.pow_lt_pow_right (by decide) (by omega)
theorem tab_big {p : Nat → Bool} {n : Nat} (h : n ≤ 512) : tabOf p n < 2 ^ 10000 := Nat.lt_trans (tabOf_lt p n) (pow_big h)
theorem col_loop (n k : Nat) (hn : n ≤ 8) : ∀ (d j fuel : Nat), j + d = n → k < j → d < fuel →
    whileS (e2 (gCmp pLt) (eVar 2) (e2 gShl (eC (.int (1))) (eVar 0))) b_column_l1 fuel [.val (.int (n : Nat)), .val (.int (k : Nat)), .val (.int ((2 ^ j : Nat) : Int)), .val (tabD (colP k) (2 ^ j))] =
      .nx [.val (.int (n : Nat)), .val (.int (k : Nat)), .val (.int ((2 ^ n : Nat) : Int)), .val (tabD (colP k) (2 ^ n))]
  | 0, j, fuel + 1, h1, h2, h3 => by
    have e : j = n := by omega
    subst e
    refine while_stop _ ?_
    have hs := gShl_p j (by omega)
    generalize 2 ^ j = N at *
    simp (disch := first | assumption | omega | (simp only [List.length_append, List.length_cons, List.length_nil, List.length_map, List.length_reverse, List.length_replicate, List.length_range, List.length_take, List.length_drop, enD_length, rangeD_length]; omega) | (simp; done) | fail) [decide_eq_true, decide_eq_false, kAsg, kNx, hs]
  | d + 1, j, fuel + 1, h1, h2, h3 => by
    have ih := col_loop n k hn d (j + 1) fuel (by omega) (by omega) (by omega)
    have hj : 2 ^ j < 2 ^ n := Nat.pow_lt_pow_right (by decide) (by omega)
    have hj2 := pow_small (n := j) (by omega)
    have hs := gShl_p n (by omega)
    have hs2 := gShl_nat (tabOf (colP k) (2 ^ j)) (2 ^ j) (tab_big hj2) (by omega)
    have ho := bor_nat (tabOf (colP k) (2 ^ j)) (tabOf (colP k) (2 ^ j) * 2 ^ 2 ^ j)
    rw [col_step k j h2] at ho
    have hm : (2 : Int) * ((2 ^ j : Nat) : Int) = ((2 ^ (j + 1) : Nat) : Int) := by rw [Nat.pow_succ]; omega
    unfold tabD at ih ⊢
    generalize tabOf (colP k) (2 ^ j) * 2 ^ 2 ^ j = G at *
    generalize tabOf (colP k) (2 ^ j) = A at *
    generalize tabOf (colP k) (2 ^ (j + 1)) = B at *
    generalize 2 ^ (j + 1) = J1 at *
    generalize 2 ^ j = J at *
    rw [while_go (ρ' := [.val (.int (n : Nat)), .val (.int (k : Nat)), .val (.int (J1 : Nat)), .val (.int (B : Nat))]) fuel ?_ ?_]
    · exact ih
    · generalize 2 ^ n = N at *
      simp (disch := first | assumption | omega | (simp only [List.length_append, List.length_cons, List.length_nil, List.length_map, List.length_reverse, List.length_replicate, List.length_range, List.length_take, List.length_drop, enD_length, rangeD_length]; omega) | (simp; done) | fail) [decide_eq_true, decide_eq_false, kAsg, kNx, hs, hj]
    · simp (disch := first | assumption | omega | (simp only [List.length_append, List.length_cons, List.length_nil, List.length_map, List.length_reverse, List.length_replicate, List.length_range, List.length_take, List.length_drop, enD_length, rangeD_length]; omega) | (simp; done) | fail) [decide_eq_true, decide_eq_false, kAsg, kNx, b_column_l1, hs2, ho, hm]
def ColOk (f : Fn) : Prop := ∀ n k : Nat, n ≤ 8 → k < n → f [.val (.int (n : Nat)), .val (.int (k : Nat))] = .ok (.val (tabD (colP k) (2 ^ n))) [.val (.int (n : Nat)), .val (.int (k : Nat))]
theorem col_ok : ColOk (bodyF 4 2 2 b_column) := fun n k hn hk => by
  have hl := col_loop n k hn (n - (k + 1)) (k + 1) 1000000 (by omega) (by omega) (by omega)
  have hk2 := pow_small (n := k) (by omega)
  have hs1 := gShl_p k (by omega)
  have hs2 := gShl_p (2 ^ k) (by omega)
  have hpos : 0 < 2 ^ 2 ^ k := Nat.pow_pos (by decide)
  have hlt := pow_big (n := 2 ^ k) (by omega)
  have hs3 := gShl_nat (2 ^ 2 ^ k - 1) (2 ^ k) (by omega) (by omega)
  rw [col_start] at hs3
  have hsub : ((2 ^ 2 ^ k : Nat) : Int) - 1 = ((2 ^ 2 ^ k - 1 : Nat) : Int) := by omega
  have hm : (2 : Int) * ((2 ^ k : Nat) : Int) = ((2 ^ (k + 1) : Nat) : Int) := by rw [Nat.pow_succ]; omega
  unfold tabD at hl ⊢
  generalize tabOf (colP k) (2 ^ (k + 1)) = B at *
  generalize tabOf (colP k) (2 ^ n) = C at *
  generalize 2 ^ 2 ^ k - 1 = E at *
  generalize 2 ^ 2 ^ k = EE at *
  generalize 2 ^ (k + 1) = J1 at *
  generalize 2 ^ k = J at *
  generalize 2 ^ n = N at *
  simp (disch := first | assumption | omega | (simp only [List.length_append, List.length_cons, List.length_nil, List.length_map, List.length_reverse, List.length_replicate, List.length_range, List.length_take, List.length_drop, enD_length, rangeD_length]; omega) | (simp; done) | fail) [decide_eq_true, decide_eq_false, kAsg, kNx, b_column, hs1, hs2, hs3, hsub, hm, hl]
end PL

set_option Elab.async false
set_option linter.all false
set_option maxRecDepth 100000
set_option maxHeartbeats 1000000
set_option exponentiation.threshold 20000
/-! LT2: tables of sentences, told -/
namespace PL
set_option autoImplicit false
open PySem L2 PyProof.Rows
theorem gAnd_tab (p q : Nat → Bool) (n : Nat) : gAnd (tabD p n) (tabD q n) = .ok (tabD (fun w => p w && q w) n) := by
  unfold tabD; rw [gAnd_ii, band_nat, tab_and]
theorem gOr_tab (p q : Nat → Bool) (n : Nat) : gOr (tabD p n) (tabD q n) = .ok (tabD (fun w => p w || q w) n) := by
  unfold tabD; rw [gOr_ii, bor_nat, tab_or]
theorem gXor_tab (p q : Nat → Bool) (n : Nat) : gXor (tabD p n) (tabD q n) = .ok (tabD (fun w => p w ^^ q w) n) := by
  unfold tabD; rw [gXor_ii, bxor_nat, tab_xor]
theorem gNot_tab (p : Nat → Bool) (n : Nat) : gXor (tabD (fun _ => true) n) (tabD p n) = .ok (tabD (fun w => !p w) n) := by
  rw [gXor_tab]
  congr 2
  funext w
  cases p w <;> rfl
theorem gSame_tab (p q : Nat → Bool) (n : Nat) : gXor (tabD (fun w => !p w) n) (tabD q n) = .ok (tabD (fun w => p w == q w) n) := by
  rw [gXor_tab]
  congr 2
  funext w
  cases p w <;> cases q w <;> rfl
theorem tabD_zero (n : Nat) : D.int 0 = tabD (fun _ => false) n := by unfold tabD; rw [tab_zero]; rfl
theorem tabD_full (n : Nat) (h : n ≤ 512) : gShl (.int 1) (.int (n : Nat)) = .ok (.int ((2 ^ n : Nat) : Int)) ∧ D.int (((2 ^ n : Nat) : Int) - 1) = tabD (fun _ => true) n := by
  refine ⟨gShl_p n (by omega), ?_⟩
  unfold tabD
  rw [← tab_full]
  have : 0 < 2 ^ n := Nat.pow_pos (by decide)
  congr 1
  omega
def T.ev (ns : List (List Nat)) : T → Nat → Bool
  | .nm x, w => colP ((posS ns x).getD 0) w
  | .yes, _ => true
  | .no, _ => false
  | .nt t, w => !t.ev ns w
  | .bin .an s t, w => s.ev ns w && t.ev ns w
  | .bin .or s t, w => s.ev ns w || t.ev ns w
  | .bin .th s t, w => !s.ev ns w || t.ev ns w
  | .bin .sm s t, w => s.ev ns w == t.ev ns w
abbrev W2 (ns : List (List Nat)) : Nat := 2 ^ ns.length
theorem W2_le {ns : List (List Nat)} (h : ns.length ≤ 8) : W2 ns ≤ 256 := Nat.pow_le_pow_right (n := 2) (by decide) h
def ttD (ns : List (List Nat)) (t : T) : D := tabD (t.ev ns) (W2 ns)
def FullOk (f : Fn) : Prop := ∀ ns : List (List Nat), ns.length ≤ 8 → f [.val (nmD ns)] = .ok (.val (tabD (fun _ => true) (W2 ns))) [.val (nmD ns)]
theorem full_ok : FullOk (bodyF 1 1 1 b_full) := fun ns h => by
  have h1 := gShl_p ns.length (by omega)
  obtain ⟨h2, h3⟩ := tabD_full (2 ^ ns.length) (by have h' : 2 ^ ns.length ≤ 256 := W2_le h; omega)
  generalize hE : 2 ^ 2 ^ ns.length = E at *
  generalize tabD (fun _ => true) (W2 ns) = Q at *
  generalize 2 ^ ns.length = N at *
  simp (disch := first | assumption | omega | (simp only [List.length_append, List.length_cons, List.length_nil, List.length_map, List.length_reverse, List.length_replicate, List.length_range, List.length_take, List.length_drop, enD_length, rangeD_length]; omega) | (simp; done) | fail) [decide_eq_true, decide_eq_false, kAsg, kNx, b_full, nmD, h1, h2, h3]
def LookOk (n : Nat) (f : Fn) : Prop := ∀ (ns : List (List Nat)) (t : T), ns.Nodup → ns.length ≤ 8 → t.nmIn ns → t.depth ≤ n → t.size ≤ 1000000 → f [.val (nmD ns), .val t.toD] = .ok (.val .non) [.val (nmD ns), .val t.toD]
theorem look_ok {n : Nat} {fn : Fn} (hn : NamesInOk n fn) : LookOk n (bodyF 3 2 2 (b_look_names fn)) := fun ns t h1 h2 h3 h4 h5 => by
  have n1 := hn t h4 h5 (by have := names_le h1 h3; omega)
  have hm : ∀ x ∈ sortOf leS (t.names []), x ∈ ns := fun x hx => by
    have h := sortOf_mem hx
    rw [names_mem] at h
    rcases h with h | h
    · cases h
    · exact has_in h3 h
  generalize sortOf leS (t.names []) = ss at *
  obtain ⟨ρ', e1, y, rfl⟩ := forGo_nxt (ft := ftOne 2) (fb := b_look_names_l1 fn) (ss.map .str) (fun _ ρ => ∃ y, ρ = [.val (nmD ns), .val t.toD, y]) [.val (nmD ns), .val t.toD, .emp] ⟨_, rfl⟩ (fun i d ρ hd ⟨y, e⟩ => by
    subst e
    have hi : i < ss.length := by have := (List.getElem?_eq_some_iff.mp hd).1; simpa using this
    simp [hi] at hd
    subst hd
    refine ⟨_, rfl, ?_⟩
    have hx := gInL_strs ss[i] ns
    rw [decide_eq_true (hm _ (List.getElem_mem hi))] at hx
    simp (disch := first | assumption | omega | (simp only [List.length_append, List.length_cons, List.length_nil, List.length_map, List.length_reverse, List.length_replicate, List.length_range, List.length_take, List.length_drop, enD_length, rangeD_length]; omega) | (simp; done) | fail) [decide_eq_true, decide_eq_false, kAsg, kNx, b_look_names_l1, nmD, hx])
  simp only [nmD] at e1
  simp (disch := first | assumption | omega | (simp only [List.length_append, List.length_cons, List.length_nil, List.length_map, List.length_reverse, List.length_replicate, List.length_range, List.length_take, List.length_drop, enD_length, rangeD_length]; omega) | (simp; done) | fail) [decide_eq_true, decide_eq_false, kAsg, kNx, b_look_names, n1, nmD, e1]
def TabOk (n : Nat) (f : Fn) : Prop := ∀ (ns : List (List Nat)) (t : T), ns.Nodup → ns.length ≤ 8 → t.nmIn ns → t.depth ≤ n → t.size ≤ 1000000 → f [.val (nmD ns), .val t.toD] = .ok (.val (ttD ns t)) [.val (nmD ns), .val t.toD]
def TabWOk (n : Nat) (f : Fn) : Prop := ∀ (ns : List (List Nat)) (t : T), ns.length ≤ 8 → t.nmIn ns → t.depth ≤ n → f [.val (nmD ns), .val t.toD] = .ok (.val (ttD ns t)) [.val (nmD ns), .val t.toD]
theorem nm_pos {ns : List (List Nat)} {x : List Nat} (h : x ∈ ns) : ∃ j, posS ns x = some j ∧ j < ns.length ∧ ns ≠ [] := by
  obtain ⟨j, h1, h2⟩ := posS_mem h
  exact ⟨j, h1, h2, by intro e; subst e; cases h⟩
theorem tabw_ok {n : Nat} {fc ff ft : Fn} (hc : ColOk fc) (hf : FullOk ff) (ht : TabWOk n ft) : TabWOk (n + 1) (bodyF 5 2 2 (b_table_within fc ff ft)) := fun ns t h8 hin hd => by
  have hfu := hf ns h8
  simp only [nmD] at hfu
  cases t with
  | nm x =>
    obtain ⟨j, j1, j2, j3⟩ := nm_pos hin
    have hcol := hc ns.length j h8 j2
    have e : (D.tup (ns.map .str)).nms = some ns := nms_map ns j3
    have hr : ttD ns (.nm x) = tabD (colP j) (2 ^ ns.length) := by unfold ttD; congr 1; funext w; simp only [T.ev, j1, Option.getD_some]
    rw [hr]
    generalize tabD (colP j) (2 ^ ns.length) = R at *
    simp (disch := first | assumption | omega | (simp only [List.length_append, List.length_cons, List.length_nil, List.length_map, List.length_reverse, List.length_replicate, List.length_range, List.length_take, List.length_drop, enD_length, rangeD_length]; omega) | (simp; done) | fail) [decide_eq_true, decide_eq_false, kAsg, kNx, b_table_within, nmD, T.toD, hcol, e, j1]
  | yes =>
    have hr : ttD ns .yes = tabD (fun _ => true) (W2 ns) := rfl
    rw [hr]
    generalize tabD (fun _ => true) (W2 ns) = Q at *
    simp (disch := first | assumption | omega | (simp only [List.length_append, List.length_cons, List.length_nil, List.length_map, List.length_reverse, List.length_replicate, List.length_range, List.length_take, List.length_drop, enD_length, rangeD_length]; omega) | (simp; done) | fail) [decide_eq_true, decide_eq_false, kAsg, kNx, b_table_within, nmD, T.toD, hfu]
  | no =>
    have hr : ttD ns .no = .int 0 := (tabD_zero (W2 ns)).symm
    rw [hr]
    simp (disch := first | assumption | omega | (simp only [List.length_append, List.length_cons, List.length_nil, List.length_map, List.length_reverse, List.length_replicate, List.length_range, List.length_take, List.length_drop, enD_length, rangeD_length]; omega) | (simp; done) | fail) [decide_eq_true, decide_eq_false, kAsg, kNx, b_table_within, nmD, T.toD]
  | nt t =>
    simp only [T.depth] at hd
    have h1 := ht ns t h8 hin (by omega)
    have hx : gXor (tabD (fun _ => true) (W2 ns)) (ttD ns t) = .ok (ttD ns (.nt t)) := gNot_tab (t.ev ns) (W2 ns)
    simp only [nmD] at h1
    generalize tabD (fun _ => true) (W2 ns) = Q at *
    simp (disch := first | assumption | omega | (simp only [List.length_append, List.length_cons, List.length_nil, List.length_map, List.length_reverse, List.length_replicate, List.length_range, List.length_take, List.length_drop, enD_length, rangeD_length]; omega) | (simp; done) | fail) [decide_eq_true, decide_eq_false, kAsg, kNx, b_table_within, nmD, T.toD, h1, hfu, hx]
  | bin k s t =>
    simp only [T.depth] at hd
    have h1 := ht ns s h8 hin.1 (by omega)
    have h2 := ht ns t h8 hin.2 (by omega)
    simp only [nmD] at h1 h2
    have hx1 : gAnd (ttD ns s) (ttD ns t) = .ok (ttD ns (.bin .an s t)) := gAnd_tab (s.ev ns) (t.ev ns) (W2 ns)
    have hx2 : gOr (ttD ns s) (ttD ns t) = .ok (ttD ns (.bin .or s t)) := gOr_tab (s.ev ns) (t.ev ns) (W2 ns)
    have hx3 : gXor (tabD (fun _ => true) (W2 ns)) (ttD ns s) = .ok (ttD ns (.nt s)) := gNot_tab (s.ev ns) (W2 ns)
    have hx4 : gOr (ttD ns (.nt s)) (ttD ns t) = .ok (ttD ns (.bin .th s t)) := gOr_tab (fun w => !s.ev ns w) (t.ev ns) (W2 ns)
    have hx5 : gXor (ttD ns (.nt s)) (ttD ns t) = .ok (ttD ns (.bin .sm s t)) := gSame_tab (s.ev ns) (t.ev ns) (W2 ns)
    generalize tabD (fun _ => true) (W2 ns) = Q at *
    cases k with
    | an => simp (disch := first | assumption | omega | (simp only [List.length_append, List.length_cons, List.length_nil, List.length_map, List.length_reverse, List.length_replicate, List.length_range, List.length_take, List.length_drop, enD_length, rangeD_length]; omega) | (simp; done) | fail) [decide_eq_true, decide_eq_false, kAsg, kNx, b_table_within, nmD, T.toD, K4.code, h1, h2, hfu, hx1]
    | or => simp (disch := first | assumption | omega | (simp only [List.length_append, List.length_cons, List.length_nil, List.length_map, List.length_reverse, List.length_replicate, List.length_range, List.length_take, List.length_drop, enD_length, rangeD_length]; omega) | (simp; done) | fail) [decide_eq_true, decide_eq_false, kAsg, kNx, b_table_within, nmD, T.toD, K4.code, h1, h2, hfu, hx2]
    | th => simp (disch := first | assumption | omega | (simp only [List.length_append, List.length_cons, List.length_nil, List.length_map, List.length_reverse, List.length_replicate, List.length_range, List.length_take, List.length_drop, enD_length, rangeD_length]; omega) | (simp; done) | fail) [decide_eq_true, decide_eq_false, kAsg, kNx, b_table_within, nmD, T.toD, K4.code, h1, h2, hfu, hx3, hx4]
    | sm => simp (disch := first | assumption | omega | (simp only [List.length_append, List.length_cons, List.length_nil, List.length_map, List.length_reverse, List.length_replicate, List.length_range, List.length_take, List.length_drop, enD_length, rangeD_length]; omega) | (simp; done) | fail) [decide_eq_true, decide_eq_false, kAsg, kNx, b_table_within, nmD, T.toD, K4.code, h1, h2, hfu, hx3, hx5]
theorem tab_ok {n : Nat} {fl ft : Fn} (hl : LookOk n fl) (ht : TabWOk n ft) : TabOk n (bodyF 2 2 2 (b_table fl ft)) := fun ns t h1 h2 h3 h4 h5 => by
  have a := hl ns t h1 h2 h3 h4 h5
  have b := ht ns t h2 h3 h4
  simp only [nmD] at a b
  simp (disch := first | assumption | omega | (simp only [List.length_append, List.length_cons, List.length_nil, List.length_map, List.length_reverse, List.length_replicate, List.length_range, List.length_take, List.length_drop, enD_length, rangeD_length]; omega) | (simp; done) | fail) [decide_eq_true, decide_eq_false, kAsg, kNx, b_table, nmD, a, b]
/-! ### the laws' own truth tables -/
theorem colC_loop (n k : Nat) (hn : n ≤ 8) : ∀ (d j fuel : Nat), j + d = n → k < j → d < fuel →
    whileS (e2 (gCmp pLt) (eVar 2) (e2 gShl (eC (.int (1))) (eVar 1))) b_column_e13e_l1 fuel [.val (.int (k : Nat)), .val (.int (n : Nat)), .val (.int ((2 ^ j : Nat) : Int)), .val (tabD (colP k) (2 ^ j))] =
      .nx [.val (.int (k : Nat)), .val (.int (n : Nat)), .val (.int ((2 ^ n : Nat) : Int)), .val (tabD (colP k) (2 ^ n))]
  | 0, j, fuel + 1, h1, h2, h3 => by
    have e : j = n := by omega
    subst e
    refine while_stop _ ?_
    have hs := gShl_p j (by omega)
    generalize 2 ^ j = N at *
    simp (disch := first | assumption | omega | (simp only [List.length_append, List.length_cons, List.length_nil, List.length_map, List.length_reverse, List.length_replicate, List.length_range, List.length_take, List.length_drop, enD_length, rangeD_length]; omega) | (simp; done) | fail) [decide_eq_true, decide_eq_false, kAsg, kNx, hs]
  | d + 1, j, fuel + 1, h1, h2, h3 => by
    have ih := colC_loop n k hn d (j + 1) fuel (by omega) (by omega) (by omega)
    have hj : 2 ^ j < 2 ^ n := Nat.pow_lt_pow_right (by decide) (by omega)
    have hj2 := pow_small (n := j) (by omega)
    have hs := gShl_p n (by omega)
    have hs2 := gShl_nat (tabOf (colP k) (2 ^ j)) (2 ^ j) (tab_big hj2) (by omega)
    have ho := bor_nat (tabOf (colP k) (2 ^ j)) (tabOf (colP k) (2 ^ j) * 2 ^ 2 ^ j)
    rw [col_step k j h2] at ho
    have hm : (2 : Int) * ((2 ^ j : Nat) : Int) = ((2 ^ (j + 1) : Nat) : Int) := by rw [Nat.pow_succ]; omega
    unfold tabD at ih ⊢
    generalize tabOf (colP k) (2 ^ j) * 2 ^ 2 ^ j = G at *
    generalize tabOf (colP k) (2 ^ j) = A at *
    generalize tabOf (colP k) (2 ^ (j + 1)) = B at *
    generalize 2 ^ (j + 1) = J1 at *
    generalize 2 ^ j = J at *
    rw [while_go (ρ' := [.val (.int (k : Nat)), .val (.int (n : Nat)), .val (.int (J1 : Nat)), .val (.int (B : Nat))]) fuel ?_ ?_]
    · exact ih
    · generalize 2 ^ n = N at *
      simp (disch := first | assumption | omega | (simp only [List.length_append, List.length_cons, List.length_nil, List.length_map, List.length_reverse, List.length_replicate, List.length_range, List.length_take, List.length_drop, enD_length, rangeD_length]; omega) | (simp; done) | fail) [decide_eq_true, decide_eq_false, kAsg, kNx, hs, hj]
    · simp (disch := first | assumption | omega | (simp only [List.length_append, List.length_cons, List.length_nil, List.length_map, List.length_reverse, List.length_replicate, List.length_range, List.length_take, List.length_drop, enD_length, rangeD_length]; omega) | (simp; done) | fail) [decide_eq_true, decide_eq_false, kAsg, kNx, b_column_e13e_l1, hs2, ho, hm]
def ColCOk (f : Fn) : Prop := ∀ n k : Nat, n ≤ 8 → k < n → f [.val (.int (k : Nat)), .val (.int (n : Nat))] = .ok (.val (tabD (colP k) (2 ^ n))) [.val (.int (k : Nat)), .val (.int (n : Nat))]
theorem colC_ok : ColCOk (bodyF 4 2 2 b_column_e13e) := fun n k hn hk => by
  have hl := colC_loop n k hn (n - (k + 1)) (k + 1) 1000000 (by omega) (by omega) (by omega)
  have hk2 := pow_small (n := k) (by omega)
  have hs1 := gShl_p k (by omega)
  have hs2 := gShl_p (2 ^ k) (by omega)
  have hpos : 0 < 2 ^ 2 ^ k := Nat.pow_pos (by decide)
  have hlt := pow_big (n := 2 ^ k) (by omega)
  have hs3 := gShl_nat (2 ^ 2 ^ k - 1) (2 ^ k) (by omega) (by omega)
  rw [col_start] at hs3
  have hsub : ((2 ^ 2 ^ k : Nat) : Int) - 1 = ((2 ^ 2 ^ k - 1 : Nat) : Int) := by omega
  have hm : (2 : Int) * ((2 ^ k : Nat) : Int) = ((2 ^ (k + 1) : Nat) : Int) := by rw [Nat.pow_succ]; omega
  unfold tabD at hl ⊢
  generalize tabOf (colP k) (2 ^ (k + 1)) = B at *
  generalize tabOf (colP k) (2 ^ n) = C at *
  generalize 2 ^ 2 ^ k - 1 = E at *
  generalize 2 ^ 2 ^ k = EE at *
  generalize 2 ^ (k + 1) = J1 at *
  generalize 2 ^ k = J at *
  generalize 2 ^ n = N at *
  simp (disch := first | assumption | omega | (simp only [List.length_append, List.length_cons, List.length_nil, List.length_map, List.length_reverse, List.length_replicate, List.length_range, List.length_take, List.length_drop, enD_length, rangeD_length]; omega) | (simp; done) | fail) [decide_eq_true, decide_eq_false, kAsg, kNx, b_column_e13e, hs1, hs2, hs3, hsub, hm, hl]
theorem truth_ok {n : Nat} {fc ft : Fn} (hc : ColCOk fc) (ht : TabWOk n ft) : TabWOk (n + 1) (bodyF 5 2 2 (b_truth_2882 fc ft)) := fun ns t h8 hin hd => by
  have q1 : gShl (.int 1) (.int (ns.length : Nat)) = .ok (.int (W2 ns : Nat)) := gShl_p ns.length (by omega)
  obtain ⟨q2, q3⟩ := tabD_full (W2 ns) (by have h' : W2 ns ≤ 256 := W2_le h8; omega)
  generalize hE : 2 ^ (W2 ns) = E at *
  cases t with
  | nm x =>
    obtain ⟨j, j1, j2, j3⟩ := nm_pos hin
    have hcol : fc _ = .ok (.val (tabD (colP j) (W2 ns))) _ := hc ns.length j h8 j2
    have e : (D.tup (ns.map .str)).nms = some ns := nms_map ns j3
    have hr : ttD ns (.nm x) = tabD (colP j) (W2 ns) := by unfold ttD; congr 1; funext w; simp only [T.ev, j1, Option.getD_some]
    rw [hr]
    generalize tabD (colP j) (W2 ns) = R at *
    generalize tabD (fun _ => true) (W2 ns) = Q at *
    generalize W2 ns = N at *
    simp (disch := first | assumption | omega | (simp only [List.length_append, List.length_cons, List.length_nil, List.length_map, List.length_reverse, List.length_replicate, List.length_range, List.length_take, List.length_drop, enD_length, rangeD_length]; omega) | (simp; done) | fail) [decide_eq_true, decide_eq_false, kAsg, kNx, b_truth_2882, nmD, T.toD, q1, q2, q3, hcol, e, j1]
  | yes =>
    have hr : ttD ns .yes = tabD (fun _ => true) (W2 ns) := rfl
    rw [hr]
    generalize tabD (fun _ => true) (W2 ns) = Q at *
    generalize W2 ns = N at *
    simp (disch := first | assumption | omega | (simp only [List.length_append, List.length_cons, List.length_nil, List.length_map, List.length_reverse, List.length_replicate, List.length_range, List.length_take, List.length_drop, enD_length, rangeD_length]; omega) | (simp; done) | fail) [decide_eq_true, decide_eq_false, kAsg, kNx, b_truth_2882, nmD, T.toD, q1, q2, q3]
  | no =>
    have hr : ttD ns .no = .int 0 := (tabD_zero (W2 ns)).symm
    rw [hr]
    generalize tabD (fun _ => true) (W2 ns) = Q at *
    generalize W2 ns = N at *
    simp (disch := first | assumption | omega | (simp only [List.length_append, List.length_cons, List.length_nil, List.length_map, List.length_reverse, List.length_replicate, List.length_range, List.length_take, List.length_drop, enD_length, rangeD_length]; omega) | (simp; done) | fail) [decide_eq_true, decide_eq_false, kAsg, kNx, b_truth_2882, nmD, T.toD, q1, q2, q3]
  | nt t =>
    simp only [T.depth] at hd
    have h1 := ht ns t h8 hin (by omega)
    have hx : gXor (tabD (fun _ => true) (W2 ns)) (ttD ns t) = .ok (ttD ns (.nt t)) := gNot_tab (t.ev ns) (W2 ns)
    simp only [nmD] at h1
    generalize tabD (fun _ => true) (W2 ns) = Q at *
    generalize ttD ns (.nt t) = A at *
    generalize ttD ns t = B at *
    generalize W2 ns = N at *
    simp (disch := first | assumption | omega | (simp only [List.length_append, List.length_cons, List.length_nil, List.length_map, List.length_reverse, List.length_replicate, List.length_range, List.length_take, List.length_drop, enD_length, rangeD_length]; omega) | (simp; done) | fail) [decide_eq_true, decide_eq_false, kAsg, kNx, b_truth_2882, nmD, T.toD, q1, q2, q3, h1, hx]
  | bin k s t =>
    simp only [T.depth] at hd
    have h1 := ht ns s h8 hin.1 (by omega)
    have h2 := ht ns t h8 hin.2 (by omega)
    simp only [nmD] at h1 h2
    have hx1 : gAnd (ttD ns s) (ttD ns t) = .ok (ttD ns (.bin .an s t)) := gAnd_tab (s.ev ns) (t.ev ns) (W2 ns)
    have hx2 : gOr (ttD ns s) (ttD ns t) = .ok (ttD ns (.bin .or s t)) := gOr_tab (s.ev ns) (t.ev ns) (W2 ns)
    have hx3 : gXor (tabD (fun _ => true) (W2 ns)) (ttD ns s) = .ok (ttD ns (.nt s)) := gNot_tab (s.ev ns) (W2 ns)
    have hx4 : gOr (ttD ns (.nt s)) (ttD ns t) = .ok (ttD ns (.bin .th s t)) := gOr_tab (fun w => !s.ev ns w) (t.ev ns) (W2 ns)
    have hx5 : gXor (ttD ns (.nt s)) (ttD ns t) = .ok (ttD ns (.bin .sm s t)) := gSame_tab (s.ev ns) (t.ev ns) (W2 ns)
    generalize tabD (fun _ => true) (W2 ns) = Q at *
    cases k with
    | an =>
      generalize ttD ns (.bin .an s t) = A at *
      generalize ttD ns s = B at *
      generalize ttD ns t = C at *
      generalize W2 ns = N at *
      simp (disch := first | assumption | omega | (simp only [List.length_append, List.length_cons, List.length_nil, List.length_map, List.length_reverse, List.length_replicate, List.length_range, List.length_take, List.length_drop, enD_length, rangeD_length]; omega) | (simp; done) | fail) [decide_eq_true, decide_eq_false, kAsg, kNx, b_truth_2882, nmD, T.toD, K4.code, q1, q2, q3, h1, h2, hx1]
    | or =>
      generalize ttD ns (.bin .or s t) = A at *
      generalize ttD ns s = B at *
      generalize ttD ns t = C at *
      generalize W2 ns = N at *
      simp (disch := first | assumption | omega | (simp only [List.length_append, List.length_cons, List.length_nil, List.length_map, List.length_reverse, List.length_replicate, List.length_range, List.length_take, List.length_drop, enD_length, rangeD_length]; omega) | (simp; done) | fail) [decide_eq_true, decide_eq_false, kAsg, kNx, b_truth_2882, nmD, T.toD, K4.code, q1, q2, q3, h1, h2, hx2]
    | th =>
      generalize ttD ns (.bin .th s t) = A at *
      generalize ttD ns (.nt s) = G at *
      generalize ttD ns s = B at *
      generalize ttD ns t = C at *
      generalize W2 ns = N at *
      simp (disch := first | assumption | omega | (simp only [List.length_append, List.length_cons, List.length_nil, List.length_map, List.length_reverse, List.length_replicate, List.length_range, List.length_take, List.length_drop, enD_length, rangeD_length]; omega) | (simp; done) | fail) [decide_eq_true, decide_eq_false, kAsg, kNx, b_truth_2882, nmD, T.toD, K4.code, q1, q2, q3, h1, h2, hx3, hx4]
    | sm =>
      generalize ttD ns (.bin .sm s t) = A at *
      generalize ttD ns (.nt s) = G at *
      generalize ttD ns s = B at *
      generalize ttD ns t = C at *
      generalize W2 ns = N at *
      simp (disch := first | assumption | omega | (simp only [List.length_append, List.length_cons, List.length_nil, List.length_map, List.length_reverse, List.length_replicate, List.length_range, List.length_take, List.length_drop, enD_length, rangeD_length]; omega) | (simp; done) | fail) [decide_eq_true, decide_eq_false, kAsg, kNx, b_truth_2882, nmD, T.toD, K4.code, q1, q2, q3, h1, h2, hx3, hx5]
end PL

set_option Elab.async false
set_option linter.all false
set_option maxRecDepth 100000
set_option maxHeartbeats 1000000
set_option exponentiation.threshold 20000
/-! LS: firmness, leaning, turning -/
namespace PL
set_option autoImplicit false
open PySem L2 PyProof.Rows
def optD : Option Int → D
  | none => .non
  | some i => .int i
def okN (ns : List (List Nat)) : Prop := ns.Nodup ∧ ns.length ≤ 8 ∧ 1 ≤ ns.length ∧ nmOk ns
def okT (ns : List (List Nat)) (t : T) : Prop := t.nmIn ns ∧ t.depth ≤ 19
theorem size_depth : ∀ t : T, t.size < 2 ^ t.depth
  | .nm _ => by simp [T.size, T.depth]
  | .yes => by simp [T.size, T.depth]
  | .no => by simp [T.size, T.depth]
  | .nt t => by
    have := size_depth t
    simp only [T.size, T.depth, Nat.pow_succ]; omega
  | .bin _ s t => by
    have h1 := size_depth s
    have h2 := size_depth t
    have h3 : 2 ^ s.depth ≤ 2 ^ max s.depth t.depth := Nat.pow_le_pow_right (by decide) (by omega)
    have h4 : 2 ^ t.depth ≤ 2 ^ max s.depth t.depth := Nat.pow_le_pow_right (by decide) (by omega)
    simp only [T.size, T.depth, Nat.pow_succ]; omega
theorem okT.size {ns : List (List Nat)} {t : T} (h : okT ns t) : t.size ≤ 1000000 := by
  have h1 := size_depth t
  have h2 : 2 ^ t.depth ≤ 2 ^ 19 := Nat.pow_le_pow_right (by decide) h.2
  omega
def TabK (f : Fn) : Prop := ∀ (ns : List (List Nat)) (t : T), okN ns → okT ns t → f [.val (nmD ns), .val t.toD] = .ok (.val (ttD ns t)) [.val (nmD ns), .val t.toD]
theorem tab_k {n : Nat} {f : Fn} (h : TabOk n f) (hn : 19 ≤ n) : TabK f := fun ns t h1 h2 => h ns t h1.1 h1.2.1 h2.1 (by have := h2.2; omega) h2.size
theorem tabw_k {n : Nat} {f : Fn} (h : TabWOk n f) (hn : 19 ≤ n) : TabK f := fun ns t h1 h2 => h ns t h1.2.1 h2.1 (by have := h2.2; omega)
def FullK (f : Fn) : Prop := ∀ ns : List (List Nat), okN ns → f [.val (nmD ns)] = .ok (.val (tabD (fun _ => true) (W2 ns))) [.val (nmD ns)]
theorem full_k {f : Fn} (h : FullOk f) : FullK f := fun ns h1 => h ns h1.2.1
theorem W2_256 {ns : List (List Nat)} (h : okN ns) : W2 ns ≤ 256 := W2_le h.2.1
/-! ### the least of some worlds -/
def lstS (b : Bool) (r : Int) (a : Option Int) : Option Int := if b = true then (match a with
  | none => some r
  | some m => if r < m then some r else some m) else a
def lstN (p : Nat → Bool) (r : Nat → Int) : Nat → Option Int
  | 0 => none
  | i + 1 => lstS (p i) (r i) (lstN p r i)
def leastO (p : Nat → Bool) (rs : List Int) : Option Int := lstN p (fun i => rs.getD i 0) rs.length
theorem lstN_none {p : Nat → Bool} {r : Nat → Int} : ∀ {n : Nat}, lstN p r n = none ↔ ∀ w, w < n → p w = false
  | 0 => by simp [lstN]
  | n + 1 => by
    have ih := lstN_none (p := p) (r := r) (n := n)
    simp only [lstN, lstS]
    constructor
    · intro h w hw
      cases hp : p n with
      | true =>
        rw [hp, if_pos rfl] at h
        cases hl : lstN p r n with
        | none => rw [hl] at h; cases h
        | some m => rw [hl] at h; simp only at h; split at h <;> cases h
      | false =>
        rw [hp, if_neg (by simp)] at h
        by_cases e : w = n
        · rw [e]; exact hp
        · exact ih.mp h w (by omega)
    · intro h
      rw [h n (by omega), if_neg (by simp)]
      exact ih.mpr fun w hw => h w (by omega)
theorem lstN_some {p : Nat → Bool} {r : Nat → Int} : ∀ {n : Nat} {m : Int}, lstN p r n = some m → (∃ w, w < n ∧ p w = true ∧ r w = m) ∧ ∀ w, w < n → p w = true → m ≤ r w
  | 0, m, h => by cases h
  | n + 1, m, h => by
    simp only [lstN, lstS] at h
    cases hp : p n with
    | false =>
      rw [hp, if_neg (by simp)] at h
      obtain ⟨⟨w, h1, h2, h3⟩, h4⟩ := lstN_some h
      refine ⟨⟨w, by omega, h2, h3⟩, fun w hw hpw => ?_⟩
      by_cases e : w = n
      · subst e; rw [hp] at hpw; cases hpw
      · exact h4 w (by omega) hpw
    | true =>
      rw [hp, if_pos rfl] at h
      cases hl : lstN p r n with
      | none =>
        rw [hl] at h
        cases h
        refine ⟨⟨n, by omega, hp, rfl⟩, fun w hw hpw => ?_⟩
        by_cases e : w = n
        · subst e; omega
        · rw [lstN_none.mp hl w (by omega)] at hpw; cases hpw
      | some m' =>
        rw [hl] at h
        obtain ⟨⟨w, h1, h2, h3⟩, h4⟩ := lstN_some hl
        simp only at h
        split at h
        next hlt =>
          cases h
          refine ⟨⟨n, by omega, hp, rfl⟩, fun w hw hpw => ?_⟩
          by_cases e : w = n
          · subst e; omega
          · have := h4 w (by omega) hpw; omega
        next hlt =>
          cases h
          refine ⟨⟨w, by omega, h2, h3⟩, fun w hw hpw => ?_⟩
          by_cases e : w = n
          · subst e; omega
          · exact h4 w (by omega) hpw
theorem least_none {p : Nat → Bool} {rs : List Int} : leastO p rs = none ↔ ∀ w, w < rs.length → p w = false := lstN_none
theorem least_some {p : Nat → Bool} {rs : List Int} {m : Int} (h : leastO p rs = some m) : (∃ w, w < rs.length ∧ p w = true ∧ rs.getD w 0 = m) ∧ ∀ w, w < rs.length → p w = true → m ≤ rs.getD w 0 := lstN_some h
theorem least_ex {p : Nat → Bool} {rs : List Int} {w : Nat} (hw : w < rs.length) (h : p w = true) : ∃ m, leastO p rs = some m := by
  cases e : leastO p rs with
  | none => rw [least_none.mp e w hw] at h; cases h
  | some m => exact ⟨m, rfl⟩
theorem least_eq {p : Nat → Bool} {rs : List Int} {m : Int} (h1 : ∃ w, w < rs.length ∧ p w = true ∧ rs.getD w 0 = m) (h2 : ∀ w, w < rs.length → p w = true → m ≤ rs.getD w 0) : leastO p rs = some m := by
  obtain ⟨w, a, b, c⟩ := h1
  obtain ⟨m', e⟩ := least_ex (rs := rs) a b
  obtain ⟨⟨w', a', b', c'⟩, d'⟩ := least_some e
  have q1 := h2 w' a' b'
  have q2 := d' w a b
  rw [e]; congr 1; omega
theorem least_congr {p q : Nat → Bool} {rs : List Int} (h : ∀ w, w < rs.length → p w = q w) : leastO p rs = leastO q rs := by
  unfold leastO
  have key : ∀ n, n ≤ rs.length → lstN p (fun i => rs.getD i 0) n = lstN q (fun i => rs.getD i 0) n := fun n => by
    induction n with
    | zero => intro _; rfl
    | succ n ih => intro hn; simp only [lstN, ih (by omega), h n (by omega)]
  exact key _ (Nat.le_refl _)
def LeastK (f : Fn) : Prop := ∀ (p : Nat → Bool) (rs : List Int), rs.length ≤ 1000 → f [.val (.tup (rs.map .int)), .val (tabD p rs.length)] = .ok (.val (optD (leastO p rs))) [.val (.tup (rs.map .int)), .val (tabD p rs.length)]
theorem optS (b : Bool) (r : Int) (a : Option Int) : lstS b r a = if b = true then (match a with
  | none => some r
  | some m => if r < m then some r else some m) else a := rfl
theorem bit_at (p : Nat → Bool) (n i : Nat) (h : i < n) : Builtin.bitAnd ((tabOf p n : Nat) / 2 ^ i) 1 = if p i = true then 1 else 0 := by
  rw [bitI, tabOf_bit]; simp [h]
theorem mod_at (p : Nat → Bool) (n i : Nat) (h : i < n) : ((tabOf p n : Nat) : Int) / 2 ^ i % 2 = if p i = true then 1 else 0 := by
  rw [modI, tabOf_bit]; simp [h]
theorem least_ok : LeastK (bodyF 5 2 2 b_least_rank) := fun p rs hl => by
  obtain ⟨ρ', e1, y3, y4, rfl⟩ := forGo_nxt (ft := ftTup [3, 4]) (fb := b_least_rank_l1) (enD 0 (rs.map .int)) (fun i ρ => ∃ y3 y4, ρ = [.val (.tup (rs.map .int)), .val (tabD p rs.length), .val (optD (lstN p (fun i => rs.getD i 0) i)), y3, y4])
    [.val (.tup (rs.map .int)), .val (tabD p rs.length), .val .non, .emp, .emp] ⟨_, _, rfl⟩ (fun i d ρ hd ⟨y3, y4, e⟩ => by
    subst e
    have hi : i < rs.length := by have := (List.getElem?_eq_some_iff.mp hd).1; rw [enD_length] at this; simpa using this
    have hr : rs[i]? = some rs[i] := List.getElem?_eq_getElem hi
    rw [enD_get, List.getElem?_map, hr] at hd
    have ed : d = .tup [.int (i : Nat), .int rs[i]] := by simpa using hd.symm
    subst ed
    have hg : rs.getD i 0 = rs[i] := by rw [List.getD_eq_getElem?_getD, hr]; rfl
    have hb := bit_at p rs.length i hi
    refine ⟨_, rfl, ?_⟩
    simp only [lstN, lstS, hg]
    unfold tabD
    cases hp : p i with
    | false =>
      rw [hp] at hb
      simp only [Bool.false_eq_true, if_false] at hb ⊢
      simp (disch := first | assumption | omega | (simp only [List.length_append, List.length_cons, List.length_nil, List.length_map, List.length_reverse, List.length_replicate, List.length_range, List.length_take, List.length_drop, enD_length, rangeD_length]; omega) | (simp; done) | fail) [decide_eq_true, decide_eq_false, kAsg, kNx, b_least_rank_l1, ftTup, hb]
    | true =>
      rw [hp] at hb
      simp only [if_true] at hb ⊢
      cases ha : lstN p (fun i => rs.getD i 0) i with
      | none => simp (disch := first | assumption | omega | (simp only [List.length_append, List.length_cons, List.length_nil, List.length_map, List.length_reverse, List.length_replicate, List.length_range, List.length_take, List.length_drop, enD_length, rangeD_length]; omega) | (simp; done) | fail) [decide_eq_true, decide_eq_false, kAsg, kNx, b_least_rank_l1, ftTup, hb, optD]
      | some m =>
        simp only
        by_cases hm : rs[i] < m
        · rw [if_pos hm]; simp (disch := first | assumption | omega | (simp only [List.length_append, List.length_cons, List.length_nil, List.length_map, List.length_reverse, List.length_replicate, List.length_range, List.length_take, List.length_drop, enD_length, rangeD_length]; omega) | (simp; done) | fail) [decide_eq_true, decide_eq_false, kAsg, kNx, b_least_rank_l1, ftTup, hb, optD, hm]
        · rw [if_neg hm]; simp (disch := first | assumption | omega | (simp only [List.length_append, List.length_cons, List.length_nil, List.length_map, List.length_reverse, List.length_replicate, List.length_range, List.length_take, List.length_drop, enD_length, rangeD_length]; omega) | (simp; done) | fail) [decide_eq_true, decide_eq_false, kAsg, kNx, b_least_rank_l1, ftTup, hb, optD, hm])
  rw [enD_length, List.length_map] at e1
  have e2 : lstN p (fun i => rs.getD i 0) rs.length = leastO p rs := rfl
  rw [e2] at e1
  unfold tabD at e1 ⊢
  simp (disch := first | assumption | omega | (simp only [List.length_append, List.length_cons, List.length_nil, List.length_map, List.length_reverse, List.length_replicate, List.length_range, List.length_take, List.length_drop, enD_length, rangeD_length]; omega) | (simp; done) | fail) [decide_eq_true, decide_eq_false, kAsg, kNx, b_least_rank, e1]
theorem leastC_ok : LeastK (bodyF 4 2 2 b_least_7900) := fun p rs hl => by
  obtain ⟨ρ', e1, y3, rfl⟩ := forGo_nxt (ft := ftOne 3) (fb := b_least_7900_l1) (rangeD 0 (rs.length : Nat)) (fun i ρ => ∃ y3, ρ = [.val (.tup (rs.map .int)), .val (tabD p rs.length), .val (optD (lstN p (fun i => rs.getD i 0) i)), y3])
    [.val (.tup (rs.map .int)), .val (tabD p rs.length), .val .non, .emp] ⟨_, rfl⟩ (fun i d ρ hd ⟨y3, e⟩ => by
    subst e
    obtain ⟨hi, rfl⟩ := rangeD_get hd
    have hr : rs[i]? = some rs[i] := List.getElem?_eq_getElem hi
    have hg : rs.getD i 0 = rs[i] := by rw [List.getD_eq_getElem?_getD, hr]; rfl
    have ha : L2.atI (rs.map D.int) (i : Int) = some (.int rs[i]) := by rw [atI_of _ i (by simpa using hi)]; simp
    have hb := bit_at p rs.length i hi
    refine ⟨_, rfl, ?_⟩
    simp only [lstN, lstS, hg]
    unfold tabD
    cases hp : p i with
    | false =>
      rw [hp] at hb
      simp only [Bool.false_eq_true, if_false] at hb ⊢
      simp (disch := first | assumption | omega | (simp only [List.length_append, List.length_cons, List.length_nil, List.length_map, List.length_reverse, List.length_replicate, List.length_range, List.length_take, List.length_drop, enD_length, rangeD_length]; omega) | (simp; done) | fail) [decide_eq_true, decide_eq_false, kAsg, kNx, b_least_7900_l1, hb]
    | true =>
      rw [hp] at hb
      simp only [if_true] at hb ⊢
      cases hl' : lstN p (fun i => rs.getD i 0) i with
      | none => simp (disch := first | assumption | omega | (simp only [List.length_append, List.length_cons, List.length_nil, List.length_map, List.length_reverse, List.length_replicate, List.length_range, List.length_take, List.length_drop, enD_length, rangeD_length]; omega) | (simp; done) | fail) [decide_eq_true, decide_eq_false, kAsg, kNx, b_least_7900_l1, hb, optD, ha]
      | some m =>
        simp only
        by_cases hm : rs[i] < m
        · rw [if_pos hm]; simp (disch := first | assumption | omega | (simp only [List.length_append, List.length_cons, List.length_nil, List.length_map, List.length_reverse, List.length_replicate, List.length_range, List.length_take, List.length_drop, enD_length, rangeD_length]; omega) | (simp; done) | fail) [decide_eq_true, decide_eq_false, kAsg, kNx, b_least_7900_l1, hb, optD, hm, ha]
        · rw [if_neg hm]; simp (disch := first | assumption | omega | (simp only [List.length_append, List.length_cons, List.length_nil, List.length_map, List.length_reverse, List.length_replicate, List.length_range, List.length_take, List.length_drop, enD_length, rangeD_length]; omega) | (simp; done) | fail) [decide_eq_true, decide_eq_false, kAsg, kNx, b_least_7900_l1, hb, optD, hm, ha])
  rw [rangeD_length] at e1
  have e0 : (((rs.length : Nat) : Int) - 0).toNat = rs.length := by omega
  rw [e0] at e1
  have e2 : lstN p (fun i => rs.getD i 0) rs.length = leastO p rs := rfl
  rw [e2] at e1
  unfold tabD at e1 ⊢
  simp (disch := first | assumption | omega | (simp only [List.length_append, List.length_cons, List.length_nil, List.length_map, List.length_reverse, List.length_replicate, List.length_range, List.length_take, List.length_drop, enD_length, rangeD_length]; omega) | (simp; done) | fail) [decide_eq_true, decide_eq_false, kAsg, kNx, b_least_7900, e1]
end PL

set_option Elab.async false
set_option linter.all false
set_option maxRecDepth 100000
set_option maxHeartbeats 1000000
set_option exponentiation.threshold 20000
/-! LS2: firmness, leaning, turning -/
namespace PL
set_option autoImplicit false
open PySem L2 PyProof.Rows
/-- the worlds that break a sentence -/
def T.nv (ns : List (List Nat)) (t : T) : Nat → Bool := fun w => !t.ev ns w
theorem tab_of_nt (ns : List (List Nat)) (t : T) : gXor (tabD (fun _ => true) (W2 ns)) (ttD ns t) = .ok (tabD (t.nv ns) (W2 ns)) := gNot_tab (t.ev ns) (W2 ns)
def okR (ns : List (List Nat)) (rs : List Int) : Prop := rs.length = W2 ns
theorem LeastK.at {f : Fn} (h : LeastK f) {ns : List (List Nat)} {rs : List Int} (hn : okN ns) (hr : okR ns rs) (p : Nat → Bool) :
    f [.val (.tup (rs.map .int)), .val (tabD p (W2 ns))] = .ok (.val (optD (leastO p rs))) [.val (.tup (rs.map .int)), .val (tabD p (W2 ns))] := by
  have h1 := h p rs (by have := W2_256 hn; rw [hr]; omega)
  rwa [hr] at h1
def FirmK (f : Fn) : Prop := ∀ (ns : List (List Nat)) (rs : List Int) (t : T), okN ns → okR ns rs → okT ns t → f [.val (mindD ns rs), .val t.toD] = .ok (.val (optD (leastO (t.nv ns) rs))) [.val (mindD ns rs), .val t.toD]
theorem firm_ok {ff ft fl : Fn} (hf : FullK ff) (ht : TabK ft) (hl : LeastK fl) : FirmK (bodyF 4 2 2 (b_firmness ff ft fl)) := fun ns rs t hn hr hk => by
  have h1 := hf ns hn
  have h2 := ht ns t hn hk
  have h3 := tab_of_nt ns t
  have h4 := hl.at hn hr (t.nv ns)
  simp only [nmD] at h1 h2
  generalize tabD (fun _ => true) (W2 ns) = Q at *
  simp (disch := first | assumption | omega | (simp only [List.length_append, List.length_cons, List.length_nil, List.length_map, List.length_reverse, List.length_replicate, List.length_range, List.length_take, List.length_drop, enD_length, rangeD_length]; omega) | (simp; done) | fail) [decide_eq_true, decide_eq_false, kAsg, kNx, b_firmness, mindD, nmD, h1, h2, h3, h4]
def heldO : Option Int → Bool
  | none => true
  | some m => decide (0 < m)
def HeldK (f : Fn) : Prop := ∀ (ns : List (List Nat)) (rs : List Int) (t : T), okN ns → okR ns rs → okT ns t → f [.val (mindD ns rs), .val t.toD] = .ok (.val (.bl (heldO (leastO (t.nv ns) rs)))) [.val (mindD ns rs), .val t.toD]
theorem held_ok {ff : Fn} (hf : FirmK ff) : HeldK (bodyF 3 2 2 (b_held ff)) := fun ns rs t hn hr hk => by
  have h1 := hf ns rs t hn hr hk
  simp only [mindD, nmD] at h1
  cases e : leastO (t.nv ns) rs with
  | none => rw [e] at h1; simp only [optD] at h1; simp (disch := first | assumption | omega | (simp only [List.length_append, List.length_cons, List.length_nil, List.length_map, List.length_reverse, List.length_replicate, List.length_range, List.length_take, List.length_drop, enD_length, rangeD_length]; omega) | (simp; done) | fail) [decide_eq_true, decide_eq_false, kAsg, kNx, b_held, mindD, nmD, h1, heldO]
  | some m =>
    rw [e] at h1; simp only [optD] at h1
    by_cases hm : 0 < m <;> simp (disch := first | assumption | omega | (simp only [List.length_append, List.length_cons, List.length_nil, List.length_map, List.length_reverse, List.length_replicate, List.length_range, List.length_take, List.length_drop, enD_length, rangeD_length]; omega) | (simp; done) | fail) [decide_eq_true, decide_eq_false, kAsg, kNx, b_held, mindD, nmD, h1, heldO, hm]
def KeepsK (f : Fn) : Prop := ∀ (p : Nat → Bool) (n w : Nat), w < n → f [.val (tabD p n), .val (.int (w : Nat))] = .ok (.val (.bl (p w))) [.val (tabD p n), .val (.int (w : Nat))]
theorem keeps_ok : KeepsK (bodyF 2 2 2 b_keeps) := fun p n w h => by
  have hb := bit_at p n w h
  unfold tabD
  cases hp : p w <;> rw [hp] at hb <;> simp at hb <;> simp (disch := first | assumption | omega | (simp only [List.length_append, List.length_cons, List.length_nil, List.length_map, List.length_reverse, List.length_replicate, List.length_range, List.length_take, List.length_drop, enD_length, rangeD_length]; omega) | (simp; done) | fail) [decide_eq_true, decide_eq_false, kAsg, kNx, b_keeps, hb]
/-- both sides have worlds -/
def openT (ns : List (List Nat)) (t : T) : Prop := (∃ w, w < W2 ns ∧ t.ev ns w = true) ∧ ∃ w, w < W2 ns ∧ t.ev ns w = false
theorem open_ne {ns : List (List Nat)} {t : T} (h : openT ns t) : gEq (ttD ns t) (tabD (fun _ => true) (W2 ns)) = .ok false ∧ gEq (ttD ns t) (.int 0) = .ok false ∧ gEq (tabD (t.nv ns) (W2 ns)) (.int 0) = .ok false := by
  obtain ⟨⟨w, h1, h2⟩, w', h3, h4⟩ := h
  refine ⟨?_, ?_, ?_⟩
  · unfold ttD tabD
    rw [gEq_ii, decide_eq_false]
    intro e
    have := tab_inj (p := t.ev ns) (q := fun _ => true) (n := W2 ns) (by omega) w' h3
    rw [h4] at this; cases this
  · rw [tabD_zero (W2 ns)]
    unfold ttD tabD
    rw [gEq_ii, decide_eq_false]
    intro e
    have := tab_inj (p := t.ev ns) (q := fun _ => false) (n := W2 ns) (by omega) w h1
    rw [h2] at this; cases this
  · rw [tabD_zero (W2 ns)]
    unfold tabD
    rw [gEq_ii, decide_eq_false]
    intro e
    have := tab_inj (p := t.nv ns) (q := fun _ => false) (n := W2 ns) (by omega) w' h3
    unfold T.nv at this
    rw [h4] at this; cases this
theorem open_least {ns : List (List Nat)} {t : T} {rs : List Int} (h : openT ns t) (hr : okR ns rs) : ∃ a b, leastO (t.ev ns) rs = some a ∧ leastO (t.nv ns) rs = some b := by
  obtain ⟨⟨w, h1, h2⟩, w', h3, h4⟩ := h
  obtain ⟨a, ha⟩ := least_ex (rs := rs) (p := t.ev ns) (w := w) (by rw [hr]; exact h1) h2
  obtain ⟨b, hb⟩ := least_ex (rs := rs) (p := t.nv ns) (w := w') (by rw [hr]; exact h3) (by unfold T.nv; rw [h4]; rfl)
  exact ⟨a, b, ha, hb⟩
def mx0 (x : Int) : Int := if x > 0 then x else 0
theorem gMax2_0 (x : Int) : gMax2 [.int 0, .int x] = .ok (.int (mx0 x)) := gMax2_ii 0 x
/-- the ranks moved on both sides -/
def mvL (p : Nat → Bool) (a b : Int) (rs : List Int) : List Int := (List.range rs.length).map fun w => rs.getD w 0 + if p w = true then a else b
def turnL (ns : List (List Nat)) (t : T) (lean : Int) (rs : List Int) : List Int :=
  mvL (t.ev ns) (mx0 (-lean) - (leastO (t.ev ns) rs).getD 0) (mx0 lean - (leastO (t.nv ns) rs).getD 0) rs
theorem mvL_len (p : Nat → Bool) (a b : Int) (rs : List Int) : (mvL p a b rs).length = rs.length := by simp [mvL]
theorem mvL_at {p : Nat → Bool} {a b : Int} {rs : List Int} {w : Nat} (h : w < rs.length) : (mvL p a b rs).getD w 0 = rs.getD w 0 + if p w = true then a else b := by
  unfold mvL
  rw [List.getD_eq_getElem?_getD, List.getElem?_map, List.getElem?_range h]
  rfl
theorem turnL_len (ns : List (List Nat)) (t : T) (lean : Int) (rs : List Int) : (turnL ns t lean rs).length = rs.length := mvL_len _ _ _ _
def TurnK (f : Fn) : Prop := ∀ (ns : List (List Nat)) (rs : List Int) (t : T) (lean : Int), okN ns → okR ns rs → okT ns t → openT ns t →
  f [.val (mindD ns rs), .val t.toD, .val (.int lean)] = .ok (.val (mindD ns (turnL ns t lean rs))) [.val (mindD ns rs), .val t.toD, .val (.int lean)]
theorem turned_loop {f1 f2 f3 fk : Fn} (hk : KeepsK fk) (p : Nat → Bool) (a b : Int) (rs : List Int) (hl : rs.length ≤ 1000) (a0 a1 a2 a3 a4 a6 x10 x11 : Sl) :
    ∃ y10 y11, forGo (ftTup [10, 11]) (b_turned_l1 f1 f2 f3 fk) (enD 0 (rs.map .int)) [a0, a1, a2, a3, a4, .val (tabD p rs.length), a6, .val (.int a), .val (.int b), .own (.lst []), x10, x11] =
      .nx [a0, a1, a2, a3, a4, .val (tabD p rs.length), a6, .val (.int a), .val (.int b), .own (.lst ((mvL p a b rs).map .int)), y10, y11] := by
  obtain ⟨ρ', e1, y10, y11, rfl⟩ := forGo_nxt (ft := ftTup [10, 11]) (fb := b_turned_l1 f1 f2 f3 fk) (enD 0 (rs.map .int)) (fun i ρ => ∃ y10 y11, ρ = [a0, a1, a2, a3, a4, .val (tabD p rs.length), a6, .val (.int a), .val (.int b), .own (.lst (((List.range i).map fun w => rs.getD w 0 + if p w = true then a else b).map .int)), y10, y11])
    [a0, a1, a2, a3, a4, .val (tabD p rs.length), a6, .val (.int a), .val (.int b), .own (.lst []), x10, x11] ⟨_, _, rfl⟩ (fun i d ρ hd ⟨y10, y11, e⟩ => by
    subst e
    have hi : i < rs.length := by have := (List.getElem?_eq_some_iff.mp hd).1; rw [enD_length] at this; simpa using this
    have hr : rs[i]? = some rs[i] := List.getElem?_eq_getElem hi
    rw [enD_get, List.getElem?_map, hr] at hd
    have ed : d = .tup [.int (i : Nat), .int rs[i]] := by simpa using hd.symm
    subst ed
    have hg : rs.getD i 0 = rs[i] := by rw [List.getD_eq_getElem?_getD, hr]; rfl
    have hkp := hk p rs.length i hi
    refine ⟨_, rfl, ?_⟩
    rw [List.range_succ, List.map_append, List.map_append, List.map_singleton, List.map_singleton, hg]
    generalize hM : ((List.range i).map fun w => rs.getD w 0 + if p w = true then a else b).map D.int = M
    have hMl : M.length < 1000000 := by rw [← hM]; simp; omega
    cases hp : p i <;> rw [hp] at hkp <;> simp (disch := first | assumption | omega | (simp only [List.length_append, List.length_cons, List.length_nil, List.length_map, List.length_reverse, List.length_replicate, List.length_range, List.length_take, List.length_drop, enD_length, rangeD_length]; omega) | (simp; done) | fail) [decide_eq_true, decide_eq_false, kAsg, kNx, b_turned_l1, ftTup, hkp])
  rw [enD_length, List.length_map] at e1
  exact ⟨y10, y11, e1⟩
theorem turned_ok {ft ff fl fk : Fn} (ht : TabK ft) (hf : FullK ff) (hl : LeastK fl) (hk : KeepsK fk) : TurnK (bodyF 12 3 3 (b_turned ft ff fl fk)) := fun ns rs t lean hn hr hT ho => by
  have h1 := hf ns hn
  have h2 := ht ns t hn hT
  have h3 := tab_of_nt ns t
  obtain ⟨a, b, ha, hb⟩ := open_least ho hr
  have h4 : fl _ = _ := hl.at hn hr (t.ev ns)
  have h5 : fl _ = _ := hl.at hn hr (t.nv ns)
  obtain ⟨g1, g2, _⟩ := open_ne ho
  have m1 := gMax2_0 lean
  have m2 := gMax2_0 (-lean)
  have h256 := W2_256 hn
  have hrl : rs.length = W2 ns := hr
  have hloop := turned_loop (f1 := ft) (f2 := ff) (f3 := fl) hk (t.ev ns) (mx0 (-lean) - a) (mx0 lean - b) rs (by omega)
  have hT2 : turnL ns t lean rs = mvL (t.ev ns) (mx0 (-lean) - a) (mx0 lean - b) rs := by unfold turnL; rw [ha, hb]; rfl
  rw [hT2]
  rw [ha] at h4
  rw [hb] at h5
  rw [hrl] at hloop
  have e : ttD ns t = tabD (t.ev ns) (W2 ns) := rfl
  rw [e] at h2 h3 g1 g2
  simp only [nmD, optD] at h1 h2 h4 h5
  generalize tabD (fun _ => true) (W2 ns) = Q at *
  generalize tabD (t.ev ns) (W2 ns) = TT at *
  generalize tabD (t.nv ns) (W2 ns) = NV at *
  generalize mx0 lean = X1 at *
  generalize mx0 (-lean) = X2 at *
  obtain ⟨y10, y11, hloop⟩ := hloop (.val (mindD ns rs)) (.val t.toD) (.val (.int lean)) (.val (nmD ns)) (.val (.tup (rs.map .int))) (.val Q) .emp .emp
  simp only [nmD, mindD] at hloop
  simp (disch := first | assumption | omega | (simp only [List.length_append, List.length_cons, List.length_nil, List.length_map, List.length_reverse, List.length_replicate, List.length_range, List.length_take, List.length_drop, enD_length, rangeD_length]; omega) | (simp; done) | fail) [decide_eq_true, decide_eq_false, kAsg, kNx, -gMax2_ii, b_turned, mindD, nmD, h1, h2, g1, g2, m1, m2, h4, h3, h5, hloop]
def LeanK (f : Fn) : Prop := ∀ (ns : List (List Nat)) (rs : List Int) (t : T), okN ns → okR ns rs → okT ns t → openT ns t →
  f [.val (mindD ns rs), .val t.toD] = .ok (.val (.int ((leastO (t.nv ns) rs).getD 0 - (leastO (t.ev ns) rs).getD 0))) [.val (mindD ns rs), .val t.toD]
theorem leaning_ok {ft ff fl : Fn} (ht : TabK ft) (hf : FullK ff) (hl : LeastK fl) : LeanK (bodyF 6 2 2 (b_leaning ft ff fl)) := fun ns rs t hn hr hT ho => by
  have h1 := hf ns hn
  have h2 := ht ns t hn hT
  have h3 := tab_of_nt ns t
  obtain ⟨a, b, ha, hb⟩ := open_least ho hr
  have h4 : fl _ = _ := hl.at hn hr (t.ev ns)
  have h5 : fl _ = _ := hl.at hn hr (t.nv ns)
  obtain ⟨_, g2, g3⟩ := open_ne ho
  rw [ha] at h4 ⊢
  rw [hb] at h5 ⊢
  have e : ttD ns t = tabD (t.ev ns) (W2 ns) := rfl
  rw [e] at h2 h3 g2
  simp only [nmD, optD] at h1 h2 h4 h5
  generalize tabD (fun _ => true) (W2 ns) = Q at *
  generalize tabD (t.ev ns) (W2 ns) = TT at *
  generalize tabD (t.nv ns) (W2 ns) = NV at *
  simp (disch := first | assumption | omega | (simp only [List.length_append, List.length_cons, List.length_nil, List.length_map, List.length_reverse, List.length_replicate, List.length_range, List.length_take, List.length_drop, enD_length, rangeD_length]; omega) | (simp; done) | fail) [decide_eq_true, decide_eq_false, kAsg, kNx, b_leaning, mindD, nmD, h1, h2, g2, g3, h4, h3, h5]
def giveL (ns : List (List Nat)) (t : T) (rs : List Int) : List Int := if leastO (t.nv ns) rs = some 0 then rs else turnL ns t 0 rs
theorem giveL_len (ns : List (List Nat)) (t : T) (rs : List Int) : (giveL ns t rs).length = rs.length := by
  unfold giveL; split
  · rfl
  · exact turnL_len _ _ _ _
def GiveK (f : Fn) : Prop := ∀ (ns : List (List Nat)) (rs : List Int) (t : T), okN ns → okR ns rs → okT ns t → (openT ns t ∨ leastO (t.nv ns) rs = some 0) →
  f [.val (mindD ns rs), .val t.toD] = .ok (.val (mindD ns (giveL ns t rs))) [.val (mindD ns rs), .val t.toD]
theorem give_ok {ff ft : Fn} (hf : FirmK ff) (ht : TurnK ft) : GiveK (bodyF 3 2 2 (b_given_up ff ft)) := fun ns rs t hn hr hT ho => by
  have h1 := hf ns rs t hn hr hT
  have hex : ∃ b, leastO (t.nv ns) rs = some b := by
    rcases ho with ho | ho
    · obtain ⟨a, b, ha, hb⟩ := open_least ho hr; exact ⟨b, hb⟩
    · exact ⟨_, ho⟩
  obtain ⟨b, hb⟩ := hex
  rw [hb] at h1
  simp only [optD, mindD, nmD] at h1
  unfold giveL
  rw [hb]
  by_cases hz : b = 0
  · subst hz
    simp (disch := first | assumption | omega | (simp only [List.length_append, List.length_cons, List.length_nil, List.length_map, List.length_reverse, List.length_replicate, List.length_range, List.length_take, List.length_drop, enD_length, rangeD_length]; omega) | (simp; done) | fail) [decide_eq_true, decide_eq_false, kAsg, kNx, b_given_up, mindD, nmD, h1]
  · have hz' : ¬ (some b = some 0) := fun e => hz (Option.some.inj e)
    rw [if_neg hz']
    rcases ho with ho | ho
    · have h2 := ht ns rs t 0 hn hr hT ho
      simp only [mindD, nmD] at h2
      simp (disch := first | assumption | omega | (simp only [List.length_append, List.length_cons, List.length_nil, List.length_map, List.length_reverse, List.length_replicate, List.length_range, List.length_take, List.length_drop, enD_length, rangeD_length]; omega) | (simp; done) | fail) [decide_eq_true, decide_eq_false, kAsg, kNx, b_given_up, mindD, nmD, h1, h2, hz]
    · rw [hb] at ho; exact absurd ho hz'
/-- always so -/
def allT (ns : List (List Nat)) (t : T) : Prop := ∀ w, w < W2 ns → t.ev ns w = true
def TakeK (f : Fn) : Prop := ∀ (ns : List (List Nat)) (rs : List Int) (t : T) (firm : Int), okN ns → okR ns rs → okT ns t → openT ns t →
  f [.val (mindD ns rs), .val t.toD, .val (.int firm)] = .ok (.val (mindD ns (turnL ns t firm rs))) [.val (mindD ns rs), .val t.toD, .val (.int firm)]
theorem take_ok {ft ff fu : Fn} (ht : TabK ft) (hf : FullK ff) (hu : TurnK fu) : TakeK (bodyF 4 3 3 (b_taken_on ft ff fu)) := fun ns rs t firm hn hr hT ho => by
  have h1 := hf ns hn
  have h2 := ht ns t hn hT
  obtain ⟨g1, _, _⟩ := open_ne ho
  have h3 := hu ns rs t firm hn hr hT ho
  simp only [nmD, mindD] at h1 h2 h3
  generalize tabD (fun _ => true) (W2 ns) = Q at *
  generalize ttD ns t = TT at *
  simp (disch := first | assumption | omega | (simp only [List.length_append, List.length_cons, List.length_nil, List.length_map, List.length_reverse, List.length_replicate, List.length_range, List.length_take, List.length_drop, enD_length, rangeD_length]; omega) | (simp; done) | fail) [decide_eq_true, decide_eq_false, kAsg, kNx, b_taken_on, mindD, nmD, h1, h2, g1, h3]
end PL

set_option Elab.async false
set_option linter.all false
set_option maxRecDepth 100000
set_option maxHeartbeats 1000000
set_option exponentiation.threshold 20000
/-! LC: the turning laws' own helpers -/
namespace PL
set_option autoImplicit false
open PySem L2 PyProof.Rows
theorem manyC_ok (c : Int) : ∃ m : Nat, 1 ≤ m ∧ m ≤ 8 ∧ bodyF 1 1 1 b_many_by_f86d [.val (.int c)] = .ok (.val (.int m)) [.val (.int c)] := by
  have q0 : 0 ≤ c / 8 % 8 := Int.emod_nonneg _ (by decide)
  have q1 : c / 8 % 8 < 8 := Int.emod_lt_of_pos _ (by decide)
  have key : ∀ k : Nat, k < 8 → ∃ m : Nat, 1 ≤ m ∧ m ≤ 8 ∧ L2.atI [D.int 1, D.int 2, D.int 2, D.int 3, D.int 3, D.int 4, D.int 3, D.int (1 + c / 8 % 8)] (k : Int) = some (.int m) := by
    intro k hk
    have e := atI_of [D.int 1, D.int 2, D.int 2, D.int 3, D.int 3, D.int 4, D.int 3, D.int (1 + c / 8 % 8)] k hk
    rw [e]
    match k, hk with
    | 0, _ => exact ⟨1, by decide, by decide, rfl⟩
    | 1, _ => exact ⟨2, by decide, by decide, rfl⟩
    | 2, _ => exact ⟨2, by decide, by decide, rfl⟩
    | 3, _ => exact ⟨3, by decide, by decide, rfl⟩
    | 4, _ => exact ⟨3, by decide, by decide, rfl⟩
    | 5, _ => exact ⟨4, by decide, by decide, rfl⟩
    | 6, _ => exact ⟨3, by decide, by decide, rfl⟩
    | 7, _ => exact ⟨(1 + c / 8 % 8).toNat, by omega, by omega, by
        show some (D.int (1 + c / 8 % 8)) = _
        congr 2
        omega⟩
  have e : c % 8 = ((c % 8).toNat : Int) := by omega
  obtain ⟨m, h1, h2, h3⟩ := key (c % 8).toNat (by omega)
  rw [← e] at h3
  refine ⟨m, h1, h2, ?_⟩
  simp (disch := first | assumption | omega | (simp only [List.length_append, List.length_cons, List.length_nil, List.length_map, List.length_reverse, List.length_replicate, List.length_range, List.length_take, List.length_drop, enD_length, rangeD_length]; omega) | (simp; done) | fail) [decide_eq_true, decide_eq_false, kAsg, kNx, b_many_by_f86d, h3]
def namesC (c : Int) (m : Nat) : List (List Nat) :=
  let size := 1 + c / 26 % 8
  let place := c / 208 % size
  if c / 3 % 4 = 1 then (List.range m).map fun (k : Nat) => (List.replicate 8 (letter c)).take (1 + (3 * k + c / 12) % 8).toNat
  else (List.range m).map fun (k : Nat) => (List.replicate size.toNat (letter (c / 1664))).take place.toNat ++ letter (c % 26 + 5 * k) :: (List.replicate size.toNat (letter (c / 1664))).drop (place + 1).toNat
def NamesCOk (f : Fn) : Prop := ∀ (c : Int) (m : Nat), m ≤ 1000 → f [.val (.int c), .val (.int m)] = .ok (.val (nmD (namesC c m))) [.val (.int c), .val (.int m)]
theorem namesC_ok : NamesCOk (bodyF 8 2 2 b_names_by_4145) := fun c m hm => by
  have ha : (97 :: 98 :: 99 :: 100 :: 101 :: 102 :: 103 :: 104 :: 105 :: 106 :: 107 :: 108 :: 109 :: 110 :: 111 :: 112 :: 113 :: 114 :: 115 :: 116 :: 117 :: 118 :: 119 :: 120 :: 121 :: 122 :: []) = abc := rfl
  have hal : abc.length = 26 := rfl
  have q1 : 0 ≤ c / 208 % (1 + c / 26 % 8) := Int.emod_nonneg _ (by omega)
  have q2 : c / 208 % (1 + c / 26 % 8) < 1 + c / 26 % 8 := Int.emod_lt_of_pos _ (by omega)
  have h8 : (List.replicate 8 [letter c]).flatten = List.replicate 8 (letter c) := flat_rep 8 _
  unfold b_names_by_4145
  rw [ha]
  by_cases h0 : c / 3 % 4 = 1
  · simp (disch := first | assumption | omega | (simp only [List.length_append, List.length_cons, List.length_nil, List.length_map, List.length_reverse, List.length_replicate, List.length_range, List.length_take, List.length_drop, enD_length, rangeD_length]; omega) | (simp; done) | fail) [decide_eq_true, decide_eq_false, kAsg, kNx, hal, h0]
    rw [lc_rngI m (fun k : Nat => .str ((List.replicate 8 (letter c)).take (1 + (3 * k + c / 12) % 8).toNat)) (fun k hk => by simp (disch := first | assumption | omega | (simp only [List.length_append, List.length_cons, List.length_nil, List.length_map, List.length_reverse, List.length_replicate, List.length_range, List.length_take, List.length_drop, enD_length, rangeD_length]; omega) | (simp; done) | fail) [decide_eq_true, decide_eq_false, kAsg, kNx, hal, letter_eq, flat_rep, cut_to])]
    simp (disch := first | assumption | omega | (simp only [List.length_append, List.length_cons, List.length_nil, List.length_map, List.length_reverse, List.length_replicate, List.length_range, List.length_take, List.length_drop, enD_length, rangeD_length]; omega) | (simp; done) | fail) [decide_eq_true, decide_eq_false, kAsg, kNx, nmD, namesC, h0, Function.comp_def]
  · simp (disch := first | assumption | omega | (simp only [List.length_append, List.length_cons, List.length_nil, List.length_map, List.length_reverse, List.length_replicate, List.length_range, List.length_take, List.length_drop, enD_length, rangeD_length]; omega) | (simp; done) | fail) [decide_eq_true, decide_eq_false, kAsg, kNx, hal, h0, letter_eq]
    rw [lc_rngI m (fun k : Nat => .str ((List.replicate (1 + c / 26 % 8).toNat (letter (c / 1664))).take (c / 208 % (1 + c / 26 % 8)).toNat ++ letter (c % 26 + 5 * k) :: (List.replicate (1 + c / 26 % 8).toNat (letter (c / 1664))).drop (c / 208 % (1 + c / 26 % 8) + 1).toNat)) (fun k hk => by
      simp (disch := first | assumption | omega | (simp only [List.length_append, List.length_cons, List.length_nil, List.length_map, List.length_reverse, List.length_replicate, List.length_range, List.length_take, List.length_drop, enD_length, rangeD_length]; omega) | (simp; done) | fail) [decide_eq_true, decide_eq_false, kAsg, kNx, hal, letter_eq, flat_rep, cut_to, cut_from]
      unfold letter; omega)]
    simp (disch := first | assumption | omega | (simp only [List.length_append, List.length_cons, List.length_nil, List.length_map, List.length_reverse, List.length_replicate, List.length_range, List.length_take, List.length_drop, enD_length, rangeD_length]; omega) | (simp; done) | fail) [decide_eq_true, decide_eq_false, kAsg, kNx, nmD, namesC, h0, Function.comp_def]
theorem namesC_len (c : Int) (m : Nat) : (namesC c m).length = m := by
  unfold namesC
  dsimp only
  split <;> simp
theorem namesC_nodup (c : Int) (m : Nat) (hm : m ≤ 8) : (namesC c m).Nodup := by
  unfold namesC
  dsimp only
  split
  · refine nodup_range _ _ fun i j h hj e => ?_
    have e2 := congrArg List.length e
    simp only [List.length_take, List.length_replicate] at e2
    omega
  · refine nodup_range _ _ fun i j h hj e => ?_
    have e2 := List.append_cancel_left e
    simp only [List.cons.injEq] at e2
    have := e2.1
    unfold letter at this
    omega
theorem namesC_nm (c : Int) (m : Nat) : nmOk (namesC c m) := fun x hx d hd => by
  unfold namesC at hx
  dsimp only at hx
  have hl : ∀ i : Int, letter i < 1114112 := letter_ok
  split at hx
  · obtain ⟨k, _, rfl⟩ := List.mem_map.mp hx
    rw [(List.mem_replicate.mp (List.mem_of_mem_take hd)).2]; exact hl _
  · obtain ⟨k, _, rfl⟩ := List.mem_map.mp hx
    rcases List.mem_append.mp hd with hd | hd
    · rw [(List.mem_replicate.mp (List.mem_of_mem_take hd)).2]; exact hl _
    · rcases List.mem_cons.mp hd with rfl | hd
      · exact hl _
      · rw [(List.mem_replicate.mp (List.mem_of_mem_drop hd)).2]; exact hl _
theorem namesC_N {c : Int} {m : Nat} (h1 : 1 ≤ m) (h8 : m ≤ 8) : okN (namesC c m) := ⟨namesC_nodup c m h8, by rw [namesC_len]; exact h8, by rw [namesC_len]; exact h1, namesC_nm c m⟩
/-! ### trees -/
theorem name_at {ns : List (List Nat)} (hn : okN ns) (i : Int) : ∃ x, x ∈ ns ∧ L2.atI (ns.map D.str) (i % (ns.length : Nat)) = some (.str x) := by
  have h1 := hn.2.2.1
  have r0 : 0 ≤ i % (ns.length : Nat) := Int.emod_nonneg _ (by omega)
  have r1 : i % (ns.length : Nat) < (ns.length : Nat) := Int.emod_lt_of_pos _ (by omega)
  have e := atI_map D.str ns (i % (ns.length : Nat)) r0 (by omega)
  exact ⟨_, List.getElem_mem (by omega), e⟩
def TreeCOk (d : Nat) (f : Fn) : Prop := ∀ (ns : List (List Nat)) (c : Int) (k : Nat), okN ns → k ≤ d → ∃ t : T, f [.val (nmD ns), .val (.int c), .val (.int k)] = .ok (.val t.toD) [.val (nmD ns), .val (.int c), .val (.int k)] ∧ t.nmIn ns ∧ t.depth ≤ k + 1
theorem treeC_ok {d : Nat} {ft : Fn} (ht : ∀ (ns : List (List Nat)) (c : Int) (k : Nat), okN ns → k + 1 ≤ d → ∃ t : T, ft [.val (nmD ns), .val (.int c), .val (.int k)] = .ok (.val t.toD) [.val (nmD ns), .val (.int c), .val (.int k)] ∧ t.nmIn ns ∧ t.depth ≤ k + 1) : TreeCOk d (bodyF 7 3 3 (b_tree_by_7894 ft)) := fun ns c k hn hk => by
  obtain ⟨x, hx, ex⟩ := name_at hn (c / 11)
  have hpos : 0 < (ns.length : Int) := by have := hn.2.2.1; omega
  by_cases h1 : k = 0 ∨ c % 11 < 2
  · have leaf : ∀ (b : k = 0 ∨ (k ≠ 0 ∧ c % 11 < 2)), ∃ t : T, bodyF 7 3 3 (b_tree_by_7894 ft) [.val (nmD ns), .val (.int c), .val (.int k)] = .ok (.val t.toD) [.val (nmD ns), .val (.int c), .val (.int k)] ∧ t.nmIn ns ∧ t.depth ≤ k + 1 := fun b => by
      by_cases h2 : c / 11 % 9 = 8
      · by_cases h3 : c / 11 / 9 % 2 = 0
        · refine ⟨.yes, ?_, trivial, by simp [T.depth]⟩
          rcases b with b | ⟨b, b2⟩
          · subst b; simp (disch := first | assumption | omega | (simp only [List.length_append, List.length_cons, List.length_nil, List.length_map, List.length_reverse, List.length_replicate, List.length_range, List.length_take, List.length_drop, enD_length, rangeD_length]; omega) | (simp; done) | fail) [decide_eq_true, decide_eq_false, kAsg, kNx, b_tree_by_7894, nmD, h2, h3, T.toD]
          · have b' : ¬ (k : Int) = 0 := by omega
            simp (disch := first | assumption | omega | (simp only [List.length_append, List.length_cons, List.length_nil, List.length_map, List.length_reverse, List.length_replicate, List.length_range, List.length_take, List.length_drop, enD_length, rangeD_length]; omega) | (simp; done) | fail) [decide_eq_true, decide_eq_false, kAsg, kNx, b_tree_by_7894, nmD, b, b', b2, h2, h3, T.toD]
        · have h3' : c / 11 / 9 % 2 = 1 := by omega
          refine ⟨.no, ?_, trivial, by simp [T.depth]⟩
          rcases b with b | ⟨b, b2⟩
          · subst b; simp (disch := first | assumption | omega | (simp only [List.length_append, List.length_cons, List.length_nil, List.length_map, List.length_reverse, List.length_replicate, List.length_range, List.length_take, List.length_drop, enD_length, rangeD_length]; omega) | (simp; done) | fail) [decide_eq_true, decide_eq_false, kAsg, kNx, b_tree_by_7894, nmD, h2, h3', T.toD]
          · have b' : ¬ (k : Int) = 0 := by omega
            simp (disch := first | assumption | omega | (simp only [List.length_append, List.length_cons, List.length_nil, List.length_map, List.length_reverse, List.length_replicate, List.length_range, List.length_take, List.length_drop, enD_length, rangeD_length]; omega) | (simp; done) | fail) [decide_eq_true, decide_eq_false, kAsg, kNx, b_tree_by_7894, nmD, b, b', b2, h2, h3', T.toD]
      · refine ⟨.nm x, ?_, hx, by simp [T.depth]⟩
        rcases b with b | ⟨b, b2⟩
        · subst b; simp (disch := first | assumption | omega | (simp only [List.length_append, List.length_cons, List.length_nil, List.length_map, List.length_reverse, List.length_replicate, List.length_range, List.length_take, List.length_drop, enD_length, rangeD_length]; omega) | (simp; done) | fail) [decide_eq_true, decide_eq_false, kAsg, kNx, b_tree_by_7894, nmD, h2, ex, T.toD]
        · have b' : ¬ (k : Int) = 0 := by omega
          simp (disch := first | assumption | omega | (simp only [List.length_append, List.length_cons, List.length_nil, List.length_map, List.length_reverse, List.length_replicate, List.length_range, List.length_take, List.length_drop, enD_length, rangeD_length]; omega) | (simp; done) | fail) [decide_eq_true, decide_eq_false, kAsg, kNx, b_tree_by_7894, nmD, b, b', b2, h2, ex, T.toD]
    by_cases hk0 : k = 0
    · exact leaf (.inl hk0)
    · exact leaf (.inr ⟨hk0, by rcases h1 with h1 | h1; exact absurd h1 hk0; exact h1⟩)
  · have hk0 : k ≠ 0 := fun e => h1 (.inl e)
    have hw : ¬ c % 11 < 2 := fun e => h1 (.inr e)
    have b' : ¬ (k : Int) = 0 := by omega
    have ek : (k : Int) - 1 = ((k - 1 : Nat) : Int) := by omega
    obtain ⟨t1, e1, n1, d1⟩ := ht ns ((c % 2147483647 + 1) * 48271 % 2147483647) (k - 1) hn (by omega)
    obtain ⟨t2, e2', n2, d2⟩ := ht ns ((c % 2147483629 + 2) * 69621 % 2147483629) (k - 1) hn (by omega)
    simp only [nmD] at e1 e2'
    by_cases h4 : c % 11 < 4
    · refine ⟨.nt t1, ?_, n1, by simp only [T.depth]; omega⟩
      simp (disch := first | assumption | omega | (simp only [List.length_append, List.length_cons, List.length_nil, List.length_map, List.length_reverse, List.length_replicate, List.length_range, List.length_take, List.length_drop, enD_length, rangeD_length]; omega) | (simp; done) | fail) [decide_eq_true, decide_eq_false, kAsg, kNx, b_tree_by_7894, nmD, hk0, b', hw, ek, e1, h4, T.toD]
    · have q : c / 11 % 4 = 0 ∨ c / 11 % 4 = 1 ∨ c / 11 % 4 = 2 ∨ c / 11 % 4 = 3 := by omega
      rcases q with q | q | q | q
      · refine ⟨.bin .an t1 t2, ?_, ⟨n1, n2⟩, by simp only [T.depth]; omega⟩
        simp (disch := first | assumption | omega | (simp only [List.length_append, List.length_cons, List.length_nil, List.length_map, List.length_reverse, List.length_replicate, List.length_range, List.length_take, List.length_drop, enD_length, rangeD_length]; omega) | (simp; done) | fail) [decide_eq_true, decide_eq_false, kAsg, kNx, b_tree_by_7894, nmD, hk0, b', hw, ek, e1, e2', h4, q, T.toD, K4.code]
      · refine ⟨.bin .or t1 t2, ?_, ⟨n1, n2⟩, by simp only [T.depth]; omega⟩
        simp (disch := first | assumption | omega | (simp only [List.length_append, List.length_cons, List.length_nil, List.length_map, List.length_reverse, List.length_replicate, List.length_range, List.length_take, List.length_drop, enD_length, rangeD_length]; omega) | (simp; done) | fail) [decide_eq_true, decide_eq_false, kAsg, kNx, b_tree_by_7894, nmD, hk0, b', hw, ek, e1, e2', h4, q, T.toD, K4.code]
      · refine ⟨.bin .th t1 t2, ?_, ⟨n1, n2⟩, by simp only [T.depth]; omega⟩
        simp (disch := first | assumption | omega | (simp only [List.length_append, List.length_cons, List.length_nil, List.length_map, List.length_reverse, List.length_replicate, List.length_range, List.length_take, List.length_drop, enD_length, rangeD_length]; omega) | (simp; done) | fail) [decide_eq_true, decide_eq_false, kAsg, kNx, b_tree_by_7894, nmD, hk0, b', hw, ek, e1, e2', h4, q, T.toD, K4.code]
      · refine ⟨.bin .sm t1 t2, ?_, ⟨n1, n2⟩, by simp only [T.depth]; omega⟩
        simp (disch := first | assumption | omega | (simp only [List.length_append, List.length_cons, List.length_nil, List.length_map, List.length_reverse, List.length_replicate, List.length_range, List.length_take, List.length_drop, enD_length, rangeD_length]; omega) | (simp; done) | fail) [decide_eq_true, decide_eq_false, kAsg, kNx, b_tree_by_7894, nmD, hk0, b', hw, ek, e1, e2', h4, q, T.toD, K4.code]
def TreeCK (f : Fn) : Prop := ∀ (ns : List (List Nat)) (c : Int) (k : Nat), okN ns → k ≤ 9 → ∃ t : T, f [.val (nmD ns), .val (.int c), .val (.int k)] = .ok (.val t.toD) [.val (nmD ns), .val (.int c), .val (.int k)] ∧ t.nmIn ns ∧ t.depth ≤ k + 1
end PL

set_option Elab.async false
set_option linter.all false
set_option maxRecDepth 100000
set_option maxHeartbeats 1000000
set_option exponentiation.threshold 20000
/-! LC2: the turning laws' own helpers, part two -/
namespace PL
set_option autoImplicit false
open PySem L2 PyProof.Rows
theorem W2_2 {ns : List (List Nat)} (h : okN ns) : 2 ≤ W2 ns := by
  have h1 : 2 ^ 1 ≤ 2 ^ ns.length := Nat.pow_le_pow_right (by decide) h.2.2.1
  exact h1
theorem not_open {ns : List (List Nat)} {t : T} (h : ¬ openT ns t) : (∀ w, w < W2 ns → t.ev ns w = false) ∨ ∀ w, w < W2 ns → t.ev ns w = true := by
  by_cases h1 : ∃ w, w < W2 ns ∧ t.ev ns w = true
  · right
    intro w hw
    cases e : t.ev ns w with
    | true => rfl
    | false => exact absurd ⟨h1, w, hw, e⟩ h
  · left
    intro w hw
    cases e : t.ev ns w with
    | false => rfl
    | true => exact absurd ⟨w, hw, e⟩ h1
theorem mod_open {ns : List (List Nat)} (hn : okN ns) (t : T) : (openT ns t ∧ ∃ r : Int, r ≠ 0 ∧ gMod (ttD ns t) (tabD (fun _ => true) (W2 ns)) = .ok (.int r)) ∨ (¬ openT ns t ∧ gMod (ttD ns t) (tabD (fun _ => true) (W2 ns)) = .ok (.int 0)) := by
  have hW := W2_2 hn
  have hp : 2 ^ 2 ≤ 2 ^ W2 ns := Nat.pow_le_pow_right (by decide) hW
  have hf := tab_full (W2 ns)
  have hlt := tabOf_lt (t.ev ns) (W2 ns)
  have hpos : (0 : Int) < ((tabOf (fun _ => true) (W2 ns) : Nat) : Int) := by omega
  by_cases ho : openT ns t
  · left
    refine ⟨ho, ((tabOf (t.ev ns) (W2 ns) : Nat) : Int), ?_, ?_⟩
    · obtain ⟨⟨w, h1, h2⟩, _⟩ := ho
      intro e
      have := tab_inj (p := t.ev ns) (q := fun _ => false) (n := W2 ns) (by rw [tab_zero]; omega) w h1
      rw [h2] at this; cases this
    · unfold ttD tabD
      rw [gMod_ii _ _ hpos]
      obtain ⟨_, w, h1, h2⟩ := ho
      have hne : tabOf (t.ev ns) (W2 ns) ≠ tabOf (fun _ => true) (W2 ns) := fun e => by
        have := tab_inj e w h1
        rw [h2] at this; cases this
      rw [Int.emod_eq_of_lt (by omega) (by omega)]
  · right
    refine ⟨ho, ?_⟩
    unfold ttD tabD
    rw [gMod_ii _ _ hpos]
    rcases not_open ho with h | h
    · rw [tab_congr (q := fun _ => false) h, tab_zero]; simp
    · rw [tab_congr (q := fun _ => true) h, Int.emod_self]
theorem open_nm {ns : List (List Nat)} (hn : okN ns) {x : List Nat} (hx : x ∈ ns) : openT ns (.nm x) ∧ openT ns (.nt (.nm x)) := by
  obtain ⟨j, h1, h2, _⟩ := nm_pos hx
  have hj : 2 ^ j < W2 ns := Nat.pow_lt_pow_right (by decide) h2
  have e1 : (T.nm x).ev ns 0 = false := by simp only [T.ev, h1, Option.getD_some]; unfold colP; simp
  have e2 : (T.nm x).ev ns (2 ^ j) = true := by simp only [T.ev, h1, Option.getD_some]; unfold colP; rw [Nat.testBit_two_pow_self]
  have hz : 0 < W2 ns := Nat.lt_of_le_of_lt (Nat.zero_le _) hj
  exact ⟨⟨⟨_, hj, e2⟩, 0, hz, e1⟩, ⟨0, hz, by show (!(T.nm x).ev ns 0) = true; rw [e1]; rfl⟩, 2 ^ j, hj, by show (!(T.nm x).ev ns (2 ^ j)) = false; rw [e2]; rfl⟩
def OpenK (f : Fn) : Prop := ∀ (ns : List (List Nat)) (c : Int), okN ns → ∃ t : T, f [.val (nmD ns), .val (.int c)] = .ok (.val t.toD) [.val (nmD ns), .val (.int c)] ∧ t.nmIn ns ∧ t.depth ≤ 5 ∧ openT ns t
theorem openK_ok {ft fr : Fn} (ht : TreeCK ft) (hr : TabK fr) : OpenK (bodyF 3 2 2 (b_open_by_4ae7 ft fr)) := fun ns c hn => by
  obtain ⟨t, e1, n1, d1⟩ := ht ns c 4 hn (by decide)
  have h2 := hr ns t hn ⟨n1, by omega⟩
  have q1 : gShl (.int 1) (.int (ns.length : Nat)) = .ok (.int (W2 ns : Nat)) := gShl_p ns.length (by have := hn.2.1; omega)
  obtain ⟨q2, q3⟩ := tabD_full (W2 ns) (by have h' := W2_256 hn; omega)
  obtain ⟨x, hx, ex⟩ := name_at hn (c / 2)
  have hpos : 0 < (ns.length : Int) := by have := hn.2.2.1; omega
  have hm := mod_open hn t
  obtain ⟨o1, o2⟩ := open_nm hn hx
  simp only [nmD] at e1 h2
  have e1' : ft [Sl.val (D.tup (List.map D.str ns)), Sl.val (D.int c), Sl.val (D.int 4)] = RF.ok (Sl.val t.toD) [Sl.val (D.tup (List.map D.str ns)), Sl.val (D.int c), Sl.val (D.int 4)] := e1
  generalize tabD (fun _ => true) (W2 ns) = Q at *
  generalize hE : 2 ^ (W2 ns) = E at *
  rcases hm with ⟨ho, r, r0, hm⟩ | ⟨ho, hm⟩
  · refine ⟨t, ?_, n1, by omega, ho⟩
    generalize ttD ns t = TT at *
    generalize W2 ns = N at *
    simp (disch := first | assumption | omega | (simp only [List.length_append, List.length_cons, List.length_nil, List.length_map, List.length_reverse, List.length_replicate, List.length_range, List.length_take, List.length_drop, enD_length, rangeD_length]; omega) | (simp; done) | fail) [decide_eq_true, decide_eq_false, kAsg, kNx, b_open_by_4ae7, nmD, e1', h2, q1, q2, q3, hm, r0]
  · by_cases hc : c % 2 = 1
    · refine ⟨.nt (.nm x), ?_, hx, by simp [T.depth], o2⟩
      generalize ttD ns t = TT at *
      generalize W2 ns = N at *
      simp (disch := first | assumption | omega | (simp only [List.length_append, List.length_cons, List.length_nil, List.length_map, List.length_reverse, List.length_replicate, List.length_range, List.length_take, List.length_drop, enD_length, rangeD_length]; omega) | (simp; done) | fail) [decide_eq_true, decide_eq_false, kAsg, kNx, b_open_by_4ae7, nmD, e1', h2, q1, q2, q3, hm, ex, hc, T.toD]
    · refine ⟨.nm x, ?_, hx, by simp [T.depth], o1⟩
      generalize ttD ns t = TT at *
      generalize W2 ns = N at *
      simp (disch := first | assumption | omega | (simp only [List.length_append, List.length_cons, List.length_nil, List.length_map, List.length_reverse, List.length_replicate, List.length_range, List.length_take, List.length_drop, enD_length, rangeD_length]; omega) | (simp; done) | fail) [decide_eq_true, decide_eq_false, kAsg, kNx, b_open_by_4ae7, nmD, e1', h2, q1, q2, q3, hm, ex, hc, T.toD]
/-- ranks from nought up -/
def okQ (ns : List (List Nat)) (rs : List Int) : Prop := okR ns rs ∧ (∀ w, w < W2 ns → 0 ≤ rs.getD w 0) ∧ ∃ w, w < W2 ns ∧ rs.getD w 0 = 0
def MS (a0 a1 a2 : Sl) (i : Nat) (ρ : List Sl) : Prop := ∃ (rs : List Int) (x4 x5 x6 x7 : Sl), ρ = [a0, a1, a2, .own (.lst (rs.map .int)), x4, x5, x6, x7] ∧ rs.length = i ∧ ∀ r ∈ rs, 0 ≤ r
theorem mindC_l1 {fc : Fn} (hc : CellOk fc) (s : List Int) (hs : s.length ≤ 100) (a : Nat) (a2 : Sl) (i : Nat) (hi : i < 256) (ρ : List Sl) (g : MS (.val (.scr s)) (.val (.int (a : Nat))) a2 i ρ) : Nxt (MS (.val (.scr s)) (.val (.int (a : Nat))) a2 (i + 1)) (b_mind_by_72c0_l1 fc (setS ρ [(4, .int (i : Nat))])) := by
  obtain ⟨rs, x4, x5, x6, x7, rfl, hl, hr⟩ := g
  have hcell := hc s (a + i % 8) (by omega)
  have e8 : ((a + i % 8 : Nat) : Int) = (a : Int) + (i : Int) % 8 := by omega
  rw [e8] at hcell
  generalize s.getD (a + i % 8) 0 = v at hcell
  have fin : ∀ (q : Int) (x4 x5 x6 x7 : Sl), 0 ≤ q → MS (.val (.scr s)) (.val (.int (a : Nat))) a2 (i + 1) [.val (.scr s), .val (.int (a : Nat)), a2, .own (.lst (rs.map .int ++ [.int q])), x4, x5, x6, x7] := fun q x4 x5 x6 x7 h0 => by
    refine ⟨rs ++ [q], x4, x5, x6, x7, by simp, by simp; omega, fun r h => ?_⟩
    rcases List.mem_append.mp h with h | h
    · exact hr r h
    · rw [List.mem_singleton.mp h]; exact h0
  by_cases h7 : (7 : Int) < (i : Int)
  · generalize hq : (v + (i : Int) * (i : Int)) * 48271 % 2147483647 = q
    have hq0 : 0 ≤ q := by rw [← hq]; exact Int.emod_nonneg _ (by decide)
    by_cases h3 : q % 3 = 0
    · simp (disch := first | assumption | omega | (simp only [List.length_append, List.length_cons, List.length_nil, List.length_map, List.length_reverse, List.length_replicate, List.length_range, List.length_take, List.length_drop, enD_length, rangeD_length]; omega) | (simp; done) | fail) [decide_eq_true, decide_eq_false, kAsg, kNx, b_mind_by_72c0_l1, hcell, h7, hq, h3]
      exact fin _ _ _ _ _ (Int.emod_nonneg _ (by decide))
    · simp (disch := first | assumption | omega | (simp only [List.length_append, List.length_cons, List.length_nil, List.length_map, List.length_reverse, List.length_replicate, List.length_range, List.length_take, List.length_drop, enD_length, rangeD_length]; omega) | (simp; done) | fail) [decide_eq_true, decide_eq_false, kAsg, kNx, b_mind_by_72c0_l1, hcell, h7, hq, h3]
      exact fin _ _ _ _ _ (Int.emod_nonneg _ (by decide))
  · by_cases h3 : v % 3 = 0
    · simp (disch := first | assumption | omega | (simp only [List.length_append, List.length_cons, List.length_nil, List.length_map, List.length_reverse, List.length_replicate, List.length_range, List.length_take, List.length_drop, enD_length, rangeD_length]; omega) | (simp; done) | fail) [decide_eq_true, decide_eq_false, kAsg, kNx, b_mind_by_72c0_l1, hcell, h7, h3]
      exact fin _ _ _ _ _ (Int.emod_nonneg _ (by decide))
    · simp (disch := first | assumption | omega | (simp only [List.length_append, List.length_cons, List.length_nil, List.length_map, List.length_reverse, List.length_replicate, List.length_range, List.length_take, List.length_drop, enD_length, rangeD_length]; omega) | (simp; done) | fail) [decide_eq_true, decide_eq_false, kAsg, kNx, b_mind_by_72c0_l1, hcell, h7, h3]
      exact fin _ _ _ _ _ (Int.emod_nonneg _ (by decide))
theorem okQ_low {ns : List (List Nat)} {rs : List Int} (hn : okN ns) (hl : rs.length = W2 ns) : okQ ns (lowL rs) := by
  have hW := W2_2 hn
  have hne : rs ≠ [] := by intro e; subst e; simp at hl; omega
  have hg : ∀ w, w < W2 ns → (lowL rs).getD w 0 = rs.getD w 0 - minI rs := fun w hw => by
    have h1 : rs[w]? = some (rs[w]'(by omega)) := List.getElem?_eq_getElem (by omega)
    simp [lowL, List.getD_eq_getElem?_getD, List.getElem?_map, h1]
  refine ⟨by unfold okR; simp [lowL, hl], fun w hw => ?_, ?_⟩
  · rw [hg w hw]
    have : minI rs ≤ rs.getD w 0 := minI_le (by rw [List.getD_eq_getElem?_getD, List.getElem?_eq_getElem (by omega)]; exact List.getElem_mem _)
    omega
  · obtain ⟨w, hw, e⟩ := List.mem_iff_getElem.mp (minI_mem hne)
    refine ⟨w, by omega, ?_⟩
    rw [hg w (by omega), List.getD_eq_getElem?_getD, List.getElem?_eq_getElem hw]
    simp [e]
def MindCK (f : Fn) : Prop := ∀ (ns : List (List Nat)) (s : List Int) (a : Nat), okN ns → s.length ≤ 100 → ∃ rs, f [.val (.scr s), .val (.int (a : Nat)), .val (nmD ns)] = .ok (.val (mindD ns rs)) [.val (.scr s), .val (.int (a : Nat)), .val (nmD ns)] ∧ okQ ns rs
theorem mindC_ok {fc : Fn} (hc : CellOk fc) : MindCK (bodyF 8 3 3 (b_mind_by_72c0 fc)) := fun ns s a hn hs => by
  have h256 := W2_256 hn
  have hW := W2_2 hn
  have q1 : gShl (.int 1) (.int (ns.length : Nat)) = .ok (.int (W2 ns : Nat)) := gShl_p ns.length (by have := hn.2.1; omega)
  obtain ⟨ρ', h1, rs, x4, x5, x6, x7, rfl, hl, hr⟩ := forGo_nxt (ft := ftOne 4) (fb := b_mind_by_72c0_l1 fc) (rangeD 0 (W2 ns : Nat)) (fun i ρ => MS (.val (.scr s)) (.val (.int (a : Nat))) (.val (nmD ns)) i ρ) [.val (.scr s), .val (.int (a : Nat)), .val (nmD ns), .own (.lst []), .emp, .emp, .emp, .emp] ⟨[], _, _, _, _, rfl, rfl, by simp⟩ (fun i d ρ hd g => by
    obtain ⟨hi, rfl⟩ := rangeD_get hd
    exact ⟨_, rfl, mindC_l1 hc s hs a _ i (by omega) ρ g⟩)
  rw [rangeD_length] at hl
  have hl2 : rs.length = W2 ns := by omega
  have hne : rs ≠ [] := by intro e; subst e; simp at hl2; omega
  have hmin := gMin1_l rs hne
  refine ⟨lowL rs, ?_, okQ_low hn hl2⟩
  have hlc : ∀ a0 a1 a2 x4 x5 : Sl, lcGo [a0, a1, a2, .own (.lst (rs.map .int)), x4, x5, .val (.int (minI rs)), .emp] (ftOne 7) fcYes (e2 gSub (eVar 7) (eVar 6)) (rs.map .int) = .ok (rs.map fun r => .int (r - minI rs)) := fun a0 a1 a2 x4 x5 => lc_map _ _ _ fun r _ => by simp (disch := first | assumption | omega | (simp only [List.length_append, List.length_cons, List.length_nil, List.length_map, List.length_reverse, List.length_replicate, List.length_range, List.length_take, List.length_drop, enD_length, rangeD_length]; omega) | (simp; done) | fail) [decide_eq_true, decide_eq_false, kAsg, kNx]
  have hlow : (lowL rs).map D.int = rs.map fun r => D.int (r - minI rs) := by simp [lowL, Function.comp_def]
  have hrl : rs.length ≤ 256 := by omega
  generalize W2 ns = N at *
  simp only [nmD] at h1
  simp (disch := first | assumption | omega | (simp only [List.length_append, List.length_cons, List.length_nil, List.length_map, List.length_reverse, List.length_replicate, List.length_range, List.length_take, List.length_drop, enD_length, rangeD_length]; omega) | (simp; done) | fail) [decide_eq_true, decide_eq_false, kAsg, kNx, b_mind_by_72c0, nmD, q1, h1, hmin, hlc, mindD, hlow]
def LeanByK (f : Fn) : Prop := ∀ c : Int, ∃ l : Int, f [.val (.int c)] = .ok (.val (.int l)) [.val (.int c)]
theorem leanBy_ok : LeanByK (bodyF 1 1 1 b_lean_by_8e4a) := fun c => by
  by_cases h0 : c % 4 = 0
  · exact ⟨c / 4 % 5 - 2, by simp (disch := first | assumption | omega | (simp only [List.length_append, List.length_cons, List.length_nil, List.length_map, List.length_reverse, List.length_replicate, List.length_range, List.length_take, List.length_drop, enD_length, rangeD_length]; omega) | (simp; done) | fail) [decide_eq_true, decide_eq_false, kAsg, kNx, b_lean_by_8e4a, h0]⟩
  · by_cases h1 : c % 4 = 1
    · exact ⟨0, by simp (disch := first | assumption | omega | (simp only [List.length_append, List.length_cons, List.length_nil, List.length_map, List.length_reverse, List.length_replicate, List.length_range, List.length_take, List.length_drop, enD_length, rangeD_length]; omega) | (simp; done) | fail) [decide_eq_true, decide_eq_false, kAsg, kNx, b_lean_by_8e4a, h0, h1]⟩
    · by_cases h2 : c % 4 = 2
      · exact ⟨c / 4 % 1000000000000000000000000000000, by simp (disch := first | assumption | omega | (simp only [List.length_append, List.length_cons, List.length_nil, List.length_map, List.length_reverse, List.length_replicate, List.length_range, List.length_take, List.length_drop, enD_length, rangeD_length]; omega) | (simp; done) | fail) [decide_eq_true, decide_eq_false, kAsg, kNx, b_lean_by_8e4a, h0, h1, h2]⟩
      · exact ⟨-(c / 4 % 1000000000000000000000000000000), by simp (disch := first | assumption | omega | (simp only [List.length_append, List.length_cons, List.length_nil, List.length_map, List.length_reverse, List.length_replicate, List.length_range, List.length_take, List.length_drop, enD_length, rangeD_length]; omega) | (simp; done) | fail) [decide_eq_true, decide_eq_false, kAsg, kNx, b_lean_by_8e4a, h0, h1, h2]⟩
def FormK (f : Fn) : Prop := ∀ (ns : List (List Nat)) (rs : List Int), okN ns → okR ns rs → (∀ w, w < W2 ns → 0 ≤ rs.getD w 0) → f [.val (mindD ns rs), .val (nmD ns)] = .ok (.val (.bl true)) [.val (mindD ns rs), .val (nmD ns)]
theorem form_ok {fw : Fn} (hw : WholeOk fw) : FormK (bodyF 3 2 2 (b_form_8ecd fw)) := fun ns rs hn hr h0 => by
  have h256 := W2_256 hn
  have q1 : gShl (.int 1) (.int (ns.length : Nat)) = .ok (.int (W2 ns : Nat)) := gShl_p ns.length (by have := hn.2.1; omega)
  have hrl : rs.length = W2 ns := hr
  rw [← hrl] at q1 h0
  have hx := gNe_refl (okd_nm hn.2.2.2) (by decide)
  obtain ⟨ρ', e1, y, rfl⟩ := forGo_nxt (ft := ftOne 2) (fb := b_form_8ecd_l1 fw) (rs.map .int) (fun _ ρ => ∃ y, ρ = [.val (mindD ns rs), .val (nmD ns), y]) [.val (mindD ns rs), .val (nmD ns), .emp] ⟨_, rfl⟩ (fun i d ρ hd ⟨y, e⟩ => by
    subst e
    have hi : i < rs.length := by have := (List.getElem?_eq_some_iff.mp hd).1; simpa using this
    simp [hi] at hd
    subst hd
    have h1 := h0 i hi
    rw [List.getD_eq_getElem?_getD, List.getElem?_eq_getElem hi, Option.getD_some] at h1
    have h2 := hw rs[i]
    have h3 : ¬ rs[i] < 0 := by omega
    refine ⟨_, rfl, ?_⟩
    simp (disch := first | assumption | omega | (simp only [List.length_append, List.length_cons, List.length_nil, List.length_map, List.length_reverse, List.length_replicate, List.length_range, List.length_take, List.length_drop, enD_length, rangeD_length]; omega) | (simp; done) | fail) [decide_eq_true, decide_eq_false, kAsg, kNx, b_form_8ecd_l1, h2, h3])
  simp only [mindD, nmD] at e1 hx
  simp (disch := first | assumption | omega | (simp only [List.length_append, List.length_cons, List.length_nil, List.length_map, List.length_reverse, List.length_replicate, List.length_range, List.length_take, List.length_drop, enD_length, rangeD_length]; omega) | (simp; done) | fail) [decide_eq_true, decide_eq_false, kAsg, kNx, b_form_8ecd, mindD, nmD, hx, q1, e1]
def OthersK (f : Fn) : Prop := ∀ (ns : List (List Nat)) (t : T) (cs : List Int), okN ns → t.nmIn ns → t.depth ≤ 12 → cs.length ≤ 1000 → ∃ ts : List T, f [.val (nmD ns), .val t.toD, .val (.lst (cs.map .int))] = .ok (.val (.lst (ts.map T.toD))) [.val (nmD ns), .val t.toD, .val (.lst (cs.map .int))] ∧ (∀ u ∈ ts, u.nmIn ns ∧ u.depth ≤ 13) ∧ ts.length = cs.length
theorem others_ok {ft : Fn} (ht : TreeCK ft) : OthersK (bodyF 6 3 3 (b_others_by_aa56 ft)) := fun ns t cs hn h1 h2 hc => by
  obtain ⟨ρ', e1, ts, y4, y5, rfl, h3, h4⟩ := forGo_nxt (ft := ftOne 4) (fb := b_others_by_aa56_l1 ft) (cs.map .int) (fun i ρ => ∃ (ts : List T) (y4 y5 : Sl), ρ = [.val (nmD ns), .val t.toD, .val (.lst (cs.map .int)), .own (.lst (ts.map T.toD)), y4, y5] ∧ (∀ u ∈ ts, u.nmIn ns ∧ u.depth ≤ 13) ∧ ts.length = i)
    [.val (nmD ns), .val t.toD, .val (.lst (cs.map .int)), .own (.lst []), .emp, .emp] ⟨[], _, _, rfl, by simp, rfl⟩ (fun i d ρ hd ⟨ts, y4, y5, e, g1, g2⟩ => by
    subst e
    have hi : i < cs.length := by have := (List.getElem?_eq_some_iff.mp hd).1; simpa using this
    simp [hi] at hd
    subst hd
    obtain ⟨u, e1, n1, d1⟩ := ht ns (cs[i] / 4) 3 hn (by decide)
    have e1' : ft [Sl.val (nmD ns), Sl.val (D.int (cs[i] / 4)), Sl.val (D.int 3)] = RF.ok (Sl.val u.toD) [Sl.val (nmD ns), Sl.val (D.int (cs[i] / 4)), Sl.val (D.int 3)] := e1
    simp only [nmD] at e1'
    have fin : ∀ (u : T), u.nmIn ns → u.depth ≤ 13 → ∃ ts' : List T, ts.map T.toD ++ [u.toD] = ts'.map T.toD ∧ (∀ u ∈ ts', u.nmIn ns ∧ u.depth ≤ 13) ∧ ts'.length = i + 1 := fun u a b => by
      refine ⟨ts ++ [u], by simp, fun v hv => ?_, by simp [g2]⟩
      rcases List.mem_append.mp hv with hv | hv
      · exact g1 v hv
      · rw [List.mem_singleton.mp hv]; exact ⟨a, b⟩
    refine ⟨_, rfl, ?_⟩
    by_cases h4 : cs[i] % 4 = 0
    · have f1 := fin (.bin .or t u) ⟨h1, n1⟩ (by simp only [T.depth]; omega)
      simp only [T.toD, K4.code] at f1
      simp (disch := first | assumption | omega | (simp only [List.length_append, List.length_cons, List.length_nil, List.length_map, List.length_reverse, List.length_replicate, List.length_range, List.length_take, List.length_drop, enD_length, rangeD_length]; omega) | (simp; done) | fail) [decide_eq_true, decide_eq_false, kAsg, kNx, b_others_by_aa56_l1, nmD, e1', h4]
      exact f1
    · by_cases h5 : cs[i] % 4 = 1
      · have f1 := fin (.bin .th t u) ⟨h1, n1⟩ (by simp only [T.depth]; omega)
        simp only [T.toD, K4.code] at f1
        simp (disch := first | assumption | omega | (simp only [List.length_append, List.length_cons, List.length_nil, List.length_map, List.length_reverse, List.length_replicate, List.length_range, List.length_take, List.length_drop, enD_length, rangeD_length]; omega) | (simp; done) | fail) [decide_eq_true, decide_eq_false, kAsg, kNx, b_others_by_aa56_l1, nmD, e1', h4, h5]
        exact f1
      · simp (disch := first | assumption | omega | (simp only [List.length_append, List.length_cons, List.length_nil, List.length_map, List.length_reverse, List.length_replicate, List.length_range, List.length_take, List.length_drop, enD_length, rangeD_length]; omega) | (simp; done) | fail) [decide_eq_true, decide_eq_false, kAsg, kNx, b_others_by_aa56_l1, nmD, e1', h4, h5]
        exact fin u n1 (by omega))
  rw [List.length_map] at h4
  refine ⟨ts, ?_, h3, h4⟩
  simp only [nmD] at e1
  simp (disch := first | assumption | omega | (simp only [List.length_append, List.length_cons, List.length_nil, List.length_map, List.length_reverse, List.length_replicate, List.length_range, List.length_take, List.length_drop, enD_length, rangeD_length]; omega) | (simp; done) | fail) [decide_eq_true, decide_eq_false, kAsg, kNx, b_others_by_aa56, nmD, e1]
end PL

set_option Elab.async false
set_option linter.all false
set_option maxRecDepth 100000
set_option maxHeartbeats 1000000
set_option exponentiation.threshold 20000
/-! LC3: both sides of a turned mind -/
namespace PL
set_option autoImplicit false
open PySem L2 PyProof.Rows
/-- a row of ranks moved by c where q is -/
theorem least_shift {q : Nat → Bool} {old now : List Int} {c m : Int} (hl : now.length = old.length) (h : ∀ w, w < old.length → q w = true → now.getD w 0 = old.getD w 0 + c) (hm : leastO q old = some m) : leastO q now = some (m + c) := by
  obtain ⟨⟨w, h1, h2, h3⟩, h4⟩ := least_some hm
  refine least_eq ⟨w, by omega, h2, by rw [h w h1 h2, h3]⟩ fun v hv hq => ?_
  have := h4 v (by omega) hq
  rw [h v (by omega) hq]
  omega
theorem turnL_ev {ns : List (List Nat)} {t : T} {lean : Int} {rs : List Int} {a b : Int} (ha : leastO (t.ev ns) rs = some a) (hb : leastO (t.nv ns) rs = some b) {w : Nat} (hw : w < rs.length) :
    (turnL ns t lean rs).getD w 0 = rs.getD w 0 + if t.ev ns w = true then mx0 (-lean) - a else mx0 lean - b := by
  unfold turnL
  rw [mvL_at hw, ha, hb]
  rfl
theorem turnL_least {ns : List (List Nat)} {t : T} {lean : Int} {rs : List Int} (ho : openT ns t) (hr : okR ns rs) :
    leastO (t.ev ns) (turnL ns t lean rs) = some (mx0 (-lean)) ∧ leastO (t.nv ns) (turnL ns t lean rs) = some (mx0 lean) := by
  obtain ⟨a, b, ha, hb⟩ := open_least ho hr
  constructor
  · have := least_shift (now := turnL ns t lean rs) (c := mx0 (-lean) - a) (turnL_len ..) (fun w hw hq => by rw [turnL_ev ha hb hw, if_pos hq]) ha
    rw [this]; congr 1; omega
  · have := least_shift (now := turnL ns t lean rs) (c := mx0 lean - b) (turnL_len ..) (fun w hw hq => by
      have hq' : ¬ t.ev ns w = true := by unfold T.nv at hq; cases e : t.ev ns w <;> simp_all
      rw [turnL_ev ha hb hw, if_neg hq']) hb
    rw [this]; congr 1; omega
theorem mx0_nn (x : Int) : 0 ≤ mx0 x := by unfold mx0; split <;> omega
theorem nv_of {ns : List (List Nat)} {t : T} {w : Nat} : t.nv ns w = true ↔ ¬ t.ev ns w = true := by unfold T.nv; cases t.ev ns w <;> simp
theorem turnL_nn {ns : List (List Nat)} {t : T} {lean : Int} {rs : List Int} (ho : openT ns t) (hr : okR ns rs) : ∀ w, w < W2 ns → 0 ≤ (turnL ns t lean rs).getD w 0 := fun w hw => by
  have hw' : w < rs.length := by rw [hr]; exact hw
  obtain ⟨a, b, ha, hb⟩ := open_least ho hr
  have h1 := (least_some ha).2 w hw'
  have h2 := (least_some hb).2 w hw'
  rw [turnL_ev ha hb hw']
  have m1 := mx0_nn lean
  have m2 := mx0_nn (-lean)
  split
  next e => have := h1 e; omega
  next e => have := h2 (nv_of.mpr e); omega
theorem turnL_R {ns : List (List Nat)} {t : T} {lean : Int} {rs : List Int} (hr : okR ns rs) : okR ns (turnL ns t lean rs) := (turnL_len ..).trans hr
/-- side(old, now, truth, due) where all moved alike -/
def SideK (f : Fn) : Prop := ∀ (p : Nat → Bool) (old now : List Int) (c due : Int), old.length ≤ 1000 → now.length = old.length → (∀ w, w < old.length → p w = true → now.getD w 0 = old.getD w 0 + c) → leastO p now = some due →
  f [.val (.tup (old.map .int)), .val (.tup (now.map .int)), .val (tabD p old.length), .val (.int due)] = .ok (.val (.bl true)) [.val (.tup (old.map .int)), .val (.tup (now.map .int)), .val (tabD p old.length), .val (.int due)]
theorem side_ok {fl : Fn} (hl : LeastK fl) : SideK (bodyF 6 4 4 (b_side_65e0 fl)) := fun p old now c due h1 h2 h3 h4 => by
  have g := hl p now (by omega)
  rw [h2, h4] at g
  simp only [optD] at g
  obtain ⟨ρ', e1, y5, x4, rfl, hx⟩ := forGo_nxt (ft := ftOne 5) (fb := b_side_65e0_l1 fl) (rangeD 0 (old.length : Nat)) (fun i ρ => ∃ y5 x4, ρ = [.val (.tup (old.map .int)), .val (.tup (now.map .int)), .val (tabD p old.length), .val (.int due), .val x4, y5] ∧ (x4 = .non ∨ ∃ j : Nat, x4 = .int j ∧ j < old.length ∧ p j = true))
    [.val (.tup (old.map .int)), .val (.tup (now.map .int)), .val (tabD p old.length), .val (.int due), .val .non, .emp] ⟨_, _, rfl, .inl rfl⟩ (fun i d ρ hd ⟨y5, x4, e, hx⟩ => by
    subst e
    obtain ⟨hi, rfl⟩ := rangeD_get hd
    have ao : ∀ j, j < old.length → L2.atI (old.map D.int) (j : Int) = some (.int (old.getD j 0)) := fun j hj => by rw [atI_of _ j (by simpa using hj), List.getD_eq_getElem?_getD, List.getElem?_eq_getElem hj]; simp
    have an : ∀ j, j < old.length → L2.atI (now.map D.int) (j : Int) = some (.int (now.getD j 0)) := fun j hj => by rw [atI_of _ j (by simpa [h2] using hj), List.getD_eq_getElem?_getD, List.getElem?_eq_getElem (by omega)]; simp
    have hb := bit_at p old.length i hi
    have a1 := ao i hi
    have a2 := an i hi
    refine ⟨_, rfl, ?_⟩
    unfold tabD
    cases hp : p i with
    | false =>
      rw [hp] at hb
      simp only [Bool.false_eq_true, if_false] at hb
      simp (disch := first | assumption | omega | (simp only [List.length_append, List.length_cons, List.length_nil, List.length_map, List.length_reverse, List.length_replicate, List.length_range, List.length_take, List.length_drop, enD_length, rangeD_length]; omega) | (simp; done) | fail) [decide_eq_true, decide_eq_false, kAsg, kNx, b_side_65e0_l1, hb]
      exact ⟨_, _, ⟨rfl, rfl⟩, hx⟩
    | true =>
      rw [hp] at hb
      simp only [if_true] at hb
      have m1 := h3 i hi hp
      generalize now.getD i 0 = n1 at *
      generalize old.getD i 0 = o1 at *
      rcases hx with rfl | ⟨j, rfl, hj, hpj⟩
      · simp (disch := first | assumption | omega | (simp only [List.length_append, List.length_cons, List.length_nil, List.length_map, List.length_reverse, List.length_replicate, List.length_range, List.length_take, List.length_drop, enD_length, rangeD_length]; omega) | (simp; done) | fail) [decide_eq_true, decide_eq_false, kAsg, kNx, b_side_65e0_l1, hb, a1, a2]
        exact ⟨_, _, ⟨rfl, rfl⟩, .inr ⟨i, rfl, hi, hp⟩⟩
      · have b1 := ao j hj
        have b2 := an j hj
        have m2 := h3 j hj hpj
        generalize now.getD j 0 = n2 at *
        generalize old.getD j 0 = o2 at *
        have e : n1 - n2 = o1 - o2 := by omega
        simp (disch := first | assumption | omega | (simp only [List.length_append, List.length_cons, List.length_nil, List.length_map, List.length_reverse, List.length_replicate, List.length_range, List.length_take, List.length_drop, enD_length, rangeD_length]; omega) | (simp; done) | fail) [decide_eq_true, decide_eq_false, kAsg, kNx, b_side_65e0_l1, hb, a1, a2, b1, b2, e]
        exact ⟨_, _, ⟨rfl, rfl⟩, .inr ⟨j, rfl, hj, hpj⟩⟩)
  unfold tabD at e1 g ⊢
  simp (disch := first | assumption | omega | (simp only [List.length_append, List.length_cons, List.length_nil, List.length_map, List.length_reverse, List.length_replicate, List.length_range, List.length_take, List.length_drop, enD_length, rangeD_length]; omega) | (simp; done) | fail) [decide_eq_true, decide_eq_false, kAsg, kNx, b_side_65e0, e1, g]
def SidesK (f : Fn) : Prop := ∀ (ns : List (List Nat)) (rs : List Int) (t : T) (lean : Int), okN ns → okR ns rs → okT ns t → openT ns t →
  f [.val (mindD ns rs), .val (mindD ns (turnL ns t lean rs)), .val t.toD, .val (.int lean)] = .ok (.val (.bl true)) [.val (mindD ns rs), .val (mindD ns (turnL ns t lean rs)), .val t.toD, .val (.int lean)]
theorem sides_ok {ff ft fs : Fn} (hf : FormK ff) (ht : TabK ft) (hs : SideK fs) : SidesK (bodyF 8 4 4 (b_sides_c0c7 ff ft fs)) := fun ns rs t lean hn hr hT ho => by
  obtain ⟨a, b, ha, hb⟩ := open_least ho hr
  have h1 := hf ns (turnL ns t lean rs) hn (turnL_R hr) (turnL_nn ho hr)
  have h2 := ht ns t hn hT
  have h3 := tab_of_nt ns t
  have h256 := W2_256 hn
  have hrl : rs.length = W2 ns := hr
  have q1 : gShl (.int 1) (.int (ns.length : Nat)) = .ok (.int (W2 ns : Nat)) := gShl_p ns.length (by have := hn.2.1; omega)
  obtain ⟨q2, q3⟩ := tabD_full (W2 ns) (by omega)
  obtain ⟨l1, l2⟩ := turnL_least (lean := lean) ho hr
  have s1 := hs (t.ev ns) rs (turnL ns t lean rs) (mx0 (-lean) - a) (mx0 (-lean)) (by omega) (turnL_len ..) (fun w hw hq => by rw [turnL_ev ha hb hw, if_pos hq]) l1
  have s2 := hs (t.nv ns) rs (turnL ns t lean rs) (mx0 lean - b) (mx0 lean) (by omega) (turnL_len ..) (fun w hw hq => by rw [turnL_ev ha hb hw, if_neg (nv_of.mp hq)]) l2
  rw [hrl] at s1 s2
  have m1 := gMax2_0 lean
  have m2 := gMax2_0 (-lean)
  have e : ttD ns t = tabD (t.ev ns) (W2 ns) := rfl
  rw [e] at h2 h3
  simp only [mindD, nmD] at h1 h2
  generalize turnL ns t lean rs = now at *
  generalize tabD (fun _ => true) (W2 ns) = Q at *
  generalize tabD (t.ev ns) (W2 ns) = TT at *
  generalize tabD (t.nv ns) (W2 ns) = NV at *
  generalize hE : 2 ^ (W2 ns) = E at *
  generalize W2 ns = N at *
  generalize mx0 lean = X1 at *
  generalize mx0 (-lean) = X2 at *
  simp (disch := first | assumption | omega | (simp only [List.length_append, List.length_cons, List.length_nil, List.length_map, List.length_reverse, List.length_replicate, List.length_range, List.length_take, List.length_drop, enD_length, rangeD_length]; omega) | (simp; done) | fail) [decide_eq_true, decide_eq_false, kAsg, kNx, -gMax2_ii, b_sides_c0c7, mindD, nmD, h1, h2, q1, q2, q3, s1, s2, m1, m2, h3]
end PL

set_option Elab.async false
set_option linter.all false
set_option maxRecDepth 100000
set_option maxHeartbeats 1000000
set_option exponentiation.threshold 20000
/-! LC4: turning, twice and back -/
namespace PL
set_option autoImplicit false
open PySem L2 PyProof.Rows
theorem ext_D {a b : List Int} (hl : a.length = b.length) (h : ∀ w, w < a.length → a.getD w 0 = b.getD w 0) : a = b := by
  apply List.ext_getElem hl
  intro w h1 h2
  have := h w h1
  rw [List.getD_eq_getElem?_getD, List.getD_eq_getElem?_getD, List.getElem?_eq_getElem h1, List.getElem?_eq_getElem h2] at this
  exact this
theorem turn_mv {ns : List (List Nat)} {t : T} {rs now : List Int} {a b l : Int} (ho : openT ns t) (hr : okR ns rs) (hl : now.length = rs.length)
    (h : ∀ w, w < rs.length → now.getD w 0 = rs.getD w 0 + if t.ev ns w = true then a else b) : turnL ns t l now = turnL ns t l rs := by
  obtain ⟨x, y, hx, hy⟩ := open_least ho hr
  have hx' := least_shift (now := now) (c := a) hl (fun w hw hq => by rw [h w hw, if_pos hq]) hx
  have hy' := least_shift (now := now) (c := b) hl (fun w hw hq => by rw [h w hw, if_neg (nv_of.mp hq)]) hy
  refine ext_D (by rw [turnL_len, turnL_len, hl]) fun w hw => ?_
  rw [turnL_len] at hw
  rw [turnL_ev hx' hy' hw, turnL_ev hx hy (by omega), h w (by omega)]
  split <;> omega
theorem turn_turn {ns : List (List Nat)} {t : T} {rs now : List Int} {l : Int} (ho : openT ns t) (hr : okR ns rs) (h : now = rs ∨ ∃ l', now = turnL ns t l' rs) : turnL ns t l now = turnL ns t l rs := by
  rcases h with rfl | ⟨l', rfl⟩
  · rfl
  · obtain ⟨x, y, hx, hy⟩ := open_least ho hr
    exact turn_mv ho hr (turnL_len ..) fun w hw => turnL_ev hx hy hw
theorem open_nt {ns : List (List Nat)} {t : T} (h : openT ns t) : openT ns (.nt t) := by
  obtain ⟨⟨w, h1, h2⟩, w', h3, h4⟩ := h
  exact ⟨⟨w', h3, by show (!t.ev ns w') = true; rw [h4]; rfl⟩, w, h1, by show (!t.ev ns w) = false; rw [h2]; rfl⟩
theorem nt_ev (ns : List (List Nat)) (t : T) : (T.nt t).ev ns = t.nv ns := rfl
theorem nt_nv (ns : List (List Nat)) (t : T) : (T.nt t).nv ns = t.ev ns := by funext w; unfold T.nv; rw [nt_ev]; unfold T.nv; cases t.ev ns w <;> rfl
theorem turn_nt {ns : List (List Nat)} {t : T} {rs : List Int} {l : Int} (ho : openT ns t) (hr : okR ns rs) : turnL ns (.nt t) (-l) rs = turnL ns t l rs := by
  obtain ⟨x, y, hx, hy⟩ := open_least ho hr
  refine ext_D (by rw [turnL_len, turnL_len]) fun w hw => ?_
  rw [turnL_len] at hw
  rw [turnL_ev (t := .nt t) (by rw [nt_ev]; exact hy) (by rw [nt_nv]; exact hx) hw, turnL_ev hx hy hw, nt_ev, Int.neg_neg]
  by_cases e : t.ev ns w = true
  · rw [if_pos e, if_neg (by unfold T.nv; rw [e]; simp)]
  · rw [if_neg e, if_pos (nv_of.mpr e)]
theorem mx0_diff (l : Int) : mx0 l - mx0 (-l) = l := by unfold mx0; split <;> split <;> omega
/-- of a mind from nought up one side's least is nought -/
theorem low_side {ns : List (List Nat)} {t : T} {rs : List Int} {a b : Int} (hq : okQ ns rs) (ha : leastO (t.ev ns) rs = some a) (hb : leastO (t.nv ns) rs = some b) : 0 ≤ a ∧ 0 ≤ b ∧ (a = 0 ∨ b = 0) := by
  obtain ⟨hr, h0, w, hw, hz⟩ := hq
  have hr' : rs.length = W2 ns := hr
  obtain ⟨⟨u, u1, u2, u3⟩, u4⟩ := least_some ha
  obtain ⟨⟨v, v1, v2, v3⟩, v4⟩ := least_some hb
  have p1 := h0 u (by omega)
  have p2 := h0 v (by omega)
  refine ⟨by omega, by omega, ?_⟩
  by_cases e : t.ev ns w = true
  · have := u4 w (by omega) e; omega
  · have := v4 w (by omega) (nv_of.mpr e); omega
theorem turn_home {ns : List (List Nat)} {t : T} {rs : List Int} {a b : Int} (hq : okQ ns rs) (ha : leastO (t.ev ns) rs = some a) (hb : leastO (t.nv ns) rs = some b) : turnL ns t (b - a) rs = rs := by
  obtain ⟨h1, h2, h3⟩ := low_side hq ha hb
  refine ext_D (turnL_len ..) fun w hw => ?_
  rw [turnL_len] at hw
  rw [turnL_ev ha hb hw]
  have m1 : mx0 (-(b - a)) = a := by unfold mx0; split <;> omega
  have m2 : mx0 (b - a) = b := by unfold mx0; split <;> omega
  rw [m1, m2]
  split <;> omega
end PL

set_option Elab.async false
set_option linter.all false
set_option maxRecDepth 100000
set_option maxHeartbeats 1000000
set_option exponentiation.threshold 20000
/-! LD: what is held, by the worlds of rank nought -/
namespace PL
set_option autoImplicit false
open PySem L2 PyProof.Rows
theorem held_iff {ns : List (List Nat)} {t : T} {rs : List Int} (hr : okR ns rs) (h0 : ∀ w, w < W2 ns → 0 ≤ rs.getD w 0) :
    heldO (leastO (t.nv ns) rs) = true ↔ ∀ w, w < W2 ns → rs.getD w 0 = 0 → t.ev ns w = true := by
  have hr' : rs.length = W2 ns := hr
  cases e : leastO (t.nv ns) rs with
  | none =>
    have h := least_none.mp e
    simp only [heldO, true_iff]
    intro w hw _
    have := h w (by omega)
    unfold T.nv at this
    cases q : t.ev ns w <;> simp_all
  | some m =>
    obtain ⟨⟨u, h1, h2, h3⟩, h4⟩ := least_some e
    simp only [heldO, decide_eq_true_eq]
    constructor
    · intro hm w hw hz
      by_cases q : t.ev ns w = true
      · exact q
      · have := h4 w (by omega) (nv_of.mpr q); omega
    · intro h
      have p := h0 u (by omega)
      by_cases q : m = 0
      · exact absurd (h u (by omega) (by omega)) (nv_of.mp h2)
      · omega
theorem okQ.nn {ns : List (List Nat)} {rs : List Int} (h : okQ ns rs) : ∀ w, w < W2 ns → 0 ≤ rs.getD w 0 := h.2.1
theorem give_zero {ns : List (List Nat)} {t : T} {rs : List Int} {b : Int} (hq : okQ ns rs) (ho : openT ns t ∨ leastO (t.nv ns) rs = some 0) (hb : leastO (t.nv ns) rs = some b) :
    okQ ns (giveL ns t rs) ∧ ∀ w, w < W2 ns → ((giveL ns t rs).getD w 0 = 0 ↔ rs.getD w 0 = 0 ∨ (t.nv ns w = true ∧ rs.getD w 0 = b)) := by
  have hr' : rs.length = W2 ns := hq.1
  unfold giveL
  by_cases hz : b = 0
  · subst hz
    rw [hb, if_pos rfl]
    exact ⟨hq, fun w hw => ⟨.inl, fun h => h.elim id And.right⟩⟩
  · have ho' : openT ns t := ho.elim id fun e => by rw [hb] at e; exact absurd (Option.some.inj e) hz
    rw [hb, if_neg (fun e => hz (Option.some.inj e))]
    obtain ⟨a, b', ha, hb'⟩ := open_least ho' hq.1
    rw [hb] at hb'
    cases hb'
    obtain ⟨p1, p2, p3⟩ := low_side hq ha hb
    have ha0 : a = 0 := p3.elim id fun e => absurd e hz
    subst ha0
    have m0 : mx0 0 = 0 := rfl
    have hv : ∀ w, w < W2 ns → (turnL ns t 0 rs).getD w 0 = rs.getD w 0 + if t.ev ns w = true then 0 else -b := fun w hw => by
      rw [turnL_ev ha hb (by omega)]
      split <;> simp [m0]
    refine ⟨⟨turnL_R hq.1, turnL_nn ho' hq.1, ?_⟩, fun w hw => ?_⟩
    · obtain ⟨⟨u, u1, u2, u3⟩, _⟩ := least_some ha
      refine ⟨u, by omega, ?_⟩
      rw [hv u (by omega), if_pos u2, u3]; rfl
    · rw [hv w hw]
      by_cases e : t.ev ns w = true
      · rw [if_pos e]
        have : ¬ t.nv ns w = true := fun h => nv_of.mp h e
        constructor
        · intro h; left; omega
        · rintro (h | ⟨h, _⟩)
          · omega
          · exact absurd h this
      · rw [if_neg e]
        have hl := (least_some hb).2 w (by omega) (nv_of.mpr e)
        constructor
        · intro h; right; exact ⟨nv_of.mpr e, by omega⟩
        · rintro (h | ⟨_, h⟩) <;> omega
theorem optD_some (i : Int) : optD (some i) = .int i := rfl
theorem optD_none : optD none = .non := rfl
theorem okd_opt (o : Option Int) : Okd 1 (optD o) := by cases o; exact okd_non _; exact okd_int _ _
theorem gNe_opt (o : Option Int) : gNe (optD o) (optD o) = .ok false := gNe_refl (okd_opt o) (by decide)
theorem gEq_opt (o : Option Int) : gEq (optD o) (optD o) = .ok true := gEq_refl (okd_opt o) (by decide)
/-! ### k31 -/
def overO (b : Int) : Option Int → Bool
  | none => true
  | some m => decide (b < m)
theorem or_nv (ns : List (List Nat)) (t o : T) : (T.bin .or t o).nv ns = fun w => !(t.ev ns w || o.ev ns w) := rfl
theorem stays_law {ns : List (List Nat)} {t o : T} {rs : List Int} {b : Int} (hq : okQ ns rs) (ho : openT ns t) (hb : leastO (t.nv ns) rs = some b) (hm : heldO (leastO (o.nv ns) rs) = true) :
    heldO (leastO (o.nv ns) (giveL ns t rs)) = overO b (leastO ((T.bin .or t o).nv ns) rs) := by
  obtain ⟨g1, g2⟩ := give_zero hq (.inl ho) hb
  have hr' : rs.length = W2 ns := hq.1
  have z := (held_iff hq.1 hq.nn).mp hm
  have hiff : heldO (leastO (o.nv ns) (giveL ns t rs)) = true ↔ overO b (leastO ((T.bin .or t o).nv ns) rs) = true := by
    rw [held_iff g1.1 g1.nn]
    have hmin := (least_some hb).2
    constructor
    · intro h
      cases e : leastO ((T.bin .or t o).nv ns) rs with
      | none => rfl
      | some m =>
        obtain ⟨⟨u, u1, u2, u3⟩, _⟩ := least_some e
        rw [or_nv] at u2
        simp only [Bool.not_eq_true', Bool.or_eq_false_iff] at u2
        have u4 : t.nv ns u = true := by unfold T.nv; rw [u2.1]; rfl
        have u5 := hmin u u1 u4
        simp only [overO, decide_eq_true_eq]
        by_cases q : b = m
        · have := h u (by omega) ((g2 u (by omega)).mpr (.inr ⟨u4, by omega⟩))
          rw [u2.2] at this; cases this
        · omega
    · intro h w hw hz
      rcases (g2 w hw).mp hz with hz | ⟨hz1, hz2⟩
      · exact z w hw hz
      · by_cases q : o.ev ns w = true
        · exact q
        · exfalso
          have q' : o.ev ns w = false := by cases x : o.ev ns w <;> simp_all
          have n1 : t.ev ns w = false := by unfold T.nv at hz1; cases x : t.ev ns w <;> simp_all
          have n2 : (T.bin .or t o).nv ns w = true := by rw [or_nv]; simp [n1, q']
          obtain ⟨m, e⟩ := least_ex (rs := rs) (p := (T.bin .or t o).nv ns) (w := w) (by omega) n2
          rw [e] at h
          have := (least_some e).2 w (by omega) n2
          simp only [overO, decide_eq_true_eq] at h
          omega
  cases x : heldO (leastO (o.nv ns) (giveL ns t rs)) <;> cases y : overO b (leastO ((T.bin .or t o).nv ns) rs) <;> simp_all
def StaysK (f : Fn) : Prop := ∀ (ns : List (List Nat)) (rs : List Int) (t o : T), okN ns → okQ ns rs → okT ns t → okT ns o → t.depth ≤ 15 → o.depth ≤ 15 → openT ns t →
  f [.val (mindD ns rs), .val (mindD ns (giveL ns t rs)), .val t.toD, .val o.toD] = .ok (.val (.bl true)) [.val (mindD ns rs), .val (mindD ns (giveL ns t rs)), .val t.toD, .val o.toD]
theorem stays_ok {ft fl ff fh : Fn} (ht : TabK ft) (hl : LeastK fl) (hf : FirmK ff) (hh : HeldK fh) : StaysK (bodyF 11 4 4 (b_stays_1374 ft fl ff fh)) := fun ns rs t o hn hq hT hO d1 d2 ho => by
  have hr := hq.1
  obtain ⟨a, b, ha, hb⟩ := open_least ho hr
  have hTO : okT ns (.bin .or t o) := ⟨⟨hT.1, hO.1⟩, by simp only [T.depth]; omega⟩
  have h2 := ht ns t hn hT
  have h2o := ht ns o hn hO
  have q1 : gShl (.int 1) (.int (ns.length : Nat)) = .ok (.int (W2 ns : Nat)) := gShl_p ns.length (by have := hn.2.1; omega)
  obtain ⟨q2, q3⟩ := tabD_full (W2 ns) (by have h' := W2_256 hn; omega)
  have x1 : gXor (tabD (fun _ => true) (W2 ns)) (ttD ns t) = .ok (tabD (t.nv ns) (W2 ns)) := tab_of_nt ns t
  have x2 : gOr (ttD ns t) (ttD ns o) = .ok (ttD ns (.bin .or t o)) := gOr_tab (t.ev ns) (o.ev ns) (W2 ns)
  have x3 := tab_of_nt ns (.bin .or t o)
  have l1 := hl.at hn hr (t.nv ns)
  have l2 := hl.at hn hr ((T.bin .or t o).nv ns)
  have f1 := hf ns rs (.bin .or t o) hn hr hTO
  have f2 := hf ns rs t hn hr hT
  obtain ⟨g1, _⟩ := give_zero hq (.inl ho) hb
  have k1 := hh ns rs o hn hr hO
  have k2 := hh ns (giveL ns t rs) o hn g1.1 hO
  have law1 := stays_law (o := o) hq ho hb
  have law2 : b = 0 → heldO (leastO (o.nv ns) (giveL ns t rs)) = heldO (leastO (o.nv ns) rs) := fun e => by
    unfold giveL; rw [hb, e, if_pos rfl]
  rw [hb] at l1 f2
  have n1 := gNe_opt (leastO ((T.bin .or t o).nv ns) rs)
  simp only [T.toD, K4.code, optD_some, mindD, nmD] at h2 h2o f1 f2 l1 l2 k1 k2
  generalize giveL ns t rs = G at *
  generalize leastO ((T.bin .or t o).nv ns) rs = X at *
  generalize heldO (leastO (o.nv ns) rs) = HM at *
  generalize heldO (leastO (o.nv ns) G) = HA at *
  generalize tabD (fun _ => true) (W2 ns) = Q at *
  generalize ttD ns (.bin .or t o) = TO at *
  generalize ttD ns t = TT at *
  generalize ttD ns o = OO at *
  generalize tabD (t.nv ns) (W2 ns) = NV at *
  generalize tabD ((T.bin .or t o).nv ns) (W2 ns) = NW at *
  generalize hE : 2 ^ (W2 ns) = E at *
  generalize W2 ns = N at *
  by_cases hz : b = 0
  · have e := law2 hz
    subst hz
    subst e
    simp (disch := first | assumption | omega | (simp only [List.length_append, List.length_cons, List.length_nil, List.length_map, List.length_reverse, List.length_replicate, List.length_range, List.length_take, List.length_drop, enD_length, rangeD_length]; omega) | (simp; done) | fail) [decide_eq_true, decide_eq_false, kAsg, kNx, b_stays_1374, mindD, nmD, q1, q2, q3, h2, h2o, x1, x2, x3, l1, l2, f1, f2, k1, k2, n1]
  · cases HM with
    | false => simp (disch := first | assumption | omega | (simp only [List.length_append, List.length_cons, List.length_nil, List.length_map, List.length_reverse, List.length_replicate, List.length_range, List.length_take, List.length_drop, enD_length, rangeD_length]; omega) | (simp; done) | fail) [decide_eq_true, decide_eq_false, kAsg, kNx, b_stays_1374, mindD, nmD, q1, q2, q3, h2, h2o, x1, x2, x3, l1, l2, f1, f2, k1, k2, n1, hz]
    | true =>
      have e := law1 rfl
      subst e
      cases X with
      | none =>
        simp only [optD_some, optD_none] at f1 l2 n1
        simp only [overO] at k2
        simp (disch := first | assumption | omega | (simp only [List.length_append, List.length_cons, List.length_nil, List.length_map, List.length_reverse, List.length_replicate, List.length_range, List.length_take, List.length_drop, enD_length, rangeD_length]; omega) | (simp; done) | fail) [decide_eq_true, decide_eq_false, kAsg, kNx, b_stays_1374, mindD, nmD, q1, q2, q3, h2, h2o, x1, x2, x3, l1, l2, f1, f2, k1, k2, n1, hz]
      | some m =>
        simp only [optD_some, optD_none] at f1 l2 n1
        simp only [overO] at k2
        simp (disch := first | assumption | omega | (simp only [List.length_append, List.length_cons, List.length_nil, List.length_map, List.length_reverse, List.length_replicate, List.length_range, List.length_take, List.length_drop, enD_length, rangeD_length]; omega) | (simp; done) | fail) [decide_eq_true, decide_eq_false, kAsg, kNx, b_stays_1374, mindD, nmD, q1, q2, q3, h2, h2o, x1, x2, x3, l1, l2, f1, f2, k1, k2, n1, hz]
end PL

set_option Elab.async false
set_option linter.all false
set_option maxRecDepth 100000
set_option maxHeartbeats 1000000
set_option exponentiation.threshold 20000
/-! LE: given up together -/
namespace PL
set_option autoImplicit false
open PySem L2 PyProof.Rows
def HeldByK (f : Fn) : Prop := ∀ (ns : List (List Nat)) (rs : List Int) (c : Int), okN ns → okQ ns rs → ∃ t : T, f [.val (mindD ns rs), .val (nmD ns), .val (.int c)] = .ok (.val t.toD) [.val (mindD ns rs), .val (nmD ns), .val (.int c)] ∧ t.nmIn ns ∧ t.depth ≤ 6 ∧ openT ns t
theorem heldBy_ok {fo fh : Fn} (hp : OpenK fo) (hh : HeldK fh) : HeldByK (bodyF 4 3 3 (b_held_by_6cf5 fo fh)) := fun ns rs c hn hq => by
  obtain ⟨t, e, t1, t2, ho⟩ := hp ns (c / 2) hn
  have k1 := hh ns rs t hn hq.1 ⟨t1, by omega⟩
  have k2 := hh ns rs (.nt t) hn hq.1 ⟨t1, by simp only [T.depth]; omega⟩
  simp only [T.toD] at k2
  generalize heldO (leastO (t.nv ns) rs) = x at *
  generalize heldO (leastO ((T.nt t).nv ns) rs) = y at *
  by_cases hc : c % 2 = 1
  · cases x with
    | true => exact ⟨t, by simp (disch := first | assumption | omega | (simp only [List.length_append, List.length_cons, List.length_nil, List.length_map, List.length_reverse, List.length_replicate, List.length_range, List.length_take, List.length_drop, enD_length, rangeD_length]; omega) | (simp; done) | fail) [decide_eq_true, decide_eq_false, kAsg, kNx, b_held_by_6cf5, e, hc, k1, k2], t1, by omega, ho⟩
    | false =>
      cases y with
      | false => exact ⟨t, by simp (disch := first | assumption | omega | (simp only [List.length_append, List.length_cons, List.length_nil, List.length_map, List.length_reverse, List.length_replicate, List.length_range, List.length_take, List.length_drop, enD_length, rangeD_length]; omega) | (simp; done) | fail) [decide_eq_true, decide_eq_false, kAsg, kNx, b_held_by_6cf5, e, hc, k1, k2], t1, by omega, ho⟩
      | true => exact ⟨.nt t, by simp (disch := first | assumption | omega | (simp only [List.length_append, List.length_cons, List.length_nil, List.length_map, List.length_reverse, List.length_replicate, List.length_range, List.length_take, List.length_drop, enD_length, rangeD_length]; omega) | (simp; done) | fail) [decide_eq_true, decide_eq_false, kAsg, kNx, b_held_by_6cf5, e, hc, k1, k2, T.toD], t1, by simp only [T.depth]; omega, open_nt ho⟩
  · exact ⟨t, by simp (disch := first | assumption | omega | (simp only [List.length_append, List.length_cons, List.length_nil, List.length_map, List.length_reverse, List.length_replicate, List.length_range, List.length_take, List.length_drop, enD_length, rangeD_length]; omega) | (simp; done) | fail) [decide_eq_true, decide_eq_false, kAsg, kNx, b_held_by_6cf5, e, hc, k1, k2], t1, by omega, ho⟩
def TogetherK (f : Fn) : Prop := ∀ (ns : List (List Nat)) (A B C : List Int) (one two o : T), okN ns → okR ns A → okR ns B → okR ns C → okT ns one → okT ns two → okT ns o →
  (heldO (leastO (o.nv ns) A) = true → heldO (leastO (o.nv ns) B) = true → heldO (leastO (o.nv ns) C) = true) →
  (heldO (leastO (one.nv ns) C) = false → heldO (leastO (o.nv ns) C) = true → heldO (leastO (o.nv ns) A) = true) →
  (heldO (leastO (two.nv ns) C) = false → heldO (leastO (o.nv ns) C) = true → heldO (leastO (o.nv ns) B) = true) →
  ∃ fin, f [.val (mindD ns A), .val (mindD ns B), .val (mindD ns C), .val one.toD, .val two.toD, .val o.toD] = .ok (.val (.bl true)) fin
theorem together_ok {fh : Fn} (hh : HeldK fh) : TogetherK (bodyF 6 6 6 (b_together_a2d0 fh)) := fun ns A B C one two o hn rA rB rC h1 h2 h3 p1 p2 p3 => by
  have k1 := hh ns A o hn rA h3
  have k2 := hh ns B o hn rB h3
  have k3 := hh ns C o hn rC h3
  have k4 := hh ns C one hn rC h1
  have k5 := hh ns C two hn rC h2
  generalize heldO (leastO (o.nv ns) A) = x1 at *
  generalize heldO (leastO (o.nv ns) B) = x2 at *
  generalize heldO (leastO (o.nv ns) C) = x3 at *
  generalize heldO (leastO (one.nv ns) C) = x4 at *
  generalize heldO (leastO (two.nv ns) C) = x5 at *
  cases x1 <;> cases x2 <;> cases x3 <;> cases x4 <;> cases x5 <;> first | exact absurd (p1 rfl rfl) (by decide) | exact absurd (p2 rfl rfl) (by decide) | exact absurd (p3 rfl rfl) (by decide) | exact ⟨_, by simp (disch := first | assumption | omega | (simp only [List.length_append, List.length_cons, List.length_nil, List.length_map, List.length_reverse, List.length_replicate, List.length_range, List.length_take, List.length_drop, enD_length, rangeD_length]; omega) | (simp; done) | fail) [decide_eq_true, decide_eq_false, kAsg, kNx, b_together_a2d0, k1, k2, k3, k4, k5]; rfl⟩
/-- a conjunction's breaking worlds -/
theorem an_nv (ns : List (List Nat)) (t o : T) : (T.bin .an t o).nv ns = fun w => !(t.ev ns w && o.ev ns w) := rfl
theorem an_nv' {ns : List (List Nat)} {t o : T} {w : Nat} : (T.bin .an t o).nv ns w = true ↔ t.nv ns w = true ∨ o.nv ns w = true := by
  show (!(t.ev ns w && o.ev ns w)) = true ↔ (!t.ev ns w) = true ∨ (!o.ev ns w) = true
  cases t.ev ns w <;> cases o.ev ns w <;> simp
structure Tog (ns : List (List Nat)) (rs : List Int) (one two : T) : Prop where
  q : okQ ns rs
  o1 : openT ns one
  o2 : openT ns two
theorem Tog.both {ns : List (List Nat)} {rs : List Int} {one two : T} (h : Tog ns rs one two) :
    ∃ b1 b2 b, leastO (one.nv ns) rs = some b1 ∧ leastO (two.nv ns) rs = some b2 ∧ leastO ((T.bin .an one two).nv ns) rs = some b ∧ (openT ns (.bin .an one two) ∨ leastO ((T.bin .an one two).nv ns) rs = some 0) := by
  have hr' : rs.length = W2 ns := h.q.1
  obtain ⟨a1, b1, _, hb1⟩ := open_least h.o1 h.q.1
  obtain ⟨a2, b2, _, hb2⟩ := open_least h.o2 h.q.1
  obtain ⟨⟨u, u1, u2, u3⟩, _⟩ := least_some hb1
  obtain ⟨b, hb⟩ := least_ex (rs := rs) (p := (T.bin .an one two).nv ns) (w := u) u1 (an_nv'.mpr (.inl u2))
  refine ⟨b1, b2, b, hb1, hb2, hb, ?_⟩
  by_cases ho : openT ns (.bin .an one two)
  · exact .inl ho
  · right
    rcases not_open ho with h1 | h1
    · obtain ⟨w, hw, hz⟩ := h.q.2.2
      refine least_eq ⟨w, by omega, nv_of.mpr (by rw [h1 w hw]; simp), hz⟩ fun v hv _ => ?_
      exact h.q.nn v (by omega)
    · exact absurd (h1 u (by omega)) (nv_of.mp (an_nv'.mpr (.inl u2)))
theorem tog_law {ns : List (List Nat)} {rs : List Int} {one two : T} (h : Tog ns rs one two) :
    okQ ns (giveL ns one rs) ∧ okQ ns (giveL ns two rs) ∧ okQ ns (giveL ns (.bin .an one two) rs) ∧
    (∀ o : T, heldO (leastO (o.nv ns) (giveL ns one rs)) = true → heldO (leastO (o.nv ns) (giveL ns two rs)) = true → heldO (leastO (o.nv ns) (giveL ns (.bin .an one two) rs)) = true) ∧
    (∀ o : T, heldO (leastO (one.nv ns) (giveL ns (.bin .an one two) rs)) = false → heldO (leastO (o.nv ns) (giveL ns (.bin .an one two) rs)) = true → heldO (leastO (o.nv ns) (giveL ns one rs)) = true) ∧
    (∀ o : T, heldO (leastO (two.nv ns) (giveL ns (.bin .an one two) rs)) = false → heldO (leastO (o.nv ns) (giveL ns (.bin .an one two) rs)) = true → heldO (leastO (o.nv ns) (giveL ns two rs)) = true) ∧
    ¬ (heldO (leastO (one.nv ns) (giveL ns (.bin .an one two) rs)) = true ∧ heldO (leastO (two.nv ns) (giveL ns (.bin .an one two) rs)) = true) := by
  obtain ⟨b1, b2, b, hb1, hb2, hb, hob⟩ := h.both
  have hr' : rs.length = W2 ns := h.q.1
  obtain ⟨q1, z1⟩ := give_zero h.q (.inl h.o1) hb1
  obtain ⟨q2, z2⟩ := give_zero h.q (.inl h.o2) hb2
  obtain ⟨q3, z3⟩ := give_zero h.q hob hb
  obtain ⟨⟨u1, u11, u12, u13⟩, m1⟩ := least_some hb1
  obtain ⟨⟨u2, u21, u22, u23⟩, m2⟩ := least_some hb2
  obtain ⟨⟨u, u01, u02, u03⟩, m⟩ := least_some hb
  have le1 : b ≤ b1 := by have := m u1 u11 (an_nv'.mpr (.inl u12)); omega
  have le2 : b ≤ b2 := by have := m u2 u21 (an_nv'.mpr (.inr u22)); omega
  refine ⟨q1, q2, q3, fun o h1 h2 => ?_, fun o h1 h2 => ?_, fun o h1 h2 => ?_, fun ⟨h1, h2⟩ => ?_⟩
  · rw [held_iff q1.1 q1.nn] at h1
    rw [held_iff q2.1 q2.nn] at h2
    rw [held_iff q3.1 q3.nn]
    intro w hw hz
    rcases (z3 w hw).mp hz with e | ⟨e1, e2⟩
    · exact h1 w hw ((z1 w hw).mpr (.inl e))
    · rcases an_nv'.mp e1 with e | e
      · have := m1 w (by omega) e
        exact h1 w hw ((z1 w hw).mpr (.inr ⟨e, by omega⟩))
      · have := m2 w (by omega) e
        exact h2 w hw ((z2 w hw).mpr (.inr ⟨e, by omega⟩))
  · rw [held_iff q3.1 q3.nn] at h2
    rw [held_iff q1.1 q1.nn]
    have h1' : ¬ ∀ w, w < W2 ns → (giveL ns (.bin .an one two) rs).getD w 0 = 0 → one.ev ns w = true := fun hh => by
      rw [(held_iff q3.1 q3.nn).mpr hh] at h1; cases h1
    intro w hw hz
    rcases (z1 w hw).mp hz with e | ⟨e1, e2⟩
    · exact h2 w hw ((z3 w hw).mpr (.inl e))
    · refine h2 w hw ((z3 w hw).mpr ?_)
      by_cases hb' : b1 = b
      · exact .inr ⟨an_nv'.mpr (.inl e1), by omega⟩
      · exfalso
        refine h1' fun v hv hvz => ?_
        by_cases q : one.ev ns v = true
        · exact q
        · have n1 := nv_of.mpr q
          have := m1 v (by omega) n1
          have nn := h.q.nn v hv
          rcases (z3 v hv).mp hvz with e | ⟨_, e⟩
          · have h0 := h.q.nn u (by omega)
            omega
          · omega
  · rw [held_iff q3.1 q3.nn] at h2
    rw [held_iff q2.1 q2.nn]
    have h1' : ¬ ∀ w, w < W2 ns → (giveL ns (.bin .an one two) rs).getD w 0 = 0 → two.ev ns w = true := fun hh => by
      rw [(held_iff q3.1 q3.nn).mpr hh] at h1; cases h1
    intro w hw hz
    rcases (z2 w hw).mp hz with e | ⟨e1, e2⟩
    · exact h2 w hw ((z3 w hw).mpr (.inl e))
    · refine h2 w hw ((z3 w hw).mpr ?_)
      by_cases hb' : b2 = b
      · exact .inr ⟨an_nv'.mpr (.inr e1), by omega⟩
      · exfalso
        refine h1' fun v hv hvz => ?_
        by_cases q : two.ev ns v = true
        · exact q
        · have n1 := nv_of.mpr q
          have := m2 v (by omega) n1
          have nn := h.q.nn v hv
          rcases (z3 v hv).mp hvz with e | ⟨_, e⟩
          · have h0 := h.q.nn u (by omega)
            omega
          · omega
  · rw [held_iff q3.1 q3.nn] at h1 h2
    have e := (z3 u (by omega)).mpr (.inr ⟨u02, u03⟩)
    rcases an_nv'.mp u02 with q | q
    · exact nv_of.mp q (h1 u (by omega) e)
    · exact nv_of.mp q (h2 u (by omega) e)
end PL

set_option Elab.async false
set_option linter.all false
set_option maxRecDepth 100000
set_option maxHeartbeats 1000000
set_option exponentiation.threshold 20000
/-! LB: the other laws' truth tables, trees, least ranks -/
namespace PL
set_option autoImplicit false
open PySem L2 PyProof.Rows
theorem namesB_nodup (c : Int) (m : Nat) (hm : m ≤ 8) : (namesB c m).Nodup := by
  unfold namesB
  dsimp only
  split
  · refine nodup_range _ _ fun i j h hj e => ?_
    have e2 := congrArg List.length e
    simp only [List.length_replicate] at e2
    omega
  · refine nodup_range _ _ fun i j h hj e => ?_
    have e2 := List.append_cancel_left e
    simp only [List.cons.injEq] at e2
    have := e2.1
    unfold letter at this
    omega
theorem namesB_N {c : Int} {m : Nat} (h1 : 1 ≤ m) (h8 : m ≤ 8) : okN (namesB c m) := ⟨namesB_nodup c m h8, by rw [namesB_len]; exact h8, by rw [namesB_len]; exact h1, namesB_nm c m⟩
theorem namesA_N {c : Int} {m : Nat} (h1 : 1 ≤ m) (h8 : m ≤ 8) : okN (namesA c m) := ⟨namesA_nodup c m h8, by rw [namesA_len]; exact h8, by rw [namesA_len]; exact h1, namesA_ok c m⟩
theorem colB_loop (n k : Nat) (hn : n ≤ 8) : ∀ (d j fuel : Nat), j + d = n → k < j → d < fuel →
    whileS (e2 (gCmp pLt) (eVar 3) (e2 gShl (eC (.int (1))) (eVar 0))) b_column_9b2c_l1 fuel [.val (.int (n : Nat)), .val (.int (k : Nat)), .val (tabD (colP k) (2 ^ j)), .val (.int ((2 ^ j : Nat) : Int))] =
      .nx [.val (.int (n : Nat)), .val (.int (k : Nat)), .val (tabD (colP k) (2 ^ n)), .val (.int ((2 ^ n : Nat) : Int))]
  | 0, j, fuel + 1, h1, h2, h3 => by
    have e : j = n := by omega
    subst e
    refine while_stop _ ?_
    have hs := gShl_p j (by omega)
    generalize 2 ^ j = N at *
    simp (disch := first | assumption | omega | (simp only [List.length_append, List.length_cons, List.length_nil, List.length_map, List.length_reverse, List.length_replicate, List.length_range, List.length_take, List.length_drop, enD_length, rangeD_length]; omega) | (simp; done) | fail) [decide_eq_true, decide_eq_false, kAsg, kNx, hs]
  | d + 1, j, fuel + 1, h1, h2, h3 => by
    have ih := colB_loop n k hn d (j + 1) fuel (by omega) (by omega) (by omega)
    have hj : 2 ^ j < 2 ^ n := Nat.pow_lt_pow_right (by decide) (by omega)
    have hj2 := pow_small (n := j) (by omega)
    have hs := gShl_p n (by omega)
    have hs2 := gShl_nat (tabOf (colP k) (2 ^ j)) (2 ^ j) (tab_big hj2) (by omega)
    have ho := bor_nat (tabOf (colP k) (2 ^ j)) (tabOf (colP k) (2 ^ j) * 2 ^ 2 ^ j)
    rw [col_step k j h2] at ho
    have hm : (2 : Int) * ((2 ^ j : Nat) : Int) = ((2 ^ (j + 1) : Nat) : Int) := by rw [Nat.pow_succ]; omega
    unfold tabD at ih ⊢
    generalize tabOf (colP k) (2 ^ j) * 2 ^ 2 ^ j = G at *
    generalize tabOf (colP k) (2 ^ j) = A at *
    generalize tabOf (colP k) (2 ^ (j + 1)) = B at *
    generalize 2 ^ (j + 1) = J1 at *
    generalize 2 ^ j = J at *
    rw [while_go (ρ' := [.val (.int (n : Nat)), .val (.int (k : Nat)), .val (.int (B : Nat)), .val (.int (J1 : Nat))]) fuel ?_ ?_]
    · exact ih
    · generalize 2 ^ n = N at *
      simp (disch := first | assumption | omega | (simp only [List.length_append, List.length_cons, List.length_nil, List.length_map, List.length_reverse, List.length_replicate, List.length_range, List.length_take, List.length_drop, enD_length, rangeD_length]; omega) | (simp; done) | fail) [decide_eq_true, decide_eq_false, kAsg, kNx, hs, hj]
    · simp (disch := first | assumption | omega | (simp only [List.length_append, List.length_cons, List.length_nil, List.length_map, List.length_reverse, List.length_replicate, List.length_range, List.length_take, List.length_drop, enD_length, rangeD_length]; omega) | (simp; done) | fail) [decide_eq_true, decide_eq_false, kAsg, kNx, b_column_9b2c_l1, hs2, ho, hm]
theorem colL_ok : ColOk (bodyF 4 2 2 b_column_9b2c) := fun n k hn hk => by
  have hl := colB_loop n k hn (n - (k + 1)) (k + 1) 1000000 (by omega) (by omega) (by omega)
  have hk2 := pow_small (n := k) (by omega)
  have hs1 := gShl_p k (by omega)
  have hs2 := gShl_p (2 ^ k) (by omega)
  have hpos : 0 < 2 ^ 2 ^ k := Nat.pow_pos (by decide)
  have hlt := pow_big (n := 2 ^ k) (by omega)
  have hs3 := gShl_nat (2 ^ 2 ^ k - 1) (2 ^ k) (by omega) (by omega)
  rw [col_start] at hs3
  have hsub : ((2 ^ 2 ^ k : Nat) : Int) - 1 = ((2 ^ 2 ^ k - 1 : Nat) : Int) := by omega
  have hs4 : gShl (.int 2) (.int (k : Nat)) = .ok (.int ((2 ^ (k + 1) : Nat) : Int)) := by
    have h := gShl_nat 2 k (by rw [show (2 : Nat) = 2 ^ 1 from rfl]; exact Nat.pow_lt_pow_right (by decide) (by decide)) (by omega)
    have e : 2 * 2 ^ k = 2 ^ (k + 1) := by rw [Nat.pow_succ]; omega
    rw [e] at h
    exact h
  unfold tabD at hl ⊢
  generalize tabOf (colP k) (2 ^ (k + 1)) = B at *
  generalize tabOf (colP k) (2 ^ n) = C at *
  generalize 2 ^ 2 ^ k - 1 = E at *
  generalize 2 ^ 2 ^ k = EE at *
  generalize 2 ^ (k + 1) = J1 at *
  generalize 2 ^ k = J at *
  generalize 2 ^ n = N at *
  simp (disch := first | assumption | omega | (simp only [List.length_append, List.length_cons, List.length_nil, List.length_map, List.length_reverse, List.length_replicate, List.length_range, List.length_take, List.length_drop, enD_length, rangeD_length]; omega) | (simp; done) | fail) [decide_eq_true, decide_eq_false, kAsg, kNx, b_column_9b2c, hs1, hs2, hs3, hs4, hsub, hl]
theorem ltable_ok {n : Nat} {fc ft : Fn} (hc : ColOk fc) (ht : TabWOk n ft) : TabWOk (n + 1) (bodyF 5 2 2 (b_table_c67c fc ft)) := fun ns t h8 hin hd => by
  have q1 : gShl (.int 1) (.int (ns.length : Nat)) = .ok (.int (W2 ns : Nat)) := gShl_p ns.length (by omega)
  obtain ⟨q2, q3⟩ := tabD_full (W2 ns) (by have h' : W2 ns ≤ 256 := W2_le h8; omega)
  generalize hE : 2 ^ (W2 ns) = E at *
  cases t with
  | nm x =>
    obtain ⟨j, j1, j2, j3⟩ := nm_pos hin
    have hcol : fc _ = .ok (.val (tabD (colP j) (W2 ns))) _ := hc ns.length j h8 j2
    have e : (D.tup (ns.map .str)).nms = some ns := nms_map ns j3
    have hr : ttD ns (.nm x) = tabD (colP j) (W2 ns) := by unfold ttD; congr 1; funext w; simp only [T.ev, j1, Option.getD_some]
    rw [hr]
    generalize tabD (colP j) (W2 ns) = R at *
    generalize tabD (fun _ => true) (W2 ns) = Q at *
    generalize W2 ns = N at *
    simp (disch := first | assumption | omega | (simp only [List.length_append, List.length_cons, List.length_nil, List.length_map, List.length_reverse, List.length_replicate, List.length_range, List.length_take, List.length_drop, enD_length, rangeD_length]; omega) | (simp; done) | fail) [decide_eq_true, decide_eq_false, kAsg, kNx, b_table_c67c, nmD, T.toD, q1, q2, q3, hcol, e, j1]
  | yes =>
    have hr : ttD ns .yes = tabD (fun _ => true) (W2 ns) := rfl
    rw [hr]
    generalize tabD (fun _ => true) (W2 ns) = Q at *
    generalize W2 ns = N at *
    simp (disch := first | assumption | omega | (simp only [List.length_append, List.length_cons, List.length_nil, List.length_map, List.length_reverse, List.length_replicate, List.length_range, List.length_take, List.length_drop, enD_length, rangeD_length]; omega) | (simp; done) | fail) [decide_eq_true, decide_eq_false, kAsg, kNx, b_table_c67c, nmD, T.toD, q1, q2, q3]
  | no =>
    have hr : ttD ns .no = .int 0 := (tabD_zero (W2 ns)).symm
    rw [hr]
    generalize tabD (fun _ => true) (W2 ns) = Q at *
    generalize W2 ns = N at *
    simp (disch := first | assumption | omega | (simp only [List.length_append, List.length_cons, List.length_nil, List.length_map, List.length_reverse, List.length_replicate, List.length_range, List.length_take, List.length_drop, enD_length, rangeD_length]; omega) | (simp; done) | fail) [decide_eq_true, decide_eq_false, kAsg, kNx, b_table_c67c, nmD, T.toD, q1, q2, q3]
  | nt t =>
    simp only [T.depth] at hd
    have h1 := ht ns t h8 hin (by omega)
    have hx : gXor (tabD (fun _ => true) (W2 ns)) (ttD ns t) = .ok (ttD ns (.nt t)) := gNot_tab (t.ev ns) (W2 ns)
    simp only [nmD] at h1
    generalize tabD (fun _ => true) (W2 ns) = Q at *
    generalize ttD ns (.nt t) = A at *
    generalize ttD ns t = B at *
    generalize W2 ns = N at *
    simp (disch := first | assumption | omega | (simp only [List.length_append, List.length_cons, List.length_nil, List.length_map, List.length_reverse, List.length_replicate, List.length_range, List.length_take, List.length_drop, enD_length, rangeD_length]; omega) | (simp; done) | fail) [decide_eq_true, decide_eq_false, kAsg, kNx, b_table_c67c, nmD, T.toD, q1, q2, q3, h1, hx]
  | bin k s t =>
    simp only [T.depth] at hd
    have h1 := ht ns s h8 hin.1 (by omega)
    have h2 := ht ns t h8 hin.2 (by omega)
    simp only [nmD] at h1 h2
    have hx1 : gAnd (ttD ns s) (ttD ns t) = .ok (ttD ns (.bin .an s t)) := gAnd_tab (s.ev ns) (t.ev ns) (W2 ns)
    have hx2 : gOr (ttD ns s) (ttD ns t) = .ok (ttD ns (.bin .or s t)) := gOr_tab (s.ev ns) (t.ev ns) (W2 ns)
    have hx3 : gXor (tabD (fun _ => true) (W2 ns)) (ttD ns s) = .ok (ttD ns (.nt s)) := gNot_tab (s.ev ns) (W2 ns)
    have hx4 : gOr (ttD ns (.nt s)) (ttD ns t) = .ok (ttD ns (.bin .th s t)) := gOr_tab (fun w => !s.ev ns w) (t.ev ns) (W2 ns)
    have hx5 : gXor (ttD ns (.nt s)) (ttD ns t) = .ok (ttD ns (.bin .sm s t)) := gSame_tab (s.ev ns) (t.ev ns) (W2 ns)
    generalize tabD (fun _ => true) (W2 ns) = Q at *
    cases k with
    | an =>
      generalize ttD ns (.bin .an s t) = A at *
      generalize ttD ns s = B at *
      generalize ttD ns t = C at *
      generalize W2 ns = N at *
      simp (disch := first | assumption | omega | (simp only [List.length_append, List.length_cons, List.length_nil, List.length_map, List.length_reverse, List.length_replicate, List.length_range, List.length_take, List.length_drop, enD_length, rangeD_length]; omega) | (simp; done) | fail) [decide_eq_true, decide_eq_false, kAsg, kNx, b_table_c67c, nmD, T.toD, K4.code, q1, q2, q3, h1, h2, hx1]
    | or =>
      generalize ttD ns (.bin .or s t) = A at *
      generalize ttD ns s = B at *
      generalize ttD ns t = C at *
      generalize W2 ns = N at *
      simp (disch := first | assumption | omega | (simp only [List.length_append, List.length_cons, List.length_nil, List.length_map, List.length_reverse, List.length_replicate, List.length_range, List.length_take, List.length_drop, enD_length, rangeD_length]; omega) | (simp; done) | fail) [decide_eq_true, decide_eq_false, kAsg, kNx, b_table_c67c, nmD, T.toD, K4.code, q1, q2, q3, h1, h2, hx2]
    | th =>
      generalize ttD ns (.bin .th s t) = A at *
      generalize ttD ns (.nt s) = G at *
      generalize ttD ns s = B at *
      generalize ttD ns t = C at *
      generalize W2 ns = N at *
      simp (disch := first | assumption | omega | (simp only [List.length_append, List.length_cons, List.length_nil, List.length_map, List.length_reverse, List.length_replicate, List.length_range, List.length_take, List.length_drop, enD_length, rangeD_length]; omega) | (simp; done) | fail) [decide_eq_true, decide_eq_false, kAsg, kNx, b_table_c67c, nmD, T.toD, K4.code, q1, q2, q3, h1, h2, hx3, hx4]
    | sm =>
      generalize ttD ns (.bin .sm s t) = A at *
      generalize ttD ns (.nt s) = G at *
      generalize ttD ns s = B at *
      generalize ttD ns t = C at *
      generalize W2 ns = N at *
      simp (disch := first | assumption | omega | (simp only [List.length_append, List.length_cons, List.length_nil, List.length_map, List.length_reverse, List.length_replicate, List.length_range, List.length_take, List.length_drop, enD_length, rangeD_length]; omega) | (simp; done) | fail) [decide_eq_true, decide_eq_false, kAsg, kNx, b_table_c67c, nmD, T.toD, K4.code, q1, q2, q3, h1, h2, hx3, hx5]
theorem treeB_ok {d : Nat} {ft : Fn} (ht : ∀ (ns : List (List Nat)) (c : Int) (k : Nat), okN ns → k + 1 ≤ d → ∃ t : T, ft [.val (nmD ns), .val (.int c), .val (.int k)] = .ok (.val t.toD) [.val (nmD ns), .val (.int c), .val (.int k)] ∧ t.nmIn ns ∧ t.depth ≤ k + 1) : TreeCOk d (bodyF 8 3 3 (b_tree_by_6b1a ft)) := fun ns c k hn hk => by
  obtain ⟨m, hm⟩ : ∃ m, m = c % 2147483647 := ⟨_, rfl⟩
  obtain ⟨x, hx, ex⟩ := name_at hn (m / 9)
  have hpos : 0 < (ns.length : Int) := by have := hn.2.2.1; omega
  by_cases h1 : k = 0 ∨ m % 9 < 2
  · have leaf : ∀ (b : k = 0 ∨ (k ≠ 0 ∧ m % 9 < 2)), ∃ t : T, bodyF 8 3 3 (b_tree_by_6b1a ft) [.val (nmD ns), .val (.int c), .val (.int k)] = .ok (.val t.toD) [.val (nmD ns), .val (.int c), .val (.int k)] ∧ t.nmIn ns ∧ t.depth ≤ k + 1 := fun b => by
      by_cases h2 : m / 9 % 11 = 0
      · by_cases h3 : m / 9 / 11 % 2 = 0
        · refine ⟨.yes, ?_, trivial, by simp [T.depth]⟩
          rcases b with b | ⟨b, b2⟩
          · subst b; simp (disch := first | assumption | omega | (simp only [List.length_append, List.length_cons, List.length_nil, List.length_map, List.length_reverse, List.length_replicate, List.length_range, List.length_take, List.length_drop, enD_length, rangeD_length]; omega) | (simp; done) | fail) [decide_eq_true, decide_eq_false, kAsg, kNx, b_tree_by_6b1a, nmD, ← hm, h2, h3, T.toD]
          · have b' : ¬ (k : Int) = 0 := by omega
            simp (disch := first | assumption | omega | (simp only [List.length_append, List.length_cons, List.length_nil, List.length_map, List.length_reverse, List.length_replicate, List.length_range, List.length_take, List.length_drop, enD_length, rangeD_length]; omega) | (simp; done) | fail) [decide_eq_true, decide_eq_false, kAsg, kNx, b_tree_by_6b1a, nmD, ← hm, b, b', b2, h2, h3, T.toD]
        · have h3' : m / 9 / 11 % 2 = 1 := by omega
          refine ⟨.no, ?_, trivial, by simp [T.depth]⟩
          rcases b with b | ⟨b, b2⟩
          · subst b; simp (disch := first | assumption | omega | (simp only [List.length_append, List.length_cons, List.length_nil, List.length_map, List.length_reverse, List.length_replicate, List.length_range, List.length_take, List.length_drop, enD_length, rangeD_length]; omega) | (simp; done) | fail) [decide_eq_true, decide_eq_false, kAsg, kNx, b_tree_by_6b1a, nmD, ← hm, h2, h3', T.toD]
          · have b' : ¬ (k : Int) = 0 := by omega
            simp (disch := first | assumption | omega | (simp only [List.length_append, List.length_cons, List.length_nil, List.length_map, List.length_reverse, List.length_replicate, List.length_range, List.length_take, List.length_drop, enD_length, rangeD_length]; omega) | (simp; done) | fail) [decide_eq_true, decide_eq_false, kAsg, kNx, b_tree_by_6b1a, nmD, ← hm, b, b', b2, h2, h3', T.toD]
      · refine ⟨.nm x, ?_, hx, by simp [T.depth]⟩
        rcases b with b | ⟨b, b2⟩
        · subst b; simp (disch := first | assumption | omega | (simp only [List.length_append, List.length_cons, List.length_nil, List.length_map, List.length_reverse, List.length_replicate, List.length_range, List.length_take, List.length_drop, enD_length, rangeD_length]; omega) | (simp; done) | fail) [decide_eq_true, decide_eq_false, kAsg, kNx, b_tree_by_6b1a, nmD, ← hm, h2, ex, T.toD]
        · have b' : ¬ (k : Int) = 0 := by omega
          simp (disch := first | assumption | omega | (simp only [List.length_append, List.length_cons, List.length_nil, List.length_map, List.length_reverse, List.length_replicate, List.length_range, List.length_take, List.length_drop, enD_length, rangeD_length]; omega) | (simp; done) | fail) [decide_eq_true, decide_eq_false, kAsg, kNx, b_tree_by_6b1a, nmD, ← hm, b, b', b2, h2, ex, T.toD]
    by_cases hk0 : k = 0
    · exact leaf (.inl hk0)
    · exact leaf (.inr ⟨hk0, by rcases h1 with h1 | h1; exact absurd h1 hk0; exact h1⟩)
  · have hk0 : k ≠ 0 := fun e => h1 (.inl e)
    have hw : ¬ m % 9 < 2 := fun e => h1 (.inr e)
    have b' : ¬ (k : Int) = 0 := by omega
    have ek : (k : Int) - 1 = ((k - 1 : Nat) : Int) := by omega
    obtain ⟨t1, e1, n1, d1⟩ := ht ns ((m / 9 + 1) * 48271 % 2147483647) (k - 1) hn (by omega)
    obtain ⟨t2, e2', n2, d2⟩ := ht ns ((m / 9 + 7) * 69621 % 2147483629) (k - 1) hn (by omega)
    simp only [nmD] at e1 e2'
    by_cases h4 : m % 9 = 2
    · refine ⟨.nt t1, ?_, n1, by simp only [T.depth]; omega⟩
      simp (disch := first | assumption | omega | (simp only [List.length_append, List.length_cons, List.length_nil, List.length_map, List.length_reverse, List.length_replicate, List.length_range, List.length_take, List.length_drop, enD_length, rangeD_length]; omega) | (simp; done) | fail) [decide_eq_true, decide_eq_false, kAsg, kNx, b_tree_by_6b1a, nmD, ← hm, hk0, b', hw, ek, e1, h4, T.toD]
    · have q : m % 9 = 3 ∨ m % 9 = 4 ∨ m % 9 = 5 ∨ m % 9 = 6 ∨ m % 9 = 7 ∨ m % 9 = 8 := by omega
      have a3 : L2.atI [D.str [97, 110, 100], D.str [111, 114], D.str [116, 104, 101, 110], D.str [115, 97, 109, 101], D.str [97, 110, 100], D.str [111, 114]] 3 = some (D.str [115, 97, 109, 101]) := atI_of [D.str [97, 110, 100], D.str [111, 114], D.str [116, 104, 101, 110], D.str [115, 97, 109, 101], D.str [97, 110, 100], D.str [111, 114]] 3 (by simp)
      have a4 : L2.atI [D.str [97, 110, 100], D.str [111, 114], D.str [116, 104, 101, 110], D.str [115, 97, 109, 101], D.str [97, 110, 100], D.str [111, 114]] 4 = some (D.str [97, 110, 100]) := atI_of [D.str [97, 110, 100], D.str [111, 114], D.str [116, 104, 101, 110], D.str [115, 97, 109, 101], D.str [97, 110, 100], D.str [111, 114]] 4 (by simp)
      have a5 : L2.atI [D.str [97, 110, 100], D.str [111, 114], D.str [116, 104, 101, 110], D.str [115, 97, 109, 101], D.str [97, 110, 100], D.str [111, 114]] 5 = some (D.str [111, 114]) := atI_of [D.str [97, 110, 100], D.str [111, 114], D.str [116, 104, 101, 110], D.str [115, 97, 109, 101], D.str [97, 110, 100], D.str [111, 114]] 5 (by simp)
      rcases q with q | q | q | q | q | q
      · refine ⟨.bin .an t1 t2, ?_, ⟨n1, n2⟩, by simp only [T.depth]; omega⟩
        simp (disch := first | assumption | omega | (simp only [List.length_append, List.length_cons, List.length_nil, List.length_map, List.length_reverse, List.length_replicate, List.length_range, List.length_take, List.length_drop, enD_length, rangeD_length]; omega) | (simp; done) | fail) [decide_eq_true, decide_eq_false, kAsg, kNx, b_tree_by_6b1a, nmD, ← hm, hk0, b', hw, ek, e1, e2', q, T.toD, K4.code]
      · refine ⟨.bin .or t1 t2, ?_, ⟨n1, n2⟩, by simp only [T.depth]; omega⟩
        simp (disch := first | assumption | omega | (simp only [List.length_append, List.length_cons, List.length_nil, List.length_map, List.length_reverse, List.length_replicate, List.length_range, List.length_take, List.length_drop, enD_length, rangeD_length]; omega) | (simp; done) | fail) [decide_eq_true, decide_eq_false, kAsg, kNx, b_tree_by_6b1a, nmD, ← hm, hk0, b', hw, ek, e1, e2', q, T.toD, K4.code]
      · refine ⟨.bin .th t1 t2, ?_, ⟨n1, n2⟩, by simp only [T.depth]; omega⟩
        simp (disch := first | assumption | omega | (simp only [List.length_append, List.length_cons, List.length_nil, List.length_map, List.length_reverse, List.length_replicate, List.length_range, List.length_take, List.length_drop, enD_length, rangeD_length]; omega) | (simp; done) | fail) [decide_eq_true, decide_eq_false, kAsg, kNx, b_tree_by_6b1a, nmD, ← hm, hk0, b', hw, ek, e1, e2', q, T.toD, K4.code]
      · refine ⟨.bin .sm t1 t2, ?_, ⟨n1, n2⟩, by simp only [T.depth]; omega⟩
        simp (disch := first | assumption | omega | (simp only [List.length_append, List.length_cons, List.length_nil, List.length_map, List.length_reverse, List.length_replicate, List.length_range, List.length_take, List.length_drop, enD_length, rangeD_length]; omega) | (simp; done) | fail) [decide_eq_true, decide_eq_false, kAsg, kNx, b_tree_by_6b1a, nmD, ← hm, hk0, b', hw, ek, e1, e2', q, T.toD, K4.code, a3]
      · refine ⟨.bin .an t1 t2, ?_, ⟨n1, n2⟩, by simp only [T.depth]; omega⟩
        simp (disch := first | assumption | omega | (simp only [List.length_append, List.length_cons, List.length_nil, List.length_map, List.length_reverse, List.length_replicate, List.length_range, List.length_take, List.length_drop, enD_length, rangeD_length]; omega) | (simp; done) | fail) [decide_eq_true, decide_eq_false, kAsg, kNx, b_tree_by_6b1a, nmD, ← hm, hk0, b', hw, ek, e1, e2', q, T.toD, K4.code, a4]
      · refine ⟨.bin .or t1 t2, ?_, ⟨n1, n2⟩, by simp only [T.depth]; omega⟩
        simp (disch := first | assumption | omega | (simp only [List.length_append, List.length_cons, List.length_nil, List.length_map, List.length_reverse, List.length_replicate, List.length_range, List.length_take, List.length_drop, enD_length, rangeD_length]; omega) | (simp; done) | fail) [decide_eq_true, decide_eq_false, kAsg, kNx, b_tree_by_6b1a, nmD, ← hm, hk0, b', hw, ek, e1, e2', q, T.toD, K4.code, a5]
theorem lc_filterR {ρ : List Sl} {i : Nat} {fc : Ev Bool} {fe : Ev D} (n : Nat) (p : Nat → Bool) (h : Nat → D) (hp : ∀ k, k < n → fc (ρ.set i (.val (.int (k : Nat)))) = .ok (p k)) (hs : ∀ k, k < n → p k = true → fe (ρ.set i (.val (.int (k : Nat)))) = .ok (h k)) :
    lcGo ρ (ftOne i) fc fe (rangeD 0 (n : Nat)) = .ok (((List.range n).filter p).map h) := by
  have e : (((n : Nat) : Int) - 0).toNat = n := by omega
  unfold rangeD
  rw [e]
  refine lc_filter _ p h _ (fun k hk => ?_) fun k hk hpk => ?_
  · have e2 : (0 + (k : Nat) : Int) = (k : Nat) := by omega
    rw [e2]; exact hp k (by simpa using hk)
  · have e2 : (0 + (k : Nat) : Int) = (k : Nat) := by omega
    rw [e2]; exact hs k (by simpa using hk) hpk
theorem leastB_ok : LeastK (bodyF 4 2 2 b_least_8f77) := fun p rs hl => by
  have hlc : ∀ a0 : Sl, lcGo [.val (.tup (rs.map .int)), .val (tabD p rs.length), .emp, .emp] (ftOne 3) (e2 gEq (e2 gMod (e2 gShr (eVar 1) (eVar 3)) (eC (.int (2)))) (eC (.int (1)))) (e2 gIx (eVar 0) (eVar 3)) (rangeD 0 (rs.length : Nat)) = .ok (((List.range rs.length).filter p).map fun w => .int (rs.getD w 0)) := fun _ =>
    lc_filterR rs.length p _ (fun w hw => by
      have hb := mod_at p rs.length w hw
      unfold tabD
      cases hp : p w <;> rw [hp] at hb <;> simp at hb <;> simp (disch := first | assumption | omega | (simp only [List.length_append, List.length_cons, List.length_nil, List.length_map, List.length_reverse, List.length_replicate, List.length_range, List.length_take, List.length_drop, enD_length, rangeD_length]; omega) | (simp; done) | fail) [decide_eq_true, decide_eq_false, kAsg, kNx, hb]) (fun w hw _ => by
      have ha : L2.atI (rs.map D.int) (w : Int) = some (.int (rs.getD w 0)) := by rw [atI_of _ w (by simpa using hw), List.getD_eq_getElem?_getD, List.getElem?_eq_getElem hw]; simp
      generalize rs.getD w 0 = r at *
      simp (disch := first | assumption | omega | (simp only [List.length_append, List.length_cons, List.length_nil, List.length_map, List.length_reverse, List.length_replicate, List.length_range, List.length_take, List.length_drop, enD_length, rangeD_length]; omega) | (simp; done) | fail) [decide_eq_true, decide_eq_false, kAsg, kNx, ha])
  have hlc := hlc .emp
  have hfl : ((List.range rs.length).filter p).length ≤ rs.length := by have := List.length_filter_le p (List.range rs.length); simpa using this
  generalize hS : ((List.range rs.length).filter p).map (fun w => rs.getD w 0) = S
  have e1 : ((List.range rs.length).filter p).map (fun w => D.int (rs.getD w 0)) = S.map .int := by rw [← hS, List.map_map]; rfl
  have hSl : S.length ≤ 1000 := by rw [← hS]; simp; omega
  rw [e1] at hlc
  have heq := gEq_li S []
  have hmin := gMin1_l S
  simp only [List.map_nil] at heq
  by_cases hne : S = []
  · have hn : leastO p rs = none := least_none.mpr fun w hw => by
      cases hp : p w with
      | false => rfl
      | true =>
        have : rs.getD w 0 ∈ S := by rw [← hS]; exact List.mem_map.mpr ⟨w, List.mem_filter.mpr ⟨List.mem_range.mpr hw, hp⟩, rfl⟩
        rw [hne] at this; cases this
    rw [hn]
    subst hne
    simp only [List.map_nil] at hlc heq
    simp (disch := first | assumption | omega | (simp only [List.length_append, List.length_cons, List.length_nil, List.length_map, List.length_reverse, List.length_replicate, List.length_range, List.length_take, List.length_drop, enD_length, rangeD_length]; omega) | (simp; done) | fail) [decide_eq_true, decide_eq_false, kAsg, kNx, b_least_8f77, hlc, heq, optD]
  · have hs : leastO p rs = some (minI S) := by
      have hm := minI_mem hne
      rw [← hS] at hm
      obtain ⟨w, hw, e⟩ := List.mem_map.mp hm
      obtain ⟨h1, h2⟩ := List.mem_filter.mp hw
      refine least_eq ⟨w, List.mem_range.mp h1, h2, by rw [hS] at e; exact e⟩ fun v hv hpv => ?_
      refine minI_le ?_
      rw [← hS]
      exact List.mem_map.mpr ⟨v, List.mem_filter.mpr ⟨List.mem_range.mpr hv, hpv⟩, rfl⟩
    rw [hs]
    have hmin := hmin hne
    rw [decide_eq_false hne] at heq
    unfold tabD at hlc ⊢
    simp (disch := first | assumption | omega | (simp only [List.length_append, List.length_cons, List.length_nil, List.length_map, List.length_reverse, List.length_replicate, List.length_range, List.length_take, List.length_drop, enD_length, rangeD_length]; omega) | (simp; done) | fail) [decide_eq_true, decide_eq_false, kAsg, kNx, b_least_8f77, hlc, heq, hmin, optD]
end PL

set_option Elab.async false
set_option linter.all false
set_option maxRecDepth 100000
set_option maxHeartbeats 1000000
set_option exponentiation.threshold 20000
/-! LB2: firmness fits; minds of told sentences -/
namespace PL
set_option autoImplicit false
open PySem L2 PyProof.Rows
def FitsK (f : Fn) : Prop := ∀ (ns : List (List Nat)) (rs : List Int) (t : T), okN ns → okR ns rs → okT ns t → f [.val (mindD ns rs), .val t.toD] = .ok (.val (.bl true)) [.val (mindD ns rs), .val t.toD]
theorem fits_ok {ft fl ff fh fw : Fn} (ht : TabK ft) (hl : LeastK fl) (hf : FirmK ff) (hh : HeldK fh) (hw : WholeOk fw) : FitsK (bodyF 6 2 2 (b_firm_fits_071e ft fl ff fh fw)) := fun ns rs t hn hr hT => by
  have hr' : rs.length = W2 ns := hr
  have h2 := ht ns t hn hT
  have h3 := tab_of_nt ns t
  have h4 := hl.at hn hr (t.nv ns)
  have f1 := hf ns rs t hn hr hT
  have k1 := hh ns rs t hn hr hT
  obtain ⟨q2, q3⟩ := tabD_full (W2 ns) (by have h' := W2_256 hn; omega)
  rw [← hr'] at q2
  simp only [mindD, nmD] at h2 h4 f1 k1
  cases e : leastO (t.nv ns) rs with
  | none =>
    rw [e] at h4 f1 k1
    simp only [optD_none, heldO] at h4 f1 k1
    generalize tabD (fun _ => true) (W2 ns) = Q at *
    generalize tabD (t.nv ns) (W2 ns) = NV at *
    generalize ttD ns t = TT at *
    generalize hE : 2 ^ (W2 ns) = E at *
    rw [hr', hE] at q2
    generalize W2 ns = N at *
    simp (disch := first | assumption | omega | (simp only [List.length_append, List.length_cons, List.length_nil, List.length_map, List.length_reverse, List.length_replicate, List.length_range, List.length_take, List.length_drop, enD_length, rangeD_length]; omega) | (simp; done) | fail) [decide_eq_true, decide_eq_false, kAsg, kNx, b_firm_fits_071e, mindD, nmD, hr', q2, q3, h2, h3, h4, f1, k1]
  | some m =>
    rw [e] at h4 f1 k1
    simp only [optD_some, heldO] at h4 f1 k1
    have hwm := hw m
    generalize tabD (fun _ => true) (W2 ns) = Q at *
    generalize tabD (t.nv ns) (W2 ns) = NV at *
    generalize ttD ns t = TT at *
    generalize hE : 2 ^ (W2 ns) = E at *
    rw [hr', hE] at q2
    generalize W2 ns = N at *
    simp (disch := first | assumption | omega | (simp only [List.length_append, List.length_cons, List.length_nil, List.length_map, List.length_reverse, List.length_replicate, List.length_range, List.length_take, List.length_drop, enD_length, rangeD_length]; omega) | (simp; done) | fail) [decide_eq_true, decide_eq_false, kAsg, kNx, b_firm_fits_071e, mindD, nmD, hr', q2, q3, h2, h3, h4, f1, k1, hwm]
/-! ### told sentences -/
def tpD (p : T × Int) : D := .tup [p.1.toD, .int p.2]
def okTP (ns : List (List Nat)) (p : T × Int) : Prop := p.1.nmIn ns ∧ p.1.depth ≤ 6 ∧ 1 ≤ p.2 ∧ p.2 ≤ 1000000000000000000000000000001
theorem okd_T {ns : List (List Nat)} (hn : nmOk ns) : ∀ t : T, t.nmIn ns → Okd t.depth t.toD
  | .nm x, h => okd_tup fun d hd => by
    simp only [List.mem_cons, List.not_mem_nil, or_false] at hd
    rcases hd with rfl | rfl
    · exact okd_str _ _ (by unfold chOk; decide)
    · exact okd_str _ _ (hn _ h)
  | .yes, _ => okd_tup fun d hd => by
    simp only [List.mem_cons, List.not_mem_nil, or_false] at hd
    subst hd
    exact okd_str _ _ (by unfold chOk; decide)
  | .no, _ => okd_tup fun d hd => by
    simp only [List.mem_cons, List.not_mem_nil, or_false] at hd
    subst hd
    exact okd_str _ _ (by unfold chOk; decide)
  | .nt t, h => okd_tup fun d hd => by
    simp only [List.mem_cons, List.not_mem_nil, or_false] at hd
    rcases hd with rfl | rfl
    · exact okd_str _ _ (by unfold chOk; decide)
    · exact okd_T hn t h
  | .bin k s t, h => okd_tup fun d hd => by
    simp only [List.mem_cons, List.not_mem_nil, or_false] at hd
    rcases hd with rfl | rfl | rfl
    · exact okd_str _ _ (by unfold chOk; cases k <;> decide)
    · exact (okd_T hn s h.1).le (by omega)
    · exact (okd_T hn t h.2).le (by omega)
def allTP (ns : List (List Nat)) (ps : List (T × Int)) : Prop := ∀ p ∈ ps, okTP ns p
theorem okd_told {ns : List (List Nat)} (hn : nmOk ns) {ps : List (T × Int)} (h : ∀ p ∈ ps, okTP ns p) : Okd 8 (.lst (ps.map tpD)) := okd_lst fun d hd => by
  obtain ⟨p, hp, rfl⟩ := List.mem_map.mp hd
  obtain ⟨h1, h2, _⟩ := h p hp
  refine okd_tup fun d hd => ?_
  simp only [List.mem_cons, List.not_mem_nil, or_false] at hd
  rcases hd with rfl | rfl
  · exact (okd_T hn p.1 h1).le (by omega)
  · exact okd_int _ _
def ToldK (f : Fn) : Prop := ∀ (ns : List (List Nat)) (cs : List Int) (k : Nat), okN ns → cs.length ≤ 1000 → k ≤ 5 → ∃ ps : List (T × Int), f [.val (nmD ns), .val (.lst (cs.map .int)), .val (.int (k : Nat))] = .ok (.val (.lst (ps.map tpD))) [.val (nmD ns), .val (.lst (cs.map .int)), .val (.int (k : Nat))] ∧ allTP ns ps ∧ ps.length = cs.length
theorem told_ok {ft : Fn} (ht : TreeCK ft) : ToldK (bodyF 8 3 3 (b_told_by_460e ft)) := fun ns cs k hn hc hk => by
  obtain ⟨ρ', e1, ps, y4, y5, y6, y7, rfl, h3, h4⟩ := forGo_nxt (ft := ftTup [4, 5]) (fb := b_told_by_460e_l1 ft) (enD 0 (cs.map .int)) (fun i ρ => ∃ (ps : List (T × Int)) (y4 y5 y6 y7 : Sl), ρ = [.val (nmD ns), .val (.lst (cs.map .int)), .val (.int (k : Nat)), .own (.lst (ps.map tpD)), y4, y5, y6, y7] ∧ allTP ns ps ∧ ps.length = i)
    [.val (nmD ns), .val (.lst (cs.map .int)), .val (.int (k : Nat)), .own (.lst []), .emp, .emp, .emp, .emp] ⟨[], _, _, _, _, rfl, (fun _ h => by cases h), rfl⟩ (fun i d ρ hd ⟨ps, y4, y5, y6, y7, e, g1, g2⟩ => by
    subst e
    have hi : i < cs.length := by have := (List.getElem?_eq_some_iff.mp hd).1; rw [enD_length] at this; simpa using this
    have hr : cs[i]? = some cs[i] := List.getElem?_eq_getElem hi
    rw [enD_get, List.getElem?_map, hr] at hd
    have ed : d = .tup [.int (i : Nat), .int cs[i]] := by simpa using hd.symm
    subst ed
    obtain ⟨u, e1, n1, d1⟩ := ht ns (cs[i] * 16807 + (i : Int)) k hn (by omega)
    generalize cs[i] = c at *
    simp only [nmD] at e1
    have fin : ∀ r : Int, 1 ≤ r → r ≤ 1000000000000000000000000000001 → ∃ ps' : List (T × Int), ps.map tpD ++ [.tup [u.toD, .int r]] = ps'.map tpD ∧ allTP ns ps' ∧ ps'.length = i + 1 := fun r a b => by
      refine ⟨ps ++ [(u, r)], by simp [tpD], fun v hv => ?_, by simp [g2]⟩
      rcases List.mem_append.mp hv with hv | hv
      · exact g1 v hv
      · rw [List.mem_singleton.mp hv]; exact ⟨n1, show u.depth ≤ 6 by omega, a, b⟩
    have hpl : ps.length < 1000000 := by omega
    refine ⟨_, rfl, ?_⟩
    by_cases h5 : c * 48271 % 2147483647 / 5 % 3 = 0
    · have p0 : 0 ≤ (c + (i : Int)) % 1000000000000000000000000000000 := Int.emod_nonneg _ (by decide)
      have p1 : (c + (i : Int)) % 1000000000000000000000000000000 < 1000000000000000000000000000000 := Int.emod_lt_of_pos _ (by decide)
      simp (disch := first | assumption | omega | (simp only [List.length_append, List.length_cons, List.length_nil, List.length_map, List.length_reverse, List.length_replicate, List.length_range, List.length_take, List.length_drop, enD_length, rangeD_length]; omega) | (simp; done) | fail) [decide_eq_true, decide_eq_false, kAsg, kNx, b_told_by_460e_l1, ftTup, nmD, e1, h5]
      refine fin _ ?_ ?_ <;> omega
    · have p0 : 0 ≤ c * 48271 % 2147483647 % 5 := Int.emod_nonneg _ (by decide)
      have p1 : c * 48271 % 2147483647 % 5 < 5 := Int.emod_lt_of_pos _ (by decide)
      simp (disch := first | assumption | omega | (simp only [List.length_append, List.length_cons, List.length_nil, List.length_map, List.length_reverse, List.length_replicate, List.length_range, List.length_take, List.length_drop, enD_length, rangeD_length]; omega) | (simp; done) | fail) [decide_eq_true, decide_eq_false, kAsg, kNx, b_told_by_460e_l1, ftTup, nmD, e1, h5]
      refine fin _ ?_ ?_ <;> omega)
  rw [enD_length, List.length_map] at h4
  refine ⟨ps, ?_, h3, h4⟩
  simp only [nmD] at e1
  simp (disch := first | assumption | omega | (simp only [List.length_append, List.length_cons, List.length_nil, List.length_map, List.length_reverse, List.length_replicate, List.length_range, List.length_take, List.length_drop, enD_length, rangeD_length]; omega) | (simp; done) | fail) [decide_eq_true, decide_eq_false, kAsg, kNx, b_told_by_460e, nmD, e1]
/-- a row told by number: f below i, else g -/
def mixL (f g : Nat → Int) (i n : Nat) : List Int := (List.range n).map fun w => if w < i then f w else g w
theorem mixL_at (f g : Nat → Int) (i n w : Nat) (h : w < n) : (mixL f g i n)[w]? = some (if w < i then f w else g w) := by
  unfold mixL
  rw [List.getElem?_map, List.getElem?_range h]; rfl
theorem mixL_len (f g : Nat → Int) (i n : Nat) : (mixL f g i n).length = n := by simp [mixL]
theorem mixL_ext {f g f' g' : Nat → Int} {i j n : Nat} (h : ∀ w, w < n → (if w < i then f w else g w) = if w < j then f' w else g' w) : mixL f g i n = mixL f' g' j n :=
  List.map_congr_left fun w hw => h w (List.mem_range.mp hw)
theorem mixL_set (f g : Nat → Int) (i n : Nat) (h : i < n) : (mixL f g i n).set i (f i) = mixL f g (i + 1) n := by
  apply List.ext_getElem?
  intro w
  by_cases hw : w < n
  · rw [List.getElem?_set, mixL_at _ _ _ _ _ hw, mixL_at _ _ _ _ _ hw, mixL_len]
    by_cases e : i = w
    · subst e; simp [h]
    · rw [if_neg e]
      by_cases q : w < i
      · simp [q, show w < i + 1 by omega]
      · simp [q, show ¬ w < i + 1 by omega]
  · rw [List.getElem?_eq_none (by simp [mixL_len]; omega), List.getElem?_eq_none (by simp [mixL_len]; omega)]
theorem mixL_keep (f g : Nat → Int) (i n : Nat) (h : f i = g i) : mixL f g i n = mixL f g (i + 1) n := mixL_ext fun w _ => by
  by_cases e : w = i
  · subst e; simp [h]
  · by_cases q : w < i
    · simp [q, show w < i + 1 by omega]
    · simp [q, show ¬ w < i + 1 by omega]
theorem ofD (l : List Int) (f : Nat → Int) : mixL f (fun w => l.getD w 0) 0 l.length = l := by
  apply List.ext_getElem?
  intro w
  by_cases hw : w < l.length
  · rw [mixL_at _ _ _ _ _ hw]; simp [hw]
  · rw [List.getElem?_eq_none (by simp [mixL_len]; omega), List.getElem?_eq_none (by omega)]
/-- the marks, one told sentence more -/
def stepF (p : Nat → Bool) (r : Int) (ms : List Int) (w : Nat) : Int := if p w = true ∧ ms.getD w 0 < r then r else ms.getD w 0
def stepM (p : Nat → Bool) (r : Int) (ms : List Int) : List Int := mixL (stepF p r ms) (fun w => ms.getD w 0) ms.length ms.length
theorem stepM_len (p : Nat → Bool) (r : Int) (ms : List Int) : (stepM p r ms).length = ms.length := mixL_len ..
def marksL (ns : List (List Nat)) (ps : List (T × Int)) (ms : List Int) : List Int := ps.foldl (fun ms p => stepM (p.1.nv ns) p.2 ms) ms
theorem marksL_len (ns : List (List Nat)) : ∀ (ps : List (T × Int)) (ms : List Int), (marksL ns ps ms).length = ms.length
  | [], _ => rfl
  | p :: ps, ms => by
    show (marksL ns ps (stepM (p.1.nv ns) p.2 ms)).length = _
    rw [marksL_len, stepM_len]
theorem mindof_l1 (f1 f2 f3 : Fn) (p : Nat → Bool) (r : Int) (ms : List Int) (hl : ms.length ≤ 1000) (a0 a1 a3 x6 : Sl) :
    ∃ y6, forGo (ftOne 6) (b_mind_of_l1 f1 f2 f3) (rangeD 0 (ms.length : Nat)) [a0, a1, .own (.lst (ms.map .int)), a3, .val (.int r), .val (tabD p ms.length), x6] =
      .nx [a0, a1, .own (.lst ((stepM p r ms).map .int)), a3, .val (.int r), .val (tabD p ms.length), y6] := by
  have h0 : ms = mixL (stepF p r ms) (fun w => ms.getD w 0) 0 ms.length := (ofD ms _).symm
  obtain ⟨ρ', e1, y6, rfl⟩ := forGo_nxt (ft := ftOne 6) (fb := b_mind_of_l1 f1 f2 f3) (rangeD 0 (ms.length : Nat)) (fun i ρ => ∃ y6, ρ = [a0, a1, .own (.lst ((mixL (stepF p r ms) (fun w => ms.getD w 0) i ms.length).map .int)), a3, .val (.int r), .val (tabD p ms.length), y6])
    [a0, a1, .own (.lst (ms.map .int)), a3, .val (.int r), .val (tabD p ms.length), x6] ⟨x6, by rw [← h0]⟩ (fun i d ρ hd ⟨y6, e⟩ => by
    subst e
    obtain ⟨hi, rfl⟩ := rangeD_get hd
    have hb := bit_at p ms.length i hi
    have hml := mixL_len (stepF p r ms) (fun w => ms.getD w 0) i ms.length
    have hat : L2.atI ((mixL (stepF p r ms) (fun w => ms.getD w 0) i ms.length).map D.int) (i : Int) = some (.int (ms.getD i 0)) := by
      have h2 := mixL_at (stepF p r ms) (fun w => ms.getD w 0) i ms.length i hi
      rw [if_neg (Nat.lt_irrefl _)] at h2
      rw [atI_of _ i (by rw [List.length_map, hml]; exact hi), ← List.getElem?_eq_getElem, List.getElem?_map, h2]; rfl
    have hset := mixL_set (stepF p r ms) (fun w => ms.getD w 0) i ms.length hi
    have hkeep := mixL_keep (stepF p r ms) (fun w => ms.getD w 0) i ms.length
    have hsf : stepF p r ms i = if p i = true ∧ ms.getD i 0 < r then r else ms.getD i 0 := rfl
    generalize stepF p r ms i = sf at *
    generalize mixL (stepF p r ms) (fun w => ms.getD w 0) (i + 1) ms.length = M1 at *
    generalize mixL (stepF p r ms) (fun w => ms.getD w 0) i ms.length = M0 at *
    generalize ms.getD i 0 = v at *
    have hset' : (M0.map D.int).set i (.int sf) = M1.map D.int := by rw [← hset, List.map_set]
    refine ⟨_, rfl, ?_⟩
    unfold tabD
    cases hp : p i with
    | false =>
      rw [hp] at hb hsf
      simp only [Bool.false_eq_true, if_false, false_and] at hb hsf
      have hk := hkeep hsf
      subst hk
      simp (disch := first | assumption | omega | (simp only [List.length_append, List.length_cons, List.length_nil, List.length_map, List.length_reverse, List.length_replicate, List.length_range, List.length_take, List.length_drop, enD_length, rangeD_length]; omega) | (simp; done) | fail) [decide_eq_true, decide_eq_false, kAsg, kNx, b_mind_of_l1, hb]
    | true =>
      rw [hp] at hb hsf
      simp only [if_true, true_and] at hb hsf
      by_cases hv : v < r
      · rw [if_pos hv] at hsf
        subst hsf
        have hi' : ((i : Nat) : Int).toNat = i := by omega
        simp (disch := first | assumption | omega | (simp only [List.length_append, List.length_cons, List.length_nil, List.length_map, List.length_reverse, List.length_replicate, List.length_range, List.length_take, List.length_drop, enD_length, rangeD_length]; omega) | (simp; done) | fail) [decide_eq_true, decide_eq_false, kAsg, kNx, b_mind_of_l1, hb, hat, hv, hml, hi']
        rw [hset']
      · rw [if_neg hv] at hsf
        have hk := hkeep hsf
        subst hk
        simp (disch := first | assumption | omega | (simp only [List.length_append, List.length_cons, List.length_nil, List.length_map, List.length_reverse, List.length_replicate, List.length_range, List.length_take, List.length_drop, enD_length, rangeD_length]; omega) | (simp; done) | fail) [decide_eq_true, decide_eq_false, kAsg, kNx, b_mind_of_l1, hb, hat, hv])
  rw [rangeD_length] at e1
  have e0 : (((ms.length : Nat) : Int) - 0).toNat = ms.length := by omega
  rw [e0] at e1
  exact ⟨y6, e1⟩
end PL

set_option Elab.async false
set_option linter.all false
set_option maxRecDepth 100000
/-! PL16: is True, is False -/
namespace PL
set_option autoImplicit false
open PySem PySem.Spec PyProof.Rows L2
section
variable {X : Cx} {cs : Nat → Addr} {W : WX} {a b : Expr} {fa fb : Ev D} {pos : Pos}
def gIsB : D → D → R Bool
  | .bl x, .bl y => .ok (x == y)
  | _, _ => .stuck
def gNotB : D → D → R Bool
  | .bl x, .bl y => .ok (!(x == y))
  | _, _ => .stuck
theorem opIsB : OpB X cs W rIsB gIsB := by
  intro σ Φ H Q v u d e m r1 r2 q
  unfold gIsB at q
  split at q
  next x y =>
    cases r1.bl_inv; cases r2.bl_inv
    exact ⟨x, y, rfl, rfl, _, rfl, q.ok m (by simp [rB]; cases x <;> cases y <;> rfl)⟩
  next => exact q.elim
theorem opNotB : OpB X cs W rNotB gNotB := by
  intro σ Φ H Q v u d e m r1 r2 q
  unfold gNotB at q
  split at q
  next x y =>
    cases r1.bl_inv; cases r2.bl_inv
    exact ⟨x, y, rfl, rfl, _, rfl, q.ok m (by simp [rB]; cases x <;> cases y <;> rfl)⟩
  next => exact q.elim
theorem rIsB_mono (x y : V) (H : Hp) (Q Q' : VK) (h : ∀ v H, Q v H → Q' v H) (z : rIsB x y H Q) : rIsB x y H Q' := by
  obtain ⟨i, j, e1, e2, q⟩ := z
  exact ⟨i, j, e1, e2, h _ _ q⟩
theorem rNotB_mono (x y : V) (H : Hp) (Q Q' : VK) (h : ∀ v H, Q v H → Q' v H) (z : rNotB x y H Q) : rNotB x y H Q' := by
  obtain ⟨i, j, e1, e2, q⟩ := z
  exact ⟨i, j, e1, e2, h _ _ q⟩
theorem st_isB (ha : SV X cs W a fa) (hb : SV X cs W b fb) (hm : behindInMarks .Is b = false := by rfl) : ST X cs W (.Compare a [.Is] [b] pos) (e2 gIsB fa fb) := st_cmp op_isBl opIsB ha hb hm
theorem st_notB (ha : SV X cs W a fa) (hb : SV X cs W b fb) (hm : behindInMarks .IsNot b = false := by rfl) : ST X cs W (.Compare a [.IsNot] [b] pos) (e2 gNotB fa fb) := st_cmp op_notBl opNotB ha hb hm
theorem sd_isB (ha : SV X cs W a fa) (hb : SV X cs W b fb) (hm : behindInMarks .Is b = false := by rfl) : SD X cs W (.Compare a [.Is] [b] pos) (eBl (e2 gIsB fa fb)) := sd_cmp rIsB_mono op_isBl opIsB ha hb hm
theorem sd_notB (ha : SV X cs W a fa) (hb : SV X cs W b fb) (hm : behindInMarks .IsNot b = false := by rfl) : SD X cs W (.Compare a [.IsNot] [b] pos) (eBl (e2 gNotB fa fb)) := sd_cmp rNotB_mono op_notBl opNotB ha hb hm
end
end PL

set_option Elab.async false
set_option linter.all false
set_option maxRecDepth 100000
/-! PL17: an own list or dict lent to an expression whose answer holds nothing of it -/
namespace PL
set_option autoImplicit false
open PySem PySem.Spec PyProof.Rows L2
section
variable {X : Cx} {cs : Nat → Addr} {W : WX} {e : Expr}
def lendT (i : Nat) (f : Ev Bool) : Ev Bool := fun ρ => f (frzAt ρ i)
def lendD (i : Nat) (f : Ev D) : Ev D := fun ρ => (f (frzAt ρ i)).bind fun d => if d.flat = true then .ok d else .stuck
theorem Ext.drop {Φ H Φ1 Φ' H' : Hp} (s : Same Φ H) (x : Ext Φ1 H Φ' H') : Ext Φ H Φ H' := ⟨Same.refl _, x.heap, s.trans x.heap, fun _ _ h => .inl h⟩
theorem st_lend (i : Nat) {f : Ev Bool} (h : ST X cs W e f) : ST X cs W e (lendT i f) := ptImp h fun σ H Q ⟨Φ, ρ, r, q⟩ => by
  obtain ⟨Φ', r', _⟩ := r.frz i
  refine ⟨Φ', _, r', ?_⟩
  unfold lendT at q
  cases e : f (frzAt ρ i) with
  | ok a => rw [e] at q; exact fun Φ2 H2 b x y => q Φ H2 b (Ext.drop r.sub x) y
  | exc z => rw [e] at q; exact fun Φ2 H2 c dd x y => q Φ H2 c dd (Ext.drop r.sub x) y
  | stuck => rw [e] at q; exact q
theorem RepD.drop {K : PySem.W.Frag} {Φ Φ' : Hp} {d : D} {v : V} (h : RepD K Φ d v) (f : d.flat = true) : RepD K Φ' d v := by
  cases h <;> first | cases f; done | skip
  · exact .non
  · exact .bl _
  · exact .int _
  · rename_i h; exact .str _ _ h
theorem sd_lend (i : Nat) {f : Ev D} (h : SD X cs W e f) : SD X cs W e (lendD i f) := peImp h fun σ H Q ⟨Φ, ρ, r, q⟩ => by
  obtain ⟨Φ', r', _⟩ := r.frz i
  refine ⟨Φ', _, r', ?_⟩
  unfold lendD at q
  cases e : f (frzAt ρ i) with
  | ok a =>
    rw [e] at q
    simp only [R.bind] at q
    split at q
    next hf => exact fun Φ2 H2 b x y => q Φ H2 b (Ext.drop r.sub x) (RepD.drop y hf)
    next => exact q.elim
  | exc z => rw [e] at q; exact fun Φ2 H2 c dd x y => q Φ H2 c dd (Ext.drop r.sub x) y
  | stuck => rw [e] at q; exact q
end
end PL

set_option Elab.async false
set_option linter.all false
set_option maxRecDepth 100000
/-! PL18: an own list lent to an expression that tells a new list of plain data -/
namespace PL
set_option autoImplicit false
open PySem PySem.Spec PyProof.Rows L2
def D.flatL : D → Bool
  | .lst ds => ds.all D.flat
  | _ => false
theorem RepDs.dropAll {K : PySem.W.Frag} {Φ Φ' : Hp} : ∀ {ds : List D} {vs : List V}, RepDs K Φ ds vs → ds.all D.flat = true → RepDs K Φ' ds vs
  | _, _, .nil, _ => .nil
  | _, _, .cons h r, f => by
    simp only [List.all_cons, Bool.and_eq_true] at f
    exact .cons (RepD.drop h f.1) (RepDs.dropAll r f.2)
section
variable {X : Cx} {cs : Nat → Addr} {W : WX} {e a b : Expr} {fa fb : Ev D} {pos : Pos}
def CPowW (i j : Int) : Prop := 0 ≤ j ∧ j ≤ 1000 ∧ i.natAbs < 2 ^ 10000
theorem op_powW : OpR X (binaryOp .Pow) (rI CPowW fun i j => .int (i ^ j.toNat)) := opI fun i j _ _ _ _ _ hc q => by
  refine pow_int hc.1 ?_ q
  have b := PyProof.Rows.intBits_le hc.2.2
  have h1 : (Builtin.Int.intBits i : Int) * j ≤ 10000 * 1000 := Int.mul_le_mul (by omega) hc.2.1 hc.1 (by decide)
  have e : (2 : Int) ^ 27 = 134217728 := by decide
  rw [e]
  omega
def gPowW : D → D → R D := gInt fun i j => if 0 ≤ j ∧ j ≤ 1000 ∧ i.natAbs < 2 ^ 10000 then .ok (.int (i ^ j.toNat)) else .stuck
theorem sd_powW (ha : SV X cs W a fa) (hb : SV X cs W b fb) : SD X cs W (.BinOp a .Pow b pos) (e2 gPowW fa fb) := sd_op op_powW (opInt fun i j => by
  by_cases h : 0 ≤ j ∧ j ≤ 1000 ∧ i.natAbs < 2 ^ 10000
  · exact .inl ⟨h, if_pos h⟩
  · exact .inr (if_neg h)) ha hb
def lendN (i : Nat) (f : Ev D) : Ev D := fun ρ => (f (frzAt ρ i)).bind fun d => if d.flatL = true then .ok d else .stuck
theorem sn_lend (i : Nat) {f : Ev D} (h : SN X cs W e f) : SN X cs W e (lendN i f) := peImp h fun σ H Q ⟨Φ, ρ, r, q⟩ => by
  obtain ⟨Φ', r', _⟩ := r.frz i
  refine ⟨Φ', _, r', ?_⟩
  unfold lendN at q
  cases e : f (frzAt ρ i) with
  | ok a =>
    rw [e] at q
    simp only [R.bind] at q
    split at q
    next hf =>
      intro Φ2 H2 b x hb hp y
      have hp' : Φ b = none := by
        cases z : Φ b with
        | none => rfl
        | some o => rw [r.sub _ _ z] at hb; cases hb
      refine q Φ H2 b (Ext.drop r.sub x) hb hp' ?_
      cases y with
      | lst e1 e2 => exact .lst e1 (RepDs.dropAll e2 hf)
      | dic e1 e2 => cases hf
    next => exact q.elim
  | exc z => rw [e] at q; exact fun Φ2 H2 c dd x y => q Φ H2 c dd (Ext.drop r.sub x) y
  | stuck => rw [e] at q; exact q
end
end PL

set_option Elab.async false
set_option linter.all false
set_option maxRecDepth 100000
/-! PLe2: equations of PL16 and behind -/
namespace PL
set_option autoImplicit false
open L2
@[simp] theorem gIsB_t (a : Bool) : gIsB (.bl a) (.bl true) = .ok a := by cases a <;> rfl
@[simp] theorem gIsB_f (a : Bool) : gIsB (.bl a) (.bl false) = .ok (!a) := by cases a <;> rfl
@[simp] theorem gNotB_t (a : Bool) : gNotB (.bl a) (.bl true) = .ok (!a) := by cases a <;> rfl
@[simp] theorem gNotB_f (a : Bool) : gNotB (.bl a) (.bl false) = .ok a := by cases a <;> rfl
@[simp] theorem lendT_eq (i : Nat) (f : Ev Bool) (ρ : List Sl) : lendT i f ρ = f (frz1 ρ i ρ[i]?) := tr rfl
@[simp] theorem lendD_eq (i : Nat) (f : Ev D) (ρ : List Sl) : lendD i f ρ = (f (frz1 ρ i ρ[i]?)).bind fun d => if d.flat = true then .ok d else .stuck := tr rfl
@[simp] theorem flat_non : D.flat .non = true := tr rfl
@[simp] theorem flat_bl (b : Bool) : D.flat (.bl b) = true := tr rfl
@[simp] theorem flat_int (b : Int) : D.flat (.int b) = true := tr rfl
@[simp] theorem flat_str (b : List Nat) : D.flat (.str b) = true := tr rfl
@[simp] theorem lendN_eq (i : Nat) (f : Ev D) (ρ : List Sl) : lendN i f ρ = (f (frz1 ρ i ρ[i]?)).bind fun d => if d.flatL = true then .ok d else .stuck := tr rfl
@[simp] theorem flatL_lst (ds : List D) : D.flatL (.lst ds) = ds.all D.flat := tr rfl
@[simp] theorem gPowW_ii (i j : Int) (h : 0 ≤ j ∧ j ≤ 1000 ∧ i.natAbs < 2 ^ 10000) : gPowW (.int i) (.int j) = .ok (.int (i ^ j.toNat)) := if_pos h
end PL

set_option Elab.async false
set_option linter.all false
set_option maxRecDepth 100000
namespace PL
set_option autoImplicit false
open L2
noncomputable def b_firm_by_8a67_l1 (f__law_open_by : Fn) : Es := (seqS (asgS (ftOne 8) (eTup (aCons (eC (.str [110, 97, 109, 101])) (aCons (e2 gIx (eVar 0) (eVar 7)) aNil))))
  (seqS (ifS (e2 gEq (e2 gAnd (e2 gShr (eVar 5) (eVar 7)) (eC (.int (1)))) (eC (.int (0)))) (asgS (ftOne 8) (eTup (aCons (eC (.str [110, 111, 116])) (aCons (eFrz 8) aNil)))) skipS)
  (asgS (ftOne 6) (eTup (aCons (eC (.str [97, 110, 100])) (aCons (eFrz 6) (aCons (eFrz 8) aNil)))))))
noncomputable def b_firm_by_8a67_l2 (f__law_open_by : Fn) : Es := (ifS (tAn (e2 gEq (e2 gIx (eVar 1) (eVar 5)) (eVar 3)) (tOo (e1 gIsN (eVar 4)) (e2 gEq (e2 gMod (e2 gDiv (eVar 2) (eC (.int (3)))) (eC (.int (2)))) (eC (.int (1)))))) (seqS (asgS (ftOne 6) (eTup (aCons (eC (.str [121, 101, 115])) aNil)))
  (seqS (forS (iRg gRng1 (aCons (eCall gLen (aCons (eVar 0) aNil)) aNil)) (ftOne 7) (b_firm_by_8a67_l1 f__law_open_by))
  (asgS (ftOne 4) (eFrz 6)))) skipS)
noncomputable def b_firm_by_8a67 (f__law_open_by : Fn) : Es := (seqS (ifS (e2 (gCmp pGt) (e2 gMod (eVar 2) (eC (.int (3)))) (eC (.int (0)))) (retS (eFn f__law_open_by (aCons (eFrz 0) (aCons (e2 gDiv (eVar 2) (eC (.int (3)))) aNil)))) skipS)
  (seqS (asgS (ftOne 3) (eCall gMax1 (aCons (eVar 1) aNil)))
  (seqS (asgS (ftOne 4) (eC .non))
  (seqS (forS (iRg gRng1 (aCons (eCall gLen (aCons (eVar 1) aNil)) aNil)) (ftOne 5) (b_firm_by_8a67_l2 f__law_open_by))
  (retS (eTup (aCons (eC (.str [110, 111, 116])) (aCons (eFrz 4) aNil))))))))
noncomputable def b_given_0aaf_l1 (f__law_form f__law_truth f__law_least f_firmness f_leaning f_held : Fn) : Es := (ifS (e2 gNe (e2 gIx (e2 gIx (eVar 1) (eC (.int (1)))) (eVar 7)) (e2 gSub (e2 gIx (eVar 4) (eVar 7)) (e2 gMul (eVar 6) (e2 gSub (eC (.int (1))) (e2 gAnd (e2 gShr (eVar 5) (eVar 7)) (eC (.int (1)))))))) (retS (eC (.bl false))) skipS)
noncomputable def b_given_0aaf (f__law_form f__law_truth f__law_least f_firmness f_leaning f_held : Fn) : Es := (seqS (asgS (ftTup [3, 4]) (eFrz 0))
  (seqS (ifS (tNt (e1 tBool (eFn f__law_form (aCons (eFrz 1) (aCons (eFrz 3) aNil))))) (retS (eC (.bl false))) skipS)
  (seqS (asgS (ftOne 5) (eFn f__law_truth (aCons (eFrz 3) (aCons (eFrz 2) aNil))))
  (seqS (asgS (ftOne 6) (eFn f__law_least (aCons (eFrz 4) (aCons (e2 gXor (eVar 5) (e2 gSub (e2 gShl (eC (.int (1))) (e2 gShl (eC (.int (1))) (eCall gLen (aCons (eVar 3) aNil)))) (eC (.int (1))))) aNil))))
  (seqS (ifS (e2 gEq (eVar 6) (eC (.int (0)))) (retS (eBl (e2 gEq (eVar 1) (eVar 0)))) skipS)
  (seqS (forS (iRg gRng1 (aCons (eCall gLen (aCons (eVar 4) aNil)) aNil)) (ftOne 7) (b_given_0aaf_l1 f__law_form f__law_truth f__law_least f_firmness f_leaning f_held))
  (retS (eAn (eBl (e2 gEq (eFn f_firmness (aCons (eFrz 1) (aCons (eFrz 2) aNil))) (eC (.int (0))))) (eAn (eBl (e2 gEq (eFn f_leaning (aCons (eFrz 1) (aCons (eFrz 2) aNil))) (eC (.int (0))))) (eBl (e2 gIsB (eFn f_held (aCons (eFrz 1) (aCons (eFrz 2) aNil))) (eC (.bl false)))))))))))))
noncomputable def b_folded_410c_l1 : Es := (setL 3 (e2 gMod (eVar 4) (eVar 2)) (e2 gAdd (e2 gIx (eVar 3) (e2 gMod (eVar 4) (eVar 2))) (eVar 5)))
noncomputable def b_folded_410c : Es := (seqS (asgN 3 (eLc [4] (iRg gRng1 (aCons (eCall gMin2 (aCons (eVar 2) (aCons (eCall gMax2 (aCons (eC (.int (0))) (aCons (e2 gSub (eCall gLen (aCons (eVar 0) aNil)) (eVar 1)) aNil))) aNil))) aNil)) (ftOne 4) fcYes (eC (.int (0)))))
  (seqS (forS (iEn (eSl (eVar 0) (oSome (eVar 1)) oNone)) (ftTup [4, 5]) b_folded_410c_l1)
  (frzS 3 (retS (eFrz 3)))))
noncomputable def b_worth_3b30 (f__law_worth : Fn) : Es := (seqS (ifS (e2 gEq (e2 gIx (eVar 2) (eC (.int (0)))) (eC (.str [110, 97, 109, 101]))) (retS (e2 gMod (e2 gDiv (eVar 1) (e2 gShl (eC (.int (1))) (eIndex (eVar 0) (e2 gIx (eVar 2) (eC (.int (1))))))) (eC (.int (2))))) skipS)
  (seqS (ifS (e2 gEq (eCall gLen (aCons (eVar 2) aNil)) (eC (.int (1)))) (retS (eCall gIntOf (aCons (eBl (e2 gEq (e2 gIx (eVar 2) (eC (.int (0)))) (eC (.str [121, 101, 115])))) aNil))) skipS)
  (seqS (asgS (ftOne 3) (eFn f__law_worth (aCons (eFrz 0) (aCons (eFrz 1) (aCons (e2 gIx (eVar 2) (eC (.int (1)))) aNil)))))
  (seqS (ifS (e2 gEq (e2 gIx (eVar 2) (eC (.int (0)))) (eC (.str [110, 111, 116]))) (retS (eCall gIntOf (aCons (eBl (e2 gEq (eVar 3) (eC (.int (0))))) aNil))) skipS)
  (seqS (asgS (ftOne 4) (eFn f__law_worth (aCons (eFrz 0) (aCons (eFrz 1) (aCons (e2 gIx (eVar 2) (eC (.int (2)))) aNil)))))
  (seqS (ifS (e2 gEq (e2 gIx (eVar 2) (eC (.int (0)))) (eC (.str [97, 110, 100]))) (retS (e2 gMul (eVar 3) (eVar 4))) skipS)
  (seqS (ifS (e2 gEq (e2 gIx (eVar 2) (eC (.int (0)))) (eC (.str [111, 114]))) (retS (eCall gMax2 (aCons (eVar 3) (aCons (eVar 4) aNil)))) skipS)
  (seqS (ifS (e2 gEq (e2 gIx (eVar 2) (eC (.int (0)))) (eC (.str [116, 104, 101, 110]))) (retS (eCall gIntOf (aCons (eBl (e2 (gCmp pLe) (eVar 3) (eVar 4))) aNil))) skipS)
  (retS (eCall gIntOf (aCons (eBl (e2 gEq (eVar 3) (eVar 4))) aNil)))))))))))
noncomputable def b_plain_c793 : Es := (retS (eAn (eBl (e1 (gIsi "int") (eVar 0))) (eAn (eNt (eBl (e1 (gIsi "bool") (eVar 0)))) (eBl (e2 gEq (eVar 0) (eVar 1))))))
noncomputable def b_half_of : Es := (retS (e2 gShl (eC (.int (1))) (e2 gSub (eVar 0) (eC (.int (1))))))
noncomputable def b_joined_by : Es := (seqS (asgS (ftOne 4) (eTup (aCons (eC (.str [110, 97, 109, 101])) (aCons (eFrz 0) aNil))))
  (seqS (ifS (e2 gEq (e2 gIx (eVar 1) (eC (.int (0)))) (eC (.int (0)))) (retS (eIf (e2 gEq (e2 gIx (eVar 2) (eC (.int (0)))) (eVar 3)) (eFrz 4) (eTup (aCons (eC (.str [97, 110, 100])) (aCons (eFrz 4) (aCons (e2 gIx (eVar 2) (eC (.int (1)))) aNil)))))) skipS)
  (seqS (ifS (e2 gEq (e2 gIx (eVar 2) (eC (.int (0)))) (eC (.int (0)))) (retS (eIf (e2 gEq (e2 gIx (eVar 1) (eC (.int (0)))) (eVar 3)) (eTup (aCons (eC (.str [110, 111, 116])) (aCons (eFrz 4) aNil))) (eTup (aCons (eC (.str [97, 110, 100])) (aCons (eTup (aCons (eC (.str [110, 111, 116])) (aCons (eFrz 4) aNil))) (aCons (e2 gIx (eVar 1) (eC (.int (1)))) aNil)))))) skipS)
  (seqS (ifS (e2 gEq (e2 gIx (eVar 1) (eC (.int (0)))) (eVar 3)) (retS (eTup (aCons (eC (.str [116, 104, 101, 110])) (aCons (eFrz 4) (aCons (e2 gIx (eVar 2) (eC (.int (1)))) aNil))))) skipS)
  (seqS (ifS (e2 gEq (e2 gIx (eVar 2) (eC (.int (0)))) (eVar 3)) (retS (eTup (aCons (eC (.str [111, 114])) (aCons (eFrz 4) (aCons (e2 gIx (eVar 1) (eC (.int (1)))) aNil))))) skipS)
  (seqS (ifS (e2 gEq (e2 gIx (eVar 1) (eC (.int (0)))) (e2 gXor (eVar 3) (e2 gIx (eVar 2) (eC (.int (0)))))) (retS (eTup (aCons (eC (.str [115, 97, 109, 101])) (aCons (eFrz 4) (aCons (e2 gIx (eVar 2) (eC (.int (1)))) aNil))))) skipS)
  (retS (eTup (aCons (eC (.str [111, 114])) (aCons (eTup (aCons (eC (.str [97, 110, 100])) (aCons (eFrz 4) (aCons (e2 gIx (eVar 2) (eC (.int (1)))) aNil)))) (aCons (eTup (aCons (eC (.str [97, 110, 100])) (aCons (eTup (aCons (eC (.str [110, 111, 116])) (aCons (eFrz 4) aNil))) (aCons (e2 gIx (eVar 1) (eC (.int (1)))) aNil)))) aNil)))))))))))
noncomputable def b_tree_over (f_half_of f_tree_over f_joined_by : Fn) : Es := (seqS (ifS (e2 gEq (eVar 2) (eC (.int (0)))) (retS (eTup (aCons (eC (.str [110, 111])) aNil))) skipS)
  (seqS (ifS (e2 gEq (eVar 2) (e2 gSub (e2 gShl (eC (.int (1))) (e2 gShl (eC (.int (1))) (eVar 1))) (eC (.int (1))))) (retS (eTup (aCons (eC (.str [121, 101, 115])) aNil))) skipS)
  (seqS (asgS (ftOne 3) (eFn f_half_of (aCons (eFrz 1) aNil)))
  (seqS (asgS (ftOne 4) (e2 gSub (e2 gShl (eC (.int (1))) (eVar 3)) (eC (.int (1)))))
  (seqS (asgS (ftOne 5) (e2 gAnd (eVar 2) (eVar 4)))
  (seqS (asgS (ftOne 6) (e2 gShr (eVar 2) (eVar 3)))
  (seqS (ifS (e2 gEq (eVar 5) (eVar 6)) (retS (eFn f_tree_over (aCons (eFrz 0) (aCons (e2 gSub (eVar 1) (eC (.int (1)))) (aCons (eFrz 5) aNil))))) skipS)
  (seqS (asgS (ftOne 7) (eTup (aCons (eFrz 5) (aCons (eFn f_tree_over (aCons (eFrz 0) (aCons (e2 gSub (eVar 1) (eC (.int (1)))) (aCons (eFrz 5) aNil)))) aNil))))
  (seqS (asgS (ftOne 8) (eTup (aCons (eFrz 6) (aCons (eFn f_tree_over (aCons (eFrz 0) (aCons (e2 gSub (eVar 1) (eC (.int (1)))) (aCons (eFrz 6) aNil)))) aNil))))
  (retS (eFn f_joined_by (aCons (e2 gIx (eVar 0) (e2 gSub (eVar 1) (eC (.int (1))))) (aCons (eFrz 7) (aCons (eFrz 8) (aCons (eFrz 4) aNil)))))))))))))))
noncomputable def b_tree_of (f_tree_over : Fn) : Es := (retS (eFn f_tree_over (aCons (eFrz 0) (aCons (eCall gLen (aCons (eVar 0) aNil)) (aCons (eFrz 1) aNil)))))
noncomputable def b_parts_2a8e (f__law_parts : Fn) : Es := (seqS (ifS (tOo (tNt (e1 tBool (eBl (e1 (gIsi "tuple") (eVar 1))))) (tOo (e2 gEq (eVar 1) (eTup aNil)) (tOo (e2 (gCmp pGt) (eVar 2) (eC (.int (40)))) (tNt (e1 tBool (eBl (e1 (gIsi "str") (e2 gIx (eVar 1) (eC (.int (0))))))))))) (retS (eC (.int (3000)))) skipS)
  (seqS (ifS (tOo (e2 gEq (e2 gIx (eVar 1) (eC (.int (0)))) (eC (.str [121, 101, 115]))) (e2 gEq (e2 gIx (eVar 1) (eC (.int (0)))) (eC (.str [110, 111])))) (retS (e2 gIx (eLst (aCons (eC (.int (3000))) (aCons (eC (.int (1))) aNil))) (eCall gIntOf (aCons (eBl (e2 gEq (eCall gLen (aCons (eVar 1) aNil)) (eC (.int (1))))) aNil)))) skipS)
  (seqS (ifS (e2 gEq (e2 gIx (eVar 1) (eC (.int (0)))) (eC (.str [110, 97, 109, 101]))) (retS (e2 gIx (eLst (aCons (eC (.int (3000))) (aCons (eC (.int (1))) aNil))) (eCall gIntOf (aCons (eAn (eBl (e2 gEq (eCall gLen (aCons (eVar 1) aNil)) (eC (.int (2))))) (eBl (e2 gIn (e2 gIx (eVar 1) (eC (.int (1)))) (eVar 0)))) aNil)))) skipS)
  (seqS (ifS (tAn (e2 gEq (e2 gIx (eVar 1) (eC (.int (0)))) (eC (.str [110, 111, 116]))) (e2 gEq (eCall gLen (aCons (eVar 1) aNil)) (eC (.int (2))))) (retS (e2 gAdd (eC (.int (1))) (eFn f__law_parts (aCons (eFrz 0) (aCons (e2 gIx (eVar 1) (eC (.int (1)))) (aCons (e2 gAdd (eVar 2) (eC (.int (1)))) aNil)))))) skipS)
  (seqS (ifS (tOo (e2 gNi (e2 gIx (eVar 1) (eC (.int (0)))) (eTup (aCons (eC (.str [97, 110, 100])) (aCons (eC (.str [111, 114])) (aCons (eC (.str [116, 104, 101, 110])) (aCons (eC (.str [115, 97, 109, 101])) aNil)))))) (e2 gNe (eCall gLen (aCons (eVar 1) aNil)) (eC (.int (3))))) (retS (eC (.int (3000)))) skipS)
  (retS (e2 gAdd (e2 gAdd (eC (.int (1))) (eFn f__law_parts (aCons (eFrz 0) (aCons (e2 gIx (eVar 1) (eC (.int (1)))) (aCons (e2 gAdd (eVar 2) (eC (.int (1)))) aNil))))) (eFn f__law_parts (aCons (eFrz 0) (aCons (e2 gIx (eVar 1) (eC (.int (2)))) (aCons (e2 gAdd (eVar 2) (eC (.int (1)))) aNil)))))))))))
noncomputable def b_table_by_17f4 (f__law_tree_by f__law_table : Fn) : Es := (seqS (asgS (ftOne 3) (e2 gShl (eC (.int (1))) (eCall gLen (aCons (eVar 0) aNil))))
  (seqS (asgS (ftOne 4) (e2 gMod (eVar 1) (eC (.int (8)))))
  (seqS (ifS (e2 gEq (eVar 4) (eC (.int (0)))) (retS (e2 gIx (eTup (aCons (eC (.int (0))) (aCons (e2 gSub (e2 gShl (eC (.int (1))) (eVar 3)) (eC (.int (1)))) aNil))) (e2 gMod (eVar 2) (eC (.int (2)))))) skipS)
  (seqS (ifS (e2 gEq (eVar 4) (eC (.int (1)))) (retS (e2 gShl (eC (.int (1))) (e2 gMod (eVar 2) (eVar 3)))) skipS)
  (seqS (ifS (e2 gEq (eVar 4) (eC (.int (2)))) (retS (e2 gXor (e2 gSub (e2 gShl (eC (.int (1))) (eVar 3)) (eC (.int (1)))) (e2 gShl (eC (.int (1))) (e2 gMod (eVar 2) (eVar 3))))) skipS)
  (seqS (ifS (e2 gEq (eVar 4) (eC (.int (3)))) (retS (eFn f__law_table (aCons (eFrz 0) (aCons (eFn f__law_tree_by (aCons (eFrz 0) (aCons (eFrz 2) (aCons (eC (.int (4))) aNil)))) aNil)))) skipS)
  (seqS (ifS (e2 gEq (eVar 4) (eC (.int (4)))) (retS (e2 gMod (eVar 2) (e2 gShl (eC (.int (1))) (eVar 3)))) skipS)
  (retS (e2 gMod (e2 gDiv (e2 gPowW (e2 gAdd (e2 gAdd (e2 gMod (eVar 2) (e2 gPow (eC (.int (10))) (eC (.int (60))))) (e2 gMod (eVar 1) (e2 gPow (eC (.int (10))) (eC (.int (9)))))) (eC (.int (3)))) (eC (.int (9)))) (e2 gPow (eC (.int (10))) (eC (.int (9))))) (e2 gShl (eC (.int (1))) (eVar 3)))))))))))
noncomputable def b_common_l1 (f_shared_names : Fn) : Es := (ifS (e1 tBool (eCall gAll (aCons (eLc [4] (iSeq (eVar 0)) (ftOne 4) fcYes (eBl (e2 gEq (e2 gIx (e2 gIx (eVar 4) (eC (.int (1)))) (eVar 3)) (eC (.int (0)))))) aNil))) (mutS 2 gAppend (aCons (eFrz 3) aNil) kNx) skipS)
noncomputable def b_common (f_shared_names : Fn) : Es := (seqS (asgS (ftOne 1) (eFn f_shared_names (aCons (eFrz 0) aNil)))
  (seqS (asgN 2 (eLst aNil))
  (seqS (forS (iRg gRng1 (aCons (e2 gShl (eC (.int (1))) (eCall gLen (aCons (eVar 1) aNil))) aNil)) (ftOne 3) (b_common_l1 f_shared_names))
  (retV 2))))
noncomputable def b_other_order_7997 : Es := (seqS (asgS (ftOne 2) (e2 gMod (e2 gDiv (eVar 1) (eC (.int (3)))) (eCall gLen (aCons (eVar 0) aNil))))
  (seqS (asgN 3 (e2 gCat (eSl (eVar 0) (oSome (eVar 2)) oNone) (eSl (eVar 0) oNone (oSome (eVar 2)))))
  (seqS (ifS (e2 gEq (e2 gMod (eVar 1) (eC (.int (3)))) (eC (.int (0)))) (asgN 3 (e1 gRevL (eVar 3))) skipS)
  (seqS (ifS (e2 gEq (e2 gMod (eVar 1) (eC (.int (3)))) (eC (.int (1)))) (seqS (mutS 3 gPop aNil (kAsg (ftOne 4)))
  (mutS 3 gInsert (aCons (e2 gMod (e2 gDiv (eVar 1) (eC (.int (18)))) (e2 gAdd (eCall gLen (aCons (eVar 3) aNil)) (eC (.int (1))))) (aCons (eFrz 4) aNil)) kNx)) skipS)
  (frzS 3 (retS (eFrz 3)))))))
noncomputable def b_lost_l1 (f_table f_firmness f_broken_at : Fn) : Es := (seqS (ifS (e1 gNotN (eFn f_broken_at (aCons (eFrz 4) (aCons (eFrz 10) (aCons (eC (.int (0))) aNil))))) ctS skipS)
  (seqS (asgS (ftOne 11) (eFn f_broken_at (aCons (eFrz 4) (aCons (e2 gOr (eVar 5) (eVar 10)) (aCons (eFrz 7) aNil)))))
  (ifS (e1 gNotN (eVar 11)) (mutS 8 gAppend (aCons (eTup (aCons (eFrz 9) (aCons (eFrz 11) aNil))) aNil) kNx) skipS)))
noncomputable def b_lost (f_table f_firmness f_broken_at : Fn) : Es := (seqS (asgS (ftTup [3, 4]) (eFrz 0))
  (seqS (asgS (ftOne 5) (eFn f_table (aCons (eFrz 3) (aCons (eFrz 1) aNil))))
  (seqS (asgN 6 (eLc [10] (iSeq (eVar 2)) (ftOne 10) fcYes (eFn f_table (aCons (eFrz 3) (aCons (eFrz 10) aNil)))))
  (seqS (asgS (ftOne 7) (eFn f_firmness (aCons (eFrz 0) (aCons (eFrz 1) aNil))))
  (seqS (ifS (e1 gIsN (eVar 7)) deadS skipS)
  (seqS (asgN 8 (eLst aNil))
  (seqS (ifS (e2 gEq (eVar 7) (eC (.int (0)))) (retV 8) skipS)
  (seqS (frzS 6 (forS (iEn (eFrz 6)) (ftTup [9, 10]) (b_lost_l1 f_table f_firmness f_broken_at)))
  (retV 8)))))))))
end PL

set_option Elab.async false
set_option linter.all false
set_option maxRecDepth 100000
set_option maxHeartbeats 1000000
set_option exponentiation.threshold 20000
/-! LF: always so taken on; the worlds of rank nought of a turned mind; k30's helpers -/
namespace PL
set_option autoImplicit false
open PySem L2 PyProof.Rows
theorem atD (rs : List Int) (i : Nat) (h : i < rs.length) : L2.atI (rs.map D.int) (i : Int) = some (.int (rs.getD i 0)) := by
  rw [atI_of _ i (by simpa using h), List.getD_eq_getElem?_getD, List.getElem?_eq_getElem h]; simp
theorem takeAll_ok {ft ff fu : Fn} (ht : TabK ft) (hf : FullK ff) (ns : List (List Nat)) (rs : List Int) (t : T) (firm : Int) (hn : okN ns) (hT : okT ns t) (ha : allT ns t) :
    bodyF 4 3 3 (b_taken_on ft ff fu) [.val (mindD ns rs), .val t.toD, .val (.int firm)] = .ok (.val (mindD ns rs)) [.val (mindD ns rs), .val t.toD, .val (.int firm)] := by
  have h1 := hf ns hn
  have h2 := ht ns t hn hT
  have g1 : gEq (ttD ns t) (tabD (fun _ => true) (W2 ns)) = .ok true := by
    have e : ttD ns t = tabD (fun _ => true) (W2 ns) := by unfold ttD tabD; rw [tab_congr (q := fun _ => true) ha]
    rw [e]; unfold tabD; rw [gEq_ii, decide_eq_true rfl]
  simp only [nmD, mindD] at h1 h2
  generalize tabD (fun _ => true) (W2 ns) = Q at *
  generalize ttD ns t = TT at *
  simp (disch := first | assumption | omega | (simp only [List.length_append, List.length_cons, List.length_nil, List.length_map, List.length_reverse, List.length_replicate, List.length_range, List.length_take, List.length_drop, enD_length, rangeD_length]; omega) | (simp; done) | fail) [decide_eq_true, decide_eq_false, kAsg, kNx, b_taken_on, mindD, nmD, h1, h2, g1]
/-- turned to a lean above nought -/
theorem turn_zero {ns : List (List Nat)} {t : T} {rs : List Int} {l a : Int} (hl : 0 < l) (ho : openT ns t) (hr : okR ns rs) (ha : leastO (t.ev ns) rs = some a) {w : Nat} (hw : w < W2 ns) :
    (turnL ns t l rs).getD w 0 = 0 ↔ t.ev ns w = true ∧ rs.getD w 0 = a := by
  have hr' : rs.length = W2 ns := hr
  obtain ⟨a', b, ha', hb⟩ := open_least ho hr
  rw [ha] at ha'
  cases ha'
  rw [turnL_ev ha hb (by omega)]
  have m1 : mx0 (-l) = 0 := by unfold mx0; rw [if_neg]; omega
  have m2 : mx0 l = l := by unfold mx0; rw [if_pos]; omega
  by_cases e : t.ev ns w = true
  · rw [if_pos e, m1]; constructor
    · intro h; exact ⟨e, by omega⟩
    · rintro ⟨_, h⟩; omega
  · rw [if_neg e, m2]
    have h1 := (least_some hb).2 w (by omega) (nv_of.mpr e)
    constructor
    · intro h; omega
    · rintro ⟨h, _⟩; exact absurd h e
/-! ### the sentence of one world -/
def litT (ns : List (List Nat)) (w k : Nat) : T := if w.testBit k = true then .nm (ns.getD k []) else .nt (.nm (ns.getD k []))
def rowT (ns : List (List Nat)) (w : Nat) : Nat → T
  | 0 => .yes
  | k + 1 => .bin .an (rowT ns w k) (litT ns w k)
theorem getD_mem {ns : List (List Nat)} {k : Nat} (h : k < ns.length) : ns.getD k [] ∈ ns := by
  rw [List.getD_eq_getElem?_getD, List.getElem?_eq_getElem h]; exact List.getElem_mem h
theorem posS_get {ns : List (List Nat)} (hd : ns.Nodup) {k : Nat} (h : k < ns.length) : posS ns (ns.getD k []) = some k := by
  obtain ⟨j, h1, h2⟩ := posS_mem (getD_mem h)
  obtain ⟨h3, _⟩ := posS_spec h1
  rw [h1]
  rw [List.getD_eq_getElem?_getD, List.getElem?_eq_getElem h, Option.getD_some, List.getElem?_eq_getElem h2] at h3
  congr 1
  exact (List.getElem_inj hd).mp (Option.some.inj h3)
theorem lit_ev {ns : List (List Nat)} (hd : ns.Nodup) {w v k : Nat} (h : k < ns.length) : (litT ns w k).ev ns v = (v.testBit k == w.testBit k) := by
  unfold litT
  have e := posS_get hd h
  split
  next q => simp only [T.ev, e, Option.getD_some, colP, q]; cases v.testBit k <;> rfl
  next q =>
    have q' : w.testBit k = false := by cases x : w.testBit k <;> simp_all
    simp only [T.ev, e, Option.getD_some, colP, q']; cases v.testBit k <;> rfl
theorem row_ev {ns : List (List Nat)} (hd : ns.Nodup) {w v : Nat} : ∀ {k : Nat}, k ≤ ns.length → ((rowT ns w k).ev ns v = true ↔ ∀ j, j < k → v.testBit j = w.testBit j)
  | 0, _ => by simp [rowT, T.ev]
  | k + 1, h => by
    have ih := row_ev hd (w := w) (v := v) (k := k) (by omega)
    simp only [rowT, T.ev, Bool.and_eq_true, ih, lit_ev hd (show k < ns.length by omega), beq_iff_eq]
    constructor
    · rintro ⟨h1, h2⟩ j hj
      by_cases e : j = k
      · subst e; exact h2
      · exact h1 j (by omega)
    · intro h; exact ⟨fun j hj => h j (by omega), h k (by omega)⟩
theorem row_in {ns : List (List Nat)} {w : Nat} : ∀ {k : Nat}, k ≤ ns.length → (rowT ns w k).nmIn ns ∧ (rowT ns w k).depth ≤ k + 2
  | 0, _ => ⟨trivial, by simp [rowT, T.depth]⟩
  | k + 1, h => by
    obtain ⟨h1, h2⟩ := row_in (ns := ns) (w := w) (k := k) (by omega)
    have hm := getD_mem (show k < ns.length by omega)
    unfold rowT litT
    split
    · exact ⟨⟨h1, hm⟩, by simp only [T.depth]; omega⟩
    · exact ⟨⟨h1, hm⟩, by simp only [T.depth]; omega⟩
theorem row_open {ns : List (List Nat)} (hn : okN ns) {w : Nat} (hw : w < W2 ns) : openT ns (.nt (rowT ns w ns.length)) := by
  have h1 : (rowT ns w ns.length).ev ns w = true := (row_ev hn.1 (Nat.le_refl _)).mpr fun _ _ => rfl
  have h2 := W2_2 hn
  refine ⟨?_, w, hw, by show (!(rowT ns w ns.length).ev ns w) = false; rw [h1]; rfl⟩
  have key : ∀ v, v < W2 ns → v ≠ w → (rowT ns w ns.length).ev ns v = false := fun v hv hne => by
    cases q : (rowT ns w ns.length).ev ns v with
    | false => rfl
    | true =>
      exfalso
      apply hne
      apply Nat.eq_of_testBit_eq
      intro j
      by_cases hj : j < ns.length
      · exact (row_ev hn.1 (Nat.le_refl _)).mp q j hj
      · have p : 2 ^ ns.length ≤ 2 ^ j := Nat.pow_le_pow_right (by decide) (by omega)
        rw [Nat.testBit_lt_two_pow (by have : v < 2 ^ ns.length := hv; omega), Nat.testBit_lt_two_pow (by have : w < 2 ^ ns.length := hw; omega)]
  by_cases h0 : w = 0
  · exact ⟨1, by omega, by show (!(rowT ns w ns.length).ev ns 1) = true; rw [key 1 (by omega) (by omega)]; rfl⟩
  · exact ⟨0, by omega, by show (!(rowT ns w ns.length).ev ns 0) = true; rw [key 0 (by omega) (by omega)]; rfl⟩
theorem bitN (w k : Nat) : PySem.Builtin.bitAnd (((w : Nat) : Int) / 2 ^ k) 1 = if w.testBit k = true then 1 else 0 := bitI w k
theorem row_loop {fo : Fn} (ns : List (List Nat)) (w : Nat) (hl : ns.length ≤ 8) (a1 a2 a3 a4 x7 x8 : Sl) :
    ∃ y7 y8, forGo (ftOne 7) (b_firm_by_8a67_l1 fo) (rangeD 0 (ns.length : Nat)) [.val (nmD ns), a1, a2, a3, a4, .val (.int (w : Nat)), .val (.tup [.str [121, 101, 115]]), x7, x8] =
      .nx [.val (nmD ns), a1, a2, a3, a4, .val (.int (w : Nat)), .val (rowT ns w ns.length).toD, y7, y8] := by
  obtain ⟨ρ', e1, y7, y8, rfl⟩ := forGo_nxt (ft := ftOne 7) (fb := b_firm_by_8a67_l1 fo) (rangeD 0 (ns.length : Nat)) (fun i ρ => ∃ y7 y8, ρ = [.val (nmD ns), a1, a2, a3, a4, .val (.int (w : Nat)), .val (rowT ns w i).toD, y7, y8])
    [.val (nmD ns), a1, a2, a3, a4, .val (.int (w : Nat)), .val (.tup [.str [121, 101, 115]]), x7, x8] ⟨_, _, rfl⟩ (fun i d ρ hd ⟨y7, y8, e⟩ => by
    subst e
    obtain ⟨hi, rfl⟩ := rangeD_get hd
    have ha : L2.atI (ns.map D.str) (i : Int) = some (.str (ns.getD i [])) := by
      rw [atI_of _ i (by simpa using hi), List.getD_eq_getElem?_getD, List.getElem?_eq_getElem hi]; simp
    have hb := bitN w i
    have e0 : ((i : Nat) : Int).toNat = i := by omega
    refine ⟨_, rfl, ?_⟩
    simp only [rowT, litT, T.toD, K4.code]
    generalize (rowT ns w i).toD = RD at *
    cases q : w.testBit i with
    | true =>
      rw [q] at hb
      simp only [if_true] at hb ⊢
      simp (disch := first | assumption | omega | (simp only [List.length_append, List.length_cons, List.length_nil, List.length_map, List.length_reverse, List.length_replicate, List.length_range, List.length_take, List.length_drop, enD_length, rangeD_length]; omega) | (simp; done) | fail) [decide_eq_true, decide_eq_false, kAsg, kNx, b_firm_by_8a67_l1, nmD, ha, hb, e0, T.toD]
    | false =>
      rw [q] at hb
      simp only [Bool.false_eq_true, if_false] at hb ⊢
      simp (disch := first | assumption | omega | (simp only [List.length_append, List.length_cons, List.length_nil, List.length_map, List.length_reverse, List.length_replicate, List.length_range, List.length_take, List.length_drop, enD_length, rangeD_length]; omega) | (simp; done) | fail) [decide_eq_true, decide_eq_false, kAsg, kNx, b_firm_by_8a67_l1, nmD, ha, hb, e0, T.toD])
  rw [rangeD_length] at e1
  have e0 : (((ns.length : Nat) : Int) - 0).toNat = ns.length := by omega
  rw [e0] at e1
  exact ⟨y7, y8, e1⟩
def FBI (ns : List (List Nat)) (rs : List Int) (M : Int) (a0 a1 a2 : Sl) (i : Nat) (ρ : List Sl) : Prop := ∃ x4 y5 y6 y7 y8, ρ = [a0, a1, a2, .val (.int M), .val x4, y5, y6, y7, y8] ∧ ((x4 = .non ∧ ∀ j, j < i → rs.getD j 0 ≠ M) ∨ ∃ w, w < W2 ns ∧ x4 = (rowT ns w ns.length).toD)
def FirmByK (f : Fn) : Prop := ∀ (ns : List (List Nat)) (rs : List Int) (c : Int), okN ns → okR ns rs → ∃ t : T, f [.val (nmD ns), .val (.tup (rs.map .int)), .val (.int c)] = .ok (.val t.toD) [.val (nmD ns), .val (.tup (rs.map .int)), .val (.int c)] ∧ t.nmIn ns ∧ t.depth ≤ 12 ∧ openT ns t
theorem firmBy_ok {fo : Fn} (hp : OpenK fo) : FirmByK (bodyF 9 3 3 (b_firm_by_8a67 fo)) := fun ns rs c hn hr => by
  have hW := W2_2 hn
  have h256 := W2_256 hn
  have hr' : rs.length = W2 ns := hr
  have h8 := hn.2.1
  by_cases hc : 0 < c % 3
  · obtain ⟨t, e, t1, t2, ho⟩ := hp ns (c / 3) hn
    exact ⟨t, by simp (disch := first | assumption | omega | (simp only [List.length_append, List.length_cons, List.length_nil, List.length_map, List.length_reverse, List.length_replicate, List.length_range, List.length_take, List.length_drop, enD_length, rangeD_length]; omega) | (simp; done) | fail) [decide_eq_true, decide_eq_false, kAsg, kNx, b_firm_by_8a67, hc, e], t1, by omega, ho⟩
  · have hne : rs ≠ [] := by intro e; subst e; simp at hr'; omega
    have hmx : gMax1 [.tup (rs.map .int)] = .ok (.int (maxI rs)) := by
      simp [gMax1, D.items, ints_map, oR, R.bind, hne]
    obtain ⟨u, hu, eu⟩ := List.mem_iff_getElem.mp (maxI_mem hne)
    obtain ⟨ρ', e1, x4, y5, y6, y7, y8, rfl, hx⟩ := forGo_nxt (ft := ftOne 5) (fb := b_firm_by_8a67_l2 fo) (rangeD 0 (rs.length : Nat)) (FBI ns rs (maxI rs) (.val (nmD ns)) (.val (.tup (rs.map .int))) (.val (.int c)))
      [.val (nmD ns), .val (.tup (rs.map .int)), .val (.int c), .val (.int (maxI rs)), .val .non, .emp, .emp, .emp, .emp] ⟨_, _, _, _, _, rfl, .inl ⟨rfl, fun j h => absurd h (by omega)⟩⟩ (fun i d ρ hd ⟨x4, y5, y6, y7, y8, e, hx⟩ => by
      subst e
      obtain ⟨hi, rfl⟩ := rangeD_get hd
      have ha := atD rs i hi
      refine ⟨_, rfl, ?_⟩
      generalize hM : maxI rs = M at *
      obtain ⟨z7, z8, hrow⟩ := row_loop (fo := fo) ns i (by have := hn.2.1; omega) (.val (.tup (rs.map .int))) (.val (.int c)) (.val (.int M)) (.val x4) y7 y8
      have hlen : gLen [nmD ns] = .ok (.int (ns.length : Nat)) := by unfold nmD; simp
      have fin : ∀ (y5 y6 y7 y8 : Sl), FBI ns rs M (.val (nmD ns)) (.val (.tup (rs.map .int))) (.val (.int c)) (i + 1) [Sl.val (nmD ns), .val (.tup (rs.map .int)), .val (.int c), .val (.int M), .val (rowT ns i ns.length).toD, y5, y6, y7, y8] := fun y5 y6 y7 y8 => ⟨_, _, _, _, _, rfl, .inr ⟨i, by omega, rfl⟩⟩
      rcases hx with ⟨rfl, hx⟩ | ⟨w, hw, rfl⟩
      · by_cases hm : rs.getD i 0 = M
        · rw [hm] at ha
          generalize (rowT ns i ns.length).toD = RD at *
          simp (disch := first | assumption | omega | (simp only [List.length_append, List.length_cons, List.length_nil, List.length_map, List.length_reverse, List.length_replicate, List.length_range, List.length_take, List.length_drop, enD_length, rangeD_length]; omega) | (simp; done) | fail) [decide_eq_true, decide_eq_false, kAsg, kNx, b_firm_by_8a67_l2, ha, hlen, hrow, fin]
        · have nx : ∀ (y5 y6 y7 y8 : Sl), FBI ns rs M (.val (nmD ns)) (.val (.tup (rs.map .int))) (.val (.int c)) (i + 1) [Sl.val (nmD ns), .val (.tup (rs.map .int)), .val (.int c), .val (.int M), .val .non, y5, y6, y7, y8] := fun y5 y6 y7 y8 => ⟨_, _, _, _, _, rfl, .inl ⟨rfl, fun j hj => by
            by_cases e : j = i
            · subst e; exact hm
            · exact hx j (by omega)⟩⟩
          generalize rs.getD i 0 = r at *
          simp (disch := first | assumption | omega | (simp only [List.length_append, List.length_cons, List.length_nil, List.length_map, List.length_reverse, List.length_replicate, List.length_range, List.length_take, List.length_drop, enD_length, rangeD_length]; omega) | (simp; done) | fail) [decide_eq_true, decide_eq_false, kAsg, kNx, b_firm_by_8a67_l2, ha, hm, nx]
      · have hn' : D.isNon (rowT ns w ns.length).toD = false := by generalize rowT ns w ns.length = t; cases t <;> rfl
        have nx : ∀ (y5 y6 y7 y8 : Sl), FBI ns rs M (.val (nmD ns)) (.val (.tup (rs.map .int))) (.val (.int c)) (i + 1) [Sl.val (nmD ns), .val (.tup (rs.map .int)), .val (.int c), .val (.int M), .val (rowT ns w ns.length).toD, y5, y6, y7, y8] := fun y5 y6 y7 y8 => ⟨_, _, _, _, _, rfl, .inr ⟨w, hw, rfl⟩⟩
        generalize (rowT ns i ns.length).toD = RI at *
        generalize (rowT ns w ns.length).toD = RD at *
        by_cases hm : rs.getD i 0 = M
        · rw [hm] at ha
          by_cases hc2 : c / 3 % 2 = 1
          · simp (disch := first | assumption | omega | (simp only [List.length_append, List.length_cons, List.length_nil, List.length_map, List.length_reverse, List.length_replicate, List.length_range, List.length_take, List.length_drop, enD_length, rangeD_length]; omega) | (simp; done) | fail) [decide_eq_true, decide_eq_false, kAsg, kNx, b_firm_by_8a67_l2, ha, hc2, hlen, hrow, hn', fin]
          · simp (disch := first | assumption | omega | (simp only [List.length_append, List.length_cons, List.length_nil, List.length_map, List.length_reverse, List.length_replicate, List.length_range, List.length_take, List.length_drop, enD_length, rangeD_length]; omega) | (simp; done) | fail) [decide_eq_true, decide_eq_false, kAsg, kNx, b_firm_by_8a67_l2, ha, hc2, hn', nx]
        · generalize rs.getD i 0 = r at *
          simp (disch := first | assumption | omega | (simp only [List.length_append, List.length_cons, List.length_nil, List.length_map, List.length_reverse, List.length_replicate, List.length_range, List.length_take, List.length_drop, enD_length, rangeD_length]; omega) | (simp; done) | fail) [decide_eq_true, decide_eq_false, kAsg, kNx, b_firm_by_8a67_l2, ha, hm, nx])
    rw [rangeD_length] at hx
    rcases hx with ⟨_, hx⟩ | ⟨w, hw, rfl⟩
    · exact absurd (by rw [List.getD_eq_getElem?_getD, List.getElem?_eq_getElem hu, Option.getD_some]; exact eu) (hx u (by omega))
    · obtain ⟨r1, r2⟩ := row_in (ns := ns) (w := w) (k := ns.length) (Nat.le_refl _)
      refine ⟨.nt (rowT ns w ns.length), ?_, r1, by simp only [T.depth]; have := hn.2.1; omega, row_open hn hw⟩
      simp only [T.toD]
      generalize (rowT ns w ns.length).toD = RD at *
      simp (disch := first | assumption | omega | (simp only [List.length_append, List.length_cons, List.length_nil, List.length_map, List.length_reverse, List.length_replicate, List.length_range, List.length_take, List.length_drop, enD_length, rangeD_length]; omega) | (simp; done) | fail) [decide_eq_true, decide_eq_false, kAsg, kNx, b_firm_by_8a67, hc, hmx, e1]
/-! ### given up, looked at -/
def GivenK (f : Fn) : Prop := ∀ (ns : List (List Nat)) (rs : List Int) (t : T), okN ns → okQ ns rs → okT ns t → openT ns t →
  f [.val (mindD ns rs), .val (mindD ns (giveL ns t rs)), .val t.toD] = .ok (.val (.bl true)) [.val (mindD ns rs), .val (mindD ns (giveL ns t rs)), .val t.toD]
theorem given_ok {ff ft fl fi fe fh : Fn} (hf : FormK ff) (ht : TabK ft) (hl : LeastK fl) (hi : FirmK fi) (he : LeanK fe) (hh : HeldK fh) : GivenK (bodyF 8 3 3 (b_given_0aaf ff ft fl fi fe fh)) := fun ns rs t hn hq hT ho => by
  have hr := hq.1
  have hr' : rs.length = W2 ns := hr
  have h256 := W2_256 hn
  obtain ⟨a, b, ha, hb⟩ := open_least ho hr
  obtain ⟨p1, p2, p3⟩ := low_side hq ha hb
  obtain ⟨qG, hz⟩ := give_zero hq (.inl ho) hb
  have h1 := hf ns (giveL ns t rs) hn qG.1 qG.nn
  have h2 := ht ns t hn hT
  have h3 : gXor (ttD ns t) (tabD (fun _ => true) (W2 ns)) = .ok (tabD (t.nv ns) (W2 ns)) := by
    unfold ttD; rw [gXor_tab]; congr 2; funext w; unfold T.nv; cases t.ev ns w <;> rfl
  have h4 := hl.at hn hr (t.nv ns)
  rw [hb] at h4
  have q1 : gShl (.int 1) (.int (ns.length : Nat)) = .ok (.int (W2 ns : Nat)) := gShl_p ns.length (by have := hn.2.1; omega)
  obtain ⟨q2, q3⟩ := tabD_full (W2 ns) (by omega)
  have e : ttD ns t = tabD (t.ev ns) (W2 ns) := rfl
  rw [e] at h2 h3
  simp only [optD_some] at h4
  by_cases hb0 : b = 0
  · subst hb0
    have hg : giveL ns t rs = rs := by unfold giveL; rw [hb, if_pos rfl]
    rw [hg] at h1 ⊢
    have hx := gEq_refl (okd_mind hn.2.2.2 rs) (by decide)
    simp only [nmD, mindD] at h1 h2 hx
    generalize tabD (fun _ => true) (W2 ns) = Q at *
    generalize tabD (t.ev ns) (W2 ns) = TT at *
    generalize tabD (t.nv ns) (W2 ns) = NV at *
    generalize hE : 2 ^ (W2 ns) = E at *
    generalize W2 ns = N at *
    simp (disch := first | assumption | omega | (simp only [List.length_append, List.length_cons, List.length_nil, List.length_map, List.length_reverse, List.length_replicate, List.length_range, List.length_take, List.length_drop, enD_length, rangeD_length]; omega) | (simp; done) | fail) [decide_eq_true, decide_eq_false, kAsg, kNx, b_given_0aaf, mindD, nmD, h1, h2, h3, h4, q1, q2, q3, hx]
  · have ha0 : a = 0 := p3.elim id fun e => absurd e hb0
    subst ha0
    have hg : giveL ns t rs = turnL ns t 0 rs := by unfold giveL; rw [hb, if_neg]; intro e; exact hb0 (Option.some.inj e)
    have m0 : mx0 0 = 0 := rfl
    have hv : ∀ w, w < W2 ns → (giveL ns t rs).getD w 0 = rs.getD w 0 - b * (1 - if t.ev ns w = true then 1 else 0) := fun w hw => by
      rw [hg, turnL_ev ha hb (by omega)]
      split <;> simp [m0] <;> omega
    obtain ⟨l1, l2⟩ := turnL_least (lean := 0) ho hr
    rw [← hg] at l1 l2
    have f1 := hi ns (giveL ns t rs) t hn qG.1 hT
    have f2 := he ns (giveL ns t rs) t hn qG.1 hT ho
    have f3 := hh ns (giveL ns t rs) t hn qG.1 hT
    rw [l2] at f1 f2 f3
    rw [l1] at f2
    have z1 : mx0 (-0) = 0 := rfl
    simp only [m0, z1, optD_some, Option.getD_some, Int.sub_self] at f1 f2 f3
    have z2 : heldO (some 0) = false := rfl
    rw [z2] at f3
    have hgl : (giveL ns t rs).length = rs.length := giveL_len ..
    generalize giveL ns t rs = G at *
    have loop : ∃ y, forGo (ftOne 7) (b_given_0aaf_l1 ff ft fl fi fe fh) (rangeD 0 (rs.length : Nat)) [.val (mindD ns rs), .val (mindD ns G), .val t.toD, .val (nmD ns), .val (.tup (rs.map .int)), .val (tabD (t.ev ns) (W2 ns)), .val (.int b), .emp]
        = .nx [.val (mindD ns rs), .val (mindD ns G), .val t.toD, .val (nmD ns), .val (.tup (rs.map .int)), .val (tabD (t.ev ns) (W2 ns)), .val (.int b), y] := by
      obtain ⟨ρ', e1, y, rfl⟩ := forGo_nxt (ft := ftOne 7) (fb := b_given_0aaf_l1 ff ft fl fi fe fh) (rangeD 0 (rs.length : Nat)) (fun i ρ => ∃ y, ρ = [.val (mindD ns rs), .val (mindD ns G), .val t.toD, .val (nmD ns), .val (.tup (rs.map .int)), .val (tabD (t.ev ns) (W2 ns)), .val (.int b), y])
        [.val (mindD ns rs), .val (mindD ns G), .val t.toD, .val (nmD ns), .val (.tup (rs.map .int)), .val (tabD (t.ev ns) (W2 ns)), .val (.int b), .emp] ⟨_, rfl⟩ (fun i d ρ hd ⟨y, e⟩ => by
          subst e
          obtain ⟨hi, rfl⟩ := rangeD_get hd
          have a1 := atD rs i hi
          have a2 := atD G i (by omega)
          have hb2 := bit_at (t.ev ns) (W2 ns) i (by omega)
          rw [hv i (by omega)] at a2
          refine ⟨_, rfl, ?_⟩
          unfold tabD
          generalize rs.getD i 0 = r at *
          by_cases q : t.ev ns i = true
          · rw [if_pos q] at hb2 a2
            simp (disch := first | assumption | omega | (simp only [List.length_append, List.length_cons, List.length_nil, List.length_map, List.length_reverse, List.length_replicate, List.length_range, List.length_take, List.length_drop, enD_length, rangeD_length]; omega) | (simp; done) | fail) [decide_eq_true, decide_eq_false, kAsg, kNx, b_given_0aaf_l1, mindD, a1, a2, hb2]
          · rw [if_neg q] at hb2 a2
            simp (disch := first | assumption | omega | (simp only [List.length_append, List.length_cons, List.length_nil, List.length_map, List.length_reverse, List.length_replicate, List.length_range, List.length_take, List.length_drop, enD_length, rangeD_length]; omega) | (simp; done) | fail) [decide_eq_true, decide_eq_false, kAsg, kNx, b_given_0aaf_l1, mindD, a1, a2, hb2])
      exact ⟨y, e1⟩
    obtain ⟨y, loop⟩ := loop
    simp only [nmD, mindD] at h1 h2 f1 f2 f3 loop
    generalize tabD (fun _ => true) (W2 ns) = Q at *
    generalize tabD (t.ev ns) (W2 ns) = TT at *
    generalize tabD (t.nv ns) (W2 ns) = NV at *
    generalize hE : 2 ^ (W2 ns) = E at *
    generalize W2 ns = N at *
    simp (disch := first | assumption | omega | (simp only [List.length_append, List.length_cons, List.length_nil, List.length_map, List.length_reverse, List.length_replicate, List.length_range, List.length_take, List.length_drop, enD_length, rangeD_length]; omega) | (simp; done) | fail) [decide_eq_true, decide_eq_false, kAsg, kNx, b_given_0aaf, mindD, nmD, h1, h2, h3, h4, q1, q2, q3, hb0, loop, f1, f2, f3]
theorem min_zero {ns : List (List Nat)} {rs : List Int} (hq : okQ ns rs) : leastO (T.no.nv ns) rs = some 0 := by
  have hr' : rs.length = W2 ns := hq.1
  obtain ⟨w, h1, h2⟩ := hq.2.2
  exact least_eq ⟨w, by omega, rfl, h2⟩ fun v hv _ => hq.nn v (by omega)
/-- a sentence by another one, or one that goes with it -/
def SecondK (f : Fn) : Prop := ∀ (ns : List (List Nat)) (t : T) (c : Int), okN ns → t.nmIn ns → t.depth ≤ 6 → openT ns t → ∃ u : T, f [.val (nmD ns), .val t.toD, .val (.int c)] = .ok (.val u.toD) [.val (nmD ns), .val t.toD, .val (.int c)] ∧ u.nmIn ns ∧ u.depth ≤ 9 ∧ openT ns u
theorem second_ok {fo ft : Fn} (hp : OpenK fo) (ht : TabK ft) : SecondK (bodyF 5 3 3 (b_second_by_66f0 fo ft)) := fun ns t c hn h1 h2 ho => by
  obtain ⟨u, e, u1, u2, uo⟩ := hp ns (c / 3) hn
  have fin : ∀ v : T, v.nmIn ns → v.depth ≤ 7 → openT ns v → (T.bin .an v u).nmIn ns ∧ (T.bin .an v u).depth ≤ 9 ∧ ((∃ w, w < W2 ns ∧ (T.bin .an v u).ev ns w = true) → openT ns (.bin .an v u)) := fun v a b ⟨_, w, w1, w2⟩ =>
    ⟨⟨a, u1⟩, by simp only [T.depth]; omega, fun h => ⟨h, w, w1, by show (v.ev ns w && u.ev ns w) = false; rw [w2]; rfl⟩⟩
  have hne : ∀ v : T, v.nmIn ns → v.depth ≤ 9 → (∃ x, gNe (ttD ns v) (.int 0) = .ok x ∧ (x = true → ∃ w, w < W2 ns ∧ v.ev ns w = true)) := fun v a b => by
    rw [tabD_zero (W2 ns)]
    unfold ttD tabD
    refine ⟨_, gNe_ii _ _, fun hx => ?_⟩
    by_cases q : ∃ w, w < W2 ns ∧ v.ev ns w = true
    · exact q
    · exfalso
      have : tabOf (v.ev ns) (W2 ns) = tabOf (fun _ => false) (W2 ns) := tab_congr fun w hw => by
        cases x : v.ev ns w with
        | false => rfl
        | true => exact absurd ⟨w, hw, x⟩ q
      rw [this] at hx
      simp at hx
  by_cases hc : c % 3 < 2
  · have q : c % 3 = 0 ∨ c % 3 = 1 := by omega
    rcases q with q | q
    · obtain ⟨f1, f2, f3⟩ := fin t h1 (by omega) ho
      have g := ht ns _ hn ⟨f1, by omega⟩
      obtain ⟨x, x1, x2⟩ := hne _ f1 f2
      simp only [T.toD, K4.code] at g
      generalize ttD ns (.bin .an t u) = TT at *
      cases x with
      | true => exact ⟨_, by simp (disch := first | assumption | omega | (simp only [List.length_append, List.length_cons, List.length_nil, List.length_map, List.length_reverse, List.length_replicate, List.length_range, List.length_take, List.length_drop, enD_length, rangeD_length]; omega) | (simp; done) | fail) [decide_eq_true, decide_eq_false, kAsg, kNx, b_second_by_66f0, e, q, g, x1, T.toD, K4.code], f1, f2, f3 (x2 rfl)⟩
      | false => exact ⟨u, by simp (disch := first | assumption | omega | (simp only [List.length_append, List.length_cons, List.length_nil, List.length_map, List.length_reverse, List.length_replicate, List.length_range, List.length_take, List.length_drop, enD_length, rangeD_length]; omega) | (simp; done) | fail) [decide_eq_true, decide_eq_false, kAsg, kNx, b_second_by_66f0, e, q, g, x1], u1, by omega, uo⟩
    · obtain ⟨f1, f2, f3⟩ := fin (.nt t) h1 (by simp only [T.depth]; omega) (open_nt ho)
      have g := ht ns _ hn ⟨f1, by omega⟩
      obtain ⟨x, x1, x2⟩ := hne _ f1 f2
      simp only [T.toD, K4.code] at g
      generalize ttD ns (.bin .an (.nt t) u) = TT at *
      cases x with
      | true => exact ⟨_, by simp (disch := first | assumption | omega | (simp only [List.length_append, List.length_cons, List.length_nil, List.length_map, List.length_reverse, List.length_replicate, List.length_range, List.length_take, List.length_drop, enD_length, rangeD_length]; omega) | (simp; done) | fail) [decide_eq_true, decide_eq_false, kAsg, kNx, b_second_by_66f0, e, q, g, x1, T.toD, K4.code], f1, f2, f3 (x2 rfl)⟩
      | false => exact ⟨u, by simp (disch := first | assumption | omega | (simp only [List.length_append, List.length_cons, List.length_nil, List.length_map, List.length_reverse, List.length_replicate, List.length_range, List.length_take, List.length_drop, enD_length, rangeD_length]; omega) | (simp; done) | fail) [decide_eq_true, decide_eq_false, kAsg, kNx, b_second_by_66f0, e, q, g, x1], u1, by omega, uo⟩
  · have q : c % 3 = 2 := by omega
    exact ⟨u, by simp (disch := first | assumption | omega | (simp only [List.length_append, List.length_cons, List.length_nil, List.length_map, List.length_reverse, List.length_replicate, List.length_range, List.length_take, List.length_drop, enD_length, rangeD_length]; omega) | (simp; done) | fail) [decide_eq_true, decide_eq_false, kAsg, kNx, b_second_by_66f0, e, q, hc], u1, by omega, uo⟩
end PL

set_option Elab.async false
set_option linter.all false
set_option maxRecDepth 100000
set_option maxHeartbeats 1000000
set_option exponentiation.threshold 20000
/-! LH: what is lost -/
namespace PL
set_option autoImplicit false
open PySem L2 PyProof.Rows
/-- a body goes on with P, or leaves with G -/
def Nxf (P : List Sl → Prop) (G : RS → Prop) : RS → Prop
  | .nx ρ => P ρ
  | .ct ρ => P ρ
  | .bk _ => False
  | .stuck => False
  | .rt r ρ => G (.rt r ρ)
  | .exc x ρ => G (.exc x ρ)
@[simp] theorem nxf_nx (P : List Sl → Prop) (G : RS → Prop) (ρ : List Sl) : Nxf P G (.nx ρ) = P ρ := rfl
@[simp] theorem nxf_ct (P : List Sl → Prop) (G : RS → Prop) (ρ : List Sl) : Nxf P G (.ct ρ) = P ρ := rfl
@[simp] theorem nxf_rt (P : List Sl → Prop) (G : RS → Prop) (r : Sl) (ρ : List Sl) : Nxf P G (.rt r ρ) = G (.rt r ρ) := rfl
@[simp] theorem nxf_exc (P : List Sl → Prop) (G : RS → Prop) (r : Exn) (ρ : List Sl) : Nxf P G (.exc r ρ) = G (.exc r ρ) := rfl
theorem forGo_fin {ft : D → R (List (Nat × D))} {fb : Es} (ds : List D) (I : Nat → List Sl → Prop) (G : RS → Prop) (ρ : List Sl) (h0 : I 0 ρ)
    (hs : ∀ i d ρ, ds[i]? = some d → I i ρ → ∃ as, ft d = .ok as ∧ Nxf (I (i + 1)) G (fb (setS ρ as))) : (∃ ρ', forGo ft fb ds ρ = .nx ρ' ∧ I ds.length ρ') ∨ G (forGo ft fb ds ρ) :=
  forGo_inv G ds I ρ h0 fun i d ρ h1 h2 => by
    obtain ⟨as, h3, h4⟩ := hs i d ρ h1 h2
    refine ⟨as, h3, ?_⟩
    cases e : fb (setS ρ as) with
    | nx ρ' => rw [e] at h4; exact .inl ⟨ρ', .inl rfl, h4⟩
    | ct ρ' => rw [e] at h4; exact .inl ⟨ρ', .inr rfl, h4⟩
    | bk ρ' => rw [e] at h4; exact h4.elim
    | stuck => rw [e] at h4; exact h4.elim
    | rt r ρ' => rw [e] at h4; exact .inr ⟨fun _ => ⟨by simp, by simp, by simp⟩, h4⟩
    | exc r ρ' => rw [e] at h4; exact .inr ⟨fun _ => ⟨by simp, by simp, by simp⟩, h4⟩
/-! ### the first world of a rank that a table leaves out -/
def brkP (p : Nat → Bool) (rs : List Int) (r : Int) (w : Nat) : Bool := decide (rs.getD w 0 = r) && !p w
def brkO (p : Nat → Bool) (rs : List Int) (r : Int) : Option Nat := (List.range rs.length).find? (brkP p rs r)
def optN : Option Nat → D
  | none => .non
  | some i => .int (i : Nat)
theorem brk_some {p : Nat → Bool} {rs : List Int} {r : Int} {w : Nat} (h : brkO p rs r = some w) : w < rs.length ∧ rs.getD w 0 = r ∧ p w = false := by
  have h1 := List.find?_some h
  have h2 := List.mem_of_find?_eq_some h
  simp only [brkP, Bool.and_eq_true, decide_eq_true_eq, Bool.not_eq_true'] at h1
  exact ⟨List.mem_range.mp h2, h1.1, h1.2⟩
theorem brk_none {p : Nat → Bool} {rs : List Int} {r : Int} : brkO p rs r = none ↔ ∀ w, w < rs.length → rs.getD w 0 = r → p w = true := by
  unfold brkO
  rw [List.find?_eq_none]
  constructor
  · intro h w hw e
    have := h w (List.mem_range.mpr hw)
    simp only [brkP, Bool.and_eq_true, decide_eq_true_eq, Bool.not_eq_true', not_and, Bool.not_eq_false] at this
    exact this e
  · intro h w hw
    simp only [brkP, Bool.and_eq_true, decide_eq_true_eq, Bool.not_eq_true', not_and, Bool.not_eq_false]
    exact h w (List.mem_range.mp hw)
theorem brk_first {p : Nat → Bool} {rs : List Int} {r : Int} {w : Nat} (hw : w < rs.length) (h : brkP p rs r w = true) (hf : ∀ v, v < w → brkP p rs r v = false) : brkO p rs r = some w := by
  cases e : brkO p rs r with
  | none =>
    unfold brkO at e
    rw [List.find?_eq_none] at e
    exact absurd h (e w (List.mem_range.mpr hw))
  | some v =>
    have h1 := List.find?_some e
    have h2 := List.mem_range.mp (List.mem_of_find?_eq_some e)
    congr 1
    by_cases q : v < w
    · rw [hf v q] at h1; cases h1
    · by_cases q2 : v = w
      · exact q2
      · exfalso
        unfold brkO at e
        rw [List.find?_eq_some_iff_append] at e
        obtain ⟨_, as, bs, e1, e2⟩ := e
        have hl : as.length = v := by
          have z := congrArg (fun l => l[as.length]?) e1
          simp only [List.getElem?_append_right (Nat.le_refl _), Nat.sub_self, List.getElem?_cons_zero] at z
          have hlt : as.length < rs.length := by have := congrArg List.length e1; simp at this; omega
          rw [List.getElem?_range hlt] at z
          exact Option.some.inj z
        have hm : w ∈ as := by
          have z := congrArg (fun l => l[w]?) e1
          simp only [List.getElem?_append_left (show w < as.length by omega)] at z
          rw [List.getElem?_range hw] at z
          exact List.mem_of_getElem? z.symm
        have := e2 w hm
        rw [h] at this; cases this
theorem find_congr {α : Type} {p q : α → Bool} : ∀ {l : List α}, (∀ x ∈ l, p x = q x) → l.find? p = l.find? q
  | [], _ => rfl
  | x :: l, h => by
    rw [List.find?_cons, List.find?_cons, h x (by simp), find_congr fun y hy => h y (by simp [hy])]
theorem brk_congr {p q : Nat → Bool} {rs : List Int} {r : Int} (h : ∀ w, w < rs.length → p w = q w) : brkO p rs r = brkO q rs r := by
  unfold brkO
  refine find_congr fun w hw => ?_
  unfold brkP
  rw [h w (List.mem_range.mp hw)]
def BrokenK (f : Fn) : Prop := ∀ (p : Nat → Bool) (rs : List Int) (r : Int), rs.length ≤ 1000 → f [.val (.tup (rs.map .int)), .val (tabD p rs.length), .val (.int r)] = .ok (.val (optN (brkO p rs r))) [.val (.tup (rs.map .int)), .val (tabD p rs.length), .val (.int r)]
theorem broken_ok {fk : Fn} (hk : KeepsK fk) : BrokenK (bodyF 5 3 3 (b_broken_at fk)) := fun p rs r hl => by
  have h := forGo_fin (ft := ftTup [3, 4]) (fb := b_broken_at_l1 fk) (enD 0 (rs.map .int)) (fun i ρ => ∃ y3 y4, ρ = [.val (.tup (rs.map .int)), .val (tabD p rs.length), .val (.int r), y3, y4] ∧ ∀ v, v < i → brkP p rs r v = false)
    (fun x => ∃ w y, brkO p rs r = some w ∧ x = .rt (.val (.int (w : Nat))) [.val (.tup (rs.map .int)), .val (tabD p rs.length), .val (.int r), .val (.int (w : Nat)), y])
    [.val (.tup (rs.map .int)), .val (tabD p rs.length), .val (.int r), .emp, .emp] ⟨_, _, rfl, fun v h => absurd h (by omega)⟩ (fun i d ρ hd ⟨y3, y4, e, hv⟩ => by
    subst e
    have hi : i < rs.length := by have := (List.getElem?_eq_some_iff.mp hd).1; rw [enD_length] at this; simpa using this
    have hr : rs[i]? = some rs[i] := List.getElem?_eq_getElem hi
    rw [enD_get, List.getElem?_map, hr] at hd
    have ed : d = .tup [.int (i : Nat), .int rs[i]] := by simpa using hd.symm
    subst ed
    have hg : rs.getD i 0 = rs[i] := by rw [List.getD_eq_getElem?_getD, hr]; rfl
    have hkp := hk p rs.length i hi
    refine ⟨_, rfl, ?_⟩
    by_cases hb : brkP p rs r i = true
    · have hf := brk_first hi hb hv
      simp only [brkP, Bool.and_eq_true, decide_eq_true_eq, Bool.not_eq_true', hg] at hb
      have hb1 := hb.1
      rw [hb.2] at hkp
      simp (disch := first | assumption | omega | (simp only [List.length_append, List.length_cons, List.length_nil, List.length_map, List.length_reverse, List.length_replicate, List.length_range, List.length_take, List.length_drop, enD_length, rangeD_length]; omega) | (simp; done) | fail) [decide_eq_true, decide_eq_false, kAsg, kNx, b_broken_at_l1, ftTup, hb1, hkp, hf]
    · have hb' : brkP p rs r i = false := by cases x : brkP p rs r i <;> simp_all
      have nx : ∀ v, v < i + 1 → brkP p rs r v = false := fun v h => by
        by_cases e : v = i
        · rw [e]; exact hb'
        · exact hv v (by omega)
      simp only [brkP, Bool.and_eq_false_iff, decide_eq_false_iff_not, Bool.not_eq_false', hg] at hb'
      by_cases q : rs[i] = r
      · have q2 := hb'.resolve_left (fun h => h q)
        rw [q2] at hkp
        simp (disch := first | assumption | omega | (simp only [List.length_append, List.length_cons, List.length_nil, List.length_map, List.length_reverse, List.length_replicate, List.length_range, List.length_take, List.length_drop, enD_length, rangeD_length]; omega) | (simp; done) | fail) [decide_eq_true, decide_eq_false, kAsg, kNx, b_broken_at_l1, ftTup, q, hkp]
        exact nx
      · simp (disch := first | assumption | omega | (simp only [List.length_append, List.length_cons, List.length_nil, List.length_map, List.length_reverse, List.length_replicate, List.length_range, List.length_take, List.length_drop, enD_length, rangeD_length]; omega) | (simp; done) | fail) [decide_eq_true, decide_eq_false, kAsg, kNx, b_broken_at_l1, ftTup, q]
        exact nx)
  rcases h with ⟨ρ', h1, y3, y4, rfl, hv⟩ | ⟨w, y, h1, h2⟩
  · have hn : brkO p rs r = none := by
      unfold brkO
      rw [List.find?_eq_none]
      intro w hw
      rw [hv w (by rw [enD_length, List.length_map]; exact List.mem_range.mp hw)]
      simp
    rw [hn]
    simp (disch := first | assumption | omega | (simp only [List.length_append, List.length_cons, List.length_nil, List.length_map, List.length_reverse, List.length_replicate, List.length_range, List.length_take, List.length_drop, enD_length, rangeD_length]; omega) | (simp; done) | fail) [decide_eq_true, decide_eq_false, kAsg, kNx, b_broken_at, h1, optN]
  · rw [h1]
    simp (disch := first | assumption | omega | (simp only [List.length_append, List.length_cons, List.length_nil, List.length_map, List.length_reverse, List.length_replicate, List.length_range, List.length_take, List.length_drop, enD_length, rangeD_length]; omega) | (simp; done) | fail) [decide_eq_true, decide_eq_false, kAsg, kNx, b_broken_at, h2, optN]
theorem BrokenK.at {f : Fn} (h : BrokenK f) {ns : List (List Nat)} {rs : List Int} (hn : okN ns) (hr : okR ns rs) (p : Nat → Bool) (r : Int) :
    f [.val (.tup (rs.map .int)), .val (tabD p (W2 ns)), .val (.int r)] = .ok (.val (optN (brkO p rs r))) [.val (.tup (rs.map .int)), .val (tabD p (W2 ns)), .val (.int r)] := by
  have h1 := h p rs r (by have := W2_256 hn; rw [hr]; omega)
  rwa [hr] at h1
/-! ### lost -/
def orE (ns : List (List Nat)) (t o : T) : Nat → Bool := fun w => t.ev ns w || o.ev ns w
def lostAt (ns : List (List Nat)) (rs : List Int) (t : T) (b : Int) (i : Nat) (o : T) : List (Nat × Nat) :=
  match brkO (o.ev ns) rs 0 with
  | some _ => []
  | none => match brkO (orE ns t o) rs b with
    | none => []
    | some w => [(i, w)]
def lostF (ns : List (List Nat)) (rs : List Int) (t : T) (b : Int) : Nat → List T → List (Nat × Nat)
  | _, [] => []
  | i, o :: os => lostAt ns rs t b i o ++ lostF ns rs t b (i + 1) os
theorem lostF_snoc (ns : List (List Nat)) (rs : List Int) (t : T) (b : Int) : ∀ (os : List T) (o : T) (i : Nat), lostF ns rs t b i (os ++ [o]) = lostF ns rs t b i os ++ lostAt ns rs t b (i + os.length) o
  | [], o, i => by simp [lostF]
  | x :: os, o, i => by
    have ih := lostF_snoc ns rs t b os o (i + 1)
    simp only [List.cons_append, lostF, ih, List.length_cons, List.append_assoc]
    congr 3
    omega
def lostL (ns : List (List Nat)) (rs : List Int) (t : T) (b : Int) (os : List T) : List (Nat × Nat) := if b = 0 then [] else lostF ns rs t b 0 os
def pr2D (p : Nat × Nat) : D := .tup [.int (p.1 : Nat), .int (p.2 : Nat)]
theorem lostF_len (ns : List (List Nat)) (rs : List Int) (t : T) (b : Int) : ∀ (os : List T) (i : Nat), (lostF ns rs t b i os).length ≤ os.length
  | [], _ => by simp [lostF]
  | o :: os, i => by
    have ih := lostF_len ns rs t b os (i + 1)
    have h : (lostAt ns rs t b i o).length ≤ 1 := by unfold lostAt; split; simp; split <;> simp
    simp only [lostF, List.length_append, List.length_cons]
    omega
theorem lostF_spec (ns : List (List Nat)) (rs : List Int) (t : T) (b : Int) : ∀ (os : List T) (i : Nat) (p : Nat × Nat), p ∈ lostF ns rs t b i os → ∃ o, os[p.1 - i]? = some o ∧ i ≤ p.1 ∧ p.2 < rs.length ∧ rs.getD p.2 0 = b ∧ orE ns t o p.2 = false
  | [], _, _, h => by cases h
  | o :: os, i, p, h => by
    rcases List.mem_append.mp h with h | h
    · unfold lostAt at h
      split at h
      · cases h
      · split at h
        · cases h
        next w e =>
          rw [List.mem_singleton.mp h]
          obtain ⟨h1, h2, h3⟩ := brk_some e
          exact ⟨o, by simp, Nat.le_refl _, h1, h2, h3⟩
    · obtain ⟨o', h1, h2, h3⟩ := lostF_spec ns rs t b os (i + 1) p h
      refine ⟨o', ?_, by omega, h3⟩
      have e : p.1 - i = (p.1 - (i + 1)) + 1 := by omega
      rw [e, List.getElem?_cons_succ]; exact h1
def LostK (f : Fn) : Prop := ∀ (ns : List (List Nat)) (rs : List Int) (t : T) (os : List T) (b : Int), okN ns → okR ns rs → okT ns t → (∀ o ∈ os, okT ns o) → os.length ≤ 1000 → leastO (t.nv ns) rs = some b →
  f [.val (mindD ns rs), .val t.toD, .val (.lst (os.map T.toD))] = .ok (.own (.lst ((lostL ns rs t b os).map pr2D))) [.val (mindD ns rs), .val t.toD, .val (.lst (os.map T.toD))]
theorem lost_loop {f1 f2 fb : Fn} (hb : BrokenK fb) (ns : List (List Nat)) (rs : List Int) (t : T) (b : Int) (os : List T) (hn : okN ns) (hr : okR ns rs) (hl : os.length ≤ 1000) (a0 a1 a2 a3 a6 x9 x10 x11 : Sl) :
    ∃ y9 y10 y11, forGo (ftTup [9, 10]) (b_lost_l1 f1 f2 fb) (enD 0 (os.map fun o => ttD ns o)) [a0, a1, a2, a3, .val (.tup (rs.map .int)), .val (ttD ns t), a6, .val (.int b), .own (.lst []), x9, x10, x11]
      = .nx [a0, a1, a2, a3, .val (.tup (rs.map .int)), .val (ttD ns t), a6, .val (.int b), .own (.lst ((lostF ns rs t b 0 os).map pr2D)), y9, y10, y11] := by
  obtain ⟨ρ', e1, y9, y10, y11, rfl⟩ := forGo_nxt (ft := ftTup [9, 10]) (fb := b_lost_l1 f1 f2 fb) (enD 0 (os.map fun o => ttD ns o)) (fun i ρ => ∃ y9 y10 y11, ρ = [a0, a1, a2, a3, .val (.tup (rs.map .int)), .val (ttD ns t), a6, .val (.int b), .own (.lst ((lostF ns rs t b 0 (os.take i)).map pr2D)), y9, y10, y11])
    [a0, a1, a2, a3, .val (.tup (rs.map .int)), .val (ttD ns t), a6, .val (.int b), .own (.lst []), x9, x10, x11] ⟨_, _, _, rfl⟩ (fun i d ρ hd ⟨y9, y10, y11, e⟩ => by
    subst e
    have hi : i < os.length := by have := (List.getElem?_eq_some_iff.mp hd).1; rw [enD_length] at this; simpa using this
    have ho : os[i]? = some os[i] := List.getElem?_eq_getElem hi
    rw [enD_get, List.getElem?_map, ho] at hd
    have ed : d = .tup [.int (i : Nat), ttD ns os[i]] := by simpa using hd.symm
    subst ed
    have g1 := hb.at hn hr ((os[i]).ev ns) 0
    have g2 := hb.at hn hr (orE ns t os[i]) b
    have g3 : gOr (ttD ns t) (ttD ns os[i]) = .ok (tabD (orE ns t os[i]) (W2 ns)) := gOr_tab (t.ev ns) ((os[i]).ev ns) (W2 ns)
    have eo : tabD ((os[i]).ev ns) (W2 ns) = ttD ns os[i] := rfl
    rw [eo] at g1
    have hs : os.take (i + 1) = os.take i ++ [os[i]] := by rw [List.take_succ, ho]; rfl
    have hlen : (os.take i).length = i := by simp; omega
    have hM := lostF_len ns rs t b (os.take i) 0
    have hlf := lostF_snoc ns rs t b (os.take i) os[i] 0
    rw [hlen, Nat.zero_add] at hlf
    refine ⟨_, rfl, ?_⟩
    rw [hs, hlf]
    unfold lostAt
    generalize lostF ns rs t b 0 (os.take i) = M at *
    generalize ttD ns os[i] = TO at *
    generalize ttD ns t = TT at *
    generalize tabD (orE ns t os[i]) (W2 ns) = TR at *
    cases q1 : brkO ((os[i]).ev ns) rs 0 with
    | some w =>
      rw [q1] at g1
      simp only [optN] at g1
      simp (disch := first | assumption | omega | (simp only [List.length_append, List.length_cons, List.length_nil, List.length_map, List.length_reverse, List.length_replicate, List.length_range, List.length_take, List.length_drop, enD_length, rangeD_length]; omega) | (simp; done) | fail) [decide_eq_true, decide_eq_false, kAsg, kNx, b_lost_l1, ftTup, g1]
    | none =>
      rw [q1] at g1
      simp only [optN] at g1
      cases q2 : brkO (orE ns t os[i]) rs b with
      | none =>
        rw [q2] at g2
        simp only [optN] at g2
        simp (disch := first | assumption | omega | (simp only [List.length_append, List.length_cons, List.length_nil, List.length_map, List.length_reverse, List.length_replicate, List.length_range, List.length_take, List.length_drop, enD_length, rangeD_length]; omega) | (simp; done) | fail) [decide_eq_true, decide_eq_false, kAsg, kNx, b_lost_l1, ftTup, g1, g3, g2]
      | some w =>
        rw [q2] at g2
        simp only [optN] at g2
        simp (disch := first | assumption | omega | (simp only [List.length_append, List.length_cons, List.length_nil, List.length_map, List.length_reverse, List.length_replicate, List.length_range, List.length_take, List.length_drop, enD_length, rangeD_length]; omega) | (simp; done) | fail) [decide_eq_true, decide_eq_false, kAsg, kNx, b_lost_l1, ftTup, g1, g3, g2, pr2D])
  rw [enD_length, List.length_map, List.take_length] at e1
  exact ⟨y9, y10, y11, e1⟩
theorem lost_ok {ft ff fb : Fn} (ht : TabK ft) (hf : FirmK ff) (hb : BrokenK fb) : LostK (bodyF 12 3 3 (b_lost ft ff fb)) := fun ns rs t os b hn hr hT hO hl hm => by
  have h2 := ht ns t hn hT
  have h1 := hf ns rs t hn hr hT
  rw [hm] at h1
  simp only [optD_some] at h1
  have hlc : ∀ a0 a1 a2 a4 a5 a6 a7 a8 a9 a11 : Sl, lcGo [a0, a1, a2, .val (nmD ns), a4, a5, a6, a7, a8, a9, .emp, a11] (ftOne 10) fcYes (eFn ft (aCons (eFrz 3) (aCons (eFrz 10) aNil))) (os.map T.toD) = .ok (os.map fun o => ttD ns o) := fun a0 a1 a2 a4 a5 a6 a7 a8 a9 a11 =>
    lc_map T.toD (fun o => ttD ns o) os fun o ho => by
      have h := ht ns o hn (hO o ho)
      simp (disch := first | assumption | omega | (simp only [List.length_append, List.length_cons, List.length_nil, List.length_map, List.length_reverse, List.length_replicate, List.length_range, List.length_take, List.length_drop, enD_length, rangeD_length]; omega) | (simp; done) | fail) [decide_eq_true, decide_eq_false, kAsg, kNx, h]
  obtain ⟨y9, y10, y11, hloop⟩ := lost_loop (f1 := ft) (f2 := ff) hb ns rs t b os hn hr hl (.val (mindD ns rs)) (.val t.toD) (.val (.lst (os.map T.toD))) (.val (nmD ns)) (.val (.lst (os.map fun o => ttD ns o))) .emp .emp .emp
  unfold lostL
  simp only [nmD, mindD] at h1 h2 hlc hloop
  generalize ttD ns t = TT at *
  by_cases hb0 : b = 0
  · subst hb0
    rw [if_pos rfl]
    simp (disch := first | assumption | omega | (simp only [List.length_append, List.length_cons, List.length_nil, List.length_map, List.length_reverse, List.length_replicate, List.length_range, List.length_take, List.length_drop, enD_length, rangeD_length]; omega) | (simp; done) | fail) [decide_eq_true, decide_eq_false, kAsg, kNx, b_lost, mindD, nmD, h2, hlc, h1]
  · rw [if_neg hb0]
    simp (disch := first | assumption | omega | (simp only [List.length_append, List.length_cons, List.length_nil, List.length_map, List.length_reverse, List.length_replicate, List.length_range, List.length_take, List.length_drop, enD_length, rangeD_length]; omega) | (simp; done) | fail) [decide_eq_true, decide_eq_false, kAsg, kNx, b_lost, mindD, nmD, h2, hlc, h1, hb0, hloop]
end PL

set_option Elab.async false
set_option linter.all false
set_option maxRecDepth 100000
set_option maxHeartbeats 1000000
set_option exponentiation.threshold 20000
/-! LK: k36's helpers -/
namespace PL
set_option autoImplicit false
open PySem L2 PyProof.Rows
theorem gEqO_i (o : Option Int) (b : Int) : gEq (optD o) (.int b) = .ok (decide (o = some b)) := by
  cases o with
  | none => rw [decide_eq_false (by simp)]; exact tr rfl
  | some m =>
    rw [optD_some, gEq_ii]
    by_cases h : m = b
    · rw [decide_eq_true h, decide_eq_true (by rw [h])]
    · rw [decide_eq_false h, decide_eq_false (by simpa using h)]
theorem gNeO_i (o : Option Int) (b : Int) : gNe (optD o) (.int b) = .ok (!decide (o = some b)) := by
  cases o with
  | none => rw [decide_eq_false (by simp)]; exact tr rfl
  | some m =>
    rw [optD_some, gNe_ii]
    by_cases h : m = b
    · rw [decide_eq_true h, decide_eq_true (by rw [h])]
    · rw [decide_eq_false h, decide_eq_false (by simpa using h)]
def dueB (ns : List (List Nat)) (rs : List Int) (t : T) (b : Int) (o : T) : Bool :=
  !decide (b = 0) && (heldO (leastO (o.nv ns) rs) && decide (leastO ((T.bin .or t o).nv ns) rs = some b))
theorem held_ne {ns : List (List Nat)} {o : T} {rs : List Int} (hq : okQ ns rs) : heldO (leastO (o.nv ns) rs) = !decide (leastO (o.nv ns) rs = some 0) := by
  have hr' : rs.length = W2 ns := hq.1
  cases e : leastO (o.nv ns) rs with
  | none => rfl
  | some m =>
    obtain ⟨⟨u, h1, h2, h3⟩, _⟩ := least_some e
    have h0 := hq.nn u (by omega)
    simp only [heldO]
    by_cases h : m = 0
    · subst h; rfl
    · rw [decide_eq_true (by omega), decide_eq_false (by simpa using h)]; rfl
theorem due_low {ns : List (List Nat)} {t o : T} {rs : List Int} {b m : Int} (hb : leastO (t.nv ns) rs = some b) (hm : leastO ((T.bin .or t o).nv ns) rs = some m) : b ≤ m := by
  obtain ⟨⟨u, u1, u2, u3⟩, _⟩ := least_some hm
  rw [or_nv] at u2
  simp only [Bool.not_eq_true', Bool.or_eq_false_iff] at u2
  have := (least_some hb).2 u u1 (by unfold T.nv; rw [u2.1]; rfl)
  omega
/-- the law's own view of the one given up -/
theorem due_after {ns : List (List Nat)} {t o : T} {rs : List Int} {b : Int} (hq : okQ ns rs) (ho : openT ns t) (hb : leastO (t.nv ns) rs = some b) :
    (heldO (leastO (o.nv ns) rs) && !heldO (leastO (o.nv ns) (giveL ns t rs))) = dueB ns rs t b o := by
  unfold dueB
  by_cases hz : b = 0
  · subst hz
    have : giveL ns t rs = rs := by unfold giveL; rw [hb, if_pos rfl]
    rw [this]
    cases heldO (leastO (o.nv ns) rs) <;> rfl
  · rw [decide_eq_false hz]
    cases e : heldO (leastO (o.nv ns) rs) with
    | false => rfl
    | true =>
      rw [stays_law hq ho hb e]
      cases x : leastO ((T.bin .or t o).nv ns) rs with
      | none => rfl
      | some m =>
        have := due_low hb x
        simp only [overO, Bool.true_and, Bool.not_false]
        by_cases q : m = b
        · subst q; rw [decide_eq_false (by omega), decide_eq_true rfl]; rfl
        · rw [decide_eq_true (by omega), decide_eq_false (by simpa using q)]; rfl
theorem brk_held {ns : List (List Nat)} {o : T} {rs : List Int} (hq : okQ ns rs) : brkO (o.ev ns) rs 0 = none ↔ heldO (leastO (o.nv ns) rs) = true := by
  have hr' : rs.length = W2 ns := hq.1
  rw [brk_none, held_iff hq.1 hq.nn, hr']
theorem brk_or {ns : List (List Nat)} {t o : T} {rs : List Int} {b : Int} (hb : leastO (t.nv ns) rs = some b) : brkO (orE ns t o) rs b = none ↔ ¬ leastO ((T.bin .or t o).nv ns) rs = some b := by
  rw [brk_none]
  constructor
  · intro h e
    obtain ⟨⟨u, u1, u2, u3⟩, _⟩ := least_some e
    have := h u u1 u3
    have u2 : (!orE ns t o u) = true := u2
    rw [this] at u2; cases u2
  · intro h w hw e
    cases x : orE ns t o w with
    | true => rfl
    | false =>
      exfalso
      apply h
      have hx : ((T.bin .or t o).nv ns) w = true := by rw [or_nv]; show (!orE ns t o w) = true; rw [x]; rfl
      refine least_eq ⟨w, hw, hx, e⟩ fun v hv q => ?_
      rw [or_nv] at q
      simp only [Bool.not_eq_true', Bool.or_eq_false_iff] at q
      exact (least_some hb).2 v hv (by unfold T.nv; rw [q.1]; rfl)
theorem lost_due {ns : List (List Nat)} {t o : T} {rs : List Int} {b : Int} (hq : okQ ns rs) (hb : leastO (t.nv ns) rs = some b) (hz : b ≠ 0) (i : Nat) : (lostAt ns rs t b i o).map Prod.fst = if dueB ns rs t b o = true then [i] else [] := by
  unfold lostAt dueB
  rw [decide_eq_false hz]
  cases e : brkO (o.ev ns) rs 0 with
  | some w =>
    have : heldO (leastO (o.nv ns) rs) = false := by
      cases x : heldO (leastO (o.nv ns) rs) with
      | false => rfl
      | true => rw [(brk_held hq).mpr x] at e; cases e
    rw [this]; rfl
  | none =>
    rw [(brk_held hq).mp e]
    cases x : brkO (orE ns t o) rs b with
    | none => rw [decide_eq_false ((brk_or hb).mp x)]; rfl
    | some w =>
      have : leastO ((T.bin .or t o).nv ns) rs = some b := by
        by_cases q : leastO ((T.bin .or t o).nv ns) rs = some b
        · exact q
        · rw [(brk_or hb).mpr q] at x; cases x
      rw [decide_eq_true this]; rfl
def dueF (ns : List (List Nat)) (rs : List Int) (t : T) (b : Int) : Nat → List T → List Nat
  | _, [] => []
  | i, o :: os => (if dueB ns rs t b o = true then [i] else []) ++ dueF ns rs t b (i + 1) os
theorem dueF_snoc (ns : List (List Nat)) (rs : List Int) (t : T) (b : Int) : ∀ (os : List T) (o : T) (i : Nat), dueF ns rs t b i (os ++ [o]) = dueF ns rs t b i os ++ if dueB ns rs t b o = true then [i + os.length] else []
  | [], o, i => by simp [dueF]
  | x :: os, o, i => by
    have ih := dueF_snoc ns rs t b os o (i + 1)
    simp only [List.cons_append, dueF, ih, List.length_cons, List.append_assoc]
    congr 3
    simp; omega
theorem dueF_len (ns : List (List Nat)) (rs : List Int) (t : T) (b : Int) : ∀ (os : List T) (i : Nat), (dueF ns rs t b i os).length ≤ os.length
  | [], _ => by simp [dueF]
  | o :: os, i => by
    have ih := dueF_len ns rs t b os (i + 1)
    simp only [dueF, List.length_append, List.length_cons]
    split <;> simp <;> omega
theorem lost_dueF {ns : List (List Nat)} {t : T} {rs : List Int} {b : Int} (hq : okQ ns rs) (hb : leastO (t.nv ns) rs = some b) (hz : b ≠ 0) : ∀ (os : List T) (i : Nat), (lostF ns rs t b i os).map Prod.fst = dueF ns rs t b i os
  | [], _ => rfl
  | o :: os, i => by
    simp only [lostF, dueF, List.map_append, lost_due hq hb hz i, lost_dueF hq hb hz os (i + 1)]
theorem dueF_0 {ns : List (List Nat)} {t : T} {rs : List Int} : ∀ (os : List T) (i : Nat), dueF ns rs t 0 i os = []
  | [], _ => rfl
  | o :: os, i => by simp only [dueF, dueF_0 os, dueB]; rfl
theorem lostL_due {ns : List (List Nat)} {t : T} {rs : List Int} {b : Int} (hq : okQ ns rs) (hb : leastO (t.nv ns) rs = some b) (os : List T) : (lostL ns rs t b os).map Prod.fst = dueF ns rs t b 0 os := by
  unfold lostL
  by_cases hz : b = 0
  · subst hz; rw [if_pos rfl, dueF_0]; rfl
  · rw [if_neg hz]; exact lost_dueF hq hb hz os 0
def GoesK (f : Fn) : Prop := ∀ (ns : List (List Nat)) (rs : List Int) (t o : T) (b : Int), okN ns → okQ ns rs → okT ns t → okT ns o → openT ns t → leastO (t.nv ns) rs = some b →
  f [.val (mindD ns rs), .val (mindD ns (giveL ns t rs)), .val (ttD ns t), .val t.toD, .val o.toD] = .ok (.val (.bl (dueB ns rs t b o))) [.val (mindD ns rs), .val (mindD ns (giveL ns t rs)), .val (ttD ns t), .val t.toD, .val o.toD]
theorem goes_ok {fl ft fh : Fn} (hl : LeastK fl) (ht : TabK ft) (hh : HeldK fh) : GoesK (bodyF 11 5 5 (b_goes_8a44 fl ft fh)) := fun ns rs t o b hn hq hT hO ho hb => by
  have hr := hq.1
  have h2o := ht ns o hn hO
  have q1 : gShl (.int 1) (.int (ns.length : Nat)) = .ok (.int (W2 ns : Nat)) := gShl_p ns.length (by have := hn.2.1; omega)
  obtain ⟨q2, q3⟩ := tabD_full (W2 ns) (by have h' := W2_256 hn; omega)
  have x1 : gXor (tabD (fun _ => true) (W2 ns)) (ttD ns t) = .ok (tabD (t.nv ns) (W2 ns)) := tab_of_nt ns t
  have x2 : gOr (ttD ns t) (ttD ns o) = .ok (ttD ns (.bin .or t o)) := gOr_tab (t.ev ns) (o.ev ns) (W2 ns)
  have x3 := tab_of_nt ns (.bin .or t o)
  have x4 : gXor (tabD (fun _ => true) (W2 ns)) (ttD ns o) = .ok (tabD (o.nv ns) (W2 ns)) := tab_of_nt ns o
  have l1 := hl.at hn hr (t.nv ns)
  have l2 := hl.at hn hr ((T.bin .or t o).nv ns)
  have l3 := hl.at hn hr (o.nv ns)
  obtain ⟨g1, _⟩ := give_zero hq (.inl ho) hb
  have k1 := hh ns rs o hn hr hO
  have k2 := hh ns (giveL ns t rs) o hn g1.1 hO
  have law := due_after (o := o) hq ho hb
  have hne := held_ne (o := o) hq
  have nb : 0 ≤ b := by
    obtain ⟨⟨u, h1, h2, h3⟩, _⟩ := least_some hb
    have hr' : rs.length = W2 ns := hq.1
    have := hq.nn u (by omega)
    omega
  rw [hb] at l1
  simp only [optD_some] at l1
  have n1 := gEqO_i (leastO ((T.bin .or t o).nv ns) rs) b
  have n2 := gNeO_i (leastO (o.nv ns) rs) 0
  rw [← hne] at n2
  unfold dueB at law ⊢
  simp only [T.toD, K4.code, optD_some, mindD, nmD] at h2o l1 l2 l3 k1 k2
  generalize giveL ns t rs = G at *
  generalize heldO (leastO (o.nv ns) rs) = HM at *
  generalize heldO (leastO (o.nv ns) G) = HA at *
  generalize decide (leastO ((T.bin .or t o).nv ns) rs = some b) = Y at *
  generalize optD (leastO ((T.bin .or t o).nv ns) rs) = X at *
  generalize optD (leastO (o.nv ns) rs) = XO at *
  generalize tabD (fun _ => true) (W2 ns) = Q at *
  generalize ttD ns (.bin .or t o) = TO at *
  generalize ttD ns t = TT at *
  generalize ttD ns o = OO at *
  generalize tabD (t.nv ns) (W2 ns) = NV at *
  generalize tabD (o.nv ns) (W2 ns) = NO at *
  generalize tabD ((T.bin .or t o).nv ns) (W2 ns) = NW at *
  generalize hE : 2 ^ (W2 ns) = E at *
  generalize W2 ns = N at *
  by_cases hz : b = 0
  · subst hz
    cases HM <;> cases HA <;> simp at law <;> simp (disch := first | assumption | omega | (simp only [List.length_append, List.length_cons, List.length_nil, List.length_map, List.length_reverse, List.length_replicate, List.length_range, List.length_take, List.length_drop, enD_length, rangeD_length]; omega) | (simp; done) | fail) [decide_eq_true, decide_eq_false, kAsg, kNx, b_goes_8a44, mindD, nmD, q1, q2, q3, h2o, x1, x2, x3, x4, l1, l2, l3, k1, k2, n1, n2]
  · have hp : 0 < b := by omega
    cases HM <;> cases HA <;> cases Y <;> simp [hz] at law <;> simp (disch := first | assumption | omega | (simp only [List.length_append, List.length_cons, List.length_nil, List.length_map, List.length_reverse, List.length_replicate, List.length_range, List.length_take, List.length_drop, enD_length, rangeD_length]; omega) | (simp; done) | fail) [decide_eq_true, decide_eq_false, kAsg, kNx, b_goes_8a44, mindD, nmD, q1, q2, q3, h2o, x1, x2, x3, x4, l1, l2, l3, k1, k2, n1, n2, hp, hz]
theorem tab_of_nt' (ns : List (List Nat)) (t : T) : gXor (ttD ns t) (tabD (fun _ => true) (W2 ns)) = .ok (tabD (t.nv ns) (W2 ns)) := by
  unfold ttD
  rw [gXor_tab]
  congr 2
  funext w
  unfold T.nv
  cases t.ev ns w <;> rfl
theorem at_map {α : Type} {l : List α} {f : α → D} {i : Nat} {x : α} (h : l[i]? = some x) : L2.atI (l.map f) (i : Int) = some (f x) := by
  have hi := (List.getElem?_eq_some_iff.mp h).1
  rw [atI_of _ i (by simpa using hi), ← List.getElem?_eq_getElem, List.getElem?_map, h]; rfl
def pairOk (ns : List (List Nat)) (rs : List Int) (t : T) (b : Int) (os : List T) (p : Nat × Nat) : Prop := ∃ o, os[p.1]? = some o ∧ p.2 < rs.length ∧ rs.getD p.2 0 = b ∧ orE ns t o p.2 = false
def PairsK (f : Fn) : Prop := ∀ (ns : List (List Nat)) (rs : List Int) (t : T) (b : Int) (os : List T) (fs : List (Nat × Nat)), okN ns → okR ns rs → leastO (t.nv ns) rs = some b → os.length ≤ 1000 → fs.length ≤ 1000 → (∀ p ∈ fs, pairOk ns rs t b os p) →
  f [.val (mindD ns rs), .val (ttD ns t), .val (.lst (os.map (ttD ns))), .val (.lst (fs.map fun p => .int (p.1 : Nat))), .val (.lst (fs.map pr2D))] = .ok (.val (.bl true)) [.val (mindD ns rs), .val (ttD ns t), .val (.lst (os.map (ttD ns))), .val (.lst (fs.map fun p => .int (p.1 : Nat))), .val (.lst (fs.map pr2D))]
theorem lpairs_ok {fl fw : Fn} (hl : LeastK fl) (hw : WholeOk fw) : PairsK (bodyF 10 5 5 (b_pairs_eb99 fl fw)) := fun ns rs t b os fs hn hr hb ho hf hp => by
  have q1 : gShl (.int 1) (.int (ns.length : Nat)) = .ok (.int (W2 ns : Nat)) := gShl_p ns.length (by have := hn.2.1; omega)
  obtain ⟨q2, q3⟩ := tabD_full (W2 ns) (by have h' := W2_256 hn; omega)
  have x1 : gXor (ttD ns t) (tabD (fun _ => true) (W2 ns)) = .ok (tabD (t.nv ns) (W2 ns)) := tab_of_nt' ns t
  have l1 := hl.at hn hr (t.nv ns)
  rw [hb] at l1
  simp only [optD_some] at l1
  have hr' : rs.length = W2 ns := hr
  obtain ⟨ρ', e1, y8, y9, rfl⟩ := forGo_nxt (ft := ftOne 8) (fb := b_pairs_eb99_l1 fl fw) (rangeD 0 (fs.length : Nat)) (fun i ρ => ∃ y8 y9, ρ = [.val (mindD ns rs), .val (ttD ns t), .val (.lst (os.map (ttD ns))), .val (.lst (fs.map fun p => .int (p.1 : Nat))), .val (.lst (fs.map pr2D)), .val (nmD ns), .val (.tup (rs.map .int)), .val (.int b), y8, y9])
    [.val (mindD ns rs), .val (ttD ns t), .val (.lst (os.map (ttD ns))), .val (.lst (fs.map fun p => .int (p.1 : Nat))), .val (.lst (fs.map pr2D)), .val (nmD ns), .val (.tup (rs.map .int)), .val (.int b), .emp, .emp] ⟨_, _, rfl⟩ (fun i d ρ hd ⟨y8, y9, e⟩ => by
    subst e
    obtain ⟨hi, rfl⟩ := rangeD_get hd
    have hg : fs[i]? = some fs[i] := List.getElem?_eq_getElem hi
    obtain ⟨o, e1, e2, e3, e4⟩ := hp fs[i] (List.getElem_mem hi)
    generalize fs[i] = p at *
    obtain ⟨p1, p2⟩ := p
    simp only at e1 e2 e3 e4
    have a1 : L2.atI (fs.map pr2D) (i : Int) = some (.tup [.int (p1 : Nat), .int (p2 : Nat)]) := at_map hg
    have a2 : L2.atI (fs.map fun p => D.int (p.1 : Nat)) (i : Int) = some (.int (p1 : Nat)) := at_map hg
    have a3 : L2.atI (rs.map D.int) (p2 : Int) = some (.int b) := by rw [atD rs p2 e2, e3]
    have hp1 : p1 < os.length := (List.getElem?_eq_some_iff.mp e1).1
    have a4 : L2.atI (os.map (ttD ns)) (p1 : Int) = some (ttD ns o) := at_map e1
    have w1 := hw (p1 : Nat)
    have w2 := hw (p2 : Nat)
    have g3 : gOr (ttD ns t) (ttD ns o) = .ok (tabD (orE ns t o) (W2 ns)) := gOr_tab (t.ev ns) (o.ev ns) (W2 ns)
    have hb2 := bit_at (orE ns t o) (W2 ns) p2 (by omega)
    rw [e4] at hb2
    simp at hb2
    unfold tabD at g3
    have e0 : ((p2 : Nat) : Int).toNat = p2 := by omega
    have hlt : ((p2 : Nat) : Int) < ((rs.length : Nat) : Int) := by omega
    refine ⟨_, rfl, ?_⟩
    generalize (fs.map fun p => D.int (p.1 : Nat)) = FA at *
    generalize fs.map pr2D = FB at *
    generalize ttD ns t = TT at *
    generalize os.map (ttD ns) = OS at *
    generalize ttD ns o = TO at *
    simp (disch := first | assumption | omega | (simp only [List.length_append, List.length_cons, List.length_nil, List.length_map, List.length_reverse, List.length_replicate, List.length_range, List.length_take, List.length_drop, enD_length, rangeD_length]; omega) | (simp; done) | fail) [decide_eq_true, decide_eq_false, kAsg, kNx, b_pairs_eb99_l1, a1, a2, a3, a4, w1, w2, g3, hb2, e0, hlt])
  generalize tabD (fun _ => true) (W2 ns) = Q at *
  generalize ttD ns t = TT at *
  generalize tabD (t.nv ns) (W2 ns) = NV at *
  generalize hE : 2 ^ (W2 ns) = E at *
  generalize W2 ns = N at *
  simp only [mindD, nmD] at e1
  simp (disch := first | assumption | omega | (simp only [List.length_append, List.length_cons, List.length_nil, List.length_map, List.length_reverse, List.length_replicate, List.length_range, List.length_take, List.length_drop, enD_length, rangeD_length]; omega) | (simp; done) | fail) [decide_eq_true, decide_eq_false, kAsg, kNx, b_pairs_eb99, mindD, nmD, q1, q2, q3, x1, l1, e1]
end PL

set_option Elab.async false
set_option linter.all false
set_option maxRecDepth 100000
set_option maxHeartbeats 1000000
set_option exponentiation.threshold 20000
/-! LM: told minds (k18) -/
namespace PL
set_option autoImplicit false
open PySem L2 PyProof.Rows
theorem rep_flat {α : Type} (x : α) (n : Nat) : (List.replicate n [x]).flatten = List.replicate n x := by
  induction n with
  | zero => rfl
  | succ n ih => rw [List.replicate_succ, List.replicate_succ, List.flatten_cons, ih]; rfl
theorem rep_zero (n : Nat) (h : n ≤ 1000000) : gRep (.lst [.int 0]) (.int (n : Nat)) = .ok (.lst ((List.replicate n (0 : Int)).map .int)) := by
  rw [gRep_li _ _ (by omega) (by omega) (by simp; omega)]
  have e : ((n : Nat) : Int).toNat = n := by omega
  rw [e, rep_flat, List.map_replicate]
def zerosL (ns : List (List Nat)) : List Int := List.replicate (W2 ns) 0
theorem zerosL_len (ns : List (List Nat)) : (zerosL ns).length = W2 ns := by simp [zerosL]
theorem lc_en {ρ : List Sl} {a b : Nat} {fe : Ev D} (ms : List Int) (g : Nat → Int) (h : ∀ i, i < ms.length → fe ((ρ.set a (.val (.int (i : Nat)))).set b (.val (.int (ms.getD i 0)))) = .ok (.int (g i))) :
    lcGo ρ (ftTup [a, b]) fcYes fe (enD 0 (ms.map .int)) = .ok ((List.range ms.length).map fun i => .int (g i)) := by
  rw [lcGo_map (enD 0 (ms.map .int)) (fun d => match d with | .tup [.int i, _] => .int (g i.toNat) | d => d) (fun d hd => by
    obtain ⟨i, hi, e⟩ := List.mem_iff_getElem.mp hd
    have hi' : i < ms.length := by rw [enD_length] at hi; simpa using hi
    have e2 : (enD 0 (ms.map D.int))[i]? = some d := by rw [List.getElem?_eq_getElem hi, e]
    have hr : ms[i]? = some ms[i] := List.getElem?_eq_getElem hi'
    rw [enD_get, List.getElem?_map, hr] at e2
    have ed : d = .tup [.int (i : Nat), .int ms[i]] := by simpa using e2.symm
    subst ed
    have hg : ms.getD i 0 = ms[i] := by rw [List.getD_eq_getElem?_getD, hr]; rfl
    have := h i hi'
    rw [hg] at this
    exact ⟨[(a, .int (i : Nat)), (b, .int ms[i])], rfl, this⟩)]
  congr 1
  apply List.ext_getElem?
  intro i
  by_cases hi : i < ms.length
  · have hr : ms[i]? = some ms[i] := List.getElem?_eq_getElem hi
    rw [List.getElem?_map, enD_get, List.getElem?_map, hr, List.getElem?_map, List.getElem?_range hi]
    simp
  · rw [List.getElem?_eq_none (by simp [enD_length]; omega), List.getElem?_eq_none (by simp; omega)]
theorem W2_gt {ns : List (List Nat)} (hn : okN ns) : 0 < W2 ns := by have := W2_2 hn; omega
theorem stepM_nn {p : Nat → Bool} {r : Int} {ms : List Int} (h : ∀ m ∈ ms, (0 : Int) ≤ m) (hr : 0 ≤ r) : ∀ m ∈ stepM p r ms, (0 : Int) ≤ m := fun m hm => by
  unfold stepM mixL at hm
  obtain ⟨w, hw, rfl⟩ := List.mem_map.mp hm
  have hw' := List.mem_range.mp hw
  rw [if_pos hw']
  unfold stepF
  have h0 : 0 ≤ ms.getD w 0 := by
    rw [List.getD_eq_getElem?_getD, List.getElem?_eq_getElem hw']; exact h _ (List.getElem_mem hw')
  split <;> omega
theorem marksL_snoc (ns : List (List Nat)) (ps : List (T × Int)) (p : T × Int) (ms : List Int) : marksL ns (ps ++ [p]) ms = stepM (p.1.nv ns) p.2 (marksL ns ps ms) := by
  unfold marksL; rw [List.foldl_append]; rfl
theorem marksL_nn {ns : List (List Nat)} {ps : List (T × Int)} (h : allTP ns ps) : ∀ {ms : List Int}, (∀ m ∈ ms, (0 : Int) ≤ m) → ∀ m ∈ marksL ns ps ms, (0 : Int) ≤ m := by
  induction ps with
  | nil => intro ms h0; exact h0
  | cons p ps ih =>
    intro ms h0
    have := (h p (by simp)).2.2.1
    exact ih (fun q hq => h q (by simp [hq])) (stepM_nn h0 (by omega))
def MindOfK (f : Fn) : Prop := ∀ (ns : List (List Nat)) (ps : List (T × Int)), okN ns → allTP ns ps → ps.length ≤ 1000 →
  f [.val (nmD ns), .val (.lst (ps.map tpD))] = .ok (.val (mindD ns (lowL (marksL ns ps (zerosL ns))))) [.val (nmD ns), .val (.lst (ps.map tpD))]
theorem mindOf_ok {ff ft fl : Fn} (hf : FullK ff) (ht : TabK ft) (hl : LoweredOk fl) : MindOfK (bodyF 7 2 2 (b_mind_of ff ft fl)) := fun ns ps hn hp hlen => by
  have h256 := W2_256 hn
  have hW := W2_gt hn
  obtain ⟨ρ', e1, y3, y4, y5, y6, rfl⟩ := forGo_nxt (ft := ftTup [3, 4]) (fb := b_mind_of_l2 ff ft fl) (ps.map tpD) (fun i ρ => ∃ y3 y4 y5 y6, ρ = [.val (nmD ns), .val (.lst (ps.map tpD)), .own (.lst ((marksL ns (ps.take i) (zerosL ns)).map .int)), y3, y4, y5, y6])
    [.val (nmD ns), .val (.lst (ps.map tpD)), .own (.lst ((zerosL ns).map .int)), .emp, .emp, .emp, .emp] ⟨_, _, _, _, rfl⟩ (fun i d ρ hd ⟨y3, y4, y5, y6, e⟩ => by
    subst e
    rw [List.getElem?_map] at hd
    have hi : i < ps.length := by
      by_cases q : i < ps.length
      · exact q
      · rw [List.getElem?_eq_none (by omega)] at hd; cases hd
    have hr : ps[i]? = some ps[i] := List.getElem?_eq_getElem hi
    rw [hr] at hd
    have ed : d = .tup [(ps[i]).1.toD, .int (ps[i]).2] := by simpa [tpD] using hd.symm
    subst ed
    have hs : ps.take (i + 1) = ps.take i ++ [ps[i]] := by rw [List.take_succ, hr]; rfl
    obtain ⟨n1, n2, _, _⟩ := hp ps[i] (List.getElem_mem hi)
    have h1 := hf ns hn
    have h2 := ht ns (ps[i]).1 hn ⟨n1, by omega⟩
    have x1 := tab_of_nt ns (ps[i]).1
    rw [hs, marksL_snoc]
    have hml : (marksL ns (ps.take i) (zerosL ns)).length = W2 ns := by rw [marksL_len, zerosL_len]
    generalize marksL ns (ps.take i) (zerosL ns) = M at *
    obtain ⟨y6', hin⟩ := mindof_l1 ff ft fl ((ps[i]).1.nv ns) (ps[i]).2 M (by omega) (.val (nmD ns)) (.val (.lst (ps.map tpD))) (.val (ps[i]).1.toD) y6
    generalize stepM ((ps[i]).1.nv ns) (ps[i]).2 M = M2 at *
    rw [hml] at hin
    refine ⟨_, rfl, ?_⟩
    generalize (ps[i]).1.toD = TD at *
    generalize (ps[i]).2 = r at *
    generalize ttD ns (ps[i]).1 = TT at *
    generalize tabD ((ps[i]).1.nv ns) (W2 ns) = NV at *
    generalize tabD (fun _ => true) (W2 ns) = Q at *
    have hml2 : ((M.map D.int).length : Int) = (W2 ns : Nat) := by simp [hml]
    generalize W2 ns = N at *
    simp only [nmD] at h1 h2 hin ⊢
    simp (disch := first | assumption | omega | (simp only [List.length_append, List.length_cons, List.length_nil, List.length_map, List.length_reverse, List.length_replicate, List.length_range, List.length_take, List.length_drop, enD_length, rangeD_length]; omega) | (simp; done) | fail) [decide_eq_true, decide_eq_false, kAsg, kNx, b_mind_of_l2, h1, h2, x1, hml, hin])
  have q1 : gShl (.int 1) (.int (ns.length : Nat)) = .ok (.int (W2 ns : Nat)) := gShl_p ns.length (by have := hn.2.1; omega)
  have q2 := rep_zero (W2 ns) (by omega)
  have q3 : List.replicate (W2 ns) (0 : Int) = zerosL ns := rfl
  rw [q3] at q2
  have et : ps.take (ps.map tpD).length = ps := List.take_of_length_le (by simp)
  rw [et] at e1
  have hml : (marksL ns ps (zerosL ns)).length = W2 ns := by rw [marksL_len, zerosL_len]
  have hlow := hl (ns.map .str) (marksL ns ps (zerosL ns)) (by intro e; rw [e] at hml; simp at hml; omega) (by omega)
  simp only [nmD] at e1
  generalize marksL ns ps (zerosL ns) = M at *
  generalize W2 ns = N at *
  simp (disch := first | assumption | omega | (simp only [List.length_append, List.length_cons, List.length_nil, List.length_map, List.length_reverse, List.length_replicate, List.length_range, List.length_take, List.length_drop, enD_length, rangeD_length]; omega) | (simp; done) | fail) [decide_eq_true, decide_eq_false, kAsg, kNx, b_mind_of, mindD, nmD, q1, q2, e1, hlow]
def FlatK (f : Fn) : Prop := ∀ ns : List (List Nat), okN ns → f [.val (nmD ns)] = .ok (.val (mindD ns (zerosL ns))) [.val (nmD ns)]
theorem flat_ok : FlatK (bodyF 1 1 1 b_flat) := fun ns hn => by
  have h256 := W2_256 hn
  have q1 : gShl (.int 1) (.int (ns.length : Nat)) = .ok (.int (W2 ns : Nat)) := gShl_p ns.length (by have := hn.2.1; omega)
  have q2 := rep_zero (W2 ns) (by omega)
  have q3 : List.replicate (W2 ns) (0 : Int) = zerosL ns := rfl
  rw [q3] at q2
  generalize zerosL ns = Z at *
  generalize W2 ns = N at *
  simp (disch := first | assumption | omega | (simp only [List.length_append, List.length_cons, List.length_nil, List.length_map, List.length_reverse, List.length_replicate, List.length_range, List.length_take, List.length_drop, enD_length, rangeD_length]; omega) | (simp; done) | fail) [decide_eq_true, decide_eq_false, kAsg, kNx, b_flat, mindD, nmD, q1, q2]
def MarksK (f : Fn) : Prop := ∀ (ns : List (List Nat)) (ps : List (T × Int)), okN ns → allTP ns ps → ps.length ≤ 1000 →
  f [.val (nmD ns), .val (.lst (ps.map tpD))] = .ok (.val (.lst ((marksL ns ps (zerosL ns)).map .int))) [.val (nmD ns), .val (.lst (ps.map tpD))]
theorem marks_ok {ft : Fn} (ht : TabK ft) : MarksK (bodyF 8 2 2 (b_marks_157a ft)) := fun ns ps hn hp hlen => by
  have h256 := W2_256 hn
  have hW := W2_gt hn
  obtain ⟨ρ', e1, y3, y4, y5, y6, y7, rfl⟩ := forGo_nxt (ft := ftTup [3, 4]) (fb := b_marks_157a_l1 ft) (ps.map tpD) (fun i ρ => ∃ y3 y4 y5 y6 y7, ρ = [.val (nmD ns), .val (.lst (ps.map tpD)), .own (.lst ((marksL ns (ps.take i) (zerosL ns)).map .int)), y3, y4, y5, y6, y7])
    [.val (nmD ns), .val (.lst (ps.map tpD)), .own (.lst ((zerosL ns).map .int)), .emp, .emp, .emp, .emp, .emp] ⟨_, _, _, _, _, rfl⟩ (fun i d ρ hd ⟨y3, y4, y5, y6, y7, e⟩ => by
    subst e
    rw [List.getElem?_map] at hd
    have hi : i < ps.length := by
      by_cases q : i < ps.length
      · exact q
      · rw [List.getElem?_eq_none (by omega)] at hd; cases hd
    have hr : ps[i]? = some ps[i] := List.getElem?_eq_getElem hi
    rw [hr] at hd
    have ed : d = .tup [(ps[i]).1.toD, .int (ps[i]).2] := by simpa [tpD] using hd.symm
    subst ed
    have hs : ps.take (i + 1) = ps.take i ++ [ps[i]] := by rw [List.take_succ, hr]; rfl
    obtain ⟨n1, n2, r1, r2⟩ := hp ps[i] (List.getElem_mem hi)
    have h2 := ht ns (ps[i]).1 hn ⟨n1, by omega⟩
    rw [hs, marksL_snoc]
    have hml : (marksL ns (ps.take i) (zerosL ns)).length = W2 ns := by rw [marksL_len, zerosL_len]
    have hnn := marksL_nn (ns := ns) (ps := ps.take i) (fun q hq => hp q (List.mem_of_mem_take hq)) (ms := zerosL ns) (fun m hm => by unfold zerosL at hm; rw [List.eq_of_mem_replicate hm]; exact Int.le_refl 0)
    generalize marksL ns (ps.take i) (zerosL ns) = M at *
    have hlc : ∀ a0 a1 a2 a3 a6 a7 : Sl, lcGo [a0, a1, a2, a3, .val (.int (ps[i]).2), .val (ttD ns (ps[i]).1), a6, a7] (ftTup [6, 7]) fcYes (eCall gMax2 (aCons (eVar 7) (aCons (e2 gMul (eVar 4) (e2 gSub (eC (.int (1))) (e2 gMod (e2 gShr (eVar 5) (eVar 6)) (eC (.int (2)))))) aNil))) (enD 0 (M.map .int)) = .ok ((stepM ((ps[i]).1.nv ns) (ps[i]).2 M).map .int) := fun a0 a1 a2 a3 a6 a7 => by
      rw [lc_en M (stepF ((ps[i]).1.nv ns) (ps[i]).2 M) (fun w hw => by
        have hb := mod_at ((ps[i]).1.ev ns) (W2 ns) w (by omega)
        have e0 : ((w : Nat) : Int).toNat = w := by omega
        have h0 : 0 ≤ M.getD w 0 := by
          rw [List.getD_eq_getElem?_getD, List.getElem?_eq_getElem hw]; exact hnn _ (List.getElem_mem hw)
        unfold stepF ttD tabD
        generalize M.getD w 0 = v at *
        have hnv : (ps[i]).1.nv ns w = !(ps[i]).1.ev ns w := rfl
        rw [hnv]
        generalize (ps[i]).2 = r at *
        cases q : (ps[i]).1.ev ns w with
        | true =>
          rw [q] at hb
          simp only [if_true] at hb
          have gm : gMax2 [.int v, .int 0] = .ok (.int v) := by rw [gMax2_ii, if_neg (by omega)]
          simp (disch := first | assumption | omega | (simp only [List.length_append, List.length_cons, List.length_nil, List.length_map, List.length_reverse, List.length_replicate, List.length_range, List.length_take, List.length_drop, enD_length, rangeD_length]; omega) | (simp; done) | fail) [decide_eq_true, decide_eq_false, kAsg, kNx, e0, hb, gm, -gMax2_ii]
        | false =>
          rw [q] at hb
          simp only [Bool.false_eq_true, if_false] at hb
          by_cases hv : v < r
          · have gm : gMax2 [.int v, .int r] = .ok (.int r) := by rw [gMax2_ii, if_pos (by omega)]
            simp (disch := first | assumption | omega | (simp only [List.length_append, List.length_cons, List.length_nil, List.length_map, List.length_reverse, List.length_replicate, List.length_range, List.length_take, List.length_drop, enD_length, rangeD_length]; omega) | (simp; done) | fail) [decide_eq_true, decide_eq_false, kAsg, kNx, e0, hb, gm, -gMax2_ii, hv]
          · have gm : gMax2 [.int v, .int r] = .ok (.int v) := by rw [gMax2_ii, if_neg (by omega)]
            simp (disch := first | assumption | omega | (simp only [List.length_append, List.length_cons, List.length_nil, List.length_map, List.length_reverse, List.length_replicate, List.length_range, List.length_take, List.length_drop, enD_length, rangeD_length]; omega) | (simp; done) | fail) [decide_eq_true, decide_eq_false, kAsg, kNx, e0, hb, gm, -gMax2_ii, hv])]
      congr 1
      unfold stepM mixL
      rw [List.map_map]
      exact List.map_congr_left fun w hw => by simp only [Function.comp, if_pos (List.mem_range.mp hw)]
    generalize stepM ((ps[i]).1.nv ns) (ps[i]).2 M = M2 at *
    refine ⟨_, rfl, ?_⟩
    generalize (ps[i]).1.toD = TD at *
    generalize (ps[i]).2 = r at *
    generalize ttD ns (ps[i]).1 = TT at *
    generalize W2 ns = N at *
    simp only [nmD] at h2 hlc ⊢
    simp (disch := first | assumption | omega | (simp only [List.length_append, List.length_cons, List.length_nil, List.length_map, List.length_reverse, List.length_replicate, List.length_range, List.length_take, List.length_drop, enD_length, rangeD_length]; omega) | (simp; done) | fail) [decide_eq_true, decide_eq_false, kAsg, kNx, b_marks_157a_l1, h2, hlc])
  have q1 : gShl (.int 1) (.int (ns.length : Nat)) = .ok (.int (W2 ns : Nat)) := gShl_p ns.length (by have := hn.2.1; omega)
  have et : ps.take (ps.map tpD).length = ps := List.take_of_length_le (by simp)
  rw [et] at e1
  have hlc0 : ∀ a0 a1 a2 a3 a4 a5 a7 : Sl, lcGo [a0, a1, a2, a3, a4, a5, .emp, a7] (ftOne 6) fcYes (eC (.int 0)) (rangeD 0 (W2 ns : Nat)) = .ok ((zerosL ns).map .int) := fun a0 a1 a2 a3 a4 a5 a7 => by
    rw [lc_rng (W2 ns) (fun _ => .int 0) (fun k _ => by simp (disch := first | assumption | omega | (simp only [List.length_append, List.length_cons, List.length_nil, List.length_map, List.length_reverse, List.length_replicate, List.length_range, List.length_take, List.length_drop, enD_length, rangeD_length]; omega) | (simp; done) | fail) [decide_eq_true, decide_eq_false, kAsg, kNx])]
    congr 1
    unfold zerosL
    rw [List.map_replicate]
    apply List.ext_getElem?
    intro i
    by_cases hi : i < W2 ns
    · rw [List.getElem?_map, List.getElem?_range hi, List.getElem?_replicate, if_pos hi]; rfl
    · rw [List.getElem?_eq_none (by simpa using hi), List.getElem?_eq_none (by simpa using hi)]
  simp only [nmD] at e1
  generalize marksL ns ps (zerosL ns) = M at *
  generalize zerosL ns = Z at *
  generalize W2 ns = N at *
  simp (disch := first | assumption | omega | (simp only [List.length_append, List.length_cons, List.length_nil, List.length_map, List.length_reverse, List.length_replicate, List.length_range, List.length_take, List.length_drop, enD_length, rangeD_length]; omega) | (simp; done) | fail) [decide_eq_true, decide_eq_false, kAsg, kNx, b_marks_157a, nmD, q1, hlc0, e1]
end PL

set_option Elab.async false
set_option linter.all false
set_option maxRecDepth 100000
set_option maxHeartbeats 1000000
set_option exponentiation.threshold 20000
/-! LO: common, other orders (k47, k49) -/
namespace PL
set_option autoImplicit false
open PySem L2 PyProof.Rows
def natD (l : List Nat) : List D := l.map fun w => .int (w : Nat)
theorem natD_len (l : List Nat) : (natD l).length = l.length := by simp [natD]
theorem okd_nat (l : List Nat) : Okd 1 (.lst (natD l)) := okd_lst fun d hd => by
  obtain ⟨w, _, rfl⟩ := List.mem_map.mp hd
  exact okd_int _ _
def zAll (rks : List (List Int)) (w : Nat) : Bool := rks.all fun r => decide (r.getD w 0 = 0)
def comL (N : Nat) (rks : List (List Int)) : List Nat := (List.range N).filter (zAll rks)
theorem comL_succ (i : Nat) (rks : List (List Int)) : comL (i + 1) rks = comL i rks ++ if zAll rks i = true then [i] else [] := by
  unfold comL
  rw [List.range_succ, List.filter_append]
  congr 1
  by_cases h : zAll rks i = true <;> simp [h]
theorem comL_le (N : Nat) (rks : List (List Int)) : (comL N rks).length ≤ N := by
  have := List.length_filter_le (zAll rks) (List.range N)
  simpa [comL] using this
def CommonK (f : Fn) : Prop := ∀ (ns : List (List Nat)) (rks : List (List Int)), nmOk ns → ns.length ≤ 8 → rks ≠ [] → rks.length ≤ 1000 → (∀ r ∈ rks, r.length = W2 ns) →
  f [.val (.lst (rks.map (mindD ns)))] = .ok (.own (.lst (natD (comL (W2 ns) rks)))) [.val (.lst (rks.map (mindD ns)))]
theorem common_ok {fs : Fn} (hs : SharedOk fs) : CommonK (bodyF 5 1 1 (b_common fs)) := fun ns rks hn h8 hne hl hr => by
  have h256 : W2 ns ≤ 256 := W2_le h8
  have h1 := hs ns rks hn hne hl
  have q1 : gShl (.int 1) (.int (ns.length : Nat)) = .ok (.int (W2 ns : Nat)) := gShl_p ns.length (by omega)
  obtain ⟨ρ', e1, y3, y4, rfl⟩ := forGo_nxt (ft := ftOne 3) (fb := b_common_l1 fs) (rangeD 0 (W2 ns : Nat)) (fun i ρ => ∃ y3 y4, ρ = [.val (.lst (rks.map (mindD ns))), .val (nmD ns), .own (.lst (natD (comL i rks))), y3, y4])
    [.val (.lst (rks.map (mindD ns))), .val (nmD ns), .own (.lst []), .emp, .emp] ⟨_, _, rfl⟩ (fun i d ρ hd ⟨y3, y4, e⟩ => by
    subst e
    obtain ⟨hi, rfl⟩ := rangeD_get hd
    have hlc : ∀ a0 a1 a2 a4 : Sl, lcGo [a0, a1, a2, .val (.int (i : Nat)), a4] (ftOne 4) fcYes (eBl (e2 gEq (e2 gIx (e2 gIx (eVar 4) (eC (.int (1)))) (eVar 3)) (eC (.int (0))))) (rks.map (mindD ns)) = .ok (rks.map fun r => .bl (decide (r.getD i 0 = 0))) := fun a0 a1 a2 a4 =>
      lc_map (mindD ns) (fun r => .bl (decide (r.getD i 0 = 0))) rks fun r h => by
        have ha := atD r i (by rw [hr r h]; exact hi)
        generalize r.getD i 0 = v at *
        by_cases hv : v = 0 <;> simp (disch := first | assumption | omega | (simp only [List.length_append, List.length_cons, List.length_nil, List.length_map, List.length_reverse, List.length_replicate, List.length_range, List.length_take, List.length_drop, enD_length, rangeD_length]; omega) | (simp; done) | fail) [decide_eq_true, decide_eq_false, kAsg, kNx, mindD, ha, hv]
    have hall : gAll [.lst (rks.map fun r => .bl (decide (r.getD i 0 = 0)))] = .ok (.bl (zAll rks i)) := gAll_f (fun r => decide (r.getD i 0 = 0)) rks
    have hle := comL_le i rks
    have hnl := natD_len (comL i rks)
    rw [comL_succ]
    have hMl : (rks.map (mindD ns)).length ≤ 1000 := by simpa using hl
    generalize (rks.map fun r => D.bl (decide (r.getD i 0 = 0))) = BL at *
    generalize rks.map (mindD ns) = MD at *
    refine ⟨_, rfl, ?_⟩
    cases q : zAll rks i with
    | false =>
      rw [q] at hall
      have e : natD (comL i rks ++ if false = true then [i] else []) = natD (comL i rks) := by simp
      rw [e]
      generalize natD (comL i rks) = CD at *
      simp (disch := first | assumption | omega | (simp only [List.length_append, List.length_cons, List.length_nil, List.length_map, List.length_reverse, List.length_replicate, List.length_range, List.length_take, List.length_drop, enD_length, rangeD_length]; omega) | (simp; done) | fail) [decide_eq_true, decide_eq_false, kAsg, kNx, b_common_l1, hlc, hall]
    | true =>
      rw [q] at hall
      have e : natD (comL i rks ++ if true = true then [i] else []) = natD (comL i rks) ++ [.int (i : Nat)] := by simp [natD]
      rw [e]
      generalize natD (comL i rks) = CD at *
      simp (disch := first | assumption | omega | (simp only [List.length_append, List.length_cons, List.length_nil, List.length_map, List.length_reverse, List.length_replicate, List.length_range, List.length_take, List.length_drop, enD_length, rangeD_length]; omega) | (simp; done) | fail) [decide_eq_true, decide_eq_false, kAsg, kNx, b_common_l1, hlc, hall])
  rw [rangeD_length] at e1
  have e0 : (((W2 ns : Nat) : Int) - 0).toNat = W2 ns := by omega
  rw [e0] at e1
  simp only [nmD] at h1 e1
  generalize natD (comL (W2 ns) rks) = CD at *
  generalize W2 ns = N at *
  generalize rks.map (mindD ns) = MD at *
  simp (disch := first | assumption | omega | (simp only [List.length_append, List.length_cons, List.length_nil, List.length_map, List.length_reverse, List.length_replicate, List.length_range, List.length_take, List.length_drop, enD_length, rangeD_length]; omega) | (simp; done) | fail) [decide_eq_true, decide_eq_false, kAsg, kNx, b_common, nmD, h1, q1, e1]
theorem zAll_perm {a b : List (List Int)} (h : a.Perm b) (w : Nat) : zAll a w = zAll b w := by
  rw [Bool.eq_iff_iff]
  unfold zAll
  rw [List.all_eq_true, List.all_eq_true]
  exact ⟨fun g x hx => g x (h.mem_iff.mpr hx), fun g x hx => g x (h.mem_iff.mp hx)⟩
theorem comL_perm {a b : List (List Int)} (h : a.Perm b) (N : Nat) : comL N a = comL N b := by
  unfold comL
  congr 1
  funext w
  exact zAll_perm h w
theorem tot_perm {a b : List (List Int × Int)} (h : a.Perm b) (w : Nat) : tot a w = tot b w := by
  induction h with
  | nil => rfl
  | cons x _ ih => simp only [tot, ih]
  | swap x y l => simp only [tot]; omega
  | trans _ _ ih1 ih2 => rw [ih1, ih2]
theorem sumsL_perm {n : Nat} {a b : List (List Int × Int)} (h : a.Perm b) (hb : ∀ p ∈ b, p.1.length = 2 ^ n) : sumsL n a = sumsL n b := by
  rw [sumsL_tot fun p hp => hb p (h.mem_iff.mp hp), sumsL_tot hb]
  exact List.map_congr_left fun w _ => tot_perm h w
def OrderK (f : Fn) : Prop := ∀ (ns : List (List Nat)) (ps : List (List Int × Int)) (c : Int), ps ≠ [] → ps.length ≤ 1000 → 0 ≤ c → ∃ qs : List (List Int × Int), qs.Perm ps ∧
  f [.val (.lst (ps.map (pairD ns))), .val (.int c)] = .ok (.val (.lst (qs.map (pairD ns)))) [.val (.lst (ps.map (pairD ns))), .val (.int c)]
theorem order_ok : OrderK (bodyF 5 2 2 b_other_order_7997) := fun ns ps c hne hl h0 => by
  have hpos : 0 < (ps.length : Int) := by have := List.length_pos_iff.mpr hne; omega
  have a0 : 0 ≤ c / 3 % (ps.length : Int) := Int.emod_nonneg _ (by omega)
  generalize ha : c / 3 % (ps.length : Int) = a at *
  have hc1 : cutL (ps.map (pairD ns)) (some a) none = (ps.drop a.toNat).map (pairD ns) := by rw [cut_from _ _ a0, List.map_drop]
  have hc2 : cutL (ps.map (pairD ns)) none (some a) = (ps.take a.toNat).map (pairD ns) := by rw [cut_to _ _ a0, List.map_take]
  obtain ⟨rs, hrs⟩ : ∃ rs, rs = ps.drop a.toNat ++ ps.take a.toNat := ⟨_, rfl⟩
  have hperm : rs.Perm ps := by
    rw [hrs]
    exact (List.perm_append_comm).trans (by rw [List.take_append_drop])
  have hrl := hperm.length_eq
  have hcat : gCat (.lst ((ps.drop a.toNat).map (pairD ns))) (.lst ((ps.take a.toNat).map (pairD ns))) = .ok (.lst (rs.map (pairD ns))) := by
    rw [gCat_ll _ _ (by simp; omega), ← List.map_append, ← hrs]
  have hml : ((ps.map (pairD ns)).length : Int) = (ps.length : Nat) := by simp
  by_cases h3 : c % 3 = 0
  · refine ⟨rs.reverse, (List.reverse_perm _).trans hperm, ?_⟩
    have hrev : (rs.map (pairD ns)).reverse = rs.reverse.map (pairD ns) := List.map_reverse.symm
    generalize (ps.drop a.toNat).map (pairD ns) = X1 at *
    generalize (ps.take a.toNat).map (pairD ns) = X2 at *
    generalize ps.map (pairD ns) = X3 at *
    generalize rs.reverse.map (pairD ns) = X5 at *
    generalize rs.map (pairD ns) = X4 at *
    simp (disch := first | assumption | omega | (simp only [List.length_append, List.length_cons, List.length_nil, List.length_map, List.length_reverse, List.length_replicate, List.length_range, List.length_take, List.length_drop, enD_length, rangeD_length]; omega) | (simp; done) | fail) [decide_eq_true, decide_eq_false, kAsg, kNx, b_other_order_7997, h3, hml, ha, hc1, hc2, hcat, hrev]
  · by_cases h1 : c % 3 = 1
    · have hrne : rs ≠ [] := by intro e; rw [e] at hrl; exact hne (List.length_eq_zero_iff.mp hrl.symm)
      obtain ⟨ts, t, ht⟩ : ∃ ts t, rs = ts ++ [t] := ⟨rs.dropLast, rs.getLast hrne, (List.dropLast_concat_getLast hrne).symm⟩
      have htl : ts.length + 1 = rs.length := by rw [ht]; simp
      have hpos2 : 0 < (ts.length : Int) + 1 := by omega
      have b0 : 0 ≤ c / 18 % ((ts.length : Int) + 1) := Int.emod_nonneg _ (by omega)
      have b1 : c / 18 % ((ts.length : Int) + 1) < (ts.length : Int) + 1 := Int.emod_lt_of_pos _ (by omega)
      generalize hb : c / 18 % ((ts.length : Int) + 1) = b at *
      refine ⟨ts.take b.toNat ++ [t] ++ ts.drop b.toNat, ?_, ?_⟩
      · refine List.Perm.trans ?_ hperm
        rw [ht]
        have p1 : (ts.take b.toNat ++ [t] ++ ts.drop b.toNat).Perm (ts.take b.toNat ++ (ts.drop b.toNat ++ [t])) := by
          rw [List.append_assoc]
          exact List.Perm.append_left _ List.perm_append_comm
        refine p1.trans ?_
        rw [← List.append_assoc, List.take_append_drop]
      · have hX4 : rs.map (pairD ns) = ts.map (pairD ns) ++ [pairD ns t] := by rw [ht]; simp
        have hins : (ts.take b.toNat ++ [t] ++ ts.drop b.toNat).map (pairD ns) = (ts.map (pairD ns)).take b.toNat ++ [pairD ns t] ++ (ts.map (pairD ns)).drop b.toNat := by simp
        have htm : ((ts.map (pairD ns)).length : Int) = (ts.length : Nat) := by simp
        rw [hins]
        rw [hX4] at hcat
        have htm2 : (ts.map (pairD ns)).length < 1000000 := by simp; omega
        generalize (ps.drop a.toNat).map (pairD ns) = X1 at *
        generalize (ps.take a.toNat).map (pairD ns) = X2 at *
        generalize ps.map (pairD ns) = X3 at *
        generalize ts.map (pairD ns) = X5 at *
        generalize pairD ns t = PT at *
        simp (disch := first | assumption | omega | (simp only [List.length_append, List.length_cons, List.length_nil, List.length_map, List.length_reverse, List.length_replicate, List.length_range, List.length_take, List.length_drop, enD_length, rangeD_length]; omega) | (simp; done) | fail) [decide_eq_true, decide_eq_false, kAsg, kNx, b_other_order_7997, h3, h1, hml, ha, hc1, hc2, hcat, htm, hb]
    · refine ⟨rs, hperm, ?_⟩
      generalize (ps.drop a.toNat).map (pairD ns) = X1 at *
      generalize (ps.take a.toNat).map (pairD ns) = X2 at *
      generalize ps.map (pairD ns) = X3 at *
      generalize rs.map (pairD ns) = X4 at *
      simp (disch := first | assumption | omega | (simp only [List.length_append, List.length_cons, List.length_nil, List.length_map, List.length_reverse, List.length_replicate, List.length_range, List.length_take, List.length_drop, enD_length, rangeD_length]; omega) | (simp; done) | fail) [decide_eq_true, decide_eq_false, kAsg, kNx, b_other_order_7997, h3, h1, hml, ha, hc1, hc2, hcat]
/-- the worlds of rank nought of the poured mind -/
theorem tot_nn {n : Nat} : ∀ {ps : List (List Int × Int)}, (∀ p ∈ ps, okP n p) → ∀ w, w < 2 ^ n → 0 ≤ tot ps w ∧ (tot ps w = 0 ↔ zAll (ps.map (·.1)) w = true)
  | [], _, w, _ => by simp [tot, zAll]
  | p :: ps, h, w, hw => by
    obtain ⟨h1, h2, _, _⟩ := h p (by simp)
    obtain ⟨i1, i2⟩ := tot_nn (ps := ps) (fun q hq => h q (by simp [hq])) w hw
    have hr := h1.2 (p.1.getD w 0) (by rw [List.getD_eq_getElem?_getD, List.getElem?_eq_getElem (by rw [h1.1]; exact hw)]; exact List.getElem_mem _)
    have m0 : 0 ≤ p.2 * p.1.getD w 0 := Int.mul_nonneg (by omega) hr.1
    have hz : p.2 * p.1.getD w 0 = 0 ↔ p.1.getD w 0 = 0 := by
      rw [Int.mul_eq_zero]
      constructor
      · rintro (e | e)
        · omega
        · exact e
      · exact .inr
    simp only [tot]
    refine ⟨by omega, ?_⟩
    unfold zAll at i2 ⊢
    simp only [List.map_cons, List.all_cons, Bool.and_eq_true, decide_eq_true_eq]
    rw [← i2, ← hz]
    constructor
    · intro e; omega
    · rintro ⟨e1, e2⟩; omega
theorem poured_zero {n : Nat} {ps : List (List Int × Int)} (h : ∀ p ∈ ps, okP n p) (hne : comL (2 ^ n) (ps.map (·.1)) ≠ []) : (List.range (2 ^ n)).filter (fun w => decide ((lowL (sumsL n ps)).getD w 0 = 0)) = comL (2 ^ n) (ps.map (·.1)) := by
  obtain ⟨v, hv⟩ := List.exists_mem_of_ne_nil _ hne
  unfold comL at hv
  rw [List.mem_filter] at hv
  obtain ⟨hv1, hv2⟩ := hv
  have hv1 := List.mem_range.mp hv1
  rw [sumsL_tot fun p hp => (h p hp).1.1]
  have hmin : minI ((List.range (2 ^ n)).map (tot ps)) = 0 := by
    refine (minI_eq (m := 0) ?_ ?_).symm
    · exact List.mem_map.mpr ⟨v, List.mem_range.mpr hv1, (tot_nn h v hv1).2.mpr hv2⟩
    · intro y hy
      obtain ⟨w, hw, rfl⟩ := List.mem_map.mp hy
      exact (tot_nn h w (List.mem_range.mp hw)).1
  unfold comL
  refine List.filter_congr fun w hw => ?_
  have hw := List.mem_range.mp hw
  rw [lowL_at _ hw, hmin, Int.sub_zero, Bool.eq_iff_iff, decide_eq_true_eq]
  exact (tot_nn h w hw).2
end PL

set_option Elab.async false
set_option linter.all false
set_option maxRecDepth 100000
set_option maxHeartbeats 1000000
set_option exponentiation.threshold 20000
/-! LL: like sentences (k37) -/
namespace PL
set_option autoImplicit false
open PySem L2 PyProof.Rows
def likeT (t x : T) : Int → T := fun way =>
  if way = 0 then .nt (.nt t) else if way = 1 then .bin .an t t else if way = 2 then .bin .or .no t else if way = 3 then .bin .th .yes t else if way = 4 then .bin .sm t .yes
  else if way = 5 then .bin .an t (.bin .or x t) else if way = 6 then .bin .or (.bin .an t x) (.bin .an (.nt x) t) else .nt (.bin .th t (.nt t))
theorem like_ev (ns : List (List Nat)) (t x : T) (way : Int) : (likeT t x way).ev ns = t.ev ns := by
  funext w
  unfold likeT
  repeat' split
  all_goals (simp only [T.ev]; cases t.ev ns w <;> cases x.ev ns w <;> rfl)
theorem like_in {ns : List (List Nat)} {t x : T} (ht : t.nmIn ns) (hx : x.nmIn ns) (way : Int) : (likeT t x way).nmIn ns := by
  unfold likeT
  repeat' split
  all_goals simp [T.nmIn, ht, hx]
theorem like_depth {t x : T} (hx : x.depth ≤ 3) (way : Int) : (likeT t x way).depth ≤ max t.depth 4 + 3 := by
  unfold likeT
  repeat' split
  all_goals (simp only [T.depth]; omega)
def LikeK (f : Fn) : Prop := ∀ (ns : List (List Nat)) (t : T) (c : Int), okN ns → t.nmIn ns → ∃ u : T, f [.val (nmD ns), .val t.toD, .val (.int c)] = .ok (.val u.toD) [.val (nmD ns), .val t.toD, .val (.int c)] ∧ u.nmIn ns ∧ u.depth ≤ max t.depth 4 + 3 ∧ u.ev ns = t.ev ns
theorem like_ok {ft : Fn} (ht : TreeCK ft) : LikeK (bodyF 6 3 3 (b_like_5a18 ft)) := fun ns t c hn hT => by
  obtain ⟨x, e1, n1, d1⟩ := ht ns (c / 8 / 8) 2 hn (by decide)
  refine ⟨likeT t x (c % 8), ?_, like_in hT n1 _, like_depth d1 _, like_ev ..⟩
  have e1' : ft [.val (nmD ns), .val (.int (c / 8 / 8)), .val (.int 2)] = .ok (.val x.toD) [.val (nmD ns), .val (.int (c / 8 / 8)), .val (.int 2)] := e1
  simp only [nmD] at e1'
  have h8 : c % 8 = 0 ∨ c % 8 = 1 ∨ c % 8 = 2 ∨ c % 8 = 3 ∨ c % 8 = 4 ∨ c % 8 = 5 ∨ c % 8 = 6 ∨ c % 8 = 7 := by omega
  rcases h8 with h | h | h | h | h | h | h | h <;> simp only [h, likeT, T.toD, K4.code] <;> (simp (disch := first | assumption | omega | (simp only [List.length_append, List.length_cons, List.length_nil, List.length_map, List.length_reverse, List.length_replicate, List.length_range, List.length_take, List.length_drop, enD_length, rangeD_length]; omega) | (simp; done) | fail) [decide_eq_true, decide_eq_false, kAsg, kNx, b_like_5a18, nmD, e1', h]) <;> rfl
theorem turnL_ev' {ns : List (List Nat)} {t u : T} (h : u.ev ns = t.ev ns) (l : Int) (rs : List Int) : turnL ns u l rs = turnL ns t l rs := by
  have hn : u.nv ns = t.nv ns := by unfold T.nv; rw [h]
  unfold turnL; rw [h, hn]
theorem nv_ev {ns : List (List Nat)} {t u : T} (h : u.ev ns = t.ev ns) : u.nv ns = t.nv ns := by unfold T.nv; rw [h]
theorem giveL_ev {ns : List (List Nat)} {t u : T} (h : u.ev ns = t.ev ns) (rs : List Int) : giveL ns u rs = giveL ns t rs := by
  unfold giveL; rw [nv_ev h, turnL_ev' h]
theorem open_ev {ns : List (List Nat)} {t u : T} (h : u.ev ns = t.ev ns) (ho : openT ns t) : openT ns u := by unfold openT at *; rw [h]; exact ho
def evAll (ns : List (List Nat)) : List T → List T → Prop
  | [], [] => True
  | a :: as, b :: bs => b.ev ns = a.ev ns ∧ evAll ns as bs
  | _, _ => False
theorem evAll_snoc {ns : List (List Nat)} : ∀ {as bs : List T} {a b : T}, evAll ns as bs → b.ev ns = a.ev ns → evAll ns (as ++ [a]) (bs ++ [b])
  | [], [], _, _, _, h => ⟨h, trivial⟩
  | _ :: as, _ :: bs, _, _, h1, h2 => ⟨h1.1, evAll_snoc h1.2 h2⟩
theorem lostF_ev {ns : List (List Nat)} {rs : List Int} {t u : T} {b : Int} (h : u.ev ns = t.ev ns) : ∀ {os us : List T} {i : Nat}, evAll ns os us → lostF ns rs u b i us = lostF ns rs t b i os
  | [], [], _, _ => rfl
  | o :: os, v :: us, i, g => by
    have hv := g.1
    have ho : orE ns u v = orE ns t o := by unfold orE; rw [h, hv]
    simp only [lostF, lostF_ev h g.2]
    congr 1
    unfold lostAt
    rw [hv, ho]
theorem lostL_ev {ns : List (List Nat)} {rs : List Int} {t u : T} {b : Int} (h : u.ev ns = t.ev ns) {os us : List T} (g : evAll ns os us) : lostL ns rs u b us = lostL ns rs t b os := by
  unfold lostL; rw [lostF_ev h g]
/-- the rewritten ones -/
def numL {α : Type} : Nat → List α → List (Nat × α)
  | _, [] => []
  | i, x :: xs => (i, x) :: numL (i + 1) xs
theorem enD_map (f : T → D) : ∀ (os : List T) (i : Nat), enD i (os.map f) = (numL i os).map fun p => .tup [.int (p.1 : Nat), f p.2]
  | [], _ => rfl
  | o :: os, i => by
    have ih := enD_map f os (i + 1)
    show D.tup [.int (i : Nat), f o] :: enD (i + 1) (os.map f) = _
    rw [ih]; rfl
theorem like_all {f : Fn} (hk : LikeK f) (ns : List (List Nat)) (hn : okN ns) (c : Int) (ρ : List Sl) (a b : Nat) (fe : Ev D) (hfe : ∀ (i : Nat) (o : T), fe ((ρ.set a (.val (.int (i : Nat)))).set b (.val o.toD)) = RF.data (f [.val (nmD ns), .val o.toD, .val (.int (c + (i : Nat)))])) :
    ∀ (os : List T) (i : Nat), (∀ o ∈ os, o.nmIn ns ∧ o.depth ≤ 14) → ∃ us : List T, lcGo ρ (ftTup [a, b]) fcYes fe (enD i (os.map T.toD)) = .ok (us.map T.toD) ∧ evAll ns os us ∧ (∀ u ∈ us, okT ns u) ∧ us.length = os.length
  | [], _, _ => ⟨[], rfl, trivial, (fun _ h => by cases h), rfl⟩
  | o :: os, i, h => by
    obtain ⟨us, h1, h2, h3, h4⟩ := like_all hk ns hn c ρ a b fe hfe os (i + 1) fun x hx => h x (by simp [hx])
    obtain ⟨o1, o2⟩ := h o (by simp)
    obtain ⟨u, g1, g2, g3, g4⟩ := hk ns o (c + (i : Nat)) hn o1
    refine ⟨u :: us, ?_, ⟨g4, h2⟩, ?_, by simp [h4]⟩
    · have e := hfe i o
      rw [g1] at e
      exact lcGo_cons (as := [(a, .int (i : Nat)), (b, o.toD)]) rfl e h1
    · intro v hv
      rcases List.mem_cons.mp hv with rfl | hv
      · exact ⟨g2, by omega⟩
      · exact h3 v hv
end PL

set_option Elab.async false
set_option linter.all false
set_option maxRecDepth 100000
set_option maxHeartbeats 1000000
set_option exponentiation.threshold 20000
/-! LW: folded cells, worth, sums of powers (k11) -/
namespace PL
set_option autoImplicit false
open PySem L2 PyProof.Rows
def FoldedK (f : Fn) : Prop := ∀ (s : List Int) (a m : Nat), s.length ≤ 1000 → 1 ≤ m → ∃ cs : List Int, f [.val (.scr s), .val (.int (a : Nat)), .val (.int (m : Nat))] = .ok (.val (.lst (cs.map .int))) [.val (.scr s), .val (.int (a : Nat)), .val (.int (m : Nat))] ∧ cs.length ≤ m
theorem folded_ok : FoldedK (bodyF 6 3 3 b_folded_410c) := fun s a m hs hm => by
  obtain ⟨L, hL⟩ : ∃ L : Nat, L = min m (s.length - a) := ⟨_, rfl⟩
  have hc1 : gMax2 [.int 0, .int ((s.length : Int) - (a : Int))] = .ok (.int ((s.length - a : Nat) : Int)) := by
    rw [gMax2_ii]; congr 2; split <;> omega
  have hc2 : gMin2 [.int (m : Nat), .int ((s.length - a : Nat) : Int)] = .ok (.int (L : Nat)) := by
    rw [gMin2_ii]; congr 2; split <;> omega
  have hlc : ∀ a0 a1 a2 a3 a5 : Sl, lcGo [a0, a1, a2, a3, .emp, a5] (ftOne 4) fcYes (eC (.int 0)) (rangeD 0 (L : Nat)) = .ok ((List.replicate L (0 : Int)).map .int) := fun a0 a1 a2 a3 a5 => by
    rw [lc_rng L (fun _ => .int 0) (fun k _ => by simp (disch := first | assumption | omega | (simp only [List.length_append, List.length_cons, List.length_nil, List.length_map, List.length_reverse, List.length_replicate, List.length_range, List.length_take, List.length_drop, enD_length, rangeD_length]; omega) | (simp; done) | fail) [decide_eq_true, decide_eq_false, kAsg, kNx])]
    congr 1
    rw [List.map_replicate]
    apply List.ext_getElem?
    intro i
    by_cases hi : i < L
    · rw [List.getElem?_map, List.getElem?_range hi, List.getElem?_replicate, if_pos hi]; rfl
    · rw [List.getElem?_eq_none (by simpa using hi), List.getElem?_eq_none (by simpa using hi)]
  have hcut : cutL s (some (a : Int)) none = s.drop a := by rw [cut_from _ _ (by omega)]; congr 1
  obtain ⟨ρ', e1, cs, y4, y5, rfl, hl⟩ := forGo_nxt (ft := ftTup [4, 5]) (fb := b_folded_410c_l1) (enD 0 ((s.drop a).map .int)) (fun i ρ => ∃ (cs : List Int) (y4 y5 : Sl), ρ = [.val (.scr s), .val (.int (a : Nat)), .val (.int (m : Nat)), .own (.lst (cs.map .int)), y4, y5] ∧ cs.length = L)
    [.val (.scr s), .val (.int (a : Nat)), .val (.int (m : Nat)), .own (.lst ((List.replicate L (0 : Int)).map .int)), .emp, .emp] ⟨_, _, _, rfl, by simp⟩ (fun i d ρ hd ⟨cs, y4, y5, e, hl⟩ => by
    subst e
    have hi : i < (s.drop a).length := by have := (List.getElem?_eq_some_iff.mp hd).1; rw [enD_length] at this; simpa using this
    have hr : (s.drop a)[i]? = some (s.drop a)[i] := List.getElem?_eq_getElem hi
    rw [enD_get, List.getElem?_map, hr] at hd
    have ed : d = .tup [.int (i : Nat), .int (s.drop a)[i]] := by simpa using hd.symm
    subst ed
    generalize (s.drop a)[i] = c at *
    have hil : i < s.length - a := by simpa using hi
    have hix : i % m < L := by
      have h1 : i % m < m := Nat.mod_lt _ (by omega)
      have h2 : i % m ≤ i := Nat.mod_le _ _
      omega
    have em : (i : Int) % (m : Int) = ((i % m : Nat) : Int) := by omega
    obtain ⟨j, hj⟩ : ∃ j, i % m = j := ⟨_, rfl⟩
    rw [hj] at hix em
    have hat := atD cs j (by omega)
    generalize cs.getD j 0 = v at *
    have hset : (cs.map D.int).set j (.int (v + c)) = (cs.set j (v + c)).map D.int := by rw [List.map_set]
    have ej : ((j : Nat) : Int).toNat = j := by omega
    refine ⟨_, rfl, ?_⟩
    simp (disch := first | assumption | omega | (simp only [List.length_append, List.length_cons, List.length_nil, List.length_map, List.length_reverse, List.length_replicate, List.length_range, List.length_take, List.length_drop, enD_length, rangeD_length]; omega) | (simp; done) | fail) [decide_eq_true, decide_eq_false, kAsg, kNx, b_folded_410c_l1, ftTup, em, hat, ej]
    exact ⟨cs.set j (v + c), hset, by simp [hl]⟩)
  refine ⟨cs, ?_, by omega⟩
  generalize (List.replicate L (0 : Int)).map D.int = Z at *
  simp (disch := first | assumption | omega | (simp only [List.length_append, List.length_cons, List.length_nil, List.length_map, List.length_reverse, List.length_replicate, List.length_range, List.length_take, List.length_drop, enD_length, rangeD_length]; omega) | (simp; done) | fail) [decide_eq_true, decide_eq_false, kAsg, kNx, b_folded_410c, hc1, hc2, hlc, hcut, -gMax2_ii, -gMin2_ii]
  rw [← List.map_drop, e1]
  simp (disch := first | assumption | omega | (simp only [List.length_append, List.length_cons, List.length_nil, List.length_map, List.length_reverse, List.length_replicate, List.length_range, List.length_take, List.length_drop, enD_length, rangeD_length]; omega) | (simp; done) | fail) [decide_eq_true, decide_eq_false, kAsg, kNx]
def oneI (b : Bool) : Int := if b = true then 1 else 0
def WorthK (n : Nat) (f : Fn) : Prop := ∀ (ns : List (List Nat)) (t : T) (w : Nat), okN ns → t.nmIn ns → t.depth ≤ n → f [.val (nmD ns), .val (.int (w : Nat)), .val t.toD] = .ok (.val (.int (oneI (t.ev ns w)))) [.val (nmD ns), .val (.int (w : Nat)), .val t.toD]
theorem worth_ok {n : Nat} {f : Fn} (hf : WorthK n f) : WorthK (n + 1) (bodyF 5 3 3 (b_worth_3b30 f)) := fun ns t w hn hin hd => by
  cases t with
  | nm x =>
    obtain ⟨j, j1, j2, j3⟩ := nm_pos hin
    have h8 := hn.2.1
    have e : (D.tup (ns.map .str)).nms = some ns := nms_map ns j3
    have hr : T.ev ns (.nm x) w = w.testBit j := by simp only [T.ev, j1, Option.getD_some]; rfl
    rw [hr]
    have hdm := modI w j
    have q1 := gShl_p j (show j ≤ 1000000 by omega)
    have hE1 : 2 ^ j ≤ 2 ^ 8 := Nat.pow_le_pow_right (by decide) (by omega)
    have hE0 : 0 < 2 ^ j := Nat.pow_pos (by decide)
    have hc : ((2 ^ j : Nat) : Int) = (2 : Int) ^ j := by simp
    rw [← hc] at hdm
    generalize 2 ^ j = E at *
    have l1 : (0 : Int) < (E : Int) := by omega
    have l2 : (E : Int) < 1073741824 := by omega
    unfold oneI
    simp (disch := first | assumption | omega | (simp only [List.length_append, List.length_cons, List.length_nil, List.length_map, List.length_reverse, List.length_replicate, List.length_range, List.length_take, List.length_drop, enD_length, rangeD_length]; omega) | (simp; done) | fail) [decide_eq_true, decide_eq_false, kAsg, kNx, b_worth_3b30, nmD, T.toD, e, j1, q1, hdm]
  | yes => simp (disch := first | assumption | omega | (simp only [List.length_append, List.length_cons, List.length_nil, List.length_map, List.length_reverse, List.length_replicate, List.length_range, List.length_take, List.length_drop, enD_length, rangeD_length]; omega) | (simp; done) | fail) [decide_eq_true, decide_eq_false, kAsg, kNx, b_worth_3b30, nmD, T.toD, T.ev, oneI]
  | no => simp (disch := first | assumption | omega | (simp only [List.length_append, List.length_cons, List.length_nil, List.length_map, List.length_reverse, List.length_replicate, List.length_range, List.length_take, List.length_drop, enD_length, rangeD_length]; omega) | (simp; done) | fail) [decide_eq_true, decide_eq_false, kAsg, kNx, b_worth_3b30, nmD, T.toD, T.ev, oneI]
  | nt t =>
    simp only [T.depth] at hd
    have h1 := hf ns t w hn hin (by omega)
    simp only [nmD] at h1
    cases e : t.ev ns w <;> (rw [e] at h1; simp only [oneI, if_true, if_false, Bool.false_eq_true] at h1; simp (disch := first | assumption | omega | (simp only [List.length_append, List.length_cons, List.length_nil, List.length_map, List.length_reverse, List.length_replicate, List.length_range, List.length_take, List.length_drop, enD_length, rangeD_length]; omega) | (simp; done) | fail) [decide_eq_true, decide_eq_false, kAsg, kNx, b_worth_3b30, nmD, T.toD, T.ev, oneI, h1, e])
  | bin k s t =>
    simp only [T.depth] at hd
    have h1 := hf ns s w hn hin.1 (by omega)
    have h2 := hf ns t w hn hin.2 (by omega)
    simp only [nmD] at h1 h2
    cases k <;> cases e1 : s.ev ns w <;> cases e2 : t.ev ns w <;> (rw [e1] at h1; rw [e2] at h2; simp only [oneI, if_true, if_false, Bool.false_eq_true] at h1 h2; simp (disch := first | assumption | omega | (simp only [List.length_append, List.length_cons, List.length_nil, List.length_map, List.length_reverse, List.length_replicate, List.length_range, List.length_take, List.length_drop, enD_length, rangeD_length]; omega) | (simp; done) | fail) [decide_eq_true, decide_eq_false, kAsg, kNx, b_worth_3b30, nmD, T.toD, K4.code, T.ev, oneI, h1, h2, e1, e2])
theorem tabOf_nt (p : Nat → Bool) : ∀ n, tabOf p n + tabOf (fun w => !p w) n = tabOf (fun _ => true) n
  | 0 => rfl
  | n + 1 => by
    have ih := tabOf_nt p n
    simp only [tabOf]
    by_cases h : p n = true <;> simp [h] <;> omega
theorem sum_pow : ∀ n : Nat, ((List.range n).map fun w : Nat => ((2 ^ w : Nat) : Int)).sum = ((tabOf (fun _ => true) n : Nat) : Int)
  | 0 => rfl
  | n + 1 => by
    rw [List.range_succ, List.map_append, List.sum_append, sum_pow n]
    simp only [List.map_cons, List.map_nil, List.sum_cons, List.sum_nil, tabOf, if_true]
    omega
def PlainK (f : Fn) : Prop := ∀ a b : Int, f [.val (.int a), .val (.int b)] = .ok (.val (.bl (decide (a = b)))) [.val (.int a), .val (.int b)]
theorem plain_ok : PlainK (bodyF 2 2 2 b_plain_c793) := fun a b => by
  by_cases h : a = b <;> simp (disch := first | assumption | omega | (simp only [List.length_append, List.length_cons, List.length_nil, List.length_map, List.length_reverse, List.length_replicate, List.length_range, List.length_take, List.length_drop, enD_length, rangeD_length]; omega) | (simp; done) | fail) [decide_eq_true, decide_eq_false, kAsg, kNx, b_plain_c793, h]
end PL

set_option Elab.async false
set_option linter.all false
set_option maxRecDepth 100000
set_option maxHeartbeats 1000000
set_option exponentiation.threshold 20000
/-! LX: the sentence of a table (k23) -/
namespace PL
set_option autoImplicit false
open PySem L2 PyProof.Rows
def joinT (x : List Nat) (low high E : Nat) (tl th : T) : T :=
  if low = 0 then (if high = E then .nm x else .bin .an (.nm x) th)
  else if high = 0 then (if low = E then .nt (.nm x) else .bin .an (.nt (.nm x)) tl)
  else if low = E then .bin .th (.nm x) th
  else if high = E then .bin .or (.nm x) tl
  else if low = E ^^^ high then .bin .sm (.nm x) th
  else .bin .or (.bin .an (.nm x) th) (.bin .an (.nt (.nm x)) tl)
def JoinK (f : Fn) : Prop := ∀ (x : List Nat) (low high E : Nat) (tl th : T), f [.val (.str x), .val (.tup [.int (low : Nat), tl.toD]), .val (.tup [.int (high : Nat), th.toD]), .val (.int (E : Nat))] = .ok (.val (joinT x low high E tl th).toD) [.val (.str x), .val (.tup [.int (low : Nat), tl.toD]), .val (.tup [.int (high : Nat), th.toD]), .val (.int (E : Nat))]
theorem join_ok : JoinK (bodyF 5 4 4 b_joined_by) := fun x low high E tl th => by
  have hx := bxor_nat E high
  have c0 : ∀ a : Nat, ((a : Int) = 0) = (a = 0) := fun a => by simp
  have c1 : ∀ a b : Nat, ((a : Int) = (b : Int)) = (a = b) := fun a b => propext (by omega)
  unfold joinT
  generalize hX : E ^^^ high = X at *
  by_cases h1 : low = 0
  · rw [if_pos h1]; subst h1
    by_cases h2 : high = E
    · rw [if_pos h2]; subst h2; (simp (disch := first | assumption | omega | (simp only [List.length_append, List.length_cons, List.length_nil, List.length_map, List.length_reverse, List.length_replicate, List.length_range, List.length_take, List.length_drop, enD_length, rangeD_length]; omega) | (simp; done) | fail) [decide_eq_true, decide_eq_false, kAsg, kNx, b_joined_by, c0, c1]) <;> rfl
    · rw [if_neg h2]; (simp (disch := first | assumption | omega | (simp only [List.length_append, List.length_cons, List.length_nil, List.length_map, List.length_reverse, List.length_replicate, List.length_range, List.length_take, List.length_drop, enD_length, rangeD_length]; omega) | (simp; done) | fail) [decide_eq_true, decide_eq_false, kAsg, kNx, b_joined_by, c0, c1, h2]) <;> rfl
  · rw [if_neg h1]
    by_cases h2 : high = 0
    · rw [if_pos h2]; subst h2
      by_cases h3 : low = E
      · rw [if_pos h3]; subst h3; (simp (disch := first | assumption | omega | (simp only [List.length_append, List.length_cons, List.length_nil, List.length_map, List.length_reverse, List.length_replicate, List.length_range, List.length_take, List.length_drop, enD_length, rangeD_length]; omega) | (simp; done) | fail) [decide_eq_true, decide_eq_false, kAsg, kNx, b_joined_by, c0, c1, h1]) <;> rfl
      · rw [if_neg h3]; (simp (disch := first | assumption | omega | (simp only [List.length_append, List.length_cons, List.length_nil, List.length_map, List.length_reverse, List.length_replicate, List.length_range, List.length_take, List.length_drop, enD_length, rangeD_length]; omega) | (simp; done) | fail) [decide_eq_true, decide_eq_false, kAsg, kNx, b_joined_by, c0, c1, h1, h3]) <;> rfl
    · rw [if_neg h2]
      by_cases h3 : low = E
      · rw [if_pos h3]; subst h3; (simp (disch := first | assumption | omega | (simp only [List.length_append, List.length_cons, List.length_nil, List.length_map, List.length_reverse, List.length_replicate, List.length_range, List.length_take, List.length_drop, enD_length, rangeD_length]; omega) | (simp; done) | fail) [decide_eq_true, decide_eq_false, kAsg, kNx, b_joined_by, c0, c1, h1, h2]) <;> rfl
      · rw [if_neg h3]
        by_cases h4 : high = E
        · rw [if_pos h4]; subst h4; (simp (disch := first | assumption | omega | (simp only [List.length_append, List.length_cons, List.length_nil, List.length_map, List.length_reverse, List.length_replicate, List.length_range, List.length_take, List.length_drop, enD_length, rangeD_length]; omega) | (simp; done) | fail) [decide_eq_true, decide_eq_false, kAsg, kNx, b_joined_by, c0, c1, h1, h2, h3]) <;> rfl
        · rw [if_neg h4]
          by_cases h5 : low = X
          · rw [if_pos h5]; subst h5; (simp (disch := first | assumption | omega | (simp only [List.length_append, List.length_cons, List.length_nil, List.length_map, List.length_reverse, List.length_replicate, List.length_range, List.length_take, List.length_drop, enD_length, rangeD_length]; omega) | (simp; done) | fail) [decide_eq_true, decide_eq_false, kAsg, kNx, b_joined_by, c0, c1, h1, h2, h3, h4, hx]) <;> rfl
          · rw [if_neg h5]; (simp (disch := first | assumption | omega | (simp only [List.length_append, List.length_cons, List.length_nil, List.length_map, List.length_reverse, List.length_replicate, List.length_range, List.length_take, List.length_drop, enD_length, rangeD_length]; omega) | (simp; done) | fail) [decide_eq_true, decide_eq_false, kAsg, kNx, b_joined_by, c0, c1, h1, h2, h3, h4, h5, hx]) <;> rfl
def treeN (ns : List (List Nat)) : Nat → Nat → T
  | 0, W => if W = 0 then .no else .yes
  | m + 1, W => if W = 0 then .no else if W = 2 ^ 2 ^ (m + 1) - 1 then .yes else
    if W % 2 ^ 2 ^ m = W / 2 ^ 2 ^ m then treeN ns m (W % 2 ^ 2 ^ m)
    else joinT (ns.getD m []) (W % 2 ^ 2 ^ m) (W / 2 ^ 2 ^ m) (2 ^ 2 ^ m - 1) (treeN ns m (W % 2 ^ 2 ^ m)) (treeN ns m (W / 2 ^ 2 ^ m))
theorem half_lt {m W : Nat} (h : W < 2 ^ 2 ^ (m + 1)) : W % 2 ^ 2 ^ m < 2 ^ 2 ^ m ∧ W / 2 ^ 2 ^ m < 2 ^ 2 ^ m := by
  have e : 2 ^ 2 ^ (m + 1) = 2 ^ 2 ^ m * 2 ^ 2 ^ m := by rw [← Nat.pow_add, Nat.pow_succ]; congr 1; omega
  rw [e] at h
  exact ⟨Nat.mod_lt _ (Nat.pow_pos (by decide)), Nat.div_lt_of_lt_mul h⟩
def OverK (n : Nat) (f : Fn) : Prop := ∀ (ns : List (List Nat)) (m W : Nat), okN ns → m ≤ n → m ≤ ns.length → W < 2 ^ 2 ^ m → f [.val (nmD ns), .val (.int (m : Nat)), .val (.int (W : Nat))] = .ok (.val (treeN ns m W).toD) [.val (nmD ns), .val (.int (m : Nat)), .val (.int (W : Nat))]
theorem sub1 {P : Nat} (h : 0 < P) : ((P : Nat) : Int) - 1 = ((P - 1 : Nat) : Int) := by omega
def HalfK (f : Fn) : Prop := ∀ m : Nat, m ≤ 100 → f [.val (.int ((m : Int) + 1))] = .ok (.val (.int ((2 ^ m : Nat) : Int))) [.val (.int ((m : Int) + 1))]
theorem half_ok : HalfK (bodyF 1 1 1 b_half_of) := fun m h => by
  have q := gShl_p m (show m ≤ 1000000 by omega)
  generalize 2 ^ m = E at *
  have e : (m : Int) + 1 - 1 = m := by omega
  simp (disch := first | assumption | omega | (simp only [List.length_append, List.length_cons, List.length_nil, List.length_map, List.length_reverse, List.length_replicate, List.length_range, List.length_take, List.length_drop, enD_length, rangeD_length]; omega) | (simp; done) | fail) [decide_eq_true, decide_eq_false, kAsg, kNx, b_half_of, e, q]
theorem over_ok {n : Nat} {fh fo fj : Fn} (hh : HalfK fh) (ho : OverK n fo) (hj : JoinK fj) : OverK (n + 1) (bodyF 9 3 3 (b_tree_over fh fo fj)) := fun ns m W hn hm hl hW => by
  have h8 := hn.2.1
  have hp8 : 2 ^ m ≤ 2 ^ 8 := Nat.pow_le_pow_right (by decide) (by omega)
  have q1 := gShl_p m (show m ≤ 1000000 by omega)
  have q2 := gShl_p (2 ^ m) (show 2 ^ m ≤ 1000000 by omega)
  cases m with
  | zero =>
    have hW2 : W = 0 ∨ W = 1 := by have : (2 : Nat) ^ 2 ^ 0 = 2 := rfl; omega
    rcases hW2 with rfl | rfl
    · simp (disch := first | assumption | omega | (simp only [List.length_append, List.length_cons, List.length_nil, List.length_map, List.length_reverse, List.length_replicate, List.length_range, List.length_take, List.length_drop, enD_length, rangeD_length]; omega) | (simp; done) | fail) [decide_eq_true, decide_eq_false, kAsg, kNx, b_tree_over, treeN, T.toD]
    · simp only [treeN, T.toD, if_neg (show ¬ (1 = 0) by decide)]
      have q1 : gShl (.int 1) (.int 0) = .ok (.int 1) := q1
      have q2 : gShl (.int 1) (.int 1) = .ok (.int 2) := q2
      simp (disch := first | assumption | omega | (simp only [List.length_append, List.length_cons, List.length_nil, List.length_map, List.length_reverse, List.length_replicate, List.length_range, List.length_take, List.length_drop, enD_length, rangeD_length]; omega) | (simp; done) | fail) [decide_eq_true, decide_eq_false, kAsg, kNx, b_tree_over, q1, q2]
  | succ m =>
    obtain ⟨g1, g2⟩ := half_lt hW
    have hhalf := hh m (by omega)
    have hp8' : 2 ^ m ≤ 2 ^ 8 := Nat.pow_le_pow_right (by decide) (by omega)
    have q3 := gShl_p (2 ^ m) (show 2 ^ m ≤ 1000000 by omega)
    have hpos : 0 < 2 ^ 2 ^ m := Nat.pow_pos (by decide)
    have hpos2 : 0 < 2 ^ 2 ^ (m + 1) := Nat.pow_pos (by decide)
    have r1 := ho ns m (W % 2 ^ 2 ^ m) hn (by omega) (by omega) g1
    have r2 := ho ns m (W / 2 ^ 2 ^ m) hn (by omega) (by omega) g2
    have hjo := hj (ns.getD m []) (W % 2 ^ 2 ^ m) (W / 2 ^ 2 ^ m) (2 ^ 2 ^ m - 1) (treeN ns m (W % 2 ^ 2 ^ m)) (treeN ns m (W / 2 ^ 2 ^ m))
    have ga : gAnd (.int (W : Nat)) (.int ((2 ^ 2 ^ m - 1 : Nat) : Int)) = .ok (.int (W % 2 ^ 2 ^ m : Nat)) := by
      rw [gAnd_ii, band_nat, Nat.and_two_pow_sub_one_eq_mod]
    have gs : gShr (.int (W : Nat)) (.int ((2 ^ m : Nat) : Int)) = .ok (.int (W / 2 ^ 2 ^ m : Nat)) := by
      rw [gShr_ii _ _ (Int.natCast_nonneg _)]
      have e : (((2 ^ m : Nat) : Int)).toNat = 2 ^ m := Int.toNat_natCast _
      rw [e, Int.natCast_ediv]
      simp
    have hx : L2.atI (ns.map D.str) (m : Int) = some (.str (ns.getD m [])) := by
      rw [atI_of _ m (by simp; omega), List.getD_eq_getElem?_getD, List.getElem?_eq_getElem (by omega)]; simp
    have e1 : (((2 ^ 2 ^ (m + 1) : Nat) : Int)) - 1 = ((2 ^ 2 ^ (m + 1) - 1 : Nat) : Int) := sub1 hpos2
    have e2 : (((2 ^ 2 ^ m : Nat) : Int)) - 1 = ((2 ^ 2 ^ m - 1 : Nat) : Int) := sub1 hpos
    have c0 : ∀ a : Nat, ((a : Int) = 0) = (a = 0) := fun a => by simp
    have c1 : ∀ a b : Nat, ((a : Int) = (b : Int)) = (a = b) := fun a b => propext (by omega)
    have em : (((m + 1 : Nat)) : Int) = (m : Int) + 1 := by omega
    have em2 : (m : Int) + 1 - 1 = m := by omega
    simp only [treeN]
    rw [em] at q1 ⊢
    simp only [nmD] at r1 r2
    generalize 2 ^ 2 ^ (m + 1) - 1 = P1 at *
    generalize 2 ^ 2 ^ (m + 1) = P at *
    generalize treeN ns m (W % 2 ^ 2 ^ m) = TL at *
    generalize treeN ns m (W / 2 ^ 2 ^ m) = TH at *
    generalize W % 2 ^ 2 ^ m = lo at *
    generalize W / 2 ^ 2 ^ m = hi at *
    generalize 2 ^ 2 ^ m - 1 = E1 at *
    generalize 2 ^ 2 ^ m = E at *
    generalize 2 ^ (m + 1) = N1 at *
    generalize 2 ^ m = N at *
    generalize ns.getD m [] = x at *
    by_cases h1 : W = 0
    · rw [if_pos h1]
      simp (disch := first | assumption | omega | (simp only [List.length_append, List.length_cons, List.length_nil, List.length_map, List.length_reverse, List.length_replicate, List.length_range, List.length_take, List.length_drop, enD_length, rangeD_length]; omega) | (simp; done) | fail) [decide_eq_true, decide_eq_false, kAsg, kNx, b_tree_over, nmD, h1, c0, c1, T.toD]
    · rw [if_neg h1]
      by_cases h2 : W = P1
      · rw [if_pos h2]
        rw [h2] at h1
        simp (disch := first | assumption | omega | (simp only [List.length_append, List.length_cons, List.length_nil, List.length_map, List.length_reverse, List.length_replicate, List.length_range, List.length_take, List.length_drop, enD_length, rangeD_length]; omega) | (simp; done) | fail) [decide_eq_true, decide_eq_false, kAsg, kNx, b_tree_over, nmD, h1, h2, c0, c1, T.toD, q1, q2, e1]
      · rw [if_neg h2]
        by_cases h3 : lo = hi
        · rw [if_pos h3]
          subst h3
          simp (disch := first | assumption | omega | (simp only [List.length_append, List.length_cons, List.length_nil, List.length_map, List.length_reverse, List.length_replicate, List.length_range, List.length_take, List.length_drop, enD_length, rangeD_length]; omega) | (simp; done) | fail) [decide_eq_true, decide_eq_false, kAsg, kNx, b_tree_over, nmD, h1, h2, c0, c1, q1, q2, e1, hhalf, q3, e2, ga, gs, em2, r1]
        · rw [if_neg h3]
          generalize (joinT x lo hi E1 TL TH).toD = JD at *
          generalize TL.toD = TLD at *
          generalize TH.toD = THD at *
          simp (disch := first | assumption | omega | (simp only [List.length_append, List.length_cons, List.length_nil, List.length_map, List.length_reverse, List.length_replicate, List.length_range, List.length_take, List.length_drop, enD_length, rangeD_length]; omega) | (simp; done) | fail) [decide_eq_true, decide_eq_false, kAsg, kNx, b_tree_over, nmD, h1, h2, h3, c0, c1, q1, q2, e1, hhalf, q3, e2, ga, gs, em2, r1, r2, hx, hjo]
/-- without names: no level beneath is asked -/
theorem over_zero {fh fo fj : Fn} (ns : List (List Nat)) (W : Nat) (hW : W < 2 ^ 2 ^ 0) : bodyF 9 3 3 (b_tree_over fh fo fj) [.val (nmD ns), .val (.int 0), .val (.int (W : Nat))] = .ok (.val (treeN ns 0 W).toD) [.val (nmD ns), .val (.int 0), .val (.int (W : Nat))] := by
  have q1 := gShl_p 0 (show 0 ≤ 1000000 by omega)
  have q2 := gShl_p (2 ^ 0) (show 2 ^ 0 ≤ 1000000 by omega)
  have hW2 : W = 0 ∨ W = 1 := by have : (2 : Nat) ^ 2 ^ 0 = 2 := rfl; omega
  rcases hW2 with rfl | rfl
  · simp (disch := first | assumption | omega | (simp only [List.length_append, List.length_cons, List.length_nil, List.length_map, List.length_reverse, List.length_replicate, List.length_range, List.length_take, List.length_drop, enD_length, rangeD_length]; omega) | (simp; done) | fail) [decide_eq_true, decide_eq_false, kAsg, kNx, b_tree_over, treeN, T.toD]
  · simp only [treeN, T.toD, if_neg (show ¬ (1 = 0) by decide)]
    have q1 : gShl (.int 1) (.int 0) = .ok (.int 1) := q1
    have q2 : gShl (.int 1) (.int 1) = .ok (.int 2) := q2
    simp (disch := first | assumption | omega | (simp only [List.length_append, List.length_cons, List.length_nil, List.length_map, List.length_reverse, List.length_replicate, List.length_range, List.length_take, List.length_drop, enD_length, rangeD_length]; omega) | (simp; done) | fail) [decide_eq_true, decide_eq_false, kAsg, kNx, b_tree_over, q1, q2]
/-! what it says -/
theorem join_ev {ns : List (List Nat)} {x : List Nat} {low high E S : Nat} {tl th : T} {w j : Nat} (hE : E = 2 ^ S - 1) (hl : low < 2 ^ S) (hh : high < 2 ^ S) (hj : j < S) {bx : Bool} (hx : (T.nm x).ev ns w = bx) (h1 : tl.ev ns w = low.testBit j) (h2 : th.ev ns w = high.testBit j) :
    (joinT x low high E tl th).ev ns w = if bx = true then high.testBit j else low.testBit j := by
  have hEj : E.testBit j = true := by rw [hE, Nat.testBit_two_pow_sub_one]; simpa using hj
  have z : (0 : Nat).testBit j = false := Nat.zero_testBit j
  unfold joinT
  split
  next e1 =>
    split
    next e2 => rw [hx, e1, e2, hEj, z]; cases bx <;> rfl
    next e2 => simp only [T.ev] at hx ⊢; rw [hx, h2, e1, z]; cases bx <;> rfl
  next e1 =>
    split
    next e2 =>
      split
      next e3 => simp only [T.ev] at hx ⊢; rw [hx, e2, e3, hEj, z]; cases bx <;> rfl
      next e3 => simp only [T.ev] at hx ⊢; rw [hx, h1, e2, z]; cases bx <;> cases low.testBit j <;> rfl
    next e2 =>
      split
      next e3 => simp only [T.ev] at hx ⊢; rw [hx, h2, e3, hEj]; cases bx <;> cases high.testBit j <;> rfl
      next e3 =>
        split
        next e4 => simp only [T.ev] at hx ⊢; rw [hx, h1, e4, hEj]; cases bx <;> cases low.testBit j <;> rfl
        next e4 =>
          split
          next e5 =>
            have : low.testBit j = !high.testBit j := by rw [e5, Nat.testBit_xor, hEj]; cases high.testBit j <;> rfl
            simp only [T.ev] at hx ⊢; rw [hx, h2, this]; cases bx <;> cases high.testBit j <;> rfl
          next e5 => simp only [T.ev] at hx ⊢; rw [hx, h1, h2]; cases bx <;> cases high.testBit j <;> cases low.testBit j <;> rfl
theorem mod_bit (w m : Nat) : w % 2 ^ (m + 1) = (if w.testBit m = true then 2 ^ m else 0) + w % 2 ^ m := by
  have h : w.testBit m = decide (w / 2 ^ m % 2 = 1) := by
    rw [Bool.eq_iff_iff, decide_eq_true_eq, Nat.testBit_eq_decide_div_mod_eq, decide_eq_true_eq]
  rw [h, Nat.pow_succ, Nat.mod_mul]
  by_cases q : w / 2 ^ m % 2 = 1
  · rw [q]; simp; omega
  · have q' : w / 2 ^ m % 2 = 0 := by omega
    rw [q']; simp
theorem treeN_ev {ns : List (List Nat)} (hd : ns.Nodup) (w : Nat) : ∀ (m W : Nat), m ≤ ns.length → W < 2 ^ 2 ^ m → (treeN ns m W).ev ns w = W.testBit (w % 2 ^ m)
  | 0, W, _, h => by
    have hW2 : W = 0 ∨ W = 1 := by have : (2 : Nat) ^ 2 ^ 0 = 2 := rfl; omega
    have e : w % 2 ^ 0 = 0 := by simp; omega
    rw [e]
    rcases hW2 with rfl | rfl <;> rfl
  | m + 1, W, hm, h => by
    obtain ⟨g1, g2⟩ := half_lt h
    have hj : w % 2 ^ m < 2 ^ m := Nat.mod_lt _ (Nat.pow_pos (by decide))
    have hj2 : w % 2 ^ (m + 1) < 2 ^ (m + 1) := Nat.mod_lt _ (Nat.pow_pos (by decide))
    have ih1 := treeN_ev hd w m (W % 2 ^ 2 ^ m) (by omega) g1
    have ih2 := treeN_ev hd w m (W / 2 ^ 2 ^ m) (by omega) g2
    have hx : (T.nm (ns.getD m [])).ev ns w = w.testBit m := by simp only [T.ev, posS_get hd (show m < ns.length by omega), Option.getD_some]; rfl
    have target : W.testBit (w % 2 ^ (m + 1)) = if w.testBit m = true then (W / 2 ^ 2 ^ m).testBit (w % 2 ^ m) else (W % 2 ^ 2 ^ m).testBit (w % 2 ^ m) := by
      rw [mod_bit]
      by_cases q : w.testBit m = true
      · rw [if_pos q, if_pos q, Nat.testBit_div_two_pow, Nat.add_comm]
      · rw [if_neg q, if_neg q, Nat.testBit_mod_two_pow, Nat.zero_add]; simp [hj]
    simp only [treeN]
    split
    next e => rw [e, Nat.zero_testBit]; rfl
    next e =>
      split
      next e2 => rw [e2, Nat.testBit_two_pow_sub_one]; simp only [T.ev]; simp [hj2]
      next e2 =>
        split
        next e3 => rw [ih1, target, ← e3]; simp
        next e3 => rw [target]; exact join_ev rfl g1 g2 hj hx ih1 ih2
theorem join_size {x : List Nat} {low high E : Nat} {tl th : T} : (joinT x low high E tl th).size ≤ 6 + tl.size + th.size := by
  unfold joinT
  repeat' split
  all_goals (simp only [T.size]; omega)
theorem join_depth {x : List Nat} {low high E d : Nat} {tl th : T} (h1 : tl.depth ≤ d) (h2 : th.depth ≤ d) (hd : 2 ≤ d) : (joinT x low high E tl th).depth ≤ d + 2 := by
  unfold joinT
  repeat' split
  all_goals (simp only [T.depth]; omega)
theorem join_in {ns : List (List Nat)} {x : List Nat} {low high E : Nat} {tl th : T} (hx : x ∈ ns) (h1 : tl.nmIn ns) (h2 : th.nmIn ns) : (joinT x low high E tl th).nmIn ns := by
  unfold joinT
  repeat' split
  all_goals simp [T.nmIn, hx, h1, h2]
theorem treeN_in {ns : List (List Nat)} : ∀ (m W : Nat), m ≤ ns.length → (treeN ns m W).nmIn ns ∧ (treeN ns m W).depth ≤ 2 * m + 2 ∧ (treeN ns m W).size + 6 ≤ 7 * 2 ^ m
  | 0, W, _ => by
    simp only [treeN]
    split <;> exact ⟨trivial, by simp [T.depth], by simp [T.size]⟩
  | m + 1, W, hm => by
    obtain ⟨a1, a2, a3⟩ := treeN_in (ns := ns) m (W % 2 ^ 2 ^ m) (by omega)
    obtain ⟨b1, b2, b3⟩ := treeN_in (ns := ns) m (W / 2 ^ 2 ^ m) (by omega)
    have hpos : 0 < 2 ^ m := Nat.pow_pos (by decide)
    have e : 2 ^ (m + 1) = 2 * 2 ^ m := by rw [Nat.pow_succ]; omega
    simp only [treeN]
    split
    next => exact ⟨trivial, by simp [T.depth], by simp only [T.size]; omega⟩
    next =>
      split
      next => exact ⟨trivial, by simp [T.depth], by simp only [T.size]; omega⟩
      next =>
        split
        next => exact ⟨a1, by omega, by omega⟩
        next =>
          refine ⟨join_in (getD_mem (by omega)) a1 b1, ?_, ?_⟩
          · have := join_depth (x := ns.getD m []) (low := W % 2 ^ 2 ^ m) (high := W / 2 ^ 2 ^ m) (E := 2 ^ 2 ^ m - 1) a2 b2 (by omega); omega
          · have := join_size (x := ns.getD m []) (low := W % 2 ^ 2 ^ m) (high := W / 2 ^ 2 ^ m) (E := 2 ^ 2 ^ m - 1) (tl := treeN ns m (W % 2 ^ 2 ^ m)) (th := treeN ns m (W / 2 ^ 2 ^ m)); omega
theorem tab_treeN {ns : List (List Nat)} (hn : okN ns) {W : Nat} (h : W < 2 ^ W2 ns) : ttD ns (treeN ns ns.length W) = .int (W : Nat) := by
  unfold ttD tabD
  have e : tabOf ((treeN ns ns.length W).ev ns) (W2 ns) = W := by
    apply Nat.eq_of_testBit_eq
    intro w
    rw [tabOf_bit]
    by_cases hw : w < W2 ns
    · rw [treeN_ev hn.1 w ns.length W (Nat.le_refl _) h, Nat.mod_eq_of_lt hw]; simp [hw]
    · have : W.testBit w = false := Nat.testBit_lt_two_pow (Nat.lt_of_lt_of_le h (Nat.pow_le_pow_right (by decide) (by omega)))
      rw [this]; simp [hw]
  rw [e]
def PartsK (n : Nat) (f : Fn) : Prop := ∀ (ns : List (List Nat)) (t : T) (d : Nat), okN ns → t.nmIn ns → t.depth ≤ n → d + t.depth ≤ 41 → f [.val (nmD ns), .val t.toD, .val (.int (d : Nat))] = .ok (.val (.int (t.size : Nat))) [.val (nmD ns), .val t.toD, .val (.int (d : Nat))]
def TableByK (f : Fn) : Prop := ∀ (ns : List (List Nat)) (c o : Int), okN ns → ∃ W : Nat, f [.val (nmD ns), .val (.int c), .val (.int o)] = .ok (.val (.int (W : Nat))) [.val (nmD ns), .val (.int c), .val (.int o)] ∧ W < 2 ^ W2 ns
theorem tableBy_ok {ft fb : Fn} (ht : TreeCK ft) (hb : TabK fb) : TableByK (bodyF 5 3 3 (b_table_by_17f4 ft fb)) := fun ns c o hn => by
  have q1 : gShl (.int 1) (.int (ns.length : Nat)) = .ok (.int (W2 ns : Nat)) := gShl_p ns.length (by have := hn.2.1; omega)
  have h256 := W2_256 hn
  have hW := W2_2 hn
  have q2 := gShl_p (W2 ns) (show W2 ns ≤ 1000000 by omega)
  have hpos : 0 < 2 ^ W2 ns := Nat.pow_pos (by decide)
  have e1 := sub1 hpos
  obtain ⟨j, hj, hj2⟩ : ∃ j : Nat, o % ((W2 ns : Nat) : Int) = (j : Int) ∧ j < W2 ns := by
    have a0 : 0 ≤ o % ((W2 ns : Nat) : Int) := Int.emod_nonneg _ (by omega)
    have a1 : o % ((W2 ns : Nat) : Int) < ((W2 ns : Nat) : Int) := Int.emod_lt_of_pos _ (by omega)
    exact ⟨(o % ((W2 ns : Nat) : Int)).toNat, by omega, by omega⟩
  have q3 := gShl_p j (show j ≤ 1000000 by omega)
  have hj3 : 2 ^ j < 2 ^ W2 ns := Nat.pow_lt_pow_right (by decide) hj2
  have hx := bxor_nat (2 ^ W2 ns - 1) (2 ^ j)
  have hxl : (2 ^ W2 ns - 1) ^^^ 2 ^ j < 2 ^ W2 ns := Nat.xor_lt_two_pow (by omega) hj3
  have modP : ∀ z : Int, ∃ W : Nat, z % ((2 ^ W2 ns : Nat) : Int) = (W : Int) ∧ W < 2 ^ W2 ns := fun z => by
    have p' : (0 : Int) < ((2 ^ W2 ns : Nat) : Int) := Int.ofNat_lt.mpr hpos
    generalize 2 ^ W2 ns = P at *
    have a0 : 0 ≤ z % (P : Int) := Int.emod_nonneg _ (by omega)
    have a1 : z % (P : Int) < (P : Int) := Int.emod_lt_of_pos _ p'
    exact ⟨(z % (P : Int)).toNat, by omega, by omega⟩
  have p' : (0 : Int) < ((2 ^ W2 ns : Nat) : Int) := Int.ofNat_lt.mpr hpos
  have W0 : (0 : Int) < ((W2 ns : Nat) : Int) := by omega
  have h8 : c % 8 = 0 ∨ c % 8 = 1 ∨ c % 8 = 2 ∨ c % 8 = 3 ∨ c % 8 = 4 ∨ (c % 8 ≠ 0 ∧ c % 8 ≠ 1 ∧ c % 8 ≠ 2 ∧ c % 8 ≠ 3 ∧ c % 8 ≠ 4) := by omega
  obtain ⟨x, ex, n1, d1⟩ := ht ns o 4 hn (by decide)
  have ex : ft [.val (nmD ns), .val (.int o), .val (.int 4)] = .ok (.val x.toD) [.val (nmD ns), .val (.int o), .val (.int 4)] := ex
  have hb1 := hb ns x hn ⟨n1, by omega⟩
  have hb1 : fb [.val (nmD ns), .val x.toD] = .ok (.val (.int (tabOf (x.ev ns) (W2 ns) : Nat))) [.val (nmD ns), .val x.toD] := hb1
  have hbl := tabOf_lt (x.ev ns) (W2 ns)
  generalize tabOf (x.ev ns) (W2 ns) = XT at *
  simp only [nmD] at ex hb1
  rcases h8 with h | h | h | h | h | ⟨h0, h1, h2, h3, h4⟩
  · have o2 : o % 2 = 0 ∨ o % 2 = 1 := by omega
    rcases o2 with o2 | o2
    · refine ⟨0, ?_, hpos⟩
      generalize 2 ^ W2 ns - 1 = P1 at *
      generalize 2 ^ W2 ns = P at *
      generalize W2 ns = N at *
      simp (disch := first | assumption | omega | (simp only [List.length_append, List.length_cons, List.length_nil, List.length_map, List.length_reverse, List.length_replicate, List.length_range, List.length_take, List.length_drop, enD_length, rangeD_length]; omega) | (simp; done) | fail) [decide_eq_true, decide_eq_false, kAsg, kNx, b_table_by_17f4, nmD, q1, h, q2, e1, o2]
    · refine ⟨2 ^ W2 ns - 1, ?_, by omega⟩
      generalize 2 ^ W2 ns - 1 = P1 at *
      generalize 2 ^ W2 ns = P at *
      generalize W2 ns = N at *
      simp (disch := first | assumption | omega | (simp only [List.length_append, List.length_cons, List.length_nil, List.length_map, List.length_reverse, List.length_replicate, List.length_range, List.length_take, List.length_drop, enD_length, rangeD_length]; omega) | (simp; done) | fail) [decide_eq_true, decide_eq_false, kAsg, kNx, b_table_by_17f4, nmD, q1, h, q2, e1, o2]
  · refine ⟨2 ^ j, ?_, hj3⟩
    generalize 2 ^ j = J at *
    generalize 2 ^ W2 ns = P at *
    generalize W2 ns = N at *
    simp (disch := first | assumption | omega | (simp only [List.length_append, List.length_cons, List.length_nil, List.length_map, List.length_reverse, List.length_replicate, List.length_range, List.length_take, List.length_drop, enD_length, rangeD_length]; omega) | (simp; done) | fail) [decide_eq_true, decide_eq_false, kAsg, kNx, b_table_by_17f4, nmD, q1, h, hj, q3]
  · refine ⟨_, ?_, hxl⟩
    generalize (2 ^ W2 ns - 1) ^^^ 2 ^ j = XX at *
    generalize 2 ^ j = J at *
    generalize 2 ^ W2 ns - 1 = P1 at *
    generalize 2 ^ W2 ns = P at *
    generalize W2 ns = N at *
    simp (disch := first | assumption | omega | (simp only [List.length_append, List.length_cons, List.length_nil, List.length_map, List.length_reverse, List.length_replicate, List.length_range, List.length_take, List.length_drop, enD_length, rangeD_length]; omega) | (simp; done) | fail) [decide_eq_true, decide_eq_false, kAsg, kNx, b_table_by_17f4, nmD, q1, h, q2, e1, hj, q3, hx]
  · refine ⟨XT, ?_, hbl⟩
    generalize 2 ^ W2 ns = P at *
    generalize W2 ns = N at *
    simp (disch := first | assumption | omega | (simp only [List.length_append, List.length_cons, List.length_nil, List.length_map, List.length_reverse, List.length_replicate, List.length_range, List.length_take, List.length_drop, enD_length, rangeD_length]; omega) | (simp; done) | fail) [decide_eq_true, decide_eq_false, kAsg, kNx, b_table_by_17f4, nmD, q1, h, ex, hb1]
  · obtain ⟨W, w1, w2⟩ := modP o
    refine ⟨W, ?_, w2⟩
    generalize 2 ^ W2 ns = P at *
    generalize W2 ns = N at *
    simp (disch := first | assumption | omega | (simp only [List.length_append, List.length_cons, List.length_nil, List.length_map, List.length_reverse, List.length_replicate, List.length_range, List.length_take, List.length_drop, enD_length, rangeD_length]; omega) | (simp; done) | fail) [decide_eq_true, decide_eq_false, kAsg, kNx, b_table_by_17f4, nmD, q1, h, q2, w1]
  · have b0 : 0 ≤ o % 1000000000000000000000000000000000000000000000000000000000000 := Int.emod_nonneg _ (by decide)
    have b1 : o % 1000000000000000000000000000000000000000000000000000000000000 < 1000000000000000000000000000000000000000000000000000000000000 := Int.emod_lt_of_pos _ (by decide)
    have b2 : 0 ≤ c % 1000000000 ∧ c % 1000000000 < 1000000000 := by omega
    obtain ⟨B, hB, hB0, hB1⟩ : ∃ B : Int, o % 1000000000000000000000000000000000000000000000000000000000000 + c % 1000000000 + 3 = B ∧ 0 ≤ B ∧ B < 2000000000000000000000000000000000000000000000000000000000000 := ⟨_, rfl, by omega, by omega⟩
    have hbig : B.natAbs < 2 ^ 10000 := by
      have a1 : B.natAbs < 2000000000000000000000000000000000000000000000000000000000000 := by omega
      have a2 : (2000000000000000000000000000000000000000000000000000000000000 : Nat) ≤ 2 ^ 300 := by decide +kernel
      exact Nat.lt_of_lt_of_le a1 (Nat.le_trans a2 (Nat.pow_le_pow_right (by decide) (by decide)))
    have gp : gPowW (.int B) (.int 9) = .ok (.int (B ^ 9)) := by
      rw [gPowW_ii _ _ ⟨by decide, by decide, hbig⟩]; rfl
    clear hbig
    obtain ⟨W, w1, w2⟩ := modP (B ^ 9 / 1000000000)
    refine ⟨W, ?_, w2⟩
    generalize 2 ^ W2 ns = P at *
    generalize W2 ns = N at *
    generalize B ^ 9 = B9 at *
    simp (disch := first | assumption | omega | (simp only [List.length_append, List.length_cons, List.length_nil, List.length_map, List.length_reverse, List.length_replicate, List.length_range, List.length_take, List.length_drop, enD_length, rangeD_length]; omega) | (simp; done) | fail) [decide_eq_true, decide_eq_false, kAsg, kNx, b_table_by_17f4, nmD, q1, h0, h1, h2, h3, h4, q2, hB, gp, w1, -gPowW_ii]
theorem parts23_ok {n : Nat} {f : Fn} (hf : PartsK n f) : PartsK (n + 1) (bodyF 3 3 3 (b_parts_2a8e f)) := fun ns t d hn hin hd h41 => by
  have he : gEq t.toD (.tup []) = .ok false := by
    rw [gEq_gen (okd_T hn.2.2.2 t hin) ((okd_tup (n := 0) (ds := []) (fun d h => by cases h)).le (T.depth_pos t)) (by omega)]
    cases t <;> rfl
  cases t with
  | nm x =>
    simp only [T.depth] at h41
    simp only [T.toD] at he
    have hd40 : ¬ (40 : Int) < (d : Int) := by omega
    have hi : gInL (.str x) (ns.map .str) = .ok true := by rw [gInL_strs, decide_eq_true (show x ∈ ns from hin)]
    simp (disch := first | assumption | omega | (simp only [List.length_append, List.length_cons, List.length_nil, List.length_map, List.length_reverse, List.length_replicate, List.length_range, List.length_take, List.length_drop, enD_length, rangeD_length]; omega) | (simp; done) | fail) [decide_eq_true, decide_eq_false, kAsg, kNx, b_parts_2a8e, he, nmD, T.toD, T.size, hd40, hi]
  | yes =>
    simp only [T.depth] at h41
    simp only [T.toD] at he
    have hd40 : ¬ (40 : Int) < (d : Int) := by omega
    simp (disch := first | assumption | omega | (simp only [List.length_append, List.length_cons, List.length_nil, List.length_map, List.length_reverse, List.length_replicate, List.length_range, List.length_take, List.length_drop, enD_length, rangeD_length]; omega) | (simp; done) | fail) [decide_eq_true, decide_eq_false, kAsg, kNx, b_parts_2a8e, he, nmD, T.toD, T.size, hd40]
  | no =>
    simp only [T.depth] at h41
    simp only [T.toD] at he
    have hd40 : ¬ (40 : Int) < (d : Int) := by omega
    simp (disch := first | assumption | omega | (simp only [List.length_append, List.length_cons, List.length_nil, List.length_map, List.length_reverse, List.length_replicate, List.length_range, List.length_take, List.length_drop, enD_length, rangeD_length]; omega) | (simp; done) | fail) [decide_eq_true, decide_eq_false, kAsg, kNx, b_parts_2a8e, he, nmD, T.toD, T.size, hd40]
  | nt t =>
    simp only [T.depth] at h41 hd
    simp only [T.toD] at he
    have hd40 : ¬ (40 : Int) < (d : Int) := by omega
    have h1 := hf ns t (d + 1) hn hin (by omega) (by omega)
    have e : ((d + 1 : Nat) : Int) = (d : Int) + 1 := by omega
    have e2 : ((t.size + 1 : Nat) : Int) = 1 + (t.size : Int) := by omega
    rw [e] at h1
    simp only [nmD, T.size] at h1 ⊢
    rw [e2]
    simp (disch := first | assumption | omega | (simp only [List.length_append, List.length_cons, List.length_nil, List.length_map, List.length_reverse, List.length_replicate, List.length_range, List.length_take, List.length_drop, enD_length, rangeD_length]; omega) | (simp; done) | fail) [decide_eq_true, decide_eq_false, kAsg, kNx, b_parts_2a8e, he, nmD, T.toD, hd40, h1]
  | bin k s t =>
    simp only [T.depth] at h41 hd
    simp only [T.toD] at he
    have hd40 : ¬ (40 : Int) < (d : Int) := by omega
    have h1 := hf ns s (d + 1) hn hin.1 (by omega) (by omega)
    have h2 := hf ns t (d + 1) hn hin.2 (by omega) (by omega)
    have e : ((d + 1 : Nat) : Int) = (d : Int) + 1 := by omega
    have e2 : ((s.size + t.size + 1 : Nat) : Int) = 1 + (s.size : Int) + (t.size : Int) := by omega
    rw [e] at h1 h2
    simp only [nmD, T.size] at h1 h2 ⊢
    rw [e2]
    have hc : gInL (.str k.code) [.str [97, 110, 100], .str [111, 114], .str [116, 104, 101, 110], .str [115, 97, 109, 101]] = .ok true := by
      have := gInL_strs k.code [[97, 110, 100], [111, 114], [116, 104, 101, 110], [115, 97, 109, 101]]
      simp only [List.map_cons, List.map_nil] at this
      rw [this]; cases k <;> rfl
    have hq := K4.code_ne k
    cases k <;> (simp only [K4.code] at hc he; simp (disch := first | assumption | omega | (simp only [List.length_append, List.length_cons, List.length_nil, List.length_map, List.length_reverse, List.length_replicate, List.length_range, List.length_take, List.length_drop, enD_length, rangeD_length]; omega) | (simp; done) | fail) [decide_eq_true, decide_eq_false, kAsg, kNx, b_parts_2a8e, he, nmD, T.toD, K4.code, hd40, hc, h1, h2])
end PL

set_option Elab.async false
set_option linter.all false
set_option maxRecDepth 100000
set_option maxHeartbeats 4000000
namespace Wk23
open PySem PySem.Spec PyProof.Rows L2 PL
def top (i : Nat) : Stmt := PySem.Challenge.pw_mindchange_k23_sentence_of_a_table.main.body.getD i (.Pass ⟨0, 0, 0, 0⟩)
abbrev s_half_of : Stmt := top 1
abbrev s_joined_by : Stmt := top 2
abbrev s_tree_over : Stmt := top 3
abbrev s_tree_of : Stmt := top 4
abbrev s__law_cell_at : Stmt := top 6
abbrev s__law_names_by : Stmt := top 7
abbrev s__law_many : Stmt := top 8
abbrev s__law_tree_by : Stmt := top 9
abbrev s__law_column : Stmt := top 10
abbrev s__law_table : Stmt := top 11
abbrev s__law_parts : Stmt := top 12
abbrev s__law_table_by : Stmt := top 13
abbrev s_law : Stmt := top 14
abbrev N_half_of : List Str := ["many"]
theorem sc_half_of : FnScope N_half_of ["many"] (defScope s_half_of) := ⟨rfl, rfl, rfl, by decide +kernel, rfl, by decide +kernel, by decide +kernel⟩
abbrev N_joined_by : List Str := ["name", "low", "high", "everything", "yes"]
theorem sc_joined_by : FnScope N_joined_by ["name", "low", "high", "everything"] (defScope s_joined_by) := ⟨rfl, rfl, rfl, by decide +kernel, rfl, by decide +kernel, by decide +kernel⟩
abbrev N_tree_over : List Str := ["names", "many", "wanted", "size", "everything", "low", "high", "below", "above"]
theorem sc_tree_over : FnScope N_tree_over ["names", "many", "wanted"] (defScope s_tree_over) := ⟨rfl, rfl, rfl, by decide +kernel, rfl, by decide +kernel, by decide +kernel⟩
abbrev N_tree_of : List Str := ["names", "wanted"]
theorem sc_tree_of : FnScope N_tree_of ["names", "wanted"] (defScope s_tree_of) := ⟨rfl, rfl, rfl, by decide +kernel, rfl, by decide +kernel, by decide +kernel⟩
abbrev N__law_cell_at : List Str := ["_law_script", "_law_k"]
theorem sc__law_cell_at : FnScope N__law_cell_at ["_law_script", "_law_k"] (defScope s__law_cell_at) := ⟨rfl, rfl, rfl, by decide +kernel, rfl, by decide +kernel, by decide +kernel⟩
abbrev N__law_names_by : List Str := ["_law_cell", "_law_many_here", "_law_letters", "_law_m", "_law_fill", "_law_first", "_law_size", "_law_place", "_law_row", "_law_k", "_law_letter"]
theorem sc__law_names_by : FnScope N__law_names_by ["_law_cell", "_law_many_here"] (defScope s__law_names_by) := ⟨rfl, rfl, rfl, by decide +kernel, rfl, by decide +kernel, by decide +kernel⟩
abbrev N__law_many : List Str := ["_law_cell"]
theorem sc__law_many : FnScope N__law_many ["_law_cell"] (defScope s__law_many) := ⟨rfl, rfl, rfl, by decide +kernel, rfl, by decide +kernel, by decide +kernel⟩
abbrev N__law_tree_by : List Str := ["_law_names", "_law_cell", "_law_deep", "_law_m", "_law_way", "_law_rest", "_law_left", "_law_right"]
theorem sc__law_tree_by : FnScope N__law_tree_by ["_law_names", "_law_cell", "_law_deep"] (defScope s__law_tree_by) := ⟨rfl, rfl, rfl, by decide +kernel, rfl, by decide +kernel, by decide +kernel⟩
abbrev N__law_column : List Str := ["_law_n", "_law_k", "_law_row", "_law_size"]
theorem sc__law_column : FnScope N__law_column ["_law_n", "_law_k"] (defScope s__law_column) := ⟨rfl, rfl, rfl, by decide +kernel, rfl, by decide +kernel, by decide +kernel⟩
abbrev N__law_table : List Str := ["_law_names", "_law_tree", "_law_everything", "_law_left", "_law_right"]
theorem sc__law_table : FnScope N__law_table ["_law_names", "_law_tree"] (defScope s__law_table) := ⟨rfl, rfl, rfl, by decide +kernel, rfl, by decide +kernel, by decide +kernel⟩
abbrev N__law_parts : List Str := ["_law_names", "_law_tree", "_law_deep"]
theorem sc__law_parts : FnScope N__law_parts ["_law_names", "_law_tree", "_law_deep"] (defScope s__law_parts) := ⟨rfl, rfl, rfl, by decide +kernel, rfl, by decide +kernel, by decide +kernel⟩
abbrev N__law_table_by : List Str := ["_law_names", "_law_cell", "_law_other", "_law_size", "_law_way"]
theorem sc__law_table_by : FnScope N__law_table_by ["_law_names", "_law_cell", "_law_other"] (defScope s__law_table_by) := ⟨rfl, rfl, rfl, by decide +kernel, rfl, by decide +kernel, by decide +kernel⟩
abbrev N_law : List Str := ["_law_script", "_law_names", "_law_wanted", "_law_found"]
theorem sc_law : FnScope N_law ["_law_script"] (defScope s_law) := ⟨rfl, rfl, rfl, by decide +kernel, rfl, by decide +kernel, by decide +kernel⟩
structure Fns where
  half_of : Fn
  joined_by : Fn
  tree_over : Fn
  tree_of : Fn
  _law_cell_at : Fn
  _law_names_by : Fn
  _law_many : Fn
  _law_tree_by : Fn
  _law_column : Fn
  _law_table : Fn
  _law_parts : Fn
  _law_table_by : Fn
  law : Fn
noncomputable def F0 : Fns := ⟨fun _ => .stuck, fun _ => .stuck, fun _ => .stuck, fun _ => .stuck, fun _ => .stuck, fun _ => .stuck, fun _ => .stuck, fun _ => .stuck, fun _ => .stuck, fun _ => .stuck, fun _ => .stuck, fun _ => .stuck, fun _ => .stuck⟩
noncomputable def b_law (f__law_cell_at f__law_many f__law_names_by f__law_table_by f_tree_of f__law_parts f__law_table : Fn) : Es := (seqS (asgS (ftOne 1) (eFn f__law_names_by (aCons (eFn f__law_cell_at (aCons (eFrz 0) (aCons (eC (.int (0))) aNil))) (aCons (eFn f__law_many (aCons (eFn f__law_cell_at (aCons (eFrz 0) (aCons (eC (.int (1))) aNil))) aNil)) aNil))))
  (seqS (asgS (ftOne 2) (eFn f__law_table_by (aCons (eFrz 1) (aCons (eFn f__law_cell_at (aCons (eFrz 0) (aCons (eC (.int (2))) aNil))) (aCons (eFn f__law_cell_at (aCons (eFrz 0) (aCons (eC (.int (3))) aNil))) aNil)))))
  (seqS (asgS (ftOne 3) (eFn f_tree_of (aCons (eFrz 1) (aCons (eFrz 2) aNil))))
  (retS (eAn (eBl (e2 (gCmp pLe) (eFn f__law_parts (aCons (eFrz 1) (aCons (eFrz 3) (aCons (eC (.int (1))) aNil)))) (eC (.int (2000))))) (eBl (e2 gEq (eFn f__law_table (aCons (eFrz 1) (aCons (eFrz 3) aNil))) (eVar 2))))))))
noncomputable def FS (g : Fns) : Fns where
  half_of := bodyF 1 1 1 (b_half_of)
  joined_by := bodyF 5 4 4 (b_joined_by)
  tree_over := bodyF 9 3 3 (b_tree_over g.half_of g.tree_over g.joined_by)
  tree_of := bodyF 2 2 2 (b_tree_of g.tree_over)
  _law_cell_at := bodyF 2 2 2 (b_cell_at_86d1)
  _law_names_by := bodyF 11 2 2 (b_names_by_963f)
  _law_many := bodyF 1 1 1 (b_many_3526)
  _law_tree_by := bodyF 8 3 3 (b_tree_by_6b1a g._law_tree_by)
  _law_column := bodyF 4 2 2 (b_column_9b2c)
  _law_table := bodyF 5 2 2 (b_table_c67c g._law_column g._law_table)
  _law_parts := bodyF 3 3 3 (b_parts_2a8e g._law_parts)
  _law_table_by := bodyF 5 3 3 (b_table_by_17f4 g._law_tree_by g._law_table)
  law := bodyF 4 1 1 (b_law g._law_cell_at g._law_many g._law_names_by g._law_table_by g.tree_of g._law_parts g._law_table)
noncomputable def F : Nat → Fns
  | 0 => F0
  | n + 1 => FS (F n)
noncomputable abbrev LL0 (g : Fns) : Es := (b_law g._law_cell_at g._law_many g._law_names_by g._law_table_by g.tree_of g._law_parts g._law_table)
structure Txt (K : PySem.W.Frag) (mg : Str → Option Value) where
  d_half_of : Fx K mg "half_of" s_half_of ["many"]
  d_joined_by : Fx K mg "joined_by" s_joined_by ["name", "low", "high", "everything"]
  d_tree_over : Fx K mg "tree_over" s_tree_over ["names", "many", "wanted"]
  d_tree_of : Fx K mg "tree_of" s_tree_of ["names", "wanted"]
  d__law_cell_at : Fx K mg "_law_cell_at" s__law_cell_at ["_law_script", "_law_k"]
  d__law_names_by : Fx K mg "_law_names_by" s__law_names_by ["_law_cell", "_law_many_here"]
  d__law_many : Fx K mg "_law_many" s__law_many ["_law_cell"]
  d__law_tree_by : Fx K mg "_law_tree_by" s__law_tree_by ["_law_names", "_law_cell", "_law_deep"]
  d__law_column : Fx K mg "_law_column" s__law_column ["_law_n", "_law_k"]
  d__law_table : Fx K mg "_law_table" s__law_table ["_law_names", "_law_tree"]
  d__law_parts : Fx K mg "_law_parts" s__law_parts ["_law_names", "_law_tree", "_law_deep"]
  d__law_table_by : Fx K mg "_law_table_by" s__law_table_by ["_law_names", "_law_cell", "_law_other"]
  d_law : Fx K mg "law" s_law ["_law_script"]
  z_int : mg "int" = none
  z_isinstance : mg "isinstance" = none
  z_len : mg "len" = none
  z_range : mg "range" = none
  z_str : mg "str" = none
  z_tuple : mg "tuple" = none
structure All (P : Program) (w : World) {K : PySem.W.Frag} {mg : Str → Option Value} (base : Heap) (T : Txt K mg) (cs : Nat → Addr) (k : Nat) (g : Fns) : Prop where
  half_of : FnOk P w K mg base (L2.CX P w) k T.d_half_of.f T.d_half_of.fd ["many"] (spG K cs 1 g.half_of)
  joined_by : FnOk P w K mg base (L2.CX P w) k T.d_joined_by.f T.d_joined_by.fd ["name", "low", "high", "everything"] (spG K cs 4 g.joined_by)
  tree_over : FnOk P w K mg base (L2.CX P w) k T.d_tree_over.f T.d_tree_over.fd ["names", "many", "wanted"] (spG K cs 3 g.tree_over)
  tree_of : FnOk P w K mg base (L2.CX P w) k T.d_tree_of.f T.d_tree_of.fd ["names", "wanted"] (spG K cs 2 g.tree_of)
  _law_cell_at : FnOk P w K mg base (L2.CX P w) k T.d__law_cell_at.f T.d__law_cell_at.fd ["_law_script", "_law_k"] (spG K cs 2 g._law_cell_at)
  _law_names_by : FnOk P w K mg base (L2.CX P w) k T.d__law_names_by.f T.d__law_names_by.fd ["_law_cell", "_law_many_here"] (spG K cs 2 g._law_names_by)
  _law_many : FnOk P w K mg base (L2.CX P w) k T.d__law_many.f T.d__law_many.fd ["_law_cell"] (spG K cs 1 g._law_many)
  _law_tree_by : FnOk P w K mg base (L2.CX P w) k T.d__law_tree_by.f T.d__law_tree_by.fd ["_law_names", "_law_cell", "_law_deep"] (spG K cs 3 g._law_tree_by)
  _law_column : FnOk P w K mg base (L2.CX P w) k T.d__law_column.f T.d__law_column.fd ["_law_n", "_law_k"] (spG K cs 2 g._law_column)
  _law_table : FnOk P w K mg base (L2.CX P w) k T.d__law_table.f T.d__law_table.fd ["_law_names", "_law_tree"] (spG K cs 2 g._law_table)
  _law_parts : FnOk P w K mg base (L2.CX P w) k T.d__law_parts.f T.d__law_parts.fd ["_law_names", "_law_tree", "_law_deep"] (spG K cs 3 g._law_parts)
  _law_table_by : FnOk P w K mg base (L2.CX P w) k T.d__law_table_by.f T.d__law_table_by.fd ["_law_names", "_law_cell", "_law_other"] (spG K cs 3 g._law_table_by)
  law : FnOk P w K mg base (L2.CX P w) k T.d_law.f T.d_law.fd ["_law_script"] (spG K cs 1 g.law)
section
variable {P : Program} {w : World} {K : PySem.W.Frag} {mg : Str → Option Value} {base : Heap} {T : Txt K mg} {cs : Nat → Addr} {k : Nat} {g : Fns}
theorem all0 : All P w base T cs 0 F0 := ⟨okStuck cs, okStuck cs, okStuck cs, okStuck cs, okStuck cs, okStuck cs, okStuck cs, okStuck cs, okStuck cs, okStuck cs, okStuck cs, okStuck cs, okStuck cs⟩
theorem ok_half_of (A : All P w base T cs k g) : FnOk P w K mg base (L2.CX P w) (k + 1) T.d_half_of.f T.d_half_of.fd ["many"] (spG K cs 1 (bodyF 1 1 1 (b_half_of))) :=
  okF T.d_half_of.fn sc_half_of cs 1 (b_half_of) fun cdv A0 outer s H E hr => by
  have tk : Takes (cxOf (L2.CX P w) P w K mg base N_half_of "half_of" (defScope s_half_of) T.d_half_of.f cdv A0 outer s H E) (fun c d _ H => E c d H) := takes_of rfl rfl rfl rfl
  exact (ss_one (ss_ret (sd_shl (SD.sv sd_int) (SD.sv (sd_sub (sv_var 0) (SD.sv sd_int))))))
theorem ok_joined_by (A : All P w base T cs k g) : FnOk P w K mg base (L2.CX P w) (k + 1) T.d_joined_by.f T.d_joined_by.fd ["name", "low", "high", "everything"] (spG K cs 4 (bodyF 5 4 4 (b_joined_by))) :=
  okF T.d_joined_by.fn sc_joined_by cs 4 (b_joined_by) fun cdv A0 outer s H E hr => by
  have tk : Takes (cxOf (L2.CX P w) P w K mg base N_joined_by "joined_by" (defScope s_joined_by) T.d_joined_by.f cdv A0 outer s H E) (fun c d _ H => E c d H) := takes_of rfl rfl rfl rfl
  exact (ss_cons (ss_asg (sd_tup (sad_cons (sd_str (by decide +kernel)) (sad_cons (sd_var 0) sad_nil))) (tg_name 4 sc_joined_by.nd) (ftOne_ge (by decide)) (ftOne_nx _))
  (ss_cons (ss_if (st_eq hr.units (SD.sv (sd_ix (sv_var 1) (SD.sv sd_int))) (SD.sv sd_int)) (ss_one (ss_ret (sd_if (st_eq hr.units (SD.sv (sd_ix (sv_var 2) (SD.sv sd_int))) (sv_var 3)) (sd_var 4) (sd_tup (sad_cons (sd_str (by decide +kernel)) (sad_cons (sd_var 4) (sad_cons (sd_ix (sv_var 2) (SD.sv sd_int)) sad_nil))))))) ss_nil)
  (ss_cons (ss_if (st_eq hr.units (SD.sv (sd_ix (sv_var 2) (SD.sv sd_int))) (SD.sv sd_int)) (ss_one (ss_ret (sd_if (st_eq hr.units (SD.sv (sd_ix (sv_var 1) (SD.sv sd_int))) (sv_var 3)) (sd_tup (sad_cons (sd_str (by decide +kernel)) (sad_cons (sd_var 4) sad_nil))) (sd_tup (sad_cons (sd_str (by decide +kernel)) (sad_cons (sd_tup (sad_cons (sd_str (by decide +kernel)) (sad_cons (sd_var 4) sad_nil))) (sad_cons (sd_ix (sv_var 1) (SD.sv sd_int)) sad_nil))))))) ss_nil)
  (ss_cons (ss_if (st_eq hr.units (SD.sv (sd_ix (sv_var 1) (SD.sv sd_int))) (sv_var 3)) (ss_one (ss_ret (sd_tup (sad_cons (sd_str (by decide +kernel)) (sad_cons (sd_var 4) (sad_cons (sd_ix (sv_var 2) (SD.sv sd_int)) sad_nil)))))) ss_nil)
  (ss_cons (ss_if (st_eq hr.units (SD.sv (sd_ix (sv_var 2) (SD.sv sd_int))) (sv_var 3)) (ss_one (ss_ret (sd_tup (sad_cons (sd_str (by decide +kernel)) (sad_cons (sd_var 4) (sad_cons (sd_ix (sv_var 1) (SD.sv sd_int)) sad_nil)))))) ss_nil)
  (ss_cons (ss_if (st_eq hr.units (SD.sv (sd_ix (sv_var 1) (SD.sv sd_int))) (SD.sv (sd_xor (sv_var 3) (SD.sv (sd_ix (sv_var 2) (SD.sv sd_int)))))) (ss_one (ss_ret (sd_tup (sad_cons (sd_str (by decide +kernel)) (sad_cons (sd_var 4) (sad_cons (sd_ix (sv_var 2) (SD.sv sd_int)) sad_nil)))))) ss_nil)
  (ss_one (ss_ret (sd_tup (sad_cons (sd_str (by decide +kernel)) (sad_cons (sd_tup (sad_cons (sd_str (by decide +kernel)) (sad_cons (sd_var 4) (sad_cons (sd_ix (sv_var 2) (SD.sv sd_int)) sad_nil)))) (sad_cons (sd_tup (sad_cons (sd_str (by decide +kernel)) (sad_cons (sd_tup (sad_cons (sd_str (by decide +kernel)) (sad_cons (sd_var 4) sad_nil))) (sad_cons (sd_ix (sv_var 1) (SD.sv sd_int)) sad_nil)))) sad_nil))))))))))))
theorem ok_tree_over (A : All P w base T cs k g) : FnOk P w K mg base (L2.CX P w) (k + 1) T.d_tree_over.f T.d_tree_over.fd ["names", "many", "wanted"] (spG K cs 3 (bodyF 9 3 3 (b_tree_over g.half_of g.tree_over g.joined_by))) :=
  okF T.d_tree_over.fn sc_tree_over cs 3 (b_tree_over g.half_of g.tree_over g.joined_by) fun cdv A0 outer s H E hr => by
  have tk : Takes (cxOf (L2.CX P w) P w K mg base N_tree_over "tree_over" (defScope s_tree_over) T.d_tree_over.f cdv A0 outer s H E) (fun c d _ H => E c d H) := takes_of rfl rfl rfl rfl
  exact (ss_cons (ss_if (st_eq hr.units (sv_var 2) (SD.sv sd_int)) (ss_one (ss_ret (sd_tup (sad_cons (sd_str (by decide +kernel)) sad_nil)))) ss_nil)
  (ss_cons (ss_if (st_eq hr.units (sv_var 2) (SD.sv (sd_sub (SD.sv (sd_shl (SD.sv sd_int) (SD.sv (sd_shl (SD.sv sd_int) (sv_var 1))))) (SD.sv sd_int)))) (ss_one (ss_ret (sd_tup (sad_cons (sd_str (by decide +kernel)) sad_nil)))) ss_nil)
  (ss_cons (ss_asg (sd_call A.half_of hr (by rfl) T.d_half_of.mg T.d_half_of.fn.kp T.d_half_of.bd tk (sad_cons (sd_var 1) sad_nil) (aCons_len aNil_len)) (tg_name 3 sc_tree_over.nd) (ftOne_ge (by decide)) (ftOne_nx _))
  (ss_cons (ss_asg (sd_sub (SD.sv (sd_shl (SD.sv sd_int) (sv_var 3))) (SD.sv sd_int)) (tg_name 4 sc_tree_over.nd) (ftOne_ge (by decide)) (ftOne_nx _))
  (ss_cons (ss_asg (sd_and (sv_var 2) (sv_var 4)) (tg_name 5 sc_tree_over.nd) (ftOne_ge (by decide)) (ftOne_nx _))
  (ss_cons (ss_asg (sd_shr (sv_var 2) (sv_var 3)) (tg_name 6 sc_tree_over.nd) (ftOne_ge (by decide)) (ftOne_nx _))
  (ss_cons (ss_if (st_eq hr.units (sv_var 5) (sv_var 6)) (ss_one (ss_ret (sd_call A.tree_over hr (by rfl) T.d_tree_over.mg T.d_tree_over.fn.kp T.d_tree_over.bd tk (sad_cons (sd_var 0) (sad_cons (sd_sub (sv_var 1) (SD.sv sd_int)) (sad_cons (sd_var 5) sad_nil))) (aCons_len (aCons_len (aCons_len aNil_len)))))) ss_nil)
  (ss_cons (ss_asg (sd_tup (sad_cons (sd_var 5) (sad_cons (sd_call A.tree_over hr (by rfl) T.d_tree_over.mg T.d_tree_over.fn.kp T.d_tree_over.bd tk (sad_cons (sd_var 0) (sad_cons (sd_sub (sv_var 1) (SD.sv sd_int)) (sad_cons (sd_var 5) sad_nil))) (aCons_len (aCons_len (aCons_len aNil_len)))) sad_nil))) (tg_name 7 sc_tree_over.nd) (ftOne_ge (by decide)) (ftOne_nx _))
  (ss_cons (ss_asg (sd_tup (sad_cons (sd_var 6) (sad_cons (sd_call A.tree_over hr (by rfl) T.d_tree_over.mg T.d_tree_over.fn.kp T.d_tree_over.bd tk (sad_cons (sd_var 0) (sad_cons (sd_sub (sv_var 1) (SD.sv sd_int)) (sad_cons (sd_var 6) sad_nil))) (aCons_len (aCons_len (aCons_len aNil_len)))) sad_nil))) (tg_name 8 sc_tree_over.nd) (ftOne_ge (by decide)) (ftOne_nx _))
  (ss_one (ss_ret (sd_call A.joined_by hr (by rfl) T.d_joined_by.mg T.d_joined_by.fn.kp T.d_joined_by.bd tk (sad_cons (sd_ix (sv_var 0) (SD.sv (sd_sub (sv_var 1) (SD.sv sd_int)))) (sad_cons (sd_var 7) (sad_cons (sd_var 8) (sad_cons (sd_var 4) sad_nil)))) (aCons_len (aCons_len (aCons_len (aCons_len aNil_len))))))))))))))))
theorem ok_tree_of (A : All P w base T cs k g) : FnOk P w K mg base (L2.CX P w) (k + 1) T.d_tree_of.f T.d_tree_of.fd ["names", "wanted"] (spG K cs 2 (bodyF 2 2 2 (b_tree_of g.tree_over))) :=
  okF T.d_tree_of.fn sc_tree_of cs 2 (b_tree_of g.tree_over) fun cdv A0 outer s H E hr => by
  have tk : Takes (cxOf (L2.CX P w) P w K mg base N_tree_of "tree_of" (defScope s_tree_of) T.d_tree_of.f cdv A0 outer s H E) (fun c d _ H => E c d H) := takes_of rfl rfl rfl rfl
  exact (ss_one (ss_ret (sd_call A.tree_over hr (by rfl) T.d_tree_over.mg T.d_tree_over.fn.kp T.d_tree_over.bd tk (sad_cons (sd_var 0) (sad_cons (sd_len (by rfl) T.z_len (sa_cons (sv_var 0) sa_nil)) (sad_cons (sd_var 1) sad_nil))) (aCons_len (aCons_len (aCons_len aNil_len))))))
theorem ok__law_cell_at (A : All P w base T cs k g) : FnOk P w K mg base (L2.CX P w) (k + 1) T.d__law_cell_at.f T.d__law_cell_at.fd ["_law_script", "_law_k"] (spG K cs 2 (bodyF 2 2 2 (b_cell_at_86d1))) :=
  okF T.d__law_cell_at.fn sc__law_cell_at cs 2 (b_cell_at_86d1) fun cdv A0 outer s H E hr => by
  have tk : Takes (cxOf (L2.CX P w) P w K mg base N__law_cell_at "_law_cell_at" (defScope s__law_cell_at) T.d__law_cell_at.f cdv A0 outer s H E) (fun c d _ H => E c d H) := takes_of rfl rfl rfl rfl
  exact (ss_cons (ss_if (st_lt (sv_var 1) (SD.sv (sd_len (by rfl) T.z_len (sa_cons (sv_var 0) sa_nil)))) (ss_one (ss_ret (sd_ix (sv_var 0) (sv_var 1)))) ss_nil)
  (ss_one (ss_ret sd_int)))
theorem ok__law_names_by (A : All P w base T cs k g) : FnOk P w K mg base (L2.CX P w) (k + 1) T.d__law_names_by.f T.d__law_names_by.fd ["_law_cell", "_law_many_here"] (spG K cs 2 (bodyF 11 2 2 (b_names_by_963f))) :=
  okF T.d__law_names_by.fn sc__law_names_by cs 2 (b_names_by_963f) fun cdv A0 outer s H E hr => by
  have tk : Takes (cxOf (L2.CX P w) P w K mg base N__law_names_by "_law_names_by" (defScope s__law_names_by) T.d__law_names_by.f cdv A0 outer s H E) (fun c d _ H => E c d H) := takes_of rfl rfl rfl rfl
  exact (ss_cons (ss_asg (sd_str (by decide +kernel)) (tg_name 2 sc__law_names_by.nd) (ftOne_ge (by decide)) (ftOne_nx _))
  (ss_cons (ss_asg (sd_mod (sv_var 0) (SD.sv sd_int)) (tg_name 3 sc__law_names_by.nd) (ftOne_ge (by decide)) (ftOne_nx _))
  (ss_cons (ss_asg (sd_ix (sv_var 2) (SD.sv (sd_mod (SD.sv (sd_div (sv_var 3) (SD.sv sd_int))) (SD.sv sd_int)))) (tg_name 4 sc__law_names_by.nd) (ftOne_ge (by decide)) (ftOne_nx _))
  (ss_cons (ss_asg (sd_mod (SD.sv (sd_div (sv_var 3) (SD.sv sd_int))) (SD.sv sd_int)) (tg_name 5 sc__law_names_by.nd) (ftOne_ge (by decide)) (ftOne_nx _))
  (ss_cons (ss_if (st_eq hr.units (SD.sv (sd_mod (sv_var 3) (SD.sv sd_int))) (SD.sv sd_int)) (ss_one (ss_ret (sd_tupleOf (by rfl) T.z_tuple (sa_cons (SD.sv (SN.sd (sn_lc [("_law_k", 9)] rfl rfl sc__law_names_by.nd (SIF.e (sif_range1 (by rfl) T.z_range (sa_cons (sv_var 1) sa_nil))) (blkOk_by (N := N__law_names_by) (sc := defScope s__law_names_by) (by decide +kernel)) (ftOne_in (by decide)) (fun _ _ _ _ _ => (tg_name 9 sc__law_names_by.nd)) (fun _ _ _ _ _ => sts_nil) (fun _ _ _ _ _ => (sd_mul (sv_var 4) (SD.sv (sd_add (SD.sv sd_int) (SD.sv (sd_mod (SD.sv (sd_add (sv_var 5) (SD.sv (sd_mul (SD.sv sd_int) (sv_var 9))))) (SD.sv sd_int)))))))))) sa_nil)))) ss_nil)
  (ss_cons (ss_asg (sd_add (SD.sv sd_int) (SD.sv (sd_mod (SD.sv (sd_div (sv_var 3) (SD.sv sd_int))) (SD.sv sd_int)))) (tg_name 6 sc__law_names_by.nd) (ftOne_ge (by decide)) (ftOne_nx _))
  (ss_cons (ss_asg (sd_mod (SD.sv (sd_div (sv_var 3) (SD.sv sd_int))) (sv_var 6)) (tg_name 7 sc__law_names_by.nd) (ftOne_ge (by decide)) (ftOne_nx _))
  (ss_cons (ss_asgLc (i := 8) [("_law_k", 9)] rfl (by decide) rfl sc__law_names_by.nd (SIF.e (sif_range1 (by rfl) T.z_range (sa_cons (sv_var 1) sa_nil))) (blkOk_by (N := N__law_names_by) (sc := defScope s__law_names_by) (by decide +kernel)) (ftOne_in (by decide)) (fun _ _ _ _ _ => (tg_name 9 sc__law_names_by.nd)) (fun _ _ _ _ _ => sts_nil) (fun _ _ _ _ _ => (sd_ix (sv_var 2) (SD.sv (sd_mod (SD.sv (sd_add (sv_var 5) (SD.sv (sd_mul (SD.sv sd_int) (sv_var 9))))) (SD.sv sd_int))))) (sw_true rfl rfl rfl (by decide +kernel)))
  (ss_one (ss_ret (sd_tupleOf (by rfl) T.z_tuple (sa_cons (SD.sv (SN.sd (sn_lc [("_law_letter", 10)] rfl rfl sc__law_names_by.nd (sie_seq (sv_var 8)) (blkOk_by (N := N__law_names_by) (sc := defScope s__law_names_by) (by decide +kernel)) (ftOne_in (by decide)) (fun _ _ _ _ _ => (tg_name 10 sc__law_names_by.nd)) (fun _ _ _ _ _ => sts_nil) (fun _ _ _ _ _ => (sd_add (SD.sv (sd_add (SD.sv (sd_mul (sv_var 4) (sv_var 7))) (sv_var 10))) (SD.sv (sd_mul (sv_var 4) (SD.sv (sd_sub (SD.sv (sd_sub (sv_var 6) (SD.sv sd_int))) (sv_var 7)))))))))) sa_nil))))))))))))
theorem ok__law_many (A : All P w base T cs k g) : FnOk P w K mg base (L2.CX P w) (k + 1) T.d__law_many.f T.d__law_many.fd ["_law_cell"] (spG K cs 1 (bodyF 1 1 1 (b_many_3526))) :=
  okF T.d__law_many.fn sc__law_many cs 1 (b_many_3526) fun cdv A0 outer s H E hr => by
  have tk : Takes (cxOf (L2.CX P w) P w K mg base N__law_many "_law_many" (defScope s__law_many) T.d__law_many.f cdv A0 outer s H E) (fun c d _ H => E c d H) := takes_of rfl rfl rfl rfl
  exact (ss_one (ss_ret (sd_ix (SD.sv (sd_tup (sad_cons sd_int (sad_cons sd_int (sad_cons sd_int (sad_cons sd_int (sad_cons sd_int (sad_cons sd_int (sad_cons sd_int (sad_cons sd_int (sad_cons sd_int (sad_cons sd_int (sad_cons sd_int (sad_cons sd_int sad_nil)))))))))))))) (SD.sv (sd_mod (sv_var 0) (SD.sv sd_int))))))
theorem ok__law_tree_by (A : All P w base T cs k g) : FnOk P w K mg base (L2.CX P w) (k + 1) T.d__law_tree_by.f T.d__law_tree_by.fd ["_law_names", "_law_cell", "_law_deep"] (spG K cs 3 (bodyF 8 3 3 (b_tree_by_6b1a g._law_tree_by))) :=
  okF T.d__law_tree_by.fn sc__law_tree_by cs 3 (b_tree_by_6b1a g._law_tree_by) fun cdv A0 outer s H E hr => by
  have tk : Takes (cxOf (L2.CX P w) P w K mg base N__law_tree_by "_law_tree_by" (defScope s__law_tree_by) T.d__law_tree_by.f cdv A0 outer s H E) (fun c d _ H => E c d H) := takes_of rfl rfl rfl rfl
  exact (ss_cons (ss_asg (sd_mod (sv_var 1) (SD.sv sd_int)) (tg_name 3 sc__law_tree_by.nd) (ftOne_ge (by decide)) (ftOne_nx _))
  (ss_cons (ss_asg (sd_mod (sv_var 3) (SD.sv sd_int)) (tg_name 4 sc__law_tree_by.nd) (ftOne_ge (by decide)) (ftOne_nx _))
  (ss_cons (ss_asg (sd_div (sv_var 3) (SD.sv sd_int)) (tg_name 5 sc__law_tree_by.nd) (ftOne_ge (by decide)) (ftOne_nx _))
  (ss_cons (ss_if (SW.st (sw_or (st_eq hr.units (sv_var 2) (SD.sv sd_int)) (sw_or1 (st_lt (sv_var 4) (SD.sv sd_int))))) (ss_cons (ss_if (st_eq hr.units (SD.sv (sd_mod (sv_var 5) (SD.sv sd_int))) (SD.sv sd_int)) (ss_one (ss_ret (sd_ix (SD.sv (sd_tup (sad_cons (sd_tup (sad_cons (sd_str (by decide +kernel)) sad_nil)) (sad_cons (sd_tup (sad_cons (sd_str (by decide +kernel)) sad_nil)) sad_nil)))) (SD.sv (sd_mod (SD.sv (sd_div (sv_var 5) (SD.sv sd_int))) (SD.sv sd_int)))))) ss_nil)
  (ss_one (ss_ret (sd_tup (sad_cons (sd_str (by decide +kernel)) (sad_cons (sd_ix (sv_var 0) (SD.sv (sd_mod (sv_var 5) (SD.sv (sd_len (by rfl) T.z_len (sa_cons (sv_var 0) sa_nil)))))) sad_nil)))))) ss_nil)
  (ss_cons (ss_asg (sd_call A._law_tree_by hr (by rfl) T.d__law_tree_by.mg T.d__law_tree_by.fn.kp T.d__law_tree_by.bd tk (sad_cons (sd_var 0) (sad_cons (sd_mod (SD.sv (sd_mul (SD.sv (sd_add (sv_var 5) (SD.sv sd_int))) (SD.sv sd_int))) (SD.sv sd_int)) (sad_cons (sd_sub (sv_var 2) (SD.sv sd_int)) sad_nil))) (aCons_len (aCons_len (aCons_len aNil_len)))) (tg_name 6 sc__law_tree_by.nd) (ftOne_ge (by decide)) (ftOne_nx _))
  (ss_cons (ss_if (st_eq hr.units (sv_var 4) (SD.sv sd_int)) (ss_one (ss_ret (sd_tup (sad_cons (sd_str (by decide +kernel)) (sad_cons (sd_var 6) sad_nil))))) ss_nil)
  (ss_cons (ss_asg (sd_call A._law_tree_by hr (by rfl) T.d__law_tree_by.mg T.d__law_tree_by.fn.kp T.d__law_tree_by.bd tk (sad_cons (sd_var 0) (sad_cons (sd_mod (SD.sv (sd_mul (SD.sv (sd_add (sv_var 5) (SD.sv sd_int))) (SD.sv sd_int))) (SD.sv sd_int)) (sad_cons (sd_sub (sv_var 2) (SD.sv sd_int)) sad_nil))) (aCons_len (aCons_len (aCons_len aNil_len)))) (tg_name 7 sc__law_tree_by.nd) (ftOne_ge (by decide)) (ftOne_nx _))
  (ss_one (ss_ret (sd_tup (sad_cons (sd_ix (SD.sv (sd_tup (sad_cons (sd_str (by decide +kernel)) (sad_cons (sd_str (by decide +kernel)) (sad_cons (sd_str (by decide +kernel)) (sad_cons (sd_str (by decide +kernel)) (sad_cons (sd_str (by decide +kernel)) (sad_cons (sd_str (by decide +kernel)) sad_nil)))))))) (SD.sv (sd_sub (sv_var 4) (SD.sv sd_int)))) (sad_cons (sd_var 6) (sad_cons (sd_var 7) sad_nil)))))))))))))
theorem ok__law_column (A : All P w base T cs k g) : FnOk P w K mg base (L2.CX P w) (k + 1) T.d__law_column.f T.d__law_column.fd ["_law_n", "_law_k"] (spG K cs 2 (bodyF 4 2 2 (b_column_9b2c))) :=
  okF T.d__law_column.fn sc__law_column cs 2 (b_column_9b2c) fun cdv A0 outer s H E hr => by
  have tk : Takes (cxOf (L2.CX P w) P w K mg base N__law_column "_law_column" (defScope s__law_column) T.d__law_column.f cdv A0 outer s H E) (fun c d _ H => E c d H) := takes_of rfl rfl rfl rfl
  exact (ss_cons (ss_asg (sd_shl (SD.sv (sd_sub (SD.sv (sd_shl (SD.sv sd_int) (SD.sv (sd_shl (SD.sv sd_int) (sv_var 1))))) (SD.sv sd_int))) (SD.sv (sd_shl (SD.sv sd_int) (sv_var 1)))) (tg_name 2 sc__law_column.nd) (ftOne_ge (by decide)) (ftOne_nx _))
  (ss_cons (ss_asg (sd_shl (SD.sv sd_int) (sv_var 1)) (tg_name 3 sc__law_column.nd) (ftOne_ge (by decide)) (ftOne_nx _))
  (ss_cons (ss_while 1000000 (passes_of rfl) (st_lt (sv_var 3) (SD.sv (sd_shl (SD.sv sd_int) (sv_var 0)))) (ss_cons (ss_asg (sd_or (sv_var 2) (SD.sv (sd_shl (sv_var 2) (sv_var 3)))) (tg_name 2 sc__law_column.nd) (ftOne_ge (by decide)) (ftOne_nx _))
  (ss_one (ss_asg (sd_mul (SD.sv sd_int) (sv_var 3)) (tg_name 3 sc__law_column.nd) (ftOne_ge (by decide)) (ftOne_nx _)))))
  (ss_one (ss_ret (sd_var 2))))))
theorem ok__law_table (A : All P w base T cs k g) : FnOk P w K mg base (L2.CX P w) (k + 1) T.d__law_table.f T.d__law_table.fd ["_law_names", "_law_tree"] (spG K cs 2 (bodyF 5 2 2 (b_table_c67c g._law_column g._law_table))) :=
  okF T.d__law_table.fn sc__law_table cs 2 (b_table_c67c g._law_column g._law_table) fun cdv A0 outer s H E hr => by
  have tk : Takes (cxOf (L2.CX P w) P w K mg base N__law_table "_law_table" (defScope s__law_table) T.d__law_table.f cdv A0 outer s H E) (fun c d _ H => E c d H) := takes_of rfl rfl rfl rfl
  exact (ss_cons (ss_asg (sd_sub (SD.sv (sd_shl (SD.sv sd_int) (SD.sv (sd_shl (SD.sv sd_int) (SD.sv (sd_len (by rfl) T.z_len (sa_cons (sv_var 0) sa_nil))))))) (SD.sv sd_int)) (tg_name 2 sc__law_table.nd) (ftOne_ge (by decide)) (ftOne_nx _))
  (ss_cons (ss_if (st_eq hr.units (SD.sv (sd_len (by rfl) T.z_len (sa_cons (sv_var 1) sa_nil))) (SD.sv sd_int)) (ss_one (ss_ret (sd_ix (SD.sv (sd_lst (sad_cons sd_int (sad_cons (sd_var 2) sad_nil)))) (SD.sv (sd_intOf (by rfl) T.z_int (sa_cons (SD.sv (sd_eq hr.units (SD.sv (sd_ix (sv_var 1) (SD.sv sd_int))) (SD.sv (sd_str (by decide +kernel))))) sa_nil)))))) ss_nil)
  (ss_cons (ss_if (st_eq hr.units (SD.sv (sd_ix (sv_var 1) (SD.sv sd_int))) (SD.sv (sd_str (by decide +kernel)))) (ss_one (ss_ret (sd_call A._law_column hr (by rfl) T.d__law_column.mg T.d__law_column.fn.kp T.d__law_column.bd tk (sad_cons (sd_len (by rfl) T.z_len (sa_cons (sv_var 0) sa_nil)) (sad_cons (sd_index (sv_var 0) (SD.sv (sd_ix (sv_var 1) (SD.sv sd_int)))) sad_nil)) (aCons_len (aCons_len aNil_len))))) ss_nil)
  (ss_cons (ss_asg (sd_call A._law_table hr (by rfl) T.d__law_table.mg T.d__law_table.fn.kp T.d__law_table.bd tk (sad_cons (sd_var 0) (sad_cons (sd_ix (sv_var 1) (SD.sv sd_int)) sad_nil)) (aCons_len (aCons_len aNil_len))) (tg_name 3 sc__law_table.nd) (ftOne_ge (by decide)) (ftOne_nx _))
  (ss_cons (ss_if (st_eq hr.units (SD.sv (sd_ix (sv_var 1) (SD.sv sd_int))) (SD.sv (sd_str (by decide +kernel)))) (ss_one (ss_ret (sd_xor (sv_var 2) (sv_var 3)))) ss_nil)
  (ss_cons (ss_asg (sd_call A._law_table hr (by rfl) T.d__law_table.mg T.d__law_table.fn.kp T.d__law_table.bd tk (sad_cons (sd_var 0) (sad_cons (sd_ix (sv_var 1) (SD.sv sd_int)) sad_nil)) (aCons_len (aCons_len aNil_len))) (tg_name 4 sc__law_table.nd) (ftOne_ge (by decide)) (ftOne_nx _))
  (ss_cons (ss_if (st_eq hr.units (SD.sv (sd_ix (sv_var 1) (SD.sv sd_int))) (SD.sv (sd_str (by decide +kernel)))) (ss_one (ss_ret (sd_and (sv_var 3) (sv_var 4)))) ss_nil)
  (ss_cons (ss_if (st_eq hr.units (SD.sv (sd_ix (sv_var 1) (SD.sv sd_int))) (SD.sv (sd_str (by decide +kernel)))) (ss_one (ss_ret (sd_or (sv_var 3) (sv_var 4)))) ss_nil)
  (ss_cons (ss_if (st_eq hr.units (SD.sv (sd_ix (sv_var 1) (SD.sv sd_int))) (SD.sv (sd_str (by decide +kernel)))) (ss_one (ss_ret (sd_or (SD.sv (sd_xor (sv_var 2) (sv_var 3))) (sv_var 4)))) ss_nil)
  (ss_one (ss_ret (sd_xor (SD.sv (sd_xor (sv_var 2) (sv_var 3))) (sv_var 4)))))))))))))
theorem ok__law_parts (A : All P w base T cs k g) : FnOk P w K mg base (L2.CX P w) (k + 1) T.d__law_parts.f T.d__law_parts.fd ["_law_names", "_law_tree", "_law_deep"] (spG K cs 3 (bodyF 3 3 3 (b_parts_2a8e g._law_parts))) :=
  okF T.d__law_parts.fn sc__law_parts cs 3 (b_parts_2a8e g._law_parts) fun cdv A0 outer s H E hr => by
  have tk : Takes (cxOf (L2.CX P w) P w K mg base N__law_parts "_law_parts" (defScope s__law_parts) T.d__law_parts.f cdv A0 outer s H E) (fun c d _ H => E c d H) := takes_of rfl rfl rfl rfl
  exact (ss_cons (ss_if (SW.st (sw_or (st_not (st_val (sd_isi (n := "tuple") (by rfl) T.z_isinstance (sv_var 1) (by rfl) T.z_tuple (by decide +kernel)))) (sw_or (st_eq hr.units (sv_var 1) (SD.sv (sd_tup sad_nil))) (sw_or (st_gt (sv_var 2) (SD.sv sd_int)) (sw_or1 (st_not (st_val (sd_isi (n := "str") (by rfl) T.z_isinstance (SD.sv (sd_ix (sv_var 1) (SD.sv sd_int))) (by rfl) T.z_str (by decide +kernel))))))))) (ss_one (ss_ret sd_int)) ss_nil)
  (ss_cons (ss_if (SW.st (sw_or (st_eq hr.units (SD.sv (sd_ix (sv_var 1) (SD.sv sd_int))) (SD.sv (sd_str (by decide +kernel)))) (sw_or1 (st_eq hr.units (SD.sv (sd_ix (sv_var 1) (SD.sv sd_int))) (SD.sv (sd_str (by decide +kernel))))))) (ss_one (ss_ret (sd_ix (SD.sv (sd_lst (sad_cons sd_int (sad_cons sd_int sad_nil)))) (SD.sv (sd_intOf (by rfl) T.z_int (sa_cons (SD.sv (sd_eq hr.units (SD.sv (sd_len (by rfl) T.z_len (sa_cons (sv_var 1) sa_nil))) (SD.sv sd_int))) sa_nil)))))) ss_nil)
  (ss_cons (ss_if (st_eq hr.units (SD.sv (sd_ix (sv_var 1) (SD.sv sd_int))) (SD.sv (sd_str (by decide +kernel)))) (ss_one (ss_ret (sd_ix (SD.sv (sd_lst (sad_cons sd_int (sad_cons sd_int sad_nil)))) (SD.sv (sd_intOf (by rfl) T.z_int (sa_cons (SD.sv (sd_land (sd_eq hr.units (SD.sv (sd_len (by rfl) T.z_len (sa_cons (sv_var 1) sa_nil))) (SD.sv sd_int)) (sd_one (sd_in (hu_of hr) (SD.sv (sd_ix (sv_var 1) (SD.sv sd_int))) (sv_var 0))))) sa_nil)))))) ss_nil)
  (ss_cons (ss_if (SW.st (sw_and (st_eq hr.units (SD.sv (sd_ix (sv_var 1) (SD.sv sd_int))) (SD.sv (sd_str (by decide +kernel)))) (sw_and1 (st_eq hr.units (SD.sv (sd_len (by rfl) T.z_len (sa_cons (sv_var 1) sa_nil))) (SD.sv sd_int))))) (ss_one (ss_ret (sd_add (SD.sv sd_int) (SD.sv (sd_call A._law_parts hr (by rfl) T.d__law_parts.mg T.d__law_parts.fn.kp T.d__law_parts.bd tk (sad_cons (sd_var 0) (sad_cons (sd_ix (sv_var 1) (SD.sv sd_int)) (sad_cons (sd_add (sv_var 2) (SD.sv sd_int)) sad_nil))) (aCons_len (aCons_len (aCons_len aNil_len)))))))) ss_nil)
  (ss_cons (ss_if (SW.st (sw_or (st_ni (hu_of hr) (SD.sv (sd_ix (sv_var 1) (SD.sv sd_int))) (SD.sv (sd_tup (sad_cons (sd_str (by decide +kernel)) (sad_cons (sd_str (by decide +kernel)) (sad_cons (sd_str (by decide +kernel)) (sad_cons (sd_str (by decide +kernel)) sad_nil))))))) (sw_or1 (st_ne hr.units (SD.sv (sd_len (by rfl) T.z_len (sa_cons (sv_var 1) sa_nil))) (SD.sv sd_int))))) (ss_one (ss_ret sd_int)) ss_nil)
  (ss_one (ss_ret (sd_add (SD.sv (sd_add (SD.sv sd_int) (SD.sv (sd_call A._law_parts hr (by rfl) T.d__law_parts.mg T.d__law_parts.fn.kp T.d__law_parts.bd tk (sad_cons (sd_var 0) (sad_cons (sd_ix (sv_var 1) (SD.sv sd_int)) (sad_cons (sd_add (sv_var 2) (SD.sv sd_int)) sad_nil))) (aCons_len (aCons_len (aCons_len aNil_len))))))) (SD.sv (sd_call A._law_parts hr (by rfl) T.d__law_parts.mg T.d__law_parts.fn.kp T.d__law_parts.bd tk (sad_cons (sd_var 0) (sad_cons (sd_ix (sv_var 1) (SD.sv sd_int)) (sad_cons (sd_add (sv_var 2) (SD.sv sd_int)) sad_nil))) (aCons_len (aCons_len (aCons_len aNil_len)))))))))))))
theorem ok__law_table_by (A : All P w base T cs k g) : FnOk P w K mg base (L2.CX P w) (k + 1) T.d__law_table_by.f T.d__law_table_by.fd ["_law_names", "_law_cell", "_law_other"] (spG K cs 3 (bodyF 5 3 3 (b_table_by_17f4 g._law_tree_by g._law_table))) :=
  okF T.d__law_table_by.fn sc__law_table_by cs 3 (b_table_by_17f4 g._law_tree_by g._law_table) fun cdv A0 outer s H E hr => by
  have tk : Takes (cxOf (L2.CX P w) P w K mg base N__law_table_by "_law_table_by" (defScope s__law_table_by) T.d__law_table_by.f cdv A0 outer s H E) (fun c d _ H => E c d H) := takes_of rfl rfl rfl rfl
  exact (ss_cons (ss_asg (sd_shl (SD.sv sd_int) (SD.sv (sd_len (by rfl) T.z_len (sa_cons (sv_var 0) sa_nil)))) (tg_name 3 sc__law_table_by.nd) (ftOne_ge (by decide)) (ftOne_nx _))
  (ss_cons (ss_asg (sd_mod (sv_var 1) (SD.sv sd_int)) (tg_name 4 sc__law_table_by.nd) (ftOne_ge (by decide)) (ftOne_nx _))
  (ss_cons (ss_if (st_eq hr.units (sv_var 4) (SD.sv sd_int)) (ss_one (ss_ret (sd_ix (SD.sv (sd_tup (sad_cons sd_int (sad_cons (sd_sub (SD.sv (sd_shl (SD.sv sd_int) (sv_var 3))) (SD.sv sd_int)) sad_nil)))) (SD.sv (sd_mod (sv_var 2) (SD.sv sd_int)))))) ss_nil)
  (ss_cons (ss_if (st_eq hr.units (sv_var 4) (SD.sv sd_int)) (ss_one (ss_ret (sd_shl (SD.sv sd_int) (SD.sv (sd_mod (sv_var 2) (sv_var 3)))))) ss_nil)
  (ss_cons (ss_if (st_eq hr.units (sv_var 4) (SD.sv sd_int)) (ss_one (ss_ret (sd_xor (SD.sv (sd_sub (SD.sv (sd_shl (SD.sv sd_int) (sv_var 3))) (SD.sv sd_int))) (SD.sv (sd_shl (SD.sv sd_int) (SD.sv (sd_mod (sv_var 2) (sv_var 3)))))))) ss_nil)
  (ss_cons (ss_if (st_eq hr.units (sv_var 4) (SD.sv sd_int)) (ss_one (ss_ret (sd_call A._law_table hr (by rfl) T.d__law_table.mg T.d__law_table.fn.kp T.d__law_table.bd tk (sad_cons (sd_var 0) (sad_cons (sd_call A._law_tree_by hr (by rfl) T.d__law_tree_by.mg T.d__law_tree_by.fn.kp T.d__law_tree_by.bd tk (sad_cons (sd_var 0) (sad_cons (sd_var 2) (sad_cons sd_int sad_nil))) (aCons_len (aCons_len (aCons_len aNil_len)))) sad_nil)) (aCons_len (aCons_len aNil_len))))) ss_nil)
  (ss_cons (ss_if (st_eq hr.units (sv_var 4) (SD.sv sd_int)) (ss_one (ss_ret (sd_mod (sv_var 2) (SD.sv (sd_shl (SD.sv sd_int) (sv_var 3)))))) ss_nil)
  (ss_one (ss_ret (sd_mod (SD.sv (sd_div (SD.sv (sd_powW (SD.sv (sd_add (SD.sv (sd_add (SD.sv (sd_mod (sv_var 2) (SD.sv (sd_pow (SD.sv sd_int) (SD.sv sd_int))))) (SD.sv (sd_mod (sv_var 1) (SD.sv (sd_pow (SD.sv sd_int) (SD.sv sd_int))))))) (SD.sv sd_int))) (SD.sv sd_int))) (SD.sv (sd_pow (SD.sv sd_int) (SD.sv sd_int))))) (SD.sv (sd_shl (SD.sv sd_int) (sv_var 3)))))))))))))
theorem ok_law (A : All P w base T cs k g) : FnOk P w K mg base (L2.CX P w) (k + 1) T.d_law.f T.d_law.fd ["_law_script"] (spG K cs 1 (bodyF 4 1 1 (b_law g._law_cell_at g._law_many g._law_names_by g._law_table_by g.tree_of g._law_parts g._law_table))) :=
  okF T.d_law.fn sc_law cs 1 (b_law g._law_cell_at g._law_many g._law_names_by g._law_table_by g.tree_of g._law_parts g._law_table) fun cdv A0 outer s H E hr => by
  have tk : Takes (cxOf (L2.CX P w) P w K mg base N_law "law" (defScope s_law) T.d_law.f cdv A0 outer s H E) (fun c d _ H => E c d H) := takes_of rfl rfl rfl rfl
  exact (ss_cons (ss_asg (sd_call A._law_names_by hr (by rfl) T.d__law_names_by.mg T.d__law_names_by.fn.kp T.d__law_names_by.bd tk (sad_cons (sd_call A._law_cell_at hr (by rfl) T.d__law_cell_at.mg T.d__law_cell_at.fn.kp T.d__law_cell_at.bd tk (sad_cons (sd_var 0) (sad_cons sd_int sad_nil)) (aCons_len (aCons_len aNil_len))) (sad_cons (sd_call A._law_many hr (by rfl) T.d__law_many.mg T.d__law_many.fn.kp T.d__law_many.bd tk (sad_cons (sd_call A._law_cell_at hr (by rfl) T.d__law_cell_at.mg T.d__law_cell_at.fn.kp T.d__law_cell_at.bd tk (sad_cons (sd_var 0) (sad_cons sd_int sad_nil)) (aCons_len (aCons_len aNil_len))) sad_nil) (aCons_len aNil_len)) sad_nil)) (aCons_len (aCons_len aNil_len))) (tg_name 1 sc_law.nd) (ftOne_ge (by decide)) (ftOne_nx _))
  (ss_cons (ss_asg (sd_call A._law_table_by hr (by rfl) T.d__law_table_by.mg T.d__law_table_by.fn.kp T.d__law_table_by.bd tk (sad_cons (sd_var 1) (sad_cons (sd_call A._law_cell_at hr (by rfl) T.d__law_cell_at.mg T.d__law_cell_at.fn.kp T.d__law_cell_at.bd tk (sad_cons (sd_var 0) (sad_cons sd_int sad_nil)) (aCons_len (aCons_len aNil_len))) (sad_cons (sd_call A._law_cell_at hr (by rfl) T.d__law_cell_at.mg T.d__law_cell_at.fn.kp T.d__law_cell_at.bd tk (sad_cons (sd_var 0) (sad_cons sd_int sad_nil)) (aCons_len (aCons_len aNil_len))) sad_nil))) (aCons_len (aCons_len (aCons_len aNil_len)))) (tg_name 2 sc_law.nd) (ftOne_ge (by decide)) (ftOne_nx _))
  (ss_cons (ss_asg (sd_call A.tree_of hr (by rfl) T.d_tree_of.mg T.d_tree_of.fn.kp T.d_tree_of.bd tk (sad_cons (sd_var 1) (sad_cons (sd_var 2) sad_nil)) (aCons_len (aCons_len aNil_len))) (tg_name 3 sc_law.nd) (ftOne_ge (by decide)) (ftOne_nx _))
  (ss_one (ss_ret (sd_land (sd_le (SD.sv (sd_call A._law_parts hr (by rfl) T.d__law_parts.mg T.d__law_parts.fn.kp T.d__law_parts.bd tk (sad_cons (sd_var 1) (sad_cons (sd_var 3) (sad_cons sd_int sad_nil))) (aCons_len (aCons_len (aCons_len aNil_len))))) (SD.sv sd_int)) (sd_one (sd_eq hr.units (SD.sv (sd_call A._law_table hr (by rfl) T.d__law_table.mg T.d__law_table.fn.kp T.d__law_table.bd tk (sad_cons (sd_var 1) (sad_cons (sd_var 3) sad_nil)) (aCons_len (aCons_len aNil_len)))) (sv_var 2)))))))))
theorem allS (A : All P w base T cs k g) : All P w base T cs (k + 1) (FS g) := ⟨ok_half_of A, ok_joined_by A, ok_tree_over A, ok_tree_of A, ok__law_cell_at A, ok__law_names_by A, ok__law_many A, ok__law_tree_by A, ok__law_column A, ok__law_table A, ok__law_parts A, ok__law_table_by A, ok_law A⟩
theorem allF : ∀ n, All P w base T cs n (F n)
  | 0 => all0
  | n + 1 => allS (allF n)
end
theorem txt_mk {K : PySem.W.Frag} {h : Heap} {mg : Str → Option Value} {fa : Addr} (X : K.In h) (G : h.Ns mainGlobals mg) (hfa : mg "law" = some (.ref fa))
  {f_half_of : Addr} {oc_half_of : Value} {od_half_of an_half_of : Option Addr} {sl_half_of : Array (Option Value)} {kV_half_of dc_half_of pm_half_of cd_half_of ct_half_of : Value}
  {f_joined_by : Addr} {oc_joined_by : Value} {od_joined_by an_joined_by : Option Addr} {sl_joined_by : Array (Option Value)} {kV_joined_by dc_joined_by pm_joined_by cd_joined_by ct_joined_by : Value}
  {f_tree_over : Addr} {oc_tree_over : Value} {od_tree_over an_tree_over : Option Addr} {sl_tree_over : Array (Option Value)} {kV_tree_over dc_tree_over pm_tree_over cd_tree_over ct_tree_over : Value}
  {f_tree_of : Addr} {oc_tree_of : Value} {od_tree_of an_tree_of : Option Addr} {sl_tree_of : Array (Option Value)} {kV_tree_of dc_tree_of pm_tree_of cd_tree_of ct_tree_of : Value}
  {f__law_cell_at : Addr} {oc__law_cell_at : Value} {od__law_cell_at an__law_cell_at : Option Addr} {sl__law_cell_at : Array (Option Value)} {kV__law_cell_at dc__law_cell_at pm__law_cell_at cd__law_cell_at ct__law_cell_at : Value}
  {f__law_names_by : Addr} {oc__law_names_by : Value} {od__law_names_by an__law_names_by : Option Addr} {sl__law_names_by : Array (Option Value)} {kV__law_names_by dc__law_names_by pm__law_names_by cd__law_names_by ct__law_names_by : Value}
  {f__law_many : Addr} {oc__law_many : Value} {od__law_many an__law_many : Option Addr} {sl__law_many : Array (Option Value)} {kV__law_many dc__law_many pm__law_many cd__law_many ct__law_many : Value}
  {f__law_tree_by : Addr} {oc__law_tree_by : Value} {od__law_tree_by an__law_tree_by : Option Addr} {sl__law_tree_by : Array (Option Value)} {kV__law_tree_by dc__law_tree_by pm__law_tree_by cd__law_tree_by ct__law_tree_by : Value}
  {f__law_column : Addr} {oc__law_column : Value} {od__law_column an__law_column : Option Addr} {sl__law_column : Array (Option Value)} {kV__law_column dc__law_column pm__law_column cd__law_column ct__law_column : Value}
  {f__law_table : Addr} {oc__law_table : Value} {od__law_table an__law_table : Option Addr} {sl__law_table : Array (Option Value)} {kV__law_table dc__law_table pm__law_table cd__law_table ct__law_table : Value}
  {f__law_parts : Addr} {oc__law_parts : Value} {od__law_parts an__law_parts : Option Addr} {sl__law_parts : Array (Option Value)} {kV__law_parts dc__law_parts pm__law_parts cd__law_parts ct__law_parts : Value}
  {f__law_table_by : Addr} {oc__law_table_by : Value} {od__law_table_by an__law_table_by : Option Addr} {sl__law_table_by : Array (Option Value)} {kV__law_table_by dc__law_table_by pm__law_table_by cd__law_table_by ct__law_table_by : Value}
  {f_law : Addr} {oc_law : Value} {od_law an_law : Option Addr} {sl_law : Array (Option Value)} {kV_law dc_law pm_law cd_law ct_law : Value}
  (a_half_of : PySem.W.nsIn K mainGlobals "half_of" = some (some (.ref f_half_of))) (l_half_of : K.lookup f_half_of = some ⟨oc_half_of, od_half_of, .func (PySem.W.fnOf "half_of" "half_of" (defArgs s_half_of) (defBody s_half_of) (defScope s_half_of) .none kV_half_of dc_half_of pm_half_of an_half_of cd_half_of ct_half_of), sl_half_of⟩) (c_half_of : PySem.W.codeIn K cd_half_of "half_of" = true) (k_half_of : PySem.W.keepIn K (.ref f_half_of) = true)
  (a_joined_by : PySem.W.nsIn K mainGlobals "joined_by" = some (some (.ref f_joined_by))) (l_joined_by : K.lookup f_joined_by = some ⟨oc_joined_by, od_joined_by, .func (PySem.W.fnOf "joined_by" "joined_by" (defArgs s_joined_by) (defBody s_joined_by) (defScope s_joined_by) .none kV_joined_by dc_joined_by pm_joined_by an_joined_by cd_joined_by ct_joined_by), sl_joined_by⟩) (c_joined_by : PySem.W.codeIn K cd_joined_by "joined_by" = true) (k_joined_by : PySem.W.keepIn K (.ref f_joined_by) = true)
  (a_tree_over : PySem.W.nsIn K mainGlobals "tree_over" = some (some (.ref f_tree_over))) (l_tree_over : K.lookup f_tree_over = some ⟨oc_tree_over, od_tree_over, .func (PySem.W.fnOf "tree_over" "tree_over" (defArgs s_tree_over) (defBody s_tree_over) (defScope s_tree_over) .none kV_tree_over dc_tree_over pm_tree_over an_tree_over cd_tree_over ct_tree_over), sl_tree_over⟩) (c_tree_over : PySem.W.codeIn K cd_tree_over "tree_over" = true) (k_tree_over : PySem.W.keepIn K (.ref f_tree_over) = true)
  (a_tree_of : PySem.W.nsIn K mainGlobals "tree_of" = some (some (.ref f_tree_of))) (l_tree_of : K.lookup f_tree_of = some ⟨oc_tree_of, od_tree_of, .func (PySem.W.fnOf "tree_of" "tree_of" (defArgs s_tree_of) (defBody s_tree_of) (defScope s_tree_of) .none kV_tree_of dc_tree_of pm_tree_of an_tree_of cd_tree_of ct_tree_of), sl_tree_of⟩) (c_tree_of : PySem.W.codeIn K cd_tree_of "tree_of" = true) (k_tree_of : PySem.W.keepIn K (.ref f_tree_of) = true)
  (a__law_cell_at : PySem.W.nsIn K mainGlobals "_law_cell_at" = some (some (.ref f__law_cell_at))) (l__law_cell_at : K.lookup f__law_cell_at = some ⟨oc__law_cell_at, od__law_cell_at, .func (PySem.W.fnOf "_law_cell_at" "_law_cell_at" (defArgs s__law_cell_at) (defBody s__law_cell_at) (defScope s__law_cell_at) .none kV__law_cell_at dc__law_cell_at pm__law_cell_at an__law_cell_at cd__law_cell_at ct__law_cell_at), sl__law_cell_at⟩) (c__law_cell_at : PySem.W.codeIn K cd__law_cell_at "_law_cell_at" = true) (k__law_cell_at : PySem.W.keepIn K (.ref f__law_cell_at) = true)
  (a__law_names_by : PySem.W.nsIn K mainGlobals "_law_names_by" = some (some (.ref f__law_names_by))) (l__law_names_by : K.lookup f__law_names_by = some ⟨oc__law_names_by, od__law_names_by, .func (PySem.W.fnOf "_law_names_by" "_law_names_by" (defArgs s__law_names_by) (defBody s__law_names_by) (defScope s__law_names_by) .none kV__law_names_by dc__law_names_by pm__law_names_by an__law_names_by cd__law_names_by ct__law_names_by), sl__law_names_by⟩) (c__law_names_by : PySem.W.codeIn K cd__law_names_by "_law_names_by" = true) (k__law_names_by : PySem.W.keepIn K (.ref f__law_names_by) = true)
  (a__law_many : PySem.W.nsIn K mainGlobals "_law_many" = some (some (.ref f__law_many))) (l__law_many : K.lookup f__law_many = some ⟨oc__law_many, od__law_many, .func (PySem.W.fnOf "_law_many" "_law_many" (defArgs s__law_many) (defBody s__law_many) (defScope s__law_many) .none kV__law_many dc__law_many pm__law_many an__law_many cd__law_many ct__law_many), sl__law_many⟩) (c__law_many : PySem.W.codeIn K cd__law_many "_law_many" = true) (k__law_many : PySem.W.keepIn K (.ref f__law_many) = true)
  (a__law_tree_by : PySem.W.nsIn K mainGlobals "_law_tree_by" = some (some (.ref f__law_tree_by))) (l__law_tree_by : K.lookup f__law_tree_by = some ⟨oc__law_tree_by, od__law_tree_by, .func (PySem.W.fnOf "_law_tree_by" "_law_tree_by" (defArgs s__law_tree_by) (defBody s__law_tree_by) (defScope s__law_tree_by) .none kV__law_tree_by dc__law_tree_by pm__law_tree_by an__law_tree_by cd__law_tree_by ct__law_tree_by), sl__law_tree_by⟩) (c__law_tree_by : PySem.W.codeIn K cd__law_tree_by "_law_tree_by" = true) (k__law_tree_by : PySem.W.keepIn K (.ref f__law_tree_by) = true)
  (a__law_column : PySem.W.nsIn K mainGlobals "_law_column" = some (some (.ref f__law_column))) (l__law_column : K.lookup f__law_column = some ⟨oc__law_column, od__law_column, .func (PySem.W.fnOf "_law_column" "_law_column" (defArgs s__law_column) (defBody s__law_column) (defScope s__law_column) .none kV__law_column dc__law_column pm__law_column an__law_column cd__law_column ct__law_column), sl__law_column⟩) (c__law_column : PySem.W.codeIn K cd__law_column "_law_column" = true) (k__law_column : PySem.W.keepIn K (.ref f__law_column) = true)
  (a__law_table : PySem.W.nsIn K mainGlobals "_law_table" = some (some (.ref f__law_table))) (l__law_table : K.lookup f__law_table = some ⟨oc__law_table, od__law_table, .func (PySem.W.fnOf "_law_table" "_law_table" (defArgs s__law_table) (defBody s__law_table) (defScope s__law_table) .none kV__law_table dc__law_table pm__law_table an__law_table cd__law_table ct__law_table), sl__law_table⟩) (c__law_table : PySem.W.codeIn K cd__law_table "_law_table" = true) (k__law_table : PySem.W.keepIn K (.ref f__law_table) = true)
  (a__law_parts : PySem.W.nsIn K mainGlobals "_law_parts" = some (some (.ref f__law_parts))) (l__law_parts : K.lookup f__law_parts = some ⟨oc__law_parts, od__law_parts, .func (PySem.W.fnOf "_law_parts" "_law_parts" (defArgs s__law_parts) (defBody s__law_parts) (defScope s__law_parts) .none kV__law_parts dc__law_parts pm__law_parts an__law_parts cd__law_parts ct__law_parts), sl__law_parts⟩) (c__law_parts : PySem.W.codeIn K cd__law_parts "_law_parts" = true) (k__law_parts : PySem.W.keepIn K (.ref f__law_parts) = true)
  (a__law_table_by : PySem.W.nsIn K mainGlobals "_law_table_by" = some (some (.ref f__law_table_by))) (l__law_table_by : K.lookup f__law_table_by = some ⟨oc__law_table_by, od__law_table_by, .func (PySem.W.fnOf "_law_table_by" "_law_table_by" (defArgs s__law_table_by) (defBody s__law_table_by) (defScope s__law_table_by) .none kV__law_table_by dc__law_table_by pm__law_table_by an__law_table_by cd__law_table_by ct__law_table_by), sl__law_table_by⟩) (c__law_table_by : PySem.W.codeIn K cd__law_table_by "_law_table_by" = true) (k__law_table_by : PySem.W.keepIn K (.ref f__law_table_by) = true)
  (a_law : PySem.W.nsIn K mainGlobals "law" = some (some (.ref f_law))) (l_law : K.lookup f_law = some ⟨oc_law, od_law, .func (PySem.W.fnOf "law" "law" (defArgs s_law) (defBody s_law) (defScope s_law) .none kV_law dc_law pm_law an_law cd_law ct_law), sl_law⟩) (c_law : PySem.W.codeIn K cd_law "law" = true) (k_law : PySem.W.keepIn K (.ref f_law) = true)
  (z_int : PySem.W.nsIn K mainGlobals "int" = some none)
  (z_isinstance : PySem.W.nsIn K mainGlobals "isinstance" = some none)
  (z_len : PySem.W.nsIn K mainGlobals "len" = some none)
  (z_range : PySem.W.nsIn K mainGlobals "range" = some none)
  (z_str : PySem.W.nsIn K mainGlobals "str" = some none)
  (z_tuple : PySem.W.nsIn K mainGlobals "tuple" = some none)
  : ∃ T : Txt K mg, T.d_law.f = fa ∧ ∀ (s : Shared) (v : Value), BindsTo s T.d_law.fd ⟨[v], []⟩ [("_law_script", v)] := by
  have e := hfa.symm.trans (PySem.W.mg_of X G a_law)
  cases e
  have F_half_of := fun_mk (st := s_half_of) l_half_of c_half_of k_half_of
  have b_half_of := F_half_of.binds (ps := ["many"]) fun _ _ _ _ _ _ us hl => match us, hl with | [_], _ => rfl
  have F_joined_by := fun_mk (st := s_joined_by) l_joined_by c_joined_by k_joined_by
  have b_joined_by := F_joined_by.binds (ps := ["name", "low", "high", "everything"]) fun _ _ _ _ _ _ us hl => match us, hl with | [_, _, _, _], _ => rfl
  have F_tree_over := fun_mk (st := s_tree_over) l_tree_over c_tree_over k_tree_over
  have b_tree_over := F_tree_over.binds (ps := ["names", "many", "wanted"]) fun _ _ _ _ _ _ us hl => match us, hl with | [_, _, _], _ => rfl
  have F_tree_of := fun_mk (st := s_tree_of) l_tree_of c_tree_of k_tree_of
  have b_tree_of := F_tree_of.binds (ps := ["names", "wanted"]) fun _ _ _ _ _ _ us hl => match us, hl with | [_, _], _ => rfl
  have F__law_cell_at := fun_mk (st := s__law_cell_at) l__law_cell_at c__law_cell_at k__law_cell_at
  have b__law_cell_at := F__law_cell_at.binds (ps := ["_law_script", "_law_k"]) fun _ _ _ _ _ _ us hl => match us, hl with | [_, _], _ => rfl
  have F__law_names_by := fun_mk (st := s__law_names_by) l__law_names_by c__law_names_by k__law_names_by
  have b__law_names_by := F__law_names_by.binds (ps := ["_law_cell", "_law_many_here"]) fun _ _ _ _ _ _ us hl => match us, hl with | [_, _], _ => rfl
  have F__law_many := fun_mk (st := s__law_many) l__law_many c__law_many k__law_many
  have b__law_many := F__law_many.binds (ps := ["_law_cell"]) fun _ _ _ _ _ _ us hl => match us, hl with | [_], _ => rfl
  have F__law_tree_by := fun_mk (st := s__law_tree_by) l__law_tree_by c__law_tree_by k__law_tree_by
  have b__law_tree_by := F__law_tree_by.binds (ps := ["_law_names", "_law_cell", "_law_deep"]) fun _ _ _ _ _ _ us hl => match us, hl with | [_, _, _], _ => rfl
  have F__law_column := fun_mk (st := s__law_column) l__law_column c__law_column k__law_column
  have b__law_column := F__law_column.binds (ps := ["_law_n", "_law_k"]) fun _ _ _ _ _ _ us hl => match us, hl with | [_, _], _ => rfl
  have F__law_table := fun_mk (st := s__law_table) l__law_table c__law_table k__law_table
  have b__law_table := F__law_table.binds (ps := ["_law_names", "_law_tree"]) fun _ _ _ _ _ _ us hl => match us, hl with | [_, _], _ => rfl
  have F__law_parts := fun_mk (st := s__law_parts) l__law_parts c__law_parts k__law_parts
  have b__law_parts := F__law_parts.binds (ps := ["_law_names", "_law_tree", "_law_deep"]) fun _ _ _ _ _ _ us hl => match us, hl with | [_, _, _], _ => rfl
  have F__law_table_by := fun_mk (st := s__law_table_by) l__law_table_by c__law_table_by k__law_table_by
  have b__law_table_by := F__law_table_by.binds (ps := ["_law_names", "_law_cell", "_law_other"]) fun _ _ _ _ _ _ us hl => match us, hl with | [_, _, _], _ => rfl
  have F_law := fun_mk (st := s_law) l_law c_law k_law
  have b_law := F_law.binds (ps := ["_law_script"]) fun _ _ _ _ _ _ us hl => match us, hl with | [_], _ => rfl
  exact ⟨⟨⟨_, _, F_half_of, PySem.W.mg_of X G a_half_of, b_half_of⟩, ⟨_, _, F_joined_by, PySem.W.mg_of X G a_joined_by, b_joined_by⟩, ⟨_, _, F_tree_over, PySem.W.mg_of X G a_tree_over, b_tree_over⟩, ⟨_, _, F_tree_of, PySem.W.mg_of X G a_tree_of, b_tree_of⟩, ⟨_, _, F__law_cell_at, PySem.W.mg_of X G a__law_cell_at, b__law_cell_at⟩, ⟨_, _, F__law_names_by, PySem.W.mg_of X G a__law_names_by, b__law_names_by⟩, ⟨_, _, F__law_many, PySem.W.mg_of X G a__law_many, b__law_many⟩, ⟨_, _, F__law_tree_by, PySem.W.mg_of X G a__law_tree_by, b__law_tree_by⟩, ⟨_, _, F__law_column, PySem.W.mg_of X G a__law_column, b__law_column⟩, ⟨_, _, F__law_table, PySem.W.mg_of X G a__law_table, b__law_table⟩, ⟨_, _, F__law_parts, PySem.W.mg_of X G a__law_parts, b__law_parts⟩, ⟨_, _, F__law_table_by, PySem.W.mg_of X G a__law_table_by, b__law_table_by⟩, ⟨_, _, F_law, PySem.W.mg_of X G a_law, b_law⟩, PySem.W.mg_none_of X G z_int, PySem.W.mg_none_of X G z_isinstance, PySem.W.mg_none_of X G z_len, PySem.W.mg_none_of X G z_range, PySem.W.mg_none_of X G z_str, PySem.W.mg_none_of X G z_tuple⟩, rfl, fun s v => .of_eq rfl⟩
theorem walk {l : PySem.W.OpenLaw} {q : Program} {loose : List Str} {XP : (Str → Option Value) → Heap → Prop} {YP : World → Heap → Prop} {d : DefRec} {K : Params → PySem.W.Frag} (hn : l.most = some 63) (hdf : d.params.defaults = [])
    (main : ∀ ns : List Int, ns.length ≤ 63 → ∃ fin, (F 200).law [.val (.scr ns)] = .ok (.val (.bl true)) fin)
    (hY : ∀ (w : World) (h : Heap), YP w h → (K w.params).In h)
    (TT : ∀ (w : World) (mg : Str → Option Value) (fa : Addr) (h : Heap), (K w.params).In h → h.Ns mainGlobals mg → mg d.name = some (.ref fa) → ∃ T : Txt (K w.params) mg, T.d_law.f = fa ∧ ∀ (s : Shared) (v : Value), BindsTo s T.d_law.fd ⟨[v], []⟩ [("_law_script", v)]) :
    PySem.W.WalkO q loose XP YP l.row.toRowW d [] (fun f vs => PySem.call f vs) :=
  L2.walk_of (n := 63) (k := 200) (x := "_law_script") (CX := fun w => L2.CX l.prog w) (sp := fun w => spG (K w.params) (fun _ => 0) 1 (F 200).law) hn (by decide) hdf ⟨rfl, by decide, by decide⟩ hY
    (fun w mg fa h KX G hmg => by
      obtain ⟨T, rfl, hb⟩ := TT w mg fa h KX G hmg
      exact ⟨T.d_law.fd, hb, fun base _ _ => (allF (P := l.prog) (w := w) (base := base) (T := T) (cs := fun _ => 0) 200).law⟩)
    (fun w H a ns hl _ hS => law_sp (main ns hl) hS) fun w H s e s' => law_cx H s e s'
end Wk23

set_option Elab.async false
set_option linter.all false
set_option maxRecDepth 100000
set_option maxHeartbeats 4000000
set_option exponentiation.threshold 20000
namespace Wk23
open PySem PySem.Spec PyProof.Rows L2 PL
theorem cell_K (n : Nat) : CellOk (F (n + 1))._law_cell_at := cell_ok
theorem cellL_K (n : Nat) : CellLOk (F (n + 1))._law_cell_at := cellL_ok
theorem many_K (n : Nat) (c : Int) : ∃ m : Nat, 1 ≤ m ∧ m ≤ 8 ∧ (F (n + 1))._law_many [.val (.int c)] = .ok (.val (.int m)) [.val (.int c)] := many_ok c
theorem names_K (n : Nat) : NamesBOk (F (n + 1))._law_names_by := namesB_ok
theorem ltable_k : ∀ n : Nat, TabWOk n (F (n + 1))._law_table
  | 0 => fun ns t h1 h2 h3 => absurd (T.depth_pos t) (by omega)
  | n + 1 => ltable_ok colL_ok (ltable_k n)
theorem ltable_K (n : Nat) : TabK (F (n + 40))._law_table := tabw_k (n := n + 39) (ltable_k (n + 39)) (by omega)
theorem tree_k (n : Nat) : ∀ d : Nat, TreeCOk d (F (n + d + 1))._law_tree_by
  | 0 => treeB_ok fun ns c k hn hk => absurd hk (by omega)
  | d + 1 => treeB_ok fun ns c k hn hk => tree_k n d ns c k hn (by omega)
theorem tree_K (n : Nat) : TreeCK (F (n + 40))._law_tree_by := fun ns c k hn hk => tree_k (n + 30) 9 ns c k hn hk

theorem over_k : ∀ n : Nat, OverK n (F (n + 2)).tree_over
  | 0 => fun ns m W hn hm hl hW => by
    have hm0 : m = 0 := by omega
    subst hm0
    exact over_zero ns W hW
  | n + 1 => over_ok half_ok (over_k n) join_ok
theorem parts_k : ∀ n : Nat, PartsK n (F (n + 1))._law_parts
  | 0 => fun ns t d h1 h2 h3 h4 => absurd (T.depth_pos t) (by omega)
  | n + 1 => parts23_ok (parts_k n)
theorem main' (k : Nat) (s : List Int) (hs : s.length ≤ 63) : ∃ fin, (F (k + 50)).law [.val (.scr s)] = .ok (.val (.bl true)) fin := by
  have c0 : (F (k + 49))._law_cell_at [.val (.scr s), .val (.int 0)] = .ok (.val (.int (s.getD 0 0))) [.val (.scr s), .val (.int 0)] := cell_K (k + 48) s 0 (by omega)
  have c1 : (F (k + 49))._law_cell_at [.val (.scr s), .val (.int 1)] = .ok (.val (.int (s.getD 1 0))) [.val (.scr s), .val (.int 1)] := cell_K (k + 48) s 1 (by omega)
  have c2 : (F (k + 49))._law_cell_at [.val (.scr s), .val (.int 2)] = .ok (.val (.int (s.getD 2 0))) [.val (.scr s), .val (.int 2)] := cell_K (k + 48) s 2 (by omega)
  have c3 : (F (k + 49))._law_cell_at [.val (.scr s), .val (.int 3)] = .ok (.val (.int (s.getD 3 0))) [.val (.scr s), .val (.int 3)] := cell_K (k + 48) s 3 (by omega)
  generalize s.getD 0 0 = v0 at *
  generalize s.getD 1 0 = v1 at *
  generalize s.getD 2 0 = v2 at *
  generalize s.getD 3 0 = v3 at *
  obtain ⟨m, m1, m2, hm⟩ := many_K (k + 48) v1
  have hn := names_K (k + 48) v0 m (by omega)
  have hnl : (namesB v0 m).length = m := namesB_len v0 m
  have hN : okN (namesB v0 m) := namesB_N m1 m2
  generalize namesB v0 m = ns at *
  subst hnl
  obtain ⟨W, htb, hW⟩ := tableBy_ok (tree_K (k + 8)) (ltable_K (k + 8)) ns v2 v3 hN
  have htb : (F (k + 49))._law_table_by [.val (nmD ns), .val (.int v2), .val (.int v3)] = .ok (.val (.int (W : Nat))) [.val (nmD ns), .val (.int v2), .val (.int v3)] := htb
  have hov := over_k (k + 46) ns ns.length W hN (by omega) (Nat.le_refl _) hW
  obtain ⟨t1, t2, t3⟩ := treeN_in (ns := ns) ns.length W (Nat.le_refl _)
  have ht : (F (k + 49)).tree_of [.val (nmD ns), .val (.int (W : Nat))] = .ok (.val (treeN ns ns.length W).toD) [.val (nmD ns), .val (.int (W : Nat))] := by
    show bodyF 2 2 2 (b_tree_of (F (k + 48)).tree_over) _ = _
    simp only [nmD] at hov ⊢
    generalize (treeN ns ns.length W).toD = TD at *
    simp (disch := first | assumption | omega | (simp only [List.length_append, List.length_cons, List.length_nil, List.length_map, List.length_reverse, List.length_replicate, List.length_range, List.length_take, List.length_drop, enD_length, rangeD_length]; omega) | (simp; done) | fail) [decide_eq_true, decide_eq_false, kAsg, kNx, b_tree_of, hov]
  have hpa := parts_k (k + 48) ns (treeN ns ns.length W) 1 hN t1 (by omega) (by omega)
  have hpa : (F (k + 49))._law_parts [.val (nmD ns), .val (treeN ns ns.length W).toD, .val (.int 1)] = .ok (.val (.int ((treeN ns ns.length W).size : Nat))) [.val (nmD ns), .val (treeN ns ns.length W).toD, .val (.int 1)] := hpa
  have htt := ltable_K (k + 9) ns (treeN ns ns.length W) hN ⟨t1, by omega⟩
  rw [tab_treeN hN hW] at htt
  have hp8 : 2 ^ ns.length ≤ 2 ^ 8 := Nat.pow_le_pow_right (by decide) m2
  have hsz : ((treeN ns ns.length W).size : Int) ≤ 2000 := by omega
  show ∃ fin, bodyF 4 1 1 (LL0 (F (k + 49))) [.val (.scr s)] = .ok (.val (.bl true)) fin
  unfold LL0 b_law
  generalize ((treeN ns ns.length W).size : Int) = SZ at *
  generalize (treeN ns ns.length W).toD = TD at *
  simp (disch := first | assumption | omega | (simp only [List.length_append, List.length_cons, List.length_nil, List.length_map, List.length_reverse, List.length_replicate, List.length_range, List.length_take, List.length_drop, enD_length, rangeD_length]; omega) | (simp; done) | fail) [decide_eq_true, decide_eq_false, kAsg, kNx, c0, c1, c2, c3, hm, hn, htb, ht, hpa, hsz, htt]
theorem main (ns : List Int) (h : ns.length ≤ 63) : ∃ fin, (F 200).law [.val (.scr ns)] = .ok (.val (.bl true)) fin := main' 150 ns h
end Wk23

set_option Elab.async false
set_option linter.all false
open PySem PySem.W PyProof.Rows
set_option maxRecDepth 100000 in
set_option maxHeartbeats 0 in
theorem PySem.Challenge.cw_mindchange_k23_sentence_of_a_table_holds : PySem.Challenge.rw_mindchange_k23_sentence_of_a_table.Holds := by
  w_on; o_law; k_head; (case hw => w_witness2)
  k_fill
  refine Wk23.walk (l := PySem.Challenge.rw_mindchange_k23_sentence_of_a_table) rfl rfl Wk23.main (fun w h Y => PySem.W.kIn_of Y) ?F
  case F =>
    intro w mg fa h KX G hmg
    refine' Wk23.txt_mk KX G hmg ?a_half_of ?l_half_of ?c_half_of ?k_half_of ?a_joined_by ?l_joined_by ?c_joined_by ?k_joined_by ?a_tree_over ?l_tree_over ?c_tree_over ?k_tree_over ?a_tree_of ?l_tree_of ?c_tree_of ?k_tree_of ?a__law_cell_at ?l__law_cell_at ?c__law_cell_at ?k__law_cell_at ?a__law_names_by ?l__law_names_by ?c__law_names_by ?k__law_names_by ?a__law_many ?l__law_many ?c__law_many ?k__law_many ?a__law_tree_by ?l__law_tree_by ?c__law_tree_by ?k__law_tree_by ?a__law_column ?l__law_column ?c__law_column ?k__law_column ?a__law_table ?l__law_table ?c__law_table ?k__law_table ?a__law_parts ?l__law_parts ?c__law_parts ?k__law_parts ?a__law_table_by ?l__law_table_by ?c__law_table_by ?k__law_table_by ?a_law ?l_law ?c_law ?k_law ?z_int ?z_isinstance ?z_len ?z_range ?z_str ?z_tuple
    (case a_half_of => k_is)
    (case l_half_of => k_is)
    (case c_half_of => k_is)
    (case k_half_of => k_is)
    (case a_joined_by => k_is)
    (case l_joined_by => k_is)
    (case c_joined_by => k_is)
    (case k_joined_by => k_is)
    (case a_tree_over => k_is)
    (case l_tree_over => k_is)
    (case c_tree_over => k_is)
    (case k_tree_over => k_is)
    (case a_tree_of => k_is)
    (case l_tree_of => k_is)
    (case c_tree_of => k_is)
    (case k_tree_of => k_is)
    (case a__law_cell_at => k_is)
    (case l__law_cell_at => k_is)
    (case c__law_cell_at => k_is)
    (case k__law_cell_at => k_is)
    (case a__law_names_by => k_is)
    (case l__law_names_by => k_is)
    (case c__law_names_by => k_is)
    (case k__law_names_by => k_is)
    (case a__law_many => k_is)
    (case l__law_many => k_is)
    (case c__law_many => k_is)
    (case k__law_many => k_is)
    (case a__law_tree_by => k_is)
    (case l__law_tree_by => k_is)
    (case c__law_tree_by => k_is)
    (case k__law_tree_by => k_is)
    (case a__law_column => k_is)
    (case l__law_column => k_is)
    (case c__law_column => k_is)
    (case k__law_column => k_is)
    (case a__law_table => k_is)
    (case l__law_table => k_is)
    (case c__law_table => k_is)
    (case k__law_table => k_is)
    (case a__law_parts => k_is)
    (case l__law_parts => k_is)
    (case c__law_parts => k_is)
    (case k__law_parts => k_is)
    (case a__law_table_by => k_is)
    (case l__law_table_by => k_is)
    (case c__law_table_by => k_is)
    (case k__law_table_by => k_is)
    (case a_law => k_is)
    (case l_law => k_is)
    (case c_law => k_is)
    (case k_law => k_is)
    (case z_int => k_is)
    (case z_isinstance => k_is)
    (case z_len => k_is)
    (case z_range => k_is)
    (case z_str => k_is)
    (case z_tuple => k_is)
