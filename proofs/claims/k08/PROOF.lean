import PyProof.Rows.All
import Wide.All
import OpenK.AllK
import Wide.FinOn
import HandS.ForMost
import HandS.ForExc
import HandS.TupAny
import HandS.IsInst
import HandS.Wide
import HandS.WideBits
import HandS.Rev
import HandS.Zip
import HandS.SortInts
import HandS.Text
import KE.GoesMore
import KE.DataMinMax
import HandS.Small
import HandS.More
import HandS.Style
import HandS.SortKw
import HandS.Strs
import HandS.ExcIs
import HandS.ExcOwn
import HandS.Deep
import PyProof.Rows.SeqMore
import HandS.SetFor
import HandS.DictComp
import HandS.SetKeys
import HandS.Conv
import HandS.Replace
import HandS.Iter
import HandS.StrMore
import HandS.ReplaceLit
import PyProof.EqKinds
import PyProof.EnumMake
import PyProof.P3Eq
import KE.BitLaws
import KE.OsArith
import PySem.Challenge.RW_mindchange_k08_whole_texts
set_option Elab.async false
set_option linter.all false
set_option maxRecDepth 100000
namespace PL
set_option autoImplicit false
open PySem PySem.Spec PyProof.Rows L2
abbrev Kc := Sum Int (List Nat)
/-- data by value -/
inductive D where
  | non | bl (b : Bool) | int (i : Int) | str (s : List Nat) | tup (xs : List D) | lst (xs : List D) | scr (ns : List Int) | dic (kvs : List (Kc × D)) | cls (c : Nat) | exn (c : Nat)
/-- an exception: the number of its class, its fields -/
structure Exn where
  c : Nat
  fs : List D
inductive R (α : Type) where
  | ok (a : α) | exc (x : Exn) | stuck
def R.bind {α β : Type} (r : R α) (k : α → R β) : R β := match r with
  | .ok a => k a
  | .exc x => .exc x
  | .stuck => .stuck
/-- a slot: not given, frozen data, a list or dict of its own -/
inductive Sl where
  | emp | val (d : D) | own (d : D)
abbrev Ev (α : Type) := List Sl → R α
def kcK : Key → Kc
  | .inl i => .inl i
  | .inr x => .inr x.cps.toList
/-- a tuple whose own dict is known -/
def Kn (K : PySem.W.Frag) (Φ : Hp) (a : Addr) : Prop := (∃ o xs, Φ a = some (.frz o (.tup xs)) ∧ o.cls = .type "tuple" ∧ o.dict = none) ∨ ∃ o, K.lookup a = some o ∧ o.cls = .type "tuple" ∧ o.dict = none
theorem Kn.mono {K : PySem.W.Frag} {H H' : Hp} {a : Addr} (e : Same H H') (h : Kn K H a) : Kn K H' a := by
  rcases h with ⟨o, xs, h, q⟩ | h
  · exact .inl ⟨o, xs, e _ _ h, q⟩
  · exact .inr h
/-- a row of texts -/
def D.isS : D → Bool
  | .str _ => true
  | _ => false
def stk : List D → Bool
  | [] => false
  | d :: ds => d.isS && ds.all D.isS
/-- the program's own exception classes, by number -/
def nmX : Nat → Str
  | 0 => "MindError" | 1 => "NoSentence" | 2 => "TooDeep" | 3 => "NoName" | 4 => "Always" | 5 => "Never"
  | 6 => "NoMinds" | 7 => "Unlike" | 8 => "NoBack" | 9 => "NoAgain" | 10 => "Refused" | _ => ""
def clsOf (K : PySem.W.Frag) (c : Nat) : Addr := match PySem.W.nsIn K mainGlobals (nmX c) with
  | some (some (.ref a)) => a
  | _ => 0
/-- the object of an exception of class c, without fields -/
structure ExO (K : PySem.W.Frag) (c : Nat) (oe : Obj) : Prop where
  cls : oe.cls = .ref (clsOf K c)
  here : clsOf K c ≠ 0
  dict : oe.dict = none
  data : ∃ vs, oe.data = .fields vs
mutual
inductive RepD (K : PySem.W.Frag) (Φ : Hp) : D → V → Prop
  | non : RepD K Φ .non .non
  | bl (b : Bool) : RepD K Φ (.bl b) (.bl b)
  | int (i : Int) : RepD K Φ (.int i) (.int i)
  | str (x : Str) (s : List Nat) : x.cps.toList = s → RepD K Φ (.str s) (.str x)
  | tup {a : Addr} {vs : List V} {ds : List D} : SqT K Φ a vs → RepDs K Φ ds vs → (stk ds = true → Kn K Φ a) → RepD K Φ (.tup ds) (.ref a)
  | lst {a : Addr} {vs : List V} {ds : List D} : Φ a = some (.lst vs) → RepDs K Φ ds vs → RepD K Φ (.lst ds) (.ref a)
  | scr {a : Addr} {ns : List Int} : SqL K Φ a (ns.map V.int) → RepD K Φ (.scr ns) (.ref a)
  | dic {a : Addr} {kvs : List (Key × V)} {es : List (Kc × D)} : Φ a = some (.dK kvs) → RepKs K Φ es kvs → RepD K Φ (.dic es) (.ref a)
  | exn {a : Addr} {oe : Obj} (c : Nat) : Φ a = some (.frz oe (.ext fun _ => True)) → ExO K c oe → RepD K Φ (.exn c) (.ref a)
inductive RepDs (K : PySem.W.Frag) (Φ : Hp) : List D → List V → Prop
  | nil : RepDs K Φ [] []
  | cons {d : D} {v : V} {ds : List D} {vs : List V} : RepD K Φ d v → RepDs K Φ ds vs → RepDs K Φ (d :: ds) (v :: vs)
inductive RepKs (K : PySem.W.Frag) (Φ : Hp) : List (Kc × D) → List (Key × V) → Prop
  | nil : RepKs K Φ [] []
  | cons {k : Key} {d : D} {v : V} {ds : List (Kc × D)} {vs : List (Key × V)} : RepD K Φ d v → RepKs K Φ ds vs → RepKs K Φ ((kcK k, d) :: ds) ((k, v) :: vs)
end
theorem sqT_mono {K : PySem.W.Frag} {H H' : Hp} {a : Addr} {xs : List V} (e : Same H H') (h : SqT K H a xs) : SqT K H' a xs := by
  rcases h with (h | ⟨o, h⟩) | h
  · exact .inl (.inl (e _ _ h))
  · exact .inl (.inr ⟨o, e _ _ h⟩)
  · exact .inr h
section
variable {K : PySem.W.Frag} {Φ Φ' H H' : Hp}
mutual
theorem RepD.mono (m : Same Φ Φ') : ∀ {d : D} {v : V}, RepD K Φ d v → RepD K Φ' d v
  | _, _, .non => .non
  | _, _, .bl b => .bl b
  | _, _, .int i => .int i
  | _, _, .str x s e => .str x s e
  | _, _, .tup h r k => .tup (sqT_mono m h) (RepDs.mono m r) fun z => (k z).mono m
  | _, _, .lst h r => .lst (m _ _ h) (RepDs.mono m r)
  | _, _, .scr h => .scr (m.seq h)
  | _, _, .dic h r => .dic (m _ _ h) (RepKs.mono m r)
  | _, _, .exn c h r => .exn c (m _ _ h) r
theorem RepDs.mono (m : Same Φ Φ') : ∀ {d : List D} {v : List V}, RepDs K Φ d v → RepDs K Φ' d v
  | _, _, .nil => .nil
  | _, _, .cons h r => .cons (RepD.mono m h) (RepDs.mono m r)
theorem RepKs.mono (m : Same Φ Φ') : ∀ {d : List (Kc × D)} {v : List (Key × V)}, RepKs K Φ d v → RepKs K Φ' d v
  | _, _, .nil => .nil
  | _, _, .cons h r => .cons (RepD.mono m h) (RepKs.mono m r)
end
theorem RepDs.length : ∀ {ds : List D} {vs : List V}, RepDs K Φ ds vs → ds.length = vs.length
  | _, _, .nil => rfl
  | _, _, .cons _ r => by rw [List.length_cons, List.length_cons, RepDs.length r]
theorem RepDs.get : ∀ {ds : List D} {vs : List V} {i : Nat} {d : D}, RepDs K Φ ds vs → ds[i]? = some d → ∃ v, vs[i]? = some v ∧ RepD K Φ d v
  | _, _, _, _, .nil, e => by simp at e
  | _, _, 0, _, .cons h r, e => by simp at e; subst e; exact ⟨_, rfl, h⟩
  | _, _, i + 1, _, .cons h r, e => by
    obtain ⟨v, h1, h2⟩ := RepDs.get (i := i) r (by simpa using e)
    exact ⟨v, by simpa using h1, h2⟩
theorem RepDs.append : ∀ {ds : List D} {vs : List V} {es : List D} {us : List V}, RepDs K Φ ds vs → RepDs K Φ es us → RepDs K Φ (ds ++ es) (vs ++ us)
  | _, _, _, _, .nil, s => s
  | _, _, _, _, .cons h r, s => .cons h (RepDs.append r s)
theorem RepDs.take : ∀ {ds : List D} {vs : List V} (n : Nat), RepDs K Φ ds vs → RepDs K Φ (ds.take n) (vs.take n)
  | _, _, 0, _ => by simp; exact .nil
  | _, _, n + 1, .nil => by simp; exact .nil
  | _, _, n + 1, .cons h r => by simpa using .cons h (RepDs.take n r)
theorem RepDs.drop : ∀ {ds : List D} {vs : List V} (n : Nat), RepDs K Φ ds vs → RepDs K Φ (ds.drop n) (vs.drop n)
  | _, _, 0, h => h
  | _, _, n + 1, .nil => by simp; exact .nil
  | _, _, n + 1, .cons h r => by simpa using RepDs.drop n r
theorem RepDs.set {d : D} {v : V} (h : RepD K Φ d v) : ∀ {ds : List D} {vs : List V} (n : Nat), RepDs K Φ ds vs → RepDs K Φ (ds.set n d) (vs.set n v)
  | _, _, _, .nil => .nil
  | _, _, 0, .cons _ r => .cons h r
  | _, _, n + 1, .cons g r => .cons g (RepDs.set h n r)
theorem RepDs.dropLast : ∀ {ds : List D} {vs : List V}, RepDs K Φ ds vs → RepDs K Φ ds.dropLast vs.dropLast
  | _, _, .nil => .nil
  | _, _, .cons h .nil => .nil
  | _, _, .cons h (.cons g r) => .cons h (RepDs.dropLast (.cons g r))
theorem RepDs.reverse {ds : List D} {vs : List V} (h : RepDs K Φ ds vs) : RepDs K Φ ds.reverse vs.reverse := by
  induction h using RepDs.rec (motive_1 := fun _ _ _ => True) (motive_3 := fun _ _ _ => True) with
  | nil => exact .nil
  | cons a b _ ih => simp only [List.reverse_cons]; exact ih.append (.cons a .nil)
  | _ => trivial
theorem RepDs.ints : ∀ (ns : List Int), RepDs K Φ (ns.map D.int) (ns.map V.int)
  | [] => .nil
  | n :: ns => .cons (.int n) (RepDs.ints ns)
theorem RepDs.ints_inv : ∀ {ns : List Int} {vs : List V}, RepDs K Φ (ns.map D.int) vs → vs = ns.map V.int
  | [], _, .nil => rfl
  | n :: ns, _, .cons (.int _) r => by rw [RepDs.ints_inv r]; rfl
/-- what is to be read at v: frozen data, or a list or dict that a slot owns -/
inductive RepOwn (K : PySem.W.Frag) (Φ H : Hp) : D → Addr → Prop
  | lst {a : Addr} {vs : List V} {ds : List D} : H a = some (.lst vs) → RepDs K Φ ds vs → RepOwn K Φ H (.lst ds) a
  | dic {a : Addr} {kvs : List (Key × V)} {es : List (Kc × D)} : H a = some (.dK kvs) → RepKs K Φ es kvs → RepOwn K Φ H (.dic es) a
theorem RepOwn.mono {d : D} {a : Addr} (m : Same Φ Φ') (n : Same H H') (h : RepOwn K Φ H d a) : RepOwn K Φ' H' d a := by
  cases h with
  | lst h r => exact .lst (n _ _ h) (r.mono m)
  | dic h r => exact .dic (n _ _ h) (r.mono m)
theorem RepOwn.at {d : D} {a : Addr} (m : Same Φ Φ') (n : ∀ o, H a = some o → H' a = some o) (h : RepOwn K Φ H d a) : RepOwn K Φ' H' d a := by
  cases h with
  | lst h r => exact .lst (n _ h) (r.mono m)
  | dic h r => exact .dic (n _ h) (r.mono m)
theorem RepOwn.there {d : D} {a : Addr} (h : RepOwn K Φ H d a) : ∃ o, H a = some o := by
  cases h with
  | lst h r => exact ⟨_, h⟩
  | dic h r => exact ⟨_, h⟩
/-- reading: frozen or owned -/
def RepV (K : PySem.W.Frag) (Φ H : Hp) (d : D) (v : V) : Prop := RepD K Φ d v ∨ ∃ a, v = .ref a ∧ RepOwn K Φ H d a
theorem RepD.toV {d : D} {v : V} (h : RepD K Φ d v) : RepV K Φ H d v := .inl h
def OwnAt (σ : L2.St) (ρ : List Sl) (i : Nat) (a : Addr) : Prop := σ[i]? = some (some (.ref a)) ∧ ∃ d, ρ[i]? = some (.own d)
structure Rel (K : PySem.W.Frag) (Φ H : Hp) (σ : L2.St) (ρ : List Sl) : Prop where
  sub : Same Φ H
  len : σ.length = ρ.length
  val : ∀ (i : Nat) (d : D), ρ[i]? = some (.val d) → ∃ v : V, σ[i]? = some (some v) ∧ RepD K Φ d v
  own : ∀ (i : Nat) (d : D), ρ[i]? = some (.own d) → ∃ a : Addr, σ[i]? = some (some (V.ref a)) ∧ RepOwn K Φ H d a ∧ Φ a = none
  sep : ∀ (i j : Nat) (a : Addr), OwnAt σ ρ i a → OwnAt σ ρ j a → i = j
/-- pure growth -/
structure Ext (Φ H Φ' H' : Hp) : Prop where
  mono : Same Φ Φ'
  heap : Same H H'
  sub : Same Φ' H'
  new : ∀ b o, Φ' b = some o → Φ b = some o ∨ H b = none
theorem Ext.refl (s : Same Φ H) : Ext Φ H Φ H := ⟨Same.refl _, Same.refl _, s, fun _ _ h => .inl h⟩
theorem Ext.trans {Φ1 H1 Φ2 H2 : Hp} (a : Ext Φ H Φ1 H1) (b : Ext Φ1 H1 Φ2 H2) : Ext Φ H Φ2 H2 :=
  ⟨a.mono.trans b.mono, a.heap.trans b.heap, b.sub, fun c o h => by
    rcases b.new c o h with h | h
    · exact a.new c o h
    · exact .inr (a.heap.free h)⟩
/-- a new object, frozen at once -/
theorem Ext.fresh {p : Addr} {o : HO} (s : Same Φ H) (hp : H p = none) : Ext Φ H (upd Φ p o) (upd H p o) := by
  have ne : ∀ b u, H b = some u → b ≠ p := fun b u e => ne_of_none e hp
  refine ⟨fun b u e => ?_, fun b u e => ?_, fun b u e => ?_, fun b u e => ?_⟩
  · rw [upd_ne (ne b u (s b u e))]; exact e
  · rw [upd_ne (ne b u e)]; exact e
  · by_cases h : b = p
    · subst h; rw [upd_same] at e ⊢; exact e
    · rw [upd_ne h] at e ⊢; exact s b u e
  · by_cases h : b = p
    · subst h; exact .inr hp
    · rw [upd_ne h] at e; exact .inl e
/-- a new object, left alone -/
theorem Ext.alloc {p : Addr} {o : HO} (s : Same Φ H) (hp : H p = none) : Ext Φ H Φ (upd H p o) := by
  have ne : ∀ b u, H b = some u → b ≠ p := fun b u e => ne_of_none e hp
  exact ⟨Same.refl _, fun b u e => by rw [upd_ne (ne b u e)]; exact e, fun b u e => by rw [upd_ne (ne b u (s b u e))]; exact s b u e, fun _ _ h => .inl h⟩
theorem Rel.ext {σ : L2.St} {ρ : List Sl} (r : Rel K Φ H σ ρ) (x : Ext Φ H Φ' H') : Rel K Φ' H' σ ρ := by
  refine ⟨x.sub, r.len, fun i d e => ?_, fun i d e => ?_, r.sep⟩
  · obtain ⟨v, h1, h2⟩ := r.val i d e
    exact ⟨v, h1, h2.mono x.mono⟩
  · obtain ⟨a, h1, h2, h3⟩ := r.own i d e
    refine ⟨a, h1, h2.mono x.mono x.heap, ?_⟩
    obtain ⟨o, ho⟩ := h2.there
    cases q : Φ' a with
    | none => rfl
    | some u =>
      rcases x.new a u q with z | z
      · rw [h3] at z; cases z
      · rw [ho] at z; cases z
theorem RepV.ext {d : D} {v : V} (h : RepV K Φ H d v) (x : Ext Φ H Φ' H') : RepV K Φ' H' d v := by
  rcases h with h | ⟨a, e, h⟩
  · exact .inl (h.mono x.mono)
  · exact .inr ⟨a, e, h.mono x.mono x.heap⟩
end
/-- an exception's own data (the fields come later) -/
def RepX (cs : Nat → Addr) (Φ H : Hp) (x : Exn) (c : Value) (dd : Option Addr) : Prop := c = .ref (cs x.c) ∧ x.fs = [] ∧ dd = none ∧ cs x.c ≠ 0
section
variable {α β γ δ : Type}
structure Rp (α β : Type) where
  rep : Hp → Hp → α → β → Prop
  ext : ∀ {Φ H Φ' H' : Hp} {a : α} {b : β}, rep Φ H a b → Ext Φ H Φ' H' → rep Φ' H' a b
def rD (K : PySem.W.Frag) : Rp D V := ⟨fun Φ _ d v => RepD K Φ d v, fun h x => h.mono x.mono⟩
def rV (K : PySem.W.Frag) : Rp D V := ⟨fun Φ H d v => RepV K Φ H d v, fun h x => h.ext x⟩
def rB : Rp Bool Bool := ⟨fun _ _ a b => a = b, fun h _ => h⟩
def rDs (K : PySem.W.Frag) : Rp (List D) (List V) := ⟨fun Φ _ d v => RepDs K Φ d v, fun h x => h.mono x.mono⟩
inductive RepVs (K : PySem.W.Frag) (Φ H : Hp) : List D → List V → Prop
  | nil : RepVs K Φ H [] []
  | cons {d : D} {v : V} {ds : List D} {vs : List V} : RepV K Φ H d v → RepVs K Φ H ds vs → RepVs K Φ H (d :: ds) (v :: vs)
theorem RepVs.ext {K : PySem.W.Frag} {Φ H Φ' H' : Hp} (x : Ext Φ H Φ' H') : ∀ {d : List D} {v : List V}, RepVs K Φ H d v → RepVs K Φ' H' d v
  | _, _, .nil => .nil
  | _, _, .cons h r => .cons (h.ext x) (RepVs.ext x r)
def rVs (K : PySem.W.Frag) : Rp (List D) (List V) := ⟨fun Φ H d v => RepVs K Φ H d v, fun h x => RepVs.ext x h⟩
def Run (cs : Nat → Addr) (rp : Rp α β) (W : WX) (σ : L2.St) (Φ H : Hp) (Q : β → Hp → Prop) : R α → Prop
  | .ok a => ∀ Φ' H' b, Ext Φ H Φ' H' → rp.rep Φ' H' a b → Q b H'
  | .exc x => ∀ Φ' H' c dd, Ext Φ H Φ' H' → RepX cs Φ' H' x c dd → W c dd σ H'
  | .stuck => False
def tG (K : PySem.W.Frag) (cs : Nat → Addr) (rp : Rp α β) (W : WX) (f : Ev α) : L2.St → Hp → (β → Hp → Prop) → Prop := fun σ H Q => ∃ Φ ρ, Rel K Φ H σ ρ ∧ Run cs rp W σ Φ H Q (f ρ)
theorem Run.ext {cs : Nat → Addr} {rp : Rp α β} {W : WX} {σ : L2.St} {Φ H Φ1 H1 : Hp} {Q : β → Hp → Prop} {r : R α} (x : Ext Φ H Φ1 H1) (h : Run cs rp W σ Φ H Q r) : Run cs rp W σ Φ1 H1 Q r := by
  cases r with
  | ok a => exact fun Φ' H' b y q => h Φ' H' b (x.trans y) q
  | exc z => exact fun Φ' H' c dd y q => h Φ' H' c dd (x.trans y) q
  | stuck => exact h
theorem Run.ok {cs : Nat → Addr} {rp : Rp α β} {W : WX} {σ : L2.St} {Φ H : Hp} {Q : β → Hp → Prop} {a : α} {b : β} (h : Run cs rp W σ Φ H Q (.ok a)) (s : Same Φ H) (r : rp.rep Φ H a b) : Q b H := h Φ H b (.refl s) r
/-- first f, then what hangs on it -/
theorem tG.bind {K : PySem.W.Frag} {cs : Nat → Addr} {rp : Rp α β} {rq : Rp γ δ} {W : WX} {f : Ev α} {k : α → R γ} {σ : L2.St} {ρ : List Sl} {Φ H : Hp} {Q : δ → Hp → Prop} {G : β → Hp → Prop} (r : Rel K Φ H σ ρ)
    (h : Run cs rq W σ Φ H Q ((f ρ).bind k))
    (c : ∀ Φ1 H1 a b, Rel K Φ1 H1 σ ρ → Ext Φ H Φ1 H1 → rp.rep Φ1 H1 a b → Run cs rq W σ Φ1 H1 Q (k a) → G b H1) : tG K cs rp W f σ H G := by
  refine ⟨Φ, ρ, r, ?_⟩
  cases e : f ρ with
  | ok a =>
    rw [e] at h
    exact fun Φ' H' b x q => c Φ' H' a b (r.ext x) x q (h.ext x)
  | exc z =>
    rw [e] at h
    exact h
  | stuck =>
    rw [e] at h
    exact h
end
/-- the same, with what f gave -/
theorem tG.bind' {α β γ δ : Type} {K : PySem.W.Frag} {cs : Nat → Addr} {rp : Rp α β} {rq : Rp γ δ} {W : WX} {f : Ev α} {k : α → R γ} {σ : L2.St} {ρ : List Sl} {Φ H : Hp} {Q : δ → Hp → Prop} {G : β → Hp → Prop} (r : Rel K Φ H σ ρ)
    (h : Run cs rq W σ Φ H Q ((f ρ).bind k))
    (c : ∀ Φ1 H1 a b, f ρ = .ok a → Rel K Φ1 H1 σ ρ → Ext Φ H Φ1 H1 → rp.rep Φ1 H1 a b → Run cs rq W σ Φ1 H1 Q (k a) → G b H1) : tG K cs rp W f σ H G := by
  refine ⟨Φ, ρ, r, ?_⟩
  cases e : f ρ with
  | ok a =>
    rw [e] at h
    exact fun Φ' H' b x q => c Φ' H' a b e (r.ext x) x q (h.ext x)
  | exc z =>
    rw [e] at h
    exact h
  | stuck =>
    rw [e] at h
    exact h
def RunN (K : PySem.W.Frag) (cs : Nat → Addr) (W : WX) (σ : L2.St) (Φ H : Hp) (Q : VK) : R D → Prop
  | .ok d => ∀ Φ' H' a, Ext Φ H Φ' H' → H a = none → Φ' a = none → RepOwn K Φ' H' d a → Q (.ref a) H'
  | .exc x => ∀ Φ' H' c dd, Ext Φ H Φ' H' → RepX cs Φ' H' x c dd → W c dd σ H'
  | .stuck => False
def tN (K : PySem.W.Frag) (cs : Nat → Addr) (W : WX) (f : Ev D) : TE := fun σ H Q => ∃ Φ ρ, Rel K Φ H σ ρ ∧ RunN K cs W σ Φ H Q (f ρ)
theorem RunN.ext {K : PySem.W.Frag} {cs : Nat → Addr} {W : WX} {σ : L2.St} {Φ H Φ1 H1 : Hp} {Q : VK} {r : R D} (x : Ext Φ H Φ1 H1) (h : RunN K cs W σ Φ H Q r) : RunN K cs W σ Φ1 H1 Q r := by
  cases r with
  | ok a => exact fun Φ' H' b y hb hp q => h Φ' H' b (x.trans y) (x.heap.free hb) hp q
  | exc z => exact fun Φ' H' c dd y q => h Φ' H' c dd (x.trans y) q
  | stuck => exact h
theorem tG.bindN {α β : Type} {K : PySem.W.Frag} {cs : Nat → Addr} {rp : Rp α β} {W : WX} {f : Ev α} {k : α → R D} {σ : L2.St} {ρ : List Sl} {Φ H : Hp} {Q : VK} {G : β → Hp → Prop} (r : Rel K Φ H σ ρ)
    (h : RunN K cs W σ Φ H Q ((f ρ).bind k))
    (c : ∀ Φ1 H1 a b, Rel K Φ1 H1 σ ρ → Ext Φ H Φ1 H1 → rp.rep Φ1 H1 a b → RunN K cs W σ Φ1 H1 Q (k a) → G b H1) : tG K cs rp W f σ H G := by
  refine ⟨Φ, ρ, r, ?_⟩
  cases e : f ρ with
  | ok a =>
    rw [e] at h
    exact fun Φ' H' b x q => c Φ' H' a b (r.ext x) x q (h.ext x)
  | exc z =>
    rw [e] at h
    exact h
  | stuck =>
    rw [e] at h
    exact h
theorem RepOwn.freeze {K : PySem.W.Frag} {Φ H : Hp} {d : D} {a : Addr} (h : RepOwn K Φ H d a) (hp : Φ a = none) : ∃ o, H a = some o ∧ RepD K (upd Φ a o) d (.ref a) ∧ Same Φ (upd Φ a o) := by
  have mm : ∀ o, Same Φ (upd Φ a o) := fun o b u e => by
    have hb : b ≠ a := fun z => by subst z; rw [hp] at e; cases e
    rw [upd_ne hb]; exact e
  cases h with
  | lst e r => exact ⟨_, e, .lst upd_same (r.mono (mm _)), mm _⟩
  | dic e r => exact ⟨_, e, .dic upd_same (r.mono (mm _)), mm _⟩
theorem Ext.freeze {Φ H Φ' H' : Hp} {a : Addr} {o : HO} (x : Ext Φ H Φ' H') (hH : H a = none) (hp : Φ' a = none) (e : H' a = some o) : Ext Φ H (upd Φ' a o) H' := by
  refine ⟨fun b u h => ?_, x.heap, fun b u h => ?_, fun b u h => ?_⟩
  · have hb : b ≠ a := fun z => by subst z; rw [x.mono _ _ h] at hp; cases hp
    rw [upd_ne hb]; exact x.mono _ _ h
  · by_cases hb : b = a
    · subst hb; rw [upd_same] at h; rw [e]; exact h
    · rw [upd_ne hb] at h; exact x.sub _ _ h
  · by_cases hb : b = a
    · subst hb; exact .inr hH
    · rw [upd_ne hb] at h; exact x.new _ _ h
section
variable (X : Cx) (cs : Nat → Addr) (W : WX)
def SV (e : Expr) (f : Ev D) : Prop := PE X e (tG X.K cs (rV X.K) W f)
def SD (e : Expr) (f : Ev D) : Prop := PE X e (tG X.K cs (rD X.K) W f)
def ST (e : Expr) (f : Ev Bool) : Prop := PT X e (tG X.K cs rB W f)
def SW (e : Expr) (f : Ev Bool) : Prop := PW X e (tG X.K cs rB W f)
def SN (e : Expr) (f : Ev D) : Prop := PE X e (tN X.K cs W f)
def SA (es : List Expr) (f : Ev (List D)) : Prop := PA X es (tG X.K cs (rVs X.K) W f)
def SAd (es : List Expr) (f : Ev (List D)) : Prop := PA X es (tG X.K cs (rDs X.K) W f)
end
theorem peImp {X : Cx} {e : Expr} {t t' : TE} (h : PE X e t) (i : ∀ σ H Q, t' σ H Q → t σ H Q) : PE X e t' := ⟨fun pins s σ H Q I hw => h.run pins s σ H Q I (i σ H Q hw)⟩
theorem ptImp {X : Cx} {e : Expr} {t t' : TT} (h : PT X e t) (i : ∀ σ H Q, t' σ H Q → t σ H Q) : PT X e t' := ⟨fun pins s σ H Q I hw => h.run pins s σ H Q I (i σ H Q hw)⟩
theorem pwImp {X : Cx} {e : Expr} {t t' : TT} (h : PW X e t) (i : ∀ σ H Q, t' σ H Q → t σ H Q) : PW X e t' := ⟨fun wh pins s σ H Q I hw => h.run wh pins s σ H Q I (i σ H Q hw)⟩
theorem paImp {X : Cx} {e : List Expr} {t t' : TA} (h : PA X e t) (i : ∀ σ H Q, t' σ H Q → t σ H Q) : PA X e t' := ⟨fun pos pins s σ H Q I hw => h.run pos pins s σ H Q I (i σ H Q hw)⟩
theorem psImp {X : Cx} {e : Stmt} {t t' : TS} (h : PS X e t) (i : ∀ D σ H, t' D σ H → t D σ H) : PS X e t' := ⟨fun pins s σ H D I hw => h.run pins s σ H D I (i D σ H hw)⟩
theorem pssImp {X : Cx} {e : List Stmt} {t t' : TS} (h : PSs X e t) (i : ∀ D σ H, t' D σ H → t D σ H) : PSs X e t' := ⟨fun pins s σ H D I hw => h.run pins s σ H D I (i D σ H hw)⟩
section
variable {X : Cx} {cs : Nat → Addr} {W : WX} {e : Expr} {f : Ev D}
theorem SD.sv (h : SD X cs W e f) : SV X cs W e f := peImp h fun σ H Q ⟨Φ, ρ, r, q⟩ => by
  refine ⟨Φ, ρ, r, ?_⟩
  cases e : f ρ with
  | ok a =>
    rw [e] at q
    exact fun Φ' H' b x y => q Φ' H' b x (.inl y)
  | exc z => rw [e] at q; exact q
  | stuck => rw [e] at q; exact q
theorem SN.sd (h : SN X cs W e f) : SD X cs W e f := peImp h fun σ H Q ⟨Φ, ρ, r, q⟩ => by
  refine ⟨Φ, ρ, r, ?_⟩
  cases e : f ρ with
  | ok a =>
    rw [e] at q
    exact fun Φ' H' b x hb hp y => by
      obtain ⟨o, e1, e2, e3⟩ := y.freeze hp
      exact q _ H' _ (x.freeze hb hp e1) e2
  | exc z => rw [e] at q; exact q
  | stuck => rw [e] at q; exact q
end
end PL
set_option Elab.async false
set_option linter.all false
set_option maxRecDepth 100000
namespace PL
set_option autoImplicit false
open PySem PySem.Spec PyProof.Rows L2
abbrev tupO (us : List Value) : Obj := { cls := .type "tuple", data := .seq us.toArray }
section
variable {X : Cx} {pins : List (Addr × Obj)} {σ : L2.St} {H : Hp} {s : Shared}
theorem laidF {xs : List V} {us : List Value} {h : Heap} {t' : Nat} (I : Inv X pins σ H { s with heap := h }) (r : Vals xs us) (hz : xs.length ≤ sizeLine) :
    Inv X pins σ (upd H h.objs.size (.frz (tupO us) (.tup xs))) { s with heap := h.push (tupO us), toks := t' } :=
  I.laid (s := { s with heap := h }) (o := .frz (tupO us) (.tup xs)) (fun b u e => Heap.get?_push_of_some _ e) (Nat.le_refl _)
    ⟨Heap.get?_push_size _ rfl, hz, us, r, IsTup.new _ _⟩
/-- what comes of a new tuple -/
def NewF (H : Hp) (Q : VK) (xs : List V) : Prop := ∀ p o, H p = none → o.cls = .type "tuple" → o.dict = none → Q (.ref p) (upd H p (.frz o (.tup xs)))
theorem newF {xs : List V} {us : List Value} {h : Heap} {t' : Nat} {Q : VK} (I : Inv X pins σ H { s with heap := h }) (r : Vals xs us) (hz : xs.length ≤ sizeLine) (q : NewF H Q xs) :
    EP X pins σ Q (.ref h.objs.size) { s with heap := h.push (tupO us), toks := t' } :=
  ⟨.ref h.objs.size, _, laidF I r hz, rfl, q _ _ (I.hok.fresh (Nat.le_refl _)) rfl rfl⟩
end
section
variable {X : Cx} {e : Expr} {es : List Expr} {t : TA} {pos : Pos}
def tTupF (t : TA) : TE := fun σ H Q => t σ H fun xs H1 => xs.length ≤ sizeLine ∧ NewF H1 Q xs
theorem pe_tupF {x1 : _} (h : PA X es t) : PE X (.Tuple es x1 pos) (tTupF t) := by
  refine ⟨fun pins s σ H Q I hq => ?_⟩
  refine wpAny_Tuple_spliced (thn (h.run pos pins s σ H _ I hq) fun us s1 ⟨xs, H1, I1, r, z, q⟩ => ⟨by rw [← r.length]; exact z, ?_⟩)
  exact newF (h := s1.heap) (s := s1) I1 r z q
def rSlF (K : PySem.W.Frag) : V → Option Int → Option Int → Hp → VK → Prop := fun x lo hi H Q => ∃ a xs, x = .ref a ∧ SqT K H a xs ∧
  (HT.sIx xs.length 0 lo = 0 ∧ HT.sIx xs.length xs.length hi = xs.length → Q (.ref a) H) ∧ (¬ (HT.sIx xs.length 0 lo = 0 ∧ HT.sIx xs.length xs.length hi = xs.length) → NewF H Q (cutV xs lo hi))
theorem sl_tupF : SlR X (rSlF X.K) := by
  intro pins s σ H x v vl vu lo hi sl Q I rx hs pl pu h
  obtain ⟨a, xs, rfl, hx, q1, q2⟩ := h
  cases rx
  obtain ⟨its, r, ht, hz⟩ := I.tuple hx
  have hlen : its.toArray.size = xs.length := by rw [List.size_toArray]; exact r.length.symm
  refine ⟨"tuple", _, PyProof.Rows.slot_tuple_getitem.lookup, ht.typeIs, ?_⟩
  by_cases hw : HT.sIx xs.length 0 lo = 0 ∧ HT.sIx xs.length xs.length hi = xs.length
  · exact getItem_tuple_whole ht hs pl pu (by rw [hlen]; exact hw) ⟨.ref a, H, I, rfl, q1 hw⟩
  · refine HT.getItem_tuple_cut ht hs pl pu (by rw [hlen]; exact hw) ?_ (by rw [hlen]; exact hz)
    rw [hlen]
    exact newF (h := s.heap) (s := s) I ((r.drop (HT.sIx xs.length 0 lo)).take (HT.sIx xs.length xs.length hi - HT.sIx xs.length 0 lo)) (Nat.le_trans (cutV_length xs lo hi) hz) (q2 hw)
def rCatF (K : PySem.W.Frag) : R2 := fun x y H Q => ∃ a b xs ys, x = .ref a ∧ y = .ref b ∧ SqT K H a xs ∧ SqT K H b ys ∧ xs.length + ys.length ≤ sizeLine ∧
  (xs = [] → Q (.ref b) H) ∧ (xs ≠ [] → ys = [] → Q (.ref a) H) ∧ (xs ≠ [] → ys ≠ [] → NewF H Q (xs ++ ys))
theorem op_catF : OpR X (binaryOp .Add) (rCatF X.K) := by
  intro pins s σ H x y v u Q I rx ry h
  obtain ⟨a, b, xs, ys, rfl, rfl, ha, hb, hz, q0, q1, q2⟩ := h
  cases rx
  cases ry
  obtain ⟨its, r1, p1, _⟩ := I.tuple ha
  obtain ⟨its2, r2, p2, _⟩ := I.tuple hb
  by_cases hx : xs = []
  · subst hx
    cases r1
    exact cat_tup0 p1 p2 ⟨.ref b, H, I, rfl, q0 rfl⟩
  · refine HT.cat_tup p1 p2 (fun z => hx (r1.nil_iff.mp z)) (fun z => ⟨.ref a, H, I, rfl, q1 hx (r2.nil_iff.mp z)⟩) (fun z => ?_) (by rw [← r1.length, ← r2.length]; exact hz)
    exact newF (h := s.heap) (s := s) I (r1.append r2) (by rw [List.length_append]; exact hz) (q2 hx (fun w => z (r2.nil_iff.mpr w)))
def rTupF (K : PySem.W.Frag) : List V → Hp → VK → Prop := fun xs H Q => ∃ p ys, xs = [.ref p] ∧ ((SqL K H p ys ∧ NewF H Q ys) ∨ (SqT K H p ys ∧ Q (.ref p) H))
theorem call_tupleF : CallR X (.type "tuple") (rTupF X.K) := by
  intro pins s σ H xs us Q I r h
  obtain ⟨p, ys, rfl, h⟩ := h
  obtain ⟨u, rfl, rx⟩ := vals1 r
  cases rx
  rcases h with ⟨hq, q⟩ | ⟨hq, q⟩
  · obtain ⟨its, r', pl, hz⟩ := I.list hq
    have hlen := r'.length
    refine call_tuple_list pl.isList (fun h' kp => ?_) (by simp only [List.size_toArray]; omega)
    have I1 : Inv X pins σ H { s with heap := h' } := I.kept (t' := s.toks) kp
    exact newF (h := h') (s := s) I1 r' hz q
  · obtain ⟨its, r', pl, hz⟩ := I.tuple hq
    exact call_tuple_same pl ⟨.ref p, H, I, rfl, q⟩
end
theorem Kn.of {K : PySem.W.Frag} {H : Hp} {p : Addr} {o : Obj} {xs : List V} (hc : o.cls = .type "tuple") (hd : o.dict = none) : Kn K (upd H p (.frz o (.tup xs))) p := .inl ⟨o, xs, upd_same, hc, hd⟩
theorem SqT.ofF {K : PySem.W.Frag} {H : Hp} {p : Addr} {o : Obj} {xs : List V} : SqT K (upd H p (.frz o (.tup xs))) p xs := .inl (.inr ⟨o, upd_same⟩)
end PL
set_option Elab.async false
set_option linter.all false
set_option maxRecDepth 100000
namespace PL
set_option autoImplicit false
open PySem PySem.Spec PyProof.Rows L2
abbrev LIM : Nat := 1000000
theorem lim_le {n : Nat} (h : n ≤ LIM) : n ≤ sizeLine := Nat.le_trans h (by rw [sizeLine_eq]; decide)
theorem lim_lt {n : Nat} (h : n ≤ LIM) : n < sizeLine := Nat.lt_of_le_of_lt h (by rw [sizeLine_eq]; decide)
section inversions
variable {K : PySem.W.Frag} {Φ H : Hp} {v : V}
theorem RepV.non_inv (h : RepV K Φ H .non v) : v = .non := by rcases h with h | ⟨a, e, h⟩ <;> cases h; rfl
theorem RepV.bl_inv {b : Bool} (h : RepV K Φ H (.bl b) v) : v = .bl b := by rcases h with h | ⟨a, e, h⟩ <;> cases h; rfl
theorem RepV.int_inv {i : Int} (h : RepV K Φ H (.int i) v) : v = .int i := by rcases h with h | ⟨a, e, h⟩ <;> cases h; rfl
theorem RepV.str_inv {s : List Nat} (h : RepV K Φ H (.str s) v) : ∃ x : Str, v = .str x ∧ x.cps.toList = s := by
  rcases h with h | ⟨a, e, h⟩ <;> cases h
  exact ⟨_, rfl, by assumption⟩
theorem RepV.tup_inv {ds : List D} (h : RepV K Φ H (.tup ds) v) (m : Same Φ H) : ∃ a vs, v = .ref a ∧ SqT K H a vs ∧ RepDs K Φ ds vs := by
  rcases h with h | ⟨a, e, h⟩ <;> cases h
  exact ⟨_, _, rfl, sqT_mono m (by assumption), by assumption⟩
theorem RepV.lst_inv {ds : List D} (h : RepV K Φ H (.lst ds) v) (m : Same Φ H) : ∃ a vs, v = .ref a ∧ H a = some (.lst vs) ∧ RepDs K Φ ds vs := by
  rcases h with h | ⟨a, e, h⟩ <;> cases h
  · exact ⟨_, _, rfl, m _ _ (by assumption), by assumption⟩
  · exact ⟨_, _, e, by assumption, by assumption⟩
theorem RepV.scr_inv {ns : List Int} (h : RepV K Φ H (.scr ns) v) (m : Same Φ H) : ∃ a, v = .ref a ∧ SqL K H a (ns.map V.int) := by
  rcases h with h | ⟨a, e, h⟩ <;> cases h
  exact ⟨_, rfl, m.seq (by assumption)⟩
theorem RepV.dic_inv {es : List (Kc × D)} (h : RepV K Φ H (.dic es) v) (m : Same Φ H) : ∃ a kvs, v = .ref a ∧ H a = some (.dK kvs) ∧ RepKs K Φ es kvs := by
  rcases h with h | ⟨a, e, h⟩ <;> cases h
  · exact ⟨_, _, rfl, m _ _ (by assumption), by assumption⟩
  · exact ⟨_, _, e, by assumption, by assumption⟩
end inversions
/-- what a sequence holds -/
def D.items : D → Option (List D)
  | .tup ds => some ds
  | .lst ds => some ds
  | .scr ns => some (ns.map D.int)
  | _ => none
theorem RepV.items {K : PySem.W.Frag} {Φ H : Hp} {v : V} {d : D} {ds : List D} (h : RepV K Φ H d v) (m : Same Φ H) (e : d.items = some ds) :
    ∃ a vs, v = .ref a ∧ (SqL K H a vs ∨ SqT K H a vs) ∧ RepDs K Φ ds vs := by
  cases d <;> simp only [D.items, Option.some.injEq, reduceCtorEq] at e
  · subst e
    obtain ⟨a, vs, rfl, h1, h2⟩ := h.tup_inv m
    exact ⟨a, vs, rfl, .inr h1, h2⟩
  · subst e
    obtain ⟨a, vs, rfl, h1, h2⟩ := h.lst_inv m
    exact ⟨a, vs, rfl, .inl (SqL.of h1), h2⟩
  · subst e
    obtain ⟨a, rfl, h1⟩ := h.scr_inv m
    exact ⟨a, _, rfl, .inl h1, RepDs.ints _⟩
section ops
variable {X : Cx} {cs : Nat → Addr} {W : WX} {a b c e o : Expr} {fa fb fc : Ev D} {pos : Pos}
def eVar (i : Nat) : Ev D := fun ρ => match ρ[i]? with
  | some (.val d) => .ok d
  | some (.own d) => .ok d
  | _ => .stuck
def eFrz (i : Nat) : Ev D := fun ρ => match ρ[i]? with
  | some (.val d) => .ok d
  | _ => .stuck
theorem sv_var (i : Nat) {x : Str} (hN : X.N[i]? = some x := by rfl) (hv : Vis X.env.scope x := by first | exact Or.inl rfl | exact Or.inr (Or.inl rfl) | exact Or.inr (Or.inr rfl)) (hd : (x == ("__debug__" : Str)) = false := by decide)
    (hcd : (x == ("__classdict__" : Str)) = false := by decide) : SV X cs W (.Name x pos) (eVar i) := peImp (pe_var hN hv hd hcd) fun σ H Q ⟨Φ, ρ, r, q⟩ => by
  unfold eVar at q
  split at q
  next d e =>
    obtain ⟨v, h1, h2⟩ := r.val i d e
    exact ⟨v, h1, q.ok r.sub (.inl h2)⟩
  next d e =>
    obtain ⟨v, h1, h2, _⟩ := r.own i d e
    exact ⟨_, h1, q.ok r.sub (.inr ⟨v, rfl, h2⟩)⟩
  next => exact False.elim q
theorem sd_var (i : Nat) {x : Str} (hN : X.N[i]? = some x := by rfl) (hv : Vis X.env.scope x := by first | exact Or.inl rfl | exact Or.inr (Or.inl rfl) | exact Or.inr (Or.inr rfl)) (hd : (x == ("__debug__" : Str)) = false := by decide)
    (hcd : (x == ("__classdict__" : Str)) = false := by decide) : SD X cs W (.Name x pos) (eFrz i) := peImp (pe_var hN hv hd hcd) fun σ H Q ⟨Φ, ρ, r, q⟩ => by
  unfold eFrz at q
  split at q
  next d e =>
    obtain ⟨v, h1, h2⟩ := r.val i d e
    exact ⟨v, h1, q.ok r.sub h2⟩
  next => exact False.elim q
def eC (d : D) : Ev D := fun _ => .ok d
theorem sd_int {i : Int} {j : Nat} : SD X cs W (.Constant (.int i) j pos) (eC (.int i)) := peImp pe_int fun σ H Q ⟨Φ, ρ, r, q⟩ => q.ok r.sub (.int i)
theorem sd_bl {i : Bool} {j : Nat} : SD X cs W (.Constant (.bool i) j pos) (eC (.bl i)) := peImp pe_bl fun σ H Q ⟨Φ, ρ, r, q⟩ => q.ok r.sub (.bl i)
theorem sd_non {j : Nat} : SD X cs W (.Constant .none j pos) (eC .non) := peImp pe_non fun σ H Q ⟨Φ, ρ, r, q⟩ => q.ok r.sub .non
theorem sd_str {x : Str} {j : Nat} {s : List Nat} (h : x.cps.toList = s := by rfl) : SD X cs W (.Constant (.str x) j pos) (eC (.str s)) := peImp pe_str fun σ H Q ⟨Φ, ρ, r, q⟩ => q.ok r.sub (.str x s h)
/-- a module's constant -/
theorem sd_gint {x : Str} {i : Int} {t : Tok} (hg : Gl X x) (hm : X.mg x = some (.int i t)) (hd : (x == ("__debug__" : Str)) = false := by decide) : SD X cs W (.Name x pos) (eC (.int i)) := peImp (pe_glob (v := .int i) hg hm ⟨t, rfl⟩ hd) fun σ H Q ⟨Φ, ρ, r, q⟩ => q.ok r.sub (.int i)
theorem sd_gstr {x y : Str} {t : Tok} {s : List Nat} (hg : Gl X x) (hm : X.mg x = some (.str y t)) (h : y.cps.toList = s) (hd : (x == ("__debug__" : Str)) = false := by decide) : SD X cs W (.Name x pos) (eC (.str s)) := peImp (pe_glob (v := .str y) hg hm ⟨t, rfl⟩ hd) fun σ H Q ⟨Φ, ρ, r, q⟩ => q.ok r.sub (.str y s h)
def e1 {α : Type} (g : D → R α) (fa : Ev D) : Ev α := fun ρ => (fa ρ).bind g
def e2 {α : Type} (g : D → D → R α) (fa fb : Ev D) : Ev α := fun ρ => (fa ρ).bind fun x => (fb ρ).bind (g x)
def e3 {α : Type} (g : D → D → D → R α) (fa fb fc : Ev D) : Ev α := fun ρ => (fa ρ).bind fun x => (fb ρ).bind fun y => (fc ρ).bind (g x y)
theorem run1 {α β : Type} {rp : Rp α β} {g : D → R α} {σ : L2.St} {H : Hp} {Q : β → Hp → Prop} {G : V → Hp → Prop} (h : tG X.K cs rp W (e1 g fa) σ H Q)
    (c : ∀ Φ H v d, Same Φ H → RepV X.K Φ H d v → Run cs rp W σ Φ H Q (g d) → G v H) : tG X.K cs (rV X.K) W fa σ H G := by
  obtain ⟨Φ, ρ, r, q⟩ := h
  exact tG.bind (rp := rV X.K) r q fun Φ1 H1 d v r1 _ rep q => c Φ1 H1 v d r1.sub rep q
theorem run2 {α β : Type} {rp : Rp α β} {g : D → D → R α} {σ : L2.St} {H : Hp} {Q : β → Hp → Prop} {G : V → V → Hp → Prop} (h : tG X.K cs rp W (e2 g fa fb) σ H Q)
    (c : ∀ Φ H v u d e, Same Φ H → RepV X.K Φ H d v → RepV X.K Φ H e u → Run cs rp W σ Φ H Q (g d e) → G v u H) : tG X.K cs (rV X.K) W fa σ H fun v H1 => tG X.K cs (rV X.K) W fb σ H1 fun u H2 => G v u H2 := by
  obtain ⟨Φ, ρ, r, q⟩ := h
  refine tG.bind (rp := rV X.K) r q fun Φ1 H1 d v r1 _ rep q => ?_
  exact tG.bind (rp := rV X.K) r1 q fun Φ2 H2 e u r2 x2 rep2 q => c Φ2 H2 v u d e r2.sub (rep.ext x2) rep2 q
/-- what an operator on values does on data -/
def OpD (X : Cx) (cs : Nat → Addr) (W : WX) (r : R2) (g : D → D → R D) : Prop := ∀ (σ : L2.St) (Φ H : Hp) (Q : VK) (v u : V) (d e : D), Same Φ H → RepV X.K Φ H d v → RepV X.K Φ H e u → Run cs (rD X.K) W σ Φ H Q (g d e) → r v u H Q
def OpB (X : Cx) (cs : Nat → Addr) (W : WX) (r : R2) (g : D → D → R Bool) : Prop := ∀ (σ : L2.St) (Φ H : Hp) (Q : Bool → Hp → Prop) (v u : V) (d e : D), Same Φ H → RepV X.K Φ H d v → RepV X.K Φ H e u → Run cs rB W σ Φ H Q (g d e) → r v u H fun x H' => ∃ k, x = .bl k ∧ Q k H'
theorem sd_op {op : Operator} {r : R2} {g : D → D → R D} (ho : OpR X (binaryOp op) r) (hg : OpD X cs W r g) (ha : SV X cs W a fa) (hb : SV X cs W b fb) : SD X cs W (.BinOp a op b pos) (e2 g fa fb) :=
  peImp (pe_op ho ha hb) fun σ H Q h => run2 h fun Φ H v u d e m r1 r2 q => hg σ Φ H Q v u d e m r1 r2 q
/-- a Bool as a value -/
def eBl (f : Ev Bool) : Ev D := fun ρ => (f ρ).bind fun k => .ok (.bl k)
theorem runBl {σ : L2.St} {H : Hp} {Q : VK} {f : Ev Bool} (h : tG X.K cs (rD X.K) W (eBl f) σ H Q) : tG X.K cs rB W f σ H fun k H' => Q (.bl k) H' := by
  obtain ⟨Φ, ρ, r, q⟩ := h
  exact tG.bind (rp := rB) r q fun Φ1 H1 d v r1 _ rep q => by
    cases rep
    exact q.ok r1.sub (.bl d)
theorem st_cmp {op : CmpOp} {r : R2} {g : D → D → R Bool} (ho : OpR X (compareOp op) r) (hg : OpB X cs W r g) (ha : SV X cs W a fa) (hb : SV X cs W b fb) (hm : behindInMarks op b = false) : ST X cs W (.Compare a [op] [b] pos) (e2 g fa fb) :=
  ptImp (pt_cmpR ho ha hb hm) fun σ H Q h => run2 h fun Φ H v u d e m r1 r2 q => hg σ Φ H Q v u d e m r1 r2 q
theorem sd_cmp {op : CmpOp} {r : R2} {g : D → D → R Bool} (hr : ∀ x y H Q Q', (∀ v H, Q v H → Q' v H) → r x y H Q → r x y H Q') (ho : OpR X (compareOp op) r) (hg : OpB X cs W r g) (ha : SV X cs W a fa) (hb : SV X cs W b fb) (hm : behindInMarks op b = false) : SD X cs W (.Compare a [op] [b] pos) (eBl (e2 g fa fb)) :=
  peImp (pe_cmpR ho ha hb hm) fun σ H Q h => run2 (runBl h) fun Φ H v u d e m r1 r2 q => hr _ _ _ _ _ (fun v H ⟨k, e, z⟩ => by rw [e]; exact z) (hg σ Φ H _ v u d e m r1 r2 q)
def gAdd : D → D → R D
  | .int i, .int j => .ok (.int (i + j))
  | .str x, .str y => if x.length + y.length ≤ LIM then .ok (.str (x ++ y)) else .stuck
  | .lst x, .lst y => if x.length + y.length ≤ LIM then .ok (.lst (x ++ y)) else .stuck
  | .tup x, .tup y => if x.length + y.length ≤ LIM then .ok (.tup (x ++ y)) else .stuck
  | _, _ => .stuck
theorem toL_append (x y : Str) : (x ++ y).cps.toList = x.cps.toList ++ y.cps.toList := by
  show (x.cps ++ y.cps).toList = _
  rw [Array.toList_append]
theorem len_toL (x : Str) : x.length = x.cps.toList.length := by simp [Str.length]
theorem sd_add (ha : SV X cs W a fa) (hb : SV X cs W b fb) : SD X cs W (.BinOp a .Add b pos) (e2 gAdd fa fb) := by
  refine sd_op (op_add.or (op_add_str.or (op_cat.or op_catF))) (fun σ Φ H Q v u d e m r1 r2 q => ?_) ha hb
  unfold gAdd at q
  split at q
  · cases r1.int_inv; cases r2.int_inv
    exact .inl ⟨_, _, rfl, rfl, q.ok m (.int _)⟩
  · obtain ⟨x, rfl, rfl⟩ := r1.str_inv
    obtain ⟨y, rfl, rfl⟩ := r2.str_inv
    split at q
    next h =>
      rw [← len_toL, ← len_toL] at h
      exact .inr (.inl ⟨_, _, rfl, rfl, lim_le h, q.ok m (.str _ _ (toL_append x y))⟩)
    next => exact q.elim
  · obtain ⟨p, vs, rfl, h1, h2⟩ := r1.lst_inv m
    obtain ⟨p', us, rfl, h3, h4⟩ := r2.lst_inv m
    split at q
    next h =>
      rw [h2.length, h4.length] at h
      exact .inr (.inr (.inl ⟨_, _, _, _, rfl, rfl, h1, h3, lim_le h, fun z hz => q _ _ _ (Ext.fresh m hz) (RepD.lst upd_same ((h2.append h4).mono (Ext.fresh m hz).mono))⟩))
    next => exact q.elim
  · obtain ⟨p, vs, rfl, h1, h2⟩ := r1.tup_inv m
    obtain ⟨p', us, rfl, h3, h4⟩ := r2.tup_inv m
    split at q
    next x y h =>
      rw [h2.length, h4.length] at h
      refine .inr (.inr (.inr ⟨_, _, _, _, rfl, rfl, h1, h3, lim_le h, fun z => ?_, fun _ z => ?_, fun _ _ p o hp hc hd => ?_⟩))
      · subst z
        cases h2
        rcases r2 with r2 | ⟨_, e, w⟩
        · exact q.ok m r2
        · cases w
      · subst z
        cases h4
        rcases r1 with r1 | ⟨_, e, w⟩
        · exact q.ok m (show RepD X.K Φ (.tup (x ++ [])) _ by rw [List.append_nil]; exact r1)
        · cases w
      · exact q _ _ _ (Ext.fresh m hp) (RepD.tup SqT.ofF ((h2.append h4).mono (Ext.fresh m hp).mono) fun _ => Kn.of hc hd)
    next => exact q.elim
  · exact q.elim
def gInt (g : Int → Int → R D) : D → D → R D
  | .int i, .int j => g i j
  | _, _ => .stuck
theorem opInt {C : Int → Int → Prop} {g : Int → Int → Int} {k : Int → Int → R D} (hk : ∀ i j, (C i j ∧ k i j = .ok (.int (g i j))) ∨ k i j = .stuck) : OpD X cs W (rI C fun i j => .int (g i j)) (gInt k) := by
  intro σ Φ H Q v u d e m r1 r2 q
  unfold gInt at q
  split at q
  next i j =>
    cases r1.int_inv; cases r2.int_inv
    rcases hk i j with ⟨hC, h⟩ | h
    · rw [h] at q
      exact ⟨_, _, rfl, rfl, hC, q.ok m (.int _)⟩
    · rw [h] at q; exact q.elim
  next => exact q.elim
theorem opInt0 {g : Int → Int → Int} : OpD X cs W (rI0 fun i j => .int (g i j)) (gInt fun i j => .ok (.int (g i j))) := by
  intro σ Φ H Q v u d e m r1 r2 q
  unfold gInt at q
  split at q
  next i j =>
    cases r1.int_inv; cases r2.int_inv
    exact ⟨_, _, rfl, rfl, q.ok m (.int _)⟩
  next => exact q.elim
def gSub : D → D → R D := gInt fun i j => .ok (.int (i - j))
theorem sd_sub (ha : SV X cs W a fa) (hb : SV X cs W b fb) : SD X cs W (.BinOp a .Sub b pos) (e2 gSub fa fb) := sd_op op_sub opInt0 ha hb
def MulOk (i j : Int) : Bool := decide (i.natAbs < 2 ^ 64) || decide (j.natAbs < 2 ^ 64) || decide (i.natAbs.log2 + j.natAbs.log2 < 1000000)
def gMulI : D → D → R D := gInt fun i j => if MulOk i j then .ok (.int (i * j)) else .stuck
def gDiv : D → D → R D := gInt fun i j => if 0 < j ∧ j < 1073741824 then .ok (.int (i / j)) else .stuck
theorem sd_div (ha : SV X cs W a fa) (hb : SV X cs W b fb) : SD X cs W (.BinOp a .FloorDiv b pos) (e2 gDiv fa fb) := sd_op op_fdiv (opInt fun i j => by
  by_cases h : 0 < j ∧ j < 1073741824
  · exact .inl ⟨h, if_pos h⟩
  · exact .inr (if_neg h)) ha hb
def gMod : D → D → R D := gInt fun i j => if 0 < j then .ok (.int (i % j)) else .stuck
theorem sd_mod (ha : SV X cs W a fa) (hb : SV X cs W b fb) : SD X cs W (.BinOp a .Mod b pos) (e2 gMod fa fb) := sd_op op_mod (opInt fun i j => by
  by_cases h : 0 < j
  · exact .inl ⟨h, if_pos h⟩
  · exact .inr (if_neg h)) ha hb
def gPow : D → D → R D := gInt fun i j => if 0 ≤ j ∧ j ≤ 1000000 ∧ i.natAbs < 2 ^ 64 then .ok (.int (i ^ j.toNat)) else .stuck
def gShr : D → D → R D := gInt fun i j => if 0 ≤ j then .ok (.int (i / 2 ^ j.toNat)) else .stuck
def gAnd : D → D → R D := gInt fun i j => .ok (.int (Builtin.bitAnd i j))
def gOr : D → D → R D := gInt fun i j => .ok (.int (Builtin.bitOr i j))
def gXor : D → D → R D := gInt fun i j => .ok (.int (Builtin.bitXor i j))
def gNeg : D → R D
  | .int i => .ok (.int (-i))
  | _ => .stuck
theorem sd_neg (ha : SV X cs W a fa) : SD X cs W (.UnaryOp .USub a pos) (e1 gNeg fa) := peImp (pe_un un_neg ha) fun σ H Q h => run1 h fun Φ H v d m r q => by
  unfold gNeg at q
  split at q
  · cases r.int_inv
    exact ⟨_, rfl, q.ok m (.int _)⟩
  · exact q.elim
def gCmp (p : Int → Int → Bool) : D → D → R Bool
  | .int i, .int j => .ok (p i j)
  | _, _ => .stuck
theorem opCmp {p : Int → Int → Bool} : OpB X cs W (rI0 fun i j => .bl (p i j)) (gCmp p) := by
  intro σ Φ H Q v u d e m r1 r2 q
  unfold gCmp at q
  split at q
  next i j =>
    cases r1.int_inv; cases r2.int_inv
    exact ⟨_, _, rfl, rfl, _, rfl, q.ok m rfl⟩
  next => exact q.elim
theorem rI0_mono {g : Int → Int → V} (x y : V) (H : Hp) (Q Q' : VK) (h : ∀ v H, Q v H → Q' v H) (z : rI0 g x y H Q) : rI0 g x y H Q' := by
  obtain ⟨i, j, e1, e2, q⟩ := z
  exact ⟨i, j, e1, e2, h _ _ q⟩
abbrev pLt (i j : Int) : Bool := decide (i < j)
abbrev pGt (i j : Int) : Bool := decide (j < i)
abbrev pGe (i j : Int) : Bool := decide (j ≤ i)
theorem st_lt (ha : SV X cs W a fa) (hb : SV X cs W b fb) : ST X cs W (.Compare a [.Lt] [b] pos) (e2 (gCmp pLt) fa fb) := st_cmp op_lt opCmp ha hb (nomark _)
theorem st_gt (ha : SV X cs W a fa) (hb : SV X cs W b fb) : ST X cs W (.Compare a [.Gt] [b] pos) (e2 (gCmp pGt) fa fb) := st_cmp op_gt opCmp ha hb (nomark _)
theorem sd_lt (ha : SV X cs W a fa) (hb : SV X cs W b fb) : SD X cs W (.Compare a [.Lt] [b] pos) (eBl (e2 (gCmp pLt) fa fb)) := sd_cmp rI0_mono op_lt opCmp ha hb (nomark _)
theorem sd_gt (ha : SV X cs W a fa) (hb : SV X cs W b fb) : SD X cs W (.Compare a [.Gt] [b] pos) (eBl (e2 (gCmp pGt) fa fb)) := sd_cmp rI0_mono op_gt opCmp ha hb (nomark _)
theorem sd_ge (ha : SV X cs W a fa) (hb : SV X cs W b fb) : SD X cs W (.Compare a [.GtE] [b] pos) (eBl (e2 (gCmp pGe) fa fb)) := sd_cmp rI0_mono op_ge opCmp ha hb (nomark _)
end ops
mutual
def D.py : D → PyData
  | .non => .none
  | .bl b => .bool b
  | .int i => .int i
  | .str s => .str ⟨s.toArray⟩
  | .tup xs => .tuple (D.pys xs)
  | .lst xs => .list (D.pys xs)
  | .scr ns => .list (ns.map PyData.int)
  | .dic _ => .dict []
  | .cls _ => .dict []
  | .exn _ => .dict []
def D.pys : List D → List PyData
  | [] => []
  | d :: ds => d.py :: D.pys ds
end
theorem mk_toL (x : Str) : (⟨x.cps.toList.toArray⟩ : Str) = x := by cases x; simp
section
variable {K : PySem.W.Frag} {Φ H : Hp}
theorem dpInts : ∀ ns : List Int, DpAll K H (ns.map V.int) (ns.map PyData.int)
  | [] => .nil
  | n :: ns => .cons (.int n) (dpInts ns)
mutual
theorem RepD.dp (m : Same Φ H) : ∀ {d : D} {v : V}, RepD K Φ d v → d.py.canLay0 = true → Dp K H v d.py
  | _, _, .non, _ => .non
  | _, _, .bl b, _ => .bl b
  | _, _, .int i, _ => .int i
  | _, _, .str x s e, _ => by
    subst e
    show Dp K H (.str x) (.str ⟨x.cps.toList.toArray⟩)
    rw [mk_toL]
    exact .str x
  | _, _, .tup h r _, z => .tup (sqT_mono m h) (RepDs.dp m r (by simpa [D.py, PyData.canLay0] using z))
  | _, _, .lst h r, z => .lst (SqL.of (m _ _ h)) (RepDs.dp m r (by simpa [D.py, PyData.canLay0] using z))
  | _, _, .scr h, _ => .lst (m.seq h) (dpInts _)
  | _, _, .dic h r, z => by simp [D.py, PyData.canLay0] at z
  | _, _, .exn c h r, z => by simp [D.py, PyData.canLay0] at z
theorem RepDs.dp (m : Same Φ H) : ∀ {d : List D} {v : List V}, RepDs K Φ d v → PyData.canLayAll0 (D.pys d) = true → DpAll K H v (D.pys d)
  | _, _, .nil, _ => .nil
  | _, _, .cons h r, z => by
    simp only [D.pys, PyData.canLayAll0, Bool.and_eq_true] at z
    exact .cons (RepD.dp m h z.1) (RepDs.dp m r z.2)
end
theorem RepV.dp {d : D} {v : V} (h : RepV K Φ H d v) (m : Same Φ H) (z : d.py.canLay0 = true) : Dp K H v d.py := by
  rcases h with h | ⟨a, rfl, h⟩
  · exact h.dp m z
  · cases h with
    | lst e r => exact .lst (SqL.of e) (r.dp m (by simpa [D.py, PyData.canLay0] using z))
    | dic e r => simp [D.py, PyData.canLay0] at z
end
def D.fits (d : D) : Bool := SeqAt.shaped d.py
def gEq : D → D → R Bool
  | .int i, .int j => .ok (decide (i = j))
  | .str x, .str y => .ok (decide (x = y))
  | .bl x, .bl y => .ok (decide (x = y))
  | d, e => if d.fits = true ∧ e.fits = true then .ok (PyData.eqv d.py e.py) else .stuck
def gNe (d e : D) : R Bool := (gEq d e).bind fun k => .ok (!k)
section
variable {X : Cx} {cs : Nat → Addr} {W : WX} {a b c e o : Expr} {fa fb fc : Ev D} {pos : Pos}
theorem str_dec {x y : Str} : decide (x.cps.toList = y.cps.toList) = decide (x = y) := by
  by_cases h : x = y
  · subst h; simp
  · have h2 : ¬ x.cps.toList = y.cps.toList := fun z => h (by cases x; cases y; simp only [Str.mk.injEq]; exact Array.toList_inj.mp z)
    rw [decide_eq_false h, decide_eq_false h2]
theorem v_int {i j : Int} : decide (V.int i = V.int j) = decide (i = j) := by by_cases h : i = j <;> simp [h]
theorem v_bl {i j : Bool} : decide (V.bl i = V.bl j) = decide (i = j) := by by_cases h : i = j <;> simp [h]
theorem v_str {i j : Str} : decide (V.str i = V.str j) = decide (i = j) := by by_cases h : i = j <;> simp [h]
theorem opEq (hu : X.A.units + 64 < cLine) : OpB X cs W (fun x y H Q => rEq x y H Q ∨ rEqD X.K x y H Q) gEq := by
  intro σ Φ H Q v u d e m r1 r2 q
  unfold gEq at q
  split at q
  · cases r1.int_inv; cases r2.int_inv
    exact .inl ⟨rfl, _, rfl, q.ok m v_int.symm⟩
  · obtain ⟨x, rfl, rfl⟩ := r1.str_inv
    obtain ⟨y, rfl, rfl⟩ := r2.str_inv
    exact .inl ⟨rfl, _, rfl, q.ok m (str_dec.trans v_str.symm)⟩
  · cases r1.bl_inv; cases r2.bl_inv
    exact .inl ⟨rfl, _, rfl, q.ok m v_bl.symm⟩
  · split at q
    next h =>
      exact .inr ⟨_, _, r1.dp m (SeqAt.canLay_of_shaped h.1), r2.dp m (SeqAt.canLay_of_shaped h.2), h.1, h.2, _, rfl, q.ok m rfl⟩
    next => exact q.elim
theorem opNe (hu : X.A.units + 64 < cLine) : OpB X cs W (fun x y H Q => rNe x y H Q ∨ rNeD X.K x y H Q) gNe := by
  intro σ Φ H Q v u d e m r1 r2 q
  unfold gNe gEq at q
  split at q
  · cases r1.int_inv; cases r2.int_inv
    exact .inl ⟨rfl, _, rfl, q.ok m (congrArg (fun k => !k) v_int.symm)⟩
  · obtain ⟨x, rfl, rfl⟩ := r1.str_inv
    obtain ⟨y, rfl, rfl⟩ := r2.str_inv
    exact .inl ⟨rfl, _, rfl, q.ok m (congrArg (fun k => !k) (str_dec.trans v_str.symm))⟩
  · cases r1.bl_inv; cases r2.bl_inv
    exact .inl ⟨rfl, _, rfl, q.ok m (congrArg (fun k => !k) v_bl.symm)⟩
  · split at q
    next h =>
      exact .inr ⟨_, _, r1.dp m (SeqAt.canLay_of_shaped h.1), r2.dp m (SeqAt.canLay_of_shaped h.2), h.1, h.2, _, rfl, q.ok m rfl⟩
    next => exact q.elim
theorem rEq_mono {K : PySem.W.Frag} (x y : V) (H : Hp) (Q Q' : VK) (h : ∀ v H, Q v H → Q' v H) (z : rEq x y H Q ∨ rEqD K x y H Q) : rEq x y H Q' ∨ rEqD K x y H Q' := by
  rcases z with ⟨a, b⟩ | ⟨d, e, a, b, c, f, g⟩
  · exact .inl ⟨a, h _ _ b⟩
  · exact .inr ⟨d, e, a, b, c, f, h _ _ g⟩
theorem rNe_mono {K : PySem.W.Frag} (x y : V) (H : Hp) (Q Q' : VK) (h : ∀ v H, Q v H → Q' v H) (z : rNe x y H Q ∨ rNeD K x y H Q) : rNe x y H Q' ∨ rNeD K x y H Q' := by
  rcases z with ⟨a, b⟩ | ⟨d, e, a, b, c, f, g⟩
  · exact .inl ⟨a, h _ _ b⟩
  · exact .inr ⟨d, e, a, b, c, f, h _ _ g⟩
theorem st_eq (hu : X.A.units + 64 < cLine) (ha : SV X cs W a fa) (hb : SV X cs W b fb) : ST X cs W (.Compare a [.Eq] [b] pos) (e2 gEq fa fb) := st_cmp (op_eq.or (op_eqD hu)) (opEq hu) ha hb (nomark _)
theorem st_ne (hu : X.A.units + 64 < cLine) (ha : SV X cs W a fa) (hb : SV X cs W b fb) : ST X cs W (.Compare a [.NotEq] [b] pos) (e2 gNe fa fb) := st_cmp (op_ne.or (op_neD hu)) (opNe hu) ha hb (nomark _)
theorem sd_eq (hu : X.A.units + 64 < cLine) (ha : SV X cs W a fa) (hb : SV X cs W b fb) : SD X cs W (.Compare a [.Eq] [b] pos) (eBl (e2 gEq fa fb)) := sd_cmp rEq_mono (op_eq.or (op_eqD hu)) (opEq hu) ha hb (nomark _)
theorem sd_ne (hu : X.A.units + 64 < cLine) (ha : SV X cs W a fa) (hb : SV X cs W b fb) : SD X cs W (.Compare a [.NotEq] [b] pos) (eBl (e2 gNe fa fb)) := sd_cmp rNe_mono (op_ne.or (op_neD hu)) (opNe hu) ha hb (nomark _)
def tBool (d : D) : R Bool := match d with | .bl k => .ok k | _ => .stuck
theorem st_val (h : SD X cs W e fa) (he : ∀ whole, isTrue e X.env whole = (do let v ← whole; standAt e.pos; holding [v] (truthy v)) := by intro _; rfl) : ST X cs W e (e1 tBool fa) :=
  ptImp (pt_val h he) fun σ H Q ⟨Φ, ρ, r, q⟩ => tG.bind (rp := rD X.K) r q fun Φ1 H1 d v r1 _ rep q => by
    unfold tBool at q
    split at q
    · cases rep
      exact ⟨_, rfl, q.ok r1.sub rfl⟩
    · exact q.elim
variable {f g h : Ev Bool} {rest : List Expr}
def tNt (f : Ev Bool) : Ev Bool := fun ρ => (f ρ).bind fun k => .ok (!k)
def tAn (f g : Ev Bool) : Ev Bool := fun ρ => (f ρ).bind fun k => if k = true then g ρ else .ok false
def tOo (f g : Ev Bool) : Ev Bool := fun ρ => (f ρ).bind fun k => if k = true then .ok true else g ρ
theorem st_not (h : ST X cs W a f) : ST X cs W (.UnaryOp .Not a pos) (tNt f) := ptImp (pt_not h) fun σ H Q ⟨Φ, ρ, r, q⟩ => tG.bind (rp := rB) r q fun Φ1 H1 d v r1 _ rep q => by
  cases rep
  exact q.ok r1.sub rfl
theorem sw_and1 (h : ST X cs W a f) : SW X cs W (.BoolOp .And [a] pos) f := pw_and1 h
theorem sw_or1 (h : ST X cs W a f) : SW X cs W (.BoolOp .Or [a] pos) f := pw_or1 h
theorem sw_and (h : ST X cs W a f) (k : SW X cs W (.BoolOp .And (b :: rest) pos) g) : SW X cs W (.BoolOp .And (a :: b :: rest) pos) (tAn f g) := pwImp (pw_and h k) fun σ H Q ⟨Φ, ρ, r, q⟩ => tG.bind (rp := rB) r q fun Φ1 H1 d v r1 _ rep q => by
  cases rep
  cases d with
  | false => exact q.ok r1.sub rfl
  | true => exact ⟨Φ1, ρ, r1, q⟩
theorem sw_or (h : ST X cs W a f) (k : SW X cs W (.BoolOp .Or (b :: rest) pos) g) : SW X cs W (.BoolOp .Or (a :: b :: rest) pos) (tOo f g) := pwImp (pw_or h k) fun σ H Q ⟨Φ, ρ, r, q⟩ => tG.bind (rp := rB) r q fun Φ1 H1 d v r1 _ rep q => by
  cases rep
  cases d with
  | true => exact q.ok r1.sub rfl
  | false => exact ⟨Φ1, ρ, r1, q⟩
theorem SW.st (h : SW X cs W e f) : ST X cs W e f := h.pt
/-- and, or as values: bools all -/
def andR (d : D) (x : R D) : R D := match d with | .bl true => x | .bl false => .ok (.bl false) | _ => .stuck
def orR (d : D) (x : R D) : R D := match d with | .bl true => .ok (.bl true) | .bl false => x | _ => .stuck
def notR (d : D) : R D := match d with | .bl k => .ok (.bl (!k)) | _ => .stuck
def eAn (fa fb : Ev D) : Ev D := fun ρ => (fa ρ).bind fun d => andR d (fb ρ)
def eOo (fa fb : Ev D) : Ev D := fun ρ => (fa ρ).bind fun d => orR d (fb ρ)
def eNt (fa : Ev D) : Ev D := e1 notR fa
theorem sd_one {op : BoolOp} (h : SD X cs W a fa) : SD X cs W (.BoolOp op [a] pos) fa := pe_one h
theorem sd_land (h : SD X cs W a fa) (k : SD X cs W (.BoolOp .And (b :: rest) pos) fb) : SD X cs W (.BoolOp .And (a :: b :: rest) pos) (eAn fa fb) := peImp (pe_and h k) fun σ H Q ⟨Φ, ρ, r, q⟩ => tG.bind (rp := rD X.K) r q fun Φ1 H1 d v r1 _ rep q => by
  first | unfold andR at q | unfold orR at q | unfold notR at q
  split at q
  · cases rep; exact ⟨_, rfl, Φ1, ρ, r1, q⟩
  · cases rep; exact ⟨_, rfl, q.ok r1.sub (.bl _)⟩
  · exact q.elim
theorem sd_lor (h : SD X cs W a fa) (k : SD X cs W (.BoolOp .Or (b :: rest) pos) fb) : SD X cs W (.BoolOp .Or (a :: b :: rest) pos) (eOo fa fb) := peImp (pe_or h k) fun σ H Q ⟨Φ, ρ, r, q⟩ => tG.bind (rp := rD X.K) r q fun Φ1 H1 d v r1 _ rep q => by
  first | unfold andR at q | unfold orR at q | unfold notR at q
  split at q
  · cases rep; exact ⟨_, rfl, q.ok r1.sub (.bl _)⟩
  · cases rep; exact ⟨_, rfl, Φ1, ρ, r1, q⟩
  · exact q.elim
def eIf (f : Ev Bool) (fa fb : Ev D) : Ev D := fun ρ => (f ρ).bind fun k => if k = true then fa ρ else fb ρ
theorem sd_if (h : ST X cs W c f) (ha : SD X cs W a fa) (hb : SD X cs W b fb) : SD X cs W (.IfExp c a b pos) (eIf f fa fb) := peImp (pe_ifExp h ha hb) fun σ H Q ⟨Φ, ρ, r, q⟩ => tG.bind (rp := rB) r q fun Φ1 H1 d v r1 _ rep q => by
  cases rep
  cases d with
  | true => exact ⟨Φ1, ρ, r1, q⟩
  | false => exact ⟨Φ1, ρ, r1, q⟩
def aNil : Ev (List D) := fun _ => .ok []
def aCons (fa : Ev D) (fs : Ev (List D)) : Ev (List D) := fun ρ => (fa ρ).bind fun d => (fs ρ).bind fun ds => .ok (d :: ds)
variable {es : List Expr} {fs : Ev (List D)}
theorem sa_nil : SA X cs W [] aNil := paImp pa_nil fun σ H Q ⟨Φ, ρ, r, q⟩ => q.ok r.sub .nil
theorem sa_cons (ha : SV X cs W a fa) (hs : SA X cs W es fs) (h : starEach (a :: es) X.env = (false, eval a X.env) :: starEach es X.env := by rfl) : SA X cs W (a :: es) (aCons fa fs) :=
  paImp (pa_cons ha hs h) fun σ H Q ⟨Φ, ρ, r, q⟩ => tG.bind (rp := rV X.K) r q fun Φ1 H1 d v r1 _ rep q => tG.bind (rp := rVs X.K) r1 q fun Φ2 H2 ds vs r2 x2 rep2 q => q.ok r2.sub (.cons (rep.ext x2) rep2)
theorem sad_nil : SAd X cs W [] aNil := paImp pa_nil fun σ H Q ⟨Φ, ρ, r, q⟩ => q.ok r.sub .nil
theorem sad_cons (ha : SD X cs W a fa) (hs : SAd X cs W es fs) (h : starEach (a :: es) X.env = (false, eval a X.env) :: starEach es X.env := by rfl) : SAd X cs W (a :: es) (aCons fa fs) :=
  paImp (pa_cons ha hs h) fun σ H Q ⟨Φ, ρ, r, q⟩ => tG.bind (rp := rD X.K) r q fun Φ1 H1 d v r1 _ rep q => tG.bind (rp := rDs X.K) r1 q fun Φ2 H2 ds vs r2 x2 rep2 q => q.ok r2.sub (.cons (rep.mono x2.mono) rep2)
def eTup (fs : Ev (List D)) : Ev D := fun ρ => (fs ρ).bind fun ds => if ds.length ≤ LIM then .ok (.tup ds) else .stuck
def eLst (fs : Ev (List D)) : Ev D := fun ρ => (fs ρ).bind fun ds => if ds.length ≤ LIM then .ok (.lst ds) else .stuck
theorem sd_tup {x1 : _} (h : SAd X cs W es fs) : SD X cs W (.Tuple es x1 pos) (eTup fs) := peImp (pe_tupF h) fun σ H Q ⟨Φ, ρ, r, q⟩ => tG.bind (rp := rDs X.K) r q fun Φ1 H1 ds vs r1 _ rep q => by
  split at q
  next h => exact ⟨by rw [← RepDs.length rep]; exact lim_le h, fun p o hp hc hd => q _ _ _ (Ext.fresh r1.sub hp) (RepD.tup SqT.ofF (RepDs.mono (Ext.fresh r1.sub hp).mono rep) fun _ => Kn.of hc hd)⟩
  next => exact q.elim
theorem sn_lst (h : SAd X cs W es fs) : SN X cs W (.List es pos) (eLst fs) := peImp (pe_lst h) fun σ H Q ⟨Φ, ρ, r, q⟩ => tG.bindN (rp := rDs X.K) r q fun Φ1 H1 ds vs r1 _ rep q => by
  split at q
  next h => exact ⟨by rw [← RepDs.length rep]; exact lim_le h, fun p hp => q _ _ _ (Ext.alloc r1.sub hp) hp (by
      cases z : Φ1 p with
      | none => rfl
      | some u => rw [r1.sub _ _ z] at hp; cases hp) (RepOwn.lst upd_same rep)⟩
  next => exact q.elim
theorem sd_lst (h : SAd X cs W es fs) : SD X cs W (.List es pos) (eLst fs) := (sn_lst h).sd
def eDic0 : Ev D := fun _ => .ok (.dic [])
def oR {α : Type} : Option α → R α
  | some a => .ok a
  | none => .stuck
def gIx : D → D → R D
  | .str s, .int i => if s.length ≤ LIM then (oR (atI s i)).bind fun c => .ok (.str [c]) else .stuck
  | d, .int i => (oR d.items).bind fun ds => oR (atI ds i)
  | _, _ => .stuck
theorem RepDs.atI {K : PySem.W.Frag} {Φ : Hp} {ds : List D} {vs : List V} {i : Int} {d : D} (r : RepDs K Φ ds vs) (h : L2.atI ds i = some d) : ∃ v, L2.atI vs i = some v ∧ RepD K Φ d v := by
  unfold L2.atI at h ⊢
  rw [← r.length]
  cases e : ixN ds.length i with
  | none => rw [e] at h; cases h
  | some j =>
    rw [e] at h
    exact r.get h
theorem oR_bind {α β : Type} {x : Option α} {k : α → R β} {P : R β → Prop} (h : P ((oR x).bind k)) (hs : ¬ P .stuck) : ∃ a, x = some a ∧ P (k a) := by
  cases x with
  | none => exact absurd h hs
  | some a => exact ⟨a, rfl, h⟩
theorem sd_ix (ha : SV X cs W a fa) (hb : SV X cs W b fb) (hs : PlainIx b := by exact fun _ _ => rfl) : SD X cs W (.Subscript a b pos) (e2 gIx fa fb) := peImp (pe_ix ix_seq ha hb hs) fun σ H Q h => run2 h fun Φ H v u d e m r1 r2 q => by
  unfold gIx at q
  split at q
  next s i =>
    cases r2.int_inv
    obtain ⟨x, rfl, rfl⟩ := r1.str_inv
    split at q
    next hl =>
      obtain ⟨c, hc, q⟩ := oR_bind (P := Run cs (rD X.K) W σ Φ H Q) q id
      exact .inr (.inr ⟨x, i, c, rfl, rfl, by rw [len_toL]; exact lim_le hl, hc, q.ok m (.str _ _ rfl)⟩)
    next => exact q.elim
  next i _ =>
    cases r2.int_inv
    obtain ⟨ds, hd, q⟩ := oR_bind (P := Run cs (rD X.K) W σ Φ H Q) q id
    obtain ⟨p, vs, rfl, hs, rs⟩ := r1.items m hd
    cases e : atI ds i with
    | none => rw [e] at q; exact q.elim
    | some w =>
      rw [e] at q
      obtain ⟨w', h1, h2⟩ := rs.atI e
      rcases hs with hs | hs
      · exact .inl ⟨p, vs, i, w', rfl, rfl, hs, h1, q.ok m h2⟩
      · exact .inr (.inl ⟨p, vs, i, w', rfl, rfl, hs, h1, q.ok m h2⟩)
  next => exact q.elim
end
end PL
set_option Elab.async false
set_option linter.all false
set_option maxRecDepth 100000
namespace PL
set_option autoImplicit false
open PySem PySem.Spec PyProof.Rows L2
section
variable {X : Cx} {cs : Nat → Addr} {W : WX} {a b c e o : Expr} {fa fb fc : Ev D} {pos p : Pos} {es : List Expr} {fs : Ev (List D)}
def rO : Rp (Option Int) (Option Int) := ⟨fun _ _ a b => a = b, fun h _ => h⟩
def SO (X : Cx) (cs : Nat → Addr) (W : WX) (e : Option Expr) (f : Ev (Option Int)) : Prop := PO X e (tG X.K cs rO W f)
theorem poImp {e : Option Expr} {t t' : TO} (h : PO X e t) (i : ∀ σ H Q, t' σ H Q → t σ H Q) : PO X e t' := by
  obtain ⟨h⟩ := h
  constructor
  intros
  apply h
  · assumption
  · apply i; assumption
def oNone : Ev (Option Int) := fun _ => .ok none
def oSome (fa : Ev D) : Ev (Option Int) := e1 (fun d => match d with | .int i => .ok (some i) | _ => .stuck) fa
theorem so_none : SO X cs W none oNone := poImp po_none fun σ H Q ⟨Φ, ρ, r, q⟩ => q.ok r.sub rfl
theorem so_some (h : SV X cs W e fa) : SO X cs W (some e) (oSome fa) := poImp (po_some h) fun σ H Q ⟨Φ, ρ, r, q⟩ => tG.bind (rp := rV X.K) r q fun Φ1 H1 d v r1 _ rep q => by
  split at q
  · cases RepV.int_inv rep; exact ⟨_, rfl, q.ok r1.sub rfl⟩
  · exact q.elim
def cutL {α : Type} (xs : List α) (lo hi : Option Int) : List α := (xs.drop (HT.sIx xs.length 0 lo)).take (HT.sIx xs.length xs.length hi - HT.sIx xs.length 0 lo)
def gSl (lo hi : Option Int) : D → R D
  | .str s => if s.length ≤ LIM then .ok (.str (cutL s lo hi)) else .stuck
  | .lst ds => .ok (.lst (cutL ds lo hi))
  | .scr ns => .ok (.lst ((cutL ns lo hi).map D.int))
  | .tup ds => .ok (.tup (cutL ds lo hi))
  | _ => .stuck
def eSl (fa : Ev D) (fl fh : Ev (Option Int)) : Ev D := fun ρ => (fa ρ).bind fun d => (fl ρ).bind fun lo => (fh ρ).bind fun hi => gSl lo hi d
theorem RepDs.cut {K : PySem.W.Frag} {Φ : Hp} {ds : List D} {vs : List V} (r : RepDs K Φ ds vs) (lo hi : Option Int) : RepDs K Φ (cutL ds lo hi) (cutV vs lo hi) := by
  unfold cutL cutV
  rw [r.length]
  exact (r.drop _).take _
theorem cutL_map {α β : Type} (f : α → β) (xs : List α) (lo hi : Option Int) : cutL (xs.map f) lo hi = (cutL xs lo hi).map f := by
  unfold cutL
  rw [List.length_map, ← List.map_drop, ← List.map_take]
theorem sd_sl {lo hi : Option Expr} {fl fh : Ev (Option Int)} {p2 : Pos} (ha : SV X cs W a fa) (hl : SO X cs W lo fl) (hh : SO X cs W hi fh) : SD X cs W (.Subscript a (.Slice lo hi none p2) pos) (eSl fa fl fh) :=
  peImp (pe_slice (sl_list.or (sl_tupF.or sl_str)) ha hl hh) fun σ H Q ⟨Φ, ρ, r, q⟩ => by
    refine tG.bind (rp := rV X.K) r q fun Φ1 H1 d v r1 _ rep q => ?_
    refine tG.bind (rp := rO) r1 q fun Φ2 H2 l l' r2 x2 e2 q => ?_
    refine tG.bind (rp := rO) r2 q fun Φ3 H3 h h' r3 x3 e3 q => ?_
    cases e2; cases e3
    have rep3 := (RepV.ext rep x2).ext x3
    have m := r3.sub
    unfold gSl at q
    split at q
    · obtain ⟨x, rfl, rfl⟩ := rep3.str_inv
      split at q
      next hl =>
        refine .inr (.inr ⟨x, rfl, by rw [len_toL]; exact lim_le hl, q.ok m (.str _ _ ?_)⟩)
        simp [cutS, cutL, Str.length]
      next => exact q.elim
    · obtain ⟨p, vs, rfl, h1, h2⟩ := rep3.lst_inv m
      exact .inl ⟨p, vs, rfl, SqL.of h1, fun z hz => q _ _ _ (Ext.fresh m hz) (RepD.lst upd_same ((h2.cut l h).mono (Ext.fresh m hz).mono))⟩
    · obtain ⟨p, rfl, h1⟩ := rep3.scr_inv m
      refine .inl ⟨p, _, rfl, h1, fun z hz => q _ _ _ (Ext.fresh m hz) (RepD.lst upd_same ?_)⟩
      have e : ∀ ns : List Int, cutV (List.map V.int ns) l h = List.map V.int (cutL ns l h) := fun ns => cutL_map V.int ns l h
      rw [e]
      exact RepDs.ints _
    · obtain ⟨p, vs, rfl, h1, h2⟩ := rep3.tup_inv m
      refine .inr (.inl ⟨p, vs, rfl, h1, fun hw => ?_, fun _ z o hz hc hd => q _ _ _ (Ext.fresh m hz) (RepD.tup SqT.ofF ((h2.cut l h).mono (Ext.fresh m hz).mono) fun _ => Kn.of hc hd)⟩)
      rw [← h2.length] at hw
      rcases rep3 with r | ⟨_, e, w⟩
      · refine q.ok m ?_
        unfold cutL
        rw [hw.1, hw.2, List.drop_zero, Nat.sub_zero, List.take_length]
        exact r
      · cases w
    · exact q.elim
def CallD (X : Cx) (cs : Nat → Addr) (W : WX) (r : List V → Hp → VK → Prop) (g : List D → R D) : Prop := ∀ (σ : L2.St) (Φ H : Hp) (Q : VK) (vs : List V) (ds : List D), Same Φ H → RepVs X.K Φ H ds vs → Run cs (rD X.K) W σ Φ H Q (g ds) → r vs H Q
def eCall (g : List D → R D) (fs : Ev (List D)) : Ev D := fun ρ => (fs ρ).bind g
theorem runA {r : List V → Hp → VK → Prop} {g : List D → R D} (hg : CallD X cs W r g) {σ : L2.St} {H : Hp} {Q : VK} (h : tG X.K cs (rD X.K) W (eCall g fs) σ H Q) : tG X.K cs (rVs X.K) W fs σ H fun vs H1 => r vs H1 Q := by
  obtain ⟨Φ, ρ, z, q⟩ := h
  exact tG.bind (rp := rVs X.K) z q fun Φ1 H1 ds vs r1 _ rep q => hg σ Φ1 H1 Q vs ds r1.sub rep q
theorem sd_callB {r : List V → Hp → VK → Prop} {g : List D → R D} {id : String} {x : Str} (hc : CallR X (.builtin id) r) (hd : CallD X cs W r g) (hv : bootBuiltins x = some (.builtin id)) (hg : Gl X x) (hm : X.mg x = none) (ha : SA X cs W (e :: es) fs) (hn : x ≠ "__name__" := by decide) (hdb : (x == ("__debug__" : Str)) = false := by decide)
    (he : starEach (e :: es) X.env = (false, eval e X.env) :: starEach es X.env := by rfl) (hpl : (backTo pos (starEach es X.env)).any (·.1) = false := by rfl) : SD X cs W (.Call (.Name x p) (e :: es) [] pos) (eCall g fs) :=
  peImp (pe_callB hc hg hm hv ha hn hdb he hpl) fun σ H Q h => runA hd h
theorem sd_callT {r : List V → Hp → VK → Prop} {g : List D → R D} {id : String} {x : Str} (hc : CallR X (.type id) r) (hd : CallD X cs W r g) (hv : bootBuiltins x = some (.type id)) (hg : Gl X x) (hm : X.mg x = none) (ha : SA X cs W (e :: es) fs) (hn : x ≠ "__name__" := by decide) (hdb : (x == ("__debug__" : Str)) = false := by decide)
    (he : starEach (e :: es) X.env = (false, eval e X.env) :: starEach es X.env := by rfl) (hpl : (backTo pos (starEach es X.env)).any (·.1) = false := by rfl) : SD X cs W (.Call (.Name x p) (e :: es) [] pos) (eCall g fs) :=
  peImp (pe_callTy hc hg hm hv ha hn hdb he hpl) fun σ H Q h => runA hd h
def gLen : List D → R D
  | [.str s] => if s.length ≤ LIM then .ok (.int s.length) else .stuck
  | [d] => (oR d.items).bind fun ds => .ok (.int ds.length)
  | _ => .stuck
theorem RepVs.one {K : PySem.W.Frag} {Φ H : Hp} {d : D} {vs : List V} (h : RepVs K Φ H [d] vs) : ∃ v, vs = [v] ∧ RepV K Φ H d v := by
  cases h with
  | cons h r => cases r; exact ⟨_, rfl, h⟩
theorem RepVs.two {K : PySem.W.Frag} {Φ H : Hp} {d d2 : D} {vs : List V} (h : RepVs K Φ H [d, d2] vs) : ∃ v u, vs = [v, u] ∧ RepV K Φ H d v ∧ RepV K Φ H d2 u := by
  cases h with
  | cons h r =>
    obtain ⟨u, rfl, h2⟩ := r.one
    exact ⟨_, _, rfl, h, h2⟩
theorem cd_len : CallD X cs W (fun xs H Q => ∃ x n, xs = [x] ∧ LenV X.K x H n ∧ Q (.int n) H) gLen := fun σ Φ H Q vs ds m r q => by
  unfold gLen at q
  split at q
  · obtain ⟨v, rfl, h⟩ := r.one
    obtain ⟨x, rfl, rfl⟩ := h.str_inv
    split at q
    next hl => exact ⟨_, _, rfl, ⟨by rw [len_toL]; exact lim_le hl, rfl⟩, by rw [len_toL]; exact q.ok m (.int _)⟩
    next => exact q.elim
  · obtain ⟨v, rfl, h⟩ := r.one
    obtain ⟨ds, hd, q⟩ := oR_bind (P := Run cs (rD X.K) W σ Φ H Q) q id
    obtain ⟨p, vs, rfl, hs, rs⟩ := h.items m hd
    refine ⟨_, vs.length, rfl, ?_, by rw [← rs.length]; exact q.ok m (.int _)⟩
    rcases hs with hs | hs
    · exact .inl ⟨vs, hs, rfl⟩
    · exact .inr ⟨vs, hs, rfl⟩
  · exact q.elim
theorem sd_len (hg : Gl X "len") (hm : X.mg "len" = none) (ha : SA X cs W (e :: es) fs) 
    (he : starEach (e :: es) X.env = (false, eval e X.env) :: starEach es X.env := by rfl) (hpl : (backTo pos (starEach es X.env)).any (·.1) = false := by rfl) : SD X cs W (.Call (.Name "len" p) (e :: es) [] pos) (eCall gLen fs) := sd_callB call_len cd_len boot_len hg hm ha (by decide) (by decide) he hpl
def gIntOf : List D → R D
  | [.int i] => .ok (.int i)
  | [.bl k] => .ok (.int (if k then 1 else 0))
  | _ => .stuck
theorem sd_intOf (hg : Gl X "int") (hm : X.mg "int" = none) (ha : SA X cs W (e :: es) fs) 
    (he : starEach (e :: es) X.env = (false, eval e X.env) :: starEach es X.env := by rfl) (hpl : (backTo pos (starEach es X.env)).any (·.1) = false := by rfl) : SD X cs W (.Call (.Name "int" p) (e :: es) [] pos) (eCall gIntOf fs) :=
  sd_callT call_int1 (fun σ Φ H Q vs ds m r q => by
    unfold gIntOf at q
    split at q
    · obtain ⟨v, rfl, h⟩ := r.one
      cases h.int_inv
      exact .inl ⟨_, rfl, q.ok m (.int _)⟩
    · obtain ⟨v, rfl, h⟩ := r.one
      cases h.bl_inv
      exact .inr ⟨_, rfl, q.ok m (.int _)⟩
    · exact q.elim) (by decide +kernel) hg hm ha (by decide) (by decide) he hpl
def gMax2 : List D → R D
  | [.int i, .int j] => .ok (.int (if j > i then j else i))
  | _ => .stuck
def gMin2 : List D → R D
  | [.int i, .int j] => .ok (.int (if j < i then j else i))
  | _ => .stuck
theorem sd_max2 (hc : X.calm = true) (hg : Gl X "max") (hm : X.mg "max" = none) (ha : SA X cs W (e :: es) fs) 
    (he : starEach (e :: es) X.env = (false, eval e X.env) :: starEach es X.env := by rfl) (hpl : (backTo pos (starEach es X.env)).any (·.1) = false := by rfl) : SD X cs W (.Call (.Name "max" p) (e :: es) [] pos) (eCall gMax2 fs) :=
  sd_callB (call_max2 hc) (fun σ Φ H Q vs ds m r q => by
    unfold gMax2 at q
    split at q
    · obtain ⟨v, u, rfl, h, h2⟩ := r.two
      cases h.int_inv; cases h2.int_inv
      exact ⟨_, _, rfl, q.ok m (.int _)⟩
    · exact q.elim) (by decide +kernel) hg hm ha (by decide) (by decide) he hpl
def gTupleOf : List D → R D
  | [.tup ds] => .ok (.tup ds)
  | [.lst ds] => .ok (.tup ds)
  | [.scr ns] => .ok (.tup (ns.map D.int))
  | _ => .stuck
theorem sd_tupleOf (hg : Gl X "tuple") (hm : X.mg "tuple" = none) (ha : SA X cs W (e :: es) fs) 
    (he : starEach (e :: es) X.env = (false, eval e X.env) :: starEach es X.env := by rfl) (hpl : (backTo pos (starEach es X.env)).any (·.1) = false := by rfl) : SD X cs W (.Call (.Name "tuple" p) (e :: es) [] pos) (eCall gTupleOf fs) :=
  sd_callT call_tupleF (fun σ Φ H Q vs ds m r q => by
    unfold gTupleOf at q
    split at q
    · obtain ⟨v, rfl, h⟩ := r.one
      obtain ⟨p, vs, rfl, h1, h2⟩ := h.tup_inv m
      refine ⟨_, vs, rfl, .inr ⟨h1, ?_⟩⟩
      rcases h with h | ⟨_, e, w⟩
      · exact q.ok m h
      · cases w
    · obtain ⟨v, rfl, h⟩ := r.one
      obtain ⟨p, vs, rfl, h1, h2⟩ := h.lst_inv m
      exact ⟨_, vs, rfl, .inl ⟨SqL.of h1, fun l o hl hc hd => q _ _ _ (Ext.fresh m hl) (RepD.tup SqT.ofF (h2.mono (Ext.fresh m hl).mono) fun _ => Kn.of hc hd)⟩⟩
    · obtain ⟨v, rfl, h⟩ := r.one
      obtain ⟨p, rfl, h1⟩ := h.scr_inv m
      exact ⟨_, _, rfl, .inl ⟨h1, fun l o hl hc hd => q _ _ _ (Ext.fresh m hl) (RepD.tup SqT.ofF (RepDs.ints _) fun _ => Kn.of hc hd)⟩⟩
    · exact q.elim) (by decide +kernel) hg hm ha (by decide) (by decide) he hpl
def gListOf : List D → R D
  | [.tup ds] => .ok (.lst ds)
  | [.lst ds] => .ok (.lst ds)
  | [.scr ns] => .ok (.lst (ns.map D.int))
  | _ => .stuck
def D.ty : D → Option String
  | .non => some "NoneType"
  | .bl _ => some "bool"
  | .int _ => some "int"
  | .str _ => some "str"
  | .tup _ => some "tuple"
  | .lst _ => some "list"
  | .dic _ => some "dict"
  | _ => none
theorem sqT_ty {K : PySem.W.Frag} {Φ : Hp} {a : Addr} {vs : List V} (h : SqT K Φ a vs) : TyX K Φ (.ref a) (.type "tuple") := by
  rcases h with (h | ⟨o, h⟩) | ⟨o, its, n, h1, h2, _⟩
  · exact .base (.tup h)
  · exact .fTuple h
  · exact .kTuple h1 h2
theorem RepV.ty {K : PySem.W.Frag} {Φ H : Hp} {d : D} {v : V} {n : String} (h : RepV K Φ H d v) (m : Same Φ H) (e : d.ty = some n) : TyX K H v (.type n) := by
  cases d <;> simp only [D.ty, Option.some.injEq, reduceCtorEq] at e <;> subst e
  · cases h.non_inv; exact .base .non
  · cases h.bl_inv; exact .base (.bl _)
  · cases h.int_inv; exact .base (.int _)
  · obtain ⟨x, rfl, _⟩ := h.str_inv; exact .base (.str _)
  · obtain ⟨a, vs, rfl, h1, _⟩ := h.tup_inv m; exact sqT_ty h1
  · obtain ⟨a, vs, rfl, h1, _⟩ := h.lst_inv m; exact .base (.lst h1)
  · obtain ⟨a, vs, rfl, h1, _⟩ := h.dic_inv m; exact .base (.dK h1)
/-- the answer of isinstance by the type's name -/
def gIsi (n : String) (d : D) : R Bool := (oR d.ty).bind fun t => (oR (kitB t n)).bind fun b => .ok b
theorem sd_isi {y : Str} {n : String} {p1 : Pos} (hg : Gl X "isinstance") (hm : X.mg "isinstance" = none) (ha : SV X cs W a fa) (hy : Gl X y) (hmy : X.mg y = none) (hv : bootBuiltins y = some (.type n)) (hn : y ≠ "__name__" := by decide) (hd : (y == ("__debug__" : Str)) = false := by decide)
    (he : starEach (a :: [.Name y p1]) X.env = (false, eval a X.env) :: starEach [.Name y p1] X.env := by rfl) (hpl : (backTo pos (starEach [.Name y p1] X.env)).any (·.1) = false := by rfl) (h2 : starEach (.Name y p1 :: []) X.env = (false, eval (.Name y p1) X.env) :: starEach [] X.env := by rfl) :
    SD X cs W (.Call (.Name "isinstance" p) [a, .Name y p1] [] pos) (eBl (e1 (gIsi n) fa)) :=
  peImp (pe_callB call_isi hg hm (by decide +kernel) (pa_cons ha (pa_cons (pe_bltn (v := .ty n) hy hmy hv rfl hn hd) pa_nil h2) he) (by decide) (by decide) he hpl) fun σ H Q h => by
    refine run1 (runBl h) fun Φ H v d m r q => ?_
    obtain ⟨t, ht, q⟩ := oR_bind (P := Run cs rB W σ Φ H _) q id
    obtain ⟨b, hb, q⟩ := oR_bind (P := Run cs rB W σ Φ H _) q id
    exact ⟨v, .ty n, .type t, .type n, b, rfl, .ty n, r.ty m ht, kit_ty hb, q.ok m rfl⟩
/-- strs of a sequence -/
def D.strs : List D → Option (List (List Nat))
  | [] => some []
  | .str s :: ds => (D.strs ds).map (s :: ·)
  | _ => none
theorem RepDs.strs {K : PySem.W.Frag} {Φ : Hp} : ∀ {ds : List D} {vs : List V} {ss : List (List Nat)}, RepDs K Φ ds vs → D.strs ds = some ss → ∃ xs : List Str, vs = xs.map V.str ∧ xs.map (·.cps.toList) = ss
  | _, _, _, .nil, e => by simp only [D.strs, Option.some.injEq] at e; subst e; exact ⟨[], rfl, rfl⟩
  | d :: ds, _, ss, .cons h r, e => by
    cases d <;> simp only [D.strs, Option.map_eq_some_iff, reduceCtorEq] at e
    obtain ⟨ss', e1, e2⟩ := e
    obtain ⟨xs, rfl, h2⟩ := RepDs.strs r e1
    obtain ⟨x, h3, h4⟩ := (RepD.toV (H := Φ) h).str_inv
    subst h3
    exact ⟨x :: xs, rfl, by rw [← e2, List.map_cons, h2, h4]⟩
def eM1 (g : List Nat → D → R D) (fa fb : Ev D) : Ev D := fun ρ => (fa ρ).bind fun x => match x with | .str s => (fb ρ).bind (g s) | _ => .stuck
def gJoin (s : List Nat) (d : D) : R D := (oR d.items).bind fun ds => (oR (D.strs ds)).bind fun ss => if (ss.map (·.length)).sum + ss.length * s.length ≤ LIM then .ok (.str (TL.joinL s ss)) else .stuck
theorem runM1 {g : List Nat → D → R D} {r : V → List V → Hp → VK → Prop} {σ : L2.St} {H : Hp} {Q : VK} (h : tG X.K cs (rD X.K) W (eM1 g fa fb) σ H Q)
    (c : ∀ Φ H (x : Str) u d, Same Φ H → RepV X.K Φ H d u → Run cs (rD X.K) W σ Φ H Q (g x.cps.toList d) → r (.str x) [u] H Q) : tM1 r (tG X.K cs (rV X.K) W fa) (tG X.K cs (rV X.K) W fb) σ H Q := by
  obtain ⟨Φ, ρ, z, q⟩ := h
  refine tG.bind (rp := rV X.K) z q fun Φ1 H1 d v r1 _ rep q => ?_
  split at q
  next s =>
    obtain ⟨x, rfl, rfl⟩ := RepV.str_inv rep
    exact ⟨⟨x, rfl⟩, tG.bind (rp := rV X.K) r1 q fun Φ2 H2 d2 u r2 x2 rep2 q => c Φ2 H2 x u d2 r2.sub rep2 q⟩
  next => exact q.elim
theorem sd_join {apos : Pos} (ho : SV X cs W o fa) (ha : SV X cs W e fb) (hs : starEach [e] X.env = [(false, eval e X.env)] := by rfl) (hbase : attributeBase o "join" X.env (eval o X.env) = eval o X.env := by rfl) (hline : (apos.endLine == pos.line) = true := by rfl) :
    SD X cs W (.Call (.Attribute o "join" apos) [e] [] pos) (eM1 gJoin fa fb) := peImp (pe_join ho ha hs hbase hline) fun σ H Q h => runM1 h fun Φ H x u d m r q => by
  unfold gJoin at q
  obtain ⟨ds, hd, q⟩ := oR_bind (P := Run cs (rD X.K) W σ Φ H Q) q id
  obtain ⟨ss, hs, q⟩ := oR_bind (P := Run cs (rD X.K) W σ Φ H Q) q id
  obtain ⟨p, vs, rfl, h1, h2⟩ := r.items m hd
  obtain ⟨xs, rfl, hx⟩ := h2.strs hs
  split at q
  next hl =>
    refine ⟨x, p, xs, rfl, rfl, h1, ?_, q.ok m (.str _ _ ?_)⟩
    · have e1 : (xs.map (·.length)).sum + xs.length * x.length ≤ LIM := by
        have e2 : xs.map (·.length) = ss.map (·.length) := by
          rw [← hx, List.map_map]
          exact List.map_congr_left fun y _ => len_toL y
        have e3 : xs.length = ss.length := by rw [← hx, List.length_map]
        rw [e2, e3, len_toL]
        exact hl
      exact Nat.le_trans e1 (by decide)
    · rw [← hx, TL.join_eq]
      exact TL.tl_join x xs
  next => exact q.elim
end
structure WalksF (K : PySem.W.Frag) (J : It) (ds : List D) (Φ0 : Hp) : Prop where
  go : ∀ (Φ H : Hp) (i : Nat), Same Φ0 Φ → Same Φ H → i < ds.length → J.go i H
  stop : ∀ (Φ H : Hp) (i : Nat), Same Φ0 Φ → Same Φ H → ds.length ≤ i → J.stop i H
  yld : ∀ (Φ H : Hp) (i : Nat) (x : V) (H' : Hp) (d : D), Same Φ0 Φ → Same Φ H → ds[i]? = some d → J.yld i H x H' → ∃ Φ', Ext Φ H Φ' H' ∧ RepD K Φ' d x
structure WalksE (K : PySem.W.Frag) (J : It) (ds : List D) (Φ0 H0 : Hp) : Prop where
  go : ∀ (Φ H : Hp) (i : Nat), Ext Φ0 H0 Φ H → i < ds.length → J.go i H
  stop : ∀ (Φ H : Hp) (i : Nat), Ext Φ0 H0 Φ H → ds.length ≤ i → J.stop i H
  yld : ∀ (Φ H : Hp) (i : Nat) (x : V) (H' : Hp) (d : D), Ext Φ0 H0 Φ H → ds[i]? = some d → J.yld i H x H' → ∃ Φ', Ext Φ H Φ' H' ∧ RepD K Φ' d x
theorem WalksF.e {K : PySem.W.Frag} {J : It} {ds : List D} {Φ0 H0 : Hp} (w : WalksF K J ds Φ0) : WalksE K J ds Φ0 H0 :=
  ⟨fun Φ H i x => w.go Φ H i x.mono x.sub, fun Φ H i x => w.stop Φ H i x.mono x.sub, fun Φ H i x H' d e => w.yld Φ H i x H' d e.mono e.sub⟩
def rIF (K : PySem.W.Frag) : Rp (List D) It := ⟨fun Φ _ ds J => WalksF K J ds Φ, fun w x => ⟨fun Φ H i m => w.go Φ H i (x.mono.trans m), fun Φ H i m => w.stop Φ H i (x.mono.trans m), fun Φ H i y H' d m => w.yld Φ H i y H' d (x.mono.trans m)⟩⟩
def rIE (K : PySem.W.Frag) : Rp (List D) It := ⟨fun Φ H ds J => WalksE K J ds Φ H, fun w x => ⟨fun Φ H i m => w.go Φ H i (x.trans m), fun Φ H i m => w.stop Φ H i (x.trans m), fun Φ H i y H' d m => w.yld Φ H i y H' d (x.trans m)⟩⟩
def SIF (X : Cx) (cs : Nat → Addr) (W : WX) (tg e : Expr) (f : Ev (List D)) : Prop := PI X tg e (tG X.K cs (rIF X.K) W f)
def SIE (X : Cx) (cs : Nat → Addr) (W : WX) (tg e : Expr) (f : Ev (List D)) : Prop := PI X tg e (tG X.K cs (rIE X.K) W f)
theorem piImp {X : Cx} {tg e : Expr} {t t' : TI} (h : PI X tg e t) (i : ∀ σ H Q, t' σ H Q → t σ H Q) : PI X tg e t' := ⟨fun pins s σ H Q I hw => h.run pins s σ H Q I (i σ H Q hw)⟩
theorem piOr {X : Cx} {tg e : Expr} {t t' : TI} (h : PI X tg e t) (h' : PI X tg e t') : PI X tg e (fun σ H R => t σ H R ∨ t' σ H R) := ⟨fun pins s σ H Q I hw => by
  rcases hw with hw | hw
  · exact h.run pins s σ H Q I hw
  · exact h'.run pins s σ H Q I hw⟩
theorem SIF.e {X : Cx} {cs : Nat → Addr} {W : WX} {tg e : Expr} {f : Ev (List D)} (h : SIF X cs W tg e f) : SIE X cs W tg e f := piImp h fun σ H Q ⟨Φ, ρ, r, q⟩ => by
  refine ⟨Φ, ρ, r, ?_⟩
  cases e : f ρ with
  | ok a => rw [e] at q; exact fun Φ' H' b x y => q Φ' H' b x (WalksF.e y)
  | exc z => rw [e] at q; exact q
  | stuck => rw [e] at q; exact q
section
variable {X : Cx} {cs : Nat → Addr} {W : WX} {a b c e tg : Expr} {fa fb fc : Ev D} {pos p : Pos} {es : List Expr} {fs : Ev (List D)}
theorem walk_lst {K : PySem.W.Frag} {Φ H : Hp} {p : Addr} {vs : List V} {ds : List D} (h : H p = some (.lst vs)) (r : RepDs K Φ ds vs) : WalksE K (Itl K p) ds Φ H := by
  refine ⟨fun Φ1 H1 i x hi => ?_, fun Φ1 H1 i x hi => ?_, fun Φ1 H1 i v H' d x hd y => ?_⟩
  · have hv : i < vs.length := by rw [← r.length]; exact hi
    exact ⟨vs, vs[i], SqL.of (x.heap _ _ h), by simp [hv]⟩
  · exact ⟨vs, SqL.of (x.heap _ _ h), by rw [← r.length]; exact hi⟩
  · obtain ⟨rfl, y⟩ := y
    obtain ⟨u, h1, h2⟩ := r.get hd
    have h3 := y vs (SqL.of (x.heap _ _ h))
    rw [h1] at h3
    cases h3
    exact ⟨Φ1, .refl x.sub, h2.mono x.mono⟩
theorem walk_lstF {K : PySem.W.Frag} {Φ : Hp} {p : Addr} {vs : List V} {ds : List D} (h : SqL K Φ p vs) (r : RepDs K Φ ds vs) : WalksF K (Itl K p) ds Φ := by
  refine ⟨fun Φ1 H1 i m s hi => ?_, fun Φ1 H1 i m s hi => ?_, fun Φ1 H1 i v H' d m s hd y => ?_⟩
  · have hv : i < vs.length := by rw [← r.length]; exact hi
    exact ⟨vs, vs[i], (m.trans s).seq h, by simp [hv]⟩
  · exact ⟨vs, (m.trans s).seq h, by rw [← r.length]; exact hi⟩
  · obtain ⟨rfl, y⟩ := y
    obtain ⟨u, h1, h2⟩ := r.get hd
    have h3 := y vs ((m.trans s).seq h)
    rw [h1] at h3
    cases h3
    exact ⟨Φ1, .refl s, h2.mono m⟩
theorem walk_tup {K : PySem.W.Frag} {Φ : Hp} {p : Addr} {vs : List V} {ds : List D} (h : SqT K Φ p vs) (r : RepDs K Φ ds vs) : WalksF K (Itt K p) ds Φ := by
  refine ⟨fun Φ1 H1 i m s hi => ?_, fun Φ1 H1 i m s hi => ?_, fun Φ1 H1 i v H' d m s hd y => ?_⟩
  · have hv : i < vs.length := by rw [← r.length]; exact hi
    exact ⟨vs, vs[i], sqT_mono (m.trans s) h, by simp [hv]⟩
  · exact ⟨vs, sqT_mono (m.trans s) h, by rw [← r.length]; exact hi⟩
  · obtain ⟨rfl, y⟩ := y
    obtain ⟨u, h1, h2⟩ := r.get hd
    have h3 := y vs (sqT_mono (m.trans s) h)
    rw [h1] at h3
    cases h3
    exact ⟨Φ1, .refl s, h2.mono m⟩
def iSeq (fa : Ev D) : Ev (List D) := fun ρ => (fa ρ).bind fun d => oR d.items
theorem sif_seq (h : SD X cs W e fa) : SIF X cs W tg e (iSeq fa) := piImp (piOr (pi_list h) (pi_tup h)) fun σ H Q ⟨Φ, ρ, r, q⟩ => by
  unfold iSeq at q
  cases ed : fa ρ with
  | stuck => rw [ed] at q; exact q.elim
  | exc x => exact .inl (tG.bind' (rp := rD X.K) r q fun Φ1 H1 d' v e1 r1 x rep q => by rw [ed] at e1; cases e1)
  | ok d =>
    cases d with
    | tup ds =>
      refine .inr (tG.bind' (rp := rD X.K) r q fun Φ1 H1 d' v e1 r1 x rep q => ?_)
      rw [ed] at e1; cases e1
      cases rep with
      | tup h1 h2 => exact ⟨_, rfl, ⟨_, sqT_mono r1.sub h1⟩, q.ok r1.sub (walk_tup h1 h2)⟩
    | lst ds =>
      refine .inl (tG.bind' (rp := rD X.K) r q fun Φ1 H1 d' v e1 r1 x rep q => ?_)
      rw [ed] at e1; cases e1
      cases rep with
      | lst h1 h2 => exact ⟨_, rfl, ⟨_, SqL.of (r1.sub _ _ h1)⟩, q.ok r1.sub (walk_lstF (SqL.of h1) h2)⟩
    | scr ns =>
      refine .inl (tG.bind' (rp := rD X.K) r q fun Φ1 H1 d' v e1 r1 x rep q => ?_)
      rw [ed] at e1; cases e1
      cases rep with
      | scr h1 => exact ⟨_, rfl, ⟨_, r1.sub.seq h1⟩, q.ok r1.sub (walk_lstF h1 (RepDs.ints _))⟩
    | _ => rw [ed] at q; exact q.elim
theorem sie_seq (h : SV X cs W e fa) : SIE X cs W tg e (iSeq fa) := piImp (piOr (pi_list h) (pi_tup h)) fun σ H Q ⟨Φ, ρ, r, q⟩ => by
  unfold iSeq at q
  cases ed : fa ρ with
  | stuck => rw [ed] at q; exact q.elim
  | exc x => exact .inl (tG.bind' (rp := rV X.K) r q fun Φ1 H1 d' v e1 r1 x rep q => by rw [ed] at e1; cases e1)
  | ok d =>
    cases d with
    | tup ds =>
      refine .inr (tG.bind' (rp := rV X.K) r q fun Φ1 H1 d' v e1 r1 x rep q => ?_)
      rw [ed] at e1; cases e1
      rcases rep with rep | ⟨_, _, rep⟩
      · cases rep with
        | tup h1 h2 => exact ⟨_, rfl, ⟨_, sqT_mono r1.sub h1⟩, q.ok r1.sub (walk_tup h1 h2).e⟩
      · cases rep
    | lst ds =>
      refine .inl (tG.bind' (rp := rV X.K) r q fun Φ1 H1 d' v e1 r1 x rep q => ?_)
      rw [ed] at e1; cases e1
      obtain ⟨a, vs, rfl, h1, h2⟩ := RepV.lst_inv rep r1.sub
      exact ⟨_, rfl, ⟨_, SqL.of h1⟩, q.ok r1.sub (walk_lst h1 h2)⟩
    | scr ns =>
      refine .inl (tG.bind' (rp := rV X.K) r q fun Φ1 H1 d' v e1 r1 x rep q => ?_)
      rw [ed] at e1; cases e1
      rcases rep with rep | ⟨_, _, rep⟩
      · cases rep with
        | scr h1 => exact ⟨_, rfl, ⟨_, r1.sub.seq h1⟩, q.ok r1.sub (walk_lstF h1 (RepDs.ints _)).e⟩
      · cases rep
    | _ => rw [ed] at q; exact q.elim
def rangeD (a b : Int) : List D := (List.range (b - a).toNat).map fun i => D.int (a + (i : Nat))
theorem walk_rng {K : PySem.W.Frag} {Φ : Hp} (a b : Int) : WalksF K (Itr a (b - a).toNat) (rangeD a b) Φ := by
  have hl : (rangeD a b).length = (b - a).toNat := by simp [rangeD]
  refine ⟨fun Φ1 H1 i m s hi => ?_, fun Φ1 H1 i m s hi => ?_, fun Φ1 H1 i v H' d m s hd y => ?_⟩
  · rw [hl] at hi; exact hi
  · rw [hl] at hi; exact hi
  · obtain ⟨rfl, rfl⟩ := y
    have hi : i < (b - a).toNat := by rw [← hl]; exact (List.getElem?_eq_some_iff.mp hd).1
    have e : d = .int (a + (i : Nat)) := by
      unfold rangeD at hd
      rw [List.getElem?_map, List.getElem?_range hi] at hd
      exact (Option.some.inj hd).symm
    subst e
    exact ⟨Φ1, .refl s, .int _⟩
def smallR (i : Int) : Prop := -(2 ^ 62) ≤ i ∧ i < 2 ^ 62
instance (i : Int) : Decidable (smallR i) := inferInstanceAs (Decidable (_ ∧ _))
def gRng1 : List D → R (List D)
  | [.int n] => if smallR n then .ok (rangeD 0 n) else .stuck
  | _ => .stuck
def gRng2 : List D → R (List D)
  | [.int a, .int b] => if smallR a ∧ smallR b then .ok (rangeD a b) else .stuck
  | _ => .stuck
def iRg (g : List D → R (List D)) (fs : Ev (List D)) : Ev (List D) := fun ρ => (fs ρ).bind g
theorem sif_range1 (hg : Gl X "range") (hm : X.mg "range" = none) (ha : SA X cs W [a] fs) (hs : starEach [a] X.env = [(false, eval a X.env)] := by rfl) : SIF X cs W tg (.Call (.Name "range" p) [a] [] pos) (iRg gRng1 fs) :=
  piImp (pi_range1 hg hm ha hs) fun σ H Q ⟨Φ, ρ, r, q⟩ => tG.bind (rp := rVs X.K) r q fun Φ1 H1 ds vs r1 _ rep q => by
    unfold gRng1 at q
    split at q
    · obtain ⟨v, rfl, h⟩ := RepVs.one rep
      cases h.int_inv
      split at q
      next h =>
        refine ⟨_, rfl, h.1, h.2, q.ok r1.sub ?_⟩
        have w := walk_rng (K := X.K) (Φ := Φ1) 0 (by assumption)
        rwa [Int.sub_zero] at w
      next => exact q.elim
    · exact q.elim
end
def setMany {α : Type} (f : V → α) (l : List α) : List (Nat × V) → List α
  | [] => l
  | (i, v) :: r => setMany f (l.set i (f v)) r
def setS (ρ : List Sl) : List (Nat × D) → List Sl
  | [] => ρ
  | (i, d) :: r => setS (ρ.set i (.val d)) r
inductive RepAs (K : PySem.W.Frag) (Φ : Hp) : List (Nat × D) → List (Nat × V) → Prop
  | nil : RepAs K Φ [] []
  | cons {i : Nat} {d : D} {v : V} {ds : List (Nat × D)} {vs : List (Nat × V)} : RepD K Φ d v → RepAs K Φ ds vs → RepAs K Φ ((i, d) :: ds) ((i, v) :: vs)
abbrev setV (σ : L2.St) (l : List (Nat × V)) : L2.St := setMany (fun v => some v) σ l
theorem Rel.set {K : PySem.W.Frag} {Φ H : Hp} {σ : L2.St} {ρ : List Sl} {i : Nat} {d : D} {v : V} (r : Rel K Φ H σ ρ) (h : RepD K Φ d v) : Rel K Φ H (σ.set i (some v)) (ρ.set i (.val d)) := by
  have ow : ∀ j a, OwnAt (σ.set i (some v)) (ρ.set i (.val d)) j a → OwnAt σ ρ j a := fun j a ⟨h1, e, h2⟩ => by
    by_cases hj : i = j
    · subst hj
      by_cases hl : i < ρ.length
      · rw [List.getElem?_set_self hl] at h2; cases h2
      · rw [List.getElem?_eq_none (by simpa using hl)] at h2; cases h2
    · rw [List.getElem?_set_ne hj] at h1 h2
      exact ⟨h1, e, h2⟩
  refine ⟨r.sub, by rw [List.length_set, List.length_set, r.len], fun j e hj => ?_, fun j e hj => ?_, fun j k a h1 h2 => r.sep j k a (ow _ _ h1) (ow _ _ h2)⟩
  · by_cases z : i = j
    · subst z
      by_cases hl : i < ρ.length
      · rw [List.getElem?_set_self hl] at hj
        cases hj
        exact ⟨v, List.getElem?_set_self (by rw [r.len]; exact hl), h⟩
      · rw [List.getElem?_eq_none (by simpa using hl)] at hj; cases hj
    · rw [List.getElem?_set_ne z] at hj ⊢
      exact r.val j e hj
  · by_cases z : i = j
    · subst z
      by_cases hl : i < ρ.length
      · rw [List.getElem?_set_self hl] at hj; cases hj
      · rw [List.getElem?_eq_none (by simpa using hl)] at hj; cases hj
    · rw [List.getElem?_set_ne z] at hj ⊢
      exact r.own j e hj
theorem Rel.setMany {K : PySem.W.Frag} {Φ H : Hp} : ∀ {as : List (Nat × D)} {ws : List (Nat × V)} {σ : L2.St} {ρ : List Sl}, Rel K Φ H σ ρ → RepAs K Φ as ws → Rel K Φ H (setV σ ws) (setS ρ as)
  | _, _, _, _, r, .nil => r
  | (i, d) :: as, (_, v) :: ws, σ, ρ, r, .cons h t => Rel.setMany (σ := σ.set i (some v)) (ρ := ρ.set i (.val d)) (r.set h) t
/-- a target: what it does with a value -/
structure Tgt (X : Cx) (tg : Expr) (g : TG) (ft : D → R (List (Nat × D))) : Prop where
  pg : PG X tg g
  run : ∀ (Φ H : Hp) (σ : L2.St) (d : D) (v : V) (as : List (Nat × D)) (Q : L2.St → Hp → Prop), Same Φ H → RepD X.K Φ d v → ft d = .ok as → (∀ ws, RepAs X.K Φ as ws → Q (setV σ ws) H) → g v σ H Q
def ftOne (i : Nat) (d : D) : R (List (Nat × D)) := .ok [(i, d)]
def ftTup (is : List Nat) : D → R (List (Nat × D))
  | .tup ds => if ds.length = is.length then .ok (is.zip ds) else .stuck
  | _ => .stuck
section
variable {X : Cx} {tg : Expr} {pos : Pos} {es : List Expr}
theorem tg_name (i : Nat) {x : Str} (hN : X.N.Nodup) (hi : X.N[i]? = some x := by rfl) (hx : Loc X.env.scope x := by first | exact Or.inl rfl | exact Or.inr rfl) (hf : X.fn x = true ∨ X.env.scope.names.lookup x = some .local := by first | exact .inl rfl | exact .inr rfl | assumption) : Tgt X (.Name x pos) (gName i) (ftOne i) :=
  ⟨pg_name hN hi hx hf, fun Φ H σ d v as Q m r e k => by
    cases e
    exact k [(i, v)] (.cons r .nil)⟩
structure Tgs (X : Cx) (es : List Expr) (gs : TGs) (is : List Nat) : Prop where
  pg : PGs X es gs
  run : ∀ (vs : List V) (σ : L2.St) (H : Hp) (Q : L2.St → Hp → Prop), vs.length = is.length → Q (setV σ (is.zip vs)) H → gs vs σ H Q
  len : es.length = is.length
theorem tgs_nil : Tgs X [] gNil [] := ⟨pgs_nil, fun vs σ H Q h q => ⟨List.eq_nil_of_length_eq_zero h, q⟩, rfl⟩
theorem tgs_cons (i : Nat) {x : Str} {gs : TGs} {is : List Nat} (hN : X.N.Nodup) (t : Tgs X es gs is) (hi : X.N[i]? = some x := by rfl) (hx : Loc X.env.scope x := by first | exact Or.inl rfl | exact Or.inr rfl) (hf : X.fn x = true ∨ X.env.scope.names.lookup x = some .local := by first | exact .inl rfl | exact .inr rfl | assumption) : Tgs X (.Name x pos :: es) (gCons (gName i) gs) (i :: is) :=
  ⟨pgs_cons (pg_name hN hi hx hf) t.pg, fun vs σ H Q h q => by
    cases vs with
    | nil => cases h
    | cons v vs => exact ⟨v, vs, rfl, t.run vs _ H Q (by simpa using h) q⟩, by simp [t.len]⟩
theorem repAs_zip {K : PySem.W.Frag} {Φ : Hp} : ∀ {is : List Nat} {ds : List D} {vs : List V}, RepDs K Φ ds vs → RepAs K Φ (is.zip ds) (is.zip vs)
  | [], _, _, _ => .nil
  | _ :: _, _, _, .nil => .nil
  | i :: is, _, _, .cons h r => .cons h (repAs_zip r)
theorem tg_tup {k : Nat} {gs : TGs} {is : List Nat} (hc : X.calm = true) (t : Tgs X es gs is) (hn : (assignEach es X.env).length = is.length := by rfl) (hst : (assignEach es X.env).findIdx? (·.1) = none := by rfl) : Tgt X (.Tuple es k pos) (gTup X.K is.length gs) (ftTup is) :=
  ⟨pg_tup hc t.pg hn hst, fun Φ H σ d v as Q m r e kk => by
    unfold ftTup at e
    split at e
    · split at e
      next hl =>
        cases e
        cases r with
        | tup h1 h2 => exact ⟨_, _, rfl, sqT_mono m h1, by rw [← hl, h2.length], t.run _ _ _ _ (by rw [← h2.length, hl]) (kk _ (repAs_zip h2))⟩
      next => cases e
    · cases e⟩
end
def noX {α : Type} : R α → R α
  | .ok a => .ok a
  | _ => .stuck
def wipeS (ρ : List Sl) : List Nat → List Sl
  | [] => ρ
  | v :: vs => (wipeS ρ vs).set v .emp
theorem Rel.drop {K : PySem.W.Frag} {Φ H : Hp} {σ : L2.St} {ρ : List Sl} (r : Rel K Φ H σ ρ) (i : Nat) : Rel K Φ H (σ.set i none) (ρ.set i .emp) := by
  have ow : ∀ j a, OwnAt (σ.set i none) (ρ.set i .emp) j a → OwnAt σ ρ j a := fun j a ⟨h1, e, h2⟩ => by
    by_cases hj : i = j
    · subst hj
      by_cases hl : i < ρ.length
      · rw [List.getElem?_set_self hl] at h2; cases h2
      · rw [List.getElem?_eq_none (by simpa using hl)] at h2; cases h2
    · rw [List.getElem?_set_ne hj] at h1 h2
      exact ⟨h1, e, h2⟩
  refine ⟨r.sub, by rw [List.length_set, List.length_set, r.len], fun j e hj => ?_, fun j e hj => ?_, fun j k a h1 h2 => r.sep j k a (ow _ _ h1) (ow _ _ h2)⟩
  all_goals
    by_cases z : i = j
    · subst z
      by_cases hl : i < ρ.length
      · rw [List.getElem?_set_self hl] at hj; cases hj
      · rw [List.getElem?_eq_none (by simpa using hl)] at hj; cases hj
    · rw [List.getElem?_set_ne z] at hj ⊢
      first | exact r.val j e hj | exact r.own j e hj
theorem Rel.wipe {K : PySem.W.Frag} {Φ H : Hp} {σ : L2.St} {ρ : List Sl} (r : Rel K Φ H σ ρ) : ∀ vs : List Nat, Rel K Φ H (L2.wipe σ vs) (wipeS ρ vs)
  | [] => r
  | v :: vs => (Rel.wipe r vs).drop v
theorem wipe_set {σ : L2.St} {i : Nat} {x : Option V} : ∀ {vs : List Nat}, i ∈ vs → L2.wipe (σ.set i x) vs = L2.wipe σ vs
  | v :: vs, h => by
    unfold L2.wipe
    rcases List.mem_cons.mp h with h | h
    · subst h
      by_cases hm : i ∈ vs
      · rw [wipe_set hm]
      · have aux : ∀ (us : List Nat) (σ : L2.St), (L2.wipe (σ.set i x) us).set i none = (L2.wipe σ us).set i none := fun us => by
          induction us with
          | nil => intro σ; unfold L2.wipe; rw [List.set_set]
          | cons u us ih =>
            intro σ
            unfold L2.wipe
            by_cases hu : u = i
            · subst hu; rw [List.set_set, List.set_set]; exact ih σ
            · rw [List.set_comm _ _ hu, ih σ, List.set_comm _ _ (Ne.symm hu)]
        exact aux vs σ
    · rw [wipe_set h]
theorem wipe_wipe {σ : L2.St} : ∀ (us vs : List Nat), (∀ i ∈ us, i ∈ vs) → L2.wipe (L2.wipe σ us) vs = L2.wipe σ vs
  | [], _, _ => rfl
  | u :: us, vs, h => by
    show L2.wipe ((L2.wipe σ us).set u none) vs = _
    rw [wipe_set (h u (by simp)), wipe_wipe us vs fun i hi => h i (by simp [hi])]
theorem wipe_setV {vs : List Nat} : ∀ (ws : List (Nat × V)) (σ : L2.St), (∀ p ∈ ws, p.1 ∈ vs) → L2.wipe (setV σ ws) vs = L2.wipe σ vs
  | [], _, _ => rfl
  | (i, v) :: ws, σ, h => by
    show L2.wipe (setV (σ.set i (some v)) ws) vs = _
    rw [wipe_setV ws _ fun p hp => h p (by simp [hp]), wipe_set (h (i, v) (by simp))]
theorem RepAs.fst {K : PySem.W.Frag} {Φ : Hp} {vs : List Nat} : ∀ {as : List (Nat × D)} {ws : List (Nat × V)}, RepAs K Φ as ws → (∀ p ∈ as, p.1 ∈ vs) → ∀ p ∈ ws, p.1 ∈ vs
  | _, _, .nil, _ => fun p hp => by cases hp
  | (i, d) :: as, (_, v) :: ws, .cons _ t, h => fun p hp => by
    rcases List.mem_cons.mp hp with e | hp
    · subst e; exact h (i, d) List.mem_cons_self
    · exact RepAs.fst t (fun q hq => h q (by simp [hq])) p hp
/-- the turns of a comprehension -/
def lcGo (ρ : List Sl) (ft : D → R (List (Nat × D))) (fc : Ev Bool) (fe : Ev D) : List D → R (List D)
  | [] => .ok []
  | d :: ds => (ft d).bind fun as => (noX (fc (setS ρ as))).bind fun k => if k = true then (noX (fe (setS ρ as))).bind fun y => (lcGo ρ ft fc fe ds).bind fun ys => .ok (y :: ys) else lcGo ρ ft fc fe ds
def eLc (vs : List Nat) (fi : Ev (List D)) (ft : D → R (List (Nat × D))) (fc : Ev Bool) (fe : Ev D) : Ev D := fun ρ => (fi ρ).bind fun ds => if ds.length ≤ LIM then (noX (lcGo (wipeS ρ vs) ft fc fe ds)).bind fun ys => .ok (.lst ys) else .stuck
abbrev W0 : WX := fun _ _ _ _ => False
abbrev fcYes : Ev Bool := fun _ => .ok true
def STs (X : Cx) (cs : Nat → Addr) (W : WX) (ifs : List Expr) (f : Ev Bool) : Prop := PTs X ifs (tG X.K cs rB W f)
theorem ptsImp {X : Cx} {e : List Expr} {t t' : TT} (h : PTs X e t) (i : ∀ σ H Q, t' σ H Q → t σ H Q) : PTs X e t' := ⟨fun pins s σ H Q I hw => h.run pins s σ H Q I (i σ H Q hw)⟩
theorem sts_nil {X : Cx} {cs : Nat → Addr} {W : WX} : STs X cs W [] fcYes := ptsImp pts_nil fun σ H Q ⟨Φ, ρ, r, q⟩ => q.ok r.sub rfl
theorem sts_one {X : Cx} {cs : Nat → Addr} {W : WX} {e : Expr} {f : Ev Bool} (h : ST X cs W e f) : STs X cs W [e] f := pts_one h
theorem R.bind_ok {α β : Type} {r : R α} {k : α → R β} {b : β} (h : r.bind k = .ok b) : ∃ a, r = .ok a ∧ k a = .ok b := by
  cases r with
  | ok a => exact ⟨a, rfl, h⟩
  | exc x => cases h
  | stuck => cases h
theorem noX_ok {α : Type} {r : R α} {a : α} (h : noX r = .ok a) : r = .ok a := by
  cases r with
  | ok b => exact h
  | exc x => cases h
  | stuck => cases h
theorem Run.of_ok {α β : Type} {cs : Nat → Addr} {rp : Rp α β} {W : WX} {σ : L2.St} {Φ H : Hp} {Q : β → Hp → Prop} {r : R α} {a : α} (e : r = .ok a) (h : ∀ Φ' H' b, Ext Φ H Φ' H' → rp.rep Φ' H' a b → Q b H') : Run cs rp W σ Φ H Q r := by
  rw [e]; exact h
section
variable {X : Cx} {cs : Nat → Addr} {W : WX}
/-- the reading of a comprehension, from the reading that it makes a new list -/
theorem lc_run {g : TG} {ft : D → R (List (Nat × D))} {fc : Ev Bool} {fe : Ev D} {fi : Ev (List D)} {vs : List Nat} {tg : Expr} {XB : Cx} (hK : XB.K = X.K) (hft : ∀ d as, ft d = .ok as → ∀ p ∈ as, p.1 ∈ vs) (hg : Tgt XB tg g ft)
    {σ : L2.St} {H : Hp} {Q : VK} (h : tN X.K cs W (eLc vs fi ft fc fe) σ H Q) : tLc (tG X.K cs (rIE X.K) W fi) g (tG X.K cs rB W0 fc) (tG X.K cs (rD X.K) W0 fe) vs σ H Q := by
  obtain ⟨Φ, ρ, r, q⟩ := h
  refine tG.bindN (rp := rIE X.K) r q fun Φ1 H1 ds J r1 _ wk q D hD => ?_
  by_cases hlim : ds.length ≤ LIM
  case neg => rw [if_neg hlim] at q; exact q.elim
  rw [if_pos hlim] at q
  cases eg : lcGo (wipeS ρ vs) ft fc fe ds with
  | exc z => rw [eg] at q; exact q.elim
  | stuck => rw [eg] at q; exact q.elim
  | ok out =>
  rw [eg] at q
  have q : RunN X.K cs W σ Φ1 H1 Q (.ok (.lst out)) := q
  refine ⟨fun i m H' => m = ds.length - i ∧ i ≤ ds.length ∧ ∃ Φ' acc accD rest, Ext Φ1 H1 Φ' H' ∧ H' D = some (.lst acc) ∧ Φ' D = none ∧ RepDs X.K Φ' accD acc ∧ acc.length ≤ i ∧ lcGo (wipeS ρ vs) ft fc fe (ds.drop i) = .ok rest ∧ out = accD ++ rest, ⟨ds.length, by simp, Nat.zero_le _, Φ1, [], [], out, Ext.alloc r1.sub hD, upd_same, ?_, .nil, Nat.le_refl _, by simpa using eg, rfl⟩, ?_⟩
  · cases z : Φ1 D with
    | none => rfl
    | some u => rw [r1.sub _ _ z] at hD; cases hD
  rintro i m H2 ⟨rfl, hi, Φ2, acc, accD, rest, x2, hD2, hΦ2, racc, hacc, hrest, hout⟩
  by_cases hlt : i < ds.length
  · refine .inr ⟨wk.go Φ2 H2 i x2 hlt, fun H' => ∃ Φ' acc accD rest, Ext Φ1 H1 Φ' H' ∧ H' D = some (.lst acc) ∧ Φ' D = none ∧ RepDs X.K Φ' accD acc ∧ acc.length ≤ i + 1 ∧ lcGo (wipeS ρ vs) ft fc fe (ds.drop (i + 1)) = .ok rest ∧ out = accD ++ rest, fun H' h => ⟨ds.length - (i + 1), by omega, rfl, hlt, h⟩, fun x H3 hy => ?_⟩
    have hds : ds[i]? = some ds[i] := by simp [hlt]
    obtain ⟨Φ3, x3, rx⟩ := wk.yld Φ2 H2 i x H3 _ x2 hds hy
    rw [List.drop_eq_getElem_cons hlt] at hrest
    unfold lcGo at hrest
    obtain ⟨as, has, hrest⟩ := R.bind_ok hrest
    obtain ⟨k, hk, hrest⟩ := R.bind_ok hrest
    have hk := noX_ok hk
    have keepD : ∀ {Φ' H'}, Ext Φ2 H2 Φ' H' → H' D = some (.lst acc) ∧ Φ' D = none := fun {Φ' H'} y => by
      refine ⟨y.heap _ _ hD2, ?_⟩
      cases z : Φ' D with
      | none => rfl
      | some u =>
        rcases y.new D u z with w | w
        · rw [hΦ2] at w; cases w
        · rw [hD2] at w; cases w
    refine hg.run Φ3 H3 (L2.wipe σ vs) ds[i] x as _ x3.sub (by rw [hK]; exact rx) has fun ws rws => ?_
    rw [hK] at rws
    refine ⟨?_, ?_⟩
    · rw [wipe_setV ws _ (RepAs.fst rws (hft _ _ has)), wipe_wipe _ _ fun i h => h]
    have r3 : Rel X.K Φ3 H3 (setV (L2.wipe σ vs) ws) (setS (wipeS ρ vs) as) := (((r1.ext x2).ext x3).wipe _).setMany rws
    refine ⟨Φ3, _, r3, Run.of_ok hk fun Φ4 H4 b x4 eb => ?_⟩
    cases eb
    cases k with
    | false =>
      rw [if_neg (by decide)] at hrest
      rw [if_neg (by decide)]
      obtain ⟨h1, h2⟩ := keepD (x3.trans x4)
      exact ⟨Φ4, acc, accD, rest, (x2.trans x3).trans x4, h1, h2, racc.mono (x3.trans x4).mono, by omega, hrest, hout⟩
    | true =>
      rw [if_pos rfl] at hrest
      rw [if_pos rfl]
      obtain ⟨y, hy2, hrest⟩ := R.bind_ok hrest
      obtain ⟨ys, hys, hrest⟩ := R.bind_ok hrest
      cases hrest
      refine ⟨Φ4, _, r3.ext x4, Run.of_ok (noX_ok hy2) fun Φ5 H5 v x5 rv => ?_⟩
      have x25 := (x3.trans x4).trans x5
      obtain ⟨h1, h2⟩ := keepD x25
      have hz : acc.length < LIM := by omega
      refine ⟨acc, h1, lim_lt (by omega), Φ5, acc ++ [v], accD ++ [y], ys, ?_, upd_same, h2, (racc.mono x25.mono).append (.cons rv .nil), by simp; omega, hys, by rw [hout]; simp⟩
      have x15 := x2.trans x25
      refine ⟨x15.mono, fun b u e => ?_, fun b u e => ?_, x15.new⟩
      · rw [upd_ne (ne_of_none e hD)]; exact x15.heap b u e
      · have hb : b ≠ D := fun z => by subst z; rw [h2] at e; cases e
        rw [upd_ne hb]; exact x15.sub b u e
  · refine .inl ⟨wk.stop Φ2 H2 i x2 (by omega), ?_⟩
    have e0 : ds.drop i = [] := List.drop_eq_nil_of_le (by omega)
    rw [e0] at hrest
    cases hrest
    rw [List.append_nil] at hout
    subst hout
    exact q Φ2 H2 D x2 hD hΦ2 (RepOwn.lst hD2 racc)
theorem sn_lc {elt tg iter : Expr} {ifs : List Expr} {scope : Scope} {vs : List Nat} (own : List (Str × Nat)) (hv : own.map (·.2) = vs) {pos : Pos} {fi : Ev (List D)} {g : TG} {ft : D → R (List (Nat × D))} {fc : Ev Bool} {fe : Ev D} (hc : X.calm = true) (hN : X.N.Nodup) (hi : SIE X cs W tg iter fi) (ok : BlkOk X.N X.env.scope scope own)
    (hft : ∀ d as, ft d = .ok as → ∀ p ∈ as, p.1 ∈ vs)
    (hg : ∀ (s : Shared) (H : Hp) (C : Addr) (cl : List (Str × Addr)) (fp : List Addr), Tgt (X.blk s H scope (compEnvC scope cl C X.env) fp) tg g ft)
    (ht : ∀ (s : Shared) (H : Hp) (C : Addr) (cl : List (Str × Addr)) (fp : List Addr), STs (X.blk s H scope (compEnvC scope cl C X.env) fp) cs W0 ifs fc)
    (he : ∀ (s : Shared) (H : Hp) (C : Addr) (cl : List (Str × Addr)) (fp : List Addr), SD (X.blk s H scope (compEnvC scope cl C X.env) fp) cs W0 elt fe)
    (hs : ∀ x, foldedSetIterable iter X.env x = pure x := by intro _; rfl) :
    SN X cs W (.ListComp elt [⟨tg, iter, ifs, 0⟩] scope pos) (eLc vs fi ft fc fe) := by
  subst hv
  exact peImp (pe_lc (tt := tG X.K cs rB W0 fc) (te := tG X.K cs (rD X.K) W0 fe) hc hN hi ok (fun s H C cl fp => (hg s H C cl fp).pg) ht he hs) fun σ H Q h => lc_run (XB := X.blk X.s_0 H scope (compEnvC scope [] 0 X.env) []) rfl hft (hg X.s_0 H 0 [] []) h
end
end PL
set_option Elab.async false
set_option linter.all false
set_option maxRecDepth 100000
namespace PL
set_option autoImplicit false
open PySem PySem.Spec PyProof.Rows L2
section
variable {X : Cx} {cs : Nat → Addr} {W : WX} {a b c e o : Expr} {fa fb fc : Ev D} {pos p : Pos} {es : List Expr} {fs : Ev (List D)}
theorem none_of {Φ H : Hp} (m : Same Φ H) {p : Addr} (hp : H p = none) : Φ p = none := m.free hp
theorem RunN.new {σ : L2.St} {Φ H : Hp} {Q : VK} {d : D} (h : RunN X.K cs W σ Φ H Q (.ok d)) (m : Same Φ H) {p : Addr} {u : HO} (hp : H p = none) (r : RepOwn X.K Φ (upd H p u) d p) : Q (.ref p) (upd H p u) :=
  h Φ _ p (Ext.alloc m hp) hp (none_of m hp) r
theorem RepDs.rep {K : PySem.W.Frag} {Φ : Hp} {ds : List D} {vs : List V} (h : RepDs K Φ ds vs) : ∀ k : Nat, RepDs K Φ (List.replicate k ds).flatten (List.replicate k vs).flatten
  | 0 => .nil
  | k + 1 => by
    rw [List.replicate_succ, List.replicate_succ, List.flatten_cons, List.flatten_cons]
    exact h.append (RepDs.rep h k)
def gCat : D → D → R D
  | .lst x, .lst y => if x.length + y.length ≤ LIM then .ok (.lst (x ++ y)) else .stuck
  | _, _ => .stuck
end
inductive RS where
  | nx (ρ : List Sl) | rt (r : Sl) (ρ : List Sl) | bk (ρ : List Sl) | ct (ρ : List Sl) | exc (x : Exn) (ρ : List Sl) | stuck
abbrev Es := List Sl → RS
def Own (σ : L2.St) (ρ : List Sl) : Addr → Prop := fun a => ∃ i, OwnAt σ ρ i a
structure Stp (P : Addr → Prop) (Φ H Φ' H' : Hp) (P' : Addr → Prop) : Prop where
  mono : Same Φ Φ'
  frame : ∀ b o, H b = some o → ¬ P b → H' b = some o
  own : ∀ a, P' a → P a ∨ H a = none
  new : ∀ b o, Φ' b = some o → Φ b = some o ∨ P b ∨ H b = none
theorem Stp.refl {P P' : Addr → Prop} {Φ H : Hp} (h : ∀ a, P' a → P a) : Stp P Φ H Φ H P' := ⟨Same.refl _, fun _ _ e _ => e, fun a p => .inl (h a p), fun _ _ e => .inl e⟩
theorem Stp.ofExt {P P' : Addr → Prop} {Φ H Φ' H' : Hp} (x : Ext Φ H Φ' H') (h : ∀ a, P' a → P a ∨ H a = none) : Stp P Φ H Φ' H' P' :=
  ⟨x.mono, fun b o e _ => x.heap b o e, h, fun b o e => by
    rcases x.new b o e with z | z
    · exact .inl z
    · exact .inr (.inr z)⟩
theorem Stp.trans {P P1 P2 : Addr → Prop} {Φ H Φ1 H1 Φ2 H2 : Hp} (a : Stp P Φ H Φ1 H1 P1) (b : Stp P1 Φ1 H1 Φ2 H2 P2) : Stp P Φ H Φ2 H2 P2 := by
  have back : ∀ c, H1 c = none → P c ∨ H c = none := fun c e => by
    by_cases hp : P c
    · exact .inl hp
    · refine .inr ?_
      cases z : H c with
      | none => rfl
      | some u => rw [a.frame c u z hp] at e; cases e
  have np : ∀ c o, H c = some o → ¬ P c → ¬ P1 c := fun c o e hp h1 => by
    rcases a.own c h1 with z | z
    · exact hp z
    · rw [e] at z; cases z
  refine ⟨a.mono.trans b.mono, fun c o e hp => b.frame c o (a.frame c o e hp) (np c o e hp), fun c h => ?_, fun c o h => ?_⟩
  · rcases b.own c h with z | z
    · exact a.own c z
    · exact back c z
  · rcases b.new c o h with z | z | z
    · exact a.new c o z
    · exact .inr (a.own c z)
    · exact .inr (back c z)
def RunS (K : PySem.W.Frag) (cs : Nat → Addr) (W : WX) (np : Nat) (D : Ends) (P : Addr → Prop) (σ : L2.St) (Φ H : Hp) : RS → Prop
  | .nx ρ' => ∀ Φ' H' σ', Stp P Φ H Φ' H' (Own σ' ρ') → Rel K Φ' H' σ' ρ' → σ'.take np = σ.take np → D.nx σ' H'
  | .bk ρ' => ∀ Φ' H' σ', Stp P Φ H Φ' H' (Own σ' ρ') → Rel K Φ' H' σ' ρ' → σ'.take np = σ.take np → D.bk σ' H'
  | .ct ρ' => ∀ Φ' H' σ', Stp P Φ H Φ' H' (Own σ' ρ') → Rel K Φ' H' σ' ρ' → σ'.take np = σ.take np → D.ct σ' H'
  | .rt r ρ' => ∀ Φ' H' σ' v, Stp P Φ H Φ' H' (Own (σ' ++ [some v]) (ρ' ++ [r])) → Rel K Φ' H' (σ' ++ [some v]) (ρ' ++ [r]) → σ'.take np = σ.take np → D.rt v H'
  | .exc x ρ' => ∀ Φ' H' σ' c dd, Stp P Φ H Φ' H' (Own σ' ρ') → Rel K Φ' H' σ' ρ' → σ'.take np = σ.take np → RepX cs Φ' H' x c dd → W c dd σ' H'
  | .stuck => False
def tS (K : PySem.W.Frag) (cs : Nat → Addr) (W : WX) (np : Nat) (f : Es) : TS := fun D σ H => ∃ Φ ρ, Rel K Φ H σ ρ ∧ RunS K cs W np D (Own σ ρ) σ Φ H (f ρ)
def SS (X : Cx) (cs : Nat → Addr) (W : WX) (np : Nat) (st : Stmt) (f : Es) : Prop := PS X st (tS X.K cs W np f)
def SSs (X : Cx) (cs : Nat → Addr) (W : WX) (np : Nat) (st : List Stmt) (f : Es) : Prop := PSs X st (tS X.K cs W np f)
theorem RunS.step {K : PySem.W.Frag} {cs : Nat → Addr} {W : WX} {np : Nat} {D : Ends} {P P1 : Addr → Prop} {σ σ1 : L2.St} {Φ H Φ1 H1 : Hp} {r : RS} (s : Stp P Φ H Φ1 H1 P1) (t : σ1.take np = σ.take np) (h : RunS K cs W np D P σ Φ H r) : RunS K cs W np D P1 σ1 Φ1 H1 r := by
  cases r with
  | nx ρ => exact fun Φ' H' σ' s' r' t' => h Φ' H' σ' (s.trans s') r' (t'.trans t)
  | bk ρ => exact fun Φ' H' σ' s' r' t' => h Φ' H' σ' (s.trans s') r' (t'.trans t)
  | ct ρ => exact fun Φ' H' σ' s' r' t' => h Φ' H' σ' (s.trans s') r' (t'.trans t)
  | rt v ρ => exact fun Φ' H' σ' v s' r' t' => h Φ' H' σ' v (s.trans s') r' (t'.trans t)
  | exc x ρ => exact fun Φ' H' σ' c dd s' r' t' => h Φ' H' σ' c dd (s.trans s') r' (t'.trans t)
  | stuck => exact h
theorem RunS.nx0 {K : PySem.W.Frag} {cs : Nat → Addr} {W : WX} {np : Nat} {D : Ends} {σ : L2.St} {ρ : List Sl} {Φ H : Hp} (h : RunS K cs W np D (Own σ ρ) σ Φ H (.nx ρ)) (r : Rel K Φ H σ ρ) : D.nx σ H := h Φ H σ (Stp.refl fun _ p => p) r rfl
/-- an expression's answer within a statement -/
def tryE {α : Type} (ρ : List Sl) (r : R α) (k : α → RS) : RS := match r with
  | .ok a => k a
  | .exc x => .exc x ρ
  | .stuck => .stuck
theorem tG.bindS {α β : Type} {K : PySem.W.Frag} {cs : Nat → Addr} {rp : Rp α β} {W : WX} {np : Nat} {D : Ends} {f : Ev α} {k : α → RS} {σ : L2.St} {ρ : List Sl} {Φ H : Hp} {G : β → Hp → Prop} (r : Rel K Φ H σ ρ)
    (h : RunS K cs W np D (Own σ ρ) σ Φ H (tryE ρ (f ρ) k))
    (c : ∀ Φ1 H1 a b, Rel K Φ1 H1 σ ρ → Ext Φ H Φ1 H1 → rp.rep Φ1 H1 a b → RunS K cs W np D (Own σ ρ) σ Φ1 H1 (k a) → G b H1) : tG K cs rp W f σ H G := by
  refine ⟨Φ, ρ, r, ?_⟩
  cases e : f ρ with
  | ok a =>
    rw [e] at h
    exact fun Φ' H' b x q => c Φ' H' a b (r.ext x) x q (RunS.step (Stp.ofExt x fun _ p => .inl p) rfl h)
  | exc z =>
    rw [e] at h
    exact fun Φ' H' c dd x q => h Φ' H' σ c dd (Stp.ofExt x fun _ p => .inl p) (r.ext x) rfl q
  | stuck =>
    rw [e] at h
    exact h
section
variable {X : Cx} {cs : Nat → Addr} {W : WX} {np : Nat} {st : Stmt} {sts : List Stmt} {f g h : Es}
def seqS (f g : Es) : Es := fun ρ => match f ρ with
  | .nx ρ' => g ρ'
  | r => r
def skipS : Es := fun ρ => .nx ρ
theorem ss_nil : SSs X cs W np [] skipS := pssImp pss_nil fun D σ H ⟨Φ, ρ, r, q⟩ => q.nx0 r
theorem ss_one (h : SS X cs W np st f) : SSs X cs W np [st] f := pss_one h
theorem ss_cons (h : SS X cs W np st f) (k : SSs X cs W np sts g) : SSs X cs W np (st :: sts) (seqS f g) := pssImp (pss_cons h k) fun D σ H ⟨Φ, ρ, r, q⟩ => by
  refine ⟨Φ, ρ, r, ?_⟩
  unfold seqS at q
  cases e : f ρ with
  | nx ρ1 =>
    rw [e] at q
    exact fun Φ1 H1 σ1 s1 r1 t1 => ⟨Φ1, ρ1, r1, RunS.step s1 t1 q⟩
  | bk ρ1 => rw [e] at q; exact q
  | ct ρ1 => rw [e] at q; exact q
  | rt v ρ1 => rw [e] at q; exact q
  | exc x ρ1 => rw [e] at q; exact q
  | stuck => rw [e] at q; exact q
def bkS : Es := fun ρ => .bk ρ
def ctS : Es := fun ρ => .ct ρ
theorem ss_break {pos : Pos} : SS X cs W np (.Break pos) bkS := psImp ps_break fun D σ H ⟨Φ, ρ, r, q⟩ => q Φ H σ (Stp.refl fun _ p => p) r rfl
theorem ss_continue {pos : Pos} : SS X cs W np (.Continue pos) ctS := psImp ps_continue fun D σ H ⟨Φ, ρ, r, q⟩ => q Φ H σ (Stp.refl fun _ p => p) r rfl
/-- a slot's own list or dict is frozen, ahead of a statement -/
def frzAt (ρ : List Sl) (i : Nat) : List Sl := match ρ[i]? with
  | some (.own d) => ρ.set i (.val d)
  | _ => ρ
theorem Rel.frz {K : PySem.W.Frag} {Φ H : Hp} {σ : L2.St} {ρ : List Sl} (r : Rel K Φ H σ ρ) (i : Nat) : ∃ Φ', Rel K Φ' H σ (frzAt ρ i) ∧ Stp (Own σ ρ) Φ H Φ' H (Own σ (frzAt ρ i)) := by
  unfold frzAt
  split
  case h_2 => exact ⟨Φ, r, Stp.refl fun _ p => p⟩
  case h_1 d e =>
    obtain ⟨a, h1, h2, h3⟩ := r.own i d e
    obtain ⟨o, e1, e2, e3⟩ := h2.freeze h3
    have hl : i < ρ.length := (List.getElem?_eq_some_iff.mp e).1
    have ow : ∀ j b, OwnAt σ (ρ.set i (.val d)) j b → OwnAt σ ρ j b ∧ j ≠ i := fun j b ⟨w1, w, w2⟩ => by
      by_cases hj : i = j
      · subst hj; rw [List.getElem?_set_self hl] at w2; cases w2
      · rw [List.getElem?_set_ne hj] at w2; exact ⟨⟨w1, w, w2⟩, Ne.symm hj⟩
    have me : OwnAt σ ρ i a := ⟨h1, d, e⟩
    have sub' : Same (upd Φ a o) H := fun b u q => by
      by_cases hb : b = a
      · subst hb; rw [upd_same] at q; rw [e1]; exact q
      · rw [upd_ne hb] at q; exact r.sub _ _ q
    refine ⟨upd Φ a o, ⟨sub', by rw [List.length_set, r.len], fun j w hj => ?_, fun j w hj => ?_, fun j k b w1 w2 => r.sep j k b (ow _ _ w1).1 (ow _ _ w2).1⟩, e3, fun _ _ q _ => q, fun b ⟨j, w⟩ => .inl ⟨j, (ow _ _ w).1⟩, fun b u q => ?_⟩
    · by_cases z : i = j
      · subst z; rw [List.getElem?_set_self hl] at hj; cases hj; exact ⟨_, h1, e2⟩
      · rw [List.getElem?_set_ne z] at hj
        obtain ⟨v, w1, w2⟩ := r.val j w hj
        exact ⟨v, w1, w2.mono e3⟩
    · by_cases z : i = j
      · subst z; rw [List.getElem?_set_self hl] at hj; cases hj
      · rw [List.getElem?_set_ne z] at hj
        obtain ⟨b, w1, w2, w3⟩ := r.own j w hj
        refine ⟨b, w1, w2.at e3 fun _ q => q, ?_⟩
        have hb : b ≠ a := fun y => by subst y; exact z (r.sep i j b me ⟨w1, w, hj⟩)
        rw [upd_ne hb]; exact w3
    · by_cases hb : b = a
      · subst hb; exact .inr (.inl ⟨i, me⟩)
      · rw [upd_ne hb] at q; exact .inl q
def frzS (i : Nat) (f : Es) : Es := fun ρ => f (frzAt ρ i)
theorem ss_frz (i : Nat) (h : SS X cs W np st f) : SS X cs W np st (frzS i f) := psImp h fun D σ H ⟨Φ, ρ, r, q⟩ => by
  obtain ⟨Φ', r', s⟩ := r.frz i
  exact ⟨Φ', _, r', RunS.step s rfl q⟩
end
end PL
set_option Elab.async false
set_option linter.all false
set_option maxRecDepth 100000
namespace PL
set_option autoImplicit false
open PySem PySem.Spec PyProof.Rows L2
section
variable {K : PySem.W.Frag} {Φ H : Hp} {σ : L2.St} {ρ : List Sl}
theorem ownSet {i : Nat} {d : D} {v : Option V} {j : Nat} {a : Addr} (h : OwnAt (σ.set i v) (ρ.set i (.val d)) j a) : OwnAt σ ρ j a := by
  obtain ⟨h1, e, h2⟩ := h
  by_cases hj : i = j
  · subst hj
    by_cases hl : i < ρ.length
    · rw [List.getElem?_set_self hl] at h2; cases h2
    · rw [List.getElem?_eq_none (by simpa using hl)] at h2; cases h2
  · rw [List.getElem?_set_ne hj] at h1 h2
    exact ⟨h1, e, h2⟩
theorem ownSetMany : ∀ {as : List (Nat × D)} {ws : List (Nat × V)} {σ : L2.St} {ρ : List Sl}, RepAs K Φ as ws → ∀ {j : Nat} {a : Addr}, OwnAt (setV σ ws) (setS ρ as) j a → OwnAt σ ρ j a
  | _, _, _, _, .nil, _, _, h => h
  | (i, d) :: as, (_, v) :: ws, σ, ρ, .cons _ t, j, a, h => ownSet (ownSetMany (σ := σ.set i (some v)) (ρ := ρ.set i (.val d)) t h)
theorem takeSet {α : Type} {l : List α} {n i : Nat} {x : α} (h : n ≤ i) : (l.set i x).take n = l.take n := by
  apply List.ext_getElem?
  intro k
  rw [List.getElem?_take, List.getElem?_take]
  split
  next hk => rw [List.getElem?_set_ne (by omega)]
  next => rfl
theorem takeSetMany {np : Nat} : ∀ (ws : List (Nat × V)) (σ : L2.St), (∀ p ∈ ws, np ≤ p.1) → (setV σ ws).take np = σ.take np
  | [], _, _ => rfl
  | (i, v) :: ws, σ, h => by
    show (setV (σ.set i (some v)) ws).take np = _
    rw [takeSetMany ws _ fun p hp => h p (by simp [hp]), takeSet (h (i, v) (by simp))]
theorem RepAs.le {np : Nat} : ∀ {as : List (Nat × D)} {ws : List (Nat × V)}, RepAs K Φ as ws → (∀ p ∈ as, np ≤ p.1) → ∀ p ∈ ws, np ≤ p.1
  | _, _, .nil, _ => fun p hp => by cases hp
  | (i, d) :: as, (_, v) :: ws, .cons _ t, h => fun p hp => by
    rcases List.mem_cons.mp hp with e | hp
    · subst e; exact h (i, d) List.mem_cons_self
    · exact RepAs.le t (fun q hq => h q (by simp [hq])) p hp
theorem Rel.notOwn (r : Rel K Φ H σ ρ) {a : Addr} (h : H a = none) : ∀ j, ¬ OwnAt σ ρ j a := fun j ⟨h1, d, h2⟩ => by
  obtain ⟨b, e1, e2, _⟩ := r.own j d h2
  rw [h1] at e1
  cases e1
  obtain ⟨o, e⟩ := e2.there
  rw [h] at e; cases e
theorem Rel.setOwn (r : Rel K Φ H σ ρ) {i : Nat} {d : D} {a : Addr} (h : RepOwn K Φ H d a) (hp : Φ a = none) (hn : ∀ j, ¬ OwnAt σ ρ j a) : Rel K Φ H (σ.set i (some (.ref a))) (ρ.set i (.own d)) := by
  have ow : ∀ j b, OwnAt (σ.set i (some (.ref a))) (ρ.set i (.own d)) j b → (j = i ∧ b = a) ∨ (j ≠ i ∧ OwnAt σ ρ j b) := fun j b ⟨h1, e, h2⟩ => by
    by_cases hj : i = j
    · subst hj
      by_cases hl : i < σ.length
      · rw [List.getElem?_set_self hl] at h1; cases h1; exact .inl ⟨rfl, rfl⟩
      · rw [List.getElem?_eq_none (by simpa using hl)] at h1; cases h1
    · rw [List.getElem?_set_ne hj] at h1 h2
      exact .inr ⟨Ne.symm hj, h1, e, h2⟩
  refine ⟨r.sub, by rw [List.length_set, List.length_set, r.len], fun j e hj => ?_, fun j e hj => ?_, fun j k b h1 h2 => ?_⟩
  · by_cases z : i = j
    · subst z
      by_cases hl : i < ρ.length
      · rw [List.getElem?_set_self hl] at hj; cases hj
      · rw [List.getElem?_eq_none (by simpa using hl)] at hj; cases hj
    · rw [List.getElem?_set_ne z] at hj ⊢
      exact r.val j e hj
  · by_cases z : i = j
    · subst z
      by_cases hl : i < ρ.length
      · rw [List.getElem?_set_self hl] at hj
        cases hj
        exact ⟨a, List.getElem?_set_self (by rw [r.len]; exact hl), h, hp⟩
      · rw [List.getElem?_eq_none (by simpa using hl)] at hj; cases hj
    · rw [List.getElem?_set_ne z] at hj ⊢
      exact r.own j e hj
  · rcases ow j b h1 with ⟨rfl, rfl⟩ | ⟨w1, w2⟩ <;> rcases ow k _ h2 with ⟨rfl, z⟩ | ⟨w3, w4⟩
    · rfl
    · exact absurd w4 (hn k)
    · subst z; exact absurd w2 (hn j)
    · exact r.sep j k b w2 w4
theorem ownSetOwn {i : Nat} {d : D} {a : Addr} {b : Addr} (h : Own (σ.set i (some (.ref a))) (ρ.set i (.own d)) b) : b = a ∨ Own σ ρ b := by
  obtain ⟨j, h1, e, h2⟩ := h
  by_cases hj : i = j
  · subst hj
    by_cases hl : i < σ.length
    · rw [List.getElem?_set_self hl] at h1; cases h1; exact .inl rfl
    · rw [List.getElem?_eq_none (by simpa using hl)] at h1; cases h1
  · rw [List.getElem?_set_ne hj] at h1 h2
    exact .inr ⟨j, h1, e, h2⟩
/-- a slot's own object changes -/
theorem Rel.mut (r : Rel K Φ H σ ρ) {i : Nat} {d d' : D} {a : Addr} {u : HO} (hs : σ[i]? = some (some (.ref a))) (hr : ρ[i]? = some (.own d)) (h : RepOwn K Φ (upd H a u) d' a) :
    Rel K Φ (upd H a u) σ (ρ.set i (.own d')) ∧ Stp (Own σ ρ) Φ H Φ (upd H a u) (Own σ (ρ.set i (.own d'))) := by
  have me : OwnAt σ ρ i a := ⟨hs, d, hr⟩
  have hl : i < ρ.length := (List.getElem?_eq_some_iff.mp hr).1
  obtain ⟨a0, g1, g2, g3⟩ := r.own i d hr
  have ea : a0 = a := by rw [hs] at g1; cases g1; rfl
  subst ea
  have ow : ∀ j b, OwnAt σ (ρ.set i (.own d')) j b → OwnAt σ ρ j b := fun j b ⟨h1, e, h2⟩ => by
    by_cases hj : i = j
    · subst hj; exact ⟨h1, d, hr⟩
    · rw [List.getElem?_set_ne hj] at h2; exact ⟨h1, e, h2⟩
  have sub' : Same Φ (upd H a0 u) := fun b o q => by
    have hb : b ≠ a0 := fun z => by subst z; rw [g3] at q; cases q
    rw [upd_ne hb]; exact r.sub _ _ q
  refine ⟨⟨sub', by rw [List.length_set, r.len], fun j w hj => ?_, fun j w hj => ?_, fun j k b w1 w2 => r.sep j k b (ow _ _ w1) (ow _ _ w2)⟩, Same.refl _, fun b o q np => ?_, fun b ⟨j, w⟩ => .inl ⟨j, ow _ _ w⟩, fun b o q => .inl q⟩
  · by_cases z : i = j
    · subst z; rw [List.getElem?_set_self hl] at hj; cases hj
    · rw [List.getElem?_set_ne z] at hj; exact r.val j w hj
  · by_cases z : i = j
    · subst z; rw [List.getElem?_set_self hl] at hj; cases hj; exact ⟨a0, hs, h, g3⟩
    · rw [List.getElem?_set_ne z] at hj
      obtain ⟨b, w1, w2, w3⟩ := r.own j w hj
      have hb : b ≠ a0 := fun y => by subst y; exact z (r.sep i j b me ⟨w1, w, hj⟩)
      exact ⟨b, w1, w2.at (Same.refl _) fun o q => by rw [upd_ne hb]; exact q, w3⟩
  · have hb : b ≠ a0 := fun y => by subst y; exact np ⟨i, me⟩
    rw [upd_ne hb]; exact q
theorem getApp {α : Type} {l : List α} {x : α} {i : Nat} {y : α} (h : (l ++ [x])[i]? = some y) : (l[i]? = some y) ∨ (i = l.length ∧ x = y) := by
  by_cases hi : i < l.length
  · rw [List.getElem?_append_left hi] at h; exact .inl h
  · rw [List.getElem?_append_right (by omega)] at h
    by_cases e : i - l.length = 0
    · rw [e] at h; simp at h; exact .inr ⟨by omega, h⟩
    · rw [List.getElem?_eq_none (by simp; omega)] at h; cases h
theorem Rel.push (r : Rel K Φ H σ ρ) {d : D} {v : V} (h : RepD K Φ d v) : Rel K Φ H (σ ++ [some v]) (ρ ++ [.val d]) := by
  have ow : ∀ j b, OwnAt (σ ++ [some v]) (ρ ++ [.val d]) j b → OwnAt σ ρ j b := fun j b ⟨h1, e, h2⟩ => by
    rcases getApp h2 with h2 | ⟨_, h2⟩
    · have hl : j < σ.length := by rw [r.len]; exact (List.getElem?_eq_some_iff.mp h2).1
      rw [List.getElem?_append_left hl] at h1
      exact ⟨h1, e, h2⟩
    · cases h2
  refine ⟨r.sub, by simp [r.len], fun j e hj => ?_, fun j e hj => ?_, fun j k b w1 w2 => r.sep j k b (ow _ _ w1) (ow _ _ w2)⟩
  · rcases getApp hj with hj | ⟨hq, e2⟩
    · obtain ⟨u, w1, w2⟩ := r.val j e hj
      exact ⟨u, by rw [List.getElem?_append_left (List.getElem?_eq_some_iff.mp w1).1]; exact w1, w2⟩
    · cases e2
      exact ⟨v, by rw [hq, ← r.len]; simp, h⟩
  · rcases getApp hj with hj | ⟨hq, e2⟩
    · obtain ⟨u, w1, w2⟩ := r.own j e hj
      exact ⟨u, by rw [List.getElem?_append_left (List.getElem?_eq_some_iff.mp w1).1]; exact w1, w2⟩
    · cases e2
theorem ownPush {d : D} {v : V} {b : Addr} (hl : σ.length = ρ.length) (h : Own (σ ++ [some v]) (ρ ++ [.val d]) b) : Own σ ρ b := by
  obtain ⟨j, h1, e, h2⟩ := h
  rcases getApp h2 with h2 | ⟨_, h2⟩
  · have hl : j < σ.length := by rw [hl]; exact (List.getElem?_eq_some_iff.mp h2).1
    rw [List.getElem?_append_left hl] at h1
    exact ⟨j, h1, e, h2⟩
  · cases h2
theorem Rel.emp (r : Rel K Φ H σ ρ) (i : Nat) : Rel K Φ H σ (ρ.set i .emp) := by
  have g : ∀ (j : Nat) (s : Sl), s ≠ .emp → (ρ.set i .emp)[j]? = some s → ρ[j]? = some s ∧ j ≠ i := fun j s hs hj => by
    by_cases z : i = j
    · subst z
      by_cases hl : i < ρ.length
      · rw [List.getElem?_set_self hl] at hj; cases hj; exact absurd rfl hs
      · rw [List.getElem?_eq_none (by simpa using hl)] at hj; cases hj
    · rw [List.getElem?_set_ne z] at hj; exact ⟨hj, Ne.symm z⟩
  refine ⟨r.sub, by rw [List.length_set, r.len], fun j e hj => r.val j e (g j _ (by simp) hj).1, fun j e hj => r.own j e (g j _ (by simp) hj).1, fun j k b ⟨w1, d1, w2⟩ ⟨w3, d2, w4⟩ => r.sep j k b ⟨w1, d1, (g j _ (by simp) w2).1⟩ ⟨w3, d2, (g k _ (by simp) w4).1⟩⟩
end
section
variable {X : Cx} {cs : Nat → Addr} {W : WX} {np : Nat} {st : Stmt} {sts : List Stmt} {f g h : Es} {e c tg o : Expr} {fe : Ev D} {fc : Ev Bool} {pos p : Pos}
def asgS (ft : D → R (List (Nat × D))) (fe : Ev D) : Es := fun ρ => tryE ρ ((fe ρ).bind ft) fun as => .nx (setS ρ as)
theorem tryE_bind {α β : Type} {ρ : List Sl} {r : R α} {k : α → R β} {q : β → RS} : tryE ρ (r.bind k) q = tryE ρ r fun a => tryE ρ (k a) q := by cases r <;> rfl
theorem runAsg {D' : Ends} {gt : TG} {ft : D → R (List (Nat × D))} (t : Tgt X tg gt ft) (hnp : ∀ d as, ft d = .ok as → ∀ p ∈ as, np ≤ p.1) (hx : ∀ d x, ft d ≠ .exc x) {Φ H : Hp} {σ : L2.St} {ρ : List Sl} {d : D} {v : V} (r : Rel X.K Φ H σ ρ) (rep : RepD X.K Φ d v)
    (q : RunS X.K cs W np D' (Own σ ρ) σ Φ H (tryE ρ (ft d) fun as => .nx (setS ρ as))) : gt v σ H D'.nx := by
  cases e : ft d with
  | stuck => rw [e] at q; exact q.elim
  | exc x => exact absurd e (hx d x)
  | ok as =>
    rw [e] at q
    exact t.run Φ H σ d v as _ r.sub rep e fun ws rws => q Φ H _ (Stp.refl fun b ⟨j, w⟩ => ⟨j, ownSetMany rws w⟩) (r.setMany rws) (takeSetMany ws σ (rws.le (hnp d as e)))
theorem ss_asg {gt : TG} {ft : D → R (List (Nat × D))} (he : SD X cs W e fe) (t : Tgt X tg gt ft) (hnp : ∀ d as, ft d = .ok as → ∀ p ∈ as, np ≤ p.1) (hx : ∀ d x, ft d ≠ .exc x) (hs : swapsWithSole [tg] e pos.line X.env = pure false := by rfl) (hw : swappedStores [tg] e X.env = pure none := by rfl)
    (h1 : (assignEach [tg] X.env).map (·.2) = [assign tg X.env] := by rfl) : SS X cs W np (.Assign [tg] e pos) (asgS ft fe) := psImp (ps_asg he t.pg hs hw h1) fun D' σ H ⟨Φ, ρ, r, q⟩ => by
  unfold asgS at q
  rw [tryE_bind] at q
  exact tG.bindS (rp := rD X.K) r q fun Φ1 H1 d v r1 x rep q => runAsg t hnp hx r1 rep (RunS.step (Stp.refl fun _ p => p) rfl q)
def asgN (i : Nat) (fe : Ev D) : Es := fun ρ => tryE ρ (fe ρ) fun d => .nx (ρ.set i (.own d))
theorem runN {D' : Ends} {i : Nat} (hi : np ≤ i) {Φ H : Hp} {σ : L2.St} {ρ : List Sl} (r : Rel X.K Φ H σ ρ) (q : RunS X.K cs W np D' (Own σ ρ) σ Φ H (asgN i fe ρ)) : tN X.K cs W fe σ H fun x H1 => gName i x σ H1 D'.nx := by
  refine ⟨Φ, ρ, r, ?_⟩
  unfold asgN at q
  cases e : fe ρ with
  | stuck => rw [e] at q; exact q.elim
  | exc x =>
    rw [e] at q
    exact fun Φ' H' c dd x y => q Φ' H' σ c dd (Stp.ofExt x fun _ p => .inl p) (r.ext x) rfl y
  | ok d =>
    rw [e] at q
    intro Φ' H' a x hb hp y
    have hn := r.notOwn hb
    exact q Φ' H' _ (Stp.ofExt x fun b w => by
      rcases ownSetOwn w with rfl | w
      · exact .inr hb
      · exact .inl w) ((r.ext x).setOwn y hp hn) (takeSet hi)
theorem ss_asgN {i : Nat} {x : Str} {pos' : Pos} (hnp : np ≤ i) (hN : X.N.Nodup) (he : SN X cs W e fe) (hi : X.N[i]? = some x := by rfl) (hx : Loc X.env.scope x := by first | exact Or.inl rfl | exact Or.inr rfl) (hs : swapsWith e (some (.Name x pos')) pos.line X.env = pure false := by rfl) (hf : X.fn x = true ∨ X.env.scope.names.lookup x = some .local := by first | exact .inl rfl | exact .inr rfl | assumption) :
    SS X cs W np (.Assign [.Name x pos'] e pos) (asgN i fe) := psImp (ps_set hN hi hx he hs hf) fun D' σ H ⟨Φ, ρ, r, q⟩ => runN hnp r q
theorem ss_asgLc {i : Nat} {y : Str} {py : Pos} {elt tg iter : Expr} {ifs : List Expr} {scope : Scope} {vs : List Nat} (own : List (Str × Nat)) (hv : own.map (·.2) = vs) {pos spos : Pos} {fi : Ev (List D)} {g : TG} {ft : D → R (List (Nat × D))} {fc : Ev Bool} {fe : Ev D} (hnp : np ≤ i) (hc : X.calm = true) (hN : X.N.Nodup) (hi : SIE X cs W tg iter fi) (ok : BlkOk X.N X.env.scope scope own)
    (hft : ∀ d as, ft d = .ok as → ∀ p ∈ as, p.1 ∈ vs)
    (hg : ∀ (s : Shared) (H : Hp) (C : Addr) (cl : List (Str × Addr)) (fp : List Addr), Tgt (X.blk s H scope (compEnvC scope cl C X.env) fp) tg g ft)
    (ht : ∀ (s : Shared) (H : Hp) (C : Addr) (cl : List (Str × Addr)) (fp : List Addr), STs (X.blk s H scope (compEnvC scope cl C X.env) fp) cs W0 ifs fc)
    (he : ∀ (s : Shared) (H : Hp) (C : Addr) (cl : List (Str × Addr)) (fp : List Addr), SD (X.blk s H scope (compEnvC scope cl C X.env) fp) cs W0 elt fe)
    (hsw : swapsWith (.ListComp elt [⟨tg, iter, ifs, 0⟩] scope pos) (some (.Name y py)) spos.line X.env = pure true)
    (hy : X.N[i]? = some y := by rfl) (hyl : X.env.scope.names.lookup y = some .local := by rfl) (hs : ∀ x, foldedSetIterable iter X.env x = pure x := by intro _; rfl) :
    SS X cs W np (.Assign [.Name y py] (.ListComp elt [⟨tg, iter, ifs, 0⟩] scope pos) spos) (asgN i (eLc vs fi ft fc fe)) := by
  subst hv
  exact psImp (ps_setLc (tt := tG X.K cs rB W0 fc) (te := tG X.K cs (rD X.K) W0 fe) hc hN hy hyl hsw hi ok (fun s H C cl fp => (hg s H C cl fp).pg) ht he hs) fun D' σ H ⟨Φ, ρ, r, q⟩ => lc_run (XB := X.blk X.s_0 H scope (compEnvC scope [] 0 X.env) []) rfl hft (hg X.s_0 H 0 [] []) (runN hnp r q)
def retS (fe : Ev D) : Es := fun ρ => tryE ρ (fe ρ) fun d => .rt (.val d) ρ
theorem ss_ret (he : SD X cs W e fe) : SS X cs W np (.Return (some e) pos) (retS fe) := psImp (ps_ret he) fun D' σ H ⟨Φ, ρ, r, q⟩ =>
  tG.bindS (rp := rD X.K) r q fun Φ1 H1 d v r1 x rep q => q Φ1 H1 σ v (Stp.refl fun b w => ownPush r1.len w) (r1.push rep) rfl
def retN (fe : Ev D) : Es := fun ρ => tryE ρ (fe ρ) fun d => .rt (.own d) ρ
def retV (i : Nat) : Es := fun ρ => match ρ[i]? with
  | some (.val d) => .rt (.val d) ρ
  | some (.own d) => .rt (.own d) (ρ.set i .emp)
  | _ => .stuck
def retNone : Es := fun ρ => .rt (.val .non) ρ
theorem ss_retNone : SS X cs W np (.Return none pos) retNone := psImp ps_retN fun D' σ H ⟨Φ, ρ, r, q⟩ => q Φ H σ .non (Stp.refl fun b w => ownPush r.len w) (r.push .non) rfl
def ifS (fc : Ev Bool) (f g : Es) : Es := fun ρ => tryE ρ (fc ρ) fun k => if k = true then f ρ else g ρ
theorem ss_if {as bs : List Stmt} (hc : ST X cs W c fc) (ha : SSs X cs W np as f) (hb : SSs X cs W np bs g) : SS X cs W np (.If c as bs pos) (ifS fc f g) := psImp (ps_if hc ha hb) fun D' σ H ⟨Φ, ρ, r, q⟩ =>
  tG.bindS (rp := rB) r q fun Φ1 H1 d v r1 x rep q => by
    cases rep
    cases d with
    | true => exact ⟨Φ1, ρ, r1, q⟩
    | false => exact ⟨Φ1, ρ, r1, q⟩
def whileS (fc : Ev Bool) (fb : Es) : Nat → Es
  | 0 => fun _ => .stuck
  | n + 1 => fun ρ => tryE ρ (fc ρ) fun k => if k = true then (match fb ρ with
    | .nx ρ' => whileS fc fb n ρ'
    | .ct ρ' => whileS fc fb n ρ'
    | .bk ρ' => .nx ρ'
    | r => r) else .nx ρ
theorem ss_while (n : Nat) {body : List Stmt} (hp : PassesOwn (model X.prog X.w) X.A X.env X.xe) (hc : ST X cs W c fc) (hb : SSs X cs W np body f) : SS X cs W np (.While c body [] pos) (whileS fc f n) := psImp (ps_while hp hc hb) fun D' σ H ⟨Φ, ρ, r, q⟩ => by
  refine ⟨fun m σ1 H1 => ∃ Φ1 ρ1, Rel X.K Φ1 H1 σ1 ρ1 ∧ RunS X.K cs W np D' (Own σ1 ρ1) σ1 Φ1 H1 (whileS fc f m ρ1), ⟨n, Φ, ρ, r, q⟩, ?_⟩
  rintro m σ1 H1 ⟨Φ1, ρ1, r1, q⟩
  cases m with
  | zero => exact q.elim
  | succ m =>
    refine tG.bindS (rp := rB) r1 q fun Φ2 H2 d v r2 x rep q => ?_
    cases rep
    cases d with
    | false => exact q.nx0 r2
    | true =>
      refine ⟨fun σ' H' => ∃ Φ' ρ', Rel X.K Φ' H' σ' ρ' ∧ RunS X.K cs W np D' (Own σ' ρ') σ' Φ' H' (whileS fc f m ρ'), fun σ' H' h => ⟨m, by omega, h⟩, Φ2, ρ1, r2, ?_⟩
      simp only [if_true] at q
      cases e : f ρ1 with
      | nx ρ' => rw [e] at q; exact fun Φ' H' σ' s' r' t' => ⟨Φ', ρ', r', RunS.step s' t' q⟩
      | ct ρ' => rw [e] at q; exact fun Φ' H' σ' s' r' t' => ⟨Φ', ρ', r', RunS.step s' t' q⟩
      | bk ρ' => rw [e] at q; exact q
      | rt v ρ' => rw [e] at q; exact q
      | exc x ρ' => rw [e] at q; exact q
      | stuck => rw [e] at q; exact q
def forGo (ft : D → R (List (Nat × D))) (fb : Es) : List D → Es
  | [] => fun ρ => .nx ρ
  | d :: ds => fun ρ => tryE ρ (noX (ft d)) fun as => match fb (setS ρ as) with
    | .nx ρ' => forGo ft fb ds ρ'
    | .ct ρ' => forGo ft fb ds ρ'
    | .bk ρ' => .nx ρ'
    | r => r
def forS (fi : Ev (List D)) (ft : D → R (List (Nat × D))) (fb : Es) : Es := fun ρ => tryE ρ (fi ρ) fun ds => forGo ft fb ds ρ
theorem ss_for {gt : TG} {ft : D → R (List (Nat × D))} {fi : Ev (List D)} {iter : Expr} {body : List Stmt} (hp : PassesOwn (model X.prog X.w) X.A X.env X.xe) (hc : X.calm = true) (hi : SIF X cs W tg iter fi) (t : Tgt X tg gt ft) (hnp : ∀ d as, ft d = .ok as → ∀ p ∈ as, np ≤ p.1) (hb : SSs X cs W np body f)
    (hs : ∀ x, foldedSetIterable iter X.env x = pure x := by intro _; rfl) : SS X cs W np (.For tg iter body [] pos) (forS fi ft f) := psImp (ps_for hp hc hi t.pg hb hs) fun D' σ H ⟨Φ, ρ, r, q⟩ => by
  refine tG.bindS (rp := rIF X.K) r q fun Φ1 H1 ds J r1 x1 wk q => ?_
  refine ⟨fun i m σ2 H2 => m = ds.length - i ∧ i ≤ ds.length ∧ ∃ Φ2 ρ2, Same Φ1 Φ2 ∧ Rel X.K Φ2 H2 σ2 ρ2 ∧ RunS X.K cs W np D' (Own σ2 ρ2) σ2 Φ2 H2 (forGo ft f (ds.drop i) ρ2), ⟨ds.length, by simp, Nat.zero_le _, Φ1, ρ, Same.refl _, r1, q⟩, ?_⟩
  rintro i m σ2 H2 ⟨rfl, hi, Φ2, ρ2, m2, r2, q⟩
  by_cases hlt : i < ds.length
  · refine .inr ⟨wk.go Φ2 H2 i m2 r2.sub hlt, fun σ' H' => ∃ Φ' ρ', Same Φ1 Φ' ∧ Rel X.K Φ' H' σ' ρ' ∧ RunS X.K cs W np D' (Own σ' ρ') σ' Φ' H' (forGo ft f (ds.drop (i + 1)) ρ'), fun σ' H' h => ⟨ds.length - (i + 1), by omega, rfl, hlt, h⟩, fun y H3 hy => ?_⟩
    obtain ⟨Φ3, x3, ry⟩ := wk.yld Φ2 H2 i y H3 ds[i] m2 r2.sub (by simp [hlt]) hy
    rw [List.drop_eq_getElem_cons hlt] at q
    unfold forGo at q
    cases e : ft ds[i] with
    | stuck => rw [e] at q; exact q.elim
    | exc z => rw [e] at q; exact q.elim
    | ok as =>
      rw [e] at q
      have q : RunS X.K cs W np D' (Own σ2 ρ2) σ2 Φ2 H2 (match f (setS ρ2 as) with
        | .nx ρ' => forGo ft f (ds.drop (i + 1)) ρ'
        | .ct ρ' => forGo ft f (ds.drop (i + 1)) ρ'
        | .bk ρ' => .nx ρ'
        | r => r) := q
      refine t.run Φ3 H3 σ2 ds[i] y as _ x3.sub ry e fun ws rws => ?_
      have r3 := (r2.ext x3).setMany rws
      have s3 : Stp (Own σ2 ρ2) Φ2 H2 Φ3 H3 (Own (setV σ2 ws) (setS ρ2 as)) := Stp.ofExt x3 fun b ⟨j, w⟩ => .inl ⟨j, ownSetMany rws w⟩
      have t3 := takeSetMany ws σ2 (rws.le (hnp _ as e))
      have q := RunS.step s3 t3 q
      refine ⟨Φ3, _, r3, ?_⟩
      have mm : ∀ {Φ' H' P'}, Stp (Own (setV σ2 ws) (setS ρ2 as)) Φ3 H3 Φ' H' P' → Same Φ1 Φ' := fun s => (m2.trans x3.mono).trans s.mono
      cases e2 : f (setS ρ2 as) with
      | nx ρ' => rw [e2] at q; exact fun Φ' H' σ' s' r' t' => ⟨Φ', ρ', mm s', r', RunS.step s' t' q⟩
      | ct ρ' => rw [e2] at q; exact fun Φ' H' σ' s' r' t' => ⟨Φ', ρ', mm s', r', RunS.step s' t' q⟩
      | bk ρ' => rw [e2] at q; exact q
      | rt v ρ' => rw [e2] at q; exact q
      | exc x ρ' => rw [e2] at q; exact q
      | stuck => rw [e2] at q; exact q
  · refine .inl ⟨wk.stop Φ2 H2 i m2 r2.sub (by omega), ?_⟩
    rw [List.drop_eq_nil_of_le (by omega)] at q
    exact q.nx0 r2
end
end PL
set_option Elab.async false
set_option linter.all false
set_option maxRecDepth 100000
namespace PL
set_option autoImplicit false
open PySem PySem.Spec PyProof.Rows L2
section
variable {X : Cx} {cs : Nat → Addr} {W : WX} {np : Nat} {e o tg i : Expr} {es : List Expr} {fe fi fv : Ev D} {fs : Ev (List D)} {pos p apos cpos : Pos}
/-- g: the list's items, the arguments, to the answer and the new items -/
abbrev GL := List D → List D → R (D × List D)
def MutL (X : Cx) (r : V → List V → Hp → VK → Prop) (g : GL) : Prop := ∀ (Φ H : Hp) (Q : VK) (a : Addr) (vs us : List V) (ds args : List D) (res : D) (ds' : List D), H a = some (.lst vs) → RepDs X.K Φ ds vs → RepDs X.K Φ args us → g ds args = .ok (res, ds') →
  (∀ v' vs', RepD X.K Φ res v' → RepDs X.K Φ ds' vs' → Q v' (upd H a (.lst vs'))) → r (.ref a) us H Q
def mutS (i : Nat) (g : GL) (fs : Ev (List D)) (k : D → List Sl → RS) : Es := fun ρ => match ρ[i]? with
  | some (.own (.lst ds)) => tryE ρ (fs ρ) fun args => match g ds args with
    | .ok (res, ds') => k res (ρ.set i (.own (.lst ds')))
    | _ => .stuck
  | _ => .stuck
theorem runMut {r : V → List V → Hp → VK → Prop} {g : GL} (m : MutL X r g) {j : Nat} {D' : Ends} {σ : L2.St} {ρ : List Sl} {Φ H : Hp} {k : D → List Sl → RS} {G : VK} (rl : Rel X.K Φ H σ ρ)
    (q : RunS X.K cs W np D' (Own σ ρ) σ Φ H (mutS j g fs k ρ)) (c : ∀ Φ1 H1 res v ρ1, Rel X.K Φ1 H1 σ ρ1 → RepD X.K Φ1 res v → RunS X.K cs W np D' (Own σ ρ1) σ Φ1 H1 (k res ρ1) → G v H1) :
    ∃ v, σ[j]? = some (some v) ∧ tyV X.K "list" v H ∧ tG X.K cs (rDs X.K) W fs σ H fun us H1 => r v us H1 G := by
  unfold mutS at q
  split at q
  next ds e =>
    obtain ⟨a, h1, h2, h3⟩ := rl.own j _ e
    cases h2 with
    | lst h2 h4 =>
      refine ⟨_, h1, .inl ⟨rfl, _, SqL.of h2⟩, tG.bindS (rp := rDs X.K) rl q fun Φ1 H1 args us r1 x rep q => ?_⟩
      split at q
      next res ds' eg =>
        refine m Φ1 H1 G a _ us ds args res ds' (x.heap _ _ h2) (h4.mono x.mono) rep eg fun v' vs' w1 w2 => ?_
        obtain ⟨r2, s2⟩ := r1.mut (d' := .lst ds') (u := .lst vs') h1 e (.lst upd_same w2)
        exact c Φ1 _ res v' _ r2 w1 (RunS.step s2 rfl q)
      next => exact q.elim
  next => exact q.elim
def gAppend : GL
  | ds, [d] => if ds.length < LIM then .ok (.non, ds ++ [d]) else .stuck
  | _, _ => .stuck
theorem RepDs.one {K : PySem.W.Frag} {Φ : Hp} {d : D} {vs : List V} (h : RepDs K Φ [d] vs) : ∃ v, vs = [v] ∧ RepD K Φ d v := by
  cases h with
  | cons h r => cases r; exact ⟨_, rfl, h⟩
theorem mu_append : MutL X rAppend gAppend := fun Φ H Q a vs us ds args res ds' ha hd hr e k => by
  unfold gAppend at e
  split at e
  · split at e
    next hl =>
      cases e
      obtain ⟨v, rfl, h⟩ := hr.one
      exact ⟨a, vs, v, rfl, rfl, ha, by rw [← hd.length]; exact lim_lt (by omega), k _ _ .non (hd.append (.cons h .nil))⟩
    next => cases e
  · cases e
def gPop : GL
  | ds, [] => (oR ds[ds.length - 1]?).bind fun d => .ok (d, ds.dropLast)
  | _, _ => .stuck
theorem mu_pop : MutL X rPop gPop := fun Φ H Q a vs us ds args res ds' ha hd hr e k => by
  unfold gPop at e
  split at e
  · cases hr
    cases e1 : ds[ds.length - 1]? with
    | none => rw [e1] at e; cases e
    | some d =>
      rw [e1] at e
      cases e
      obtain ⟨v, h1, h2⟩ := hd.get e1
      exact ⟨a, vs, v, rfl, rfl, ha, by rw [← hd.length]; exact h1, k _ _ h2 hd.dropLast⟩
  · cases e
abbrev kNx : D → List Sl → RS := fun _ ρ => .nx ρ
abbrev kAsg (ft : D → R (List (Nat × D))) : D → List Sl → RS := fun d ρ => tryE ρ (ft d) fun as => .nx (setS ρ as)
/-- x.m(e) as a statement -/
theorem ss_mut1 {r : V → List V → Hp → VK → Prop} {g : GL} {name x : Str} {id : String} (j : Nat) (m : MutL X r g) (slot : Slot "list" name id) (hty : typeOf (.builtin id) = pure (.type "method_descriptor")) (hm : MtR X id r) (ha : SAd X cs W (e :: es) fs)
    (hN : X.N[j]? = some x := by rfl) (hv : Vis X.env.scope x := by first | exact Or.inl rfl | exact Or.inr (Or.inl rfl) | exact Or.inr (Or.inr rfl)) (hd : (x == ("__debug__" : Str)) = false := by decide) (hcd : (x == ("__classdict__" : Str)) = false := by decide)
    (hbase : attributeBase (.Name x p) name X.env (eval (.Name x p) X.env) = eval (.Name x p) X.env := by rfl)
    (hfew : ((backTo cpos (starEach (e :: es) X.env)).all (fun x => !x.1) && (backToKw cpos (keywordEach [] X.env)).all (fun x => x.1.isSome)
      && decide ((e :: es).length + ([] : List Keyword).length + (if ([] : List Keyword).isEmpty then 0 else 1) < 30)) = true := by rfl)
    (hline : (apos.endLine == cpos.line) = true := by rfl) (hs : starEach (e :: es) X.env = (false, eval e X.env) :: starEach es X.env := by rfl) (hplain : (backTo cpos (starEach es X.env)).any (·.1) = false := by rfl)
    (hsw : swapsWith (.Call (.Attribute (.Name x p) name apos) (e :: es) [] cpos) none pos.line X.env = pure false := by rfl) :
    SS X cs W np (.Expr (.Call (.Attribute (.Name x p) name apos) (e :: es) [] cpos) pos) (mutS j g fs kNx) :=
  psImp (ps_expr (pe_bm PySem.F.plainAttrs_list slot hty hm (pe_var hN hv hd hcd) ha hbase hfew hline hs hplain) hsw) fun D' σ H ⟨Φ, ρ, r, q⟩ => runMut m r q fun Φ1 H1 res v ρ1 r1 _ q => q.nx0 r1
/-- x.m() as a statement -/
theorem ss_mut0 {r : V → List V → Hp → VK → Prop} {g : GL} {name x : Str} {id : String} (j : Nat) (m : MutL X r g) (slot : Slot "list" name id) (hty : typeOf (.builtin id) = pure (.type "method_descriptor")) (hm : MtR X id r)
    (hN : X.N[j]? = some x := by rfl) (hv : Vis X.env.scope x := by first | exact Or.inl rfl | exact Or.inr (Or.inl rfl) | exact Or.inr (Or.inr rfl)) (hd : (x == ("__debug__" : Str)) = false := by decide) (hcd : (x == ("__classdict__" : Str)) = false := by decide)
    (hbase : attributeBase (.Name x p) name X.env (eval (.Name x p) X.env) = eval (.Name x p) X.env := by rfl) (hline : (apos.endLine == cpos.line) = true := by rfl)
    (hsw : swapsWith (.Call (.Attribute (.Name x p) name apos) [] [] cpos) none pos.line X.env = pure false := by rfl) :
    SS X cs W np (.Expr (.Call (.Attribute (.Name x p) name apos) [] [] cpos) pos) (mutS j g aNil kNx) :=
  psImp (ps_expr (pe_bm0 PySem.F.plainAttrs_list slot hty hm (pe_var hN hv hd hcd) hbase hline) hsw) fun D' σ H ⟨Φ, ρ, r, q⟩ => by
    obtain ⟨v, h1, h2, Φ', ρ', r', q'⟩ := runMut (fs := aNil) (G := fun _ H1 => D'.nx σ H1) m r q fun Φ1 H1 res v ρ1 r1 _ q => q.nx0 r1
    exact ⟨v, h1, h2, q'.ok r'.sub .nil⟩
/-- target = x.m() -/
theorem ss_mutA0 {r : V → List V → Hp → VK → Prop} {g : GL} {name x : Str} {id : String} {gt : TG} {ft : D → R (List (Nat × D))} (j : Nat) (t : Tgt X tg gt ft) (hnp : ∀ d as, ft d = .ok as → ∀ p ∈ as, np ≤ p.1) (hx : ∀ d x, ft d ≠ .exc x) (m : MutL X r g) (slot : Slot "list" name id) (hty : typeOf (.builtin id) = pure (.type "method_descriptor")) (hm : MtR X id r)
    (hN : X.N[j]? = some x := by rfl) (hv : Vis X.env.scope x := by first | exact Or.inl rfl | exact Or.inr (Or.inl rfl) | exact Or.inr (Or.inr rfl)) (hd : (x == ("__debug__" : Str)) = false := by decide) (hcd : (x == ("__classdict__" : Str)) = false := by decide)
    (hbase : attributeBase (.Name x p) name X.env (eval (.Name x p) X.env) = eval (.Name x p) X.env := by rfl) (hline : (apos.endLine == cpos.line) = true := by rfl)
    (hs : swapsWithSole [tg] (.Call (.Attribute (.Name x p) name apos) [] [] cpos) pos.line X.env = pure false := by rfl) (hw : swappedStores [tg] (.Call (.Attribute (.Name x p) name apos) [] [] cpos) X.env = pure none := by rfl)
    (h1 : (assignEach [tg] X.env).map (·.2) = [assign tg X.env] := by rfl) :
    SS X cs W np (.Assign [tg] (.Call (.Attribute (.Name x p) name apos) [] [] cpos) pos) (mutS j g aNil (kAsg ft)) :=
  psImp (ps_asg (pe_bm0 PySem.F.plainAttrs_list slot hty hm (pe_var hN hv hd hcd) hbase hline) t.pg hs hw h1) fun D' σ H ⟨Φ, ρ, r, q⟩ => by
    obtain ⟨v, h1, h2, Φ', ρ', r', q'⟩ := runMut (fs := aNil) (G := fun v H1 => gt v σ H1 D'.nx) m r q fun Φ1 H1 res v ρ1 r1 rep q => runAsg t hnp hx r1 rep q
    exact ⟨v, h1, h2, q'.ok r'.sub .nil⟩
end
inductive RF where
  | ok (r : Sl) (fin : List Sl) | exc (x : Exn) (fin : List Sl) | stuck
abbrev Fn := List Sl → RF
abbrev vS (vs : List V) : L2.St := vs.map some
def RunF (K : PySem.W.Frag) (cs : Nat → Addr) (vs : List V) (args : List Sl) (Φ H : Hp) (Q : VK) (E : XK) : RF → Prop
  | .ok r fin => ∀ Φ' H' v, Stp (Own (vS vs) args) Φ H Φ' H' (Own (vS vs ++ [some v]) (fin ++ [r])) → Rel K Φ' H' (vS vs ++ [some v]) (fin ++ [r]) → Q v H'
  | .exc x fin => ∀ Φ' H' c dd, Stp (Own (vS vs) args) Φ H Φ' H' (Own (vS vs) fin) → Rel K Φ' H' (vS vs) fin → RepX cs Φ' H' x c dd → E c dd H'
  | .stuck => False
/-- what a function promises: n parameters, G on data -/
def spG (K : PySem.W.Frag) (cs : Nat → Addr) (n : Nat) (G : Fn) : Sp := fun vs H Q E => vs.length = n ∧ ∃ Φ args, Rel K Φ H (vS vs) args ∧ RunF K cs vs args Φ H Q E (G args)
def Sl.isVal : Sl → Bool
  | .val _ => true
  | _ => false
def finOf (n np : Nat) (args ρ : List Sl) : List Sl := if n ≤ np then ρ.take n else args
/-- a function from its body: N slots, n parameters, np of them never stored to -/
def bodyF (N n np : Nat) (fb : Es) : Fn := fun args => if n ≤ np ∨ args.all Sl.isVal = true then (match fb (args ++ List.replicate (N - n) .emp) with
  | .rt r ρ => .ok r (finOf n np args ρ)
  | .nx ρ => .ok (.val .non) (finOf n np args ρ)
  | .exc x ρ => .exc x (finOf n np args ρ)
  | _ => .stuck) else .stuck
section
variable {K : PySem.W.Frag} {Φ H : Hp} {σ σ2 : L2.St} {ρ ρ2 : List Sl}
theorem Rel.pick (r : Rel K Φ H σ ρ) (hl : σ2.length = ρ2.length) (f : Nat → Nat) (inj : ∀ i j, f i = f j → i = j) (h : ∀ (j : Nat) (s : Sl), ρ2[j]? = some s → s ≠ .emp → ρ[f j]? = some s ∧ σ[f j]? = σ2[j]?) : Rel K Φ H σ2 ρ2 := by
  have ow : ∀ j a, OwnAt σ2 ρ2 j a → OwnAt σ ρ (f j) a := fun j a ⟨h1, d, h2⟩ => by
    obtain ⟨e1, e2⟩ := h j _ h2 (by simp)
    exact ⟨e2.trans h1, d, e1⟩
  refine ⟨r.sub, hl, fun j d e => ?_, fun j d e => ?_, fun i j a h1 h2 => inj _ _ (r.sep _ _ a (ow _ _ h1) (ow _ _ h2))⟩
  · obtain ⟨e1, e2⟩ := h j _ e (by simp)
    obtain ⟨v, h1, h2⟩ := r.val _ _ e1
    exact ⟨v, e2.symm.trans h1, h2⟩
  · obtain ⟨e1, e2⟩ := h j _ e (by simp)
    obtain ⟨v, h1, h2⟩ := r.own _ _ e1
    exact ⟨v, e2.symm.trans h1, h2⟩
theorem ownPick (f : Nat → Nat) (h : ∀ (j : Nat) (s : Sl), ρ2[j]? = some s → s ≠ .emp → ρ[f j]? = some s ∧ σ[f j]? = σ2[j]?) {a : Addr} (w : Own σ2 ρ2 a) : Own σ ρ a := by
  obtain ⟨j, h1, d, h2⟩ := w
  obtain ⟨e1, e2⟩ := h j _ h2 (by simp)
  exact ⟨f j, e2.trans h1, d, e1⟩
theorem padAt {k : Nat} {j : Nat} {s : Sl} (h : (ρ ++ List.replicate k Sl.emp)[j]? = some s) (hs : s ≠ .emp) : ρ[j]? = some s := by
  by_cases hj : j < ρ.length
  · rwa [List.getElem?_append_left hj] at h
  · rw [List.getElem?_append_right (by omega), List.getElem?_replicate] at h
    split at h
    · cases h; exact absurd rfl hs
    · cases h
theorem Rel.pad (r : Rel K Φ H σ ρ) (k : Nat) : Rel K Φ H (σ ++ List.replicate k none) (ρ ++ List.replicate k .emp) :=
  r.pick (by simp [r.len]) id (fun _ _ e => e) fun j s e hs => by
    have e' := padAt e hs
    exact ⟨e', by rw [List.getElem?_append_left (by rw [r.len]; exact (List.getElem?_eq_some_iff.mp e').1)]; rfl⟩
theorem ownPad (hl : σ.length = ρ.length) {k : Nat} {a : Addr} (w : Own (σ ++ List.replicate k none) (ρ ++ List.replicate k .emp) a) : Own σ ρ a :=
  ownPick id (fun j s e hs => by
    have e' := padAt e hs
    exact ⟨e', by rw [List.getElem?_append_left (by rw [hl]; exact (List.getElem?_eq_some_iff.mp e').1)]; rfl⟩) w
/-- of a frame, the first n slots and the last one -/
def ends (n m : Nat) (j : Nat) : Nat := if j < n then j else m + (j - n)
theorem ends_inj {n m : Nat} (h : n ≤ m) (i j : Nat) (e : ends n m i = ends n m j) : i = j := by
  unfold ends at e
  split at e <;> split at e <;> omega
theorem ends_ok {n : Nat} {x : Option V} {r : Sl} (hl : σ.length = ρ.length) (hn : n ≤ ρ.length) (j : Nat) (s : Sl) (h : (ρ.take n ++ [r])[j]? = some s) (_ : s ≠ .emp) :
    (ρ ++ [r])[ends n ρ.length j]? = some s ∧ (σ ++ [x])[ends n ρ.length j]? = (σ.take n ++ [x])[j]? := by
  have l1 : (ρ.take n).length = n := by rw [List.length_take]; omega
  have l2 : (σ.take n).length = n := by rw [List.length_take, hl]; omega
  unfold ends
  split
  next hj =>
    rw [List.getElem?_append_left (by omega)] at h
    rw [List.getElem?_append_left (by omega), List.getElem?_append_left (by omega), List.getElem?_append_left (by omega)]
    rw [List.getElem?_take, if_pos hj] at h
    rw [List.getElem?_take, if_pos hj]
    exact ⟨h, rfl⟩
  next hj =>
    rw [List.getElem?_append_right (by omega), l1] at h
    rw [List.getElem?_append_right (by omega), List.getElem?_append_right (by omega), List.getElem?_append_right (by omega), l2, hl]
    rw [show ρ.length + (j - n) - ρ.length = j - n by omega]
    exact ⟨h, rfl⟩
end
theorem allVal {args : List Sl} (h : args.all Sl.isVal = true) {j : Nat} {s : Sl} (e : args[j]? = some s) : ∃ d, s = .val d := by
  have z := List.all_eq_true.mp h s (List.mem_of_getElem? e)
  cases s with
  | val d => exact ⟨d, rfl⟩
  | emp => cases z
  | own d => cases z
theorem Rel.vals {K : PySem.W.Frag} {Φ H Φ' H' : Hp} {σ : L2.St} {ρ : List Sl} (r : Rel K Φ H σ ρ) (h : ρ.all Sl.isVal = true) (m : Same Φ Φ') (s : Same Φ' H') : Rel K Φ' H' σ ρ := by
  refine ⟨s, r.len, fun j d e => ?_, fun j d e => ?_, fun i j a ⟨_, d, e⟩ _ => ?_⟩
  · obtain ⟨v, h1, h2⟩ := r.val j d e
    exact ⟨v, h1, h2.mono m⟩
  · obtain ⟨_, z⟩ := allVal h e; cases z
  · obtain ⟨_, z⟩ := allVal h e; cases z
theorem ownVals {σ : L2.St} {ρ : List Sl} (h : ρ.all Sl.isVal = true) {a : Addr} : ¬ Own σ ρ a := fun ⟨j, _, d, e⟩ => by
  obtain ⟨_, z⟩ := allVal h e; cases z
theorem Rel.lastOnly {K : PySem.W.Frag} {Φ H : Hp} {σ τ : L2.St} {ρ ξ : List Sl} {x : Option V} {r : Sl} (h : Rel K Φ H (σ ++ [x]) (ρ ++ [r])) (hl : σ.length = ρ.length) (g : Rel K Φ H τ ξ) (hv : ξ.all Sl.isVal = true) : Rel K Φ H (τ ++ [x]) (ξ ++ [r]) := by
  have last : ∀ {s : Sl}, s = r → (ρ ++ [r])[ρ.length]? = some s := fun e => by subst e; simp
  have lx : (σ ++ [x])[ρ.length]? = some x := by rw [← hl]; simp
  have tx : (τ ++ [x])[ξ.length]? = some x := by rw [← g.len]; simp
  refine ⟨g.sub, by simp [g.len], fun j d e => ?_, fun j d e => ?_, fun i j a ⟨_, d, e⟩ ⟨_, d', e'⟩ => ?_⟩
  · rcases getApp e with e | ⟨hj, e1⟩
    · obtain ⟨v, h1, h2⟩ := g.val j d e
      exact ⟨v, by rw [List.getElem?_append_left (List.getElem?_eq_some_iff.mp h1).1]; exact h1, h2⟩
    · obtain ⟨v, h1, h2⟩ := h.val _ d (last e1.symm)
      rw [lx] at h1
      exact ⟨v, by rw [hj, tx]; exact h1, h2⟩
  · rcases getApp e with e | ⟨hj, e1⟩
    · obtain ⟨_, z⟩ := allVal hv e; cases z
    · obtain ⟨v, h1, h2⟩ := h.own _ d (last e1.symm)
      rw [lx] at h1
      exact ⟨v, by rw [hj, tx]; exact h1, h2⟩
  · rcases getApp e with e | ⟨hi, e1⟩
    · obtain ⟨_, z⟩ := allVal hv e; cases z
    · rcases getApp e' with e' | ⟨hj, e2⟩
      · obtain ⟨_, z⟩ := allVal hv e'; cases z
      · rw [hi, hj]
theorem ownLast {σ τ : L2.St} {ρ ξ : List Sl} {x : Option V} {r : Sl} (hl : σ.length = ρ.length) (hl2 : τ.length = ξ.length) (hv : ξ.all Sl.isVal = true) {a : Addr} (w : Own (τ ++ [x]) (ξ ++ [r]) a) : Own (σ ++ [x]) (ρ ++ [r]) a := by
  obtain ⟨j, h1, d, e⟩ := w
  rcases getApp e with e | ⟨hj, e1⟩
  · obtain ⟨_, z⟩ := allVal hv e; cases z
  · rw [hj, ← hl2] at h1
    simp at h1
    exact ⟨ρ.length, by rw [← hl]; simp [h1], d, by simp [e1]⟩
/-- THE RULE for a def -/
theorem okF {P : Program} {w : World} {K : PySem.W.Frag} {mg : Str → Option Value} {base : Heap} {x qual : Str} {st : Stmt} {f : Addr} {fd : FuncData} {N ps : List Str} {k : Nat} (F : Fun K x qual st f fd) (S : FnScope N ps (defScope st)) (cs : Nat → Addr) (np : Nat) (fb : Es)
    (hb : ∀ (cdv : Value) (A : Around) (outer : List PySem.Env) (s : Shared) (H : Hp) (E : XK), Room k (A.deeper (envOfC qual (defScope st) s.heap.objs.size f cdv)) →
      SSs (cxOf (L2.CX P w) P w K mg base N qual (defScope st) f cdv A outer s H E) cs (fun c d _ H => E c d H) np (defBody st) fb) :
    FnOk P w K mg base (L2.CX P w) (k + 1) f fd ps (spG K cs ps.length (bodyF N.length ps.length np fb)) := by
  refine F.okX S (fun vs H Q E h => h.1) fun cdv A outer s H vs Q E hr hsp => ⟨_, hb cdv A outer s H E hr, ?_⟩
  obtain ⟨hlen, Φ, args, r, q⟩ := hsp
  have hal : args.length = ps.length := by rw [← r.len, List.length_map, hlen]
  have hst : L2.start N vs = vS vs ++ List.replicate (N.length - ps.length) none := by unfold L2.start; rw [hlen]
  have hps : ps.length ≤ N.length := by have := congrArg List.length S.pre; rw [List.length_take] at this; omega
  rw [hst]
  refine ⟨Φ, args ++ List.replicate (N.length - ps.length) Sl.emp, r.pad (N.length - ps.length), ?_⟩
  unfold bodyF at q
  split at q
  case isFalse => exact q.elim
  next hg =>
  have own0 : ∀ {P' : Addr → Prop} {Φ' H'}, Stp (Own (vS vs ++ List.replicate (N.length - ps.length) none) (args ++ List.replicate (N.length - ps.length) .emp)) Φ H Φ' H' P' → Stp (Own (vS vs) args) Φ H Φ' H' P' := fun s =>
    ⟨s.mono, fun b o e hn => s.frame b o e fun w => hn (ownPad r.len w), fun b p => (s.own b p).imp (ownPad r.len) id, fun b o e => (s.new b o e).imp id (Or.imp (ownPad r.len) id)⟩
  have take0 : ∀ {σ' : L2.St}, ps.length ≤ np → σ'.take np = (vS vs ++ List.replicate (N.length - ps.length) none).take np → σ'.take ps.length = vS vs := fun {σ'} hle ht => by
    have h1 := congrArg (List.take ps.length) ht
    rw [List.take_take, List.take_take, Nat.min_eq_left hle] at h1
    rw [h1, List.take_append_of_le_length (by simp [hlen])]
    exact List.take_of_length_le (by simp [hlen])
  have main : ∀ (rr : Sl) (ρ' : List Sl) (σ' : L2.St) (v : V) (Φ' H' : Hp), RunF K cs vs args Φ H Q E (.ok rr (finOf ps.length np args ρ')) → Stp (Own (vS vs) args) Φ H Φ' H' (Own (σ' ++ [some v]) (ρ' ++ [rr])) → Rel K Φ' H' (σ' ++ [some v]) (ρ' ++ [rr]) → (ps.length ≤ np → σ'.take ps.length = vS vs) → Q v H' := fun rr ρ' σ' v Φ' H' q s r' t => by
    have hl' : σ'.length = ρ'.length := by simpa using r'.len
    unfold finOf at q
    split at q
    next hnp =>
      have hle : ps.length ≤ ρ'.length := by
        have h1 := congrArg List.length (t hnp)
        rw [List.length_take, List.length_map] at h1
        omega
      have hpick := fun j s h hs => ends_ok (σ := σ') (ρ := ρ') (n := ps.length) (x := some v) (r := rr) hl' hle j s h hs
      rw [t hnp] at hpick
      refine q Φ' H' v ⟨s.mono, s.frame, fun b p => s.own b (ownPick _ hpick p), s.new⟩ (r'.pick ?_ _ (ends_inj hle) hpick)
      simp [hlen, List.length_take]; omega
    next hnp =>
      have hv : args.all Sl.isVal = true := hg.resolve_left hnp
      exact q Φ' H' v ⟨s.mono, s.frame, fun b p => s.own b (ownLast hl' r.len hv p), s.new⟩ (r'.lastOnly hl' (r.vals hv s.mono r'.sub) hv)
  have mainX : ∀ (x : Exn) (ρ' : List Sl) (σ' : L2.St) (Φ' H' : Hp) (c : Value) (dd : Option Addr), RunF K cs vs args Φ H Q E (.exc x (finOf ps.length np args ρ')) → Stp (Own (vS vs) args) Φ H Φ' H' (Own σ' ρ') → Rel K Φ' H' σ' ρ' → (ps.length ≤ np → σ'.take ps.length = vS vs) → RepX cs Φ' H' x c dd → E c dd H' := fun x ρ' σ' Φ' H' c dd q s r' t hx => by
    have hl' : σ'.length = ρ'.length := r'.len
    unfold finOf at q
    split at q
    next hnp =>
      have hle : ps.length ≤ ρ'.length := by
        have h1 := congrArg List.length (t hnp)
        rw [List.length_take, List.length_map] at h1
        omega
      have hpick : ∀ (j : Nat) (s : Sl), (ρ'.take ps.length)[j]? = some s → s ≠ .emp → ρ'[id j]? = some s ∧ σ'[id j]? = (vS vs)[j]? := fun j s h _ => by
        have hj : j < ps.length := by
          have := (List.getElem?_eq_some_iff.mp h).1
          rw [List.length_take] at this; omega
        rw [← t hnp]
        rw [List.getElem?_take, if_pos hj] at h
        exact ⟨h, by rw [List.getElem?_take, if_pos hj]; rfl⟩
      exact q Φ' H' c dd ⟨s.mono, s.frame, fun b p => s.own b (ownPick id hpick p), s.new⟩ (r'.pick (by simp [hlen, List.length_take]; omega) id (fun _ _ e => e) hpick) hx
    next hnp =>
      have hv : args.all Sl.isVal = true := hg.resolve_left hnp
      exact q Φ' H' c dd ⟨s.mono, s.frame, fun b p => absurd p (ownVals hv), s.new⟩ (r.vals hv s.mono r'.sub) hx
  cases e : fb (args ++ List.replicate (N.length - ps.length) .emp) with
  | stuck => rw [e] at q; exact q.elim
  | bk ρ' => rw [e] at q; exact q.elim
  | ct ρ' => rw [e] at q; exact q.elim
  | exc x ρ' =>
    rw [e] at q
    exact fun Φ' H' σ' c dd s' r' t' hx => mainX x ρ' σ' Φ' H' c dd q (own0 s') r' (fun hle => take0 hle t') hx
  | rt rr ρ' =>
    rw [e] at q
    exact fun Φ' H' σ' v s' r' t' => main rr ρ' σ' v Φ' H' q (own0 s') r' fun hle => take0 hle t'
  | nx ρ' =>
    rw [e] at q
    intro Φ' H' σ' s' r' t'
    refine main (.val .non) ρ' σ' .non Φ' H' q ?_ (r'.push .non) fun hle => take0 hle t'
    have s0 := own0 s'
    exact ⟨s0.mono, s0.frame, fun b p => s0.own b (ownPush r'.len p), s0.new⟩
def eFn (G : Fn) (fs : Ev (List D)) : Ev D := fun ρ => (fs ρ).bind fun ds => match G (ds.map .val) with
  | .ok (.val d) _ => .ok d
  | .ok (.own d) _ => .ok d
  | .exc x _ => .exc x
  | _ => .stuck
def eFnN (G : Fn) (fs : Ev (List D)) : Ev D := fun ρ => (fs ρ).bind fun ds => match G (ds.map .val) with
  | .ok (.own d) _ => .ok d
  | .exc x _ => .exc x
  | _ => .stuck
section
variable {X : Cx} {cs : Nat → Addr} {W : WX} {e : Expr} {es : List Expr} {fs : Ev (List D)} {pos p : Pos} {x : Str}
theorem valsAll (ds : List D) : (ds.map Sl.val).all Sl.isVal = true := List.all_eq_true.mpr fun s h => by
  obtain ⟨d, _, rfl⟩ := List.mem_map.mp h
  rfl
theorem relVals {K : PySem.W.Frag} {Φ H : Hp} (s : Same Φ H) {ds : List D} {vs : List V} (h : RepDs K Φ ds vs) : Rel K Φ H (vS vs) (ds.map .val) := by
  refine ⟨s, by simp [h.length], fun j d e => ?_, fun j d e => ?_, fun i j a ⟨_, d, e⟩ _ => ?_⟩
  · rw [List.getElem?_map] at e
    cases e2 : ds[j]? with
    | none => rw [e2] at e; cases e
    | some d' =>
      rw [e2] at e; cases e
      obtain ⟨v, h1, h2⟩ := h.get e2
      exact ⟨v, by simp [h1], h2⟩
  · obtain ⟨_, z⟩ := allVal (valsAll ds) e; cases z
  · obtain ⟨_, z⟩ := allVal (valsAll ds) e; cases z
/-- a step that owns nothing is growth -/
theorem Stp.ext {P P' : Addr → Prop} {Φ H Φ' H' : Hp} (s : Stp P Φ H Φ' H' P') (h : ∀ a, ¬ P a) (sub : Same Φ' H') : Ext Φ H Φ' H' :=
  ⟨s.mono, fun b o e => s.frame b o e (h b), sub, fun b o e => by
    rcases s.new b o e with z | z | z
    · exact .inl z
    · exact absurd z (h b)
    · exact .inr z⟩
theorem Rel.last {K : PySem.W.Frag} {Φ H : Hp} {σ : L2.St} {ρ : List Sl} {v : V} {d : D} (r : Rel K Φ H (σ ++ [some v]) (ρ ++ [.val d])) : RepD K Φ d v := by
  have hl : σ.length = ρ.length := by simpa using r.len
  obtain ⟨u, h1, h2⟩ := r.val ρ.length d (by simp)
  rw [← hl] at h1
  simp at h1
  subst h1
  exact h2
theorem Rel.lastOwn {K : PySem.W.Frag} {Φ H : Hp} {σ : L2.St} {ρ : List Sl} {v : V} {d : D} (r : Rel K Φ H (σ ++ [some v]) (ρ ++ [.own d])) : ∃ a, v = .ref a ∧ RepOwn K Φ H d a ∧ Φ a = none ∧ Own (σ ++ [some v]) (ρ ++ [.own d]) a := by
  have hl : σ.length = ρ.length := by simpa using r.len
  obtain ⟨a, h1, h2, h3⟩ := r.own ρ.length d (by simp)
  have h1' := h1
  rw [← hl] at h1
  simp at h1
  subst h1
  exact ⟨a, rfl, h2, h3, ρ.length, h1', d, by simp⟩
theorem runFn {n : Nat} {G : Fn} {ds : List D} {vs : List V} {σ : L2.St} {Φ H : Hp} {Q : VK} (s : Same Φ H) (h : RepDs X.K Φ ds vs) (hn : ds.length = n)
    (q : RunN X.K cs W σ Φ H Q (match G (ds.map .val) with
      | .ok (.own d) _ => .ok d
      | .exc x _ => .exc x
      | _ => .stuck) ∨ Run cs (rD X.K) W σ Φ H Q (match G (ds.map .val) with
      | .ok (.val d) _ => .ok d
      | .ok (.own d) _ => .ok d
      | .exc x _ => .exc x
      | _ => .stuck)) : spG X.K cs n G vs H Q (WE W σ) := by
  refine ⟨by rw [← h.length]; exact hn, Φ, ds.map .val, relVals s h, ?_⟩
  have no : ∀ a, ¬ Own (vS vs) (ds.map .val) a := fun a => ownVals (valsAll ds)
  cases e : G (ds.map .val) with
  | stuck => rw [e] at q; rcases q with q | q <;> exact q.elim
  | exc x fin =>
    rw [e] at q
    intro Φ' H' c dd s' r' hx
    have x' := s'.ext no r'.sub
    rcases q with q | q <;> exact q Φ' H' c dd x' hx
  | ok r fin =>
    rw [e] at q
    intro Φ' H' v s' r'
    have x' := s'.ext no r'.sub
    cases r with
    | emp => rcases q with q | q <;> exact q.elim
    | val d =>
      rcases q with q | q
      · exact q.elim
      · exact q Φ' H' v x' r'.last
    | own d =>
      obtain ⟨a, rfl, h2, h3, h4⟩ := r'.lastOwn
      have hb : H a = none := (s'.own a h4).resolve_left (no a)
      rcases q with q | q
      · exact q Φ' H' a x' hb h3 h2
      · obtain ⟨o, e1, e2, e3⟩ := h2.freeze h3
        exact q _ H' _ (x'.freeze hb h3 e1) e2
theorem sd_call {k n : Nat} {f : Addr} {fd : FuncData} {ps : List Str} {G : Fn} (F : FnOk X.prog X.w X.K X.mg X.base (L2.CX X.prog X.w) k f fd ps (spG X.K cs n G)) (hr : Room k X.A) (hg : Gl X x) (hm : X.mg x = some (.ref f)) (hk : PySem.W.keepIn X.K (.ref f) = true) (hb : Binds X.K fd ps [])
    (tk : Takes X W) (ha : SAd X cs W (e :: es) fs) (hl : ∀ ρ ds, fs ρ = .ok ds → ds.length = n) (hdb : (x == ("__debug__" : Str)) = false := by decide) (he : starEach (e :: es) X.env = (false, eval e X.env) :: starEach es X.env := by rfl) (hpl : (backTo pos (starEach es X.env)).any (·.1) = false := by rfl) :
    SD X cs W (.Call (.Name x p) (e :: es) [] pos) (eFn G fs) := peImp (pe_callS F hr hg hm hk hb (fun σ => passAt tk σ) ha hdb he hpl) fun σ H Q ⟨Φ, ρ, r, q⟩ =>
  tG.bind' (rp := rDs X.K) r q fun Φ1 H1 ds vs e1 r1 x rep q => runFn r1.sub rep (hl ρ ds e1) (.inr q)
theorem aCons_len {fa : Ev D} {n : Nat} (h : ∀ ρ ds, fs ρ = .ok ds → ds.length = n) (ρ : List Sl) (ds : List D) (e : aCons fa fs ρ = .ok ds) : ds.length = n + 1 := by
  obtain ⟨d, _, e⟩ := R.bind_ok e
  obtain ⟨ds', h1, e⟩ := R.bind_ok e
  cases e
  rw [List.length_cons, h ρ ds' h1]
theorem aNil_len (ρ : List Sl) (ds : List D) (e : aNil ρ = .ok ds) : ds.length = 0 := by cases e; rfl
end
end PL
set_option Elab.async false
set_option linter.all false
set_option maxRecDepth 100000
namespace PL
set_option autoImplicit false
open PySem PySem.Spec PyProof.Rows L2
theorem ftOne_in {i : Nat} {l : List Nat} (h : i ∈ l) (d : D) (as : List (Nat × D)) (e : ftOne i d = .ok as) : ∀ p ∈ as, p.1 ∈ l := by
  cases e
  intro p hp
  simp at hp
  subst hp
  exact h
theorem ftOne_ge {i n : Nat} (h : n ≤ i) (d : D) (as : List (Nat × D)) (e : ftOne i d = .ok as) : ∀ p ∈ as, n ≤ p.1 := by
  cases e
  intro p hp
  simp at hp
  subst hp
  exact h
theorem ftOne_nx (i : Nat) (d : D) (x : Exn) : ftOne i d ≠ .exc x := fun e => by cases e
theorem zip_mem {α : Type} : ∀ {is : List Nat} {ds : List α} {p : Nat × α}, p ∈ is.zip ds → p.1 ∈ is
  | [], _, _, h => by simp at h
  | _ :: _, [], _, h => by simp at h
  | i :: is, d :: ds, p, h => by
    rw [List.zip_cons_cons] at h
    rcases List.mem_cons.mp h with h | h
    · subst h; exact List.mem_cons_self
    · exact List.mem_cons_of_mem _ (zip_mem h)
theorem ftTup_ge {is : List Nat} {n : Nat} (h : ∀ i ∈ is, n ≤ i) (d : D) (as : List (Nat × D)) (e : ftTup is d = .ok as) : ∀ p ∈ as, n ≤ p.1 := by
  unfold ftTup at e
  split at e
  · split at e
    · cases e; exact fun p hp => h _ (zip_mem hp)
    · cases e
  · cases e
theorem ftTup_nx (is : List Nat) (d : D) (x : Exn) : ftTup is d ≠ .exc x := fun e => by
  unfold ftTup at e
  split at e
  · split at e <;> cases e
  · cases e
/-- a def of the text as it stands behind the top -/
structure Fx (K : PySem.W.Frag) (mg : Str → Option Value) (x : Str) (st : Stmt) (ps : List Str) where
  f : Addr
  fd : FuncData
  fn : Fun K x x st f fd
  mg : mg x = some (.ref f)
  bd : Binds K fd ps []
theorem okStuck {P : Program} {w : World} {K : PySem.W.Frag} {mg : Str → Option Value} {base : Heap} {CX : CXT} {k : Nat} {f : Addr} {fd : FuncData} {ps : List Str} (cs : Nat → Addr) : FnOk P w K mg base CX k f fd ps (spG K cs ps.length fun _ => .stuck) :=
  ⟨fun vs H Q E h => h.1, fun A outer s H args us vs Q E _ _ _ _ h => by
    obtain ⟨_, _, _, _, q⟩ := h
    exact q.elim⟩
/-- the law's own promise -/
theorem law_sp {K : PySem.W.Frag} {cs : Nat → Addr} {G : Fn} {H : Hp} {a : Addr} {ns : List Int} (h : ∃ fin, G [.val (.scr ns)] = .ok (.val (.bl true)) fin) (hs : SqL K H a (ns.map V.int)) :
    spG K cs 1 G [.ref a] H (fun v _ => v = .bl true) fun _ _ _ => False := by
  obtain ⟨fin, h⟩ := h
  refine ⟨rfl, H, [.val (.scr ns)], relVals (ds := [.scr ns]) (Same.refl H) (.cons (.scr hs) .nil), ?_⟩
  rw [h]
  intro Φ' H' v s' r'
  have z := r'.last
  cases z
  rfl
theorem law_cx {P : Program} {w : World} (H : Hp) (s : Shared) (e : Value) (s' : Shared) (h : L2.CX P w [] H s (fun _ _ _ => False) e s') : False := by
  obtain ⟨_, _, _, _, _, _, _, _, _, _, _, _, z⟩ := h
  exact z
end PL
set_option Elab.async false
set_option linter.all false
set_option maxRecDepth 100000
namespace PL
set_option autoImplicit false
open PySem PySem.Spec PyProof.Rows L2
theorem kcK_inj {a b : Key} (h : kcK a = kcK b) : a = b := by
  cases a <;> cases b <;> simp only [kcK, Sum.inl.injEq, Sum.inr.injEq, reduceCtorEq] at h
  · rw [h]
  · rename_i x y
    cases x; cases y
    congr 1
    exact congrArg Str.mk (Array.toList_inj.mp h)
theorem kcK_dec (a b : Key) : decide (kcK a = kcK b) = decide (a = b) := by
  by_cases h : a = b
  · subst h; simp
  · rw [decide_eq_false h, decide_eq_false fun z => h (kcK_inj z)]
def lookC (es : List (Kc × D)) (k : Kc) : Option D := (es.find? fun e => decide (e.1 = k)).map (·.2)
def putC (es : List (Kc × D)) (k : Kc) (d : D) : List (Kc × D) :=
  if (es.any fun e => decide (e.1 = k)) = true then es.map (fun e => if e.1 = k then (e.1, d) else e) else es ++ [(k, d)]
def mergeC (es more : List (Kc × D)) : List (Kc × D) := more.foldl (fun acc kv => putC acc kv.1 kv.2) es
def D.key : D → Option Kc
  | .int i => some (.inl i)
  | .str s => some (.inr s)
  | _ => none
section
variable {K : PySem.W.Frag} {Φ H : Hp}
theorem RepKs.look {k : Key} : ∀ {es : List (Kc × D)} {kvs : List (Key × V)}, RepKs K Φ es kvs → (lookC es (kcK k) = none ∧ valV kvs k = none) ∨ ∃ d v, lookC es (kcK k) = some d ∧ valV kvs k = some v ∧ RepD K Φ d v
  | _, _, .nil => .inl ⟨rfl, rfl⟩
  | _, _, .cons (k := j) (d := d) (v := v) (ds := ds) (vs := vs) h r => by
    by_cases e : j = k
    · refine .inr ⟨d, v, by simp [lookC, e], valV_pos e, h⟩
    · have e2 : ¬ kcK j = kcK k := fun z => e (kcK_inj z)
      have e3 : lookC ((kcK j, d) :: ds) (kcK k) = lookC ds (kcK k) := by simp [lookC, e2]
      rw [e3, valV_neg (p := (j, v)) e]
      exact RepKs.look r
theorem RepKs.any {k : Key} : ∀ {es : List (Kc × D)} {kvs : List (Key × V)}, RepKs K Φ es kvs → (es.any fun e => decide (e.1 = kcK k)) = (kvs.any fun kv => decide (kv.1 = k))
  | _, _, .nil => rfl
  | _, _, .cons h r => by rw [List.any_cons, List.any_cons, RepKs.any r, kcK_dec]
theorem RepKs.repl {k : Key} {d : D} {v : V} (h : RepD K Φ d v) : ∀ {es : List (Kc × D)} {kvs : List (Key × V)}, RepKs K Φ es kvs → RepKs K Φ (es.map (fun e => if e.1 = kcK k then (e.1, d) else e)) (kvs.map fun kv => if kv.1 = k then (kv.1, v) else kv)
  | _, _, .nil => .nil
  | _, _, .cons (k := j) g r => by
    rw [List.map_cons, List.map_cons]
    by_cases e : j = k
    · simp only [e, if_true]
      exact .cons h (RepKs.repl h r)
    · have e2 : ¬ kcK j = kcK k := fun z => e (kcK_inj z)
      simp only [e, e2, if_false]
      exact .cons g (RepKs.repl h r)
theorem RepKs.append : ∀ {es fs : List (Kc × D)} {kvs gs : List (Key × V)}, RepKs K Φ es kvs → RepKs K Φ fs gs → RepKs K Φ (es ++ fs) (kvs ++ gs)
  | _, _, _, _, .nil, s => s
  | _, _, _, _, .cons h r, s => .cons h (RepKs.append r s)
theorem RepKs.put {k : Key} {d : D} {v : V} {es : List (Kc × D)} {kvs : List (Key × V)} (r : RepKs K Φ es kvs) (h : RepD K Φ d v) : RepKs K Φ (putC es (kcK k) d) (putK kvs k v) := by
  unfold putC putK
  rw [r.any]
  split
  · exact r.repl h
  · exact r.append (.cons h .nil)
theorem RepKs.merge : ∀ {more es : List (Kc × D)} {ms kvs : List (Key × V)}, RepKs K Φ more ms → RepKs K Φ es kvs → RepKs K Φ (mergeC es more) (mergeK kvs ms)
  | _, _, _, _, .nil, r => r
  | _, es, _, kvs, .cons (k := k) h t, r => RepKs.merge (es := putC es (kcK k) _) (kvs := putK kvs k _) t (r.put h)
theorem RepKs.length : ∀ {es : List (Kc × D)} {kvs : List (Key × V)}, RepKs K Φ es kvs → es.length = kvs.length
  | _, _, .nil => rfl
  | _, _, .cons _ r => by rw [List.length_cons, List.length_cons, RepKs.length r]
theorem RepV.key {d : D} {v : V} {kc : Kc} (h : RepV K Φ H d v) (e : d.key = some kc) : ∃ k, v = kV k ∧ kcK k = kc := by
  cases d <;> simp only [D.key, Option.some.injEq, reduceCtorEq] at e <;> subst e
  · cases h.int_inv; exact ⟨.inl _, rfl, rfl⟩
  · obtain ⟨x, rfl, rfl⟩ := h.str_inv; exact ⟨.inr x, rfl, rfl⟩
end
def pairsE : List (Ev D × Ev D) → Ev (List (D × D))
  | [] => fun _ => .ok []
  | (fk, fv) :: r => fun ρ => (fk ρ).bind fun k => (fv ρ).bind fun v => (pairsE r ρ).bind fun l => .ok ((k, v) :: l)
def keysC : List (D × D) → Option (List (Kc × D))
  | [] => some []
  | (k, d) :: r => match k.key, keysC r with
    | some kc, some l => some ((kc, d) :: l)
    | _, _ => none
def gDisp (l : List (D × D)) : R D := (oR (keysC l)).bind fun es => if es.length ≤ 15 then .ok (.dic (mergeC [] es)) else .stuck
def eDisp (prs : List (Ev D × Ev D)) : Ev D := fun ρ => (pairsE prs ρ).bind gDisp
inductive RepPs (K : PySem.W.Frag) (Φ : Hp) : List (D × D) → List (V × V) → Prop
  | nil : RepPs K Φ [] []
  | cons {k d : D} {u v : V} {ds : List (D × D)} {vs : List (V × V)} : RepD K Φ k u → RepD K Φ d v → RepPs K Φ ds vs → RepPs K Φ ((k, d) :: ds) ((u, v) :: vs)
theorem RepPs.mono {K : PySem.W.Frag} {Φ Φ' : Hp} (m : Same Φ Φ') : ∀ {ds : List (D × D)} {vs : List (V × V)}, RepPs K Φ ds vs → RepPs K Φ' ds vs
  | _, _, .nil => .nil
  | _, _, .cons h g r => .cons (h.mono m) (g.mono m) (RepPs.mono m r)
theorem RepPs.keys {K : PySem.W.Frag} {Φ : Hp} : ∀ {ds : List (D × D)} {vs : List (V × V)} {es : List (Kc × D)}, RepPs K Φ ds vs → keysC ds = some es → ∃ kvs : List (Key × V), vs = kvs.map (fun kv => (kV kv.1, kv.2)) ∧ RepKs K Φ es kvs
  | _, _, _, .nil, e => by cases e; exact ⟨[], rfl, .nil⟩
  | _, _, es, .cons (k := k) (ds := ds) h g r, e => by
    simp only [keysC] at e
    split at e
    next kc l e1 e2 =>
      cases e
      obtain ⟨kvs, rfl, rk⟩ := RepPs.keys r e2
      obtain ⟨k', rfl, rfl⟩ := (RepD.toV (H := Φ) h).key e1
      exact ⟨(k', _) :: kvs, rfl, .cons g rk⟩
    next => cases e
section
variable {X : Cx} {cs : Nat → Addr} {W : WX} {np : Nat} {a b c e o : Expr} {fa fb fc : Ev D} {pos p apos cpos : Pos}
def SPs (X : Cx) (cs : Nat → Addr) (W : WX) (pos : Pos) (ks : List (Option Expr)) (vs : List Expr) (prs : List (Ev D × Ev D)) : Prop := PPs X pos ks vs (prs.map fun q => (tG X.K cs (rD X.K) W q.1, tG X.K cs (rD X.K) W q.2))
theorem sps_nil : SPs X cs W pos [] [] [] := pps_nil
theorem sps_cons {ks : List (Option Expr)} {vs : List Expr} {prs : List (Ev D × Ev D)} (hk : SD X cs W a fa) (hv : SD X cs W b fb) (h : SPs X cs W pos ks vs prs) : SPs X cs W pos (some a :: ks) (b :: vs) ((fa, fb) :: prs) := pps_cons hk hv h
theorem R.bind_assoc {α β γ : Type} (x : R α) (f : α → R β) (g : β → R γ) : (x.bind f).bind g = x.bind fun a => (f a).bind g := by cases x <;> rfl
theorem pairs_run {σ : L2.St} {Q : VK} {G : List (V × V) → Hp → Prop} {ρ : List Sl} : ∀ {prs : List (Ev D × Ev D)} {Φ H : Hp} {k : List (D × D) → R D}, Rel X.K Φ H σ ρ → RunN X.K cs W σ Φ H Q ((pairsE prs ρ).bind k) →
    (∀ Φ1 H1 l vs, pairsE prs ρ = .ok l → Ext Φ H Φ1 H1 → RepPs X.K Φ1 l vs → G vs H1) → tPairs (prs.map fun q => (tG X.K cs (rD X.K) W q.1, tG X.K cs (rD X.K) W q.2)) σ H G
  | [], Φ, H, k, r, q, c => c Φ H [] [] rfl (Ext.refl r.sub) .nil
  | (fk, fv) :: prs, Φ, H, k, r, q, c => by
    refine ⟨Φ, ρ, r, ?_⟩
    show Run cs (rD X.K) W σ Φ H _ (fk ρ)
    simp only [pairsE, R.bind_assoc] at q
    cases e1 : fk ρ with
    | stuck => rw [e1] at q; exact q.elim
    | exc z => rw [e1] at q; exact q
    | ok k1 =>
      rw [e1] at q
      intro Φ1 H1 u x1 rk
      refine ⟨Φ1, ρ, r.ext x1, ?_⟩
      show Run cs (rD X.K) W σ Φ1 H1 _ (fv ρ)
      cases e2 : fv ρ with
      | stuck => rw [e2] at q; exact q.elim
      | exc z => rw [e2] at q; exact q.ext x1
      | ok d1 =>
        rw [e2] at q
        intro Φ2 H2 v x2 rd
        have x12 := x1.trans x2
        refine pairs_run (k := fun l => k ((k1, d1) :: l)) (r.ext x12) (RunN.ext x12 q) fun Φ3 H3 l vs e3 x3 rl => ?_
        refine c Φ3 H3 _ _ ?_ (x12.trans x3) (.cons (RepD.mono (x2.trans x3).mono rk) (RepD.mono x3.mono rd) rl)
        simp only [pairsE, e1, e2, e3, R.bind]
theorem sn_disp {ks : List (Option Expr)} {vs : List Expr} {prs : List (Ev D × Ev D)} (h : SPs X cs W pos ks vs prs) (hall : ks.all (·.isSome) = true := by rfl) (hl : ks.length = vs.length := by rfl) (h0 : ks ≠ [] := by exact fun z => by cases z)
    (h15 : ks.length ≤ 15 := by decide) : SN X cs W (.Dict ks vs pos) (eDisp prs) := peImp (pe_disp h hall hl h0 h15) fun σ H Q ⟨Φ, ρ, r, q⟩ p hp => by
  have x0 : Ext Φ H Φ (upd H p (.dK [])) := Ext.alloc r.sub hp
  have h0 : Φ p = none := r.sub.free hp
  refine pairs_run (r.ext x0) (q.ext x0) fun Φ1 H1 l vs el x1 rl => ?_
  have e1 : H1 p = some (.dK []) := x1.heap _ _ upd_same
  have e2 : Φ1 p = none := by
    cases z : Φ1 p with
    | none => rfl
    | some u =>
      rcases x1.new p u z with w | w
      · rw [h0] at w; cases w
      · rw [upd_same] at w; cases w
  refine ⟨e1, ?_⟩
  unfold eDisp at q
  rw [el] at q
  have q : RunN X.K cs W σ Φ H Q ((oR (keysC l)).bind fun es => if es.length ≤ 15 then .ok (.dic (mergeC [] es)) else .stuck) := q
  cases ek : keysC l with
  | none => rw [ek] at q; exact q.elim
  | some es =>
    rw [ek] at q
    have q : RunN X.K cs W σ Φ H Q (if es.length ≤ 15 then .ok (.dic (mergeC [] es)) else .stuck) := q
    obtain ⟨kvs, rfl, rk⟩ := rl.keys ek
    by_cases h15 : es.length ≤ 15
    case neg => rw [if_neg h15] at q; exact q.elim
    rw [if_pos h15] at q
    have x01 := x0.trans x1
    refine ⟨kvs, rfl, by rw [← rk.length]; exact h15, q Φ1 _ p ⟨x01.mono, fun b u e => ?_, fun b u e => ?_, x01.new⟩ hp e2 (RepOwn.dic upd_same (rk.merge .nil))⟩
    · rw [upd_ne (ne_of_none e hp)]; exact x01.heap b u e
    · have hb : b ≠ p := fun z => by subst z; rw [e2] at e; cases e
      rw [upd_ne hb]; exact x1.sub b u e
def gDix : D → D → R D
  | .dic es, k => (oR k.key).bind fun kc => oR (lookC es kc)
  | _, _ => .stuck
theorem sd_dix (hu : X.A.units < cLine) (hu1 : X.A.units + 1 < cLine) (ha : SV X cs W a fa) (hb : SV X cs W b fb) (hs : NoSl b := by exact fun _ _ => rfl) : SD X cs W (.Subscript a b pos) (e2 gDix fa fb) := peImp (pe_dget hu1 ha hb hs) fun σ H Q h => run2 h fun Φ H v u d e m r1 r2 q => by
  unfold gDix at q
  split at q
  · obtain ⟨p, kvs, rfl, h1, h2⟩ := r1.dic_inv m
    obtain ⟨kc, hk, q⟩ := oR_bind (P := Run cs (rD X.K) W σ Φ H Q) q id
    obtain ⟨k, rfl, rfl⟩ := r2.key hk
    rcases h2.look (k := k) with ⟨z1, z2⟩ | ⟨d', v', z1, z2, z3⟩
    · rw [z1] at q; exact q.elim
    · rw [z1] at q
      exact ⟨p, v', rfl, by rw [← z2]; exact DGet.k h1, q.ok m z3⟩
  · exact q.elim
def eDget2 (fa fb fc : Ev D) : Ev D := fun ρ => (fa ρ).bind fun x => match x with
  | .dic es => (fb ρ).bind fun k => (fc ρ).bind fun d => (oR k.key).bind fun kc => .ok ((lookC es kc).getD d)
  | _ => .stuck
theorem sd_dget2 (hu1 : X.A.units + 1 < cLine) (ha : SV X cs W a fa) (hb : SV X cs W b fb) (hc : SD X cs W c fc) (m2 : M2 X a "get" apos b c cpos := by exact ⟨rfl, rfl, rfl, rfl⟩) : SD X cs W (.Call (.Attribute a "get" apos) [b, c] [] cpos) (eDget2 fa fb fc) :=
  peImp (pe_dget2 hu1 ha hb hc m2) fun σ H Q ⟨Φ, ρ, r, q⟩ => by
    refine tG.bind (rp := rV X.K) r q fun Φ1 H1 x v r1 _ rx q => ?_
    split at q
    · obtain ⟨p, kvs, rfl, h1, h2⟩ := RepV.dic_inv rx r1.sub
      refine ⟨p, rfl, .inl ⟨kvs, .inl h1⟩, ?_⟩
      refine tG.bind (rp := rV X.K) r1 q fun Φ2 H2 k u r2 x2 rk q => ?_
      refine tG.bind (rp := rD X.K) r2 q fun Φ3 H3 d w r3 x3 rd q => ?_
      obtain ⟨kc, hk, q⟩ := oR_bind (P := Run cs (rD X.K) W σ Φ3 H3 Q) q id
      obtain ⟨k', rfl, rfl⟩ := RepV.key rk hk
      refine ⟨_, DGet.k ((x2.trans x3).heap _ _ h1), ?_⟩
      rcases (h2.mono (x2.trans x3).mono).look (k := k') with ⟨z1, z2⟩ | ⟨d', v', z1, z2, z3⟩
      · rw [z1] at q; rw [z2]; exact q.ok r3.sub rd
      · rw [z1] at q; rw [z2]; exact q.ok r3.sub z3
    · exact q.elim
def eDget1 (fa fb : Ev D) : Ev D := fun ρ => (fa ρ).bind fun x => match x with
  | .dic es => (fb ρ).bind fun k => (oR k.key).bind fun kc => .ok ((lookC es kc).getD .non)
  | _ => .stuck
def pop2S (i j : Nat) : Es := fun ρ => match ρ[j]? with
  | some (.own (.lst (d1 :: d2 :: ds))) => .nx ((ρ.set j (.own (.lst ds))).set i (.val (.tup [d1, d2])))
  | _ => .stuck
theorem tyL {K : PySem.W.Frag} {H : Hp} {a : Addr} {vs : List V} (h : H a = some (.lst vs)) : tyV K "list" (.ref a) H := .inl ⟨rfl, vs, SqL.of h⟩
def parS (i j : Nat) (fs : Ev (List D)) : Es := fun ρ => tryE ρ (fs ρ) fun ds => match ds with
  | [x, y] => .nx (setS ρ [(i, x), (j, y)])
  | _ => .stuck
end
end PL
set_option Elab.async false
set_option linter.all false
set_option maxRecDepth 100000
namespace PL
set_option autoImplicit false
open PySem PySem.Spec PyProof.Rows L2
def IteT (K : PySem.W.Frag) (a : Addr) : It :=
  ⟨fun i G => ∃ (ys : List V) (y : V), SqT K G a ys ∧ ys[i]? = some y, fun i G r G' => ∃ q y, r = .ref q ∧ G q = none ∧ G' = upd G q (.tup [.int (i : Nat), y]) ∧ ∀ ys, SqT K G a ys → ys[i]? = some y, fun i G => ∃ ys : List V, SqT K G a ys ∧ ys.length ≤ i⟩
theorem turn_enT {P : Program} {w : World} {K : PySem.W.Frag} {el : List Expr} {k1 : Nat} {tp : Pos} (a c j : Addr) :
    Turn P w K (.Tuple el k1 tp) (IteT K a) [c, j] c (fun i h => (∃ old, IsEnum h c j ((i : Nat) : Int) old) ∧ h.IsTupleIter j a i ∧ c ≠ j) where
  mem := List.mem_cons_self ..
  obj := fun i h ⟨⟨old, he⟩, ⟨o, ho, _, hd⟩, _⟩ b hb => by
    rcases List.mem_cons.mp hb with z | z
    · rw [z]; exact ⟨_, he, fun v q => nomatch q⟩
    · rw [List.mem_singleton.mp z]; exact ⟨o, ho, fun v q => by rw [hd] at q; cases q⟩
  keep := fun i h h' ⟨⟨old, he⟩, hi, hne⟩ k => ⟨⟨old, k c (List.mem_cons_self ..) _ he⟩, hi.at fun o q => k j (by simp) o q, hne⟩
  item := by
    intro X hP hw hK hc i pins s σ H E I hf ⟨⟨old, he⟩, hit, hne⟩ ⟨ys, y, hq, hy⟩
    subst hP hw hK
    obtain ⟨us, rv, p, _⟩ := I.tuple hq
    obtain ⟨u, hu, ru⟩ := rv.get hy
    have p2 : s.heap.IsTuple a us.toArray := p
    have cl : c < s.heap.objs.size := Heap.lt_size he
    have jl : j < s.heap.objs.size := by obtain ⟨_, q, _⟩ := hit; exact Heap.lt_size q
    have aj : a ≠ j := fun z => by
      obtain ⟨o, q1, q2, _⟩ := id p2
      obtain ⟨o', q3, q4, _⟩ := id hit
      rw [z, q3] at q1; cases q1; rw [q4] at q2; exact absurd (Value.type.inj q2) (by decide)
    have ac : c ≠ a := fun z => by
      obtain ⟨o, q1, q2, _⟩ := id p2
      rw [← z, he] at q1; cases q1; exact absurd (Value.type.inj q2) (by decide)
    have dr := Draws.tuple (prog := X.prog) (w := X.w) (A := X.A.in1) (I.ok.hd hc) j a aj us.toArray
    have lt : i < us.toArray.size := by
      have := (List.getElem?_eq_some_iff.mp hu).1
      simpa using this
    refine wpAny_pyNext_enum_itemD dr he ⟨hit, p2⟩ lt hne (by simp [hne, ac]) fun z g tk hz ho hst hT _ hk => ?_
    have ez : z = u := by
      have e2 : us.toArray[i]? = some u := by simpa using hu
      rw [e2] at hz; exact (Option.some.inj hz).symm
    subst ez
    refine ⟨_, rfl, wpAny_letOwnedTupleGo_enum (s := { s with heap := g, toks := tk + 1 }) ho fun g2 he2 sb => ?_⟩
    have hT2 : g2.get? s.heap.objs.size = some { cls := .type "tuple", data := .seq #[.int i tk, z] } := (sb.2 _ (Nat.ne_of_gt cl)).trans hT
    have nw : ObjOk X.prog X.w (upd H s.heap.objs.size (.tup [.int (i : Nat), y])) g2 s.heap.objs.size (.tup [.int (i : Nat), y]) :=
      ⟨by show 2 ≤ sizeLine; decide, [.int i tk, z], .cons ⟨_, rfl⟩ (.cons ru .nil), ⟨_, hT2, rfl, _, rfl⟩⟩
    have I1 : Inv X pins σ (upd H s.heap.objs.size (.tup [.int (i : Nat), y])) { s with heap := g2, toks := tk + 1 } :=
      I.turnedNew (ch := [c, j]) (fun b ob hb q => (sb.2 b (fun z => hb (by simp [z]))).trans (hk b ob (fun z => hb (by simp [z])) (fun z => hb (by simp [z])) q)) hf (Nat.le_refl _) nw
    refine ⟨.ref s.heap.objs.size, _, I1, rfl, ⟨_, y, rfl, I.hok.fresh (Nat.le_refl _), rfl, fun zs hz => by rw [I.tuple_inj hz hq]; exact hy⟩, ⟨⟨z, ?_⟩, hst.1.at fun o q => (sb.2 j (Ne.symm hne)).trans q, hne⟩, fun b hb => ?_⟩
    · have e1 : ((i + 1 : Nat) : Int) = (i : Int) + 1 := by omega
      rw [e1]; exact he2
    · have hl : b < s.heap.objs.size := by
        rcases List.mem_cons.mp hb with z | z
        · rw [z]; exact cl
        · rw [List.mem_singleton.mp z]; exact jl
      rw [upd_ne (Nat.ne_of_lt hl)]
      exact (hf b hb).1
  done := by
    intro X hP hw hK hc i pins s σ H E I hf ⟨⟨old, he⟩, hit, hne⟩ ⟨ys, hq, hy⟩
    subst hP hw hK
    obtain ⟨us, rv, p, _⟩ := I.tuple hq
    have p2 : s.heap.IsTuple a us.toArray := p
    obtain ⟨f0, f1, f2, f3, f4, f5⟩ := hf j (by simp)
    have ln := rv.length
    have hx : us.toArray[i]? = none := by simp; omega
    unfold pyNext
    have hT : s.TypeIs (.ref c) "enumerate" := ⟨_, he, rfl⟩
    refine wpAny_bind (wpAny_attempt (wpAny_callSpecial?_slot (name := Str.ofString "__next__") hT F.slot_enumerate_next (wpAny_call_entry F.slot_enumerate_next hT F.entry_enumerate_next ?_ (F.args_enumerate_next_1 _))))
    show wpAny _ _ (field (.ref c) 2 >>= _) _ _ _
    refine wpAny_bind (wpAny_field he rfl (x := .ref j) rfl (wpAny_bind (wpAny_nextOf_tuple_end (I.ok.hd hc) hit p2 hx fun g x hg hx' => ?_)))
    obtain ⟨o, ho, hcl⟩ := hx'
    refine wpAny_bind (wpAny_isInstance (T := "StopIteration") (b := true) ⟨o, ho, hcl⟩ isSubtype_stop (wpAny_pure ⟨rfl, ?_⟩))
    exact I.turned (t' := s.toks) (fun b o hb q => hg b o hb q) f0 f1 f3 f4 f5
  self := fun A i s Q E ⟨⟨_, he⟩, _⟩ h => wpAny_pyIter_enum he h
theorem meets_enT (l : Addr) (us : Array Value) :
    Meets (Builtin.«enumerate.__new__» ⟨[.type "enumerate", .ref l], []⟩) (fun _ R s => s.heap.IsTuple l us ∧
      R (.ok (.ret (.ref (s.heap.push { cls := .type "tuple_iterator", data := .fields #[.ref l, .int 0 0] }).objs.size)))
        { s with heap := (s.heap.push { cls := .type "tuple_iterator", data := .fields #[.ref l, .int 0 0] }).push { cls := .type "enumerate", data := .fields #[.none, .bool false, .ref s.heap.objs.size, rawInt 0, .none, .none] } }) :=
  .of_wp fun prog w A R s h => by
    obtain ⟨hp, gn, dr, tk, os⟩ := s; obtain ⟨hl, h⟩ := h
    have hsub := sub_enumerate
    have hT : Heap.IsTuple (Shared.heap ⟨hp, gn, dr, tk, os⟩) l us := hl
    obtain ⟨ob, ho, hcl, nn, hdt⟩ := id hT
    wp_walk using wpAny_pyIter_tuple hT
    refine wpAny_stack_any fun st => wpAny_pure ?_
    split
    · rename_i c _ _ _ _ _
      cases (c == Value.type "enumerate")
      · wp_walk using wpAny_pyIter_tuple hT
        exact ⟨_, rfl, h⟩
      · wp_walk using wpAny_pyIter_tuple hT
        exact ⟨_, rfl, h⟩
    · wp_walk using wpAny_pyIter_tuple hT
      exact ⟨_, rfl, h⟩
theorem call_enT {prog : Program} {w : World} {A : Around} {E : Value → Shared → Prop} {s : Shared} {l : Addr} {us : Array Value} {Q : Value → Shared → Prop} (hl : s.heap.IsTuple l us)
    (h : ∀ g, IsEnum g (s.heap.objs.size + 1) s.heap.objs.size 0 .none → g.IsTupleIter s.heap.objs.size l 0 → (∀ b o, s.heap.get? b = some o → g.get? b = some o) → Q (.ref (s.heap.objs.size + 1)) { s with heap := g }) :
    wpAny (model prog w) A (call (.type "enumerate") [.ref l]) Q E s := by
  refine callType_new F.called_enumerate (by decide) (F.typeCall_enumerate_1 _) (F.newCall_enumerate_1 _) (fun obj => F.args_object_init_2 obj _) F.entry_enumerate_new (meets_enT l us) ⟨hl, ?_⟩
  have sz : (s.heap.push { cls := .type "tuple_iterator", data := .fields #[.ref l, .int 0 0] }).objs.size = s.heap.objs.size + 1 := Heap.size_push ..
  have ge := Heap.get?_push_size (s.heap.push { cls := .type "tuple_iterator", data := .fields #[.ref l, .int 0 0] }) (o := { cls := .type "enumerate", data := .fields #[.none, .bool false, .ref s.heap.objs.size, rawInt 0, .none, .none] }) rfl
  rw [sz] at ge
  show _ ∧ _
  rw [sz]
  exact ⟨⟨_, ge, rfl⟩, h _ ge ⟨_, Heap.get?_push_of_some _ (Heap.get?_push_size _ rfl), rfl, rfl⟩ fun b o x => Heap.get?_push_of_some _ (Heap.get?_push_of_some _ x)⟩
def iEnA (K : PySem.W.Frag) (te : TE) : TI := fun σ H R => te σ H fun v H1 => ∃ (a : Addr) (xs : List V), v = .ref a ∧ ((SqL K H1 a xs ∧ R (Ite K a) H1) ∨ (SqT K H1 a xs ∧ R (IteT K a) H1))
theorem pi_enA {X : Cx} {e : Expr} {te : TE} {p pos tpos : Pos} {elts : List Expr} {kk : Nat} (hg : Gl X "enumerate") (hm : X.mg "enumerate" = none) (he : PE X e te) (hs : starEach [e] X.env = (false, eval e X.env) :: starEach [] X.env := by rfl) :
    PI X (.Tuple elts kk tpos) (.Call (.Name "enumerate" p) [e] [] pos) (iEnA X.K te) := by
  refine ⟨fun pins s σ H R I h => Call_ (ld_blt I hg hm boot_enumerate (PyProof.Rows.callWith_type1 (args_cons (thn (he.run pins s σ H _ I h) fun u s1 ⟨v, H1, I1, r1, q1⟩ => args_nil ?_) hs) hs rfl))⟩
  obtain ⟨a, xs, rfl, q⟩ := q1
  obtain rfl : u = Value.ref a := r1
  have fp : ∀ b ∈ [s1.heap.objs.size + 1, s1.heap.objs.size], FpOk X pins H1 b := fun b hb => by
    have hle : s1.heap.objs.size ≤ b := by
      rcases List.mem_cons.mp hb with z | z
      · rw [z]; exact Nat.le_add_right _ _
      · rw [List.mem_singleton.mp z]; exact Nat.le_refl _
    exact I1.fpOk hle (I1.hok.fresh hle)
  rcases q with ⟨hq, q⟩ | ⟨hq, q⟩
  · obtain ⟨its, rv, p', _⟩ := I1.list hq
    refine call_enumerate_list p'.isList fun g hen hit _ hk => wpAny_pyIter_enum hen ?_
    exact ⟨s1.heap.objs.size + 1, [s1.heap.objs.size + 1, s1.heap.objs.size], _, _, H1, rfl, I1.kept (t' := s1.toks) hk, turn_enum a (s1.heap.objs.size + 1) s1.heap.objs.size, ⟨⟨.none, hen⟩, hit, Nat.succ_ne_self _⟩, fp, q⟩
  · obtain ⟨its, rv, p', _⟩ := I1.tuple hq
    refine call_enT (us := its.toArray) p' fun g hen hit hk => wpAny_pyIter_enum hen ?_
    exact ⟨s1.heap.objs.size + 1, [s1.heap.objs.size + 1, s1.heap.objs.size], _, _, H1, rfl, I1.kept (t' := s1.toks) hk, turn_enT a (s1.heap.objs.size + 1) s1.heap.objs.size, ⟨⟨.none, hen⟩, hit, Nat.succ_ne_self _⟩, fp, q⟩
/-- the pairs of enumerate -/
def enD : Nat → List D → List D
  | _, [] => []
  | i, d :: ds => .tup [.int i, d] :: enD (i + 1) ds
theorem enD_length : ∀ (ds : List D) (i : Nat), (enD i ds).length = ds.length
  | [], _ => rfl
  | _ :: ds, i => by simp [enD, enD_length ds]
theorem enD_get : ∀ (ds : List D) (i j : Nat), (enD i ds)[j]? = ds[j]?.map fun d => D.tup [.int ((i + j : Nat) : Int), d]
  | [], _, _ => by simp [enD]
  | d :: ds, i, 0 => by simp [enD]
  | d :: ds, i, j + 1 => by
    have e : i + 1 + j = i + (j + 1) := by omega
    simp only [enD, List.getElem?_cons_succ, enD_get ds, e]
section
variable {K : PySem.W.Frag} {Φ H : Hp} {p : Addr} {vs : List V} {ds : List D}
theorem yld_en {Φ1 H1 H' : Hp} {i : Nat} {q : Addr} {x : V} {d' : D} (s : Same Φ1 H1) (m : Same Φ Φ1) (r : RepDs K Φ ds vs) (hd : (enD 0 ds)[i]? = some d') (hq : H1 q = none) (e : H' = upd H1 q (.tup [.int (i : Nat), x])) (hx : vs[i]? = some x) : ∃ Φ', Ext Φ1 H1 Φ' H' ∧ RepD K Φ' d' (.ref q) := by
  rw [enD_get] at hd
  cases e1 : ds[i]? with
  | none => rw [e1] at hd; cases hd
  | some d =>
    rw [e1] at hd
    cases hd
    obtain ⟨v, h1, h2⟩ := r.get e1
    rw [hx] at h1; cases h1
    subst e
    have y := Ext.fresh (o := .tup [.int (i : Nat), x]) s hq
    have e0 : ((0 + i : Nat) : Int) = (i : Int) := by omega
    rw [e0]
    exact ⟨_, y, .tup (SqT.of upd_same) (.cons (.int _) (.cons ((h2.mono m).mono y.mono) .nil)) fun z => nomatch z⟩
theorem walk_enF (h : SqL K Φ p vs) (r : RepDs K Φ ds vs) : WalksF K (Ite K p) (enD 0 ds) Φ := by
  refine ⟨fun Φ1 H1 i m s hi => ?_, fun Φ1 H1 i m s hi => ?_, fun Φ1 H1 i v H' d m s hd y => ?_⟩
  · rw [enD_length] at hi
    have hv : i < vs.length := by rw [← r.length]; exact hi
    exact ⟨vs, vs[i], (m.trans s).seq h, by simp [hv]⟩
  · rw [enD_length] at hi
    exact ⟨vs, (m.trans s).seq h, by rw [← r.length]; exact hi⟩
  · obtain ⟨q, x', rfl, hq, e, f⟩ := y
    exact yld_en s m r hd hq e (f vs ((m.trans s).seq h))
theorem walk_enT (h : SqT K Φ p vs) (r : RepDs K Φ ds vs) : WalksF K (IteT K p) (enD 0 ds) Φ := by
  refine ⟨fun Φ1 H1 i m s hi => ?_, fun Φ1 H1 i m s hi => ?_, fun Φ1 H1 i v H' d m s hd y => ?_⟩
  · rw [enD_length] at hi
    have hv : i < vs.length := by rw [← r.length]; exact hi
    exact ⟨vs, vs[i], sqT_mono (m.trans s) h, by simp [hv]⟩
  · rw [enD_length] at hi
    exact ⟨vs, sqT_mono (m.trans s) h, by rw [← r.length]; exact hi⟩
  · obtain ⟨q, x', rfl, hq, e, f⟩ := y
    exact yld_en s m r hd hq e (f vs (sqT_mono (m.trans s) h))
end
def iEn (fa : Ev D) : Ev (List D) := fun ρ => (fa ρ).bind fun d => (oR d.items).bind fun ds => .ok (enD 0 ds)
section
variable {X : Cx} {cs : Nat → Addr} {W : WX} {e : Expr} {fa : Ev D} {pos p tpos : Pos} {elts : List Expr} {kk : Nat}
theorem sif_en (hg : Gl X "enumerate") (hm : X.mg "enumerate" = none) (h : SD X cs W e fa) (hs : starEach [e] X.env = (false, eval e X.env) :: starEach [] X.env := by rfl) : SIF X cs W (.Tuple elts kk tpos) (.Call (.Name "enumerate" p) [e] [] pos) (iEn fa) :=
  piImp (pi_enA hg hm h hs) fun σ H Q ⟨Φ, ρ, r, q⟩ => tG.bind (rp := rD X.K) r q fun Φ1 H1 d v r1 x rep q => by
    obtain ⟨ds, hd, q⟩ := oR_bind (P := Run cs (rIF X.K) W σ Φ1 H1 Q) q id
    have rep' : RepD X.K Φ1 d v := rep
    clear rep
    cases rep' with
    | tup h1 h2 _ => cases hd; exact ⟨_, _, rfl, .inr ⟨sqT_mono r1.sub h1, q.ok r1.sub (walk_enT h1 h2)⟩⟩
    | lst h1 h2 => cases hd; exact ⟨_, _, rfl, .inl ⟨SqL.of (r1.sub _ _ h1), q.ok r1.sub (walk_enF (SqL.of h1) h2)⟩⟩
    | scr h1 => cases hd; exact ⟨_, _, rfl, .inl ⟨r1.sub.seq h1, q.ok r1.sub (walk_enF h1 (RepDs.ints _))⟩⟩
    | _ => simp [D.items] at hd
end
end PL
set_option Elab.async false
set_option linter.all false
set_option maxRecDepth 100000
namespace PL
set_option autoImplicit false
open PySem PySem.Spec PyProof.Rows L2
section
variable {X : Cx} {cs : Nat → Addr} {W : WX} {np : Nat} {a b c e o i tg : Expr} {fa fb fc fe fi : Ev D} {pos p apos cpos pos' : Pos} {es : List Expr} {fs : Ev (List D)}
def deadS : Es := fun _ => .stuck
def D.isNon : D → Bool
  | .non => true
  | _ => false
def gIsN (d : D) : R Bool := .ok d.isNon
def gNotN (d : D) : R Bool := .ok (!d.isNon)
theorem RepV.isNon {K : PySem.W.Frag} {Φ H : Hp} {d : D} {v : V} (h : RepV K Φ H d v) : decide (v = .non) = d.isNon := by
  rcases h with h | ⟨_, rfl, h⟩
  · cases h <;> rfl
  · cases h <;> rfl
theorem sd_isN {j : Nat} (ha : SV X cs W a fa) : SD X cs W (.Compare a [.Is] [.Constant .none j pos'] pos) (eBl (e1 gIsN fa)) := peImp (pe_cmp (pc_isN ha)) fun σ H Q h => run1 (runBl h) fun Φ H v d m r q => by
  rw [r.isNon]; exact q.ok m rfl
theorem st_isN {j : Nat} (ha : SV X cs W a fa) : ST X cs W (.Compare a [.Is] [.Constant .none j pos'] pos) (e1 gIsN fa) := ptImp (pt_cmp (pc_isN ha)) fun σ H Q h => run1 h fun Φ H v d m r q => ⟨_, rfl, by rw [r.isNon]; exact q.ok m rfl⟩
def D.flat : D → Bool
  | .non => true
  | .bl _ => true
  | .int _ => true
  | .str _ => true
  | _ => false
def eqF : D → D → Bool
  | .non, .non => true
  | .bl a, .bl b => a == b
  | .bl a, .int b => (if a then 1 else 0) == b
  | .int a, .bl b => a == (if b then 1 else 0)
  | .int a, .int b => a == b
  | .str a, .str b => a == b
  | _, _ => false
theorem RepD.flat {K : PySem.W.Frag} {Φ : Hp} {d : D} {v : V} (h : RepD K Φ d v) (f : d.flat = true) : flatV v = true := by cases h <;> first | rfl | cases f
theorem RepV.flatD {K : PySem.W.Frag} {Φ H : Hp} {d : D} {v : V} (h : RepV K Φ H d v) (f : d.flat = true) : RepD K Φ d v := by
  rcases h with h | ⟨_, _, h⟩
  · exact h
  · cases h <;> cases f
theorem str_beq {x y : Str} : (x.cps.toList == y.cps.toList) = (x == y) := by
  have h := str_dec (x := x) (y := y)
  rw [Bool.beq_eq_decide_eq, Bool.beq_eq_decide_eq, h]
theorem RepD.eqF {K : PySem.W.Frag} {Φ : Hp} {d e : D} {v u : V} (h : RepD K Φ d v) (g : RepD K Φ e u) : PL.eqF d e = eqV v u := by
  cases h <;> cases g <;> first | rfl | (rename_i e1 _ _ e2; subst e1 e2; exact str_beq) | skip
theorem RepDs.flat {K : PySem.W.Frag} {Φ : Hp} : ∀ {ds : List D} {vs : List V}, RepDs K Φ ds vs → ds.all D.flat = true → vs.all flatV = true
  | _, _, .nil, _ => rfl
  | _, _, .cons h r, f => by
    rw [List.all_cons, Bool.and_eq_true] at f ⊢
    exact ⟨h.flat f.1, RepDs.flat r f.2⟩
theorem RepDs.inF {K : PySem.W.Frag} {Φ : Hp} {x : D} {v : V} (hx : RepD K Φ x v) : ∀ {ds : List D} {vs : List V}, RepDs K Φ ds vs → (ds.any fun y => PL.eqF y x) = vs.any fun y => eqV y v
  | _, _, .nil => rfl
  | _, _, .cons h r => by rw [List.any_cons, List.any_cons, h.eqF hx, RepDs.inF hx r]
def gInL (x : D) (ds : List D) : R Bool := if x.flat = true ∧ ds.all D.flat = true then .ok (ds.any fun y => eqF y x) else .stuck
def gIn (x : D) : D → R Bool
  | .tup ds => gInL x ds
  | .lst ds => gInL x ds
  | .scr ns => gInL x (ns.map .int)
  | .dic es => (oR x.key).bind fun k => .ok (lookC es k).isSome
  | .str s => match x with
    | .str [c] => .ok (decide (c ∈ s))
    | _ => .stuck
  | _ => .stuck
def gNi (x d : D) : R Bool := (gIn x d).bind fun k => .ok (!k)
theorem pc_or {op : CmpOp} {t t' : TE} (h : PC X op a b t) (h' : PC X op a b t') : PC X op a b (fun σ H Q => t σ H Q ∨ t' σ H Q) := ⟨fun pins s σ H Q I hw => by
  rcases hw with hw | hw
  · exact h.run pins s σ H Q I hw
  · exact h'.run pins s σ H Q I hw⟩
theorem pc_op {op : CmpOp} {r : R2} {ta tb : TE} (ho : OpR X (compareOp op) r) (ha : PE X a ta) (hb : PE X b tb) : PC X op a b (tOp r ta tb) :=
  ⟨fun pins s σ H Q I h => binT ha hb I h fun v u s2 x y H2 I2 rx ry q => ho pins s2 σ H2 x y v u Q I2 rx ry q⟩
/-- x in y, by values -/
def rInA (K : PySem.W.Frag) (neg : Bool) : R2 := fun x y H Q => rIn K neg x y H Q ∨ ∃ (c : Nat) (z : Str), x = .str ⟨#[c]⟩ ∧ y = .str z ∧ Q (.bl (if neg then !decide (c ∈ z.cps.toList) else decide (c ∈ z.cps.toList))) H
theorem str_one {x : Str} {c : Nat} (h : x.cps.toList = [c]) : x = ⟨#[c]⟩ := by
  cases x with
  | mk cps => simp only at h; rw [← Array.toArray_toList (xs := cps), h]
theorem in_run {neg : Bool} {g : D → D → R Bool} (hg : ∀ x d, g x d = (gIn x d).bind fun k => .ok (if neg then !k else k)) {σ : L2.St} {H : Hp} {Q : Bool → Hp → Prop} (h : tG X.K cs rB W (e2 g fa fb) σ H Q) :
    (tOp (rInA X.K neg) (tG X.K cs (rV X.K) W fa) (tG X.K cs (rV X.K) W fb) σ H fun v H1 => ∃ k, v = .bl k ∧ Q k H1) ∨
    (tG X.K cs (rV X.K) W fa σ H fun y H1 => tG X.K cs (rV X.K) W fb σ H1 fun x H2 => ∃ a o, x = .ref a ∧ DGet H2 a y o ∧ Q (if neg then !o.isSome else o.isSome) H2) := by
  obtain ⟨Φ, ρ, r, q⟩ := h
  have q0 := q
  unfold e2 at q
  cases ea : fa ρ with
  | stuck => rw [ea] at q; exact q.elim
  | exc x => exact .inl (tG.bind' (rp := rV X.K) r q0 fun Φ1 H1 d' v e1 r1 x rep q => by rw [ea] at e1; cases e1)
  | ok d =>
    cases eb : fb ρ with
    | stuck => rw [ea, eb] at q; exact q.elim
    | exc x => exact .inl (tG.bind' (rp := rV X.K) r q0 fun Φ1 H1 d' v e1 r1 x rep q => tG.bind' (rp := rV X.K) r1 q fun Φ2 H2 d2 v2 e2 r2 x2 rep2 q => by rw [eb] at e2; cases e2)
    | ok y =>
      have fin : ∀ (Φ H : Hp) (v u : V), Same Φ H → RepV X.K Φ H d v → RepV X.K Φ H y u → Run cs rB W σ Φ H Q (g d y) → rInA X.K neg v u H (fun v H1 => ∃ k, v = .bl k ∧ Q k H1) ∨ ∃ es, y = .dic es := fun Φ H v u m rv ru q => by
        rw [hg] at q
        have lst : ∀ (p : Addr) (vs : List V) (ds : List D), (SqL X.K H p vs ∨ SqT X.K H p vs) → RepDs X.K Φ ds vs → Run cs rB W σ Φ H Q ((gInL d ds).bind fun k => .ok (if neg then !k else k)) → rInA X.K neg v (.ref p) H (fun v H1 => ∃ k, v = .bl k ∧ Q k H1) := fun p vs ds hs rs q => by
          unfold gInL at q
          split at q
          next hf =>
            have rd := rv.flatD hf.1
            refine .inl ⟨p, vs, rfl, hs, rd.flat hf.1, rs.flat hf.2, _, rfl, ?_⟩
            have q1 := q.ok m rfl
            rw [rs.inF rd] at q1
            exact q1
          next => exact q.elim
        unfold gIn at q
        split at q
        · obtain ⟨p, vs, rfl, h1, h2⟩ := ru.tup_inv m
          exact .inl (lst p vs _ (.inr h1) h2 q)
        · obtain ⟨p, vs, rfl, h1, h2⟩ := ru.lst_inv m
          exact .inl (lst p vs _ (.inl (SqL.of h1)) h2 q)
        · obtain ⟨p, rfl, h1⟩ := ru.scr_inv m
          exact .inl (lst p _ _ (.inl h1) (RepDs.ints _) q)
        · exact .inr ⟨_, rfl⟩
        · obtain ⟨z, rfl, rfl⟩ := ru.str_inv
          split at q
          next c =>
            obtain ⟨x, rfl, hx⟩ := rv.str_inv
            have := str_one hx
            subst this
            exact .inl (.inr ⟨c, z, rfl, rfl, _, rfl, q.ok m rfl⟩)
          next => exact q.elim
        · exact q.elim
      by_cases hy : ∃ es, y = .dic es
      · obtain ⟨es, rfl⟩ := hy
        refine .inr (tG.bind' (rp := rV X.K) r q0 fun Φ1 H1 d' v e1 r1 x rep q => ?_)
        rw [ea] at e1; cases e1
        refine tG.bind' (rp := rV X.K) r1 q fun Φ2 H2 d2 u e2 r2 x2 rep2 q => ?_
        rw [eb] at e2; cases e2
        obtain ⟨p, kvs, rfl, h1, h2⟩ := rep2.dic_inv r2.sub
        rw [hg] at q
        simp only [gIn] at q
        rw [R.bind_assoc] at q
        obtain ⟨kc, hk, q⟩ := oR_bind (P := Run cs rB W σ Φ2 H2 Q) q id
        obtain ⟨k', rfl, rfl⟩ := RepV.key (RepV.ext rep x2) hk
        refine ⟨p, _, rfl, DGet.k h1, ?_⟩
        rcases h2.look (k := k') with ⟨z1, z2⟩ | ⟨d', v', z1, z2, z3⟩
        · rw [z2]; rw [z1] at q; exact q.ok r2.sub rfl
        · rw [z2]; rw [z1] at q; exact q.ok r2.sub rfl
      · refine .inl (tG.bind' (rp := rV X.K) r q0 fun Φ1 H1 d' v e1 r1 x rep q => ?_)
        rw [ea] at e1; cases e1
        refine tG.bind' (rp := rV X.K) r1 q fun Φ2 H2 d2 u e2 r2 x2 rep2 q => ?_
        rw [eb] at e2; cases e2
        exact (fin _ _ v u r2.sub (rep.ext x2) rep2 q).resolve_right hy
theorem op_inA : OpR X (compareOp .In) (rInA X.K false) := op_in_seq.or op_in_sign
theorem op_niA : OpR X (compareOp .NotIn) (rInA X.K true) := op_notIn_seq.or op_notIn_sign
theorem gIn_f (x d : D) : gIn x d = (gIn x d).bind fun k => .ok (if false then !k else k) := by cases gIn x d <;> rfl
theorem gNi_t (x d : D) : gNi x d = (gIn x d).bind fun k => .ok (if true then !k else k) := rfl
theorem Run.imp {α β : Type} {rp : Rp α β} {σ : L2.St} {Φ H : Hp} {Q Q' : β → Hp → Prop} {r : R α} (h : Run cs rp W σ Φ H Q r) (i : ∀ b H, Q b H → Q' b H) : Run cs rp W σ Φ H Q' r := by
  cases r with
  | ok a => exact fun Φ' H' b x y => i _ _ (h Φ' H' b x y)
  | exc z => exact h
  | stuck => exact h
theorem tG.imp {K : PySem.W.Frag} {α β : Type} {rp : Rp α β} {σ : L2.St} {H : Hp} {Q Q' : β → Hp → Prop} {f : Ev α} (h : tG K cs rp W f σ H Q) (i : ∀ b H, Q b H → Q' b H) : tG K cs rp W f σ H Q' := by
  obtain ⟨Φ, ρ, r, z⟩ := h
  exact ⟨Φ, ρ, r, Run.imp z i⟩
theorem rInA_mono {K : PySem.W.Frag} {neg : Bool} {x y : V} {H : Hp} {Q Q' : VK} (h : rInA K neg x y H Q) (i : ∀ b H, Q b H → Q' b H) : rInA K neg x y H Q' := by
  rcases h with ⟨p, xs, e, h1, h2, h3, q⟩ | ⟨c, z, e1, e2, q⟩
  · exact .inl ⟨p, xs, e, h1, h2, h3, i _ _ q⟩
  · exact .inr ⟨c, z, e1, e2, i _ _ q⟩
theorem pc_inA (hu : X.A.units + 1 < cLine) (ha : SV X cs W a fa) (hb : SV X cs W b fb) : PC X .In a b (fun σ H Q => tOp (rInA X.K false) (tG X.K cs (rV X.K) W fa) (tG X.K cs (rV X.K) W fb) σ H Q ∨ tDIn (tG X.K cs (rV X.K) W fa) (tG X.K cs (rV X.K) W fb) σ H Q) := pc_or (pc_op op_inA ha hb) (pc_din hu ha hb)
theorem pc_niA (hu : X.A.units + 1 < cLine) (ha : SV X cs W a fa) (hb : SV X cs W b fb) : PC X .NotIn a b (fun σ H Q => tOp (rInA X.K true) (tG X.K cs (rV X.K) W fa) (tG X.K cs (rV X.K) W fb) σ H Q ∨ tDNotIn (tG X.K cs (rV X.K) W fa) (tG X.K cs (rV X.K) W fb) σ H Q) := pc_or (pc_op op_niA ha hb) (pc_dnotin hu ha hb)
theorem bl_mono {Q : VK} {v : V} {H : Hp} (h : ∃ k, v = .bl k ∧ Q (.bl k) H) : Q v H := by
  obtain ⟨k, rfl, q⟩ := h
  exact q
theorem st_in (hu : X.A.units + 1 < cLine) (ha : SV X cs W a fa) (hb : SV X cs W b fb) (hm : behindInMarks .In b = false := by rfl) : ST X cs W (.Compare a [.In] [b] pos) (e2 gIn fa fb) :=
  ptImp (pt_cmp (pc_inA hu ha hb) hm) fun σ H Q h => by
    rcases in_run gIn_f h with z | z
    · exact .inl z
    · exact .inr (z.imp fun y H1 z => z.imp fun x H2 ⟨a, o, e, g, q⟩ => ⟨a, o, e, g, _, rfl, q⟩)
theorem st_ni (hu : X.A.units + 1 < cLine) (ha : SV X cs W a fa) (hb : SV X cs W b fb) (hm : behindInMarks .NotIn b = false := by rfl) : ST X cs W (.Compare a [.NotIn] [b] pos) (e2 gNi fa fb) :=
  ptImp (pt_cmp (pc_niA hu ha hb) hm) fun σ H Q h => by
    rcases in_run gNi_t h with z | z
    · exact .inl z
    · exact .inr (z.imp fun y H1 z => z.imp fun x H2 ⟨a, o, e, g, q⟩ => ⟨a, o, e, g, _, rfl, q⟩)
theorem sd_in (hu : X.A.units + 1 < cLine) (ha : SV X cs W a fa) (hb : SV X cs W b fb) (hm : behindInMarks .In b = false := by rfl) : SD X cs W (.Compare a [.In] [b] pos) (eBl (e2 gIn fa fb)) :=
  peImp (pe_cmp (pc_inA hu ha hb) hm) fun σ H Q h => by
    rcases in_run gIn_f (runBl h) with z | z
    · exact .inl (tG.imp z fun y H1 z => tG.imp z fun x H2 z => rInA_mono z fun v H3 => bl_mono)
    · exact .inr z
def eCh (p q : Int → Int → Bool) (fa fb fc : Ev D) : Ev Bool := fun ρ => (fa ρ).bind fun x => (fb ρ).bind fun y => (gCmp p x y).bind fun k => if k = true then (fc ρ).bind (gCmp q y) else .ok false
end
end PL
set_option Elab.async false
set_option linter.all false
set_option maxRecDepth 100000
namespace PL
set_option autoImplicit false
open PySem PySem.Spec PyProof.Rows L2
theorem ixN_of (n : Nat) (j : Nat) (h : j < n) : L2.ixN n (j : Int) = some j := by
  unfold L2.ixN
  rw [if_pos (by omega), if_pos (by omega)]
  simp
def D.ints : List D → Option (List Int)
  | [] => some []
  | .int i :: ds => (D.ints ds).map (i :: ·)
  | _ => none
def D.bls : List D → Option (List Bool)
  | [] => some []
  | .bl i :: ds => (D.bls ds).map (i :: ·)
  | _ => none
theorem ints_eq : ∀ {ds : List D} {ns : List Int}, D.ints ds = some ns → ds = ns.map .int
  | [], _, e => by cases e; rfl
  | .int i :: ds, ns, e => by
    cases h : D.ints ds with
    | none => simp [D.ints, h] at e
    | some l => simp [D.ints, h] at e; subst e; rw [ints_eq h]; rfl
theorem bls_eq : ∀ {ds : List D} {ns : List Bool}, D.bls ds = some ns → ds = ns.map .bl
  | [], _, e => by cases e; rfl
  | .bl i :: ds, ns, e => by
    cases h : D.bls ds with
    | none => simp [D.bls, h] at e
    | some l => simp [D.bls, h] at e; subst e; rw [bls_eq h]; rfl
theorem ints_map : ∀ ns : List Int, D.ints (ns.map .int) = some ns
  | [] => rfl
  | n :: ns => by simp [D.ints, ints_map ns]
theorem bls_map : ∀ ns : List Bool, D.bls (ns.map .bl) = some ns
  | [] => rfl
  | n :: ns => by simp [D.bls, bls_map ns]
theorem RepDs.bls_inv {K : PySem.W.Frag} {Φ : Hp} : ∀ {ns : List Bool} {vs : List V}, RepDs K Φ (ns.map D.bl) vs → vs = ns.map V.bl
  | [], _, .nil => rfl
  | n :: ns, _, .cons (.bl _) r => by rw [RepDs.bls_inv r]; rfl
def maxI : List Int → Int
  | [] => 0
  | n :: ns => ns.foldl max n
theorem foldl_max_le : ∀ (ns : List Int) (n : Int), n ≤ ns.foldl max n ∧ ∀ y ∈ ns, y ≤ ns.foldl max n
  | [], n => ⟨Int.le_refl _, by simp⟩
  | a :: ns, n => by
    obtain ⟨h1, h2⟩ := foldl_max_le ns (max n a)
    simp only [List.foldl_cons]
    refine ⟨by omega, fun y hy => ?_⟩
    rcases List.mem_cons.mp hy with rfl | hy
    · omega
    · exact h2 y hy
theorem foldl_max_mem : ∀ (ns : List Int) (n : Int), ns.foldl max n = n ∨ ns.foldl max n ∈ ns
  | [], n => .inl rfl
  | a :: ns, n => by
    simp only [List.foldl_cons]
    rcases foldl_max_mem ns (max n a) with h | h
    · rw [h]
      by_cases hl : a ≤ n
      · exact .inl (by omega)
      · exact .inr (by have e : max n a = a := by omega
                       rw [e]; simp)
    · exact .inr (by simp [h])
theorem maxI_le {ns : List Int} {y : Int} (h : y ∈ ns) : y ≤ maxI ns := by
  cases ns with
  | nil => cases h
  | cons n ns =>
    rcases List.mem_cons.mp h with rfl | h
    · exact (foldl_max_le ns y).1
    · exact (foldl_max_le ns n).2 y h
theorem maxI_mem {ns : List Int} (h : ns ≠ []) : maxI ns ∈ ns := by
  cases ns with
  | nil => exact absurd rfl h
  | cons n ns =>
    show ns.foldl max n ∈ n :: ns
    rcases foldl_max_mem ns n with h | h
    · rw [h]; simp
    · simp [h]
section
variable {X : Cx} {cs : Nat → Addr} {W : WX} {np : Nat} {a b c e o i tg : Expr} {fa fb fc fe fi : Ev D} {pos p apos cpos pos' : Pos} {es : List Expr} {fs : Ev (List D)}
theorem RepV.intsL {K : PySem.W.Frag} {Φ H : Hp} {d : D} {v : V} {ds : List D} {ns : List Int} (h : RepV K Φ H d v) (m : Same Φ H) (e : d.items = some ds) (e2 : D.ints ds = some ns) : ∃ a, v = .ref a ∧ (SqL K H a (ns.map V.int) ∨ SqT K H a (ns.map V.int)) := by
  obtain ⟨a, vs, rfl, h1, h2⟩ := h.items m e
  rw [ints_eq e2] at h2
  rw [h2.ints_inv] at h1
  exact ⟨a, rfl, h1⟩
def rMaxT (K : PySem.W.Frag) : List V → Hp → VK → Prop := fun vs H Q => ∃ (a : Addr) (ns : List Int), vs = [V.ref a] ∧ SqT K H a (ns.map V.int) ∧ ns ≠ [] ∧ Q (.int (maxI ns)) H
theorem valsReads {h : Heap} : ∀ {ns : List Int} {us : List Value}, Vals (ns.map V.int) us → ReadsAll h us (ns.map PyData.int) []
  | [], _, .nil => .nil
  | n :: ns, _, .cons ⟨t, e⟩ r => by subst e; exact .cons (as := []) (bs := []) (.int n t) (valsReads r)
theorem alikeInts (ns : List Int) : PySem.W.AlikeAll (ns.map PyData.int) := by
  refine ⟨fun x hx y hy => ?_, fun x hx => ?_⟩
  · obtain ⟨i, _, rfl⟩ := List.mem_map.mp hx
    obtain ⟨j, _, rfl⟩ := List.mem_map.mp hy
    rfl
  · obtain ⟨i, _, rfl⟩ := List.mem_map.mp hx
    exact fun z => by cases z
theorem depthInts : ∀ ns : List Int, PyData.depthAll (ns.map PyData.int) ≤ 1
  | [] => by simp [PyData.depthAll]
  | n :: ns => by
    have := depthInts ns
    simp only [List.map_cons, PyData.depthAll, PyData.depth]
    omega
theorem cr_maxT (hc : X.calm = true) (hu : X.A.units + 64 < cLine) : CallR X (.builtin "max") (rMaxT X.K) := by
  intro pins s σ H vs us Q I r h
  obtain ⟨a, ns, rfl, hs, hne, q⟩ := h
  obtain ⟨its, rv, hl, _⟩ := I.tuple hs
  rw [Vals.ref1 r]
  cases ns with
  | nil => exact absurd rfl hne
  | cons n ns =>
    have hr := valsReads (h := s.heap) rv
    have dp := depthInts (n :: ns)
    simp only [List.map_cons] at hr dp
    refine PySem.W.max_tuple_data (vs := its.toArray) (I.ok.hd hc) hl (x := .int n) (xs := ns.map .int) (by simpa using hr) (by have := alikeInts (n :: ns); simpa using this) (by omega) fun j v h' tk bs _ hv hk => ?_
    rw [PySem.W.maxD_ints] at hv
    cases hv with
    | int _ t => exact ⟨.int _, H, I.kept hk, ⟨_, rfl⟩, q⟩
theorem crOr {f : Value} {r r' : List V → Hp → VK → Prop} (h : CallR X f r) (h' : CallR X f r') : CallR X f (fun xs H Q => r xs H Q ∨ r' xs H Q) := by
  intro pins s σ H xs us Q I rx q
  rcases q with q | q
  · exact h pins s σ H xs us Q I rx q
  · exact h' pins s σ H xs us Q I rx q
def gMax1 : List D → R D
  | [d] => (oR d.items).bind fun ds => (oR (D.ints ds)).bind fun ns => if ns = [] then .stuck else .ok (.int (maxI ns))
  | _ => .stuck
theorem maxI_eq {ns : List Int} {m : Int} (h1 : m ∈ ns) (h2 : ∀ y, y ∈ ns → y ≤ m) : m = maxI ns := by
  have hne : ns ≠ [] := fun z => by subst z; cases h1
  have h3 := maxI_le h1
  have h4 := h2 _ (maxI_mem hne)
  omega
theorem sd_max1 (hc : X.calm = true) (hu : X.A.units + 64 < cLine) (hg : Gl X "max") (hm : X.mg "max" = none) (ha : SA X cs W (e :: es) fs)
    (he : starEach (e :: es) X.env = (false, eval e X.env) :: starEach es X.env := by rfl) (hpl : (backTo pos (starEach es X.env)).any (·.1) = false := by rfl) : SD X cs W (.Call (.Name "max" p) (e :: es) [] pos) (eCall gMax1 fs) :=
  sd_callB (crOr (cr_max hc) (cr_maxT hc hu)) (fun σ Φ H Q vs ds m r q => by
    unfold gMax1 at q
    split at q
    · obtain ⟨v, rfl, h⟩ := r.one
      obtain ⟨ds, h1, q⟩ := oR_bind (P := Run cs (rD X.K) W σ Φ H Q) q id
      obtain ⟨ns, h2, q⟩ := oR_bind (P := Run cs (rD X.K) W σ Φ H Q) q id
      obtain ⟨a, rfl, h3⟩ := h.intsL m h1 h2
      split at q
      next => exact q.elim
      next hne =>
        rcases h3 with h3 | h3
        · exact .inl ⟨a, ns, rfl, h3, List.length_pos_iff.mpr hne, fun y hy hl => by rw [maxI_eq hy hl]; exact q.ok m (.int _)⟩
        · exact .inr ⟨a, ns, rfl, h3, hne, q.ok m (.int _)⟩
    · exact q.elim) (by decide +kernel) hg hm ha (by decide) (by decide) he hpl
def gSum : List D → R D
  | [.lst ds] => (oR (D.ints ds)).bind fun ns => .ok (.int ns.sum)
  | [.scr ns] => .ok (.int ns.sum)
  | _ => .stuck
theorem sd_sum (hc : X.calm = true) (hg : Gl X "sum") (hm : X.mg "sum" = none) (ha : SA X cs W (e :: es) fs)
    (he : starEach (e :: es) X.env = (false, eval e X.env) :: starEach es X.env := by rfl) (hpl : (backTo pos (starEach es X.env)).any (·.1) = false := by rfl) : SD X cs W (.Call (.Name "sum" p) (e :: es) [] pos) (eCall gSum fs) :=
  sd_callB (cr_sum hc) (fun σ Φ H Q vs ds m r q => by
    unfold gSum at q
    split at q
    · obtain ⟨v, rfl, h⟩ := r.one
      obtain ⟨ns, h2, q⟩ := oR_bind (P := Run cs (rD X.K) W σ Φ H Q) q id
      obtain ⟨a, vs, rfl, h3, h4⟩ := h.lst_inv m
      rw [ints_eq h2] at h4
      rw [h4.ints_inv] at h3
      exact ⟨a, ns, rfl, SqL.of h3, q.ok m (.int _)⟩
    · obtain ⟨v, rfl, h⟩ := r.one
      obtain ⟨a, rfl, h3⟩ := h.scr_inv m
      exact ⟨a, _, rfl, h3, q.ok m (.int _)⟩
    · exact q.elim) (by decide +kernel) hg hm ha (by decide) (by decide) he hpl
def gAll : List D → R D
  | [.lst ds] => (oR (D.bls ds)).bind fun ns => .ok (.bl (ns.all id))
  | _ => .stuck
theorem sd_all (hc : X.calm = true) (hg : Gl X "all") (hm : X.mg "all" = none) (ha : SA X cs W (e :: es) fs)
    (he : starEach (e :: es) X.env = (false, eval e X.env) :: starEach es X.env := by rfl) (hpl : (backTo pos (starEach es X.env)).any (·.1) = false := by rfl) : SD X cs W (.Call (.Name "all" p) (e :: es) [] pos) (eCall gAll fs) :=
  sd_callB (cr_all hc) (fun σ Φ H Q vs ds m r q => by
    unfold gAll at q
    split at q
    · obtain ⟨v, rfl, h⟩ := r.one
      obtain ⟨ns, h2, q⟩ := oR_bind (P := Run cs (rD X.K) W σ Φ H Q) q id
      obtain ⟨a, vs, rfl, h3, h4⟩ := h.lst_inv m
      rw [bls_eq h2] at h4
      rw [h4.bls_inv] at h3
      exact ⟨a, ns, rfl, SqL.of h3, q.ok m (.bl _)⟩
    · exact q.elim) (by decide +kernel) hg hm ha (by decide) (by decide) he hpl
def rMulS : R2 := fun x y H Q => ∃ (z : Str) (i : Int), x = .str z ∧ y = .int i ∧ z.length ≤ 16 ∧ -(2 ^ 63) ≤ i ∧ i ≤ 1048576 ∧ Q (.str (Txt.mul z i)) H
theorem op_mulS : OpR X (binaryOp .Mult) rMulS := by
  intro pins s σ H x y v u Q I rx ry h
  obtain ⟨z, i, rfl, rfl, h1, h2, h3, q⟩ := h
  obtain ⟨t, rfl⟩ := rx
  obtain ⟨t', rfl⟩ := ry
  exact SB.mul (mulOk_of 16 1048576 h1 h3 h2 (by decide) (by decide)) fun t' k => ⟨.str _, H, I.tok _, ⟨_, rfl⟩, q⟩
theorem foldl_app (x : Array Nat) : ∀ (n : Nat) (acc : Array Nat), ((List.replicate n x).foldl (· ++ ·) acc).toList = acc.toList ++ (List.replicate n x.toList).flatten
  | 0, acc => by simp
  | n + 1, acc => by simp [List.replicate_succ, foldl_app x n]
theorem mul_toL (z : Str) (i : Int) : (Txt.mul z i).cps.toList = (List.replicate i.toNat z.cps.toList).flatten := by
  unfold Txt.mul
  split
  next h =>
    have e : i.toNat = 0 := by omega
    rw [e]; rfl
  next h =>
    split
    next h2 =>
      simp only [Bool.or_eq_true, beq_iff_eq] at h2
      rcases h2 with h2 | h2
      · rw [h2]; simp
      · have e : z.cps.toList = [] := by
          rw [len_toL] at h2; exact List.eq_nil_of_length_eq_zero h2
        rw [e]
        clear e h2
        induction i.toNat with
        | zero => rfl
        | succ n ih => simpa [List.replicate_succ] using ih
    next h2 => simp [foldl_app]
def gMul : D → D → R D
  | .str s, .int i => if s.length ≤ 16 ∧ -(2 ^ 63) ≤ i ∧ i ≤ 1048576 then .ok (.str (List.replicate i.toNat s).flatten) else .stuck
  | d, e => gMulI d e
theorem sd_mul (ha : SV X cs W a fa) (hb : SV X cs W b fb) : SD X cs W (.BinOp a .Mult b pos) (e2 gMul fa fb) := by
  refine sd_op ((op_mul.or op_mulW).or op_mulS) (fun σ Φ H Q v u d e m r1 r2 q => ?_) ha hb
  unfold gMul at q
  split at q
  · obtain ⟨x, rfl, rfl⟩ := r1.str_inv
    cases r2.int_inv
    split at q
    next h =>
      rw [← len_toL] at h
      exact .inr ⟨x, _, rfl, rfl, h.1, h.2.1, h.2.2, q.ok m (.str _ _ (mul_toL _ _))⟩
    next => exact q.elim
  · refine .inl ?_
    unfold gMulI gInt at q
    split at q
    next i j =>
      cases r1.int_inv; cases r2.int_inv
      dsimp only at q
      split at q
      next h =>
        simp only [MulOk, Bool.or_eq_true, decide_eq_true_eq] at h
        rcases h with (h | h) | h
        · exact .inl ⟨_, _, rfl, rfl, .inl (by omega), q.ok m (.int _)⟩
        · exact .inl ⟨_, _, rfl, rfl, .inr (by omega), q.ok m (.int _)⟩
        · exact .inr ⟨_, _, rfl, rfl, h, q.ok m (.int _)⟩
      next => exact q.elim
    next => exact q.elim
def augV (i : Nat) (g : D → D → R D) (fe : Ev D) : Es := fun ρ => match ρ[i]? with
  | some (.val d) => tryE ρ (fe ρ) fun y => tryE ρ (g d y) fun z => .nx (ρ.set i (.val z))
  | _ => .stuck
theorem ss_aug {op : Operator} {r : TIp} {g : D → D → R D} (j : Nat) {x : Str} (hn : np ≤ j) (hN : X.N.Nodup) (ho : PIp X op r) (hg : OpD X cs (fun _ _ _ _ => False) r g) (hx : ∀ d e z, g d e ≠ .exc z) (he : SV X cs W e fe) (hi : X.N[j]? = some x := by rfl) (hl : Loc X.env.scope x := by first | exact Or.inl rfl | exact Or.inr rfl) (hf : X.fn x = true ∨ X.env.scope.names.lookup x = some .local := by first | exact .inl rfl | exact .inr rfl | assumption) :
    SS X cs W np (.AugAssign (.Name x pos') op e pos) (augV j g fe) := psImp (ps_aug hN hi hl he ho hf) fun D' σ H ⟨Φ, ρ, r, q⟩ => by
  unfold augV at q
  split at q
  next d e1 =>
    obtain ⟨v, h1, h2⟩ := r.val j d e1
    refine ⟨v, h1, tG.bindS (rp := rV X.K) r q fun Φ1 H1 y u r1 x1 rep q => ?_⟩
    cases e3 : g d y with
    | stuck => rw [e3] at q; exact q.elim
    | exc z => exact absurd e3 (hx _ _ _)
    | ok z =>
      rw [e3] at q
      refine hg σ Φ1 H1 _ v u d y r1.sub (.inl (h2.mono x1.mono)) rep ?_
      rw [e3]
      intro Φ2 H2 w x2 rz
      have r2 : Rel X.K Φ2 H2 (σ.set j (some w)) (ρ.set j (.val z)) := (r1.ext x2).set rz
      refine q Φ2 H2 _ (Stp.ofExt x2 fun a ⟨k, p1, d', p2⟩ => .inl ?_) r2 ?_
      · by_cases hk : j = k
        · subst hk
          by_cases hlen : j < ρ.length
          · rw [List.getElem?_set_self hlen] at p2; cases p2
          · rw [List.getElem?_eq_none (by simpa using hlen)] at p2; cases p2
        · rw [List.getElem?_set_ne hk] at p1 p2
          exact ⟨k, p1, d', p2⟩
      · rw [List.take_set_of_le hn]
  next => exact q.elim
theorem ipOr {op : Operator} {r r' : TIp} (h : PIp X op r) (h' : PIp X op r') : PIp X op (fun x y H Q => r x y H Q ∨ r' x y H Q) := by
  intro pins s σ H x y v u Q I rx ry q
  rcases q with q | q
  · exact h pins s σ H x y v u Q I rx ry q
  · exact h' pins s σ H x y v u Q I rx ry q
def gAddA : D → D → R D
  | .int i, .int j => .ok (.int (i + j))
  | .str x, .str y => if x.length + y.length ≤ LIM then .ok (.str (x ++ y)) else .stuck
  | _, _ => .stuck
theorem ss_augAdd (j : Nat) {x : Str} (hn : np ≤ j) (hN : X.N.Nodup) (he : SV X cs W e fe) (hi : X.N[j]? = some x := by rfl) (hl : Loc X.env.scope x := by first | exact Or.inl rfl | exact Or.inr rfl) (hf : X.fn x = true ∨ X.env.scope.names.lookup x = some .local := by first | exact .inl rfl | exact .inr rfl | assumption) :
    SS X cs W np (.AugAssign (.Name x pos') .Add e pos) (augV j gAddA fe) :=
  ss_aug j hn hN (ipOr ip_add (r' := fun x y H Q => ∃ i j, x = .str i ∧ y = .str j ∧ i.length + j.length ≤ sizeLine ∧ Q (.str (i ++ j)) H) iop_add_str) (fun σ Φ H Q v u d e m r1 r2 q => by
    unfold gAddA at q
    split at q
    · cases r1.int_inv; cases r2.int_inv
      exact .inl ⟨_, _, rfl, rfl, q.ok m (.int _)⟩
    · obtain ⟨x, rfl, rfl⟩ := r1.str_inv
      obtain ⟨y, rfl, rfl⟩ := r2.str_inv
      split at q
      next h =>
        rw [← len_toL, ← len_toL] at h
        exact .inr ⟨_, _, rfl, rfl, lim_le h, q.ok m (.str _ _ (toL_append x y))⟩
      next => exact q.elim
    · exact q.elim) (fun d e z h => by unfold gAddA at h; split at h <;> first | cases h | (split at h <;> cases h)) he hi hl hf
def setL (j : Nat) (fi fv : Ev D) : Es := fun ρ => match ρ[j]? with
  | some (.own (.lst ds)) => tryE ρ (fv ρ) fun d => tryE ρ (fi ρ) fun k => match k with
    | .int k => (match ixN ds.length k with
      | some m => .nx (ρ.set j (.own (.lst (ds.set m d))))
      | none => .stuck)
    | _ => .stuck
  | _ => .stuck
def setD (j : Nat) (fi fv : Ev D) : Es := fun ρ => match ρ[j]? with
  | some (.own (.dic es)) => tryE ρ (fv ρ) fun d => tryE ρ (fi ρ) fun k => match k.key with
    | some kc => if es.length < LIM then .nx (ρ.set j (.own (.dic (putC es kc d)))) else .stuck
    | none => .stuck
  | _ => .stuck
/-- x[k] op= e, x a list of its own, k not below 0 -/
def augL (j : Nat) (fi : Ev D) (g : D → D → R D) (fe : Ev D) : Es := fun ρ => match ρ[j]? with
  | some (.own (.lst ds)) => tryE ρ (fi ρ) fun k => match k with
    | .int k => if 0 ≤ k ∧ k < LIM then (match ds[k.toNat]? with
      | some d => tryE ρ (fe ρ) fun y => tryE ρ (g d y) fun z => .nx (ρ.set j (.own (.lst (ds.set k.toNat z))))
      | none => .stuck) else .stuck
    | _ => .stuck
  | _ => .stuck
end
end PL
set_option Elab.async false
set_option linter.all false
set_option maxRecDepth 100000
namespace PL
set_option autoImplicit false
open PySem PySem.Spec PyProof.Rows L2
section
variable {X : Cx} {cs : Nat → Addr} {W : WX} {np : Nat} {a b c e o i tg : Expr} {fa fb fc fe fi : Ev D} {pos p apos cpos pos' : Pos} {es : List Expr} {fs : Ev (List D)}
def expS (fe : Ev D) : Es := fun ρ => tryE ρ (fe ρ) fun _ => .nx ρ
end
end PL
set_option Elab.async false
set_option linter.all false
set_option maxRecDepth 100000
namespace PL
set_option autoImplicit false
open PySem PySem.Spec PyProof.Rows L2
/-- an argument: frozen data, or a slot's own list or dict -/
inductive Ar where
  | fz (f : Ev D) | bw (j : Nat)
def Ar.j : Ar → Option Nat
  | .fz _ => none
  | .bw j => some j
def bwK (r : R (List Sl)) (s : Option Sl) : R (List Sl) := match s with
  | some (.own d) => r.bind fun l => .ok (.own d :: l)
  | _ => .stuck
def arS : List Ar → List Sl → R (List Sl)
  | [], _ => .ok []
  | .fz f :: r, ρ => (f ρ).bind fun d => (arS r ρ).bind fun l => .ok (.val d :: l)
  | .bw j :: r, ρ => bwK (arS r ρ) ρ[j]?
/-- the slots behind a call -/
def bwSet : List Ar → List Sl → List Sl → List Sl
  | [], _, ρ => ρ
  | .fz _ :: r, _ :: fin, ρ => bwSet r fin ρ
  | .bw j :: r, s :: fin, ρ => bwSet r fin (ρ.set j s)
  | _ :: _, [], ρ => ρ
inductive ArgR (K : PySem.W.Frag) (Φ : Hp) (σ : L2.St) (ρ : List Sl) : List Ar → List Sl → List V → Prop
  | nil : ArgR K Φ σ ρ [] [] []
  | fz {f : Ev D} {d : D} {v : V} {ars : List Ar} {l : List Sl} {vs : List V} : RepD K Φ d v → ArgR K Φ σ ρ ars l vs → ArgR K Φ σ ρ (.fz f :: ars) (.val d :: l) (v :: vs)
  | bw {j : Nat} {d : D} {v : V} {ars : List Ar} {l : List Sl} {vs : List V} : ρ[j]? = some (.own d) → σ[j]? = some (some v) → ArgR K Φ σ ρ ars l vs → ArgR K Φ σ ρ (.bw j :: ars) (.own d :: l) (v :: vs)
section
variable {K : PySem.W.Frag} {Φ Φ' H H' : Hp} {σ : L2.St} {ρ : List Sl}
theorem ArgR.len : ∀ {ars : List Ar} {l : List Sl} {vs : List V}, ArgR K Φ σ ρ ars l vs → l.length = ars.length ∧ vs.length = ars.length
  | _, _, _, .nil => ⟨rfl, rfl⟩
  | _, _, _, .fz _ h => by have := h.len; simp [this.1, this.2]
  | _, _, _, .bw _ _ h => by have := h.len; simp [this.1, this.2]
theorem ArgR.at : ∀ {ars : List Ar} {l : List Sl} {vs : List V} {p : Nat} {s : Sl}, ArgR K Φ σ ρ ars l vs → l[p]? = some s → ∃ v, vs[p]? = some v ∧ ((∃ d, s = .val d ∧ RepD K Φ d v ∧ (∃ f, ars[p]? = some (.fz f))) ∨ ∃ d j, s = .own d ∧ ars[p]? = some (.bw j) ∧ ρ[j]? = some (.own d) ∧ σ[j]? = some (some v))
  | _, _, _, _, _, .nil, e => by simp at e
  | _, _, _, 0, _, .fz h _, e => by simp at e; subst e; exact ⟨_, rfl, .inl ⟨_, rfl, h, _, rfl⟩⟩
  | _, _, _, 0, _, .bw h1 h2 _, e => by simp at e; subst e; exact ⟨_, rfl, .inr ⟨_, _, rfl, rfl, h1, h2⟩⟩
  | _, _, _, p + 1, _, .fz _ h, e => by
    obtain ⟨v, h1, h2⟩ := ArgR.at (p := p) h (by simpa using e)
    exact ⟨v, by simpa using h1, by simpa using h2⟩
  | _, _, _, p + 1, _, .bw _ _ h, e => by
    obtain ⟨v, h1, h2⟩ := ArgR.at (p := p) h (by simpa using e)
    exact ⟨v, by simpa using h1, by simpa using h2⟩
theorem ArgR.atV : ∀ {ars : List Ar} {l : List Sl} {vs : List V} {p j : Nat}, ArgR K Φ σ ρ ars l vs → ars[p]? = some (.bw j) → ∃ v, vs[p]? = some v ∧ σ[j]? = some (some v)
  | _, _, _, _, _, .nil, e => by simp at e
  | _, _, _, 0, _, .fz h _, e => by simp at e
  | _, _, _, 0, _, .bw h1 h2 _, e => by simp at e; subst e; exact ⟨_, rfl, h2⟩
  | _, _, _, p + 1, _, .fz _ h, e => by
    obtain ⟨v, h1, h2⟩ := ArgR.atV (p := p) h (by simpa using e)
    exact ⟨v, by simpa using h1, h2⟩
  | _, _, _, p + 1, _, .bw _ _ h, e => by
    obtain ⟨v, h1, h2⟩ := ArgR.atV (p := p) h (by simpa using e)
    exact ⟨v, by simpa using h1, h2⟩
theorem bwUniq : ∀ {ars : List Ar}, (ars.filterMap Ar.j).Nodup → ∀ {p q j : Nat}, ars[p]? = some (.bw j) → ars[q]? = some (.bw j) → p = q
  | [], _, p, q, j, h, _ => by simp at h
  | a :: ars, hn, p, q, j, h1, h2 => by
    have mem : ∀ {r : Nat}, ars[r]? = some (.bw j) → j ∈ ars.filterMap Ar.j := fun h => List.mem_filterMap.mpr ⟨_, List.mem_of_getElem? h, rfl⟩
    have hn' : (ars.filterMap Ar.j).Nodup := by
      cases a with
      | fz f => simpa [List.filterMap_cons, Ar.j] using hn
      | bw i => simp [List.filterMap_cons, Ar.j] at hn; exact hn.2
    have top : a = .bw j → ∀ {r : Nat}, ars[r]? ≠ some (Ar.bw j) := fun e r h => by
      subst e
      simp only [List.filterMap_cons, Ar.j, List.nodup_cons] at hn
      exact hn.1 (mem h)
    cases p with
    | zero =>
      cases q with
      | zero => rfl
      | succ q => exact absurd (by simpa using h2) (top (by simpa using h1) (r := q))
    | succ p =>
      cases q with
      | zero => exact absurd (by simpa using h1) (top (by simpa using h2) (r := p))
      | succ q => exact congrArg (· + 1) (bwUniq hn' (by simpa using h1) (by simpa using h2))
theorem bwSet_len : ∀ (ars : List Ar) (fin ρ : List Sl), (bwSet ars fin ρ).length = ρ.length
  | [], _, _ => rfl
  | .fz _ :: r, [], _ => rfl
  | .bw _ :: r, [], _ => rfl
  | .fz _ :: r, _ :: fin, ρ => bwSet_len r fin ρ
  | .bw j :: r, s :: fin, ρ => by rw [bwSet, bwSet_len r fin]; simp
theorem bwSet_at : ∀ (ars : List Ar) (fin ρ : List Sl) (i : Nat) (s : Sl), (bwSet ars fin ρ)[i]? = some s → ars.length = fin.length → (ρ[i]? = some s ∧ ∀ p : Nat, ars[p]? ≠ some (Ar.bw i)) ∨ ∃ p : Nat, ars[p]? = some (Ar.bw i) ∧ fin[p]? = some s
  | [], fin, ρ, i, s, h, _ => .inl ⟨h, fun p => by simp⟩
  | .fz _ :: r, [], _, _, _, _, e => by simp at e
  | .bw _ :: r, [], _, _, _, _, e => by simp at e
  | .fz f :: r, x :: fin, ρ, i, s, h, e => by
    rcases bwSet_at r fin ρ i s h (by simpa using e) with ⟨h1, h2⟩ | ⟨p, h1, h2⟩
    · refine .inl ⟨h1, fun p => ?_⟩
      cases p with
      | zero => simp
      | succ p => simpa using h2 p
    · exact .inr ⟨p + 1, by simpa using h1, by simpa using h2⟩
  | .bw j :: r, x :: fin, ρ, i, s, h, e => by
    rcases bwSet_at r fin (ρ.set j x) i s h (by simpa using e) with ⟨h1, h2⟩ | ⟨p, h1, h2⟩
    · by_cases hj : j = i
      · subst hj
        by_cases hl : j < ρ.length
        · rw [List.getElem?_set_self hl] at h1
          exact .inr ⟨0, rfl, by simpa using h1⟩
        · rw [List.getElem?_eq_none (by simpa using hl)] at h1; cases h1
      · rw [List.getElem?_set_ne hj] at h1
        refine .inl ⟨h1, fun p => ?_⟩
        cases p with
        | zero => simp; exact hj
        | succ p => simpa using h2 p
    · exact .inr ⟨p + 1, by simpa using h1, by simpa using h2⟩
theorem ArgR.mono {ars : List Ar} {l : List Sl} {vs : List V} (m : Same Φ Φ') (h : ArgR K Φ σ ρ ars l vs) : ArgR K Φ' σ ρ ars l vs := by
  induction h with
  | nil => exact .nil
  | fz h _ ih => exact .fz (h.mono m) ih
  | bw h1 h2 _ ih => exact .bw h1 h2 ih
theorem ArgR.own {ars : List Ar} {l : List Sl} {vs : List V} (h : ArgR K Φ σ ρ ars l vs) {p : Nat} {a : Addr} (w : OwnAt (vS vs) l p a) : ∃ j, ars[p]? = some (.bw j) ∧ OwnAt σ ρ j a := by
  obtain ⟨h1, d, h2⟩ := w
  obtain ⟨v, e1, z⟩ := h.at h2
  rcases z with ⟨d', e, _⟩ | ⟨d', j, e, e2, e3, e4⟩
  · cases e
  · simp only [vS, List.getElem?_map, e1, Option.map_some] at h1
    cases h1
    exact ⟨j, e2, e4, d', e3⟩
/-- the callee's slots -/
theorem ArgR.rel {ars : List Ar} {l : List Sl} {vs : List V} (h : ArgR K Φ σ ρ ars l vs) (hn : (ars.filterMap Ar.j).Nodup) (r : Rel K Φ H σ ρ) : Rel K Φ H (vS vs) l := by
  refine ⟨r.sub, by simp [h.len.1, h.len.2], fun p d e => ?_, fun p d e => ?_, fun p q a h1 h2 => ?_⟩
  · obtain ⟨v, e1, z⟩ := h.at e
    rcases z with ⟨d', e, hr, _⟩ | ⟨d', j, e, _⟩
    · cases e; exact ⟨v, by simp [e1], hr⟩
    · cases e
  · obtain ⟨v, e1, z⟩ := h.at e
    rcases z with ⟨d', e, _⟩ | ⟨d', j, e, e2, e3, e4⟩
    · cases e
    · cases e
      obtain ⟨a, g1, g2, g3⟩ := r.own j _ e3
      rw [e4] at g1; cases g1
      exact ⟨a, by simp [e1], g2, g3⟩
  · obtain ⟨i, k1, k2⟩ := h.own h1
    obtain ⟨j, k3, k4⟩ := h.own h2
    have := r.sep i j a k2 k4
    subst this
    exact bwUniq hn k1 k3
/-- the caller's slots behind the call, the answer last -/
theorem callBack {ars : List Ar} {l fin : List Sl} {vs : List V} {v : V} {rr : Sl} (h : ArgR K Φ σ ρ ars l vs) (r : Rel K Φ H σ ρ) (s : Stp (Own (vS vs) l) Φ H Φ' H' (Own (vS vs ++ [some v]) (fin ++ [rr]))) (r' : Rel K Φ' H' (vS vs ++ [some v]) (fin ++ [rr])) :
    Rel K Φ' H' (σ ++ [some v]) (bwSet ars fin ρ ++ [rr]) ∧ Stp (Own σ ρ) Φ H Φ' H' (Own (σ ++ [some v]) (bwSet ars fin ρ ++ [rr])) := by
  have hlf : fin.length = ars.length := by
    have := r'.len
    simp at this
    rw [← this, h.len.2]
  have hlv : (vS vs).length = fin.length := by simpa using r'.len
  have hl : (bwSet ars fin ρ).length = ρ.length := bwSet_len _ _ _
  have out : ∀ i a, OwnAt σ ρ i a → (∀ p : Nat, ars[p]? ≠ some (Ar.bw i)) → ¬ Own (vS vs) l a := fun i a h1 h2 ⟨p, w⟩ => by
    obtain ⟨j, k1, k2⟩ := h.own w
    have := r.sep i j a h1 k2
    subst this
    exact h2 p k1
  have inn : ∀ a, Own (vS vs) l a → Own σ ρ a := fun a ⟨p, w⟩ => by
    obtain ⟨j, _, k2⟩ := h.own w
    exact ⟨j, k2⟩
  have sg : ∀ i v', σ[i]? = some v' → i < ρ.length → (σ ++ [some v])[i]? = some v' := fun i v' e hi => by rw [List.getElem?_append_left (by rw [r.len]; exact hi)]; exact e
  /- each slot of the new frame: an old one, or a slot of the callee's -/
  have kind : ∀ i sl, (bwSet ars fin ρ ++ [rr])[i]? = some sl → (i < ρ.length ∧ ρ[i]? = some sl ∧ ∀ p : Nat, ars[p]? ≠ some (Ar.bw i)) ∨ ∃ p, (fin ++ [rr])[p]? = some sl ∧ (vS vs ++ [some v])[p]? = (σ ++ [some v])[i]? ∧ ((i < ρ.length ∧ ars[p]? = some (.bw i)) ∨ (i = ρ.length ∧ p = fin.length)) := fun i sl e => by
    rcases getApp e with e | ⟨hi, e1⟩
    · have hi : i < ρ.length := by rw [← hl]; exact (List.getElem?_eq_some_iff.mp e).1
      rcases bwSet_at ars fin ρ i sl e hlf.symm with ⟨h1, h2⟩ | ⟨p, h1, h2⟩
      · exact .inl ⟨hi, h1, h2⟩
      · obtain ⟨u, k1, k2⟩ := h.atV h1
        have hp : p < fin.length := (List.getElem?_eq_some_iff.mp h2).1
        refine .inr ⟨p, by rw [List.getElem?_append_left hp]; exact h2, ?_, .inl ⟨hi, h1⟩⟩
        rw [List.getElem?_append_left (by rw [hlv]; exact hp), sg i _ k2 hi]
        simp [k1]
    · refine .inr ⟨fin.length, by simp [e1], ?_, .inr ⟨by omega, rfl⟩⟩
      rw [hi, hl, ← hlv, ← r.len]
      simp
  have ownK : ∀ i a, OwnAt (σ ++ [some v]) (bwSet ars fin ρ ++ [rr]) i a → (OwnAt σ ρ i a ∧ ∀ p : Nat, ars[p]? ≠ some (Ar.bw i)) ∨ ∃ p, OwnAt (vS vs ++ [some v]) (fin ++ [rr]) p a ∧ ((i < ρ.length ∧ ars[p]? = some (.bw i)) ∨ (i = ρ.length ∧ p = fin.length)) := fun i a ⟨h1, d, h2⟩ => by
    rcases kind i _ h2 with ⟨hi, k1, k2⟩ | ⟨p, k1, k2, k3⟩
    · rw [List.getElem?_append_left (by rw [r.len]; exact hi)] at h1
      exact .inl ⟨⟨h1, d, k1⟩, k2⟩
    · exact .inr ⟨p, ⟨by rw [k2]; exact h1, d, k1⟩, k3⟩
  have aux : ∀ i j a, (OwnAt σ ρ i a ∧ ∀ p : Nat, ars[p]? ≠ some (Ar.bw i)) → (∃ p, OwnAt (vS vs ++ [some v]) (fin ++ [rr]) p a ∧ ((j < ρ.length ∧ ars[p]? = some (.bw j)) ∨ (j = ρ.length ∧ p = fin.length))) → False := fun i j a ⟨w1, w2⟩ ⟨p, w3, _⟩ => by
    rcases s.own a ⟨p, w3⟩ with z | z
    · exact out i a w1 w2 z
    · obtain ⟨h1, d, h2⟩ := w1
      obtain ⟨a', g1, g2, _⟩ := r.own i d h2
      rw [h1] at g1; cases g1
      obtain ⟨o, ho⟩ := g2.there
      rw [z] at ho; cases ho
  refine ⟨⟨r'.sub, by simp [r.len, hl], fun i d e => ?_, fun i d e => ?_, fun i j a h1 h2 => ?_⟩, ⟨s.mono, fun b o e hn => s.frame b o e fun w => hn (inn b w), fun a ⟨i, w⟩ => ?_, fun b o e => (s.new b o e).imp id (Or.imp (inn b) id)⟩⟩
  · rcases kind i _ e with ⟨hi, k1, k2⟩ | ⟨p, k1, k2, _⟩
    · obtain ⟨u, g1, g2⟩ := r.val i d k1
      exact ⟨u, sg i _ g1 hi, g2.mono s.mono⟩
    · obtain ⟨u, g1, g2⟩ := r'.val p d k1
      exact ⟨u, by rw [← k2]; exact g1, g2⟩
  · rcases kind i _ e with ⟨hi, k1, k2⟩ | ⟨p, k1, k2, _⟩
    · obtain ⟨a, g1, g2, g3⟩ := r.own i d k1
      have no := out i a ⟨g1, d, k1⟩ k2
      refine ⟨a, sg i _ g1 hi, g2.at s.mono fun o ho => s.frame a o ho no, ?_⟩
      cases q : Φ' a with
      | none => rfl
      | some o =>
        rcases s.new a o q with z | z | z
        · rw [g3] at z; cases z
        · exact absurd z no
        · obtain ⟨o', ho⟩ := g2.there
          rw [z] at ho; cases ho
    · obtain ⟨a, g1, g2, g3⟩ := r'.own p d k1
      exact ⟨a, by rw [← k2]; exact g1, g2, g3⟩
  · rcases ownK i a h1 with w1 | ⟨p, w1, w2⟩
    · rcases ownK j a h2 with w3 | w3
      · exact r.sep i j a w1.1 w3.1
      · exact (aux i j a w1 w3).elim
    · rcases ownK j a h2 with w3 | ⟨q, w3, w4⟩
      · exact (aux j i a w3 ⟨p, w1, w2⟩).elim
      · have hpq := r'.sep p q a w1 w3
        subst hpq
        rcases w2 with ⟨_, w2⟩ | ⟨w2, w5⟩
        · rcases w4 with ⟨_, w4⟩ | ⟨_, w6⟩
          · rw [w2] at w4; cases w4; rfl
          · rw [w6, ← hlf.symm, List.getElem?_eq_none (by omega)] at w2; cases w2
        · rcases w4 with ⟨_, w4⟩ | ⟨w4, _⟩
          · rw [w5, List.getElem?_eq_none (by omega)] at w4; cases w4
          · rw [w2, w4]
  · rcases ownK i a w with w1 | ⟨p, w1, _⟩
    · exact .inl ⟨i, w1.1⟩
    · exact (s.own a ⟨p, w1⟩).imp (inn a) id
end
section
variable {X : Cx} {cs : Nat → Addr} {W : WX} {np : Nat} {a e tg : Expr} {es : List Expr} {f : Ev D} {ars : List Ar} {pos p cpos pos' : Pos} {x : Str}
def RunAr (K : PySem.W.Frag) (cs : Nat → Addr) (W : WX) (σ : L2.St) (ρ : List Sl) (ars : List Ar) (Φ H : Hp) (Q : List V → Hp → Prop) : R (List Sl) → Prop
  | .ok l => ∀ Φ' H' vs, Ext Φ H Φ' H' → ArgR K Φ' σ ρ ars l vs → Q vs H'
  | .exc z => ∀ Φ' H' c dd, Ext Φ H Φ' H' → RepX cs Φ' H' z c dd → W c dd σ H'
  | .stuck => False
def tAr (K : PySem.W.Frag) (cs : Nat → Addr) (W : WX) (ars : List Ar) : TA := fun σ H Q => ∃ Φ ρ, Rel K Φ H σ ρ ∧ RunAr K cs W σ ρ ars Φ H Q (arS ars ρ)
/-- arguments -/
def SB (X : Cx) (cs : Nat → Addr) (W : WX) (es : List Expr) (ars : List Ar) : Prop := PA X es (tAr X.K cs W ars)
theorem sb_nil : SB X cs W [] [] := paImp pa_nil fun σ H Q ⟨Φ, ρ, r, q⟩ => q Φ H [] (Ext.refl r.sub) .nil
theorem sb_fz (ha : SD X cs W a f) (hs : SB X cs W es ars) (h : starEach (a :: es) X.env = (false, eval a X.env) :: starEach es X.env := by rfl) : SB X cs W (a :: es) (.fz f :: ars) :=
  paImp (pa_cons ha hs h) fun σ H Q ⟨Φ, ρ, r, q⟩ => by
    refine ⟨Φ, ρ, r, ?_⟩
    simp only [arS] at q
    cases e1 : f ρ with
    | stuck => rw [e1] at q; exact q.elim
    | exc z => rw [e1] at q; exact q
    | ok d =>
      rw [e1] at q
      intro Φ1 H1 v x1 rep
      refine ⟨Φ1, ρ, r.ext x1, ?_⟩
      cases e2 : arS ars ρ with
      | stuck => rw [e2] at q; exact q.elim
      | exc z => rw [e2] at q; exact fun Φ' H' c dd y hx => q Φ' H' c dd (x1.trans y) hx
      | ok l =>
        rw [e2] at q
        exact fun Φ2 H2 vs x2 ra => q Φ2 H2 (v :: vs) (x1.trans x2) (.fz (rep.mono x2.mono) ra)
theorem sb_bw (j : Nat) {y : Str} (hs : SB X cs W es ars) (hN : X.N[j]? = some y := by rfl) (hv : Vis X.env.scope y := by first | exact Or.inl rfl | exact Or.inr (Or.inl rfl) | exact Or.inr (Or.inr rfl)) (hd : (y == ("__debug__" : Str)) = false := by decide) (hcd : (y == ("__classdict__" : Str)) = false := by decide)
    (h : starEach (.Name y p :: es) X.env = (false, eval (.Name y p) X.env) :: starEach es X.env := by rfl) : SB X cs W (.Name y p :: es) (.bw j :: ars) :=
  paImp (pa_cons (pe_var hN hv hd hcd) hs h) fun σ H Q ⟨Φ, ρ, r, q⟩ => by
    simp only [arS, bwK] at q
    split at q
    next d e1 =>
      obtain ⟨b, h1, h2, h3⟩ := r.own j d e1
      refine ⟨_, h1, Φ, ρ, r, ?_⟩
      cases e2 : arS ars ρ with
      | stuck => rw [e2] at q; exact q.elim
      | exc z => rw [e2] at q; exact q
      | ok l =>
        rw [e2] at q
        exact fun Φ2 H2 vs x2 ra => q Φ2 H2 (_ :: vs) x2 (.bw e1 h1 ra)
    next => exact q.elim
theorem Rel.init {K : PySem.W.Frag} {Φ H : Hp} {σ : L2.St} {ρ : List Sl} {v : Option V} {s : Sl} (r : Rel K Φ H (σ ++ [v]) (ρ ++ [s])) : Rel K Φ H σ ρ := by
  have hl : σ.length = ρ.length := by simpa using r.len
  refine r.pick hl id (fun _ _ e => e) fun j s' e _ => ?_
  have hj : j < ρ.length := (List.getElem?_eq_some_iff.mp e).1
  exact ⟨by rw [List.getElem?_append_left (by exact hj)]; exact e, by rw [List.getElem?_append_left (by rw [hl]; exact hj)]; rfl⟩
theorem ownInit {σ : L2.St} {ρ : List Sl} {v : Option V} {s : Sl} (hl : σ.length = ρ.length) {a : Addr} (w : Own σ ρ a) : Own (σ ++ [v]) (ρ ++ [s]) a := by
  obtain ⟨j, h1, d, h2⟩ := w
  have hj : j < ρ.length := (List.getElem?_eq_some_iff.mp h2).1
  exact ⟨j, by rw [List.getElem?_append_left (by rw [hl]; exact hj)]; exact h1, d, by rw [List.getElem?_append_left hj]; exact h2⟩
def callR (k : Sl → List Sl → RS) (ars : List Ar) (ρ : List Sl) : RF → RS
  | .ok r fin => k r (bwSet ars fin ρ)
  | .exc z fin => .exc z (bwSet ars fin ρ)
  | .stuck => .stuck
def callS (ars : List Ar) (G : Fn) (k : Sl → List Sl → RS) : Es := fun ρ => tryE ρ (arS ars ρ) fun l => callR k ars ρ (G l)
theorem runCall {n : Nat} {G : Fn} {k : Sl → List Sl → RS} {D' : Ends} {σ : L2.St} {ρ : List Sl} {Φ H : Hp} {Qv : VK} (hn : ars.length = n) (hd : (ars.filterMap Ar.j).Nodup) (r : Rel X.K Φ H σ ρ) (q : RunS X.K cs W np D' (Own σ ρ) σ Φ H (callS ars G k ρ))
    (c : ∀ rr fin v Φ2 H2, Rel X.K Φ2 H2 (σ ++ [some v]) (bwSet ars fin ρ ++ [rr]) → Stp (Own σ ρ) Φ H Φ2 H2 (Own (σ ++ [some v]) (bwSet ars fin ρ ++ [rr])) → RunS X.K cs W np D' (Own σ ρ) σ Φ H (k rr (bwSet ars fin ρ)) → Qv v H2) :
    tAr X.K cs W ars σ H fun vs H1 => spG X.K cs n G vs H1 Qv (WE W σ) := by
  refine ⟨Φ, ρ, r, ?_⟩
  unfold callS at q
  cases e1 : arS ars ρ with
  | stuck => rw [e1] at q; exact q.elim
  | exc z => rw [e1] at q; exact fun Φ' H' c dd y hx => q Φ' H' σ c dd (Stp.ofExt y fun _ p => .inl p) (r.ext y) rfl hx
  | ok l =>
    rw [e1] at q
    intro Φ1 H1 vs x1 ra
    have ra1 : ArgR X.K Φ1 σ ρ ars l vs := ra
    refine ⟨by rw [ra.len.2]; exact hn, Φ1, l, ra1.rel hd (r.ext x1), ?_⟩
    have s1 : Stp (Own σ ρ) Φ H Φ1 H1 (Own σ ρ) := Stp.ofExt x1 fun _ p => .inl p
    cases e2 : G l with
    | stuck => simp only [tryE, callR, e2] at q; exact q.elim
    | exc z fin =>
      simp only [tryE, callR, e2] at q
      intro Φ2 H2 c dd s2 r2 hx
      have r3 := r2.push (d := .non) (v := .non) .non
      have s3 : Stp (Own (vS vs) l) Φ1 H1 Φ2 H2 (Own (vS vs ++ [some .non]) (fin ++ [.val .non])) := ⟨s2.mono, s2.frame, fun b p => s2.own b (by
        obtain ⟨j, h1, d, h2⟩ := p
        rcases getApp h2 with h2 | ⟨_, h3⟩
        · rw [List.getElem?_append_left (by rw [r2.len]; exact (List.getElem?_eq_some_iff.mp h2).1)] at h1
          exact ⟨j, h1, d, h2⟩
        · cases h3), s2.new⟩
      obtain ⟨R, S⟩ := callBack ra1 (r.ext x1) s3 r3
      have hl := R.init.len
      exact q Φ2 H2 σ c dd (s1.trans ⟨S.mono, S.frame, fun b p => S.own b (ownInit hl p), S.new⟩) R.init rfl hx
    | ok rr fin =>
      simp only [tryE, callR, e2] at q
      intro Φ2 H2 v s2 r2
      obtain ⟨R, S⟩ := callBack ra1 (r.ext x1) s2 r2
      exact c rr fin v Φ2 H2 R (s1.trans S) q
abbrev kDrop : Sl → List Sl → RS := fun _ ρ => .nx ρ
def kOwn (i : Nat) : Sl → List Sl → RS := fun r ρ => match r with
  | .own d => .nx (ρ.set i (.own d))
  | _ => .stuck
def kVal (ft : D → R (List (Nat × D))) : Sl → List Sl → RS := fun r ρ => match r with
  | .val d => tryE ρ (ft d) fun as => .nx (setS ρ as)
  | _ => .stuck
section
variable {k n : Nat} {fa : Addr} {fd : FuncData} {ps : List Str} {G : Fn}
theorem ss_callE (F : FnOk X.prog X.w X.K X.mg X.base (L2.CX X.prog X.w) k fa fd ps (spG X.K cs n G)) (hr : Room k X.A) (hg : Gl X x) (hm : X.mg x = some (.ref fa)) (hk : PySem.W.keepIn X.K (.ref fa) = true) (hb : Binds X.K fd ps [])
    (tk : Takes X W) (ha : SB X cs W (e :: es) ars) (hl : ars.length = n) (hd : (ars.filterMap Ar.j).Nodup) (hdb : (x == ("__debug__" : Str)) = false := by decide) (he : starEach (e :: es) X.env = (false, eval e X.env) :: starEach es X.env := by rfl) (hpl : (backTo cpos (starEach es X.env)).any (·.1) = false := by rfl)
    (hsw : swapsWith (.Call (.Name x p) (e :: es) [] cpos) none pos.line X.env = pure false := by rfl) :
    SS X cs W np (.Expr (.Call (.Name x p) (e :: es) [] cpos) pos) (callS ars G kDrop) :=
  psImp (ps_expr (pe_callS F hr hg hm hk hb (fun σ => passAt tk σ) ha hdb he hpl) hsw) fun D' σ H ⟨Φ, ρ, r, q⟩ => runCall hl hd r q fun rr fin v Φ2 H2 R S q =>
    q Φ2 H2 σ ⟨S.mono, S.frame, fun b p => S.own b (ownInit R.init.len p), S.new⟩ R.init rfl
theorem ss_callV {gt : TG} {ft : D → R (List (Nat × D))} (t : Tgt X tg gt ft) (hnp : ∀ d as, ft d = .ok as → ∀ p ∈ as, np ≤ p.1) (hfx : ∀ d z, ft d ≠ .exc z) (F : FnOk X.prog X.w X.K X.mg X.base (L2.CX X.prog X.w) k fa fd ps (spG X.K cs n G)) (hr : Room k X.A) (hg : Gl X x) (hm : X.mg x = some (.ref fa)) (hk : PySem.W.keepIn X.K (.ref fa) = true) (hb : Binds X.K fd ps [])
    (tk : Takes X W) (ha : SB X cs W (e :: es) ars) (hl : ars.length = n) (hd : (ars.filterMap Ar.j).Nodup) (hdb : (x == ("__debug__" : Str)) = false := by decide) (he : starEach (e :: es) X.env = (false, eval e X.env) :: starEach es X.env := by rfl) (hpl : (backTo cpos (starEach es X.env)).any (·.1) = false := by rfl)
    (hs : swapsWithSole [tg] (.Call (.Name x p) (e :: es) [] cpos) pos.line X.env = pure false := by rfl) (hw : swappedStores [tg] (.Call (.Name x p) (e :: es) [] cpos) X.env = pure none := by rfl)
    (h1 : (assignEach [tg] X.env).map (·.2) = [assign tg X.env] := by rfl) :
    SS X cs W np (.Assign [tg] (.Call (.Name x p) (e :: es) [] cpos) pos) (callS ars G (kVal ft)) :=
  psImp (ps_asg (pe_callS F hr hg hm hk hb (fun σ => passAt tk σ) ha hdb he hpl) t.pg hs hw h1) fun D' σ H ⟨Φ, ρ, r, q⟩ => runCall hl hd r q fun rr fin v Φ2 H2 R S q => by
    unfold kVal at q
    split at q
    next d =>
      have S' : Stp (Own σ ρ) Φ H Φ2 H2 (Own σ (bwSet ars fin ρ)) := ⟨S.mono, S.frame, fun b p => S.own b (ownInit R.init.len p), S.new⟩
      exact runAsg t hnp hfx R.init R.last (RunS.step S' rfl q)
    next => exact q.elim
end
end
end PL
set_option Elab.async false
set_option linter.all false
set_option maxRecDepth 100000
namespace PL
set_option autoImplicit false
open PySem PySem.Spec PyProof.Rows L2
def leS (a b : List Nat) : Prop := ltCps b a = false
/-- one order of the items of a list, by choice -/
noncomputable def sortP {α : Type} (P : List α → Prop) : List α := open Classical in if h : ∃ ys : List α, P ys then Classical.choose h else []
noncomputable def sortOf {α : Type} (le : α → α → Prop) (xs : List α) : List α := sortP fun ys : List α => ys.Perm xs ∧ ys.Pairwise le
def keyD : Kc → D
  | .inl i => .int i
  | .inr s => .str s
section
variable {X : Cx} {cs : Nat → Addr} {W : WX} {np : Nat} {a b c e o i tg : Expr} {fa fb fc fe fi : Ev D} {pos p apos cpos pos' : Pos} {es : List Expr} {fs : Ev (List D)}
theorem RepKs.keys {K : PySem.W.Frag} {Φ : Hp} : ∀ {es : List (Kc × D)} {kvs : List (Key × V)}, RepKs K Φ es kvs → RepDs K Φ (es.map fun q => keyD q.1) (kvs.map fun kv => kV kv.1)
  | _, _, .nil => .nil
  | _, _, .cons (k := k) h r => by
    refine .cons ?_ (RepKs.keys r)
    cases k with
    | inl i => exact .int i
    | inr s => exact .str s _ rfl
/-- list(x) -/
def gListA : List D → R D
  | [.dic es] => .ok (.lst (es.map fun q => keyD q.1))
  | ds => gListOf ds
def gInsert : GL
  | ds, [.int i, d] => if ds.length < LIM ∧ 0 ≤ i ∧ i < LIM then .ok (.non, ds.take i.toNat ++ [d] ++ ds.drop i.toNat) else .stuck
  | _, _ => .stuck
def gRevL : D → R D
  | .lst ds => .ok (.lst ds.reverse)
  | _ => .stuck
def gMaxDf (d : D) (c : D) : R D := match d with
  | .lst ds => (oR (D.ints ds)).bind fun ns => .ok (if ns = [] then c else .int (maxI ns))
  | _ => .stuck
def eMaxDf (fa fc : Ev D) : Ev D := fun ρ => (fa ρ).bind fun d => (fc ρ).bind fun z => gMaxDf d z
end
end PL
set_option Elab.async false
set_option linter.all false
set_option maxRecDepth 100000
namespace PL
set_option autoImplicit false
open PySem PySem.Spec PyProof.Rows L2
/-- the first place of a text -/
def posS : List (List Nat) → List Nat → Option Nat
  | [], _ => none
  | y :: ys, x => if y = x then some 0 else (posS ys x).map (· + 1)
theorem posS_spec : ∀ {ys : List (List Nat)} {x : List Nat} {j : Nat}, posS ys x = some j → ys[j]? = some x ∧ ∀ m, m < j → ys[m]? ≠ some x
  | [], _, _, h => by cases h
  | y :: ys, x, j, h => by
    unfold posS at h
    split at h
    next e =>
      cases h
      exact ⟨by rw [e]; rfl, fun m hm => absurd hm (Nat.not_lt_zero _)⟩
    next e =>
      cases h1 : posS ys x with
      | none => rw [h1] at h; cases h
      | some i =>
        rw [h1] at h
        cases h
        obtain ⟨h2, h3⟩ := posS_spec h1
        refine ⟨by simpa using h2, fun m hm => ?_⟩
        cases m with
        | zero => simpa using e
        | succ m =>
          have hm' : m + 1 < i + 1 := hm
          simpa using h3 m (by omega)
theorem posS_mem : ∀ {ys : List (List Nat)} {x : List Nat}, x ∈ ys → ∃ j, posS ys x = some j ∧ j < ys.length
  | [], _, h => by cases h
  | y :: ys, x, h => by
    unfold posS
    by_cases e : y = x
    · exact ⟨0, by rw [if_pos e], by simp⟩
    · rcases List.mem_cons.mp h with h | h
      · exact absurd h.symm e
      · obtain ⟨j, h1, h2⟩ := posS_mem h
        exact ⟨j + 1, by rw [if_neg e, h1]; rfl, by simpa using h2⟩
def D.nms : D → Option (List (List Nat))
  | .tup (d :: ds) => D.strs (d :: ds)
  | _ => none
def gIndex (ss : List (List Nat)) : D → R D
  | .str x => (oR (posS ss x)).bind fun j => .ok (.int (j : Nat))
  | _ => .stuck
def eIndex (fa fe : Ev D) : Ev D := fun ρ => (fa ρ).bind fun d => (oR d.nms).bind fun ss => (fe ρ).bind (gIndex ss)
end PL
set_option Elab.async false
set_option linter.all false
set_option maxRecDepth 100000
namespace PL
set_option autoImplicit false
open PySem PySem.Spec PyProof.Rows L2
section
variable {X : Cx} {cs : Nat → Addr} {W : WX} {a b : Expr} {fa fb : Ev D} {pos : Pos}
def gIsB : D → D → R Bool
  | .bl x, .bl y => .ok (x == y)
  | _, _ => .stuck
def gNotB : D → D → R Bool
  | .bl x, .bl y => .ok (!(x == y))
  | _, _ => .stuck
end
end PL
set_option Elab.async false
set_option linter.all false
set_option maxRecDepth 100000
namespace PL
set_option autoImplicit false
open PySem PySem.Spec PyProof.Rows L2
section
variable {X : Cx} {cs : Nat → Addr} {W : WX} {e : Expr}
def lendT (i : Nat) (f : Ev Bool) : Ev Bool := fun ρ => f (frzAt ρ i)
def lendD (i : Nat) (f : Ev D) : Ev D := fun ρ => (f (frzAt ρ i)).bind fun d => if d.flat = true then .ok d else .stuck
theorem Ext.drop {Φ H Φ1 Φ' H' : Hp} (s : Same Φ H) (x : Ext Φ1 H Φ' H') : Ext Φ H Φ H' := ⟨Same.refl _, x.heap, s.trans x.heap, fun _ _ h => .inl h⟩
theorem RepD.drop {K : PySem.W.Frag} {Φ Φ' : Hp} {d : D} {v : V} (h : RepD K Φ d v) (f : d.flat = true) : RepD K Φ' d v := by
  cases h <;> first | cases f; done | skip
  · exact .non
  · exact .bl _
  · exact .int _
  · rename_i h; exact .str _ _ h
theorem sd_lend (i : Nat) {f : Ev D} (h : SD X cs W e f) : SD X cs W e (lendD i f) := peImp h fun σ H Q ⟨Φ, ρ, r, q⟩ => by
  obtain ⟨Φ', r', _⟩ := r.frz i
  refine ⟨Φ', _, r', ?_⟩
  unfold lendD at q
  cases e : f (frzAt ρ i) with
  | ok a =>
    rw [e] at q
    simp only [R.bind] at q
    split at q
    next hf => exact fun Φ2 H2 b x y => q Φ H2 b (Ext.drop r.sub x) (RepD.drop y hf)
    next => exact q.elim
  | exc z => rw [e] at q; exact fun Φ2 H2 c dd x y => q Φ H2 c dd (Ext.drop r.sub x) y
  | stuck => rw [e] at q; exact q
end
end PL
set_option Elab.async false
set_option linter.all false
set_option maxRecDepth 100000
namespace PL
set_option autoImplicit false
open PySem PySem.Spec PyProof.Rows L2
def D.flatL : D → Bool
  | .lst ds => ds.all D.flat
  | _ => false
section
variable {X : Cx} {cs : Nat → Addr} {W : WX} {e a b : Expr} {fa fb : Ev D} {pos : Pos}
def gPowW : D → D → R D := gInt fun i j => if 0 ≤ j ∧ j ≤ 1000 ∧ i.natAbs < 2 ^ 10000 then .ok (.int (i ^ j.toNat)) else .stuck
def lendN (i : Nat) (f : Ev D) : Ev D := fun ρ => (f (frzAt ρ i)).bind fun d => if d.flatL = true then .ok d else .stuck
end
end PL
set_option Elab.async false
set_option linter.all false
set_option maxRecDepth 100000
namespace PL
set_option autoImplicit false
open PySem PySem.Spec PyProof.Rows L2
/-- the answer of isinstance of an exception of class c: 11 is ValueError -/
def subX (c j : Nat) : Bool := j == 0 || j == 11 || c == j
/-- what the written part says of the classes -/
structure XSub (K : PySem.W.Frag) : Prop where
  kit : ∀ c j, clsOf K c ≠ 0 → clsOf K j ≠ 0 → PySem.W.kitOne K (.ref (clsOf K c)) (.ref (clsOf K j)) = some (subX c j)
  kitV : ∀ c, clsOf K c ≠ 0 → PySem.W.kitOne K (.ref (clsOf K c)) (.type "ValueError") = some true
  non : ∀ j, clsOf K j ≠ 0 → PySem.W.kitOne K (.type "NoneType") (.ref (clsOf K j)) = some false
  nonV : PySem.W.kitOne K (.type "NoneType") (.type "ValueError") = some false
  exm : ∀ c, clsOf K c ≠ 0 → clsOf K 0 ≠ 0 → PySem.W.exmOne K (.ref (clsOf K c)) (.ref (clsOf K 0)) = some true
  ex : ∀ c, clsOf K c ≠ 0 → ExcC K (clsOf K c)
def chkE (K : PySem.W.Frag) (C : Addr) : Bool :=
  decide (PySem.W.findIn K (.ref C) "__getattribute__" = some (some (.builtin "BaseException.__getattribute__"))) &&
  decide (PySem.W.findIn K (.ref C) "__getattr__" = some none) &&
  decide (PySem.W.subIn K (.ref C) (.type "BaseException") = some true) &&
  PySem.W.hasDictIn K C &&
  decide (PySem.W.findIn K (.ref C) "__class__" = some (some (.builtin "object.__class__"))) &&
  decide (PySem.W.specialIn K (.builtin "object.__class__") "__get__" = some (some (.builtin "getset_descriptor.__get__"))) &&
  decide (PySem.W.takesIn K (.builtin "object.__class__") = some true) &&
  decide (PySem.W.mroIn K C (.type "object") = some true)
theorem chkE_ok {K : PySem.W.Frag} {C : Addr} (h : chkE K C = true) : ExcC K C := by
  simp only [chkE, Bool.and_eq_true, decide_eq_true_eq] at h
  obtain ⟨⟨⟨⟨⟨⟨⟨h1, h2⟩, h3⟩, h4⟩, h5⟩, h6⟩, h7⟩, h8⟩ := h
  exact ⟨h1, h2, h3, h4, h5, h6, h7, h8⟩
def chkX (K : PySem.W.Frag) : Bool :=
  decide (clsOf K 11 = 0) && decide (PySem.W.kitOne K (.type "NoneType") (.type "ValueError") = some false) &&
  (List.range 11).all fun c => clsOf K c == 0 || (decide (PySem.W.kitOne K (.ref (clsOf K c)) (.type "ValueError") = some true) && decide (PySem.W.kitOne K (.type "NoneType") (.ref (clsOf K c)) = some false) &&
    (clsOf K 0 == 0 || decide (PySem.W.exmOne K (.ref (clsOf K c)) (.ref (clsOf K 0)) = some true)) && chkE K (clsOf K c) &&
    (List.range 11).all fun j => clsOf K j == 0 || decide (PySem.W.kitOne K (.ref (clsOf K c)) (.ref (clsOf K j)) = some (subX c j)))
theorem cls_hi {K : PySem.W.Frag} (h : clsOf K 11 = 0) {c : Nat} (hc : clsOf K c ≠ 0) : c < 11 := by
  by_cases q : c < 11
  · exact q
  · exfalso
    apply hc
    have e : nmX c = nmX 11 := by
      obtain ⟨d, rfl⟩ : ∃ d, c = d + 11 := ⟨c - 11, by omega⟩
      rfl
    unfold clsOf at h ⊢
    rw [e]; exact h
theorem chkX_ok {K : PySem.W.Frag} (h : chkX K = true) : XSub K := by
  simp only [chkX, Bool.and_eq_true, decide_eq_true_eq, List.all_eq_true, Bool.or_eq_true, beq_iff_eq, List.mem_range] at h
  obtain ⟨⟨h0, h1⟩, h2⟩ := h
  have key := fun c (hc : clsOf K c ≠ 0) => (h2 c (cls_hi h0 hc)).resolve_left hc
  exact ⟨fun c j hc hj => ((key c hc).2 j (cls_hi h0 hj)).resolve_left hj, fun c hc => (key c hc).1.1.1.1, fun c hc => (key c hc).1.1.1.2, h1, fun c hc h0' => (key c hc).1.1.2.resolve_left h0', fun c hc => chkE_ok (key c hc).1.2⟩
/-- a class that may be raised -/
structure XRaise (K : PySem.W.Frag) (mg : Str → Option Value) (c : Nat) : Prop where
  here : clsOf K c ≠ 0
  mg : mg (nmX c) = some (.ref (clsOf K c))
  keep : PySem.W.keepIn K (.ref (clsOf K c)) = true
  own : ∃ bmB newId initId B, ExcBaseFacts B newId initId bmB ∧ PySem.W.excIn K (clsOf K c) bmB newId = true
  sub : PySem.W.subIn K (.ref (clsOf K c)) (.type "BaseException") = some true
  ty : PySem.W.typeIn K (.ref (clsOf K c)) = some (.type "type")
section
variable {X : Cx} {W : WX} {np : Nat} {pos pos2 p p1 p2 p3 pos' : Pos}
def raiseS (c : Nat) : Es := fun ρ => .exc ⟨c, []⟩ ρ
theorem ss_raise {x m : Str} {j : Nat} (c : Nat) (hx : x = nmX c) (hc : X.calm = true) (tk : Takes X W) (F : XRaise X.K X.mg c) (hg : Gl X x) (hdb : (x == ("__debug__" : Str)) = false := by decide) :
    SS X (clsOf X.K) W np (.Raise (some (.Call (.Name x p) [.Constant (.str m) j p2] [] pos)) none pos2) (raiseS c) := by
  subst hx
  obtain ⟨bmB, newId, initId, B, F1, q1⟩ := F.own
  exact psImp (ps_raise hc tk (pmk_own F1 q1 F.mg F.keep (raises_own F.sub F.ty) hg hdb)) fun D σ H ⟨Φ, ρ, r, q⟩ =>
    q Φ H σ _ _ (Stp.refl fun _ z => z) r rfl ⟨rfl, rfl, rfl, F.here⟩
end
section
variable {X : Cx} {pins : List (Addr × Obj)} {σ : L2.St} {H : Hp} {s : Shared}
abbrev HX (oe : Obj) : HO := .frz oe (.ext fun _ => True)
theorem Inv.adopt {a : Addr} {oe : Obj} (I : Inv X pins σ H s) (ha : s.heap.get? a = some oe) (hd : ∃ vs, oe.data = .fields vs) (na : H a = none) (nL : a ≠ X.env.locals) (np : ∀ p ∈ X.pn ++ pins, p.1 ≠ a)
    (nC : ∀ x c, X.env.cells.lookup x = some c → c ≠ a) (fr : ∀ o, X.s_0.heap.get? a = some o → a ∈ X.ex) : Inv X pins σ (upd H a (HX oe)) s := by
  have ne : ∀ b u, H b = some u → b ≠ a := fun b u e => ne_of_none e na
  refine ⟨I.ok, I.os, I.bare, ⟨I.base.keep, I.base.slot, fun b o e n hx => ?_, I.base.there, fun b xs e => ?_, fun b o u e => ?_, fun b ps e => ?_⟩, I.loc, I.cell, ?_, fun x c e => ?_, fun p hp => ?_, fun b u e => ?_, I.len⟩
  · have hb : b ≠ a := fun z => by subst z; exact hx (fr o e)
    rw [upd_ne hb]; exact I.base.free b o e n hx
  · have z := I.base.tups b xs e
    rw [upd_ne (ne _ _ z)]; exact z
  · have z := I.base.frzs b o u e
    rw [upd_ne (ne _ _ z)]; exact z
  · obtain ⟨more, z⟩ := I.base.tbls b ps e
    exact ⟨more, by rw [upd_ne (ne _ _ z)]; exact z⟩
  · rw [upd_ne (Ne.symm nL)]; exact I.free
  · rw [upd_ne (nC x c e)]; exact I.freeC x c e
  · obtain ⟨q1, q2, q3⟩ := I.pin p hp
    exact ⟨q1, by rw [upd_ne (np p hp)]; exact q2, q3⟩
  · by_cases hb : b = a
    · subst hb
      rw [upd_same] at e
      cases e
      exact ⟨ha, trivial, ⟨oe, ha⟩, fun _ _ _ _ => trivial⟩
    · rw [upd_ne hb] at e
      exact (I.hok b u e).stay (fun _ _ _ q => q) (fun c q => by rw [upd_ne (ne _ _ q)]; exact q) fun c xs q => by rw [upd_ne (ne _ _ q)]; exact q
end
/-- what the clause 'except x as n' wishes: the exception stays known -/
def wKeep (K : PySem.W.Frag) (c : Value) (i : Nat) (ts : Addr → Value → Option Addr → TS) (Wout : WX) (D : Ends) : WX := fun cls d σ H =>
  ∃ b, PySem.W.exmOne K cls c = some b ∧ (b = true → ∀ a, H a = none → ts a cls d { nx := fun σ' H' => ∀ oe, Zc cls d oe → (∃ vs, oe.data = .fields vs) → H' a = none → D.nx (σ'.set i none) (upd H' a (HX oe)), rt := fun _ _ => False, bk := fun _ _ => False, ct := fun _ _ => False } (σ.set i (some (.ref a))) H) ∧
    (b = false → Wout cls d σ H)
section
variable {X : Cx} {x n : Str} {c : Value} {i : Nat} {body suite : List Stmt} {b₀ : Stmt} {np pos pos' : Pos} {tb : WX → TS} {ts : Addr → Value → Option Addr → TS} {Wout : WX}
theorem ps_try_keep (hs : X.stack = X.env :: X.outer) (hf : X.env.frame = some X.env.locals) (hN : X.N.Nodup) (hi : X.N[i]? = some n) (hln : X.env.kindOf n = some .local) (hc : Names X x c) (tk : Takes X Wout)
    (hb : ∀ (W : WX) (pn : List (Addr × Obj)) (xe : Value → Shared → Prop), Takes (X.tr pn xe) W → PassesOwn (model X.prog X.w) X.A X.env xe → PSs (X.tr pn xe) body (tb W))
    (hsu : ∀ (a : Addr) (oe : Obj) (cls : Value) (d : Option Addr) (pn : List (Addr × Obj)), Zc cls d oe → (∃ vs, oe.data = .fields vs) → PSs (X.suite a ((a, oe) :: pn)) (b₀ :: suite) (ts a cls d)) :
    PS X (.Try body [.ExceptHandler (some (.Name x np)) (some n) (b₀ :: suite) pos'] [] [] pos) (fun D σ H => tb (wKeep X.K c i ts Wout D) D σ H) := by
  refine ⟨fun pins s σ H D I h => ?_⟩
  have ok := I.ok
  have hfr : X.A.frames = some (X.env :: X.outer) := by rw [ok.frames, hs]
  have hloc : Loc X.env.scope n := .inl hln
  refine wpAny_Try_except ?_
  refine wpAny_mono ((hb (wKeep X.K c i ts Wout D) (X.pn ++ pins) (fun e s₁ => wpAny (model X.prog X.w) X.A (noteFrame e X.env) (fun _ s₂ => wpAny (model X.prog X.w) X.A (setFlight e none) (fun _ s₃ =>
    wpAny (model X.prog X.w) X.A (handleBy e X.env [.ExceptHandler (some (.Name x np)) (some n) (b₀ :: suite) pos']) (SP X pins D) X.xe s₃) X.xe s₂) X.xe s₁) (fun u s' xx => ?_) PassesOwn.looking).run [] s σ H D (I.toTry _) h) (fun f s1 hsp => ?_) (fun e s1 he => he)
  · -- the catch
    obtain ⟨a, B, sI, pins', σ', H', cls, d, rfl, J', nb, up, sky, na, os, ag, b, hb1, hyes, hno⟩ := xx
    have J : Inv X pins σ' H' sI := J'.ofTry ok
    have sky' : Sky B (X.env :: X.outer) a (Zc cls d) X.env.locals s'.heap := by rw [← hs]; exact sky
    show wpAny (model X.prog X.w) X.A (noteFrame (.ref a) X.env) _ _ _
    refine Sky.land Zc.steady hfr hf sky' fun h3 fl3 up3 => ?_
    have J3 : Inv X pins σ' H' { s' with heap := h3 } := J.landed nb fl3.1 (up.trans up3) os ag
    obtain ⟨oe3, vs3, he3, hz3, hd3⟩ := fl3.there
    have notFr : ∀ {h : Heap} {o : Obj} {vs : Array Value}, h.FunFrames B (X.env :: X.outer) → h.get? a = some o → o.data = .fields vs → a ∉ frs (X.env :: X.outer) := fun {h o vs} ff e dd hm => by
      obtain ⟨_, o', e', hnf⟩ := ff.mem hm
      rw [e] at e'; cases e'
      exact hnf _ dd
    have nfr := notFr fl3.2.2.1 he3 hd3
    have nL : a ≠ X.env.locals := fun z => nfr (List.mem_filterMap.mpr ⟨X.env, List.mem_cons_self, by rw [hf, z]⟩)
    have nF : a ∉ X.fs := fun hm => by
      obtain ⟨e, he, q⟩ := List.mem_filterMap.mp hm
      exact nfr (List.mem_filterMap.mpr ⟨e, List.mem_cons_of_mem _ he, q⟩)
    have hBa : B.get? a = none := fl3.2.1
    have hIa : sI.heap.get? a = none := by
      cases q : sI.heap.get? a with
      | none => rfl
      | some o =>
        have := nb a o q (by rw [hs]; exact nfr)
        rw [hBa] at this; cases this
    have npA : ∀ p ∈ X.pn ++ pins, p.1 ≠ a := fun p hp z => by
      have := (J.pin p hp).1
      rw [z, hIa] at this; cases this
    have nCA : ∀ y c', X.env.cells.lookup y = some c' → c' ≠ a := fun y c' e z => by
      obtain ⟨v, hv⟩ := J.cell y c' e
      obtain ⟨o, ho, _⟩ := hv
      rw [z, hIa] at ho; cases ho
    have frA : ∀ o, X.s_0.heap.get? a = some o → a ∈ X.ex := fun o e => by
      by_cases hx : a ∈ X.ex
      · exact hx
      · obtain ⟨o', e'⟩ := J.base.there a o e hx
        rw [hIa] at e'; cases e'
    have S3 := J3.suite he3 hd3 na nL nF
    refine wpAny_handleBy_cons (codeAny_handlers_test ?_) (by intro q; cases q)
    have LT : PySem.W.Looks (model X.prog X.w) h3 (typeOf (.ref a)) cls := fun A Q E s k q => wpAny_typeOf_ref (k _ _ he3) (by rw [hz3.1]; exact q)
    have LM := PySem.W.exm_one (M := model X.prog X.w) (J3.kIn) LT hb1
    have test : ∀ {Q : Value → Shared → Prop} {E : Value → Shared → Prop}, Q c { s' with heap := h3 } → wpAny (model X.prog X.w) (X.A.mark (some (.ref a))) (eval (.Name x np) X.env) Q E { s' with heap := h3 } := fun {Q E} q => by
      obtain ⟨hg, hdbg, hm | ⟨hm, hv, hnn⟩⟩ := hc
      · exact ld_glob (X := X.suite a ((a, oe3) :: (X.pn ++ pins))) S3 hg hm q hdbg
      · exact ld_blt (X := X.suite a ((a, oe3) :: (X.pn ++ pins))) S3 hg hm hv q hnn hdbg
    refine test (LM.here ?_)
    cases b with
    | true =>
      refine codeAny_handlers_suite_as ?_
      refine HandSPX.lands_againZ fl3 fun h4 fl4 up4 => ?_
      have J4 : Inv X pins σ' H' { s' with heap := h4 } := J.landed nb fl4.1 ((up.trans up3).trans up4) os ag
      obtain ⟨oe4, vs4, he4, hz4, hd4⟩ := fl4.there
      have S4 := J4.suite he4 hd4 na nL nF
      refine store_ok (X := X.suite a ((a, oe4) :: (X.pn ++ pins))) (v := .ref a) S4 hN hi hloc rfl (fun s5 S5 => ?_) (.inr hln)
      refine wpAny_mono ((hsu a oe4 cls d (X.pn ++ pins) hz4 ⟨_, hd4⟩).run [] s5 _ H' _ S5 (hyes rfl a na)) (fun f s6 hsp => ?_) (fun _ _ z => False.elim z)
      cases f with
      | next =>
        obtain ⟨σ6, H6, S6, q6⟩ := hsp
        obtain ⟨k1, k2, _⟩ := S6.pin (a, oe4) (List.mem_append_left _ List.mem_cons_self)
        have J6 : Inv X pins σ6 H6 s6 := S6.unsuite ok
        have A6 : Inv X pins σ6 (upd H6 a (HX oe4)) s6 := Inv.adopt J6 k1 ⟨_, hd4⟩ k2 nL npA nCA frA
        exact gone_ok A6 hN hi hln fun s7 J7 => ⟨_, _, J7, q6 oe4 hz4 ⟨_, hd4⟩ k2⟩
      | brk =>
        obtain ⟨σ6, H6, S6, q6⟩ := hsp
        exact q6.elim
      | cont =>
        obtain ⟨σ6, H6, S6, q6⟩ := hsp
        exact q6.elim
      | ret u =>
        obtain ⟨v6, σ6, H6, S6, r6, q6⟩ := hsp
        exact q6.elim
    | false =>
      show wpAny _ X.A (handleBy (.ref a) X.env []) _ _ _
      refine wpAny_handleBy_nil ?_
      obtain ⟨k1, k2, k3, oe, vs, T, oT, ts', he, hz, hd, h1, hr⟩ := id fl3
      unfold PySem.passOn
      refine wpAny_bind (wpAny_field he hd h1 ?_)
      rw [if_neg (show ¬ ((Value.ref T == Value.none) = true) from by simp)]
      have fin : wpAny (model X.prog X.w) X.A (setFlight (.ref a) X.env.frame) (fun _ s4 => wpAny (model X.prog X.w) X.A (throw (.ref a) : Sem Flow) (SP X pins D) X.xe s4) X.xe { s' with heap := h3 } := by
        rw [hf]
        refine HandSPX.setFlight_upZ fl3 fun h4 hh4 up4 => wpAny_throw (tk _ _ ?_)
        exact ⟨a, B, sI, pins, σ', H', cls, d, rfl, J, nb, (up.trans up3).trans up4, .inr (.inr (by rw [hs]; exact hh4)), na, os, ag, hno rfl⟩
      first
        | exact wpAny_bind (wpAny_pure (wpAny_bind fin))
        | exact wpAny_bind fin
  · cases f with
    | next =>
      obtain ⟨σ', H', J', q⟩ := hsp
      exact wpAny_execs_nil ⟨σ', H', J'.ofTry ok, q⟩
    | brk =>
      obtain ⟨σ', H', J', q⟩ := hsp
      exact ⟨σ', H', J'.ofTry ok, q⟩
    | cont =>
      obtain ⟨σ', H', J', q⟩ := hsp
      exact ⟨σ', H', J'.ofTry ok, q⟩
    | ret u =>
      obtain ⟨v, σ', H', J', r, q⟩ := hsp
      exact ⟨v, σ', H', J'.ofTry ok, r, q⟩
end
end PL
set_option Elab.async false
set_option linter.all false
set_option maxRecDepth 100000
namespace PL
set_option autoImplicit false
open PySem PySem.Spec PyProof.Rows L2
def tryS (i j : Nat) (fb : Es) : Es := fun ρ => match fb ρ with
  | .exc x ρ' => if i < ρ'.length then .nx ((ρ'.set j (.val (.exn x.c))).set i .emp) else .stuck
  | r => r
theorem Rel.keepX {K : PySem.W.Frag} {Φ H : Hp} {σ : L2.St} {ρ : List Sl} {a : Addr} {oe : Obj} {c i j : Nat} (r : Rel K Φ H σ ρ) (na : H a = none) (hx : ExO K c oe) (hij : j ≠ i) (s : Option V) :
    Rel K (upd Φ a (HX oe)) (upd H a (HX oe)) (((σ.set i s).set j (some (.ref a))).set i none) ((ρ.set j (.val (.exn c))).set i .emp) ∧
    ∀ b, Own (((σ.set i s).set j (some (.ref a))).set i none) ((ρ.set j (.val (.exn c))).set i .emp) b → Own σ ρ b := by
  have nΦ : Φ a = none := by
    cases e : Φ a with
    | none => rfl
    | some o => rw [r.sub a o e] at na; cases na
  have mm : Same Φ (upd Φ a (HX oe)) := fun b o e => by rw [upd_ne (ne_of_none e nΦ)]; exact e
  have gρ : ∀ k, k ≠ i → k ≠ j → ((ρ.set j (.val (.exn c))).set i .emp)[k]? = ρ[k]? := fun k h1 h2 => by
    rw [List.getElem?_set_ne (Ne.symm h1), List.getElem?_set_ne (Ne.symm h2)]
  have gσ : ∀ k, k ≠ i → k ≠ j → (((σ.set i s).set j (some (V.ref a))).set i none)[k]? = σ[k]? := fun k h1 h2 => by
    rw [List.getElem?_set_ne (Ne.symm h1), List.getElem?_set_ne (Ne.symm h2), List.getElem?_set_ne (Ne.symm h1)]
  have at_i : ∀ z, ((ρ.set j (.val (.exn c))).set i .emp)[i]? = some z → z = .emp := fun z e => by
    have hl := (List.getElem?_eq_some_iff.mp e).1
    rw [List.getElem?_set_self (by simpa using hl)] at e
    exact (Option.some.inj e).symm
  have at_j : ∀ z, ((ρ.set j (.val (.exn c))).set i .emp)[j]? = some z → z = .val (.exn c) ∧ j < ρ.length := fun z e => by
    have hl := (List.getElem?_eq_some_iff.mp e).1
    rw [List.getElem?_set_ne (Ne.symm hij), List.getElem?_set_self (by simpa using hl)] at e
    exact ⟨(Option.some.inj e).symm, by simpa using hl⟩
  have ow : ∀ k b, OwnAt (((σ.set i s).set j (some (V.ref a))).set i none) ((ρ.set j (.val (.exn c))).set i .emp) k b → OwnAt σ ρ k b := fun k b ⟨h1, d, h2⟩ => by
    by_cases ki : k = i
    · subst ki; cases at_i _ h2
    · by_cases kj : k = j
      · subst kj; cases (at_j _ h2).1
      · exact ⟨by rw [← gσ k ki kj]; exact h1, d, by rw [← gρ k ki kj]; exact h2⟩
  refine ⟨⟨fun b o e => ?_, by simp [r.len], fun k d e => ?_, fun k d e => ?_, fun k l b h1 h2 => r.sep k l b (ow k b h1) (ow l b h2)⟩, fun b ⟨k, h⟩ => ⟨k, ow k b h⟩⟩
  · by_cases hb : b = a
    · subst hb; rw [upd_same] at e ⊢; exact e
    · rw [upd_ne hb] at e ⊢; exact r.sub b o e
  · by_cases ki : k = i
    · subst ki; cases at_i _ e
    · by_cases kj : k = j
      · subst kj
        obtain ⟨e1, hl⟩ := at_j _ e
        cases e1
        refine ⟨.ref a, ?_, .exn c upd_same hx⟩
        rw [List.getElem?_set_ne (Ne.symm ki), List.getElem?_set_self (by rw [List.length_set, r.len]; exact hl)]
      · rw [gρ k ki kj] at e
        obtain ⟨v, h1, h2⟩ := r.val k d e
        exact ⟨v, by rw [gσ k ki kj]; exact h1, h2.mono mm⟩
  · by_cases ki : k = i
    · subst ki; cases at_i _ e
    · by_cases kj : k = j
      · subst kj; cases (at_j _ e).1
      · rw [gρ k ki kj] at e
        obtain ⟨b, h1, h2, h3⟩ := r.own k d e
        have hb : b ≠ a := fun z => by
          subst z
          obtain ⟨o, ho⟩ := h2.there
          rw [na] at ho; cases ho
        exact ⟨b, by rw [gσ k ki kj]; exact h1, h2.at mm fun o ho => by rw [upd_ne hb]; exact ho, by rw [upd_ne hb]; exact h3⟩
section
variable {X : Cx} {W : WX} {np : Nat} {body : List Stmt} {fb : Es} {n y : Str} {pos p1 p2 p3 p4 p5 : Pos}
theorem ss_try (i j : Nat) (hi : np ≤ i) (hj : np ≤ j) (hij : j ≠ i) (S : XSub X.K) (h0 : clsOf X.K 0 ≠ 0) (hm : X.mg "MindError" = some (.ref (clsOf X.K 0))) (tk : Takes X W) (hN : X.N.Nodup)
    (hb : ∀ (W' : WX) (pn : List (Addr × Obj)) (xe : Value → Shared → Prop), Takes (X.tr pn xe) W' → SSs (X.tr pn xe) (clsOf X.K) W' np body fb)
    (hs : X.stack = X.env :: X.outer := by rfl) (hf : X.env.frame = some X.env.locals := by rfl) (hni : X.N[i]? = some n := by rfl) (hln : X.env.kindOf n = some .local := by rfl) (hnj : X.N[j]? = some y := by rfl) (hlj : X.env.kindOf y = some .local := by rfl)
    (hg : Gl X "MindError" := by rfl) (hv : Vis X.env.scope n := by first | exact Or.inl rfl | exact Or.inr (Or.inl rfl) | exact Or.inr (Or.inr rfl)) (hd : (n == ("__debug__" : Str)) = false := by decide)
    (hcd : (n == ("__classdict__" : Str)) = false := by decide) (hlx : Loc X.env.scope y := by first | exact Or.inl rfl | exact Or.inr rfl) (hfy : X.fn y = true ∨ X.env.scope.names.lookup y = some .local := by first | exact .inl rfl | exact .inr rfl)
    (e1 : swapsWithSole [.Name y p2] (.Name n p3) p4.line X.env = pure false := by rfl) (e2 : swappedStores [.Name y p2] (.Name n p3) X.env = pure none := by rfl) (e3 : (assignEach [.Name y p2] X.env).map (·.2) = [assign (.Name y p2) X.env] := by rfl) :
    SS X (clsOf X.K) W np (.Try body [.ExceptHandler (some (.Name "MindError" p1)) (some n) [.Assign [.Name y p2] (.Name n p3) p4] p5] [] [] pos) (tryS i j fb) := by
  refine psImp (ps_try_keep (c := .ref (clsOf X.K 0)) (tb := fun W' => tS X.K (clsOf X.K) W' np fb) (ts := fun _ _ _ => tAsg (tVar i) (gName j)) (Wout := W) hs hf hN hni hln ⟨hg, by decide, .inl hm⟩ tk
    (fun W' pn xe t _ => hb W' pn xe t) (fun a oe cls d pn hz hfs => pss_one (ps_asg (pe_var hni hv hd hcd) (pg_name hN hnj hlx hfy) e1 e2 e3))) fun D σ H ⟨Φ, ρ, r, q⟩ => ?_
  refine ⟨Φ, ρ, r, ?_⟩
  unfold tryS at q
  cases e : fb ρ with
  | nx ρ1 => rw [e] at q; exact q
  | bk ρ1 => rw [e] at q; exact q
  | ct ρ1 => rw [e] at q; exact q
  | rt v ρ1 => rw [e] at q; exact q
  | stuck => rw [e] at q; exact q
  | exc x ρ1 =>
    rw [e] at q
    dsimp only at q
    split at q
    case isFalse => exact q.elim
    rename_i hil
    intro Φ1 H1 σ1 c dd s1 r1 t1 ⟨xc, xf, xd, xh⟩
    subst xc xd
    refine ⟨true, S.exm x.c xh h0, fun _ a na => ⟨.ref a, ?_, fun oe hz hfs hna => ?_⟩, fun z => nomatch z⟩
    · rw [List.getElem?_set_self]
      have hl : σ1.length = ρ1.length := r1.len
      omega
    · obtain ⟨k1, k2⟩ := r1.keepX (c := x.c) (i := i) (j := j) (oe := oe) na ⟨hz.1, xh, hz.2, hfs⟩ hij (some (.ref a))
      refine q _ _ _ (s1.trans (Stp.ofExt (Ext.fresh r1.sub na) fun b w => .inl (k2 b w))) k1 ?_
      rw [List.take_set_of_le hi, List.take_set_of_le hj, List.take_set_of_le hi, t1]
end
def rIsX (K : PySem.W.Frag) : List V → Hp → VK → Prop := fun xs H Q => ∃ (a D : Addr) (oe : Obj) (c : V) (u : Value) (b : Bool), xs = [.ref a, c] ∧ ClsV c u ∧ H a = some (HX oe) ∧ Zc (.ref D) none oe ∧ (∃ vs, oe.data = .fields vs) ∧ ExcC K D ∧ PySem.W.kitOne K (.ref D) u = some b ∧ Q (.bl b) H
theorem call_isX {X : Cx} : CallR X (.builtin "isinstance") (fun xs H Q => rIsi X.K xs H Q ∨ rIsX X.K xs H Q) := by
  intro pins s σ H xs us Q I r h
  rcases h with h | h
  · exact call_isi pins s σ H xs us Q I r h
  · obtain ⟨a, D, oe, c, u, b, rfl, k, hH, hz, hf, C, e, q⟩ := h
    obtain ⟨u1, u2, rfl, r1, r2⟩ := vals2 r
    have e2 := k.eq r2
    subst e2
    cases (show u1 = Value.ref a from r1)
    obtain ⟨hget, _⟩ := (show ObjOk X.prog X.w H s.heap a (HX oe) from I.hok a _ hH)
    obtain ⟨vs, hv⟩ := hf
    have J : PySem.W.InstAt s.heap a oe D none := by
      obtain ⟨oc, od, oda, osl⟩ := oe
      obtain ⟨h1, h2⟩ := hz
      dsimp only at h1 h2 hv
      subst h1 h2 hv
      exact ⟨hget, rfl, rfl, trivial⟩
    exact PySem.W.kia_one (PySem.W.handS_kitx_exc C.hg C.hk C.hs C.hd C.ha C.hn C.ht C.hm) I.kIn J e (fun z => nomatch z) fun tk => ⟨.bl b, H, I.tok tk, rfl, q⟩
def gIsX (j : Nat) : D → R Bool
  | .exn c => .ok (subX c j)
  | .non => .ok false
  | _ => .stuck
section
variable {X : Cx} {cs : Nat → Addr} {W : WX} {a : Expr} {fa : Ev D} {pos p p1 : Pos}
theorem sd_isX {y : Str} (j : Nat) (hg : Gl X "isinstance") (hm : X.mg "isinstance" = none) (ha : SV X cs W a fa) (S : XSub X.K) (h0 : clsOf X.K j ≠ 0) (hy : Gl X y) (hmy : X.mg y = some (.ref (clsOf X.K j))) (hj : j < 11) (hd : (y == ("__debug__" : Str)) = false := by decide)
    (he : starEach (a :: [.Name y p1]) X.env = (false, eval a X.env) :: starEach [.Name y p1] X.env := by rfl) (hpl : (backTo pos (starEach [.Name y p1] X.env)).any (·.1) = false := by rfl) (h2 : starEach (.Name y p1 :: []) X.env = (false, eval (.Name y p1) X.env) :: starEach [] X.env := by rfl) :
    SD X cs W (.Call (.Name "isinstance" p) [a, .Name y p1] [] pos) (eBl (e1 (gIsX j) fa)) :=
  peImp (pe_callB call_isX hg hm (by decide +kernel) (pa_cons ha (pa_cons (pe_glob (v := .ref (clsOf X.K j)) hy hmy rfl hd) pa_nil h2) he) (by decide) (by decide) he hpl) fun σ H Q h => by
    refine run1 (runBl h) fun Φ H v d m r q => ?_
    unfold gIsX at q
    split at q
    next c =>
      rcases r with r | ⟨_, _, w⟩
      · cases r with
        | exn _ h1 h2 =>
          obtain ⟨e1, e2, e3, e4⟩ := h2
          exact .inr ⟨_, clsOf X.K c, _, _, _, _, rfl, .own _, m _ _ h1, ⟨e1, e3⟩, e4, S.ex c e2, S.kit c j e2 h0, q.ok m rfl⟩
      · cases w
    next =>
      cases r.non_inv
      exact .inl ⟨.non, _, .type "NoneType", _, _, rfl, .own _, .base .non, S.non j h0, q.ok m rfl⟩
    next => exact q.elim
theorem sd_isXV {y : Str} (hg : Gl X "isinstance") (hm : X.mg "isinstance" = none) (ha : SV X cs W a fa) (S : XSub X.K) (hy : Gl X y) (hmy : X.mg y = none) (hv : bootBuiltins y = some (.type "ValueError")) (hn : y ≠ "__name__" := by decide) (hd : (y == ("__debug__" : Str)) = false := by decide)
    (he : starEach (a :: [.Name y p1]) X.env = (false, eval a X.env) :: starEach [.Name y p1] X.env := by rfl) (hpl : (backTo pos (starEach [.Name y p1] X.env)).any (·.1) = false := by rfl) (h2 : starEach (.Name y p1 :: []) X.env = (false, eval (.Name y p1) X.env) :: starEach [] X.env := by rfl) :
    SD X cs W (.Call (.Name "isinstance" p) [a, .Name y p1] [] pos) (eBl (e1 (gIsX 11) fa)) :=
  peImp (pe_callB call_isX hg hm (by decide +kernel) (pa_cons ha (pa_cons (pe_bltn (v := .ty "ValueError") hy hmy hv rfl hn hd) pa_nil h2) he) (by decide) (by decide) he hpl) fun σ H Q h => by
    refine run1 (runBl h) fun Φ H v d m r q => ?_
    unfold gIsX at q
    split at q
    next c =>
      rcases r with r | ⟨_, _, w⟩
      · cases r with
        | exn _ h1 h2 =>
          obtain ⟨e1, e2, e3, e4⟩ := h2
          have e5 : subX c 11 = true := by simp [subX]
          rw [e5] at q
          exact .inr ⟨_, clsOf X.K c, _, _, _, _, rfl, .ty _, m _ _ h1, ⟨e1, e3⟩, e4, S.ex c e2, S.kitV c e2, q.ok m rfl⟩
      · cases w
    next =>
      cases r.non_inv
      exact .inl ⟨.non, _, .type "NoneType", _, _, rfl, .ty _, .base .non, S.nonV, q.ok m rfl⟩
    next => exact q.elim
end
end PL
set_option Elab.async false
set_option linter.all false
set_option maxRecDepth 100000
namespace PL
set_option autoImplicit false
open PySem PySem.Spec PyProof.Rows L2
structure XHere (K : PySem.W.Frag) (mg : Str → Option Value) (c : Nat) : Prop where
  here : clsOf K c ≠ 0
  mg : mg (nmX c) = some (.ref (clsOf K c))
theorem cls_of {K : PySem.W.Frag} {c : Nat} {e : Addr} (a : PySem.W.nsIn K mainGlobals (nmX c) = some (some (.ref e))) : clsOf K c = e := by
  unfold clsOf; rw [a]
theorem xh_of {K : PySem.W.Frag} {h : Heap} {mg : Str → Option Value} (X : K.In h) (G : h.Ns mainGlobals mg) (c : Nat) {e : Addr} (a : PySem.W.nsIn K mainGlobals (nmX c) = some (some (.ref e))) (n : (e == 0) = false) : XHere K mg c := by
  have z := cls_of a
  exact ⟨by rw [z]; simpa using n, by rw [z]; exact PySem.W.mg_of X G a⟩
theorem xr_of {K : PySem.W.Frag} {h : Heap} {mg : Str → Option Value} (X : K.In h) (G : h.Ns mainGlobals mg) (c : Nat) {e : Addr} (a : PySem.W.nsIn K mainGlobals (nmX c) = some (some (.ref e))) (n : (e == 0) = false)
    (k : PySem.W.keepIn K (.ref e) = true) (q : PySem.W.excIn K e [.type "ValueError", .type "Exception", .type "BaseException", .type "object"] "ValueError.__new__" = true)
    (s : PySem.W.subIn K (.ref e) (.type "BaseException") = some true) (t : PySem.W.typeIn K (.ref e) = some (.type "type")) : XRaise K mg c := by
  obtain ⟨z1, z2⟩ := xh_of X G c a n
  have z := cls_of a
  exact ⟨z1, z2, by rw [z]; exact k, ⟨_, _, _, _, PySem.F.excBase_ValueError, by rw [z]; exact q⟩, by rw [z]; exact s, by rw [z]; exact t⟩
def gIdxL (ds : List D) (e : D) : R D := if (D.lst ds).fits = true ∧ e.fits = true then (match (ds.map D.py).findIdx? (fun z => PyData.eqv z e.py) with | some j => .ok (.int (j : Nat)) | none => .stuck) else .stuck
def idxR (fe : Ev D) (ρ : List Sl) : D → R D
  | .lst ds => (fe ρ).bind (gIdxL ds)
  | _ => .stuck
def eIdxL (fa fe : Ev D) : Ev D := fun ρ => (fa ρ).bind (idxR fe ρ)
theorem pys_map : ∀ ds : List D, D.pys ds = ds.map D.py
  | [] => rfl
  | d :: ds => by show d.py :: D.pys ds = _; rw [pys_map ds]; rfl
section
variable {X : Cx} {cs : Nat → Addr} {W : WX} {o e : Expr} {fa fe : Ev D} {apos cpos : Pos}
theorem sd_idxL (hu : X.A.units + 65 < cLine) (ho : SV X cs W o fa) (he : SV X cs W e fe)
    (hbase : attributeBase o "index" X.env (eval o X.env) = eval o X.env := by rfl)
    (hfew : ((backTo cpos (starEach [e] X.env)).all (fun x => !x.1) && (backToKw cpos (keywordEach [] X.env)).all (fun x => x.1.isSome)
      && decide ([e].length + ([] : List Keyword).length + (if ([] : List Keyword).isEmpty then 0 else 1) < 30)) = true := by rfl)
    (hline : (apos.endLine == cpos.line) = true := by rfl) (hs : starEach [e] X.env = (false, eval e X.env) :: starEach [] X.env := by rfl) (hplain : (backTo cpos (starEach [] X.env)).any (·.1) = false := by rfl) :
    SD X cs W (.Call (.Attribute o "index" apos) [e] [] cpos) (eIdxL fa fe) :=
  peImp (pe_bm PySem.F.plainAttrs_list PySem.F.slot_list_index PySem.F.type_list_index (mt_indexD hu) ho (pa_cons he pa_nil hs) hbase hfew hline hs hplain) fun σ H Q ⟨Φ, ρ, r, q⟩ => by
    refine tG.bind (rp := rV X.K) r q fun Φ1 H1 d v r1 _ rep q => ?_
    unfold idxR at q
    split at q
    next ds =>
      obtain ⟨p, vs, rfl, h1, h2⟩ := RepV.lst_inv rep r1.sub
      refine ⟨.inl ⟨rfl, vs, SqL.of h1⟩, ?_⟩
      refine tG.bind (rp := rV X.K) r1 q fun Φ2 H2 z u r2 x2 rz q => ?_
      unfold gIdxL at q
      split at q
      next hf =>
        split at q
        next j hj =>
          have rep2 : RepV X.K Φ2 H2 (.lst ds) (.ref p) := rep.ext x2
          have hl := SeqAt.canLay_of_shaped (show SeqAt.shaped (D.lst ds).py = true from hf.1)
          have e1 : (D.lst ds).py = .list (ds.map D.py) := by rw [← pys_map]; rfl
          have d1 : Dp X.K H2 (.ref p) (.list (ds.map D.py)) := by
            rw [← e1]; exact rep2.dp r2.sub (SeqAt.canLay_of_shaped hf.1)
          have d2 : Dp X.K H2 u z.py := rz.dp r2.sub (SeqAt.canLay_of_shaped hf.2)
          rw [List.findIdx?_eq_some_iff_getElem] at hj
          obtain ⟨hlt, hj1, hj2⟩ := hj
          refine ⟨p, u, z.py, ds.map D.py, j, (ds.map D.py)[j], rfl, rfl, d1, d2, ?_, hf.2, List.getElem?_eq_getElem hlt, hj1, fun m z' hm hz => ?_, q.ok r2.sub (.int _)⟩
          · rw [← e1]; exact hf.1
          · have hml : m < (ds.map D.py).length := Nat.lt_trans hm hlt
            rw [List.getElem?_eq_getElem hml] at hz
            cases hz
            simpa using hj2 m hm
        next => exact q.elim
      next => exact q.elim
    next => exact q.elim
end
end PL
set_option Elab.async false
set_option linter.all false
set_option maxRecDepth 100000
namespace PL
set_option autoImplicit false
open PySem PySem.Spec PyProof.Rows L2
theorem hu65 {A : Around} {k : Nat} (hr : Room k A) : A.units + 65 < cLine := by have := hr.un; omega
section
variable {X : Cx} {cs : Nat → Addr} {W : WX} {a b : Expr} {fa fb : Ev D} {pos : Pos}
def gCatS : D → D → R D
  | .scr x, .lst y => if x.length + y.length ≤ LIM then .ok (.lst (x.map .int ++ y)) else .stuck
  | _, _ => .stuck
end
end PL
set_option Elab.async false
set_option linter.all false
set_option maxRecDepth 100000
namespace PL
set_option autoImplicit false
open PySem PySem.Spec PyProof.Rows L2
/-- without doubles -/
def dd : List Int → List Int
  | [] => []
  | x :: xs => if x ∈ dd xs then dd xs else x :: dd xs
section
variable {X : Cx} {cs : Nat → Addr} {W : WX} {e tg : Expr} {fa : Ev D} {p pos p2 pos2 : Pos}
theorem rev_get {α : Type} {vs : List α} {i : Nat} (hi : i < vs.length) : vs.reverse[i]? = vs[vs.length - 1 - i]? := by
  rw [List.getElem?_reverse hi]
theorem walk_revF {K : PySem.W.Frag} {Φ : Hp} {p : Addr} {vs : List V} {ds : List D} (h : SqL K Φ p vs) (r : RepDs K Φ ds vs) : WalksF K (Itv K p vs.length) ds.reverse Φ := by
  have hl := r.length
  refine ⟨fun Φ1 H1 i m s hi => ?_, fun Φ1 H1 i m s hi => ?_, fun Φ1 H1 i v H' d m s hd y => ?_⟩
  · rw [List.length_reverse] at hi
    have hv : vs.length - 1 - i < vs.length := by omega
    exact ⟨by omega, vs, vs[vs.length - 1 - i], (m.trans s).seq h, by simp [hv]⟩
  · rw [List.length_reverse] at hi
    show vs.length ≤ i
    omega
  · obtain ⟨rfl, y⟩ := y
    have hi : i < ds.length := by
      have z := (List.getElem?_eq_some_iff.mp hd).1
      rw [List.length_reverse] at z; exact z
    rw [rev_get hi, hl] at hd
    obtain ⟨u, h1, h2⟩ := r.get hd
    have h3 := y vs ((m.trans s).seq h)
    rw [h1] at h3
    cases h3
    exact ⟨Φ1, .refl s, h2.mono m⟩
def gRevI : D → R (List D)
  | .lst ds => .ok ds.reverse
  | _ => .stuck
def iRev (fa : Ev D) : Ev (List D) := fun ρ => (fa ρ).bind gRevI
theorem sif_rev (hg : Gl X "reversed") (hm : X.mg "reversed" = none) (h : SD X cs W e fa) (hs : starEach [e] X.env = (false, eval e X.env) :: starEach [] X.env := by rfl) : SIF X cs W tg (.Call (.Name "reversed" p) [e] [] pos) (iRev fa) :=
  piImp (RT.pi_revA hg hm h hs) fun σ H Q ⟨Φ, ρ, r, q⟩ => tG.bind (rp := rD X.K) r q fun Φ1 H1 d v r1 x rep q => by
    have rep' : RepD X.K Φ1 d v := rep
    clear rep
    unfold gRevI at q
    cases rep' with
    | lst h1 h2 => exact ⟨_, _, rfl, .inl ⟨SqL.of (r1.sub _ _ h1), q.ok r1.sub (walk_revF (SqL.of h1) h2)⟩⟩
    | _ => exact q.elim
def gBits : D → R D
  | .int i => .ok (.int (Builtin.Int.intBits i : Nat))
  | _ => .stuck
end
end PL
set_option Elab.async false
set_option linter.all false
set_option maxRecDepth 100000
namespace PL
set_option autoImplicit false
open PySem PySem.Spec PyProof.Rows L2
section
variable {X : Cx} {cs : Nat → Addr} {W : WX} {np : Nat} {e : Expr} {es : List Expr} {fs : Ev (List D)} {p apos cpos pos : Pos}
def gExtend : GL
  | ds, [.lst es] => if ds.length + es.length < LIM then .ok (.non, ds ++ es) else .stuck
  | _, _ => .stuck
def gDictOf : List D → R D
  | [.dic es] => .ok (.dic es)
  | _ => .stuck
end
end PL
set_option Elab.async false
set_option linter.all false
set_option maxRecDepth 100000
namespace PL
set_option autoImplicit false
open PySem PySem.Spec PyProof.Rows L2
section
variable {X : Cx} {cs : Nat → Addr} {W : WX} {np : Nat} {a b e f : Expr} {fa fb fe fk fv : Ev D} {p apos cpos pos pos' : Pos}
def augX (j : Nat) (fe : Ev D) : Es := fun ρ => match ρ[j]? with
  | some (.own (.lst ds)) => tryE ρ (fe ρ) fun d => match d with
    | .lst es => if ds.length + es.length < LIM then .nx (ρ.set j (.own (.lst (ds ++ es)))) else .stuck
    | _ => .stuck
  | _ => .stuck
def setDfK (j : Nat) (es : List (Kc × D)) (d : D) (ρ : List Sl) (kc : Kc) : Option D → RS
  | some _ => .nx ρ
  | none => .nx (ρ.set j (.own (.dic (putC es kc d))))
def setDf (j : Nat) (fk fv : Ev D) : Es := fun ρ => match ρ[j]? with
  | some (.own (.dic es)) => tryE ρ (fk ρ) fun k => tryE ρ (fv ρ) fun d => match k.key with
    | some kc => if es.length < LIM then setDfK j es d ρ kc (lookC es kc) else .stuck
    | none => .stuck
  | _ => .stuck
def gRgL : D → R D
  | .int n => if smallR n ∧ n.toNat ≤ LIM then .ok (.lst (rangeD 0 n)) else .stuck
  | _ => .stuck
end
end PL
set_option Elab.async false
set_option linter.all false
set_option maxRecDepth 100000
namespace PL
set_option autoImplicit false
open PySem PySem.Spec PyProof.Rows L2
mutual
def D.solid : D → Bool
  | .tup ds => D.solids ds
  | .lst _ => false
  | .scr _ => false
  | .dic _ => false
  | .cls _ => false
  | _ => true
def D.solids : List D → Bool
  | [] => true
  | d :: ds => d.solid && D.solids ds
end
section
variable {X : Cx} {cs : Nat → Addr} {W : WX} {e : Expr}
def lendG (i : Nat) (f : Ev D) : Ev D := fun ρ => (f (frzAt ρ i)).bind fun d => if d.solid = true then .ok d else .stuck
end
end PL
set_option Elab.async false
set_option linter.all false
set_option maxRecDepth 100000
namespace PL
set_option autoImplicit false
open PySem PySem.Spec PyProof.Rows L2
end PL
set_option Elab.async false
set_option linter.all false
set_option maxRecDepth 100000
namespace PL
set_option autoImplicit false
open PySem PySem.Spec PyProof.Rows L2
end PL
set_option Elab.async false
set_option linter.all false
set_option maxRecDepth 100000
namespace PL
set_option autoImplicit false
open PySem PySem.Spec PyProof.Rows L2
/-- the turns, an exception of the element let out -/
def lcGoX (ρ : List Sl) (ft : D → R (List (Nat × D))) (fc : Ev Bool) (fe : Ev D) : List D → R (List D)
  | [] => .ok []
  | d :: ds => (noX (ft d)).bind fun as => (noX (fc (setS ρ as))).bind fun k => if k = true then (fe (setS ρ as)).bind fun y => (lcGoX ρ ft fc fe ds).bind fun ys => .ok (y :: ys) else lcGoX ρ ft fc fe ds
def eLcX (vs : List Nat) (fi : Ev (List D)) (ft : D → R (List (Nat × D))) (fc : Ev Bool) (fe : Ev D) : Ev D := fun ρ => (fi ρ).bind fun ds => if ds.length ≤ LIM then (lcGoX (wipeS ρ vs) ft fc fe ds).bind fun ys => .ok (.lst ys) else .stuck
end PL
set_option Elab.async false
set_option linter.all false
set_option maxRecDepth 100000
namespace PL
set_option autoImplicit false
open PySem PySem.Spec PyProof.Rows L2
section
variable {X : Cx} {cs : Nat → Addr} {W : WX} {np : Nat} {a e tg : Expr} {es : List Expr} {ars : List Ar} {pos p cpos pos' : Pos} {x : Str}
/-- runCall, at the state itself -/
theorem runCallA {n : Nat} {G : Fn} {k : Sl → List Sl → RS} {D' : Ends} {σ : L2.St} {ρ : List Sl} {Φ H : Hp} {Qv : VK} (hn : ars.length = n) (hd : (ars.filterMap Ar.j).Nodup) (r : Rel X.K Φ H σ ρ) (q : RunS X.K cs W np D' (Own σ ρ) σ Φ H (callS ars G k ρ))
    (c : ∀ rr fin v Φ2 H2, Rel X.K Φ2 H2 (σ ++ [some v]) (bwSet ars fin ρ ++ [rr]) → Stp (Own σ ρ) Φ H Φ2 H2 (Own (σ ++ [some v]) (bwSet ars fin ρ ++ [rr])) → RunS X.K cs W np D' (Own σ ρ) σ Φ H (k rr (bwSet ars fin ρ)) → Qv v H2) {l : List Sl} (e1 : arS ars ρ = .ok l) {vs : List V} (ra1 : ArgR X.K Φ σ ρ ars l vs) :
    spG X.K cs n G vs H Qv (WE W σ) := by
  unfold callS at q
  rw [e1] at q
  refine ⟨by rw [ra1.len.2]; exact hn, Φ, l, ra1.rel hd r, ?_⟩
  cases e2 : G l with
  | stuck => simp only [tryE, callR, e2] at q; exact q.elim
  | exc z fin =>
    simp only [tryE, callR, e2] at q
    intro Φ2 H2 c dd s2 r2 hx
    have r3 := r2.push (d := .non) (v := .non) .non
    have s3 : Stp (Own (vS vs) l) Φ H Φ2 H2 (Own (vS vs ++ [some .non]) (fin ++ [.val .non])) := ⟨s2.mono, s2.frame, fun b p => s2.own b (by
      obtain ⟨j, h1, d, h2⟩ := p
      rcases getApp h2 with h2 | ⟨_, h3⟩
      · rw [List.getElem?_append_left (by rw [r2.len]; exact (List.getElem?_eq_some_iff.mp h2).1)] at h1
        exact ⟨j, h1, d, h2⟩
      · cases h3), s2.new⟩
    obtain ⟨R, S⟩ := callBack ra1 r s3 r3
    have hl := R.init.len
    exact q Φ2 H2 σ c dd ⟨S.mono, S.frame, fun b p => S.own b (ownInit hl p), S.new⟩ R.init rfl hx
  | ok rr fin =>
    simp only [tryE, callR, e2] at q
    intro Φ2 H2 v s2 r2
    obtain ⟨R, S⟩ := callBack ra1 r s2 r2
    exact c rr fin v Φ2 H2 R S q
def kCallB (i : Nat) (G : Fn) : D → List Sl → RS := fun d => callS [.bw i, .fz fun _ => .ok d] G kDrop
section
variable {k n : Nat} {fa : Addr} {fd : FuncData} {ps : List Str} {G : Fn}
theorem ss_callPop (i j : Nat) (hij : i ≠ j) {y z : Str} {py pz apos cp : Pos} (F : FnOk X.prog X.w X.K X.mg X.base (L2.CX X.prog X.w) k fa fd ps (spG X.K cs 2 G)) (hr : Room k X.A) (hg : Gl X x) (hm : X.mg x = some (.ref fa)) (hk : PySem.W.keepIn X.K (.ref fa) = true) (hb : Binds X.K fd ps [])
    (tk : Takes X W) (hNi : X.N[i]? = some y := by rfl) (hvi : Vis X.env.scope y := by first | exact Or.inl rfl | exact Or.inr (Or.inl rfl) | exact Or.inr (Or.inr rfl)) (hdi : (y == ("__debug__" : Str)) = false := by decide) (hci : (y == ("__classdict__" : Str)) = false := by decide)
    (hNj : X.N[j]? = some z := by rfl) (hvj : Vis X.env.scope z := by first | exact Or.inl rfl | exact Or.inr (Or.inl rfl) | exact Or.inr (Or.inr rfl)) (hdj : (z == ("__debug__" : Str)) = false := by decide) (hcj : (z == ("__classdict__" : Str)) = false := by decide)
    (hbase : attributeBase (.Name z pz) "pop" X.env (eval (.Name z pz) X.env) = eval (.Name z pz) X.env := by rfl) (hline : (apos.endLine == cp.line) = true := by rfl)
    (hs1 : starEach (.Name y py :: [.Call (.Attribute (.Name z pz) "pop" apos) [] [] cp]) X.env = (false, eval (.Name y py) X.env) :: starEach [.Call (.Attribute (.Name z pz) "pop" apos) [] [] cp] X.env := by rfl)
    (hs2 : starEach [.Call (.Attribute (.Name z pz) "pop" apos) [] [] cp] X.env = (false, eval (.Call (.Attribute (.Name z pz) "pop" apos) [] [] cp) X.env) :: starEach [] X.env := by rfl)
    (hdb : (x == ("__debug__" : Str)) = false := by decide) (hpl : (backTo cpos (starEach [.Call (.Attribute (.Name z pz) "pop" apos) [] [] cp] X.env)).any (·.1) = false := by rfl)
    (hsw : swapsWith (.Call (.Name x p) [.Name y py, .Call (.Attribute (.Name z pz) "pop" apos) [] [] cp] [] cpos) none pos.line X.env = pure false := by rfl) :
    SS X cs W np (.Expr (.Call (.Name x p) [.Name y py, .Call (.Attribute (.Name z pz) "pop" apos) [] [] cp] [] cpos) pos) (mutS j gPop aNil (kCallB i G)) :=
  psImp (ps_expr (pe_callS F hr hg hm hk hb (fun σ => passAt tk σ) (pa_cons (pe_var hNi hvi hdi hci) (pa_cons (pe_bm0 PySem.F.plainAttrs_list PySem.F.slot_list_pop PySem.F.type_list_pop mt_pop (pe_var hNj hvj hdj hcj) hbase hline) pa_nil hs2) hs1) hdb hs1 hpl) hsw) fun D' σ H ⟨Φ, ρ, r, q⟩ => by
    unfold mutS at q
    split at q
    next ds ej =>
      obtain ⟨b, h1, h2, h3⟩ := r.own j _ ej
      cases h2 with
      | lst h2 h4 =>
        have q : RunS X.K cs W np D' (Own σ ρ) σ Φ H (match gPop ds [] with | .ok (res, ds') => kCallB i G res (ρ.set j (.own (.lst ds'))) | _ => .stuck) := q
        split at q
        next res ds' eg =>
          obtain ⟨d0, ei⟩ : ∃ d0, ρ[i]? = some (.own d0) := by
            have hset : (ρ.set j (Sl.own (.lst ds')))[i]? = ρ[i]? := List.getElem?_set_ne (Ne.symm hij)
            unfold kCallB callS at q
            simp only [arS, bwK, hset] at q
            cases ei : ρ[i]? with
            | none => rw [ei] at q; exact q.elim
            | some s =>
              cases s with
              | own d => exact ⟨d, rfl⟩
              | val d => rw [ei] at q; exact q.elim
              | emp => rw [ei] at q; exact q.elim
          obtain ⟨b0, g1, g2, g3⟩ := r.own i d0 ei
          refine ⟨_, g1, _, h1, tyL h2, ?_⟩
          refine mu_pop (X := X) Φ H _ b _ [] ds [] res ds' h2 h4 .nil eg fun v' vs' w1 w2 => ?_
          obtain ⟨r2, s2⟩ := r.mut (d' := .lst ds') (u := .lst vs') h1 ej (.lst upd_same w2)
          have hset : (ρ.set j (Sl.own (.lst ds')))[i]? = some (.own d0) := by rw [List.getElem?_set_ne (Ne.symm hij)]; exact ei
          have e1 : arS [.bw i, .fz fun _ => .ok res] (ρ.set j (.own (.lst ds'))) = .ok [.own d0, .val res] := by
            simp only [arS, bwK, hset]; rfl
          exact runCallA (np := np) (D' := D') (W := W) (k := kDrop) (ars := [.bw i, .fz fun _ => .ok res]) rfl (by show ([i] : List Nat).Nodup; simp) r2 (RunS.step s2 rfl q) (fun rr fin v Φ2 H2 R S q => q Φ2 H2 σ ⟨S.mono, S.frame, fun b p => S.own b (ownInit R.init.len p), S.new⟩ R.init rfl) e1 (.bw hset g1 (.fz w1 .nil))
        next => exact q.elim
    next => exact q.elim
end
end
def gSI (s : List Nat) : D → R D
  | .str t => (match Builtin.Str.occurrences ⟨s.toArray⟩ ⟨t.toArray⟩ 0 s.length 1 with
    | i :: _ => .ok (.int (i : Nat))
    | [] => .stuck)
  | _ => .stuck
def sidxR (fe : Ev D) (ρ : List Sl) : D → R D
  | .str s => (fe ρ).bind (gSI s)
  | _ => .stuck
def eSIdx (fa fe : Ev D) : Ev D := fun ρ => (fa ρ).bind (sidxR fe ρ)
theorem str_of {x : Str} {s : List Nat} (h : x.cps.toList = s) : x = ⟨s.toArray⟩ := by
  subst h
  obtain ⟨c⟩ := x
  simp
theorem str_len {x : Str} {s : List Nat} (h : x.cps.toList = s) : x.length = s.length := by
  subst h
  show x.cps.size = _
  simp
section
variable {X : Cx} {cs : Nat → Addr} {W : WX} {o e : Expr} {fa fe : Ev D} {apos cpos : Pos}
theorem sd_sindex (ho : SD X cs W o fa) (he : SD X cs W e fe)
    (hbase : attributeBase o "index" X.env (eval o X.env) = eval o X.env := by rfl)
    (hfew : ((backTo cpos (starEach [e] X.env)).all (fun x => !x.1) && (backToKw cpos (keywordEach [] X.env)).all (fun x => x.1.isSome)
      && decide ([e].length + ([] : List Keyword).length + (if ([] : List Keyword).isEmpty then 0 else 1) < 30)) = true := by rfl)
    (hline : (apos.endLine == cpos.line) = true := by rfl) (hs : starEach [e] X.env = (false, eval e X.env) :: starEach [] X.env := by rfl) (hplain : (backTo cpos (starEach [] X.env)).any (·.1) = false := by rfl) :
    SD X cs W (.Call (.Attribute o "index" apos) [e] [] cpos) (eSIdx fa fe) :=
  peImp (pe_bm PySem.F.plainAttrs_str PySem.F.slot_str_index PySem.F.type_str_index mt_sindex ho (pa_cons he pa_nil hs) hbase hfew hline hs hplain) fun σ H Q ⟨Φ, ρ, r, q⟩ => by
    refine tG.bind (rp := rD X.K) r q fun Φ1 H1 d v r1 _ rep q => ?_
    unfold sidxR at q
    split at q
    next s =>
      cases rep with
      | str x _ hx =>
        refine ⟨rfl, tG.bind (rp := rD X.K) r1 q fun Φ2 H2 z u r2 x2 rz q => ?_⟩
        unfold gSI at q
        split at q
        next t =>
          split at q
          next i rest ho =>
            cases rz with
            | str y _ hy =>
              refine ⟨x, y, i, rest, rfl, rfl, ?_, q.ok r2.sub (.int _)⟩
              rw [str_len hx, str_of hx, str_of hy]
              exact ho
          next => exact q.elim
        next => exact q.elim
    next => exact q.elim
end
end PL
set_option Elab.async false
set_option linter.all false
set_option maxRecDepth 100000
namespace PL
set_option autoImplicit false
open PySem PySem.Spec PyProof.Rows L2
def zipD : List D → List D → List D
  | d :: ds, e :: es => .tup [d, e] :: zipD ds es
  | _, _ => []
def gZip : List D → R (List D)
  | [.tup ds, .tup es] => .ok (zipD ds es)
  | _ => .stuck
theorem zipD_len : ∀ (ds es : List D), (zipD ds es).length = min ds.length es.length
  | [], _ => by simp [zipD]
  | _ :: _, [] => by simp [zipD]
  | d :: ds, e :: es => by simp only [zipD, List.length_cons, zipD_len ds es]; omega
theorem zipD_get : ∀ (ds es : List D) (i : Nat) (d : D), (zipD ds es)[i]? = some d → ∃ x y, ds[i]? = some x ∧ es[i]? = some y ∧ d = .tup [x, y]
  | [], _, i, d, h => by simp [zipD] at h
  | _ :: _, [], i, d, h => by simp [zipD] at h
  | x :: ds, y :: es, 0, d, h => by
    simp [zipD] at h
    exact ⟨x, y, rfl, rfl, h.symm⟩
  | x :: ds, y :: es, i + 1, d, h => by
    simp only [zipD, List.getElem?_cons_succ] at h
    obtain ⟨a, b, h1, h2, h3⟩ := zipD_get ds es i d h
    exact ⟨a, b, by simpa using h1, by simpa using h2, h3⟩
theorem R.bind_bind {α β γ : Type} (r : R α) (f : α → R β) (g : β → R γ) : (r.bind f).bind g = r.bind fun a => (f a).bind g := by cases r <;> rfl
theorem RepV.tupv {K : PySem.W.Frag} {Φ H : Hp} {ds : List D} {v : V} (h : RepV K Φ H (.tup ds) v) : ∃ a vs, v = .ref a ∧ SqT K Φ a vs ∧ RepDs K Φ ds vs := by
  rcases h with h | ⟨a, _, h⟩
  · cases h with
    | tup h1 h2 => exact ⟨_, _, rfl, h1, h2⟩
  · cases h
section
variable {X : Cx} {cs : Nat → Addr} {W : WX}
theorem lcz_run {gs : TGs} {is : List Nat} {tgs : List Expr} {fs : Ev (List D)} {fc : Ev Bool} {fe : Ev D} {vs : List Nat} {XB : Cx} (hft : ∀ p ∈ is, p ∈ vs) (hi2 : is.length = 2) (hg : Tgs XB tgs gs is)
    {σ : L2.St} {H : Hp} {Q : VK} (h : tN X.K cs W (eLc vs (iRg gZip fs) (ftTup is) fc fe) σ H Q) : tLc (RZ.iZipA X.K (tG X.K cs (rVs X.K) W fs)) (gTup X.K is.length gs) (tG X.K cs rB W0 fc) (tG X.K cs (rD X.K) W0 fe) vs σ H Q := by
  obtain ⟨Φ, ρ, r, q⟩ := h
  have q : RunN X.K cs W σ Φ H Q ((fs ρ).bind fun a => (gZip a).bind fun ds => if ds.length ≤ LIM then (noX (lcGo (wipeS ρ vs) (ftTup is) fc fe ds)).bind fun ys => .ok (.lst ys) else .stuck) := by
    rw [← R.bind_bind]; exact q
  refine tG.bindN (rp := rVs X.K) r q fun Φ1 H1 args us r1 _ rep0 q => ?_
  unfold gZip at q
  split at q
  case h_2 => exact q.elim
  next d1 d2 =>
  have rep : RepVs X.K Φ1 H1 [.tup d1, .tup d2] us := rep0
  clear rep0
  cases rep with
  | cons w1 rep =>
  cases rep with
  | cons w2 rep =>
  cases rep
  obtain ⟨a, xs, rfl, sa, ra⟩ := w1.tupv
  obtain ⟨b, ys, rfl, sb, rb⟩ := w2.tupv
  refine ⟨a, b, xs, ys, rfl, .inr ⟨sqT_mono r1.sub sa, sqT_mono r1.sub sb, fun D hD => ?_⟩⟩
  have q : RunN X.K cs W σ Φ1 H1 Q (if (zipD d1 d2).length ≤ LIM then (noX (lcGo (wipeS ρ vs) (ftTup is) fc fe (zipD d1 d2))).bind fun ys => .ok (.lst ys) else .stuck) := q
  by_cases hlim : (zipD d1 d2).length ≤ LIM
  case neg => rw [if_neg hlim] at q; exact q.elim
  rw [if_pos hlim] at q
  have hzl := zipD_len d1 d2
  have la := ra.length
  have lb := rb.length
  generalize hz : zipD d1 d2 = ds at q hlim hzl
  cases eg : lcGo (wipeS ρ vs) (ftTup is) fc fe ds with
  | exc z => rw [eg] at q; exact q.elim
  | stuck => rw [eg] at q; exact q.elim
  | ok out =>
  rw [eg] at q
  have q : RunN X.K cs W σ Φ1 H1 Q (.ok (.lst out)) := q
  refine ⟨fun i m H' => m = ds.length - i ∧ i ≤ ds.length ∧ ∃ Φ' acc accD rest, Ext Φ1 H1 Φ' H' ∧ H' D = some (.lst acc) ∧ Φ' D = none ∧ RepDs X.K Φ' accD acc ∧ acc.length ≤ i ∧ lcGo (wipeS ρ vs) (ftTup is) fc fe (ds.drop i) = .ok rest ∧ out = accD ++ rest, ⟨ds.length, by simp, Nat.zero_le _, Φ1, [], [], out, Ext.alloc r1.sub hD, upd_same, ?_, .nil, Nat.le_refl _, by simpa using eg, rfl⟩, ?_⟩
  · cases z : Φ1 D with
    | none => rfl
    | some u => rw [r1.sub _ _ z] at hD; cases hD
  rintro i m H2 ⟨rfl, hi, Φ2, acc, accD, rest, x2, hD2, hΦ2, racc, hacc, hrest, hout⟩
  have sa2 := sqT_mono (x2.mono.trans x2.sub) sa
  have sb2 := sqT_mono (x2.mono.trans x2.sub) sb
  by_cases hlt : i < ds.length
  · have hxa : i < xs.length := by omega
    have hyb : i < ys.length := by omega
    refine .inr ⟨⟨xs, ys, xs[i], ys[i], sa2, sb2, by simp [hxa], by simp [hyb]⟩, fun H' => ∃ Φ' acc accD rest, Ext Φ1 H1 Φ' H' ∧ H' D = some (.lst acc) ∧ Φ' D = none ∧ RepDs X.K Φ' accD acc ∧ acc.length ≤ i + 1 ∧ lcGo (wipeS ρ vs) (ftTup is) fc fe (ds.drop (i + 1)) = .ok rest ∧ out = accD ++ rest, fun H' h => ⟨ds.length - (i + 1), by omega, rfl, hlt, h⟩, fun x H3 hy => ?_⟩
    obtain ⟨T, x1, y1, rfl, hT, rfl, ex, ey⟩ := hy
    have hds : ds[i]? = some ds[i] := by simp [hlt]
    obtain ⟨e1, e2, k1, k2, k3⟩ := zipD_get d1 d2 i ds[i] (by rw [hz]; exact hds)
    obtain ⟨u1, j1, j2⟩ := ra.get k1
    obtain ⟨u2, j3, j4⟩ := rb.get k2
    have ex := ex xs sa2
    have ey := ey ys sb2
    rw [j1] at ex; cases ex
    rw [j3] at ey; cases ey
    have x3 : Ext Φ2 H2 Φ2 (upd H2 T (.tup [x1, y1])) := Ext.alloc x2.sub hT
    rw [List.drop_eq_getElem_cons hlt, k3] at hrest
    unfold lcGo at hrest
    have hta : ftTup is (.tup [e1, e2]) = .ok (is.zip [e1, e2]) := if_pos (by simp [hi2])
    rw [hta] at hrest
    have hrest : ((noX (fc (setS (wipeS ρ vs) (is.zip [e1, e2])))).bind fun k => if k = true then (noX (fe (setS (wipeS ρ vs) (is.zip [e1, e2])))).bind fun y => (lcGo (wipeS ρ vs) (ftTup is) fc fe (ds.drop (i + 1))).bind fun ys => .ok (y :: ys) else lcGo (wipeS ρ vs) (ftTup is) fc fe (ds.drop (i + 1))) = .ok rest := hrest
    obtain ⟨k, hk, hrest⟩ := R.bind_ok hrest
    have hk := noX_ok hk
    have keepD : ∀ {Φ' H'}, Ext Φ2 H2 Φ' H' → H' D = some (.lst acc) ∧ Φ' D = none := fun {Φ' H'} y => by
      refine ⟨y.heap _ _ hD2, ?_⟩
      cases z : Φ' D with
      | none => rfl
      | some u =>
        rcases y.new D u z with w | w
        · rw [hΦ2] at w; cases w
        · rw [hD2] at w; cases w
    refine ⟨T, [x1, y1], rfl, SqT.of upd_same, by simp [hi2], hg.run [x1, y1] (L2.wipe σ vs) _ _ (by simp [hi2]) ?_⟩
    have rws : RepAs X.K Φ2 (is.zip [e1, e2]) (is.zip [x1, y1]) := repAs_zip (.cons (j2.mono x2.mono) (.cons (j4.mono x2.mono) .nil))
    have hin : ∀ p ∈ is.zip [e1, e2], p.1 ∈ vs := fun p hp => hft _ (List.of_mem_zip hp).1
    refine ⟨?_, ?_⟩
    · rw [wipe_setV _ _ (RepAs.fst rws hin), wipe_wipe _ _ fun i h => h]
    have r3 : Rel X.K Φ2 (upd H2 T (.tup [x1, y1])) (setV (L2.wipe σ vs) (is.zip [x1, y1])) (setS (wipeS ρ vs) (is.zip [e1, e2])) := (((r1.ext x2).ext x3).wipe _).setMany rws
    refine ⟨Φ2, _, r3, Run.of_ok hk fun Φ4 H4 b x4 eb => ?_⟩
    cases eb
    cases k with
    | false =>
      rw [if_neg (by decide)] at hrest
      rw [if_neg (by decide)]
      obtain ⟨h1, h2⟩ := keepD (x3.trans x4)
      exact ⟨Φ4, acc, accD, rest, (x2.trans x3).trans x4, h1, h2, racc.mono (x3.trans x4).mono, by omega, hrest, hout⟩
    | true =>
      rw [if_pos rfl] at hrest
      rw [if_pos rfl]
      obtain ⟨y, hy2, hrest⟩ := R.bind_ok hrest
      obtain ⟨ys', hys, hrest⟩ := R.bind_ok hrest
      cases hrest
      refine ⟨Φ4, _, r3.ext x4, Run.of_ok (noX_ok hy2) fun Φ5 H5 v x5 rv => ?_⟩
      have x25 := (x3.trans x4).trans x5
      obtain ⟨h1, h2⟩ := keepD x25
      have x15 := x2.trans x25
      refine ⟨acc, h1, lim_lt (by omega), Φ5, acc ++ [v], accD ++ [y], ys', ⟨x15.mono, fun b u e => ?_, fun b u e => ?_, x15.new⟩, upd_same, h2, (racc.mono x25.mono).append (.cons rv .nil), by simp; omega, hys, by rw [hout]; simp⟩
      · rw [upd_ne (ne_of_none e hD)]; exact x15.heap b u e
      · have hb : b ≠ D := fun z => by subst z; rw [h2] at e; cases e
        rw [upd_ne hb]; exact x15.sub b u e
  · refine .inl ⟨⟨xs, ys, sa2, sb2, by omega⟩, ?_⟩
    have e0 : ds.drop i = [] := List.drop_eq_nil_of_le (by omega)
    rw [e0] at hrest
    cases hrest
    rw [List.append_nil] at hout
    subst hout
    exact q Φ2 H2 D x2 hD hΦ2 (RepOwn.lst hD2 racc)
theorem sn_lcZip {elt e1 e2 : Expr} {tgs : List Expr} {kk : Nat} {tpos zp zpos : Pos} {ifs : List Expr} {scope : Scope} {vs is : List Nat} {gs : TGs} (own : List (Str × Nat)) (hv : own.map (·.2) = vs) {pos : Pos} {fs : Ev (List D)} {fc : Ev Bool} {fe : Ev D} (hc : X.calm = true) (hN : X.N.Nodup) (hgz : Gl X "zip") (hmz : X.mg "zip" = none) (ha : SA X cs W [e1, e2] fs) (ok : BlkOk X.N X.env.scope scope own)
    (hft : ∀ p ∈ is, p ∈ vs) (hi2 : is.length = 2)
    (hg : ∀ (s : Shared) (H : Hp) (C : Addr) (cl : List (Str × Addr)) (fp : List Addr), Tgs (X.blk s H scope (compEnvC scope cl C X.env) fp) tgs gs is)
    (hn : ∀ (env : Env), (assignEach tgs env).length = is.length) (hst : ∀ (env : Env), (assignEach tgs env).findIdx? (·.1) = none)
    (ht : ∀ (s : Shared) (H : Hp) (C : Addr) (cl : List (Str × Addr)) (fp : List Addr), STs (X.blk s H scope (compEnvC scope cl C X.env) fp) cs W0 ifs fc)
    (he : ∀ (s : Shared) (H : Hp) (C : Addr) (cl : List (Str × Addr)) (fp : List Addr), SD (X.blk s H scope (compEnvC scope cl C X.env) fp) cs W0 elt fe)
    (hs : ∀ x, foldedSetIterable (.Call (.Name "zip" zp) [e1, e2] [] zpos) X.env x = pure x := by intro _; rfl) (hs2 : starEach [e1, e2] X.env = (false, eval e1 X.env) :: starEach [e2] X.env := by rfl) (hpl : (backTo zpos (starEach [e2] X.env)).any (·.1) = false := by rfl) :
    SN X cs W (.ListComp elt [⟨.Tuple tgs kk tpos, .Call (.Name "zip" zp) [e1, e2] [] zpos, ifs, 0⟩] scope pos) (eLc vs (iRg gZip fs) (ftTup is) fc fe) := by
  subst hv
  exact peImp (pe_lc (tt := tG X.K cs rB W0 fc) (te := tG X.K cs (rD X.K) W0 fe) hc hN (RZ.pi_zipA hgz hmz ha hs2 hpl) ok (fun s H C cl fp => pg_tup (X := X.blk s H scope (compEnvC scope cl C X.env) fp) hc (hg s H C cl fp).pg (hn _) (hst _)) ht he hs) fun σ H Q h => lcz_run (XB := X.blk X.s_0 H scope (compEnvC scope [] 0 X.env) []) hft hi2 (hg X.s_0 H 0 [] []) h
end
end PL
set_option Elab.async false
set_option linter.all false
set_option maxRecDepth 100000
namespace PL
set_option autoImplicit false
open PySem PySem.Spec PyProof.Rows L2
def chrR : D → R (List D)
  | .str s => .ok (s.map fun c => .str [c])
  | _ => .stuck
def iChr (fa : Ev D) : Ev (List D) := fun ρ => (fa ρ).bind chrR
theorem walk_chr {K : PySem.W.Frag} {Φ : Hp} {y : Str} {s : List Nat} (hy : y.cps.toList = s) : WalksF K (Its y) (s.map fun c => .str [c]) Φ := by
  have hl : y.cps.size = s.length := by rw [← hy]; simp
  refine ⟨fun Φ1 H1 i m s1 hi => ?_, fun Φ1 H1 i m s1 hi => ?_, fun Φ1 H1 i v H' d m s1 hd yl => ?_⟩
  · show i < y.cps.size
    rw [List.length_map] at hi; omega
  · show y.cps.size ≤ i
    rw [List.length_map] at hi; omega
  · obtain ⟨rfl, c, hc, rfl⟩ := yl
    refine ⟨Φ1, Ext.refl s1, ?_⟩
    have h2 : s[i]? = some c := by rw [← hy]; simpa using hc
    rw [List.getElem?_map, h2] at hd
    cases hd
    exact .str _ _ rfl
section
variable {X : Cx} {cs : Nat → Addr} {W : WX} {e tg : Expr} {fa : Ev D}
theorem sif_chr (h : SD X cs W e fa) : SIF X cs W tg e (iChr fa) := piImp (pi_str h) fun σ H Q ⟨Φ, ρ, r, q⟩ => tG.bind (rp := rD X.K) r q fun Φ1 H1 d v r1 x rep q => by
  unfold chrR at q
  split at q
  next s =>
    cases rep with
    | str y _ hy => exact ⟨y, rfl, q.ok r1.sub (walk_chr hy)⟩
  next => exact q.elim
end
end PL
set_option Elab.async false
set_option linter.all false
set_option maxRecDepth 100000
namespace PL
set_option autoImplicit false
open PySem PySem.Spec PyProof.Rows L2
def rCntF (K : PySem.W.Frag) : V → List V → Hp → VK → Prop := fun x xs H Q => ∃ (p : Addr) (ys : List V) (k : V), x = .ref p ∧ xs = [k] ∧ SqL K H p ys ∧ flatV k = true ∧ ys.all flatV = true ∧ Q (.int ((ys.countP fun y => eqV y k : Nat) : Int)) H
theorem countP_eqU {x : V} : ∀ {xs : List V} {us : List Value}, Vals xs us → xs.all flatV = true → us.countP (eqU x) = xs.countP fun y => eqV y x
  | _, _, .nil, _ => rfl
  | y :: xs, u :: us, .cons r t, f => by
    rw [List.all_cons, Bool.and_eq_true] at f
    rw [List.countP_cons, List.countP_cons, eqU_of r f.1, countP_eqU t f.2]
theorem mt_cntF {X : Cx} : MtR X "list.count" (rCntF X.K) := by
  intro pins s σ H x xs v us Q I rx rxs h
  obtain ⟨p, ys, k, rfl, rfl, hs, fk, fs, q⟩ := h
  cases rx
  obtain ⟨u, rfl, ru⟩ := rxs.one
  obtain ⟨its, rv, ⟨⟨cls, dd, data, sl⟩, n, ho, hc, hdn, hd⟩, hlen⟩ := I.list hs
  simp only at hc hd
  subst hc hd
  refine call_meets PySem.F.slot_list_count ⟨_, ho, rfl⟩ PySem.F.entry_list_count (PySem.F.args_list_count_2 _ _)
    (SeqAt.list_countAt p its.toArray n dd sl u (eqU k)) ⟨ho, fun y hy => mem_eqAt ru fk rv fs y (by simpa using hy), ?_⟩
  have ec : its.toArray.toList.countP (eqU k) = ys.countP fun y => eqV y k := countP_eqU rv fs
  refine ⟨.int ((ys.countP fun y => eqV y k : Nat) : Int), H, I.tok _, ⟨s.toks, ?_⟩, q⟩
  show Value.int ((its.toArray.toList.countP (eqU k) : Nat) : Int) s.toks = Value.int ((ys.countP fun y => eqV y k : Nat) : Int) s.toks
  rw [ec]
theorem RepDs.cntF {K : PySem.W.Frag} {Φ : Hp} {x : D} {v : V} (hx : RepD K Φ x v) : ∀ {ds : List D} {vs : List V}, RepDs K Φ ds vs → (ds.countP fun y => PL.eqF y x) = vs.countP fun y => eqV y v
  | _, _, .nil => rfl
  | _, _, .cons h r => by rw [List.countP_cons, List.countP_cons, h.eqF hx, RepDs.cntF hx r]
def gCntL (ds : List D) (x : D) : R D := if x.flat = true ∧ ds.all D.flat = true then .ok (.int ((ds.countP fun y => eqF y x : Nat) : Int)) else .stuck
def cntR (fe : Ev D) (ρ : List Sl) : D → R D
  | .lst ds => (fe ρ).bind (gCntL ds)
  | _ => .stuck
def eCnt (fa fe : Ev D) : Ev D := fun ρ => (fa ρ).bind (cntR fe ρ)
def gLow : D → R D
  | .str s => .ok (.bl (Txt.islower ⟨s.toArray⟩))
  | _ => .stuck
section
variable {X : Cx} {cs : Nat → Addr} {W : WX} {o e : Expr} {fa fe : Ev D} {apos cpos : Pos}
theorem sd_cnt (ho : SV X cs W o fa) (he : SV X cs W e fe)
    (hbase : attributeBase o "count" X.env (eval o X.env) = eval o X.env := by rfl)
    (hfew : ((backTo cpos (starEach [e] X.env)).all (fun x => !x.1) && (backToKw cpos (keywordEach [] X.env)).all (fun x => x.1.isSome)
      && decide ([e].length + ([] : List Keyword).length + (if ([] : List Keyword).isEmpty then 0 else 1) < 30)) = true := by rfl)
    (hline : (apos.endLine == cpos.line) = true := by rfl) (hs : starEach [e] X.env = (false, eval e X.env) :: starEach [] X.env := by rfl) (hplain : (backTo cpos (starEach [] X.env)).any (·.1) = false := by rfl) :
    SD X cs W (.Call (.Attribute o "count" apos) [e] [] cpos) (eCnt fa fe) :=
  peImp (pe_bm PySem.F.plainAttrs_list PySem.F.slot_list_count PySem.F.type_list_count mt_cntF ho (pa_cons he pa_nil hs) hbase hfew hline hs hplain) fun σ H Q ⟨Φ, ρ, r, q⟩ => by
    refine tG.bind (rp := rV X.K) r q fun Φ1 H1 d v r1 _ rep q => ?_
    unfold cntR at q
    split at q
    next ds =>
      obtain ⟨a, vs, rfl, h1, h2⟩ := rep.lst_inv r1.sub
      refine ⟨.inl ⟨rfl, _, SqL.of h1⟩, tG.bind (rp := rV X.K) r1 q fun Φ2 H2 z u r2 x2 rz q => ?_⟩
      unfold gCntL at q
      split at q
      next hf =>
        have rz' := rz.flatD hf.1
        refine ⟨a, vs, u, rfl, rfl, SqL.of (x2.heap _ _ h1), rz'.flat hf.1, h2.flat hf.2, ?_⟩
        rw [← (h2.mono x2.mono).cntF rz']
        exact q.ok r2.sub (.int _)
      next => exact q.elim
    next => exact q.elim
theorem sd_low (ho : SD X cs W o fa)
    (hbase : attributeBase o "islower" X.env (eval o X.env) = eval o X.env := by rfl) (hline : (apos.endLine == cpos.line) = true := by rfl) :
    SD X cs W (.Call (.Attribute o "islower" apos) [] [] cpos) (e1 gLow fa) :=
  peImp (pe_bm0 PySem.F.plainAttrs_str PySem.F.slot_str_islower PySem.F.type_str_islower mt_islower ho hbase hline) fun σ H Q ⟨Φ, ρ, r, q⟩ => by
    refine tG.bind (rp := rD X.K) r q fun Φ1 H1 d v r1 _ rep q => ?_
    unfold gLow at q
    split at q
    next s =>
      cases rep with
      | str x _ hx =>
        refine ⟨rfl, x, rfl, rfl, trivial, ?_⟩
        rw [← str_of hx] at q
        exact q.ok r1.sub (.bl _)
    next => exact q.elim
end
def kAppT (i l : Nat) : D → List Sl → RS := fun d => mutS i gAppend (aCons (eTup (aCons (eC d) (aCons (eFrz l) aNil))) aNil) kNx
end PL
set_option Elab.async false
set_option linter.all false
set_option maxRecDepth 100000
namespace PL
set_option autoImplicit false
open PySem PySem.Spec PyProof.Rows L2
def NoneT (K : PySem.W.Frag) (H : Hp) (z : V) : Prop := z = .non ∨ ∃ a xs, z = .ref a ∧ SqT K H a xs
section
variable {X : Cx}
theorem noneT_is {z : V} {u : Value} {K : PySem.W.Frag} {H : Hp} (r : RelV z u) (f : NoneT K H z) : PySem.Numpy.isNone u = isNon z := by
  rcases f with rfl | ⟨a, xs, rfl, _⟩ <;> (cases r; rfl)
theorem noneT_any {K : PySem.W.Frag} {H : Hp} : ∀ {xs : List V} {us : List Value}, Vals xs us → (∀ z ∈ xs, NoneT K H z) → us.any PySem.Numpy.isNone = xs.any isNon
  | _, _, .nil, _ => rfl
  | y :: xs, u :: us, .cons r t, f => by
    rw [List.any_cons, List.any_cons, noneT_is r (f y (List.mem_cons_self ..)), noneT_any t fun z hz => f z (List.mem_cons_of_mem _ hz)]
theorem noneT_eq {A : Around} {pins : List (Addr × Obj)} {σ : L2.St} {H : Hp} {s : Shared} (I : Inv X pins σ H s) (hu : A.units < cLine) {z : V} {u : Value} (r : RelV z u) (f : NoneT X.K H z) : SeqAt.EqAt A s u .none (PySem.Numpy.isNone u) := by
  rcases f with rfl | ⟨a, xs, rfl, ha⟩
  · cases r
    exact SeqAt.EqAt.same _
  · cases r
    obtain ⟨its, rv, ht, _⟩ := I.tuple ha
    exact SeqAt.EqAt.tuple_none ht hu
theorem noneT_mem {A : Around} {pins : List (Addr × Obj)} {σ : L2.St} {H : Hp} {s : Shared} (I : Inv X pins σ H s) (hu : A.units < cLine) : ∀ {xs : List V} {us : List Value}, Vals xs us → (∀ z ∈ xs, NoneT X.K H z) → ∀ u ∈ us, SeqAt.EqAt A s u .none (PySem.Numpy.isNone u)
  | _, _, .nil, _ => fun u hu' => by cases hu'
  | y :: xs, u :: us, .cons r t, f => fun u' hu' => by
    rcases List.mem_cons.mp hu' with e | hu'
    · subst e
      exact noneT_eq I hu r (f y (List.mem_cons_self ..))
    · exact noneT_mem I hu t (fun z hz => f z (List.mem_cons_of_mem _ hz)) u' hu'
def rNoneT (K : PySem.W.Frag) : R2 := fun x y H Q => ∃ p xs, x = .non ∧ y = .ref p ∧ SqL K H p xs ∧ (∀ z ∈ xs, NoneT K H z) ∧ Q (.bl (xs.any isNon)) H
theorem op_noneT (hu : X.A.units + 64 < cLine) : OpR X (compareOp .In) (rNoneT X.K) := by
  intro pins s σ H x y v u Q I rx ry h
  obtain ⟨p, xs, rfl, rfl, hq, f, q⟩ := h
  cases rx
  cases ry
  obtain ⟨its, rv, hl, _⟩ := I.list hq
  have hu1 : X.A.in1.units < cLine := by show X.A.units + 1 < cLine; omega
  refine SeqAt.in_listAt PySem.Numpy.isNone hl.isList (fun z hz => noneT_mem I hu1 rv f z (by simpa using hz)) ⟨.bl _, H, I, rfl, ?_⟩
  rw [show its.toArray.any PySem.Numpy.isNone = its.any PySem.Numpy.isNone by simp, noneT_any rv f]
  exact q
end
def D.isTN : D → Bool
  | .non => true
  | .tup _ => true
  | _ => false
def gNoneIn : D → D → R Bool
  | .non, .lst ds => if ds.all D.isTN = true then .ok (ds.any D.isNon) else .stuck
  | _, _ => .stuck
theorem RepDs.tn {K : PySem.W.Frag} {Φ H : Hp} (m : Same Φ H) : ∀ {ds : List D} {vs : List V}, RepDs K Φ ds vs → ds.all D.isTN = true → (∀ z ∈ vs, NoneT K H z) ∧ vs.any L2.isNon = ds.any D.isNon
  | _, _, .nil, _ => ⟨fun z hz => (by cases hz), rfl⟩
  | d :: ds, v :: vs, .cons h r, f => by
    rw [List.all_cons, Bool.and_eq_true] at f
    obtain ⟨h1, h2⟩ := RepDs.tn m r f.2
    have hk : NoneT K H v ∧ L2.isNon v = d.isNon := by
      cases h with
      | non => exact ⟨.inl rfl, rfl⟩
      | tup a b c => exact ⟨.inr ⟨_, _, rfl, sqT_mono m a⟩, rfl⟩
      | _ => cases f.1
    refine ⟨fun z hz => ?_, by rw [List.any_cons, List.any_cons, hk.2, h2]⟩
    rcases List.mem_cons.mp hz with rfl | hz
    · exact hk.1
    · exact h1 z hz
section
variable {X : Cx} {cs : Nat → Addr} {W : WX} {a b : Expr} {fa fb : Ev D} {pos : Pos}
theorem st_noneIn (hu : X.A.units + 64 < cLine) (ha : SV X cs W a fa) (hb : SV X cs W b fb) (hm : behindInMarks .In b = false := by rfl) : ST X cs W (.Compare a [.In] [b] pos) (e2 gNoneIn fa fb) :=
  st_cmp (op_noneT hu) (fun σ Φ H Q v u d e m r1 r2 q => by
    unfold gNoneIn at q
    split at q
    next ds =>
      cases r1.non_inv
      obtain ⟨p, vs, rfl, h1, h2⟩ := r2.lst_inv m
      split at q
      next hf =>
        obtain ⟨k1, k2⟩ := h2.tn m hf
        exact ⟨p, vs, rfl, rfl, SqL.of h1, k1, _, rfl, by rw [k2]; exact q.ok m rfl⟩
      next => exact q.elim
    next => exact q.elim) ha hb hm
end
end PL
set_option Elab.async false
set_option linter.all false
set_option maxRecDepth 100000
namespace PL
set_option autoImplicit false
open PySem PySem.Spec PyProof.Rows L2
def enSR : D → R (List D)
  | .str s => .ok (enD 0 (s.map fun c => .str [c]))
  | _ => .stuck
def iEnC (fa : Ev D) : Ev (List D) := fun ρ => (fa ρ).bind enSR
end PL
set_option Elab.async false
set_option linter.all false
set_option maxRecDepth 100000
namespace PL
set_option autoImplicit false
open L2
def limR {α : Type} (n : Nat) (r : R α) : R α := if n ≤ LIM then r else .stuck
theorem tr {α : Type} {a b : α} (h : a = b) : a = b := h
@[simp] theorem limR_ok {α : Type} (n : Nat) (r : R α) (h : n ≤ 1000000) : limR n r = r := if_pos h
@[simp] theorem gIx_tup (ds : List D) (i : Int) : gIx (.tup ds) (.int i) = oR (L2.atI ds i) := tr rfl
@[simp] theorem gIx_lst (ds : List D) (i : Int) : gIx (.lst ds) (.int i) = oR (L2.atI ds i) := tr rfl
@[simp] theorem gIx_scr (ns : List Int) (i : Int) : gIx (.scr ns) (.int i) = oR (L2.atI (ns.map D.int) i) := tr rfl
@[simp] theorem gIx_str (s : List Nat) (i : Int) (h : s.length ≤ 1000000) : gIx (.str s) (.int i) = (oR (L2.atI s i)).bind fun c => .ok (.str [c]) := if_pos h
@[simp] theorem gEq_ii (i j : Int) : gEq (.int i) (.int j) = .ok (decide (i = j)) := tr rfl
@[simp] theorem gEq_ss (i j : List Nat) : gEq (.str i) (.str j) = .ok (decide (i = j)) := tr rfl
@[simp] theorem gEq_bb (i j : Bool) : gEq (.bl i) (.bl j) = .ok (decide (i = j)) := tr rfl
@[simp] theorem gNe_ii (i j : Int) : gNe (.int i) (.int j) = .ok (!decide (i = j)) := tr rfl
@[simp] theorem gNe_ss (i j : List Nat) : gNe (.str i) (.str j) = .ok (!decide (i = j)) := tr rfl
@[simp] theorem gNe_bb (i j : Bool) : gNe (.bl i) (.bl j) = .ok (!decide (i = j)) := tr rfl
@[simp] theorem gCmp_ii (p : Int → Int → Bool) (i j : Int) : gCmp p (.int i) (.int j) = .ok (p i j) := tr rfl
@[simp] theorem gAdd_ii (i j : Int) : gAdd (.int i) (.int j) = .ok (.int (i + j)) := tr rfl
@[simp] theorem gAdd_ss (x y : List Nat) (h : x.length + y.length ≤ 1000000) : gAdd (.str x) (.str y) = .ok (.str (x ++ y)) := if_pos h
@[simp] theorem gAdd_ll (x y : List D) (h : x.length + y.length ≤ 1000000) : gAdd (.lst x) (.lst y) = .ok (.lst (x ++ y)) := if_pos h
@[simp] theorem gAdd_tt (x y : List D) (h : x.length + y.length ≤ 1000000) : gAdd (.tup x) (.tup y) = .ok (.tup (x ++ y)) := if_pos h
@[simp] theorem gCat_ll (x y : List D) (h : x.length + y.length ≤ 1000000) : gCat (.lst x) (.lst y) = .ok (.lst (x ++ y)) := if_pos h
@[simp] theorem gSub_ii (i j : Int) : gSub (.int i) (.int j) = .ok (.int (i - j)) := tr rfl
theorem gMul_ok {i j : Int} (h : MulOk i j = true) : gMulI (.int i) (.int j) = .ok (.int (i * j)) := if_pos h
theorem mulOk_l {i j : Int} (h : i.natAbs < 2 ^ 64) : MulOk i j = true := by simp [MulOk, h]
theorem mulOk_r {i j : Int} (h : j.natAbs < 2 ^ 64) : MulOk i j = true := by simp [MulOk, h]
@[simp] theorem gMul_l (i j : Int) (h : -1000000000000 ≤ i) (h2 : i ≤ 1000000000000) : gMulI (.int i) (.int j) = .ok (.int (i * j)) := gMul_ok (mulOk_l (by omega))
@[simp] theorem gMul_r (i j : Int) (h : -1000000000000 ≤ j) (h2 : j ≤ 1000000000000) : gMulI (.int i) (.int j) = .ok (.int (i * j)) := gMul_ok (mulOk_r (by omega))
@[simp] theorem gDiv_ii (i j : Int) (h : 0 < j) (h2 : j < 1073741824) : gDiv (.int i) (.int j) = .ok (.int (i / j)) := if_pos ⟨h, h2⟩
@[simp] theorem gMod_ii (i j : Int) (h : 0 < j) : gMod (.int i) (.int j) = .ok (.int (i % j)) := if_pos h
@[simp] theorem gPow_ii (i j : Int) (h : 0 ≤ j ∧ j ≤ 1000000 ∧ i.natAbs < 2 ^ 64) : gPow (.int i) (.int j) = .ok (.int (i ^ j.toNat)) := if_pos h
@[simp] theorem gShr_ii (i j : Int) (h : 0 ≤ j) : gShr (.int i) (.int j) = .ok (.int (i / 2 ^ j.toNat)) := if_pos h
@[simp] theorem gAnd_ii (i j : Int) : gAnd (.int i) (.int j) = .ok (.int (PySem.Builtin.bitAnd i j)) := tr rfl
@[simp] theorem gOr_ii (i j : Int) : gOr (.int i) (.int j) = .ok (.int (PySem.Builtin.bitOr i j)) := tr rfl
@[simp] theorem gXor_ii (i j : Int) : gXor (.int i) (.int j) = .ok (.int (PySem.Builtin.bitXor i j)) := tr rfl
@[simp] theorem gNeg_i (i : Int) : gNeg (.int i) = .ok (.int (-i)) := tr rfl
@[simp] theorem gLen_str (s : List Nat) (h : s.length ≤ 1000000) : gLen [.str s] = .ok (.int s.length) := if_pos h
@[simp] theorem gLen_tup (s : List D) : gLen [.tup s] = .ok (.int s.length) := tr rfl
@[simp] theorem gLen_lst (s : List D) : gLen [.lst s] = .ok (.int s.length) := tr rfl
@[simp] theorem gLen_scr (s : List Int) : gLen [.scr s] = .ok (.int s.length) := by simp [gLen, D.items, oR, R.bind]
@[simp] theorem gIntOf_i (i : Int) : gIntOf [.int i] = .ok (.int i) := tr rfl
@[simp] theorem gIntOf_b (k : Bool) : gIntOf [.bl k] = .ok (.int (if k then 1 else 0)) := tr rfl
@[simp] theorem gMax2_ii (i j : Int) : gMax2 [.int i, .int j] = .ok (.int (if j > i then j else i)) := tr rfl
@[simp] theorem gMin2_ii (i j : Int) : gMin2 [.int i, .int j] = .ok (.int (if j < i then j else i)) := tr rfl
@[simp] theorem gTupleOf_t (ds : List D) : gTupleOf [.tup ds] = .ok (.tup ds) := tr rfl
@[simp] theorem gTupleOf_l (ds : List D) : gTupleOf [.lst ds] = .ok (.tup ds) := tr rfl
@[simp] theorem gTupleOf_s (ns : List Int) : gTupleOf [.scr ns] = .ok (.tup (ns.map D.int)) := tr rfl
@[simp] theorem gListOf_t (ds : List D) : gListOf [.tup ds] = .ok (.lst ds) := tr rfl
@[simp] theorem gListOf_l (ds : List D) : gListOf [.lst ds] = .ok (.lst ds) := tr rfl
@[simp] theorem gListOf_s (ns : List Int) : gListOf [.scr ns] = .ok (.lst (ns.map D.int)) := tr rfl
/-- the order and equality of numbers as plain functions (no instance within) -/
def ltb (a b : Nat) : Bool := decide (a < b)
def eqb (a b : Nat) : Bool := decide (a = b)
theorem ltb_dec (a b : Nat) : ltb a b = decide (a < b) := rfl
theorem eqb_dec (a b : Nat) : eqb a b = decide (a = b) := rfl
theorem cl1 (n : Nat) : decide ((n : Int) < 1) = ltb n 1 := by rw [ltb_dec]; exact decide_eq_decide.mpr (by omega)
theorem ce1 (n : Nat) : decide ((n : Int) = 1) = eqb n 1 := by rw [eqb_dec]; exact decide_eq_decide.mpr (by omega)
theorem cl2 (n : Nat) : decide ((n : Int) < 2) = ltb n 2 := by rw [ltb_dec]; exact decide_eq_decide.mpr (by omega)
theorem ce2 (n : Nat) : decide ((n : Int) = 2) = eqb n 2 := by rw [eqb_dec]; exact decide_eq_decide.mpr (by omega)
theorem cl3 (n : Nat) : decide ((n : Int) < 3) = ltb n 3 := by rw [ltb_dec]; exact decide_eq_decide.mpr (by omega)
theorem ce3 (n : Nat) : decide ((n : Int) = 3) = eqb n 3 := by rw [eqb_dec]; exact decide_eq_decide.mpr (by omega)
theorem cl4 (n : Nat) : decide ((n : Int) < 4) = ltb n 4 := by rw [ltb_dec]; exact decide_eq_decide.mpr (by omega)
theorem ce4 (n : Nat) : decide ((n : Int) = 4) = eqb n 4 := by rw [eqb_dec]; exact decide_eq_decide.mpr (by omega)
theorem cl5 (n : Nat) : decide ((n : Int) < 5) = ltb n 5 := by rw [ltb_dec]; exact decide_eq_decide.mpr (by omega)
@[simp] theorem andR_b (k : Bool) (x : R D) : andR (.bl k) x = if k = true then x else .ok (.bl false) := by cases k <;> rfl
@[simp] theorem orR_b (k : Bool) (x : R D) : orR (.bl k) x = if k = true then .ok (.bl true) else x := by cases k <;> rfl
@[simp] theorem notR_b (k : Bool) : notR (.bl k) = .ok (.bl (!k)) := tr rfl
@[simp] theorem R_ite {α : Type} (c : Prop) [Decidable c] (a b : α) : (if c then R.ok a else R.ok b) = R.ok (if c then a else b) := by split <;> rfl
@[simp] theorem bl_ite (c : Prop) [Decidable c] (a b : Bool) : (if c then D.bl a else D.bl b) = D.bl (if c then a else b) := by split <;> rfl
@[simp] theorem tBool_b (k : Bool) : tBool (.bl k) = .ok k := tr rfl
theorem atI_of {α : Type} (xs : List α) (j : Nat) (h : j < xs.length) : L2.atI xs (j : Int) = some xs[j] := by
  unfold L2.atI
  rw [ixN_of _ _ h]
  simp [h]
section
variable {α β : Type}
@[simp] theorem bind_ok (a : α) (k : α → R β) : (R.ok a).bind k = k a := tr rfl
@[simp] theorem bind_exc (x : Exn) (k : α → R β) : (R.exc x : R α).bind k = .exc x := tr rfl
@[simp] theorem bind_stuck (k : α → R β) : (R.stuck : R α).bind k = .stuck := tr rfl
@[simp] theorem oR_some (a : α) : oR (some a) = .ok a := tr rfl
@[simp] theorem oR_none : oR (none : Option α) = .stuck := tr rfl
@[simp] theorem noX_ok' (a : α) : noX (.ok a) = .ok a := tr rfl
@[simp] theorem tryE_ok (ρ : List Sl) (a : α) (k : α → RS) : tryE ρ (.ok a) k = k a := tr rfl
@[simp] theorem tryE_exc (ρ : List Sl) (x : Exn) (k : α → RS) : tryE ρ (.exc x) k = .exc x ρ := tr rfl
@[simp] theorem tryE_stuck (ρ : List Sl) (k : α → RS) : tryE ρ .stuck k = .stuck := tr rfl
end
def RS.seq (r : RS) (g : Es) : RS := match r with
  | .nx ρ' => g ρ'
  | r => r
@[simp] theorem seq_nx (ρ : List Sl) (g : Es) : RS.seq (.nx ρ) g = g ρ := tr rfl
@[simp] theorem seq_rt (v : Sl) (ρ : List Sl) (g : Es) : RS.seq (.rt v ρ) g = .rt v ρ := tr rfl
@[simp] theorem seq_bk (ρ : List Sl) (g : Es) : RS.seq (.bk ρ) g = .bk ρ := tr rfl
@[simp] theorem seq_ct (ρ : List Sl) (g : Es) : RS.seq (.ct ρ) g = .ct ρ := tr rfl
@[simp] theorem seq_exc (x : Exn) (ρ : List Sl) (g : Es) : RS.seq (.exc x ρ) g = .exc x ρ := tr rfl
@[simp] theorem seq_stuck (g : Es) : RS.seq .stuck g = .stuck := tr rfl
@[simp] theorem seqS_eq (f g : Es) (ρ : List Sl) : seqS f g ρ = RS.seq (f ρ) g := tr rfl
@[simp] theorem skipS_eq (ρ : List Sl) : skipS ρ = .nx ρ := tr rfl
@[simp] theorem ctS_eq (ρ : List Sl) : ctS ρ = .ct ρ := tr rfl
@[simp] theorem bkS_eq (ρ : List Sl) : bkS ρ = .bk ρ := tr rfl
@[simp] theorem asgS_eq (ft : D → R (List (Nat × D))) (fe : Ev D) (ρ : List Sl) : asgS ft fe ρ = tryE ρ ((fe ρ).bind ft) fun as => .nx (setS ρ as) := tr rfl
@[simp] theorem asgN_eq (i : Nat) (fe : Ev D) (ρ : List Sl) : asgN i fe ρ = tryE ρ (fe ρ) fun d => .nx (ρ.set i (.own d)) := tr rfl
def par2 (i j : Nat) (ρ : List Sl) (ds : List D) : RS := match ds with
  | [x, y] => .nx (setS ρ [(i, x), (j, y)])
  | _ => .stuck
@[simp] theorem par2_eq (i j : Nat) (ρ : List Sl) (x y : D) : par2 i j ρ [x, y] = .nx (setS ρ [(i, x), (j, y)]) := tr rfl
@[simp] theorem parS_eq (i j : Nat) (fs : Ev (List D)) (ρ : List Sl) : parS i j fs ρ = tryE ρ (fs ρ) (par2 i j ρ) := tr rfl
def ifK (f g : Es) (ρ : List Sl) (k : Bool) : RS := if k = true then f ρ else g ρ
@[simp] theorem ifK_t (f g : Es) (ρ : List Sl) : ifK f g ρ true = f ρ := tr rfl
@[simp] theorem ifK_f (f g : Es) (ρ : List Sl) : ifK f g ρ false = g ρ := tr rfl
@[simp] theorem ifS_eq (fc : Ev Bool) (f g : Es) (ρ : List Sl) : ifS fc f g ρ = tryE ρ (fc ρ) (ifK f g ρ) := tr rfl
@[simp] theorem retS_eq (fe : Ev D) (ρ : List Sl) : retS fe ρ = tryE ρ (fe ρ) fun d => .rt (.val d) ρ := tr rfl
@[simp] theorem retN_eq (fe : Ev D) (ρ : List Sl) : retN fe ρ = tryE ρ (fe ρ) fun d => .rt (.own d) ρ := tr rfl
@[simp] theorem retNone_eq (ρ : List Sl) : retNone ρ = .rt (.val .non) ρ := tr rfl
def rtSl (i : Nat) (ρ : List Sl) (s : Option Sl) : RS := match s with
  | some (.val d) => .rt (.val d) ρ
  | some (.own d) => .rt (.own d) (ρ.set i .emp)
  | _ => .stuck
@[simp] theorem rtSl_val (i : Nat) (ρ : List Sl) (d : D) : rtSl i ρ (some (.val d)) = .rt (.val d) ρ := tr rfl
@[simp] theorem rtSl_own (i : Nat) (ρ : List Sl) (d : D) : rtSl i ρ (some (.own d)) = .rt (.own d) (ρ.set i .emp) := tr rfl
@[simp] theorem retV_eq (i : Nat) (ρ : List Sl) : retV i ρ = rtSl i ρ ρ[i]? := tr rfl
def frz1 (ρ : List Sl) (i : Nat) (s : Option Sl) : List Sl := match s with
  | some (.own d) => ρ.set i (.val d)
  | _ => ρ
@[simp] theorem frz1_own (i : Nat) (ρ : List Sl) (d : D) : frz1 ρ i (some (.own d)) = ρ.set i (.val d) := tr rfl
@[simp] theorem frz1_val (i : Nat) (ρ : List Sl) (d : D) : frz1 ρ i (some (.val d)) = ρ := tr rfl
@[simp] theorem frz1_emp (i : Nat) (ρ : List Sl) : frz1 ρ i (some .emp) = ρ := tr rfl
@[simp] theorem frzS_eq (i : Nat) (f : Es) (ρ : List Sl) : frzS i f ρ = f (frz1 ρ i ρ[i]?) := tr rfl
@[simp] theorem e1_eq {α : Type} (g : D → R α) (fa : Ev D) (ρ : List Sl) : e1 g fa ρ = (fa ρ).bind g := tr rfl
@[simp] theorem e2_eq {α : Type} (g : D → D → R α) (fa fb : Ev D) (ρ : List Sl) : e2 g fa fb ρ = (fa ρ).bind fun x => (fb ρ).bind (g x) := tr rfl
def Sl.rd (s : Option Sl) : R D := match s with
  | some (.val d) => .ok d
  | some (.own d) => .ok d
  | _ => .stuck
def Sl.rf (s : Option Sl) : R D := match s with
  | some (.val d) => .ok d
  | _ => .stuck
@[simp] theorem rd_val (d : D) : Sl.rd (some (.val d)) = .ok d := tr rfl
@[simp] theorem rd_own (d : D) : Sl.rd (some (.own d)) = .ok d := tr rfl
@[simp] theorem rf_val (d : D) : Sl.rf (some (.val d)) = .ok d := tr rfl
@[simp] theorem eVar_eq (i : Nat) (ρ : List Sl) : eVar i ρ = Sl.rd ρ[i]? := tr rfl
@[simp] theorem eFrz_eq (i : Nat) (ρ : List Sl) : eFrz i ρ = Sl.rf ρ[i]? := tr rfl
@[simp] theorem eC_eq (d : D) (ρ : List Sl) : eC d ρ = .ok d := tr rfl
@[simp] theorem eBl_eq (f : Ev Bool) (ρ : List Sl) : eBl f ρ = (f ρ).bind fun k => .ok (.bl k) := tr rfl
@[simp] theorem eTup_eq (fs : Ev (List D)) (ρ : List Sl) : eTup fs ρ = (fs ρ).bind fun ds => limR ds.length (.ok (.tup ds)) := tr rfl
@[simp] theorem eLst_eq (fs : Ev (List D)) (ρ : List Sl) : eLst fs ρ = (fs ρ).bind fun ds => limR ds.length (.ok (.lst ds)) := tr rfl
@[simp] theorem aNil_eq (ρ : List Sl) : aNil ρ = .ok [] := tr rfl
@[simp] theorem aCons_eq (fa : Ev D) (fs : Ev (List D)) (ρ : List Sl) : aCons fa fs ρ = (fa ρ).bind fun d => (fs ρ).bind fun ds => .ok (d :: ds) := tr rfl
@[simp] theorem eCall_eq (g : List D → R D) (fs : Ev (List D)) (ρ : List Sl) : eCall g fs ρ = (fs ρ).bind g := tr rfl
def RF.data (r : RF) : R D := match r with
  | .ok (.val d) _ => .ok d
  | .ok (.own d) _ => .ok d
  | .exc x _ => .exc x
  | _ => .stuck
def RF.dataN (r : RF) : R D := match r with
  | .ok (.own d) _ => .ok d
  | .exc x _ => .exc x
  | _ => .stuck
@[simp] theorem data_val (d : D) (l : List Sl) : RF.data (.ok (.val d) l) = .ok d := tr rfl
@[simp] theorem data_own (d : D) (l : List Sl) : RF.data (.ok (.own d) l) = .ok d := tr rfl
@[simp] theorem data_exc (x : Exn) (l : List Sl) : RF.data (.exc x l) = .exc x := tr rfl
@[simp] theorem dataN_own (d : D) (l : List Sl) : RF.dataN (.ok (.own d) l) = .ok d := tr rfl
@[simp] theorem dataN_exc (x : Exn) (l : List Sl) : RF.dataN (.exc x l) = .exc x := tr rfl
@[simp] theorem eFn_eq (G : Fn) (fs : Ev (List D)) (ρ : List Sl) : eFn G fs ρ = (fs ρ).bind fun ds => RF.data (G (ds.map .val)) := tr rfl
@[simp] theorem eFnN_eq (G : Fn) (fs : Ev (List D)) (ρ : List Sl) : eFnN G fs ρ = (fs ρ).bind fun ds => RF.dataN (G (ds.map .val)) := tr rfl
@[simp] theorem eIf_eq (f : Ev Bool) (fa fb : Ev D) (ρ : List Sl) : eIf f fa fb ρ = (f ρ).bind fun k => if k = true then fa ρ else fb ρ := tr rfl
@[simp] theorem eAn_eq (fa fb : Ev D) (ρ : List Sl) : eAn fa fb ρ = (fa ρ).bind fun d => andR d (fb ρ) := tr rfl
@[simp] theorem eOo_eq (fa fb : Ev D) (ρ : List Sl) : eOo fa fb ρ = (fa ρ).bind fun d => orR d (fb ρ) := tr rfl
@[simp] theorem eNt_eq (fa : Ev D) (ρ : List Sl) : eNt fa ρ = (fa ρ).bind notR := tr rfl
@[simp] theorem tNt_eq (f : Ev Bool) (ρ : List Sl) : tNt f ρ = (f ρ).bind fun k => .ok (!k) := tr rfl
@[simp] theorem tAn_eq (f g : Ev Bool) (ρ : List Sl) : tAn f g ρ = (f ρ).bind fun k => if k = true then g ρ else .ok false := tr rfl
@[simp] theorem tOo_eq (f g : Ev Bool) (ρ : List Sl) : tOo f g ρ = (f ρ).bind fun k => if k = true then .ok true else g ρ := tr rfl
@[simp] theorem oNone_eq (ρ : List Sl) : oNone ρ = .ok none := tr rfl
def D.oi (d : D) : R (Option Int) := match d with | .int i => .ok (some i) | _ => .stuck
@[simp] theorem oi_int (i : Int) : D.oi (.int i) = .ok (some i) := tr rfl
@[simp] theorem oSome_eq (fa : Ev D) (ρ : List Sl) : oSome fa ρ = (fa ρ).bind D.oi := tr rfl
@[simp] theorem eSl_eq (fa : Ev D) (fl fh : Ev (Option Int)) (ρ : List Sl) : eSl fa fl fh ρ = (fa ρ).bind fun d => (fl ρ).bind fun lo => (fh ρ).bind fun hi => gSl lo hi d := tr rfl
@[simp] theorem gSl_str (lo hi : Option Int) (s : List Nat) (h : s.length ≤ 1000000) : gSl lo hi (.str s) = .ok (.str (cutL s lo hi)) := if_pos h
@[simp] theorem gSl_lst (lo hi : Option Int) (s : List D) : gSl lo hi (.lst s) = .ok (.lst (cutL s lo hi)) := tr rfl
@[simp] theorem gSl_scr (lo hi : Option Int) (s : List Int) : gSl lo hi (.scr s) = .ok (.lst ((cutL s lo hi).map D.int)) := tr rfl
@[simp] theorem gSl_tup (lo hi : Option Int) (s : List D) : gSl lo hi (.tup s) = .ok (.tup (cutL s lo hi)) := tr rfl
@[simp] theorem eDisp_eq (prs : List (Ev D × Ev D)) (ρ : List Sl) : eDisp prs ρ = (pairsE prs ρ).bind gDisp := tr rfl
@[simp] theorem pairsE_nil (ρ : List Sl) : pairsE [] ρ = .ok [] := tr rfl
@[simp] theorem pairsE_cons (fk fv : Ev D) (r : List (Ev D × Ev D)) (ρ : List Sl) : pairsE ((fk, fv) :: r) ρ = (fk ρ).bind fun k => (fv ρ).bind fun v => (pairsE r ρ).bind fun l => .ok ((k, v) :: l) := tr rfl
@[simp] theorem pLt_eq (i j : Int) : pLt i j = decide (i < j) := tr rfl
@[simp] theorem pGt_eq (i j : Int) : pGt i j = decide (j < i) := tr rfl
@[simp] theorem pGe_eq (i j : Int) : pGe i j = decide (j ≤ i) := tr rfl
def limD (n : Nat) (r : R D) : R D := if n ≤ 15 then r else .stuck
@[simp] theorem limD_ok (n : Nat) (r : R D) (h : n ≤ 15) : limD n r = r := if_pos h
@[simp] theorem gDisp_eq (l : List (D × D)) : gDisp l = (oR (keysC l)).bind fun es => limD es.length (.ok (.dic (mergeC [] es))) := tr rfl
@[simp] theorem keysC_nil : keysC [] = some [] := tr rfl
@[simp] theorem keysC_str (s : List Nat) (d : D) (r : List (D × D)) : keysC ((.str s, d) :: r) = (keysC r).map ((.inr s, d) :: ·) := by
  simp only [keysC, D.key]
  cases keysC r <;> rfl
@[simp] theorem keysC_int (s : Int) (d : D) (r : List (D × D)) : keysC ((.int s, d) :: r) = (keysC r).map ((.inl s, d) :: ·) := by
  simp only [keysC, D.key]
  cases keysC r <;> rfl
@[simp] theorem mergeC_nil (es : List (Kc × D)) : mergeC es [] = es := tr rfl
@[simp] theorem mergeC_cons (es : List (Kc × D)) (k : Kc) (d : D) (r : List (Kc × D)) : mergeC es ((k, d) :: r) = mergeC (putC es k d) r := tr rfl
@[simp] theorem key_int (i : Int) : D.key (.int i) = some (.inl i) := tr rfl
@[simp] theorem key_str (s : List Nat) : D.key (.str s) = some (.inr s) := tr rfl
def getS2 (es : List (Kc × D)) (fb fc : Ev D) (ρ : List Sl) : R D := (fb ρ).bind fun k => (fc ρ).bind fun d => (oR k.key).bind fun kc => .ok ((lookC es kc).getD d)
def get2 (fb fc : Ev D) (ρ : List Sl) (x : D) : R D := match x with
  | .dic es => getS2 es fb fc ρ
  | _ => .stuck
@[simp] theorem get2_dic (fb fc : Ev D) (ρ : List Sl) (es : List (Kc × D)) : get2 fb fc ρ (.dic es) = (fb ρ).bind fun k => (fc ρ).bind fun d => (oR k.key).bind fun kc => .ok ((lookC es kc).getD d) := tr rfl
@[simp] theorem eDget2_eq (fa fb fc : Ev D) (ρ : List Sl) : eDget2 fa fb fc ρ = (fa ρ).bind (get2 fb fc ρ) := by
  show (fa ρ).bind _ = _
  cases fa ρ with
  | ok d => cases d <;> rfl
  | _ => rfl
@[simp] theorem gDix_dic (es : List (Kc × D)) (k : D) : gDix (.dic es) k = (oR k.key).bind fun kc => oR (lookC es kc) := tr rfl
def m1R (g : List Nat → D → R D) (fb : Ev D) (ρ : List Sl) (x : D) : R D := match x with
  | .str s => (fb ρ).bind (g s)
  | _ => .stuck
@[simp] theorem m1R_str (g : List Nat → D → R D) (fb : Ev D) (ρ : List Sl) (s : List Nat) : m1R g fb ρ (.str s) = (fb ρ).bind (g s) := tr rfl
@[simp] theorem eM1_eq (g : List Nat → D → R D) (fa fb : Ev D) (ρ : List Sl) : eM1 g fa fb ρ = (fa ρ).bind (m1R g fb ρ) := tr rfl
@[simp] theorem ftOne_eq (i : Nat) (d : D) : ftOne i d = .ok [(i, d)] := tr rfl
@[simp] theorem ftTup_eq (is : List Nat) (ds : List D) (h : ds.length = is.length) : ftTup is (.tup ds) = .ok (is.zip ds) := if_pos h
@[simp] theorem setS_nil (ρ : List Sl) : setS ρ [] = ρ := tr rfl
@[simp] theorem setS_cons (ρ : List Sl) (i : Nat) (d : D) (r : List (Nat × D)) : setS ρ ((i, d) :: r) = setS (ρ.set i (.val d)) r := tr rfl
@[simp] theorem items_tup (ds : List D) : D.items (.tup ds) = some ds := tr rfl
@[simp] theorem items_lst (ds : List D) : D.items (.lst ds) = some ds := tr rfl
@[simp] theorem items_scr (ns : List Int) : D.items (.scr ns) = some (ns.map D.int) := tr rfl
@[simp] theorem rangeD_length (a b : Int) : (rangeD a b).length = (b - a).toNat := by simp [rangeD]
@[simp] theorem iEn_eq (fa : Ev D) (ρ : List Sl) : iEn fa ρ = (fa ρ).bind fun d => (oR d.items).bind fun ds => .ok (enD 0 ds) := tr rfl
@[simp] theorem iSeq_eq (fa : Ev D) (ρ : List Sl) : iSeq fa ρ = (fa ρ).bind fun d => oR d.items := tr rfl
@[simp] theorem forS_eq (fi : Ev (List D)) (ft : D → R (List (Nat × D))) (fb : Es) (ρ : List Sl) : forS fi ft fb ρ = tryE ρ (fi ρ) fun ds => forGo ft fb ds ρ := tr rfl
@[simp] theorem iRg_eq (g : List D → R (List D)) (fs : Ev (List D)) (ρ : List Sl) : iRg g fs ρ = (fs ρ).bind g := tr rfl
@[simp] theorem gRng1_i (n : Int) (h0 : -1000000000000 ≤ n) (h1 : n ≤ 1000000000000) : gRng1 [.int n] = .ok (rangeD 0 n) := if_pos ⟨by omega, by omega⟩
@[simp] theorem gRng2_ii (a b : Int) (h0 : -1000000000000 ≤ a) (h1 : a ≤ 1000000000000) (h2 : -1000000000000 ≤ b) (h3 : b ≤ 1000000000000) : gRng2 [.int a, .int b] = .ok (rangeD a b) := if_pos ⟨⟨by omega, by omega⟩, by omega, by omega⟩
def mutR (i : Nat) (ρ : List Sl) (k : D → List Sl → RS) (r : R (D × List D)) : RS := match r with
  | .ok (res, ds') => k res (ρ.set i (.own (.lst ds')))
  | _ => .stuck
@[simp] theorem mutR_ok (i : Nat) (ρ : List Sl) (k : D → List Sl → RS) (res : D) (ds' : List D) : mutR i ρ k (.ok (res, ds')) = k res (ρ.set i (.own (.lst ds'))) := tr rfl
def mutL (i : Nat) (g : GL) (fs : Ev (List D)) (k : D → List Sl → RS) (ρ : List Sl) (s : Option Sl) : RS := match s with
  | some (.own (.lst ds)) => tryE ρ (fs ρ) fun args => mutR i ρ k (g ds args)
  | _ => .stuck
@[simp] theorem mutL_own (i : Nat) (g : GL) (fs : Ev (List D)) (k : D → List Sl → RS) (ρ : List Sl) (ds : List D) : mutL i g fs k ρ (some (.own (.lst ds))) = tryE ρ (fs ρ) fun args => mutR i ρ k (g ds args) := tr rfl
@[simp] theorem mutS_eq (i : Nat) (g : GL) (fs : Ev (List D)) (k : D → List Sl → RS) (ρ : List Sl) : mutS i g fs k ρ = mutL i g fs k ρ ρ[i]? := tr rfl
@[simp] theorem pop2S_eq (i j : Nat) (ρ : List Sl) (d1 d2 : D) (ds : List D) (h : ρ[j]? = some (.own (.lst (d1 :: d2 :: ds)))) : pop2S i j ρ = .nx ((ρ.set j (.own (.lst ds))).set i (.val (.tup [d1, d2]))) := by simp [pop2S, h]
@[simp] theorem isVal_val (d : D) : Sl.isVal (.val d) = true := tr rfl
def RS.fin (n np : Nat) (args : List Sl) (r : RS) : RF := match r with
  | .rt r ρ => .ok r (finOf n np args ρ)
  | .nx ρ => .ok (.val .non) (finOf n np args ρ)
  | .exc x ρ => .exc x (finOf n np args ρ)
  | _ => .stuck
@[simp] theorem fin_rt (n np : Nat) (args : List Sl) (r : Sl) (ρ : List Sl) : RS.fin n np args (.rt r ρ) = .ok r (if n ≤ np then ρ.take n else args) := tr rfl
@[simp] theorem fin_nx (n np : Nat) (args : List Sl) (ρ : List Sl) : RS.fin n np args (.nx ρ) = .ok (.val .non) (if n ≤ np then ρ.take n else args) := tr rfl
@[simp] theorem fin_exc (n np : Nat) (args : List Sl) (x : Exn) (ρ : List Sl) : RS.fin n np args (.exc x ρ) = .exc x (if n ≤ np then ρ.take n else args) := tr rfl
theorem bodyF_eq (N n np : Nat) (fb : Es) (args : List Sl) (h : n ≤ np ∨ args.all Sl.isVal = true) : bodyF N n np fb args = RS.fin n np args (fb (args ++ List.replicate (N - n) .emp)) := by
  unfold bodyF; rw [if_pos h]; rfl
@[simp] theorem bodyF_full (N n : Nat) (fb : Es) (args : List Sl) : bodyF N n n fb args = RS.fin n n args (fb (args ++ List.replicate (N - n) .emp)) := bodyF_eq _ _ _ _ _ (.inl (Nat.le_refl _))
@[simp] theorem bodyF_zero (N n : Nat) (fb : Es) (args : List Sl) (h : args.all Sl.isVal = true) : bodyF N n 0 fb args = RS.fin n 0 args (fb (args ++ List.replicate (N - n) .emp)) := bodyF_eq _ _ _ _ _ (.inr h)
@[simp] theorem eLc_eq (vs : List Nat) (fi : Ev (List D)) (ft : D → R (List (Nat × D))) (fc : Ev Bool) (fe : Ev D) (ρ : List Sl) : eLc vs fi ft fc fe ρ = (fi ρ).bind fun ds => limR ds.length ((noX (lcGo (wipeS ρ vs) ft fc fe ds)).bind fun ys => .ok (.lst ys)) := tr rfl
@[simp] theorem wipeS_nil (ρ : List Sl) : wipeS ρ [] = ρ := tr rfl
@[simp] theorem wipeS_cons (ρ : List Sl) (v : Nat) (vs : List Nat) : wipeS ρ (v :: vs) = (wipeS ρ vs).set v .emp := tr rfl
section
variable {α : Type}
@[simp] theorem atI_0 (x : α) (l : List α) : L2.atI (x :: l) 0 = some x := atI_of (x :: l) 0 (by simp)
@[simp] theorem atI_1 (x y : α) (l : List α) : L2.atI (x :: y :: l) 1 = some y := atI_of (x :: y :: l) 1 (by simp)
@[simp] theorem atI_2 (x y z : α) (l : List α) : L2.atI (x :: y :: z :: l) 2 = some z := atI_of (x :: y :: z :: l) 2 (by simp)
@[simp] theorem atI_3 (x y z w : α) (l : List α) : L2.atI (x :: y :: z :: w :: l) 3 = some w := atI_of (x :: y :: z :: w :: l) 3 (by simp)
@[simp] theorem atI_snoc (x : α) (l : List α) : L2.atI (l ++ [x]) (-1) = some x := L2.atI_last l x
@[simp] theorem atI_m1a (x : α) : L2.atI [x] (-1) = some x := L2.atI_last [] x
@[simp] theorem atI_m1b (x y : α) : L2.atI [x, y] (-1) = some y := L2.atI_last [x] y
@[simp] theorem atI_m1c (x y z : α) : L2.atI [x, y, z] (-1) = some z := L2.atI_last [x, y] z
end
@[simp] theorem lim_eq : LIM = 1000000 := tr rfl
@[simp] theorem gAppend_1 (ds : List D) (d : D) (h : ds.length < 1000000) : gAppend ds [d] = .ok (.non, ds ++ [d]) := if_pos h
@[simp] theorem gPop_snoc (ds : List D) (d : D) : gPop (ds ++ [d]) [] = .ok (d, ds) := by
  simp [gPop, oR, R.bind]
/-- a for loop by an invariant: it goes on, or it leaves with an answer -/
theorem forGo_inv {ft : D → R (List (Nat × D))} {fb : Es} (Fin : RS → Prop) : ∀ (ds : List D) (I : Nat → List Sl → Prop) (ρ : List Sl), I 0 ρ →
    (∀ i d ρ, ds[i]? = some d → I i ρ → ∃ as, ft d = .ok as ∧ ((∃ ρ', (fb (setS ρ as) = .nx ρ' ∨ fb (setS ρ as) = .ct ρ') ∧ I (i + 1) ρ') ∨ ((∀ ρ', fb (setS ρ as) ≠ .nx ρ' ∧ fb (setS ρ as) ≠ .ct ρ' ∧ fb (setS ρ as) ≠ .bk ρ') ∧ Fin (fb (setS ρ as))))) →
    (∃ ρ', forGo ft fb ds ρ = .nx ρ' ∧ I ds.length ρ') ∨ Fin (forGo ft fb ds ρ)
  | [], I, ρ, h0, _ => .inl ⟨ρ, rfl, h0⟩
  | d :: ds, I, ρ, h0, hs => by
    obtain ⟨as, ha, h⟩ := hs 0 d ρ rfl h0
    have e : forGo ft fb (d :: ds) ρ = match fb (setS ρ as) with
      | .nx ρ' => forGo ft fb ds ρ'
      | .ct ρ' => forGo ft fb ds ρ'
      | .bk ρ' => .nx ρ'
      | r => r := by
      show tryE ρ (noX (ft d)) (fun as => match fb (setS ρ as) with
        | .nx ρ' => forGo ft fb ds ρ'
        | .ct ρ' => forGo ft fb ds ρ'
        | .bk ρ' => .nx ρ'
        | r => r) = _
      rw [ha]
      rfl
    rcases h with ⟨ρ', h, hI⟩ | ⟨hn, hf⟩
    · have e2 : forGo ft fb (d :: ds) ρ = forGo ft fb ds ρ' := by rcases h with h | h <;> rw [e, h]
      rw [e2]
      rcases forGo_inv Fin ds (fun i => I (i + 1)) ρ' hI (fun i d' ρ1 h1 h2 => hs (i + 1) d' ρ1 (by simpa using h1) h2) with ⟨ρ2, h3, h4⟩ | h3
      · exact .inl ⟨ρ2, h3, h4⟩
      · exact .inr h3
    · refine .inr ?_
      have e2 : forGo ft fb (d :: ds) ρ = fb (setS ρ as) := by
        rw [e]
        cases q : fb (setS ρ as) with
        | nx r => exact absurd q (hn r).1
        | ct r => exact absurd q (hn r).2.1
        | bk r => exact absurd q (hn r).2.2
        | _ => rfl
      rw [e2]; exact hf
/-- a for loop that never leaves -/
theorem forGo_nx {ft : D → R (List (Nat × D))} {fb : Es} (ds : List D) (I : Nat → List Sl → Prop) (ρ : List Sl) (h0 : I 0 ρ)
    (hs : ∀ i d ρ, ds[i]? = some d → I i ρ → ∃ as ρ', ft d = .ok as ∧ (fb (setS ρ as) = .nx ρ' ∨ fb (setS ρ as) = .ct ρ') ∧ I (i + 1) ρ') : ∃ ρ', forGo ft fb ds ρ = .nx ρ' ∧ I ds.length ρ' := by
  rcases forGo_inv (fun _ => False) ds I ρ h0 (fun i d ρ h1 h2 => by
    obtain ⟨as, ρ', h3, h4, h5⟩ := hs i d ρ h1 h2
    exact ⟨as, h3, .inl ⟨ρ', h4, h5⟩⟩) with h | h
  · exact h
  · exact h.elim
/-- a comprehension whose element always comes, no test -/
theorem lcGo_map {ρ : List Sl} {ft : D → R (List (Nat × D))} {fe : Ev D} : ∀ (ds : List D) (h : D → D), (∀ d ∈ ds, ∃ as, ft d = .ok as ∧ fe (setS ρ as) = .ok (h d)) → lcGo ρ ft fcYes fe ds = .ok (ds.map h)
  | [], _, _ => rfl
  | d :: ds, h, hs => by
    obtain ⟨as, h1, h2⟩ := hs d (by simp)
    have ih := lcGo_map ds h fun d hd => hs d (by simp [hd])
    simp [lcGo, h1, h2, R.bind, noX, ih]
@[simp] theorem gMul_ii (i j : Int) : gMul (.int i) (.int j) = gMulI (.int i) (.int j) := tr rfl
@[simp] theorem gMul_si (s : List Nat) (i : Int) (h : s.length ≤ 16) (h0 : -1000000000000 ≤ i) (h2 : i ≤ 1048576) : gMul (.str s) (.int i) = .ok (.str (List.replicate i.toNat s).flatten) := if_pos ⟨h, by omega, h2⟩
@[simp] theorem deadS_eq (ρ : List Sl) : deadS ρ = .stuck := tr rfl
@[simp] theorem expS_eq (fe : Ev D) (ρ : List Sl) : expS fe ρ = tryE ρ (fe ρ) fun _ => .nx ρ := tr rfl
@[simp] theorem gIsN_eq (d : D) : gIsN d = .ok d.isNon := tr rfl
@[simp] theorem gNotN_eq (d : D) : gNotN d = .ok (!d.isNon) := tr rfl
@[simp] theorem isNon_non : D.isNon .non = true := tr rfl
@[simp] theorem isNon_int (i : Int) : D.isNon (.int i) = false := tr rfl
@[simp] theorem isNon_bl (i : Bool) : D.isNon (.bl i) = false := tr rfl
@[simp] theorem isNon_str (i : List Nat) : D.isNon (.str i) = false := tr rfl
@[simp] theorem isNon_tup (i : List D) : D.isNon (.tup i) = false := tr rfl
@[simp] theorem isNon_lst (i : List D) : D.isNon (.lst i) = false := tr rfl
@[simp] theorem gIn_tup (x : D) (ds : List D) : gIn x (.tup ds) = gInL x ds := tr rfl
@[simp] theorem gIn_lst (x : D) (ds : List D) : gIn x (.lst ds) = gInL x ds := tr rfl
@[simp] theorem gIn_dic (x : D) (es : List (Kc × D)) : gIn x (.dic es) = (oR x.key).bind fun k => .ok (lookC es k).isSome := tr rfl
@[simp] theorem gIn_chr (c : Nat) (s : List Nat) : gIn (.str [c]) (.str s) = .ok (decide (c ∈ s)) := tr rfl
@[simp] theorem gNi_eq (x d : D) : gNi x d = (gIn x d).bind fun k => .ok (!k) := tr rfl
theorem gInL_strs (x : List Nat) (l : List (List Nat)) : gInL (.str x) (l.map .str) = .ok (decide (x ∈ l)) := by
  have h1 : (l.map D.str).all D.flat = true := by simp [D.flat]
  have h2 : ((l.map D.str).any fun y => eqF y (.str x)) = decide (x ∈ l) := by
    induction l with
    | nil => simp
    | cons a l ih =>
      have ih := ih (by simp [D.flat])
      rw [List.map_cons, List.any_cons, ih]
      show ((a == x) || decide (x ∈ l)) = decide (x ∈ a :: l)
      by_cases h : a = x
      · subst h; simp
      · have h' : ¬ x = a := fun e => h e.symm
        simp [h, h']
  unfold gInL
  rw [if_pos ⟨rfl, h1⟩, h2]
@[simp] theorem eCh_eq (p q : Int → Int → Bool) (fa fb fc : Ev D) (ρ : List Sl) : eCh p q fa fb fc ρ = (fa ρ).bind fun x => (fb ρ).bind fun y => (gCmp p x y).bind fun k => if k = true then (fc ρ).bind (gCmp q y) else .ok false := tr rfl
theorem gMax1_ok (d : D) (ds : List D) (ns : List Int) (h1 : d.items = some ds) (h2 : D.ints ds = some ns) (h3 : ns ≠ []) : gMax1 [d] = .ok (.int (maxI ns)) := by simp [gMax1, h1, h2, h3]
theorem gMax1_l (ns : List Int) (h : ns ≠ []) : gMax1 [.lst (ns.map .int)] = .ok (.int (maxI ns)) := gMax1_ok _ _ _ rfl (ints_map ns) h
theorem gAll_l (ns : List Bool) : gAll [.lst (ns.map .bl)] = .ok (.bl (ns.all id)) := by simp [gAll, bls_map]
theorem gAll_f {α : Type} (p : α → Bool) (l : List α) : gAll [.lst (l.map fun x => .bl (p x))] = .ok (.bl (l.all p)) := by
  have h := gAll_l (l.map p)
  rw [List.map_map] at h
  rw [show (fun x => D.bl (p x)) = D.bl ∘ p from rfl, h, List.all_map]
  rfl
@[simp] theorem gAddA_ii (i j : Int) : gAddA (.int i) (.int j) = .ok (.int (i + j)) := tr rfl
@[simp] theorem gAddA_ss (x y : List Nat) (h : x.length + y.length ≤ 1000000) : gAddA (.str x) (.str y) = .ok (.str (x ++ y)) := if_pos h
@[simp] theorem gInt_ii (g : Int → Int → R D) (i j : Int) : gInt g (.int i) (.int j) = g i j := tr rfl
def augK (i : Nat) (g : D → D → R D) (fe : Ev D) (ρ : List Sl) (s : Option Sl) : RS := match s with
  | some (.val d) => tryE ρ (fe ρ) fun y => tryE ρ (g d y) fun z => .nx (ρ.set i (.val z))
  | _ => .stuck
@[simp] theorem augK_val (i : Nat) (g : D → D → R D) (fe : Ev D) (ρ : List Sl) (d : D) : augK i g fe ρ (some (.val d)) = tryE ρ (fe ρ) fun y => tryE ρ (g d y) fun z => .nx (ρ.set i (.val z)) := tr rfl
@[simp] theorem augV_eq (i : Nat) (g : D → D → R D) (fe : Ev D) (ρ : List Sl) : augV i g fe ρ = augK i g fe ρ ρ[i]? := tr rfl
def setLK (j : Nat) (fi fv : Ev D) (ρ : List Sl) (s : Option Sl) : RS := match s with
  | some (.own (.lst ds)) => tryE ρ (fv ρ) fun d => tryE ρ (fi ρ) fun k => match k with
    | .int k => (match ixN ds.length k with
      | some m => .nx (ρ.set j (.own (.lst (ds.set m d))))
      | none => .stuck)
    | _ => .stuck
  | _ => .stuck
@[simp] theorem setL_eq (j : Nat) (fi fv : Ev D) (ρ : List Sl) : setL j fi fv ρ = setLK j fi fv ρ ρ[j]? := tr rfl
def setI (j : Nat) (ρ : List Sl) (ds : List D) (d k : D) : RS := match k with
  | .int k => (match ixN ds.length k with
    | some m => .nx (ρ.set j (.own (.lst (ds.set m d))))
    | none => .stuck)
  | _ => .stuck
@[simp] theorem setLK_own (j : Nat) (fi fv : Ev D) (ρ : List Sl) (ds : List D) : setLK j fi fv ρ (some (.own (.lst ds))) = tryE ρ (fv ρ) fun d => tryE ρ (fi ρ) fun k => setI j ρ ds d k := tr rfl
@[simp] theorem setI_int (j : Nat) (ρ : List Sl) (ds : List D) (d : D) (k : Int) (h0 : 0 ≤ k) (h1 : k.toNat < ds.length) : setI j ρ ds d (.int k) = .nx (ρ.set j (.own (.lst (ds.set k.toNat d)))) := by
  have h := ixN_of ds.length k.toNat h1
  have e : ((k.toNat : Nat) : Int) = k := by omega
  rw [e] at h
  simp [setI, h]
def setDK (j : Nat) (fi fv : Ev D) (ρ : List Sl) (s : Option Sl) : RS := match s with
  | some (.own (.dic es)) => tryE ρ (fv ρ) fun d => tryE ρ (fi ρ) fun k => match k.key with
    | some kc => if es.length < LIM then .nx (ρ.set j (.own (.dic (putC es kc d)))) else .stuck
    | none => .stuck
  | _ => .stuck
@[simp] theorem setD_eq (j : Nat) (fi fv : Ev D) (ρ : List Sl) : setD j fi fv ρ = setDK j fi fv ρ ρ[j]? := tr rfl
def setDI (j : Nat) (ρ : List Sl) (es : List (Kc × D)) (d : D) (k : Option Kc) : RS := match k with
  | some kc => if es.length < LIM then .nx (ρ.set j (.own (.dic (putC es kc d)))) else .stuck
  | none => .stuck
@[simp] theorem setDK_own (j : Nat) (fi fv : Ev D) (ρ : List Sl) (es : List (Kc × D)) : setDK j fi fv ρ (some (.own (.dic es))) = tryE ρ (fv ρ) fun d => tryE ρ (fi ρ) fun k => setDI j ρ es d k.key := tr rfl
@[simp] theorem setDI_some (j : Nat) (ρ : List Sl) (es : List (Kc × D)) (d : D) (k : Kc) (h : es.length < 1000000) : setDI j ρ es d (some k) = .nx (ρ.set j (.own (.dic (putC es k d)))) := if_pos h
def augLK (j : Nat) (fi : Ev D) (g : D → D → R D) (fe : Ev D) (ρ : List Sl) (s : Option Sl) : RS := match s with
  | some (.own (.lst ds)) => tryE ρ (fi ρ) fun k => match k with
    | .int k => if 0 ≤ k ∧ k < LIM then (match ds[k.toNat]? with
      | some d => tryE ρ (fe ρ) fun y => tryE ρ (g d y) fun z => .nx (ρ.set j (.own (.lst (ds.set k.toNat z))))
      | none => .stuck) else .stuck
    | _ => .stuck
  | _ => .stuck
@[simp] theorem augL_eq (j : Nat) (fi : Ev D) (g : D → D → R D) (fe : Ev D) (ρ : List Sl) : augL j fi g fe ρ = augLK j fi g fe ρ ρ[j]? := tr rfl
def augI (j : Nat) (g : D → D → R D) (fe : Ev D) (ρ : List Sl) (ds : List D) (k : D) : RS := match k with
  | .int k => if 0 ≤ k ∧ k < LIM then (match ds[k.toNat]? with
    | some d => tryE ρ (fe ρ) fun y => tryE ρ (g d y) fun z => .nx (ρ.set j (.own (.lst (ds.set k.toNat z))))
    | none => .stuck) else .stuck
  | _ => .stuck
@[simp] theorem augLK_own (j : Nat) (fi : Ev D) (g : D → D → R D) (fe : Ev D) (ρ : List Sl) (ds : List D) : augLK j fi g fe ρ (some (.own (.lst ds))) = tryE ρ (fi ρ) fun k => augI j g fe ρ ds k := tr rfl
@[simp] theorem eMaxDf_eq (fa fc : Ev D) (ρ : List Sl) : eMaxDf fa fc ρ = (fa ρ).bind fun d => (fc ρ).bind fun z => gMaxDf d z := tr rfl
@[simp] theorem gListA_d (es : List (Kc × D)) : gListA [.dic es] = .ok (.lst (es.map fun q => keyD q.1)) := tr rfl
@[simp] theorem gListA_l (ds : List D) : gListA [.lst ds] = .ok (.lst ds) := tr rfl
@[simp] theorem gListA_t (ds : List D) : gListA [.tup ds] = .ok (.lst ds) := tr rfl
@[simp] theorem gRevL_l (ds : List D) : gRevL (.lst ds) = .ok (.lst ds.reverse) := tr rfl
@[simp] theorem gInsert_ok (ds : List D) (i : Int) (d : D) (h : ds.length < 1000000) (h0 : 0 ≤ i) (h1 : i < 1000000) : gInsert ds [.int i, d] = .ok (.non, ds.take i.toNat ++ [d] ++ ds.drop i.toNat) := if_pos ⟨h, h0, h1⟩
@[simp] theorem arS_nil (ρ : List Sl) : arS [] ρ = .ok [] := tr rfl
@[simp] theorem arS_fz (f : Ev D) (ars : List Ar) (ρ : List Sl) : arS (.fz f :: ars) ρ = (f ρ).bind fun d => (arS ars ρ).bind fun l => .ok (.val d :: l) := tr rfl
@[simp] theorem arS_bw (j : Nat) (ars : List Ar) (ρ : List Sl) : arS (.bw j :: ars) ρ = bwK (arS ars ρ) ρ[j]? := tr rfl
@[simp] theorem bwK_own (r : R (List Sl)) (d : D) : bwK r (some (.own d)) = r.bind fun l => .ok (.own d :: l) := tr rfl
@[simp] theorem bwSet_nil (fin ρ : List Sl) : bwSet [] fin ρ = ρ := by unfold bwSet; rfl
@[simp] theorem bwSet_bw (j : Nat) (ars : List Ar) (s : Sl) (fin ρ : List Sl) : bwSet (.bw j :: ars) (s :: fin) ρ = bwSet ars fin (ρ.set j s) := tr rfl
@[simp] theorem bwSet_fz (f : Ev D) (ars : List Ar) (s : Sl) (fin ρ : List Sl) : bwSet (.fz f :: ars) (s :: fin) ρ = bwSet ars fin ρ := tr rfl
@[simp] theorem callR_ok (k : Sl → List Sl → RS) (ars : List Ar) (ρ : List Sl) (r : Sl) (fin : List Sl) : callR k ars ρ (.ok r fin) = k r (bwSet ars fin ρ) := tr rfl
@[simp] theorem callR_exc (k : Sl → List Sl → RS) (ars : List Ar) (ρ : List Sl) (r : Exn) (fin : List Sl) : callR k ars ρ (.exc r fin) = .exc r (bwSet ars fin ρ) := tr rfl
@[simp] theorem callS_eq (ars : List Ar) (G : Fn) (k : Sl → List Sl → RS) (ρ : List Sl) : callS ars G k ρ = tryE ρ (arS ars ρ) fun l => callR k ars ρ (G l) := tr rfl
@[simp] theorem kOwn_own (i : Nat) (d : D) (ρ : List Sl) : kOwn i (.own d) ρ = .nx (ρ.set i (.own d)) := tr rfl
@[simp] theorem kVal_val (ft : D → R (List (Nat × D))) (d : D) (ρ : List Sl) : kVal ft (.val d) ρ = tryE ρ (ft d) fun as => .nx (setS ρ as) := tr rfl
@[simp] theorem eIndex_eq (fa fe : Ev D) (ρ : List Sl) : eIndex fa fe ρ = (fa ρ).bind fun d => (oR d.nms).bind fun ss => (fe ρ).bind (gIndex ss) := tr rfl
@[simp] theorem gIndex_str (ss : List (List Nat)) (x : List Nat) : gIndex ss (.str x) = (oR (posS ss x)).bind fun j => .ok (.int (j : Nat)) := tr rfl
@[simp] theorem eDic0_eq (ρ : List Sl) : eDic0 ρ = .ok (.dic []) := tr rfl
end PL
set_option Elab.async false
set_option linter.all false
set_option maxRecDepth 100000
namespace PL
set_option autoImplicit false
open L2
def b_strength : Es := (seqS (ifS (e2 gEq (eVar 0) (eC (.str [115, 97, 109, 101]))) (retS (eC (.int (1)))) skipS)
  (seqS (ifS (e2 gEq (eVar 0) (eC (.str [116, 104, 101, 110]))) (retS (eC (.int (2)))) skipS)
  (seqS (ifS (e2 gEq (eVar 0) (eC (.str [111, 114]))) (retS (eC (.int (3)))) skipS)
  (seqS (ifS (e2 gEq (eVar 0) (eC (.str [97, 110, 100]))) (retS (eC (.int (4)))) skipS)
  (retS (eC (.int (5))))))))
def b_within : Es := (seqS (ifS (e1 tBool (eFrz 1)) (retS (e2 gAdd (e2 gAdd (eC (.str [40])) (eVar 0)) (eC (.str [41])))) skipS)
  (retS (eFrz 0)))
def b_sign_of (f_strength : Fn) : Es := (retS (e2 gIx (eC (.str [61, 62, 124, 38])) (e2 gSub (eFn f_strength (aCons (eFrz 0) aNil)) (eC (.int (1))))))
def b_shown (f_strength f_shown f_within f_sign_of : Fn) : Es := (seqS (asgS (ftOne 1) (e2 gIx (eVar 0) (eC (.int (0)))))
  (seqS (ifS (e2 gEq (eVar 1) (eC (.str [110, 97, 109, 101]))) (retS (e2 gIx (eVar 0) (eC (.int (1))))) skipS)
  (seqS (ifS (tOo (e2 gEq (eVar 1) (eC (.str [121, 101, 115]))) (e2 gEq (eVar 1) (eC (.str [110, 111])))) (retS (eIf (e2 gEq (eVar 1) (eC (.str [121, 101, 115]))) (eC (.str [49])) (eC (.str [48])))) skipS)
  (seqS (asgS (ftOne 2) (eFn f_strength (aCons (eFrz 1) aNil)))
  (seqS (ifS (e2 gEq (eVar 1) (eC (.str [110, 111, 116]))) (retS (e2 gAdd (eC (.str [126])) (eFn f_within (aCons (eFn f_shown (aCons (e2 gIx (eVar 0) (eC (.int (1)))) aNil)) (aCons (eBl (e2 (gCmp pLt) (eFn f_strength (aCons (e2 gIx (e2 gIx (eVar 0) (eC (.int (1)))) (eC (.int (0)))) aNil)) (eVar 2))) aNil))))) skipS)
  (seqS (asgS (ftOne 3) (eFn f_strength (aCons (e2 gIx (e2 gIx (eVar 0) (eC (.int (1)))) (eC (.int (0)))) aNil)))
  (seqS (asgS (ftOne 4) (eFn f_strength (aCons (e2 gIx (e2 gIx (eVar 0) (eC (.int (2)))) (eC (.int (0)))) aNil)))
  (seqS (asgS (ftOne 5) (eFn f_within (aCons (eFn f_shown (aCons (e2 gIx (eVar 0) (eC (.int (1)))) aNil)) (aCons (eOo (eBl (e2 (gCmp pLt) (eVar 3) (eVar 2))) (eAn (eBl (e2 gEq (eVar 3) (eVar 2))) (eBl (e2 gEq (eVar 1) (eC (.str [116, 104, 101, 110])))))) aNil))))
  (seqS (asgS (ftOne 6) (eFn f_within (aCons (eFn f_shown (aCons (e2 gIx (eVar 0) (eC (.int (2)))) aNil)) (aCons (eOo (eBl (e2 (gCmp pLt) (eVar 4) (eVar 2))) (eAn (eBl (e2 gEq (eVar 4) (eVar 2))) (eBl (e2 gNe (eVar 1) (eC (.str [116, 104, 101, 110])))))) aNil))))
  (retS (e2 gAdd (e2 gAdd (e2 gAdd (e2 gAdd (eVar 5) (eC (.str [32]))) (eFn f_sign_of (aCons (eFrz 1) aNil))) (eC (.str [32]))) (eVar 6))))))))))))
def b_cell_at_86d1 : Es := (seqS (ifS (e2 (gCmp pLt) (eVar 1) (eCall gLen (aCons (eVar 0) aNil))) (retS (e2 gIx (eVar 0) (eVar 1))) skipS)
  (retS (eC (.int (0)))))
def b_names_by_5a28 : Es := (seqS (asgS (ftOne 2) (eC (.str [97, 98, 99, 100, 101, 102, 103, 104, 105, 106, 107, 108, 109, 110, 111, 112, 113, 114, 115, 116, 117, 118, 119, 120, 121, 122])))
  (seqS (asgS (ftOne 3) (e2 gDiv (eVar 0) (eC (.int (3)))))
  (seqS (asgS (ftOne 4) (eM1 gJoin (eC (.str [])) (eLc [8] (iRg gRng1 (aCons (eC (.int (8))) aNil)) (ftOne 8) fcYes (e2 gIx (eVar 2) (e2 gMod (e2 gAdd (e2 gAdd (e2 gDiv (eVar 3) (eC (.int (3)))) (e2 gMul (e2 gMul (eC (.int (7))) (eVar 8)) (eVar 8))) (eVar 8)) (eC (.int (26))))))))
  (seqS (asgS (ftOne 5) (eLc [8] (iRg gRng1 (aCons (eVar 1) aNil)) (ftOne 8) fcYes (e2 gIx (eVar 2) (e2 gMod (e2 gAdd (e2 gDiv (eVar 3) (eC (.int (5)))) (e2 gMul (eC (.int (5))) (eVar 8))) (eC (.int (26)))))))
  (seqS (ifS (e2 gEq (e2 gMod (eVar 0) (eC (.int (3)))) (eC (.int (0)))) (seqS (asgS (ftOne 6) (e2 gAdd (eC (.int (1))) (e2 gMod (eVar 3) (eC (.int (8))))))
  (seqS (asgS (ftOne 7) (e2 gMod (e2 gDiv (eVar 3) (eC (.int (8)))) (eVar 6)))
  (retS (eCall gTupleOf (aCons (eLc [9] (iSeq (eVar 5)) (ftOne 9) fcYes (e2 gAdd (e2 gAdd (eSl (eVar 4) oNone (oSome (eVar 7))) (eVar 9)) (eSl (eVar 4) (oSome (e2 gAdd (eVar 7) (eC (.int (1))))) (oSome (eVar 6))))) aNil))))) skipS)
  (seqS (ifS (e2 gEq (e2 gMod (eVar 0) (eC (.int (3)))) (eC (.int (1)))) (retS (eCall gTupleOf (aCons (eLc [8] (iRg gRng1 (aCons (eVar 1) aNil)) (ftOne 8) fcYes (eSl (eVar 4) oNone (oSome (e2 gAdd (eC (.int (1))) (e2 gMod (e2 gAdd (e2 gMul (eC (.int (3))) (eVar 8)) (eVar 3)) (eC (.int (8)))))))) aNil))) skipS)
  (retS (eCall gTupleOf (aCons (eLc [8] (iRg gRng1 (aCons (eVar 1) aNil)) (ftOne 8) fcYes (e2 gAdd (e2 gIx (eVar 5) (eVar 8)) (eSl (eVar 4) oNone (oSome (e2 gMod (e2 gAdd (e2 gMul (eC (.int (3))) (eVar 8)) (eVar 3)) (eC (.int (8)))))))) aNil)))))))))
end PL
set_option Elab.async false
set_option linter.all false
set_option maxRecDepth 100000
namespace PL
set_option autoImplicit false
open L2
end PL
set_option Elab.async false
set_option linter.all false
set_option maxRecDepth 100000
set_option maxHeartbeats 1000000
namespace PL
set_option autoImplicit false
open PySem L2
theorem sIx_pos (n d : Nat) (v : Int) (h : 0 ≤ v) : HT.sIx n d (some v) = min v.toNat n := if_neg (by omega)
theorem cut_to {α : Type} (s : List α) (i : Int) (h : 0 ≤ i) : cutL s none (some i) = s.take i.toNat := by
  unfold cutL
  rw [sIx_pos _ _ _ h]
  show (s.drop 0).take (min i.toNat s.length - 0) = _
  rw [List.drop_zero, Nat.sub_zero, ← List.take_take, List.take_length]
theorem cut_from {α : Type} (s : List α) (i : Int) (h : 0 ≤ i) : cutL s (some i) none = s.drop i.toNat := by
  unfold cutL
  rw [sIx_pos _ _ _ h]
  show (s.drop (min i.toNat s.length)).take (s.length - min i.toNat s.length) = _
  rw [List.take_of_length_le (by simp)]
  by_cases hl : i.toNat ≤ s.length
  · rw [Nat.min_eq_left hl]
  · rw [Nat.min_eq_right (by omega), List.drop_length, List.drop_of_length_le (by omega)]
theorem cut_both {α : Type} (s : List α) (i j : Int) (h : 0 ≤ i) (h2 : 0 ≤ j) : cutL s (some i) (some j) = (s.take j.toNat).drop i.toNat := by
  unfold cutL
  rw [sIx_pos _ _ _ h, sIx_pos _ _ _ h2, List.drop_take]
  by_cases hl : i.toNat ≤ s.length
  · rw [Nat.min_eq_left hl]
    by_cases hj : j.toNat ≤ s.length
    · rw [Nat.min_eq_left hj]
    · rw [Nat.min_eq_right (a := j.toNat) (b := s.length) (by omega), List.take_of_length_le (by simp), List.take_of_length_le (by simp; omega)]
  · have e : List.drop (min i.toNat s.length) s = [] := List.drop_of_length_le (by omega)
    have e2 : List.drop i.toNat s = [] := List.drop_of_length_le (by omega)
    rw [e, e2, List.take_nil, List.take_nil]
@[simp] theorem gIsi_str_non : gIsi "str" .non = .ok false := tr rfl
@[simp] theorem gIsi_str_bl (b : Bool) : gIsi "str" (.bl b) = .ok false := tr rfl
@[simp] theorem gIsi_str_int (i : Int) : gIsi "str" (.int i) = .ok false := tr rfl
@[simp] theorem gIsi_str_str (s : List Nat) : gIsi "str" (.str s) = .ok true := tr rfl
@[simp] theorem gIsi_str_tup (ds : List D) : gIsi "str" (.tup ds) = .ok false := tr rfl
@[simp] theorem gIsi_str_lst (ds : List D) : gIsi "str" (.lst ds) = .ok false := tr rfl
@[simp] theorem gIsi_str_dic (es : List (Kc × D)) : gIsi "str" (.dic es) = .ok false := tr rfl
@[simp] theorem gIsi_int_non : gIsi "int" .non = .ok false := tr rfl
@[simp] theorem gIsi_int_bl (b : Bool) : gIsi "int" (.bl b) = .ok true := tr rfl
@[simp] theorem gIsi_int_int (i : Int) : gIsi "int" (.int i) = .ok true := tr rfl
@[simp] theorem gIsi_int_str (s : List Nat) : gIsi "int" (.str s) = .ok false := tr rfl
@[simp] theorem gIsi_int_tup (ds : List D) : gIsi "int" (.tup ds) = .ok false := tr rfl
@[simp] theorem gIsi_int_lst (ds : List D) : gIsi "int" (.lst ds) = .ok false := tr rfl
@[simp] theorem gIsi_int_dic (es : List (Kc × D)) : gIsi "int" (.dic es) = .ok false := tr rfl
@[simp] theorem gIsi_tuple_non : gIsi "tuple" .non = .ok false := tr rfl
@[simp] theorem gIsi_tuple_bl (b : Bool) : gIsi "tuple" (.bl b) = .ok false := tr rfl
@[simp] theorem gIsi_tuple_int (i : Int) : gIsi "tuple" (.int i) = .ok false := tr rfl
@[simp] theorem gIsi_tuple_str (s : List Nat) : gIsi "tuple" (.str s) = .ok false := tr rfl
@[simp] theorem gIsi_tuple_tup (ds : List D) : gIsi "tuple" (.tup ds) = .ok true := tr rfl
@[simp] theorem gIsi_tuple_lst (ds : List D) : gIsi "tuple" (.lst ds) = .ok false := tr rfl
@[simp] theorem gIsi_tuple_dic (es : List (Kc × D)) : gIsi "tuple" (.dic es) = .ok false := tr rfl
@[simp] theorem gIsi_list_non : gIsi "list" .non = .ok false := tr rfl
@[simp] theorem gIsi_list_bl (b : Bool) : gIsi "list" (.bl b) = .ok false := tr rfl
@[simp] theorem gIsi_list_int (i : Int) : gIsi "list" (.int i) = .ok false := tr rfl
@[simp] theorem gIsi_list_str (s : List Nat) : gIsi "list" (.str s) = .ok false := tr rfl
@[simp] theorem gIsi_list_tup (ds : List D) : gIsi "list" (.tup ds) = .ok false := tr rfl
@[simp] theorem gIsi_list_lst (ds : List D) : gIsi "list" (.lst ds) = .ok true := tr rfl
@[simp] theorem gIsi_list_dic (es : List (Kc × D)) : gIsi "list" (.dic es) = .ok false := tr rfl
@[simp] theorem gIsi_bool_non : gIsi "bool" .non = .ok false := tr rfl
@[simp] theorem gIsi_bool_bl (b : Bool) : gIsi "bool" (.bl b) = .ok true := tr rfl
@[simp] theorem gIsi_bool_int (i : Int) : gIsi "bool" (.int i) = .ok false := tr rfl
@[simp] theorem gIsi_bool_str (s : List Nat) : gIsi "bool" (.str s) = .ok false := tr rfl
@[simp] theorem gIsi_bool_tup (ds : List D) : gIsi "bool" (.tup ds) = .ok false := tr rfl
@[simp] theorem gIsi_bool_lst (ds : List D) : gIsi "bool" (.lst ds) = .ok false := tr rfl
@[simp] theorem gIsi_bool_dic (es : List (Kc × D)) : gIsi "bool" (.dic es) = .ok false := tr rfl
@[simp] theorem gIsi_dict_non : gIsi "dict" .non = .ok false := tr rfl
@[simp] theorem gIsi_dict_bl (b : Bool) : gIsi "dict" (.bl b) = .ok false := tr rfl
@[simp] theorem gIsi_dict_int (i : Int) : gIsi "dict" (.int i) = .ok false := tr rfl
@[simp] theorem gIsi_dict_str (s : List Nat) : gIsi "dict" (.str s) = .ok false := tr rfl
@[simp] theorem gIsi_dict_tup (ds : List D) : gIsi "dict" (.tup ds) = .ok false := tr rfl
@[simp] theorem gIsi_dict_lst (ds : List D) : gIsi "dict" (.lst ds) = .ok false := tr rfl
@[simp] theorem gIsi_dict_dic (es : List (Kc × D)) : gIsi "dict" (.dic es) = .ok true := tr rfl
@[simp] theorem gSl_t1 (a : D) (r : List D) : gSl (some 1) none (.tup (a :: r)) = .ok (.tup r) := by
  rw [gSl_tup, cut_from _ _ (by decide)]
  rfl
@[simp] theorem cut_1 {α : Type} (a : α) (r : List α) : cutL (a :: r) (some 1) none = r := by rw [cut_from _ _ (by decide)]; rfl
theorem joinL_nil (ss : List (List Nat)) : TL.joinL [] ss = ss.flatten := by
  induction ss with
  | nil => rfl
  | cons p r ih =>
    cases r with
    | nil => simp [TL.joinL]
    | cons q r => simp [TL.joinL, ih]
theorem strs_map {α : Type} (f : α → List Nat) : ∀ l : List α, D.strs (l.map fun x => D.str (f x)) = some (l.map f)
  | [] => rfl
  | x :: l => by simp [D.strs, strs_map f l]
theorem flat_one {α : Type} (f : α → Nat) : ∀ l : List α, (l.map fun x => [f x]).flatten = l.map f
  | [] => rfl
  | x :: l => by simp [flat_one f l]
theorem sum_one {α : Type} (f : α → Nat) (n : Nat) : ∀ l : List α, (∀ x ∈ l, f x ≤ n) → (l.map f).sum ≤ l.length * n
  | [], _ => by simp
  | x :: l, h => by
    have h1 := h x (by simp)
    have h2 := sum_one f n l fun y hy => h y (by simp [hy])
    simp only [List.map_cons, List.sum_cons, List.length_cons, Nat.add_mul]
    omega
theorem gJoin_nil {α : Type} (f : α → List Nat) (l : List α) (n : Nat) (h : ∀ x ∈ l, (f x).length ≤ n) (hn : l.length * n ≤ 1000000) : gJoin [] (.lst (l.map fun x => .str (f x))) = .ok (.str (l.map f).flatten) := by
  have h1 := sum_one (fun x => (f x).length) n l h
  have e : (((l.map f).map (·.length)).sum + (l.map f).length * ([] : List Nat).length) ≤ LIM := by
    rw [List.map_map]
    show (l.map fun x => (f x).length).sum + _ ≤ 1000000
    simp only [List.length_nil, Nat.mul_zero]
    omega
  unfold gJoin
  simp only [items_lst, oR_some, bind_ok, strs_map, joinL_nil, if_pos e]
theorem gJoin_one {α : Type} (f : α → Nat) (l : List α) (h : l.length ≤ 1000000) : gJoin [] (.lst (l.map fun x => .str [f x])) = .ok (.str (l.map f)) := by
  rw [gJoin_nil (fun x => [f x]) l 1 (fun x _ => Nat.le_refl _) (by omega), flat_one]
theorem lc_map {α : Type} {ρ : List Sl} {i : Nat} {fe : Ev D} (f : α → D) (h : α → D) : ∀ (l : List α), (∀ x ∈ l, fe (ρ.set i (.val (f x))) = .ok (h x)) → lcGo ρ (ftOne i) fcYes fe (l.map f) = .ok (l.map h)
  | [], _ => rfl
  | x :: l, hs => by
    have h1 := hs x (by simp)
    have ih := lc_map (ρ := ρ) (i := i) (fe := fe) f h l fun y hy => hs y (by simp [hy])
    simp [lcGo, setS, ftOne, h1, R.bind, noX, ih]
theorem lc_rng {ρ : List Sl} {i : Nat} {fe : Ev D} (n : Nat) (h : Nat → D) (hs : ∀ k, k < n → fe (ρ.set i (.val (.int (k : Nat)))) = .ok (h k)) : lcGo ρ (ftOne i) fcYes fe (rangeD 0 n) = .ok ((List.range n).map h) := by
  have e : (((n : Nat) : Int) - 0).toNat = n := by omega
  unfold rangeD
  rw [e]
  refine lc_map _ _ _ fun k hk => ?_
  have e2 : (0 + (k : Nat) : Int) = (k : Nat) := by omega
  rw [e2]
  exact hs k (by simpa using hk)
theorem lc_rngI {ρ : List Sl} {i : Nat} {fe : Ev D} (n : Int) (h : Nat → D) (hs : ∀ k : Nat, (k : Int) < n → fe (ρ.set i (.val (.int k))) = .ok (h k)) : lcGo ρ (ftOne i) fcYes fe (rangeD 0 n) = .ok ((List.range n.toNat).map h) := by
  unfold rangeD
  rw [Int.sub_zero]
  refine lc_map _ _ _ fun k hk => ?_
  have e2 : (0 + (k : Nat) : Int) = (k : Nat) := by omega
  rw [e2]
  exact hs k (by have := List.mem_range.mp hk; omega)
theorem lc_filter {α : Type} {ρ : List Sl} {i : Nat} {fc : Ev Bool} {fe : Ev D} (f : α → D) (p : α → Bool) (h : α → D) : ∀ (l : List α), (∀ x ∈ l, fc (ρ.set i (.val (f x))) = .ok (p x)) → (∀ x ∈ l, p x = true → fe (ρ.set i (.val (f x))) = .ok (h x)) → lcGo ρ (ftOne i) fc fe (l.map f) = .ok ((l.filter p).map h)
  | [], _, _ => rfl
  | x :: l, hp, hs => by
    have h1 := hs x (by simp)
    have h2 := hp x (by simp)
    have ih := lc_filter (ρ := ρ) (i := i) (fc := fc) (fe := fe) f p h l (fun y hy => hp y (by simp [hy])) fun y hy => hs y (by simp [hy])
    cases hb : p x with
    | true => simp [lcGo, setS, ftOne, h1 hb, h2, hb, R.bind, noX, ih]
    | false => simp [lcGo, setS, ftOne, h2, hb, R.bind, noX, ih]
/-- a body goes on with P -/
def Nxt (P : List Sl → Prop) : RS → Prop
  | .nx ρ => P ρ
  | .ct ρ => P ρ
  | _ => False
@[simp] theorem nxt_nx (P : List Sl → Prop) (ρ : List Sl) : Nxt P (.nx ρ) = P ρ := tr rfl
@[simp] theorem nxt_ct (P : List Sl → Prop) (ρ : List Sl) : Nxt P (.ct ρ) = P ρ := tr rfl
theorem Nxt.or {P : List Sl → Prop} {r : RS} (h : Nxt P r) : ∃ ρ', (r = .nx ρ' ∨ r = .ct ρ') ∧ P ρ' := by
  cases r with
  | nx ρ => exact ⟨ρ, .inl rfl, h⟩
  | ct ρ => exact ⟨ρ, .inr rfl, h⟩
  | _ => exact h.elim
theorem forGo_cons_nx {ft : D → R (List (Nat × D))} {fb : Es} {d : D} {ds : List D} {ρ ρ' : List Sl} {as : List (Nat × D)} (h1 : ft d = .ok as) (h2 : fb (setS ρ as) = .nx ρ') : forGo ft fb (d :: ds) ρ = forGo ft fb ds ρ' := by
  have e : forGo ft fb (d :: ds) ρ = tryE ρ (noX (ft d)) (fun as => match fb (setS ρ as) with
        | .nx ρ' => forGo ft fb ds ρ'
        | .ct ρ' => forGo ft fb ds ρ'
        | .bk ρ' => .nx ρ'
        | r => r) := rfl
  rw [e, h1]
  show (match fb (setS ρ as) with
        | .nx ρ' => forGo ft fb ds ρ'
        | .ct ρ' => forGo ft fb ds ρ'
        | .bk ρ' => .nx ρ'
        | r => r) = _
  rw [h2]
theorem atI_nn {α : Type} (xs : List α) (i : Int) (h0 : 0 ≤ i) (h1 : i.toNat < xs.length) : L2.atI xs i = some xs[i.toNat] := by
  have h := atI_of xs i.toNat h1
  have e : ((i.toNat : Nat) : Int) = i := by omega
  rwa [e] at h
theorem atI_map {α β : Type} (f : α → β) (xs : List α) (i : Int) (h0 : 0 ≤ i) (h1 : i.toNat < xs.length) : L2.atI (xs.map f) i = some (f xs[i.toNat]) := by
  rw [atI_nn _ i h0 (by simpa using h1)]; simp
theorem gPop_snoc2 (ds : List D) (x d : D) : gPop (ds ++ [x, d]) [] = .ok (d, ds ++ [x]) := by
  have h := gPop_snoc (ds ++ [x]) d
  rwa [List.append_assoc] at h
end PL
set_option Elab.async false
set_option linter.all false
set_option maxRecDepth 100000
set_option maxHeartbeats 1000000
namespace PL
set_option autoImplicit false
open PySem L2
def Okd (n : Nat) (d : D) : Prop := d.py.canLay0 = true ∧ d.py.depth ≤ n
theorem Okd.le {n m : Nat} {d : D} (h : Okd n d) (hm : n ≤ m) : Okd m d := ⟨h.1, Nat.le_trans h.2 hm⟩
def chOk (s : List Nat) : Prop := ∀ c ∈ s, c < 1114112
theorem okd_str (n : Nat) (s : List Nat) (h : chOk s) : Okd n (.str s) := ⟨by
  show PyData.strOk _ = true
  unfold PyData.strOk
  rw [show ((⟨s.toArray⟩ : Str).cps.all fun x => decide (x < 1114112)) = s.all fun x => decide (x < 1114112) from List.all_toArray ..]
  rw [List.all_eq_true]
  intro c hc
  exact decide_eq_true (h c hc), Nat.zero_le _⟩
theorem okds {n : Nat} : ∀ {ds : List D}, (∀ d ∈ ds, Okd n d) → PyData.canLayAll0 (D.pys ds) = true ∧ PyData.depthAll (D.pys ds) ≤ n
  | [], _ => ⟨rfl, Nat.zero_le _⟩
  | d :: ds, h => by
    obtain ⟨h1, h2⟩ := h d (by simp)
    obtain ⟨h3, h4⟩ := okds (ds := ds) fun x hx => h x (by simp [hx])
    refine ⟨?_, ?_⟩
    · simp only [D.pys, PyData.canLayAll0, h1, h3, Bool.and_self]
    · simp only [D.pys, PyData.depthAll]; omega
theorem okd_lst {n : Nat} {ds : List D} (h : ∀ d ∈ ds, Okd n d) : Okd (n + 1) (.lst ds) := by
  obtain ⟨h1, h2⟩ := okds h
  exact ⟨by simpa only [D.py, PyData.canLay0] using h1, by simp only [D.py, PyData.depth]; omega⟩
theorem Okd.fits {n : Nat} {d : D} (h : Okd n d) (hn : n ≤ 64) : d.fits = true := by
  unfold D.fits SeqAt.shaped
  rw [h.1, Bool.true_and]
  exact decide_eq_true (Nat.le_trans h.2 hn)
theorem gEq_gen {n : Nat} {d e : D} (h : Okd n d) (g : Okd n e) (hn : n ≤ 64) : gEq d e = .ok (PyData.eqv d.py e.py) := by
  have f1 := h.fits hn
  have f2 := g.fits hn
  unfold gEq
  split
  · simp only [D.py, PyData.eqv, Bool.beq_eq_decide_eq]
  · rename_i x y
    have e1 : (decide (x = y)) = (PyData.eqv (D.py (.str x)) (D.py (.str y))) := by
      simp only [D.py, PyData.eqv]
      by_cases q : x = y
      · subst q; simp
      · simp [q]
    rw [e1]
  · simp only [D.py, PyData.eqv, Bool.beq_eq_decide_eq]
  · rw [if_pos ⟨f1, f2⟩]
def nmD (ns : List (List Nat)) : D := .tup (ns.map .str)
def nmOk (ns : List (List Nat)) : Prop := ∀ x ∈ ns, chOk x
end PL
set_option Elab.async false
set_option linter.all false
set_option maxRecDepth 100000
set_option maxHeartbeats 1000000
namespace PL
set_option autoImplicit false
open L2
inductive K4 where
  | an | or | th | sm
  deriving DecidableEq
/-- sentences -/
inductive T where
  | nm (x : List Nat) | yes | no | nt (t : T) | bin (k : K4) (s t : T)
  deriving DecidableEq
def K4.code : K4 → List Nat
  | .an => [97, 110, 100]
  | .or => [111, 114]
  | .th => [116, 104, 101, 110]
  | .sm => [115, 97, 109, 101]
def K4.st : K4 → Nat
  | .an => 4
  | .or => 3
  | .th => 2
  | .sm => 1
def K4.sign : K4 → Nat
  | .an => 38
  | .or => 124
  | .th => 62
  | .sm => 61
def T.kind : T → List Nat
  | .nm _ => [110, 97, 109, 101]
  | .yes => [121, 101, 115]
  | .no => [110, 111]
  | .nt _ => [110, 111, 116]
  | .bin k _ _ => k.code
def T.toD : T → D
  | .nm x => .tup [.str [110, 97, 109, 101], .str x]
  | .yes => .tup [.str [121, 101, 115]]
  | .no => .tup [.str [110, 111]]
  | .nt t => .tup [.str [110, 111, 116], t.toD]
  | .bin k s t => .tup [.str k.code, s.toD, t.toD]
def T.size : T → Nat
  | .nt t => t.size + 1
  | .bin _ s t => s.size + t.size + 1
  | _ => 1
def T.depth : T → Nat
  | .nt t => t.depth + 1
  | .bin _ s t => max s.depth t.depth + 1
  | _ => 1
def T.st : T → Nat
  | .bin k _ _ => k.st
  | _ => 5
def wi (s : List Nat) (b : Bool) : List Nat := if b then 40 :: (s ++ [41]) else s
def T.shown : T → List Nat
  | .nm x => x
  | .yes => [49]
  | .no => [48]
  | .nt t => 126 :: wi t.shown (ltb t.st 5)
  | .bin k s t => wi s.shown (ltb s.st k.st || (eqb s.st k.st && eqb k.st 2)) ++ [32] ++ [k.sign] ++ [32] ++ wi t.shown (ltb t.st k.st || (eqb t.st k.st && !eqb k.st 2))
theorem wi_len (s : List Nat) (b : Bool) : s.length ≤ (wi s b).length ∧ (wi s b).length ≤ s.length + 2 := by
  cases b <;> simp [wi] <;> omega
/-- names of a tree are at most so long -/
def T.nmLe (m : Nat) : T → Prop
  | .nm x => x.length ≤ m
  | .nt t => t.nmLe m
  | .bin _ s t => s.nmLe m ∧ t.nmLe m
  | _ => True
theorem T.shown_len (m : Nat) : ∀ t : T, t.nmLe m → t.shown.length ≤ t.size * (m + 8)
  | .nm x, h => by simp only [T.nmLe] at h; simp only [T.shown, T.size]; omega
  | .yes, _ => by simp only [T.shown, T.size, List.length_cons, List.length_nil]; omega
  | .no, _ => by simp only [T.shown, T.size, List.length_cons, List.length_nil]; omega
  | .nt t, h => by
    have h1 := T.shown_len m t h
    have h2 := (wi_len t.shown (ltb t.st 5)).2
    simp only [T.shown, T.size, List.length_cons]
    rw [Nat.add_mul]
    omega
  | .bin k s t, h => by
    have h1 := T.shown_len m s h.1
    have h2 := T.shown_len m t h.2
    have h3 := (wi_len s.shown (ltb s.st k.st || (eqb s.st k.st && eqb k.st 2))).2
    have h4 := (wi_len t.shown (ltb t.st k.st || (eqb t.st k.st && !eqb k.st 2))).2
    simp only [T.shown, T.size, List.length_append, List.length_cons, List.length_nil]
    rw [Nat.add_mul, Nat.add_mul]
    omega
def StrengthOk (f : Fn) : Prop := ∀ t : T, f [.val (.str t.kind)] = .ok (.val (.int t.st)) [.val (.str t.kind)]
theorem strength_ok : StrengthOk (bodyF 1 1 1 b_strength) := fun t => by
  cases t with
  | bin k s t => cases k <;> rfl
  | _ => rfl
def WithinOk (f : Fn) : Prop := ∀ (s : List Nat) (b : Bool), s.length + 2 ≤ 1000000 → f [.val (.str s), .val (.bl b)] = .ok (.val (.str (wi s b))) [.val (.str s), .val (.bl b)]
theorem within_ok : WithinOk (bodyF 2 2 2 b_within) := fun s b h => by
  cases b
  · rfl
  · simp (disch := first | assumption | omega | (simp only [List.length_append, List.length_cons, List.length_nil, List.length_map, List.length_reverse, List.length_replicate, List.length_range, List.length_take, List.length_drop, enD_length, rangeD_length]; omega) | (simp; done) | fail) [decide_eq_true, decide_eq_false, kAsg, kNx, b_within, wi]
def SignOk (f : Fn) : Prop := ∀ k : K4, f [.val (.str k.code)] = .ok (.val (.str [k.sign])) [.val (.str k.code)]
theorem sign_ok {f : Fn} (h : StrengthOk f) : SignOk (bodyF 1 1 1 (b_sign_of f)) := fun k => by
  have h1 := h (.bin k .yes .yes)
  simp only [T.kind] at h1
  cases k <;> simp [T.st, K4.st, K4.code, K4.sign] at h1 ⊢ <;> simp (disch := first | assumption | omega | (simp only [List.length_append, List.length_cons, List.length_nil, List.length_map, List.length_reverse, List.length_replicate, List.length_range, List.length_take, List.length_drop, enD_length, rangeD_length]; omega) | (simp; done) | fail) [decide_eq_true, decide_eq_false, kAsg, kNx, b_sign_of, h1]
def ShownOk (n : Nat) (f : Fn) : Prop := ∀ t : T, t.depth ≤ n → t.shown.length + 2 ≤ 1000000 → f [.val t.toD] = .ok (.val (.str t.shown)) [.val t.toD]
theorem ix0 (t : T) : gIx t.toD (.int 0) = .ok (.str t.kind) := by cases t <;> rfl
theorem shown_ok {n : Nat} {fs fr fw fg : Fn} (hs : StrengthOk fs) (hr : ShownOk n fr) (hw : WithinOk fw) (hg : SignOk fg) : ShownOk (n + 1) (bodyF 7 1 1 (b_shown fs fr fw fg)) := fun t ht hl => by
  cases t with
  | nm x => simp (disch := first | assumption | omega | (simp only [List.length_append, List.length_cons, List.length_nil, List.length_map, List.length_reverse, List.length_replicate, List.length_range, List.length_take, List.length_drop, enD_length, rangeD_length]; omega) | (simp; done) | fail) [decide_eq_true, decide_eq_false, kAsg, kNx, b_shown, T.toD, T.shown]
  | yes => simp (disch := first | assumption | omega | (simp only [List.length_append, List.length_cons, List.length_nil, List.length_map, List.length_reverse, List.length_replicate, List.length_range, List.length_take, List.length_drop, enD_length, rangeD_length]; omega) | (simp; done) | fail) [decide_eq_true, decide_eq_false, kAsg, kNx, b_shown, T.toD, T.shown]
  | no => simp (disch := first | assumption | omega | (simp only [List.length_append, List.length_cons, List.length_nil, List.length_map, List.length_reverse, List.length_replicate, List.length_range, List.length_take, List.length_drop, enD_length, rangeD_length]; omega) | (simp; done) | fail) [decide_eq_true, decide_eq_false, kAsg, kNx, b_shown, T.toD, T.shown]
  | nt t =>
    have l1 := (wi_len t.shown (ltb t.st 5)).1
    simp only [T.shown, List.length_cons] at hl
    have h1 := hr t (by simp only [T.depth] at ht; omega) (by omega)
    have h2 := fun b => hw t.shown b (by omega)
    have h3 := hs t
    have h4 := hs (.nt t)
    simp only [T.kind, T.st] at h4
    have ix := ix0 t
    simp (disch := first | assumption | omega | (simp only [List.length_append, List.length_cons, List.length_nil, List.length_map, List.length_reverse, List.length_replicate, List.length_range, List.length_take, List.length_drop, enD_length, rangeD_length]; omega) | (simp; done) | fail) [decide_eq_true, decide_eq_false, kAsg, kNx, b_shown, T.toD, T.shown, ix, h1, h2, h3, h4, cl5]
  | bin k s t =>
    have l1 := (wi_len s.shown (ltb s.st k.st || (eqb s.st k.st && eqb k.st 2))).1
    have l2 := (wi_len t.shown (ltb t.st k.st || (eqb t.st k.st && !eqb k.st 2))).1
    simp only [T.shown, List.length_append, List.length_cons, List.length_nil] at hl
    have h1 := hr s (by simp only [T.depth] at ht; omega) (by omega)
    have h2 := hr t (by simp only [T.depth] at ht; omega) (by omega)
    have h3 := hs s
    have h4 := hs t
    have h5 := hs (.bin k s t)
    simp only [T.kind, T.st] at h5
    have h6 := hg k
    have w1 := fun b => hw s.shown b (by omega)
    have w2 := fun b => hw t.shown b (by omega)
    have ix1 := ix0 s
    have ix2 := ix0 t
    have e42 : eqb 4 2 = false := rfl
    have e32 : eqb 3 2 = false := rfl
    have e22 : eqb 2 2 = true := rfl
    have e12 : eqb 1 2 = false := rfl
    cases k <;> simp [K4.code, K4.st, K4.sign, e42, e32, e22, e12] at h5 h6 hl <;>
      simp (disch := first | assumption | omega | (simp only [List.length_append, List.length_cons, List.length_nil, List.length_map, List.length_reverse, List.length_replicate, List.length_range, List.length_take, List.length_drop, enD_length, rangeD_length]; omega) | (simp; done) | fail) [decide_eq_true, decide_eq_false, kAsg, kNx, b_shown, T.toD, T.shown, K4.code, K4.st, K4.sign, ix1, ix2, h1, h2, h3, h4, h5, h6, w1, w2, e42, e32, e22, e12, cl1, cl2, cl3, cl4, ce1, ce2, ce3, ce4]
end PL
set_option Elab.async false
set_option linter.all false
set_option maxRecDepth 100000
set_option maxHeartbeats 1000000
namespace PL
set_option autoImplicit false
open L2
def CellOk (f : Fn) : Prop := ∀ (ns : List Int) (k : Nat), ns.length ≤ 1000 → f [.val (.scr ns), .val (.int k)] = .ok (.val (.int (ns.getD k 0))) [.val (.scr ns), .val (.int k)]
theorem cell_ok : CellOk (bodyF 2 2 2 b_cell_at_86d1) := fun ns k hl => by
  by_cases h : k < ns.length
  · have h2 : (k : Int) < (ns.length : Int) := by omega
    have h3 : L2.atI (ns.map D.int) (k : Int) = some (D.int ns[k]) := by
      rw [atI_of _ k (by simpa using h)]; simp
    simp (disch := first | assumption | omega | (simp only [List.length_append, List.length_cons, List.length_nil, List.length_map, List.length_reverse, List.length_replicate, List.length_range, List.length_take, List.length_drop, enD_length, rangeD_length]; omega) | (simp; done) | fail) [decide_eq_true, decide_eq_false, kAsg, kNx, b_cell_at_86d1, h2, h3, h]
  · have h2 : ¬ (k : Int) < (ns.length : Int) := by omega
    have h4 : ns[k]? = none := List.getElem?_eq_none (by omega)
    simp (disch := first | assumption | omega | (simp only [List.length_append, List.length_cons, List.length_nil, List.length_map, List.length_reverse, List.length_replicate, List.length_range, List.length_take, List.length_drop, enD_length, rangeD_length]; omega) | (simp; done) | fail) [decide_eq_true, decide_eq_false, kAsg, kNx, b_cell_at_86d1, h2, h4]
end PL
set_option Elab.async false
set_option linter.all false
set_option maxRecDepth 100000
set_option maxHeartbeats 1000000
namespace PL
set_option autoImplicit false
open L2
def abc : List Nat := [97, 98, 99, 100, 101, 102, 103, 104, 105, 106, 107, 108, 109, 110, 111, 112, 113, 114, 115, 116, 117, 118, 119, 120, 121, 122]
theorem abc_fin : ∀ n : Fin 26, abc[n.val]? = some (97 + n.val) := by decide
theorem abc_at (i : Int) : L2.atI abc (i % 26) = some (97 + (i % 26).toNat) := by
  have h0 : 0 ≤ i % 26 := Int.emod_nonneg _ (by decide)
  have h1 : i % 26 < 26 := Int.emod_lt_of_pos _ (by decide)
  have e : i % 26 = ((i % 26).toNat : Int) := by omega
  have hl : (i % 26).toNat < abc.length := by show _ < 26; omega
  have h2 := abc_fin ⟨(i % 26).toNat, hl⟩
  rw [e, atI_of _ _ hl]
  rw [List.getElem?_eq_getElem hl] at h2
  exact h2
/-- the letter at a number -/
def letter (i : Int) : Nat := 97 + (i % 26).toNat
def stemL (r : Int) : List Nat := (List.range 8).map fun (k : Nat) => letter (r / 3 + 7 * k * k + k)
def signL (r : Int) (k : Nat) : Nat := letter (r / 5 + 5 * k)
/-- the names of a script -/
def namesA (c : Int) (m : Nat) : List (List Nat) :=
  let r := c / 3
  if c % 3 = 0 then (List.range m).map fun (k : Nat) => (stemL r).take (r / 8 % (1 + r % 8)).toNat ++ [signL r k] ++ ((stemL r).take (1 + r % 8).toNat).drop (r / 8 % (1 + r % 8) + 1).toNat
  else if c % 3 = 1 then (List.range m).map fun (k : Nat) => (stemL r).take (1 + (3 * k + r) % 8).toNat
  else (List.range m).map fun (k : Nat) => signL r k :: (stemL r).take ((3 * k + r) % 8).toNat
def NamesOk (f : Fn) : Prop := ∀ (c : Int) (m : Nat), m ≤ 1000 → f [.val (.int c), .val (.int m)] = .ok (.val (.tup ((namesA c m).map .str))) [.val (.int c), .val (.int m)]
theorem letter_eq (i : Int) : (oR (L2.atI abc (i % 26))).bind (fun c => R.ok (D.str [c])) = .ok (.str [letter i]) := by rw [abc_at]; rfl
theorem names_ok : NamesOk (bodyF 10 2 2 b_names_by_5a28) := fun c m hm => by
  have hj : gJoin [] (.lst ((List.range 8).map fun k : Nat => D.str [letter (c / 3 / 3 + 7 * k * k + k)])) = .ok (.str (stemL (c / 3))) := gJoin_one _ _ (by decide)
  have ha : (97 :: 98 :: 99 :: 100 :: 101 :: 102 :: 103 :: 104 :: 105 :: 106 :: 107 :: 108 :: 109 :: 110 :: 111 :: 112 :: 113 :: 114 :: 115 :: 116 :: 117 :: 118 :: 119 :: 120 :: 121 :: 122 :: []) = abc := rfl
  have hal : abc.length = 26 := rfl
  have hsl : (stemL (c / 3)).length = 8 := by simp [stemL]
  unfold b_names_by_5a28
  rw [ha]
  simp (disch := first | assumption | omega | (simp only [List.length_append, List.length_cons, List.length_nil, List.length_map, List.length_reverse, List.length_replicate, List.length_range, List.length_take, List.length_drop, enD_length, rangeD_length]; omega) | (simp; done) | fail) [decide_eq_true, decide_eq_false, kAsg, kNx, hal]
  rw [lc_rngI 8 (fun k : Nat => .str [letter (c / 3 / 3 + 7 * k * k + k)]) (fun k hk => by simp (disch := first | assumption | omega | (simp only [List.length_append, List.length_cons, List.length_nil, List.length_map, List.length_reverse, List.length_replicate, List.length_range, List.length_take, List.length_drop, enD_length, rangeD_length]; omega) | (simp; done) | fail) [decide_eq_true, decide_eq_false, kAsg, kNx, letter_eq, hal])]
  simp (disch := first | assumption | omega | (simp only [List.length_append, List.length_cons, List.length_nil, List.length_map, List.length_reverse, List.length_replicate, List.length_range, List.length_take, List.length_drop, enD_length, rangeD_length]; omega) | (simp; done) | fail) [decide_eq_true, decide_eq_false, kAsg, kNx, hal, hj]
  rw [lc_rngI m (fun k : Nat => .str [signL (c / 3) k]) (fun k hk => by simp (disch := first | assumption | omega | (simp only [List.length_append, List.length_cons, List.length_nil, List.length_map, List.length_reverse, List.length_replicate, List.length_range, List.length_take, List.length_drop, enD_length, rangeD_length]; omega) | (simp; done) | fail) [decide_eq_true, decide_eq_false, kAsg, kNx, letter_eq, hal, signL])]
  have q0 : 0 ≤ c / 3 / 8 % (1 + c / 3 % 8) := Int.emod_nonneg _ (by omega)
  have q1 : c / 3 / 8 % (1 + c / 3 % 8) < 1 + c / 3 % 8 := Int.emod_lt_of_pos _ (by omega)
  by_cases h0 : c % 3 = 0
  · simp (disch := first | assumption | omega | (simp only [List.length_append, List.length_cons, List.length_nil, List.length_map, List.length_reverse, List.length_replicate, List.length_range, List.length_take, List.length_drop, enD_length, rangeD_length]; omega) | (simp; done) | fail) [decide_eq_true, decide_eq_false, kAsg, kNx, h0, namesA]
    rw [lc_map (fun k : Nat => D.str [signL (c / 3) k]) (fun k : Nat => .str ((stemL (c / 3)).take (c / 3 / 8 % (1 + c / 3 % 8)).toNat ++ signL (c / 3) k :: ((stemL (c / 3)).take (1 + c / 3 % 8).toNat).drop (c / 3 / 8 % (1 + c / 3 % 8) + 1).toNat)) _ (fun k hk => by simp (disch := first | assumption | omega | (simp only [List.length_append, List.length_cons, List.length_nil, List.length_map, List.length_reverse, List.length_replicate, List.length_range, List.length_take, List.length_drop, enD_length, rangeD_length]; omega) | (simp; done) | fail) [decide_eq_true, decide_eq_false, kAsg, kNx, hsl, cut_to, cut_both])]
    simp (disch := first | assumption | omega | (simp only [List.length_append, List.length_cons, List.length_nil, List.length_map, List.length_reverse, List.length_replicate, List.length_range, List.length_take, List.length_drop, enD_length, rangeD_length]; omega) | (simp; done) | fail) [decide_eq_true, decide_eq_false, kAsg, kNx, Function.comp_def]
  · by_cases h1 : c % 3 = 1
    · simp (disch := first | assumption | omega | (simp only [List.length_append, List.length_cons, List.length_nil, List.length_map, List.length_reverse, List.length_replicate, List.length_range, List.length_take, List.length_drop, enD_length, rangeD_length]; omega) | (simp; done) | fail) [decide_eq_true, decide_eq_false, kAsg, kNx, h0, h1, namesA]
      rw [lc_rngI m (fun k : Nat => .str ((stemL (c / 3)).take (1 + (3 * k + c / 3) % 8).toNat)) (fun k hk => by simp (disch := first | assumption | omega | (simp only [List.length_append, List.length_cons, List.length_nil, List.length_map, List.length_reverse, List.length_replicate, List.length_range, List.length_take, List.length_drop, enD_length, rangeD_length]; omega) | (simp; done) | fail) [decide_eq_true, decide_eq_false, kAsg, kNx, hsl, cut_to])]
      simp (disch := first | assumption | omega | (simp only [List.length_append, List.length_cons, List.length_nil, List.length_map, List.length_reverse, List.length_replicate, List.length_range, List.length_take, List.length_drop, enD_length, rangeD_length]; omega) | (simp; done) | fail) [decide_eq_true, decide_eq_false, kAsg, kNx, Function.comp_def]
    · simp (disch := first | assumption | omega | (simp only [List.length_append, List.length_cons, List.length_nil, List.length_map, List.length_reverse, List.length_replicate, List.length_range, List.length_take, List.length_drop, enD_length, rangeD_length]; omega) | (simp; done) | fail) [decide_eq_true, decide_eq_false, kAsg, kNx, h0, h1, namesA]
      rw [lc_rngI m (fun k : Nat => .str (signL (c / 3) k :: (stemL (c / 3)).take ((3 * k + c / 3) % 8).toNat)) (fun k hk => by
        have e : L2.atI (List.map (fun k : Nat => D.str [signL (c / 3) k]) (List.range m)) (k : Int) = some (D.str [signL (c / 3) k]) := by
          rw [atI_of _ k (by simp; omega)]; simp
        simp (disch := first | assumption | omega | (simp only [List.length_append, List.length_cons, List.length_nil, List.length_map, List.length_reverse, List.length_replicate, List.length_range, List.length_take, List.length_drop, enD_length, rangeD_length]; omega) | (simp; done) | fail) [decide_eq_true, decide_eq_false, kAsg, kNx, hsl, cut_to, e]
        trace_state)]
      simp (disch := first | assumption | omega | (simp only [List.length_append, List.length_cons, List.length_nil, List.length_map, List.length_reverse, List.length_replicate, List.length_range, List.length_take, List.length_drop, enD_length, rangeD_length]; omega) | (simp; done) | fail) [decide_eq_true, decide_eq_false, kAsg, kNx, Function.comp_def]
theorem namesA_len (c : Int) (m : Nat) : (namesA c m).length = m := by
  unfold namesA
  dsimp only
  split
  · simp
  · split <;> simp
end PL
set_option Elab.async false
set_option linter.all false
set_option maxRecDepth 100000
set_option maxHeartbeats 1000000
namespace PL
set_option autoImplicit false
open L2
def T.nmIn (ns : List (List Nat)) : T → Prop
  | .nm x => x ∈ ns
  | .nt t => t.nmIn ns
  | .bin _ s t => s.nmIn ns ∧ t.nmIn ns
  | _ => True
theorem T.depth_pos (t : T) : 1 ≤ t.depth := by cases t <;> simp only [T.depth] <;> omega
def pr (t : T) : D := .tup [t.toD, .int t.depth]
def sizes : List T → Nat
  | [] => 0
  | t :: r => t.size + sizes r
def T.fit (ns : List (List Nat)) (m : Int) (t : T) : Prop := t.nmIn ns ∧ (t.depth : Int) ≤ m
/-- the loop's frame: r the stack from its top down -/
def GS (ns : List (List Nat)) (a1 : Sl) (most : Int) (i : Nat) (ρ : List Sl) : Prop :=
  ∃ (r : List T) (s4 s5 s6 s7 s8 s9 s10 s11 s12 : Sl), ρ = [.val (nmD ns), a1, .val (.int most), .own (.lst (r.reverse.map pr)), s4, s5, s6, s7, s8, s9, s10, s11, s12] ∧ (∀ t ∈ r, t.fit ns most) ∧ sizes r ≤ i ∧ r.length ≤ i
theorem GS.push {ns : List (List Nat)} {a1 : Sl} {most : Int} {i : Nat} {t : T} {r : List T} (ht : t.fit ns most) (hr : ∀ t ∈ r, t.fit ns most) (hs : t.size + sizes r ≤ i) (hn : r.length + 1 ≤ i) (s4 s5 s6 s7 s8 s9 s10 s11 s12 : Sl) :
    GS ns a1 most i [.val (nmD ns), a1, .val (.int most), .own (.lst (r.reverse.map pr ++ [.tup [t.toD, .int t.depth]])), s4, s5, s6, s7, s8, s9, s10, s11, s12] := by
  refine ⟨t :: r, s4, s5, s6, s7, s8, s9, s10, s11, s12, ?_, fun u hu => ?_, hs, hn⟩
  · simp [pr]
  · rcases List.mem_cons.mp hu with e | hu
    · subst e; exact ht
    · exact hr u hu
def Qd (m L : Nat) (ts : List T) : Prop := ∃ (A B : List T) (j : Nat), ts = A ++ B ∧ (∀ t ∈ A, t.depth ≤ m + j) ∧ (∀ t ∈ B, t.depth ≤ m + j + 1) ∧ A.length + 2 * B.length ≤ 2 ^ (L - j) ∧ j ≤ L
theorem Qd.init {m L : Nat} {ts : List T} (h : ∀ t ∈ ts, t.depth ≤ m) (hl : ts.length ≤ 2 ^ L) : Qd m L ts := ⟨ts, [], 0, by simp, h, by simp, by simpa using hl, Nat.zero_le _⟩
theorem Qd.step {m L : Nat} {k : K4} {a b : T} {ts : List T} (h : Qd m L (a :: b :: ts)) : Qd m L (ts ++ [.bin k a b]) := by
  obtain ⟨A, B, j, e, hA, hB, hn, hj⟩ := h
  match A, B, e with
  | x :: y :: A, B, e =>
    simp only [List.cons_append, List.cons.injEq] at e
    obtain ⟨rfl, rfl, rfl⟩ := e
    have d1 := hA a (by simp)
    have d2 := hA b (by simp)
    refine ⟨A, B ++ [.bin k a b], j, by simp, fun t ht => hA t (by simp [ht]), fun t ht => ?_, by simp at hn ⊢; omega, hj⟩
    rcases List.mem_append.mp ht with ht | ht
    · exact hB t ht
    · rw [List.mem_singleton.mp ht]; simp only [T.depth]; omega
  | [x], y :: B, e =>
    simp only [List.cons_append, List.nil_append, List.cons.injEq] at e
    obtain ⟨rfl, rfl, rfl⟩ := e
    have d1 := hA a (by simp)
    have d2 := hB b (by simp)
    simp only [List.length_cons, List.length_nil] at hn
    have hj1 : j + 1 ≤ L := by
      rcases Nat.lt_or_ge j L with h | h
      · exact h
      · have : L - j = 0 := by omega
        rw [this] at hn; simp at hn; omega
    have e2 : 2 ^ (L - j) = 2 * 2 ^ (L - (j + 1)) := by rw [← Nat.pow_succ']; congr 1; omega
    refine ⟨ts, [.bin k a b], j + 1, rfl, fun t ht => by have := hB t (by simp [ht]); omega, fun t ht => ?_, by simp; omega, hj1⟩
    rw [List.mem_singleton.mp ht]; simp only [T.depth]; omega
  | [], x :: y :: B, e =>
    simp only [List.nil_append, List.cons.injEq] at e
    obtain ⟨rfl, rfl, rfl⟩ := e
    have d1 := hB a (by simp)
    have d2 := hB b (by simp)
    simp only [List.length_cons, List.length_nil] at hn
    have hj1 : j + 1 ≤ L := by
      rcases Nat.lt_or_ge j L with h | h
      · exact h
      · have : L - j = 0 := by omega
        rw [this] at hn; simp at hn; omega
    have e2 : 2 ^ (L - j) = 2 * 2 ^ (L - (j + 1)) := by rw [← Nat.pow_succ']; congr 1; omega
    refine ⟨ts, [.bin k a b], j + 1, rfl, fun t ht => by have := hB t (by simp [ht]); omega, fun t ht => ?_, by simp; omega, hj1⟩
    rw [List.mem_singleton.mp ht]; simp only [T.depth]; omega
  | [x], [], e => simp at e
  | [], [x], e => simp at e
  | [], [], e => simp at e
theorem Qd.one {m L : Nat} {t : T} (h : Qd m L [t]) : t.depth ≤ m + L := by
  obtain ⟨A, B, j, e, hA, hB, hn, hj⟩ := h
  match A, B, e with
  | x :: A, B, e =>
    simp at e
    have := hA x (by simp)
    rw [e.1]; omega
  | [], x :: B, e =>
    simp at e
    have := hB x (by simp)
    rw [e.1]
    simp only [List.length_cons, List.length_nil] at hn
    rcases Nat.lt_or_ge j L with h | h
    · omega
    · have : L - j = 0 := by omega
      rw [this] at hn; simp at hn; omega
def WS (ns : List (List Nat)) (m L N : Nat) (a0 a1 a2 : Sl) (ρ : List Sl) : Prop :=
  ∃ (ts : List T) (s3 s4 s5 s6 s7 s8 s9 s10 s11 : Sl), ρ = [a0, a1, a2, s3, s4, s5, s6, s7, s8, s9, s10, s11, .own (.lst (ts.map T.toD))] ∧ ts ≠ [] ∧ (∀ t ∈ ts, t.nmIn ns) ∧ Qd m L ts ∧ sizes ts + ts.length ≤ N
end PL
set_option Elab.async false
set_option linter.all false
set_option maxRecDepth 100000
namespace PL
set_option autoImplicit false
open L2
noncomputable def b_deep_4d5c (f__law_deep : Fn) : Es := (seqS (ifS (tOo (e2 gEq (eCall gLen (aCons (eVar 0) aNil)) (eC (.int (1)))) (e2 gEq (e2 gIx (eVar 0) (eC (.int (0)))) (eC (.str [110, 97, 109, 101])))) (retS (eC (.int (1)))) skipS)
  (retS (e2 gAdd (eC (.int (1))) (eCall gMax1 (aCons (eLc [1] (iSeq (eSl (eVar 0) (oSome (eC (.int (1)))) oNone)) (ftOne 1) fcYes (eFn f__law_deep (aCons (eFrz 1) aNil))) aNil)))))
end PL
set_option Elab.async false
set_option linter.all false
set_option maxRecDepth 100000
set_option maxHeartbeats 1000000
namespace PL
set_option autoImplicit false
open L2
theorem K4.code_ne (k : K4) : k.code ≠ [110, 97, 109, 101] := by cases k <;> simp [K4.code]
theorem maxI_one (a : Int) : maxI [a] = a := rfl
theorem maxI_two (a b : Int) : maxI [a, b] = max a b := by
  simp only [maxI, List.foldl_cons, List.foldl_nil]
def DepthOk (n : Nat) (f : Fn) : Prop := ∀ t : T, t.depth ≤ n → f [.val t.toD] = .ok (.val (.int t.depth)) [.val t.toD]
def addN (xs : List (List Nat)) (x : List Nat) : List (List Nat) := if x ∈ xs then xs else xs ++ [x]
def T.names : T → List (List Nat) → List (List Nat)
  | .nm x, xs => addN xs x
  | .nt t, xs => t.names xs
  | .bin _ s t, xs => t.names (s.names xs)
  | _, xs => xs
def NamesInOk (n : Nat) (f : Fn) : Prop := ∀ t : T, t.depth ≤ n → t.size ≤ 1000000 → (t.names []).length < 64 → f [.val t.toD] = .ok (.val (.lst ((sortOf leS (t.names [])).map .str))) [.val t.toD]
theorem deep_ok {n : Nat} {fd : Fn} (hd : DepthOk n fd) : DepthOk (n + 1) (bodyF 2 1 1 (b_deep_4d5c fd)) := fun t ht => by
  cases t with
  | nm x => simp (disch := first | assumption | omega | (simp only [List.length_append, List.length_cons, List.length_nil, List.length_map, List.length_reverse, List.length_replicate, List.length_range, List.length_take, List.length_drop, enD_length, rangeD_length]; omega) | (simp; done) | fail) [decide_eq_true, decide_eq_false, kAsg, kNx, b_deep_4d5c, T.toD, T.depth]
  | yes => simp (disch := first | assumption | omega | (simp only [List.length_append, List.length_cons, List.length_nil, List.length_map, List.length_reverse, List.length_replicate, List.length_range, List.length_take, List.length_drop, enD_length, rangeD_length]; omega) | (simp; done) | fail) [decide_eq_true, decide_eq_false, kAsg, kNx, b_deep_4d5c, T.toD, T.depth]
  | no => simp (disch := first | assumption | omega | (simp only [List.length_append, List.length_cons, List.length_nil, List.length_map, List.length_reverse, List.length_replicate, List.length_range, List.length_take, List.length_drop, enD_length, rangeD_length]; omega) | (simp; done) | fail) [decide_eq_true, decide_eq_false, kAsg, kNx, b_deep_4d5c, T.toD, T.depth]
  | nt t =>
    simp only [T.depth] at ht
    have h2 := hd t (by omega)
    have hlc : ∀ a : Sl, lcGo [a, .emp] (ftOne 1) fcYes (eFn fd (aCons (eFrz 1) aNil)) ([t].map T.toD) = .ok ([t].map fun u => .int u.depth) := fun a => lc_map _ _ _ fun u hu => by
      simp at hu; subst hu
      simp (disch := first | assumption | omega | (simp only [List.length_append, List.length_cons, List.length_nil, List.length_map, List.length_reverse, List.length_replicate, List.length_range, List.length_take, List.length_drop, enD_length, rangeD_length]; omega) | (simp; done) | fail) [decide_eq_true, decide_eq_false, kAsg, kNx, h2]
    have hm := gMax1_l [(t.depth : Int)] (by simp)
    simp only [List.map_cons, List.map_nil, maxI_one] at hlc hm
    simp (disch := first | assumption | omega | (simp only [List.length_append, List.length_cons, List.length_nil, List.length_map, List.length_reverse, List.length_replicate, List.length_range, List.length_take, List.length_drop, enD_length, rangeD_length]; omega) | (simp; done) | fail) [decide_eq_true, decide_eq_false, kAsg, kNx, b_deep_4d5c, T.toD, T.depth, hlc, hm]
    omega
  | bin k s t =>
    have hk := K4.code_ne k
    simp only [T.depth] at ht
    have h1 := hd s (by omega)
    have h2 := hd t (by omega)
    have hlc : ∀ a : Sl, lcGo [a, .emp] (ftOne 1) fcYes (eFn fd (aCons (eFrz 1) aNil)) ([s, t].map T.toD) = .ok ([s, t].map fun u => .int u.depth) := fun a => lc_map _ _ _ fun u hu => by
      simp at hu
      rcases hu with rfl | rfl
      · simp (disch := first | assumption | omega | (simp only [List.length_append, List.length_cons, List.length_nil, List.length_map, List.length_reverse, List.length_replicate, List.length_range, List.length_take, List.length_drop, enD_length, rangeD_length]; omega) | (simp; done) | fail) [decide_eq_true, decide_eq_false, kAsg, kNx, h1]
      · simp (disch := first | assumption | omega | (simp only [List.length_append, List.length_cons, List.length_nil, List.length_map, List.length_reverse, List.length_replicate, List.length_range, List.length_take, List.length_drop, enD_length, rangeD_length]; omega) | (simp; done) | fail) [decide_eq_true, decide_eq_false, kAsg, kNx, h2]
    have hm := gMax1_l [(s.depth : Int), t.depth] (by simp)
    simp only [List.map_cons, List.map_nil, maxI_two] at hlc hm
    simp (disch := first | assumption | omega | (simp only [List.length_append, List.length_cons, List.length_nil, List.length_map, List.length_reverse, List.length_replicate, List.length_range, List.length_take, List.length_drop, enD_length, rangeD_length]; omega) | (simp; done) | fail) [decide_eq_true, decide_eq_false, kAsg, kNx, b_deep_4d5c, T.toD, T.depth, hlc, hm, hk]
    omega
def T.has (x : List Nat) : T → Bool
  | .nm y => decide (y = x)
  | .nt t => t.has x
  | .bin _ s t => s.has x || t.has x
  | _ => false
end PL
set_option Elab.async false
set_option linter.all false
set_option maxRecDepth 100000
set_option maxHeartbeats 1000000
namespace PL
set_option autoImplicit false
open PySem L2
end PL
set_option Elab.async false
set_option linter.all false
set_option maxRecDepth 100000
set_option maxHeartbeats 1000000
namespace PL
set_option autoImplicit false
open PySem L2
end PL
set_option Elab.async false
set_option linter.all false
set_option maxRecDepth 100000
set_option maxHeartbeats 1000000
namespace PL
set_option autoImplicit false
open PySem L2
end PL
set_option Elab.async false
set_option linter.all false
set_option maxRecDepth 100000
namespace PL
set_option autoImplicit false
open L2
end PL
set_option Elab.async false
set_option linter.all false
set_option maxRecDepth 100000
set_option maxHeartbeats 1000000
set_option exponentiation.threshold 20000
namespace PL
set_option autoImplicit false
open PySem L2 PyProof.Rows
def tabOf (p : Nat → Bool) : Nat → Nat
  | 0 => 0
  | n + 1 => tabOf p n + (if p n = true then 2 ^ n else 0)
theorem tabOf_lt (p : Nat → Bool) : ∀ n, tabOf p n < 2 ^ n
  | 0 => by simp [tabOf]
  | n + 1 => by
    have := tabOf_lt p n
    simp only [tabOf, Nat.pow_succ]
    split <;> omega
theorem tabOf_bit (p : Nat → Bool) : ∀ (n w : Nat), (tabOf p n).testBit w = (decide (w < n) && p w)
  | 0, w => by simp [tabOf]
  | n + 1, w => by
    have hlt := tabOf_lt p n
    have ih := tabOf_bit p n w
    simp only [tabOf]
    by_cases hp : p n = true
    · rw [if_pos hp, Nat.add_comm]
      by_cases hw : w < n
      · rw [Nat.testBit_two_pow_add_gt hw, ih]
        simp [hw, show w < n + 1 by omega]
      · by_cases he : w = n
        · subst he
          rw [Nat.testBit_two_pow_add_eq, Nat.testBit_lt_two_pow hlt]
          simp [hp]
        · have h1 : 2 ^ n + tabOf p n < 2 ^ w := by
            have : 2 ^ (n + 1) ≤ 2 ^ w := Nat.pow_le_pow_right (by decide) (by omega)
            rw [Nat.pow_succ] at this; omega
          rw [Nat.testBit_lt_two_pow h1]
          simp [show ¬ w < n + 1 by omega]
    · rw [if_neg hp, Nat.add_zero, ih]
      by_cases hw : w < n
      · simp [hw, show w < n + 1 by omega]
      · by_cases he : w = n
        · subst he; simp [hp]
        · simp [hw, show ¬ w < n + 1 by omega]
def tabD (p : Nat → Bool) (n : Nat) : D := .int (tabOf p n : Nat)
def colP (k w : Nat) : Bool := w.testBit k
end PL
set_option Elab.async false
set_option linter.all false
set_option maxRecDepth 100000
set_option maxHeartbeats 1000000
set_option exponentiation.threshold 20000
namespace PL
set_option autoImplicit false
open PySem L2 PyProof.Rows
def T.ev (ns : List (List Nat)) : T → Nat → Bool
  | .nm x, w => colP ((posS ns x).getD 0) w
  | .yes, _ => true
  | .no, _ => false
  | .nt t, w => !t.ev ns w
  | .bin .an s t, w => s.ev ns w && t.ev ns w
  | .bin .or s t, w => s.ev ns w || t.ev ns w
  | .bin .th s t, w => !s.ev ns w || t.ev ns w
  | .bin .sm s t, w => s.ev ns w == t.ev ns w
abbrev W2 (ns : List (List Nat)) : Nat := 2 ^ ns.length
theorem W2_le {ns : List (List Nat)} (h : ns.length ≤ 8) : W2 ns ≤ 256 := Nat.pow_le_pow_right (n := 2) (by decide) h
def LookOk (n : Nat) (f : Fn) : Prop := ∀ (ns : List (List Nat)) (t : T), ns.Nodup → ns.length ≤ 8 → t.nmIn ns → t.depth ≤ n → t.size ≤ 1000000 → f [.val (nmD ns), .val t.toD] = .ok (.val .non) [.val (nmD ns), .val t.toD]
end PL
set_option Elab.async false
set_option linter.all false
set_option maxRecDepth 100000
set_option maxHeartbeats 1000000
set_option exponentiation.threshold 20000
namespace PL
set_option autoImplicit false
open PySem L2 PyProof.Rows
def optD : Option Int → D
  | none => .non
  | some i => .int i
def okN (ns : List (List Nat)) : Prop := ns.Nodup ∧ ns.length ≤ 8 ∧ 1 ≤ ns.length ∧ nmOk ns
def okT (ns : List (List Nat)) (t : T) : Prop := t.nmIn ns ∧ t.depth ≤ 19
theorem size_depth : ∀ t : T, t.size < 2 ^ t.depth
  | .nm _ => by simp [T.size, T.depth]
  | .yes => by simp [T.size, T.depth]
  | .no => by simp [T.size, T.depth]
  | .nt t => by
    have := size_depth t
    simp only [T.size, T.depth, Nat.pow_succ]; omega
  | .bin _ s t => by
    have h1 := size_depth s
    have h2 := size_depth t
    have h3 : 2 ^ s.depth ≤ 2 ^ max s.depth t.depth := Nat.pow_le_pow_right (by decide) (by omega)
    have h4 : 2 ^ t.depth ≤ 2 ^ max s.depth t.depth := Nat.pow_le_pow_right (by decide) (by omega)
    simp only [T.size, T.depth, Nat.pow_succ]; omega
theorem okT.size {ns : List (List Nat)} {t : T} (h : okT ns t) : t.size ≤ 1000000 := by
  have h1 := size_depth t
  have h2 : 2 ^ t.depth ≤ 2 ^ 19 := Nat.pow_le_pow_right (by decide) h.2
  omega
theorem W2_256 {ns : List (List Nat)} (h : okN ns) : W2 ns ≤ 256 := W2_le h.2.1
def lstS (b : Bool) (r : Int) (a : Option Int) : Option Int := if b = true then (match a with
  | none => some r
  | some m => if r < m then some r else some m) else a
def lstN (p : Nat → Bool) (r : Nat → Int) : Nat → Option Int
  | 0 => none
  | i + 1 => lstS (p i) (r i) (lstN p r i)
def leastO (p : Nat → Bool) (rs : List Int) : Option Int := lstN p (fun i => rs.getD i 0) rs.length
def LeastK (f : Fn) : Prop := ∀ (p : Nat → Bool) (rs : List Int), rs.length ≤ 1000 → f [.val (.tup (rs.map .int)), .val (tabD p rs.length)] = .ok (.val (optD (leastO p rs))) [.val (.tup (rs.map .int)), .val (tabD p rs.length)]
end PL
set_option Elab.async false
set_option linter.all false
set_option maxRecDepth 100000
set_option maxHeartbeats 1000000
set_option exponentiation.threshold 20000
namespace PL
set_option autoImplicit false
open PySem L2 PyProof.Rows
def okR (ns : List (List Nat)) (rs : List Int) : Prop := rs.length = W2 ns
theorem LeastK.at {f : Fn} (h : LeastK f) {ns : List (List Nat)} {rs : List Int} (hn : okN ns) (hr : okR ns rs) (p : Nat → Bool) :
    f [.val (.tup (rs.map .int)), .val (tabD p (W2 ns))] = .ok (.val (optD (leastO p rs))) [.val (.tup (rs.map .int)), .val (tabD p (W2 ns))] := by
  have h1 := h p rs (by have := W2_256 hn; rw [hr]; omega)
  rwa [hr] at h1
end PL
set_option Elab.async false
set_option linter.all false
set_option maxRecDepth 100000
set_option maxHeartbeats 1000000
set_option exponentiation.threshold 20000
namespace PL
set_option autoImplicit false
open PySem L2 PyProof.Rows
end PL
set_option Elab.async false
set_option linter.all false
set_option maxRecDepth 100000
set_option maxHeartbeats 1000000
set_option exponentiation.threshold 20000
namespace PL
set_option autoImplicit false
open PySem L2 PyProof.Rows
end PL
set_option Elab.async false
set_option linter.all false
set_option maxRecDepth 100000
set_option maxHeartbeats 1000000
set_option exponentiation.threshold 20000
namespace PL
set_option autoImplicit false
open PySem L2 PyProof.Rows
end PL
set_option Elab.async false
set_option linter.all false
set_option maxRecDepth 100000
set_option maxHeartbeats 1000000
set_option exponentiation.threshold 20000
namespace PL
set_option autoImplicit false
open PySem L2 PyProof.Rows
end PL
set_option Elab.async false
set_option linter.all false
set_option maxRecDepth 100000
set_option maxHeartbeats 1000000
set_option exponentiation.threshold 20000
namespace PL
set_option autoImplicit false
open PySem L2 PyProof.Rows
end PL
set_option Elab.async false
set_option linter.all false
set_option maxRecDepth 100000
set_option maxHeartbeats 1000000
set_option exponentiation.threshold 20000
namespace PL
set_option autoImplicit false
open PySem L2 PyProof.Rows
end PL
set_option Elab.async false
set_option linter.all false
set_option maxRecDepth 100000
set_option maxHeartbeats 1000000
set_option exponentiation.threshold 20000
namespace PL
set_option autoImplicit false
open PySem L2 PyProof.Rows
end PL
set_option Elab.async false
set_option linter.all false
set_option maxRecDepth 100000
set_option maxHeartbeats 1000000
set_option exponentiation.threshold 20000
namespace PL
set_option autoImplicit false
open PySem L2 PyProof.Rows
end PL
set_option Elab.async false
set_option linter.all false
set_option maxRecDepth 100000
namespace PL
set_option autoImplicit false
open L2
@[simp] theorem gIsB_t (a : Bool) : gIsB (.bl a) (.bl true) = .ok a := by cases a <;> rfl
@[simp] theorem gIsB_f (a : Bool) : gIsB (.bl a) (.bl false) = .ok (!a) := by cases a <;> rfl
@[simp] theorem gNotB_t (a : Bool) : gNotB (.bl a) (.bl true) = .ok (!a) := by cases a <;> rfl
@[simp] theorem gNotB_f (a : Bool) : gNotB (.bl a) (.bl false) = .ok a := by cases a <;> rfl
@[simp] theorem lendT_eq (i : Nat) (f : Ev Bool) (ρ : List Sl) : lendT i f ρ = f (frz1 ρ i ρ[i]?) := tr rfl
@[simp] theorem lendD_eq (i : Nat) (f : Ev D) (ρ : List Sl) : lendD i f ρ = (f (frz1 ρ i ρ[i]?)).bind fun d => if d.flat = true then .ok d else .stuck := tr rfl
@[simp] theorem flat_non : D.flat .non = true := tr rfl
@[simp] theorem flat_bl (b : Bool) : D.flat (.bl b) = true := tr rfl
@[simp] theorem flat_int (b : Int) : D.flat (.int b) = true := tr rfl
@[simp] theorem flat_str (b : List Nat) : D.flat (.str b) = true := tr rfl
@[simp] theorem lendN_eq (i : Nat) (f : Ev D) (ρ : List Sl) : lendN i f ρ = (f (frz1 ρ i ρ[i]?)).bind fun d => if d.flatL = true then .ok d else .stuck := tr rfl
@[simp] theorem flatL_lst (ds : List D) : D.flatL (.lst ds) = ds.all D.flat := tr rfl
@[simp] theorem gPowW_ii (i j : Int) (h : 0 ≤ j ∧ j ≤ 1000 ∧ i.natAbs < 2 ^ 10000) : gPowW (.int i) (.int j) = .ok (.int (i ^ j.toNat)) := if_pos h
@[simp] theorem raiseS_eq (c : Nat) (ρ : List Sl) : raiseS c ρ = .exc ⟨c, []⟩ ρ := tr rfl
def tryK (i j : Nat) : RS → RS
  | .exc x ρ' => if i < ρ'.length then .nx ((ρ'.set j (.val (.exn x.c))).set i .emp) else .stuck
  | r => r
theorem tryS_eq' (i j : Nat) (fb : Es) (ρ : List Sl) : tryS i j fb ρ = tryK i j (fb ρ) := by unfold tryS; cases fb ρ <;> rfl
@[simp] theorem tryS_eq (i j : Nat) (fb : Es) (ρ : List Sl) : tryS i j fb ρ = tryK i j (fb ρ) := tryS_eq' i j fb ρ
@[simp] theorem tryK_nx (i j : Nat) (ρ : List Sl) : tryK i j (.nx ρ) = .nx ρ := tr rfl
@[simp] theorem tryK_rt (i j : Nat) (r : Sl) (ρ : List Sl) : tryK i j (.rt r ρ) = .rt r ρ := tr rfl
@[simp] theorem tryK_exc (i j : Nat) (x : Exn) (ρ : List Sl) (h : i < ρ.length) : tryK i j (.exc x ρ) = .nx ((ρ.set j (.val (.exn x.c))).set i .emp) := if_pos h
@[simp] theorem gIsX_exn (j c : Nat) : gIsX j (.exn c) = .ok (subX c j) := tr rfl
@[simp] theorem gIsX_non (j : Nat) : gIsX j .non = .ok false := tr rfl
@[simp] theorem isNon_exn (c : Nat) : D.isNon (.exn c) = false := tr rfl
@[simp] theorem eIdxL_eq (fa fe : Ev D) (ρ : List Sl) : eIdxL fa fe ρ = (fa ρ).bind (idxR fe ρ) := tr rfl
@[simp] theorem idxR_lst (fe : Ev D) (ρ : List Sl) (ds : List D) : idxR fe ρ (.lst ds) = (fe ρ).bind (gIdxL ds) := tr rfl
@[simp] theorem gCatS_sl (x : List Int) (y : List D) (h : x.length + y.length ≤ 1000000) : gCatS (.scr x) (.lst y) = .ok (.lst (x.map .int ++ y)) := if_pos h
end PL
set_option Elab.async false
set_option linter.all false
set_option maxRecDepth 100000
namespace PL
set_option autoImplicit false
open L2
end PL
set_option Elab.async false
set_option linter.all false
set_option maxRecDepth 100000
set_option maxHeartbeats 1000000
set_option exponentiation.threshold 20000
namespace PL
set_option autoImplicit false
open PySem L2 PyProof.Rows
end PL
set_option Elab.async false
set_option linter.all false
set_option maxRecDepth 100000
set_option maxHeartbeats 1000000
set_option exponentiation.threshold 20000
namespace PL
set_option autoImplicit false
open PySem L2 PyProof.Rows
/-- a body goes on with P, or leaves with G -/
def Nxf (P : List Sl → Prop) (G : RS → Prop) : RS → Prop
  | .nx ρ => P ρ
  | .ct ρ => P ρ
  | .bk _ => False
  | .stuck => False
  | .rt r ρ => G (.rt r ρ)
  | .exc x ρ => G (.exc x ρ)
@[simp] theorem nxf_nx (P : List Sl → Prop) (G : RS → Prop) (ρ : List Sl) : Nxf P G (.nx ρ) = P ρ := rfl
@[simp] theorem nxf_ct (P : List Sl → Prop) (G : RS → Prop) (ρ : List Sl) : Nxf P G (.ct ρ) = P ρ := rfl
@[simp] theorem nxf_rt (P : List Sl → Prop) (G : RS → Prop) (r : Sl) (ρ : List Sl) : Nxf P G (.rt r ρ) = G (.rt r ρ) := rfl
@[simp] theorem nxf_exc (P : List Sl → Prop) (G : RS → Prop) (r : Exn) (ρ : List Sl) : Nxf P G (.exc r ρ) = G (.exc r ρ) := rfl
def brkP (p : Nat → Bool) (rs : List Int) (r : Int) (w : Nat) : Bool := decide (rs.getD w 0 = r) && !p w
def brkO (p : Nat → Bool) (rs : List Int) (r : Int) : Option Nat := (List.range rs.length).find? (brkP p rs r)
def optN : Option Nat → D
  | none => .non
  | some i => .int (i : Nat)
def BrokenK (f : Fn) : Prop := ∀ (p : Nat → Bool) (rs : List Int) (r : Int), rs.length ≤ 1000 → f [.val (.tup (rs.map .int)), .val (tabD p rs.length), .val (.int r)] = .ok (.val (optN (brkO p rs r))) [.val (.tup (rs.map .int)), .val (tabD p rs.length), .val (.int r)]
theorem BrokenK.at {f : Fn} (h : BrokenK f) {ns : List (List Nat)} {rs : List Int} (hn : okN ns) (hr : okR ns rs) (p : Nat → Bool) (r : Int) :
    f [.val (.tup (rs.map .int)), .val (tabD p (W2 ns)), .val (.int r)] = .ok (.val (optN (brkO p rs r))) [.val (.tup (rs.map .int)), .val (tabD p (W2 ns)), .val (.int r)] := by
  have h1 := h p rs r (by have := W2_256 hn; rw [hr]; omega)
  rwa [hr] at h1
end PL
set_option Elab.async false
set_option linter.all false
set_option maxRecDepth 100000
set_option maxHeartbeats 1000000
set_option exponentiation.threshold 20000
namespace PL
set_option autoImplicit false
open PySem L2 PyProof.Rows
end PL
set_option Elab.async false
set_option linter.all false
set_option maxRecDepth 100000
set_option maxHeartbeats 1000000
set_option exponentiation.threshold 20000
namespace PL
set_option autoImplicit false
open PySem L2 PyProof.Rows
end PL
set_option Elab.async false
set_option linter.all false
set_option maxRecDepth 100000
set_option maxHeartbeats 1000000
set_option exponentiation.threshold 20000
namespace PL
set_option autoImplicit false
open PySem L2 PyProof.Rows
end PL
set_option Elab.async false
set_option linter.all false
set_option maxRecDepth 100000
set_option maxHeartbeats 1000000
set_option exponentiation.threshold 20000
namespace PL
set_option autoImplicit false
open PySem L2 PyProof.Rows
end PL
set_option Elab.async false
set_option linter.all false
set_option maxRecDepth 100000
set_option maxHeartbeats 1000000
set_option exponentiation.threshold 20000
namespace PL
set_option autoImplicit false
open PySem L2 PyProof.Rows
def oneI (b : Bool) : Int := if b = true then 1 else 0
end PL
set_option Elab.async false
set_option linter.all false
set_option maxRecDepth 100000
set_option maxHeartbeats 1000000
set_option exponentiation.threshold 20000
namespace PL
set_option autoImplicit false
open PySem L2 PyProof.Rows
end PL
set_option Elab.async false
set_option linter.all false
set_option maxRecDepth 100000
set_option maxHeartbeats 1000000
set_option exponentiation.threshold 20000
namespace PL
set_option autoImplicit false
open PySem L2 PyProof.Rows
end PL
set_option Elab.async false
set_option linter.all false
set_option maxRecDepth 100000
namespace PL
set_option autoImplicit false
open L2
noncomputable def b_class_faa2 : Es := (seqS (asgS (ftOne 1) (eLst (aCons (eBl (e1 (gIsX 1) (eVar 0))) (aCons (eBl (e1 (gIsX 2) (eVar 0))) (aCons (eBl (e1 (gIsX 3) (eVar 0))) aNil)))))
  (seqS (asgS (ftOne 1) (e2 gAdd (eVar 1) (eLst (aCons (eBl (e1 (gIsX 4) (eVar 0))) (aCons (eBl (e1 (gIsX 5) (eVar 0))) (aCons (eBl (e1 (gIsX 6) (eVar 0))) aNil))))))
  (seqS (asgS (ftOne 1) (e2 gAdd (eVar 1) (eLst (aCons (eBl (e1 (gIsX 7) (eVar 0))) (aCons (eBl (e1 (gIsX 8) (eVar 0))) (aCons (eBl (e1 (gIsX 9) (eVar 0))) aNil))))))
  (seqS (asgS (ftOne 1) (e2 gAdd (eVar 1) (eLst (aCons (eBl (e1 (gIsX 10) (eVar 0))) aNil))))
  (seqS (ifS (tOo (e2 gNe (eCall gSum (aCons (eLc [3] (iSeq (eVar 1)) (ftOne 3) fcYes (eCall gIntOf (aCons (eVar 3) aNil))) aNil)) (eC (.int (1)))) (tNt (e1 tBool (eBl (e1 (gIsX 11) (eVar 0)))))) (retS (eC (.str [111, 116, 104, 101, 114]))) skipS)
  (seqS (asgS (ftOne 2) (eLst (aCons (eC (.str [115, 101, 110, 116, 101, 110, 99, 101])) (aCons (eC (.str [100, 101, 101, 112])) (aCons (eC (.str [110, 97, 109, 101])) (aCons (eC (.str [97, 108, 119, 97, 121, 115])) (aCons (eC (.str [110, 101, 118, 101, 114])) (aCons (eC (.str [109, 105, 110, 100, 115])) (aCons (eC (.str [117, 110, 108, 105, 107, 101])) (aCons (eC (.str [98, 97, 99, 107])) (aCons (eC (.str [97, 103, 97, 105, 110])) (aCons (eC (.str [114, 101, 102, 117, 115, 101, 100])) aNil))))))))))))
  (retS (e2 gIx (eVar 2) (eIdxL (eVar 1) (eC (.bl true)))))))))))
end PL
set_option Elab.async false
set_option linter.all false
set_option maxRecDepth 100000
set_option maxHeartbeats 1000000
set_option exponentiation.threshold 20000
namespace PL
set_option autoImplicit false
open PySem L2 PyProof.Rows
def wordX : Nat → List Nat
  | 1 => [115, 101, 110, 116, 101, 110, 99, 101]
  | 2 => [100, 101, 101, 112]
  | 3 => [110, 97, 109, 101]
  | 4 => [97, 108, 119, 97, 121, 115]
  | 5 => [110, 101, 118, 101, 114]
  | 6 => [109, 105, 110, 100, 115]
  | 7 => [117, 110, 108, 105, 107, 101]
  | 8 => [98, 97, 99, 107]
  | 9 => [97, 103, 97, 105, 110]
  | _ => [114, 101, 102, 117, 115, 101, 100]
def ClassK (f : Fn) : Prop := ∀ c : Nat, 1 ≤ c → c ≤ 10 → f [.val (.exn c)] = .ok (.val (.str (wordX c))) [.val (.exn c)]
theorem class_ok : ClassK (bodyF 4 1 1 b_class_faa2) := fun c h1 h2 => by
  have hc : c = 1 ∨ c = 2 ∨ c = 3 ∨ c = 4 ∨ c = 5 ∨ c = 6 ∨ c = 7 ∨ c = 8 ∨ c = 9 ∨ c = 10 := by omega
  rcases hc with rfl | rfl | rfl | rfl | rfl | rfl | rfl | rfl | rfl | rfl <;> rfl
end PL
set_option Elab.async false
set_option linter.all false
set_option maxRecDepth 100000
set_option maxHeartbeats 1000000
set_option exponentiation.threshold 20000
namespace PL
set_option autoImplicit false
open PySem L2 PyProof.Rows
end PL
set_option Elab.async false
set_option linter.all false
set_option maxRecDepth 100000
set_option maxHeartbeats 1000000
set_option exponentiation.threshold 20000
namespace PL
set_option autoImplicit false
open PySem L2 PyProof.Rows
end PL
set_option Elab.async false
set_option linter.all false
set_option maxRecDepth 100000
set_option maxHeartbeats 1000000
set_option exponentiation.threshold 20000
namespace PL
set_option autoImplicit false
open PySem L2 PyProof.Rows
end PL
set_option Elab.async false
set_option linter.all false
set_option maxRecDepth 100000
namespace PL
set_option autoImplicit false
open L2
@[simp] theorem gRevI_l (ds : List D) : gRevI (.lst ds) = .ok ds.reverse := tr rfl
@[simp] theorem iRev_eq (fa : Ev D) (ρ : List Sl) : iRev fa ρ = (fa ρ).bind gRevI := tr rfl
@[simp] theorem gBits_i (i : Int) : gBits (.int i) = .ok (.int (PySem.Builtin.Int.intBits i : Nat)) := tr rfl
@[simp] theorem gDictOf_d (es : List (Kc × D)) : gDictOf [.dic es] = .ok (.dic es) := tr rfl
@[simp] theorem gExtend_l (ds es : List D) (h : ds.length + es.length < 1000000) : gExtend ds [.lst es] = .ok (.non, ds ++ es) := if_pos h
def dgetR (fb : Ev D) (ρ : List Sl) : D → R D
  | .dic es => (fb ρ).bind fun k => (oR k.key).bind fun kc => .ok ((lookC es kc).getD .non)
  | _ => .stuck
@[simp] theorem eDget1_eq (fa fb : Ev D) (ρ : List Sl) : eDget1 fa fb ρ = (fa ρ).bind (dgetR fb ρ) := tr rfl
@[simp] theorem dgetR_d (fb : Ev D) (ρ : List Sl) (es : List (Kc × D)) : dgetR fb ρ (.dic es) = (fb ρ).bind fun k => (oR k.key).bind fun kc => .ok ((lookC es kc).getD .non) := tr rfl
end PL
set_option Elab.async false
set_option linter.all false
set_option maxRecDepth 100000
namespace PL
set_option autoImplicit false
open L2
end PL
set_option Elab.async false
set_option linter.all false
set_option maxRecDepth 100000
set_option maxHeartbeats 1000000
set_option exponentiation.threshold 20000
namespace PL
set_option autoImplicit false
open PySem L2 PyProof.Rows
end PL
set_option Elab.async false
set_option linter.all false
set_option maxRecDepth 100000
set_option maxHeartbeats 1000000
set_option exponentiation.threshold 20000
namespace PL
set_option autoImplicit false
open PySem L2 PyProof.Rows
end PL
set_option Elab.async false
set_option linter.all false
set_option maxRecDepth 100000
set_option maxHeartbeats 1000000
set_option exponentiation.threshold 20000
namespace PL
set_option autoImplicit false
open PySem L2 PyProof.Rows
end PL
set_option Elab.async false
set_option linter.all false
set_option maxRecDepth 100000
set_option maxHeartbeats 1000000
set_option exponentiation.threshold 20000
namespace PL
set_option autoImplicit false
open PySem L2 PyProof.Rows
theorem gNe_nil {n : Nat} {ds : List D} (h : Okd n (.lst ds)) (hn : n ≤ 64) (h1 : 1 ≤ n) : gNe (.lst ds) (.lst []) = .ok (decide (ds ≠ [])) := by
  have h0 : Okd 1 (.lst []) := okd_lst (n := 0) (ds := []) (fun d h => by cases h)
  unfold gNe
  rw [gEq_gen h (h0.le h1) hn]
  cases ds with
  | nil => rfl
  | cons a b => rfl
end PL
set_option Elab.async false
set_option linter.all false
set_option maxRecDepth 100000
set_option maxHeartbeats 1000000
set_option exponentiation.threshold 20000
namespace PL
set_option autoImplicit false
open PySem L2 PyProof.Rows
end PL
set_option Elab.async false
set_option linter.all false
set_option maxRecDepth 100000
set_option maxHeartbeats 1000000
set_option exponentiation.threshold 20000
namespace PL
set_option autoImplicit false
open PySem L2 PyProof.Rows
def PI (P : List Nat) : List Int := P.map fun i : Nat => (i : Int)
end PL
set_option Elab.async false
set_option linter.all false
set_option maxRecDepth 100000
namespace PL
set_option autoImplicit false
open L2
end PL
set_option Elab.async false
set_option linter.all false
set_option maxRecDepth 100000
set_option maxHeartbeats 1000000
set_option exponentiation.threshold 20000
namespace PL
set_option autoImplicit false
open PySem L2 PyProof.Rows
abbrev Kn' := List (List Nat × Bool)
def kD (kn : Kn') : List (Kc × D) := kn.map fun p => (.inr p.1, .int (oneI p.2))
def getK : Kn' → List Nat → Option Bool
  | [], _ => none
  | p :: kn, x => if p.1 = x then some p.2 else getK kn x
def putK (kn : Kn') (x : List Nat) (b : Bool) : Kn' := if (kn.any fun p => decide (p.1 = x)) = true then kn.map fun p => if p.1 = x then (p.1, b) else p else kn ++ [(x, b)]
theorem getK_none_any {kn : Kn'} {x : List Nat} : (kn.any fun p => decide (p.1 = x)) = false → getK kn x = none := by
  induction kn with
  | nil => intro _; rfl
  | cons p kn ih =>
    intro h
    rw [List.any_cons, Bool.or_eq_false_iff] at h
    simp only [getK]
    rw [if_neg (of_decide_eq_false h.1)]
    exact ih h.2
theorem getK_app (x y : List Nat) (b : Bool) : ∀ kn : Kn', getK kn x = none → getK (kn ++ [(x, b)]) y = if y = x then some b else getK kn y
  | [], _ => by
    by_cases h : y = x
    · simp [getK, h]
    · have h2 : ¬ x = y := fun e => h e.symm
      simp [getK, h, h2]
  | p :: kn, h => by
    simp only [getK] at h
    split at h
    · cases h
    · rename_i hp
      have ih := getK_app x y b kn h
      simp only [List.cons_append, getK]
      by_cases hy : p.1 = y
      · have : ¬ y = x := fun e => hp (hy.trans e)
        simp [hy, this]
      · rw [if_neg hy, if_neg hy, ih]
theorem getK_map (x y : List Nat) (b : Bool) : ∀ kn : Kn', (kn.any fun p => decide (p.1 = x)) = true → getK (kn.map fun p => if p.1 = x then (p.1, b) else p) y = if y = x then some b else getK kn y := by
  have key : ∀ kn : Kn', y ≠ x → getK (kn.map fun p => if p.1 = x then (p.1, b) else p) y = getK kn y := fun kn hy => by
    induction kn with
    | nil => rfl
    | cons p kn ih =>
      rw [List.map_cons]
      by_cases hp : p.1 = x
      · have h2 : ¬ p.1 = y := fun e => hy (e.symm.trans hp)
        rw [if_pos hp]
        simp only [getK, if_neg h2]; exact ih
      · rw [if_neg hp]
        simp only [getK]
        rw [ih]
  intro kn h
  by_cases hy : y = x
  · subst hy
    rw [if_pos rfl]
    induction kn with
    | nil => simp at h
    | cons p kn ih =>
      rw [List.map_cons]
      by_cases hp : p.1 = y
      · rw [if_pos hp]; simp [getK, hp]
      · rw [if_neg hp]
        simp only [getK, if_neg hp]
        exact ih (by simpa [hp] using h)
  · rw [if_neg hy]; exact key kn hy
theorem getK_put (kn : Kn') (x y : List Nat) (b : Bool) : getK (putK kn x b) y = if y = x then some b else getK kn y := by
  unfold putK
  split
  next h => exact getK_map x y b kn h
  next h => exact getK_app x y b kn (getK_none_any (Bool.eq_false_iff.mpr h))
def o3D : Option Bool → D
  | none => .non
  | some b => .int (oneI b)
def not3 (a : Option Bool) : Option Bool := a.map (!·)
def and3 (a b : Option Bool) : Option Bool := if a = some false ∨ b = some false then some false else if a = some true ∧ b = some true then some true else none
def or3 (a b : Option Bool) : Option Bool := if a = some true ∨ b = some true then some true else if a = some false ∧ b = some false then some false else none
def sm3 : Option Bool → Option Bool → Option Bool
  | some a, some b => some (a == b)
  | _, _ => none
def seenT (kn : Kn') : T → Option Bool
  | .nm x => getK kn x
  | .yes => some true
  | .no => some false
  | .nt t => not3 (seenT kn t)
  | .bin .an s t => and3 (seenT kn s) (seenT kn t)
  | .bin .or s t => or3 (seenT kn s) (seenT kn t)
  | .bin .th s t => or3 (not3 (seenT kn s)) (seenT kn t)
  | .bin .sm s t => sm3 (seenT kn s) (seenT kn t)
def SeenK (n : Nat) (f : Fn) : Prop := ∀ (t : T) (kn : Kn'), t.depth ≤ n → f [.val t.toD, .val (.dic (kD kn))] = .ok (.val (o3D (seenT kn t))) [.val t.toD, .val (.dic (kD kn))]
def consK (ns : List (List Nat)) (kn : Kn') (w : Nat) : Prop := ∀ x ∈ ns, ∀ b, getK kn x = some b → (T.nm x).ev ns w = b
theorem seen_ev {ns : List (List Nat)} {kn : Kn'} {w : Nat} (hc : consK ns kn w) : ∀ (t : T) (b : Bool), t.nmIn ns → seenT kn t = some b → t.ev ns w = b
  | .nm x, b, hi, h => hc x hi b h
  | .yes, b, _, h => by simp only [seenT, Option.some.injEq] at h; subst h; rfl
  | .no, b, _, h => by simp only [seenT, Option.some.injEq] at h; subst h; rfl
  | .nt t, b, hi, h => by
    have ih := fun b => seen_ev hc t b hi
    simp only [seenT, not3] at h
    cases e : seenT kn t with
    | none => rw [e] at h; cases h
    | some a =>
      rw [e] at h
      have h := Option.some.inj h
      subst h
      show (!t.ev ns w) = _
      rw [ih a e]
  | .bin k s t, b, hi, h => by
    have i1 := fun b => seen_ev hc s b hi.1
    have i2 := fun b => seen_ev hc t b hi.2
    have key : ∀ a c : Option Bool, seenT kn s = a → seenT kn t = c → (.bin k s t : T).ev ns w = b := fun a c ea ec => by
      have j1 : ∀ x, a = some x → s.ev ns w = x := fun x hx => i1 x (ea.trans hx)
      have j2 : ∀ x, c = some x → t.ev ns w = x := fun x hx => i2 x (ec.trans hx)
      cases k <;> (simp only [seenT, ea, ec] at h; simp only [T.ev]; rcases a with _ | _ | _ <;> rcases c with _ | _ | _ <;> simp_all [and3, or3, not3, sm3])
    exact key _ _ rfl rfl
end PL
set_option Elab.async false
set_option linter.all false
set_option maxRecDepth 100000
set_option maxHeartbeats 1000000
set_option exponentiation.threshold 20000
namespace PL
set_option autoImplicit false
open PySem L2 PyProof.Rows
inductive Pap where
  | kept | broken (k : Nat) | split (x : List Nat) (l r : Pap)
def Pap.toD : Pap → D
  | .kept => .tup [.str [107, 101, 112, 116]]
  | .broken k => .tup [.str [98, 114, 111, 107, 101, 110], .int (k : Nat)]
  | .split x l r => .tup [.str [115, 112, 108, 105, 116], .str x, l.toD, r.toD]
def Pap.depth : Pap → Nat
  | .split _ l r => max l.depth r.depth + 1
  | _ => 1
theorem seen_fullH {kn : Kn'} : ∀ t : T, (∀ x, t.has x = true → getK kn x ≠ none) → seenT kn t ≠ none
  | .nm x, hk => hk x (by simp [T.has])
  | .yes, _ => by simp [seenT]
  | .no, _ => by simp [seenT]
  | .nt t, hk => by
    have ih := seen_fullH t hk
    simp only [seenT, not3]
    cases e : seenT kn t with
    | none => exact absurd e ih
    | some a => simp
  | .bin k s t, hk => by
    have i1 := seen_fullH s fun x hx => hk x (by simp [T.has, hx])
    have i2 := seen_fullH t fun x hx => hk x (by simp [T.has, hx])
    cases k <;> (simp only [seenT]; rcases e1 : seenT kn s with _ | _ | _ <;> rcases e2 : seenT kn t with _ | _ | _ <;> simp_all [and3, or3, not3, sm3])
/-- the world of what is known -/
def worldK (ns : List (List Nat)) (kn : Kn') : Nat := tabOf (fun i => decide (getK kn (ns.getD i []) = some true)) ns.length
theorem worldK_lt (ns : List (List Nat)) (kn : Kn') : worldK ns kn < W2 ns := tabOf_lt _ _
theorem worldK_cons (ns : List (List Nat)) (kn : Kn') : consK ns kn (worldK ns kn) := fun x hx b hb => by
  obtain ⟨j, h1, h2⟩ := posS_mem hx
  obtain ⟨h3, _⟩ := posS_spec h1
  have hj : j < ns.length := (List.getElem?_eq_some_iff.mp h3).1
  simp only [T.ev, h1, Option.getD_some]
  show (worldK ns kn).testBit j = b
  unfold worldK
  rw [tabOf_bit, List.getD_eq_getElem?_getD, h3]
  simp only [Option.getD_some, hj, decide_true, Bool.true_and, hb]
  cases b <;> simp
theorem no_has {kn : Kn'} {t : T} {asked : List (List Nat)} (ha : asked = []) (hc : ∀ x, t.has x = true → x ∈ asked ∨ getK kn x ≠ none) : seenT kn t ≠ none := seen_fullH t fun x hx => (hc x hx).resolve_left (by rw [ha]; simp)
structure Case (ns : List (List Nat)) (ps : List T) (t : T) (asked : List (List Nat)) (qs : List (Nat × T)) (kn : Kn') : Prop where
  nd : asked.Nodup
  sub : ∀ x ∈ asked, x ∈ ns ∧ getK kn x = none
  qin : ∀ p ∈ qs, ps[p.1]? = some p.2
  cov : ∀ x, (t.has x = true ∨ ∃ p ∈ qs, p.2.has x = true) → x ∈ asked ∨ getK kn x ≠ none
  no : ∀ w, w < W2 ns → consK ns kn w → (∀ p ∈ qs, p.2.ev ns w = true) → t.ev ns w = true
theorem Case.step {ns : List (List Nat)} {ps : List T} {t : T} {x : List Nat} {asked : List (List Nat)} {qs : List (Nat × T)} {kn : Kn'} (h : Case ns ps t (x :: asked) qs kn) (hin : ∀ p ∈ qs, p.2.nmIn ns) (hno : qs.find? (fun p => decide (seenT kn p.2 = some false)) = none) (b : Bool) :
    Case ns ps t asked (qs.filter fun p => decide (seenT kn p.2 = none)) (putK kn x b) := by
  obtain ⟨n1, n2⟩ := List.nodup_cons.mp h.nd
  refine ⟨n2, fun y hy => ?_, fun p hp => h.qin p (List.mem_filter.mp hp).1, fun y hy => ?_, fun w hw hc hq => ?_⟩
  · obtain ⟨a1, a2⟩ := h.sub y (by simp [hy])
    refine ⟨a1, ?_⟩
    rw [getK_put, if_neg (fun e => n1 (by rw [← e]; exact hy))]; exact a2
  · have h2 : y ∈ x :: asked ∨ getK kn y ≠ none := h.cov y (hy.imp id fun ⟨p, hp, g⟩ => ⟨p, (List.mem_filter.mp hp).1, g⟩)
    rw [getK_put]
    by_cases e : y = x
    · rw [if_pos e]; exact .inr (by simp)
    · rw [if_neg e]
      rcases h2 with h2 | h2
      · rcases List.mem_cons.mp h2 with h2 | h2
        · exact absurd h2 e
        · exact .inl h2
      · exact .inr h2
  · have hc' : consK ns kn w := fun y hy c hg => hc y hy c (by
      rw [getK_put, if_neg (fun e => by rw [e, (h.sub x (by simp)).2] at hg; cases hg)]; exact hg)
    refine h.no w hw hc' fun p hp => ?_
    rcases e : seenT kn p.2 with _ | _ | _
    · exact hq p (List.mem_filter.mpr ⟨hp, by simp [e]⟩)
    · have := List.find?_eq_none.mp hno p hp
      simp [e] at this
    · exact seen_ev hc' p.2 true (hin p hp) e
theorem Case.nil {ns : List (List Nat)} {ps : List T} {t : T} {qs : List (Nat × T)} {kn : Kn'} (h : Case ns ps t [] qs kn) (ht : t.nmIn ns) (hin : ∀ p ∈ qs, p.2.nmIn ns) (hno : qs.find? (fun p => decide (seenT kn p.2 = some false)) = none) : seenT kn t = some true := by
  have hc := worldK_cons ns kn
  have h1 := h.no _ (worldK_lt ns kn) hc fun p hp => by
    rcases e : seenT kn p.2 with _ | _ | _
    · exact absurd e (no_has rfl fun x hx => h.cov x (.inr ⟨p, hp, hx⟩))
    · have := List.find?_eq_none.mp hno p hp
      simp [e] at this
    · exact seen_ev hc p.2 true (hin p hp) e
  rcases e : seenT kn t with _ | _ | _
  · exact absurd e (no_has rfl fun x hx => h.cov x (.inl hx))
  · have := seen_ev hc t false ht e
    rw [h1] at this; cases this
  · rfl
end PL
set_option Elab.async false
set_option linter.all false
set_option maxRecDepth 100000
set_option maxHeartbeats 1000000
set_option exponentiation.threshold 20000
namespace PL
set_option autoImplicit false
open PySem L2 PyProof.Rows
end PL
set_option Elab.async false
set_option linter.all false
set_option maxRecDepth 100000
set_option maxHeartbeats 1000000
set_option exponentiation.threshold 20000
namespace PL
set_option autoImplicit false
open PySem L2 PyProof.Rows
theorem SeenK.le {n m : Nat} {f : Fn} (h : SeenK n f) (hm : m ≤ n) : SeenK m f := fun t kn hd => h t kn (by omega)
theorem LookOk.le {n m : Nat} {f : Fn} (h : LookOk n f) (hm : m ≤ n) : LookOk m f := fun ns t a b c d e => h ns t a b c (by omega) e
theorem NamesInOk.le {n m : Nat} {f : Fn} (h : NamesInOk n f) (hm : m ≤ n) : NamesInOk m f := fun t a b c => h t (by omega) b c
end PL
set_option Elab.async false
set_option linter.all false
set_option maxRecDepth 100000
set_option maxHeartbeats 1000000
set_option exponentiation.threshold 20000
namespace PL
set_option autoImplicit false
open PySem L2 PyProof.Rows
end PL
set_option Elab.async false
set_option linter.all false
set_option maxRecDepth 100000
set_option maxHeartbeats 1000000
set_option exponentiation.threshold 20000
namespace PL
set_option autoImplicit false
open PySem L2 PyProof.Rows
end PL
set_option Elab.async false
set_option linter.all false
set_option maxRecDepth 100000
set_option maxHeartbeats 1000000
set_option exponentiation.threshold 20000
namespace PL
set_option autoImplicit false
open PySem L2 PyProof.Rows
theorem forGo_cons_exc {ft : D → R (List (Nat × D))} {fb : Es} {d : D} {ds : List D} {ρ ρ' : List Sl} {as : List (Nat × D)} {x : Exn} (h1 : ft d = .ok as) (h2 : fb (setS ρ as) = .exc x ρ') : forGo ft fb (d :: ds) ρ = .exc x ρ' := by
  have e : forGo ft fb (d :: ds) ρ = tryE ρ (noX (ft d)) (fun as => match fb (setS ρ as) with
        | .nx ρ' => forGo ft fb ds ρ'
        | .ct ρ' => forGo ft fb ds ρ'
        | .bk ρ' => .nx ρ'
        | r => r) := rfl
  rw [e, h1]
  show (match fb (setS ρ as) with
        | .nx ρ' => forGo ft fb ds ρ'
        | .ct ρ' => forGo ft fb ds ρ'
        | .bk ρ' => .nx ρ'
        | r => r) = _
  rw [h2]
theorem cut_init {α : Type} (xs : List α) (x : α) : cutL (xs ++ [x]) none (some (-1)) = xs := by
  unfold cutL
  have e : HT.sIx (xs ++ [x]).length (xs ++ [x]).length (some (-1)) = xs.length := by
    show (if (-1 : Int) < 0 then ((-1 : Int) + ((xs ++ [x]).length : Int)).toNat else min (-1 : Int).toNat (xs ++ [x]).length) = _
    rw [if_pos (by decide), List.length_append]
    simp only [List.length_cons, List.length_nil]
    omega
  rw [e]
  show ((xs ++ [x]).drop 0).take (xs.length - 0) = xs
  simp
end PL
set_option Elab.async false
set_option linter.all false
set_option maxRecDepth 100000
namespace PL
set_option autoImplicit false
open L2
def augXD (j : Nat) (ρ : List Sl) (ds : List D) : D → RS
  | .lst es => if ds.length + es.length < 1000000 then .nx (ρ.set j (.own (.lst (ds ++ es)))) else .stuck
  | _ => .stuck
def augXK (j : Nat) (fe : Ev D) (ρ : List Sl) : Option Sl → RS
  | some (.own (.lst ds)) => tryE ρ (fe ρ) (augXD j ρ ds)
  | _ => .stuck
@[simp] theorem augX_eq (j : Nat) (fe : Ev D) (ρ : List Sl) : augX j fe ρ = augXK j fe ρ ρ[j]? := tr rfl
@[simp] theorem augXK_own (j : Nat) (fe : Ev D) (ρ : List Sl) (ds : List D) : augXK j fe ρ (some (.own (.lst ds))) = tryE ρ (fe ρ) (augXD j ρ ds) := tr rfl
@[simp] theorem augXD_l (j : Nat) (ρ : List Sl) (ds es : List D) (h : ds.length + es.length < 1000000) : augXD j ρ ds (.lst es) = .nx (ρ.set j (.own (.lst (ds ++ es)))) := if_pos h
def setDfI (j : Nat) (ρ : List Sl) (es : List (Kc × D)) (d : D) : Option Kc → RS
  | some kc => if es.length < 1000000 then setDfK j es d ρ kc (lookC es kc) else .stuck
  | none => .stuck
def setDfS (j : Nat) (fk fv : Ev D) (ρ : List Sl) : Option Sl → RS
  | some (.own (.dic es)) => tryE ρ (fk ρ) fun k => tryE ρ (fv ρ) fun d => setDfI j ρ es d k.key
  | _ => .stuck
@[simp] theorem setDf_eq (j : Nat) (fk fv : Ev D) (ρ : List Sl) : setDf j fk fv ρ = setDfS j fk fv ρ ρ[j]? := tr rfl
@[simp] theorem setDfS_own (j : Nat) (fk fv : Ev D) (ρ : List Sl) (es : List (Kc × D)) : setDfS j fk fv ρ (some (.own (.dic es))) = tryE ρ (fk ρ) fun k => tryE ρ (fv ρ) fun d => setDfI j ρ es d k.key := tr rfl
@[simp] theorem setDfI_some (j : Nat) (ρ : List Sl) (es : List (Kc × D)) (d : D) (kc : Kc) (h : es.length < 1000000) : setDfI j ρ es d (some kc) = setDfK j es d ρ kc (lookC es kc) := if_pos h
@[simp] theorem setDfK_some (j : Nat) (es : List (Kc × D)) (d x : D) (ρ : List Sl) (kc : Kc) : setDfK j es d ρ kc (some x) = .nx ρ := tr rfl
@[simp] theorem setDfK_none (j : Nat) (es : List (Kc × D)) (d : D) (ρ : List Sl) (kc : Kc) : setDfK j es d ρ kc none = .nx (ρ.set j (.own (.dic (putC es kc d)))) := tr rfl
@[simp] theorem gRgL_i (n : Int) (h0 : -1000000 ≤ n) (h1 : n ≤ 1000000) : gRgL (.int n) = .ok (.lst (rangeD 0 n)) := if_pos ⟨⟨by omega, by omega⟩, show n.toNat ≤ 1000000 by omega⟩
end PL
set_option Elab.async false
set_option linter.all false
set_option maxRecDepth 100000
namespace PL
set_option autoImplicit false
open L2
@[simp] theorem lendG_eq (i : Nat) (f : Ev D) (ρ : List Sl) : lendG i f ρ = (f (frz1 ρ i ρ[i]?)).bind fun d => if d.solid = true then .ok d else .stuck := tr rfl
end PL
set_option Elab.async false
set_option linter.all false
set_option maxRecDepth 100000
namespace PL
set_option autoImplicit false
open L2
@[simp] theorem eLcX_eq (vs : List Nat) (fi : Ev (List D)) (ft : D → R (List (Nat × D))) (fc : Ev Bool) (fe : Ev D) (ρ : List Sl) : eLcX vs fi ft fc fe ρ = (fi ρ).bind fun ds => limR ds.length ((lcGoX (wipeS ρ vs) ft fc fe ds).bind fun ys => .ok (.lst ys)) := tr rfl
end PL
set_option Elab.async false
set_option linter.all false
set_option maxRecDepth 100000
namespace PL
set_option autoImplicit false
open L2
@[simp] theorem eSIdx_eq (fa fe : Ev D) (ρ : List Sl) : eSIdx fa fe ρ = (fa ρ).bind (sidxR fe ρ) := tr rfl
@[simp] theorem sidxR_str (fe : Ev D) (ρ : List Sl) (s : List Nat) : sidxR fe ρ (.str s) = (fe ρ).bind (gSI s) := tr rfl
@[simp] theorem iChr_eq (fa : Ev D) (ρ : List Sl) : iChr fa ρ = (fa ρ).bind chrR := tr rfl
@[simp] theorem chrR_str (s : List Nat) : chrR (.str s) = .ok (s.map fun c => .str [c]) := tr rfl
@[simp] theorem kCallB_eq (i : Nat) (G : Fn) (d : D) : kCallB i G d = callS [.bw i, .fz fun _ => .ok d] G kDrop := tr rfl
end PL
set_option Elab.async false
set_option linter.all false
set_option maxRecDepth 100000
namespace PL
set_option autoImplicit false
open PySem L2
@[simp] theorem eCnt_eq (fa fe : Ev D) (ρ : List Sl) : eCnt fa fe ρ = (fa ρ).bind (cntR fe ρ) := tr rfl
@[simp] theorem cntR_lst (fe : Ev D) (ρ : List Sl) (ds : List D) : cntR fe ρ (.lst ds) = (fe ρ).bind (gCntL ds) := tr rfl
theorem strs_flat : ∀ ws : List (List Nat), (ws.map D.str).all D.flat = true
  | [] => rfl
  | w :: ws => strs_flat ws
theorem strs_cnt (w : List Nat) : ∀ ws : List (List Nat), ((ws.map D.str).countP fun y => eqF y (.str w)) = ws.count w
  | [] => rfl
  | x :: ws => by
    rw [List.map_cons, List.countP_cons, strs_cnt w ws, List.count_cons]
    rfl
theorem gCntL_strs (ws : List (List Nat)) (w : List Nat) : gCntL (ws.map .str) (.str w) = .ok (.int (ws.count w : Nat)) := by
  show (if true = true ∧ (ws.map D.str).all D.flat = true then R.ok (D.int (((ws.map D.str).countP fun y => eqF y (.str w)) : Nat)) else .stuck) = _
  rw [if_pos ⟨rfl, strs_flat ws⟩, strs_cnt]
theorem low_tab : ∀ c : Nat, c < 128 → Txt.islower ⟨([c] : List Nat).toArray⟩ = decide (97 ≤ c ∧ c ≤ 122) := by decide +kernel
theorem gLow_one (c : Nat) (h : c < 128) : gLow (.str [c]) = .ok (.bl (decide (97 ≤ c ∧ c ≤ 122))) := by
  show R.ok (D.bl (Txt.islower ⟨([c] : List Nat).toArray⟩)) = _
  rw [low_tab c h]
@[simp] theorem gNoneIn_lst (ds : List D) (h : ds.all D.isTN = true) : gNoneIn .non (.lst ds) = .ok (ds.any D.isNon) := if_pos h
@[simp] theorem kAppT_eq (i l : Nat) (d : D) : kAppT i l d = mutS i gAppend (aCons (eTup (aCons (eC d) (aCons (eFrz l) aNil))) aNil) kNx := tr rfl
@[simp] theorem iEnC_eq (fa : Ev D) (ρ : List Sl) : iEnC fa ρ = (fa ρ).bind enSR := tr rfl
@[simp] theorem enSR_str (s : List Nat) : enSR (.str s) = .ok (enD 0 (s.map fun c => .str [c])) := tr rfl
end PL
set_option Elab.async false
set_option linter.all false
set_option maxRecDepth 100000
namespace PL
set_option autoImplicit false
open L2
noncomputable def b_words_of_l1 : Es := (seqS (ifS (e2 gIn (eVar 3) (eC (.str [97, 98, 99, 100, 101, 102, 103, 104, 105, 106, 107, 108, 109, 110, 111, 112, 113, 114, 115, 116, 117, 118, 119, 120, 121, 122]))) (seqS (augV 2 gAddA (eVar 3))
  ctS) skipS)
  (seqS (ifS (e2 (gCmp pGt) (eCall gLen (aCons (eVar 2) aNil)) (eC (.int (8)))) (raiseS 1) skipS)
  (seqS (ifS (e2 gNe (eVar 2) (eC (.str []))) (seqS (mutS 1 gAppend (aCons (eFrz 2) aNil) kNx)
  (asgS (ftOne 2) (eC (.str [])))) skipS)
  (ifS (tOo (e2 gIn (eVar 3) (eC (.str [61, 62, 124, 38, 126]))) (e2 gIn (eVar 3) (eC (.str [48, 49, 40, 41])))) (mutS 1 gAppend (aCons (eFrz 3) aNil) kNx) (ifS (e2 gNe (eVar 3) (eC (.str [32]))) (raiseS 1) skipS)))))
noncomputable def b_words_of : Es := (seqS (asgN 1 (eLst aNil))
  (seqS (asgS (ftOne 2) (eC (.str [])))
  (seqS (forS (iChr (e2 gAdd (eVar 0) (eC (.str [32])))) (ftOne 3) b_words_of_l1)
  (frzS 1 (retS (eFrz 1))))))
noncomputable def b_leaf_of : Es := (seqS (ifS (e2 gEq (eVar 0) (eC (.str [49]))) (retS (eTup (aCons (eC (.str [121, 101, 115])) aNil))) skipS)
  (seqS (ifS (e2 gEq (eVar 0) (eC (.str [48]))) (retS (eTup (aCons (eC (.str [110, 111])) aNil))) skipS)
  (seqS (ifS (e2 gIn (e2 gIx (eVar 0) (eC (.int (0)))) (eC (.str [97, 98, 99, 100, 101, 102, 103, 104, 105, 106, 107, 108, 109, 110, 111, 112, 113, 114, 115, 116, 117, 118, 119, 120, 121, 122]))) (retS (eTup (aCons (eC (.str [110, 97, 109, 101])) (aCons (eFrz 0) aNil)))) skipS)
  (retS (eC .non)))))
noncomputable def b_goes_first : Es := (seqS (ifS (e2 gEq (eVar 0) (eC (.str [40]))) (retS (eC (.bl false))) skipS)
  (seqS (ifS (e2 gEq (eVar 1) (eC (.str [62]))) (retS (eBl (e2 (gCmp pGt) (eSIdx (eC (.str [61, 62, 124, 38, 126])) (eFrz 0)) (eSIdx (eC (.str [61, 62, 124, 38, 126])) (eFrz 1))))) skipS)
  (retS (eBl (e2 (gCmp pGe) (eSIdx (eC (.str [61, 62, 124, 38, 126])) (eFrz 0)) (eSIdx (eC (.str [61, 62, 124, 38, 126])) (eFrz 1)))))))
noncomputable def b_fold : Es := (seqS (mutS 0 gPop aNil (kAsg (ftTup [2, 3])))
  (seqS (ifS (e2 gEq (eVar 1) (eC (.str [126]))) (seqS (mutS 0 gAppend (aCons (eTup (aCons (eTup (aCons (eC (.str [110, 111, 116])) (aCons (eFrz 2) aNil))) (aCons (e2 gAdd (eVar 3) (eC (.int (1)))) aNil))) aNil) kNx)
  retNone) skipS)
  (seqS (mutS 0 gPop aNil (kAsg (ftTup [4, 5])))
  (seqS (asgS (ftOne 6) (e2 gIx (eTup (aCons (eC (.str [115, 97, 109, 101])) (aCons (eC (.str [116, 104, 101, 110])) (aCons (eC (.str [111, 114])) (aCons (eC (.str [97, 110, 100])) aNil))))) (eSIdx (eC (.str [61, 62, 124, 38, 126])) (eFrz 1))))
  (mutS 0 gAppend (aCons (eTup (aCons (eTup (aCons (eFrz 6) (aCons (eFrz 4) (aCons (eFrz 2) aNil)))) (aCons (e2 gAdd (eC (.int (1))) (eCall gMax2 (aCons (eVar 3) (aCons (eVar 5) aNil)))) aNil))) aNil) kNx)))))
noncomputable def b_begun (f_leaf_of : Fn) : Es := (seqS (ifS (tOo (e2 gEq (eVar 0) (eC (.str [126]))) (e2 gEq (eVar 0) (eC (.str [40])))) (seqS (mutS 2 gAppend (aCons (eFrz 0) aNil) kNx)
  (retS (eC (.bl true)))) skipS)
  (seqS (asgS (ftOne 3) (eFn f_leaf_of (aCons (eFrz 0) aNil)))
  (seqS (ifS (e1 gIsN (eVar 3)) (raiseS 1) skipS)
  (seqS (mutS 1 gAppend (aCons (eTup (aCons (eFrz 3) (aCons (eC (.int (1))) aNil))) aNil) kNx)
  (retS (eC (.bl false)))))))
noncomputable def b_gone_on_l1 (f_fold f_goes_first : Fn) : Es := (mutS 2 gPop aNil (kCallB 1 f_fold))
noncomputable def b_gone_on_l2 (f_fold f_goes_first : Fn) : Es := (mutS 2 gPop aNil (kCallB 1 f_fold))
noncomputable def b_gone_on (f_fold f_goes_first : Fn) : Es := (seqS (ifS (e2 gEq (eVar 0) (eC (.str [41]))) (seqS (whileS (tAn (e2 gNe (eVar 2) (eLst aNil)) (e2 gNe (e2 gIx (eVar 2) (e1 gNeg (eC (.int (1))))) (eC (.str [40])))) (b_gone_on_l1 f_fold f_goes_first) 1000000)
  (seqS (ifS (e2 gEq (eVar 2) (eLst aNil)) (raiseS 1) skipS)
  (seqS (mutS 2 gPop aNil kNx)
  (retS (eC (.bl false)))))) skipS)
  (seqS (ifS (e2 gNi (eVar 0) (eTup (aCons (eC (.str [61])) (aCons (eC (.str [62])) (aCons (eC (.str [124])) (aCons (eC (.str [38])) aNil)))))) (raiseS 1) skipS)
  (seqS (whileS (tAn (e2 gNe (eVar 2) (eLst aNil)) (e1 tBool (eFn f_goes_first (aCons (e2 gIx (eVar 2) (e1 gNeg (eC (.int (1))))) (aCons (eFrz 0) aNil))))) (b_gone_on_l2 f_fold f_goes_first) 1000000)
  (seqS (mutS 2 gAppend (aCons (eFrz 0) aNil) kNx)
  (retS (eC (.bl true)))))))
noncomputable def b_read_l1 (f_words_of f_begun f_gone_on f_fold : Fn) : Es := (ifS (e1 tBool (eFrz 3)) (callS [.fz (eFrz 4), .bw 1, .bw 2] f_begun (kVal (ftOne 3))) (callS [.fz (eFrz 4), .bw 1, .bw 2] f_gone_on (kVal (ftOne 3))))
noncomputable def b_read_l2 (f_words_of f_begun f_gone_on f_fold : Fn) : Es := (seqS (mutS 2 gPop aNil (kAsg (ftOne 5)))
  (seqS (ifS (e2 gEq (eVar 5) (eC (.str [40]))) (raiseS 1) skipS)
  (callS [.bw 1, .fz (eFrz 5)] f_fold kDrop)))
noncomputable def b_read (f_words_of f_begun f_gone_on f_fold : Fn) : Es := (seqS (ifS (e2 (gCmp pGt) (eCall gLen (aCons (eVar 0) aNil)) (eC (.int (200)))) (raiseS 1) skipS)
  (seqS (asgN 1 (eLst aNil))
  (seqS (asgN 2 (eLst aNil))
  (seqS (asgS (ftOne 3) (eC (.bl true)))
  (seqS (forS (iSeq (eFn f_words_of (aCons (eFrz 0) aNil))) (ftOne 4) (b_read_l1 f_words_of f_begun f_gone_on f_fold))
  (seqS (ifS (e1 tBool (eFrz 3)) (raiseS 1) skipS)
  (seqS (whileS (e2 gNe (eVar 2) (eLst aNil)) (b_read_l2 f_words_of f_begun f_gone_on f_fold) 1000000)
  (seqS (asgS (ftTup [6, 7]) (e2 gIx (eVar 1) (eC (.int (0)))))
  (seqS (ifS (e2 (gCmp pGt) (eVar 7) (eC (.int (40)))) (raiseS 2) skipS)
  (retS (eFrz 6)))))))))))
noncomputable def b_alike_b36c (f__law_alike : Fn) : Es := (seqS (ifS (e1 tBool (eBl (e1 (gIsi "str") (eVar 1)))) (retS (eAn (eBl (e1 (gIsi "str") (eVar 0))) (eBl (e2 gEq (eVar 0) (eVar 1))))) skipS)
  (seqS (ifS (tOo (tNt (e1 tBool (eBl (e1 (gIsi "tuple") (eVar 0))))) (e2 gNe (eCall gLen (aCons (eVar 0) aNil)) (eCall gLen (aCons (eVar 1) aNil)))) (retS (eC (.bl false))) skipS)
  (retS (eCall gAll (aCons (eLc [2, 3] (iRg gZip (aCons (eVar 0) (aCons (eVar 1) aNil))) (ftTup [2, 3]) fcYes (eFn f__law_alike (aCons (eFrz 2) (aCons (eFrz 3) aNil)))) aNil)))))
noncomputable def b_told_b580 (f_read f__law_class : Fn) : Es := (seqS (asgS (ftOne 1) (eC .non))
  (seqS (asgS (ftOne 2) (eC .non))
  (seqS (tryS 3 2 (asgS (ftOne 1) (eFn f_read (aCons (eFrz 0) aNil))))
  (seqS (ifS (e1 gIsN (eVar 2)) (retS (eTup (aCons (eC (.str [116, 114, 101, 101])) (aCons (eFrz 1) aNil)))) skipS)
  (retS (eTup (aCons (eFn f__law_class (aCons (eFrz 2) aNil)) (aCons (eC .non) aNil))))))))
noncomputable def b_due_909d (f__law_told f__law_deep f__law_alike : Fn) : Es := (seqS (ifS (tOo (e1 gIsN (eVar 1)) (e2 (gCmp pGt) (eCall gLen (aCons (eVar 0) aNil)) (eC (.int (200))))) (retS (eBl (e2 gEq (e2 gIx (eFn f__law_told (aCons (eFrz 0) aNil)) (eC (.int (0)))) (eC (.str [115, 101, 110, 116, 101, 110, 99, 101]))))) skipS)
  (seqS (ifS (e2 (gCmp pGt) (eFn f__law_deep (aCons (eFrz 1) aNil)) (eC (.int (40)))) (retS (eBl (e2 gEq (e2 gIx (eFn f__law_told (aCons (eFrz 0) aNil)) (eC (.int (0)))) (eC (.str [100, 101, 101, 112]))))) skipS)
  (seqS (asgS (ftOne 2) (eFn f__law_told (aCons (eFrz 0) aNil)))
  (retS (eAn (eBl (e2 gEq (e2 gIx (eVar 2) (eC (.int (0)))) (eC (.str [116, 114, 101, 101])))) (eFn f__law_alike (aCons (e2 gIx (eVar 2) (eC (.int (1)))) (aCons (eFrz 1) aNil))))))))
noncomputable def b_chained_af29_l1 : Es := (asgS (ftOne 2) (eTup (aCons (eFrz 0) (aCons (eFrz 3) (aCons (eFrz 2) aNil)))))
noncomputable def b_chained_af29_l2 : Es := (asgS (ftOne 2) (eTup (aCons (eFrz 0) (aCons (eFrz 2) (aCons (eFrz 3) aNil)))))
noncomputable def b_chained_af29 : Es := (seqS (ifS (e2 gEq (eVar 0) (eC (.str [116, 104, 101, 110]))) (seqS (asgS (ftOne 2) (e2 gIx (eVar 1) (e1 gNeg (eC (.int (1))))))
  (seqS (forS (iRev (eSl (eVar 1) oNone (oSome (e1 gNeg (eC (.int (1))))))) (ftOne 3) b_chained_af29_l1)
  (retS (eFrz 2)))) skipS)
  (seqS (asgS (ftOne 2) (e2 gIx (eVar 1) (eC (.int (0)))))
  (seqS (forS (iSeq (eSl (eVar 1) (oSome (eC (.int (1)))) oNone)) (ftOne 3) b_chained_af29_l2)
  (retS (eFrz 2)))))
end PL
set_option Elab.async false
set_option linter.all false
set_option maxRecDepth 100000
namespace PL
set_option autoImplicit false
open L2
noncomputable def b_words_by_9931_l1 : Es := (seqS (ifS (e1 tBool (e1 gLow (eFrz 3))) (seqS (asgS (ftOne 2) (e2 gAdd (eVar 2) (eVar 3)))
  ctS) skipS)
  (seqS (ifS (tOo (e2 (gCmp pGt) (eCall gLen (aCons (eVar 2) aNil)) (eC (.int (8)))) (e2 gNi (eVar 3) (eC (.str [32, 126, 38, 124, 62, 61, 40, 41, 48, 49])))) (retS (eC .non)) skipS)
  (seqS (asgS (ftOne 1) (e2 gAdd (eVar 1) (eLc [4] (iSeq (eLst (aCons (eFrz 2) (aCons (eFrz 3) aNil)))) (ftOne 4) (e2 gNi (eVar 4) (eTup (aCons (eC (.str [])) (aCons (eC (.str [32])) aNil)))) (eFrz 4))))
  (asgS (ftOne 2) (eC (.str []))))))
noncomputable def b_words_by_9931 : Es := (seqS (asgS (ftOne 1) (eLst aNil))
  (seqS (asgS (ftOne 2) (eC (.str [])))
  (seqS (forS (iChr (e2 gAdd (eVar 0) (eC (.str [32])))) (ftOne 3) b_words_by_9931_l1)
  (retS (eFrz 1)))))
noncomputable def b_marks_d0e6_l1 : Es := (seqS (asgS (ftOne 1) (e2 gSub (e2 gAdd (eVar 1) (eCall gIntOf (aCons (eBl (e2 gEq (eVar 4) (eC (.str [40])))) aNil))) (eCall gIntOf (aCons (eBl (e2 gEq (eVar 4) (eC (.str [41])))) aNil))))
  (seqS (ifS (e2 (gCmp pLt) (eVar 1) (eC (.int (0)))) (retS (eC .non)) skipS)
  (ifS (tAn (e2 gEq (eVar 1) (eC (.int (0)))) (e2 gIn (eVar 4) (eTup (aCons (eC (.str [61])) (aCons (eC (.str [62])) (aCons (eC (.str [124])) (aCons (eC (.str [38])) aNil))))))) (mutS 2 gAppend (aCons (eFrz 3) aNil) kNx) skipS)))
noncomputable def b_marks_d0e6 : Es := (seqS (asgS (ftOne 1) (eC (.int (0))))
  (seqS (asgN 2 (eLst aNil))
  (seqS (forS (iEn (eFrz 0)) (ftTup [3, 4]) b_marks_d0e6_l1)
  (frzS 2 (retS (e2 gIx (eLst (aCons (eC .non) (aCons (eFrz 2) aNil))) (eCall gIntOf (aCons (eBl (e2 gEq (eVar 1) (eC (.int (0))))) aNil))))))))
noncomputable def b_parted_5c18_l1 (f__law_read_by f__law_chained : Fn) : Es := (seqS (asgS (ftOne 4) (e2 gAdd (e2 gAdd (eLst (aCons (e1 gNeg (eC (.int (1)))) aNil)) (eLc [6] (iSeq (eVar 1)) (ftOne 6) (e2 gEq (e2 gIx (eVar 0) (eVar 6)) (eVar 3)) (eFrz 6))) (eLst (aCons (eCall gLen (aCons (eVar 0) aNil)) aNil))))
  (ifS (e2 (gCmp pGt) (eCall gLen (aCons (eVar 4) aNil)) (eC (.int (2)))) (seqS (asgN 5 (eLc [6] (iRg gRng1 (aCons (e2 gSub (eCall gLen (aCons (eVar 4) aNil)) (eC (.int (1)))) aNil)) (ftOne 6) fcYes (eFn f__law_read_by (aCons (eSl (eVar 0) (oSome (e2 gAdd (e2 gIx (eVar 4) (eVar 6)) (eC (.int (1))))) (oSome (e2 gIx (eVar 4) (e2 gAdd (eVar 6) (eC (.int (1))))))) aNil))))
  (seqS (ifS (e2 gNoneIn (eC .non) (eVar 5)) (retS (eC .non)) skipS)
  (frzS 5 (retS (eFn f__law_chained (aCons (e2 gDix (eVar 2) (eVar 3)) (aCons (eFrz 5) aNil))))))) skipS))
noncomputable def b_parted_5c18 (f__law_read_by f__law_chained : Fn) : Es := (seqS (asgS (ftOne 2) (eDisp [((eC (.str [61])), (eC (.str [115, 97, 109, 101]))), ((eC (.str [62])), (eC (.str [116, 104, 101, 110]))), ((eC (.str [124])), (eC (.str [111, 114]))), ((eC (.str [38])), (eC (.str [97, 110, 100])))]))
  (seqS (forS (iSeq (eLst (aCons (eC (.str [61])) (aCons (eC (.str [62])) (aCons (eC (.str [124])) (aCons (eC (.str [38])) aNil)))))) (ftOne 3) (b_parted_5c18_l1 f__law_read_by f__law_chained))
  (retS (eC .non))))
noncomputable def b_read_by_4b26 (f__law_marks f__law_parted f__law_read_by : Fn) : Es := (seqS (ifS (tOo (e1 gIsN (eVar 0)) (e2 gEq (eCall gLen (aCons (eVar 0) aNil)) (eC (.int (0))))) (retS (eC .non)) skipS)
  (seqS (asgS (ftOne 1) (eFn f__law_marks (aCons (eFrz 0) aNil)))
  (seqS (ifS (e1 gIsN (eVar 1)) (retS (eC .non)) skipS)
  (seqS (ifS (e2 (gCmp pGt) (eCall gLen (aCons (eVar 1) aNil)) (eC (.int (0)))) (retS (eFn f__law_parted (aCons (eFrz 0) (aCons (eFrz 1) aNil)))) skipS)
  (seqS (ifS (e2 gEq (e2 gIx (eVar 0) (eC (.int (0)))) (eC (.str [126]))) (seqS (asgS (ftOne 2) (eFn f__law_read_by (aCons (eSl (eVar 0) (oSome (eC (.int (1)))) oNone) aNil)))
  (retS (e2 gIx (eLst (aCons (eTup (aCons (eC (.str [110, 111, 116])) (aCons (eFrz 2) aNil))) (aCons (eC .non) aNil))) (eCall gIntOf (aCons (eBl (e1 gIsN (eVar 2))) aNil))))) skipS)
  (seqS (ifS (tAn (e2 gEq (e2 gIx (eVar 0) (eC (.int (0)))) (eC (.str [40]))) (e2 gEq (e2 gIx (eVar 0) (e1 gNeg (eC (.int (1))))) (eC (.str [41])))) (retS (eFn f__law_read_by (aCons (eSl (eVar 0) (oSome (eC (.int (1)))) (oSome (e1 gNeg (eC (.int (1)))))) aNil))) skipS)
  (seqS (ifS (e2 (gCmp pGt) (eCall gLen (aCons (eVar 0) aNil)) (eC (.int (1)))) (retS (eC .non)) skipS)
  (retS (eDget2 (eDisp [((eC (.str [49])), (eTup (aCons (eC (.str [121, 101, 115])) aNil))), ((eC (.str [48])), (eTup (aCons (eC (.str [110, 111])) aNil)))]) (e2 gIx (eVar 0) (eC (.int (0)))) (eTup (aCons (eC (.str [110, 97, 109, 101])) (aCons (e2 gIx (eVar 0) (eC (.int (0)))) aNil))))))))))))
noncomputable def b_wanted_a0c6 : Es := (retS (eOo (eBl (e2 gEq (eCall gLen (aCons (eVar 0) aNil)) (eC (.int (0))))) (eBl (e2 gIn (e2 gIx (eVar 0) (e1 gNeg (eC (.int (1))))) (eTup (aCons (eC (.str [126])) (aCons (eC (.str [40])) (aCons (eC (.str [38])) (aCons (eC (.str [124])) (aCons (eC (.str [62])) (aCons (eC (.str [61])) aNil)))))))))))
noncomputable def b_word_ac73 (f__law_wanted : Fn) : Es := (seqS (asgS (ftOne 3) (e2 gDiv (eVar 2) (eC (.int (8)))))
  (seqS (ifS (e2 gEq (e2 gMod (eVar 3) (eC (.int (41)))) (eC (.int (0)))) (retS (e2 gIx (eLst (aCons (eC (.str [126])) (aCons (eC (.str [40])) (aCons (eC (.str [41])) (aCons (eC (.str [38])) (aCons (eC (.str [62])) (aCons (eC (.str [49])) (aCons (e2 gIx (eVar 0) (eC (.int (0)))) (aCons (e2 gAdd (e2 gIx (eVar 0) (e1 gNeg (eC (.int (1))))) (eC (.str [120, 121, 122, 119]))) aNil))))))))) (e2 gMod (eVar 2) (eC (.int (8)))))) skipS)
  (seqS (ifS (tAn (e1 tBool (eFn f__law_wanted (aCons (eFrz 1) aNil))) (e2 (gCmp pLt) (e2 gMod (eVar 2) (eC (.int (8)))) (eC (.int (4))))) (retS (e2 gIx (eLst (aCons (eC (.str [126])) (aCons (eC (.str [40])) (aCons (eC (.str [126])) (aCons (e2 gIx (eC (.str [49, 48])) (e2 gMod (e2 gDiv (eVar 3) (eC (.int (7)))) (eC (.int (2))))) aNil))))) (e2 gMod (eVar 2) (eC (.int (8)))))) skipS)
  (seqS (ifS (e1 tBool (eFn f__law_wanted (aCons (eFrz 1) aNil))) (retS (e2 gIx (eVar 0) (e2 gMod (eVar 3) (eCall gLen (aCons (eVar 0) aNil))))) skipS)
  (seqS (ifS (tAn (e2 (gCmp pLt) (e2 gMod (eVar 2) (eC (.int (8)))) (eC (.int (3)))) (e2 (gCmp pGt) (eCnt (eVar 1) (eC (.str [40]))) (eCnt (eVar 1) (eC (.str [41]))))) (retS (eC (.str [41]))) skipS)
  (retS (e2 gIx (eC (.str [38, 124, 62, 61])) (e2 gMod (e2 gDiv (eVar 3) (eC (.int (41)))) (eC (.int (4)))))))))))
end PL
set_option Elab.async false
set_option linter.all false
set_option maxRecDepth 100000
set_option maxHeartbeats 1000000
set_option exponentiation.threshold 20000
namespace PL
set_option autoImplicit false
open PySem L2 PyProof.Rows
def binS (c : Nat) : Bool := c == 61 || c == 62 || c == 124 || c == 38
def waitS (c : Nat) : Bool := binS c || c == 126 || c == 40
def sIdx (c : Nat) : Nat := if c = 61 then 0 else if c = 62 then 1 else if c = 124 then 2 else if c = 38 then 3 else 4
def kSg (c : Nat) : K4 := if c = 61 then .sm else if c = 62 then .th else if c = 124 then .or else .an
theorem waitS_cases {c : Nat} (h : waitS c = true) : c = 61 ∨ c = 62 ∨ c = 124 ∨ c = 38 ∨ c = 126 ∨ c = 40 := by
  simp only [waitS, binS, Bool.or_eq_true, beq_iff_eq] at h
  omega
theorem binS_cases {c : Nat} (h : binS c = true) : c = 61 ∨ c = 62 ∨ c = 124 ∨ c = 38 := by
  simp only [binS, Bool.or_eq_true, beq_iff_eq] at h
  omega
theorem occ_at (c i : Nat) (h : Builtin.Str.occurrences ⟨([61, 62, 124, 38, 126] : List Nat).toArray⟩ ⟨([c] : List Nat).toArray⟩ 0 5 1 = [i]) : gSI [61, 62, 124, 38, 126] (.str [c]) = .ok (.int (i : Nat)) := by
  show (match Builtin.Str.occurrences ⟨([61, 62, 124, 38, 126] : List Nat).toArray⟩ ⟨([c] : List Nat).toArray⟩ 0 5 1 with | i :: _ => R.ok (D.int (i : Nat)) | [] => .stuck) = _
  rw [h]
theorem gSI_at {c : Nat} (h : waitS c = true) (h2 : c ≠ 40) : gSI [61, 62, 124, 38, 126] (.str [c]) = .ok (.int (sIdx c : Nat)) := by
  rcases waitS_cases h with rfl | rfl | rfl | rfl | rfl | rfl
  · exact occ_at 61 0 (by decide +kernel)
  · exact occ_at 62 1 (by decide +kernel)
  · exact occ_at 124 2 (by decide +kernel)
  · exact occ_at 38 3 (by decide +kernel)
  · exact occ_at 126 4 (by decide +kernel)
  · exact absurd rfl h2
def dpD (p : T × Nat) : D := .tup [p.1.toD, .int (p.2 : Nat)]
def dnD (dn : List (T × Nat)) : List D := dn.reverse.map dpD
def wtD (wt : List Nat) : List D := wt.reverse.map fun c => .str [c]
theorem dnD_cons (p : T × Nat) (dn : List (T × Nat)) : dnD (p :: dn) = dnD dn ++ [dpD p] := by simp [dnD]
theorem wtD_cons (c : Nat) (wt : List Nat) : wtD (c :: wt) = wtD wt ++ [.str [c]] := by simp [wtD]
theorem dnD_len (dn : List (T × Nat)) : (dnD dn).length = dn.length := by simp [dnD]
theorem wtD_len (wt : List Nat) : (wtD wt).length = wt.length := by simp [wtD]
/-- a sign takes its parts -/
def foldF (s : Nat) : List (T × Nat) → List (T × Nat)
  | [] => []
  | [(t, d)] => [(.nt t, d + 1)]
  | (t, d) :: (u, e) :: r => if s = 126 then (.nt t, d + 1) :: (u, e) :: r else (.bin (kSg s) u t, 1 + max d e) :: r
def foldOk (s : Nat) (dn : List (T × Nat)) : Prop := (s = 126 ∧ 1 ≤ dn.length) ∨ (binS s = true ∧ 2 ≤ dn.length)
def FoldK (f : Fn) : Prop := ∀ (s : Nat) (dn : List (T × Nat)), foldOk s dn → dn.length ≤ 1000 → f [.own (.lst (dnD dn)), .val (.str [s])] = .ok (.val .non) [.own (.lst (dnD (foldF s dn))), .val (.str [s])]
theorem maxN (a b : Nat) : (if (a : Int) < (b : Int) then (b : Int) else (a : Int)) = ((max a b : Nat) : Int) := by
  by_cases h : (a : Int) < (b : Int)
  · rw [if_pos h]; omega
  · rw [if_neg h]; omega
theorem fold_ok : FoldK (bodyF 7 2 2 b_fold) := fun s dn h hl => by
  rcases h with ⟨rfl, h⟩ | ⟨hs, h⟩
  · match dn, h with
    | (t, d) :: r, _ =>
      have e : foldF 126 ((t, d) :: r) = (.nt t, d + 1) :: r := by cases r <;> simp [foldF]
      rw [e, dnD_cons, dnD_cons]
      have hL : (dnD r).length ≤ 1000 := by rw [dnD_len]; simp at hl; omega
      simp only [dpD, T.toD]
      generalize dnD r = RD at *
      generalize t.toD = TD at *
      have e1 : ((d + 1 : Nat) : Int) = (d : Int) + 1 := by omega
      rw [e1]
      simp (disch := first | assumption | omega | (simp only [List.length_append, List.length_cons, List.length_nil, List.length_map, List.length_reverse, List.length_replicate, List.length_range, List.length_take, List.length_drop, enD_length, rangeD_length]; omega) | (simp; done) | fail) [decide_eq_true, decide_eq_false, kAsg, kNx, b_fold]
  · match dn, h with
    | (t, d) :: (u, g) :: r, _ =>
      have hne : s ≠ 126 := by rcases binS_cases hs with rfl | rfl | rfl | rfl <;> decide
      have e : foldF s ((t, d) :: (u, g) :: r) = (.bin (kSg s) u t, 1 + max d g) :: r := by simp [foldF, hne]
      rw [e, dnD_cons, dnD_cons, dnD_cons]
      have hL : (dnD r).length ≤ 1000 := by rw [dnD_len]; simp at hl; omega
      have hi := gSI_at (c := s) (by simp [waitS, hs]) (by rcases binS_cases hs with rfl | rfl | rfl | rfl <;> decide)
      have hk : L2.atI [D.str [115, 97, 109, 101], .str [116, 104, 101, 110], .str [111, 114], .str [97, 110, 100]] ((sIdx s : Nat) : Int) = some (.str (kSg s).code) := by rcases binS_cases hs with rfl | rfl | rfl | rfl <;> rfl
      have hmx := maxN d g
      simp only [dpD, T.toD]
      generalize dnD r = RD at *
      generalize t.toD = TD at *
      generalize u.toD = UD at *
      generalize (kSg s).code = KC at *
      have e1 : ((1 + max d g : Nat) : Int) = 1 + ((max d g : Nat) : Int) := by omega
      rw [e1]
      generalize ((sIdx s : Nat) : Int) = SI at *
      simp (disch := first | assumption | omega | (simp only [List.length_append, List.length_cons, List.length_nil, List.length_map, List.length_reverse, List.length_replicate, List.length_range, List.length_take, List.length_drop, enD_length, rangeD_length]; omega) | (simp; done) | fail) [decide_eq_true, decide_eq_false, kAsg, kNx, b_fold, gPop_snoc2, hne, hi, hk]
      split <;> omega
def gf (b a : Nat) : Bool := if a = 40 then false else if b = 62 then decide (1 < sIdx a) else decide (sIdx b ≤ sIdx a)
def GoesFK (f : Fn) : Prop := ∀ a b : Nat, waitS a = true → binS b = true → f [.val (.str [a]), .val (.str [b])] = .ok (.val (.bl (gf b a))) [.val (.str [a]), .val (.str [b])]
theorem goesF_ok : GoesFK (bodyF 2 2 2 b_goes_first) := fun a b ha hb => by
  have hib := gSI_at (c := b) (by simp [waitS, hb]) (by rcases binS_cases hb with rfl | rfl | rfl | rfl <;> decide)
  by_cases h40 : a = 40
  · subst h40
    simp only [gf, if_true]
    simp (disch := first | assumption | omega | (simp only [List.length_append, List.length_cons, List.length_nil, List.length_map, List.length_reverse, List.length_replicate, List.length_range, List.length_take, List.length_drop, enD_length, rangeD_length]; omega) | (simp; done) | fail) [decide_eq_true, decide_eq_false, kAsg, kNx, b_goes_first]
  · have hia := gSI_at ha h40
    simp only [gf, h40, if_false]
    by_cases h62 : b = 62
    · subst h62
      have e : sIdx 62 = 1 := rfl
      rw [e] at hib
      simp only [if_true]
      have hd : decide (1 < sIdx a) = decide ((1 : Int) < ((sIdx a : Nat) : Int)) := decide_eq_decide.mpr (by omega)
      rw [hd]
      generalize ((sIdx a : Nat) : Int) = SA at *
      simp (disch := first | assumption | omega | (simp only [List.length_append, List.length_cons, List.length_nil, List.length_map, List.length_reverse, List.length_replicate, List.length_range, List.length_take, List.length_drop, enD_length, rangeD_length]; omega) | (simp; done) | fail) [decide_eq_true, decide_eq_false, kAsg, kNx, b_goes_first, h40, hia, hib]
    · simp only [h62, if_false]
      have hd : decide (sIdx b ≤ sIdx a) = decide (((sIdx b : Nat) : Int) ≤ ((sIdx a : Nat) : Int)) := decide_eq_decide.mpr (by omega)
      rw [hd]
      generalize ((sIdx a : Nat) : Int) = SA at *
      generalize ((sIdx b : Nat) : Int) = SB at *
      simp (disch := first | assumption | omega | (simp only [List.length_append, List.length_cons, List.length_nil, List.length_map, List.length_reverse, List.length_replicate, List.length_range, List.length_take, List.length_drop, enD_length, rangeD_length]; omega) | (simp; done) | fail) [decide_eq_true, decide_eq_false, kAsg, kNx, b_goes_first, h40, h62, hia, hib]
def leafF (w : List Nat) : Option T := if w = [49] then some .yes else if w = [48] then some .no else match w with
  | c :: _ => if c ∈ abc then some (.nm w) else none
  | [] => none
def optT : Option T → D
  | some t => t.toD
  | none => .non
def LeafK (f : Fn) : Prop := ∀ w : List Nat, w ≠ [] → w.length ≤ 1000 → f [.val (.str w)] = .ok (.val (optT (leafF w))) [.val (.str w)]
theorem leaf_ok' : LeafK (bodyF 1 1 1 b_leaf_of) := fun w hw hl => by
  match w, hw with
  | c :: w, _ =>
    have ha : (97 :: 98 :: 99 :: 100 :: 101 :: 102 :: 103 :: 104 :: 105 :: 106 :: 107 :: 108 :: 109 :: 110 :: 111 :: 112 :: 113 :: 114 :: 115 :: 116 :: 117 :: 118 :: 119 :: 120 :: 121 :: 122 :: []) = abc := rfl
    have hx : L2.atI (c :: w) 0 = some c := by rw [show (0 : Int) = ((0 : Nat) : Int) from rfl, atI_of _ 0 (by simp)]; rfl
    unfold b_leaf_of leafF
    rw [ha]
    by_cases h1 : c :: w = [49]
    · have h1' := h1
      rw [if_pos h1]
      simp only [optT, T.toD]
      rw [h1]
      simp (disch := first | assumption | omega | (simp only [List.length_append, List.length_cons, List.length_nil, List.length_map, List.length_reverse, List.length_replicate, List.length_range, List.length_take, List.length_drop, enD_length, rangeD_length]; omega) | (simp; done) | fail) [decide_eq_true, decide_eq_false, kAsg, kNx]
    · rw [if_neg h1]
      by_cases h2 : c :: w = [48]
      · rw [if_pos h2]
        simp only [optT, T.toD]
        rw [h2]
        simp (disch := first | assumption | omega | (simp only [List.length_append, List.length_cons, List.length_nil, List.length_map, List.length_reverse, List.length_replicate, List.length_range, List.length_take, List.length_drop, enD_length, rangeD_length]; omega) | (simp; done) | fail) [decide_eq_true, decide_eq_false, kAsg, kNx]
      · rw [if_neg h2]
        by_cases h3 : c ∈ abc
        · simp only [h3, if_true, optT, T.toD]
          have hg : gIn (.str [c]) (.str abc) = .ok true := by show R.ok (decide (c ∈ abc)) = _; rw [decide_eq_true h3]
          generalize abc = AB at *
          generalize hW : c :: w = WD at *
          simp (disch := first | assumption | omega | (simp only [List.length_append, List.length_cons, List.length_nil, List.length_map, List.length_reverse, List.length_replicate, List.length_range, List.length_take, List.length_drop, enD_length, rangeD_length]; omega) | (simp; done) | fail) [decide_eq_true, decide_eq_false, kAsg, kNx, h1, h2, hx, hg]
        · simp only [h3, if_false, optT]
          have hg : gIn (.str [c]) (.str abc) = .ok false := by show R.ok (decide (c ∈ abc)) = _; rw [decide_eq_false h3]
          generalize abc = AB at *
          generalize hW : c :: w = WD at *
          simp (disch := first | assumption | omega | (simp only [List.length_append, List.length_cons, List.length_nil, List.length_map, List.length_reverse, List.length_replicate, List.length_range, List.length_take, List.length_drop, enD_length, rangeD_length]; omega) | (simp; done) | fail) [decide_eq_true, decide_eq_false, kAsg, kNx, h1, h2, hx, hg]
end PL
set_option Elab.async false
set_option linter.all false
set_option maxRecDepth 100000
set_option maxHeartbeats 1000000
set_option exponentiation.threshold 20000
namespace PL
set_option autoImplicit false
open PySem L2 PyProof.Rows
def wtOk (wt : List Nat) : Prop := ∀ c ∈ wt, waitS c = true
theorem waitS_lt {c : Nat} (h : waitS c = true) : c < 1114112 := by rcases waitS_cases h with rfl | rfl | rfl | rfl | rfl | rfl <;> decide
theorem okd_wt {wt : List Nat} (h : wtOk wt) : Okd 2 (.lst (wtD wt)) := okd_lst fun d hd => by
  obtain ⟨c, hc, rfl⟩ := List.mem_map.mp hd
  exact okd_str 1 [c] fun x hx => by
    have : x = c := by simpa using hx
    subst this
    exact waitS_lt (h _ (List.mem_reverse.mp hc))
theorem wt_ne {wt : List Nat} (h : wtOk wt) : gNe (.lst (wtD wt)) (.lst []) = .ok (decide (wt ≠ [])) := by
  rw [gNe_nil (okd_wt h) (by decide) (by decide)]
  congr 1
  refine decide_eq_decide.mpr (not_congr ?_)
  simp [wtD]
theorem wt_eq {wt : List Nat} (h : wtOk wt) : gEq (.lst (wtD wt)) (.lst []) = .ok (decide (wt = [])) := by
  have h1 := wt_ne h
  unfold gNe at h1
  cases e : gEq (.lst (wtD wt)) (.lst []) with
  | stuck => rw [e] at h1; cases h1
  | exc z => rw [e] at h1; cases h1
  | ok b =>
    rw [e] at h1
    have h1 : R.ok (!b) = R.ok (decide (wt ≠ [])) := h1
    simp only [R.ok.injEq] at h1
    congr 1
    by_cases q : wt = []
    · simp [q] at h1 ⊢; exact h1
    · simp [q] at h1 ⊢; exact h1
def nbin (wt : List Nat) : Nat := (wt.filter binS).length
/-- the state holds together; one: a sentence stands -/
def Bal (one : Nat) (dn : List (T × Nat)) (wt : List Nat) : Prop := wtOk wt ∧ dn.length = nbin wt + one
def begunF (w : List Nat) (dn : List (T × Nat)) (wt : List Nat) : Option (Bool × List (T × Nat) × List Nat) :=
  if w = [126] then some (true, dn, 126 :: wt) else if w = [40] then some (true, dn, 40 :: wt) else (leafF w).map fun t => (false, (t, 1) :: dn, wt)
def outR (w : List Nat) (dn : List (T × Nat)) (wt : List Nat) : Option (Bool × List (T × Nat) × List Nat) → RF
  | some (b, dn', wt') => .ok (.val (.bl b)) [.val (.str w), .own (.lst (dnD dn')), .own (.lst (wtD wt'))]
  | none => .exc ⟨1, []⟩ [.val (.str w), .own (.lst (dnD dn)), .own (.lst (wtD wt))]
def BegunK (f : Fn) : Prop := ∀ (w : List Nat) (dn : List (T × Nat)) (wt : List Nat), w ≠ [] → w.length ≤ 1000 → dn.length ≤ 1000 → wt.length ≤ 1000 → f [.val (.str w), .own (.lst (dnD dn)), .own (.lst (wtD wt))] = outR w dn wt (begunF w dn wt)
theorem begun_ok {fl : Fn} (hl : LeafK fl) : BegunK (bodyF 4 3 3 (b_begun fl)) := fun w dn wt hw hwl hd hwt => by
  have h1 := hl w hw hwl
  have hD : (dnD dn).length ≤ 1000 := by rw [dnD_len]; exact hd
  have hW : (wtD wt).length ≤ 1000 := by rw [wtD_len]; exact hwt
  unfold begunF
  by_cases q1 : w = [126]
  · rw [if_pos q1]
    subst q1
    simp only [outR, wtD_cons]
    generalize wtD wt = WD at *
    generalize dnD dn = DD at *
    simp (disch := first | assumption | omega | (simp only [List.length_append, List.length_cons, List.length_nil, List.length_map, List.length_reverse, List.length_replicate, List.length_range, List.length_take, List.length_drop, enD_length, rangeD_length]; omega) | (simp; done) | fail) [decide_eq_true, decide_eq_false, kAsg, kNx, b_begun]
  · rw [if_neg q1]
    by_cases q2 : w = [40]
    · rw [if_pos q2]
      subst q2
      simp only [outR, wtD_cons]
      generalize wtD wt = WD at *
      generalize dnD dn = DD at *
      simp (disch := first | assumption | omega | (simp only [List.length_append, List.length_cons, List.length_nil, List.length_map, List.length_reverse, List.length_replicate, List.length_range, List.length_take, List.length_drop, enD_length, rangeD_length]; omega) | (simp; done) | fail) [decide_eq_true, decide_eq_false, kAsg, kNx, b_begun]
    · rw [if_neg q2]
      cases e : leafF w with
      | none =>
        rw [e] at h1
        simp only [optT] at h1
        simp only [outR, Option.map_none]
        generalize wtD wt = WD at *
        generalize dnD dn = DD at *
        simp (disch := first | assumption | omega | (simp only [List.length_append, List.length_cons, List.length_nil, List.length_map, List.length_reverse, List.length_replicate, List.length_range, List.length_take, List.length_drop, enD_length, rangeD_length]; omega) | (simp; done) | fail) [decide_eq_true, decide_eq_false, kAsg, kNx, b_begun, q1, q2, h1]
      | some t =>
        rw [e] at h1
        simp only [optT] at h1
        simp only [outR, Option.map_some, dnD_cons, dpD]
        have hn : t.toD.isNon = false := by cases t <;> rfl
        generalize t.toD = TD at *
        generalize wtD wt = WD at *
        generalize dnD dn = DD at *
        simp (disch := first | assumption | omega | (simp only [List.length_append, List.length_cons, List.length_nil, List.length_map, List.length_reverse, List.length_replicate, List.length_range, List.length_take, List.length_drop, enD_length, rangeD_length]; omega) | (simp; done) | fail) [decide_eq_true, decide_eq_false, kAsg, kNx, b_begun, q1, q2, h1, hn]
def popW (p : Nat → Bool) : List (T × Nat) → List Nat → List (T × Nat) × List Nat
  | dn, [] => (dn, [])
  | dn, c :: wt => if p c = true then popW p (foldF c dn) wt else (dn, c :: wt)
theorem foldF_len {s : Nat} {dn : List (T × Nat)} (h : foldOk s dn) : (foldF s dn).length + (if binS s = true then 1 else 0) = dn.length := by
  rcases h with ⟨rfl, h⟩ | ⟨hs, h⟩
  · match dn, h with
    | [(t, d)], _ => rfl
    | (t, d) :: (u, e) :: r, _ => simp [foldF, binS]
  · have hne : s ≠ 126 := by rcases binS_cases hs with rfl | rfl | rfl | rfl <;> decide
    match dn, h with
    | (t, d) :: (u, e) :: r, _ => simp [foldF, hne, hs]
theorem bal_fold {c : Nat} {dn : List (T × Nat)} {wt : List Nat} (h : Bal 1 dn (c :: wt)) (h40 : c ≠ 40) : foldOk c dn ∧ Bal 1 (foldF c dn) wt := by
  obtain ⟨h1, h2⟩ := h
  have hc := h1 c (by simp)
  have fo : foldOk c dn := by
    by_cases hb : binS c = true
    · refine .inr ⟨hb, ?_⟩
      simp [nbin, hb] at h2
      omega
    · refine .inl ⟨?_, ?_⟩
      · rcases waitS_cases hc with rfl | rfl | rfl | rfl | rfl | rfl
        · exact absurd rfl hb
        · exact absurd rfl hb
        · exact absurd rfl hb
        · exact absurd rfl hb
        · rfl
        · exact absurd rfl h40
      · simp [nbin, hb] at h2
        omega
  refine ⟨fo, fun x hx => h1 x (by simp [hx]), ?_⟩
  have := foldF_len fo
  by_cases hb : binS c = true
  · simp only [hb, if_true] at this
    simp [nbin, hb] at h2 ⊢
    omega
  · simp only [hb] at this
    simp [nbin, hb] at h2 ⊢
    simp at this
    omega
theorem popW_bal {p : Nat → Bool} (hp : p 40 = false) : ∀ (wt : List Nat) (dn : List (T × Nat)), Bal 1 dn wt → Bal 1 (popW p dn wt).1 (popW p dn wt).2
  | [], dn, h => h
  | c :: wt, dn, h => by
    unfold popW
    split
    next q => exact popW_bal hp wt _ (bal_fold h fun e => by rw [e, hp] at q; cases q).2
    next => exact h
theorem popW_len (p : Nat → Bool) : ∀ (wt : List Nat) (dn : List (T × Nat)), (popW p dn wt).2.length ≤ wt.length
  | [], dn => by simp [popW]
  | c :: wt, dn => by
    unfold popW
    split
    · have := popW_len p wt (foldF c dn); simp; omega
    · simp
/-- the loop that folds -/
theorem pop_loop {ff : Fn} (hf : FoldK ff) {p : Nat → Bool} (hp : p 40 = false) (cond : Ev Bool) (w : List Nat)
    (hc : ∀ (dn : List (T × Nat)) (wt : List Nat), wtOk wt → dn.length ≤ 1000 → wt.length ≤ 1000 → cond [.val (.str w), .own (.lst (dnD dn)), .own (.lst (wtD wt))] = .ok (match wt with | [] => false | c :: _ => p c)) : ∀ (n : Nat) (wt : List Nat) (dn : List (T × Nat)), Bal 1 dn wt → dn.length ≤ 1000 → wt.length ≤ 1000 → wt.length < n →
    whileS cond (mutS 2 gPop aNil (kCallB 1 ff)) n [.val (.str w), .own (.lst (dnD dn)), .own (.lst (wtD wt))] = .nx [.val (.str w), .own (.lst (dnD (popW p dn wt).1)), .own (.lst (wtD (popW p dn wt).2))]
  | 0, wt, dn, _, _, _, hn => absurd hn (by omega)
  | n + 1, [], dn, hb, hd, hw, hn => by
    have h1 := hc dn [] hb.1 hd hw
    show tryE _ (cond _) _ = _
    rw [h1]
    rfl
  | n + 1, c :: wt, dn, hb, hd, hw, hn => by
    have h1 := hc dn (c :: wt) hb.1 hd hw
    have h1 : cond [.val (.str w), .own (.lst (dnD dn)), .own (.lst (wtD (c :: wt)))] = .ok (p c) := h1
    cases q : p c with
    | false =>
      rw [q] at h1
      have e : popW p dn (c :: wt) = (dn, c :: wt) := by simp [popW, q]
      rw [e]
      show tryE _ (cond _) _ = _
      rw [h1]
      rfl
    | true =>
      rw [q] at h1
      have e : popW p dn (c :: wt) = popW p (foldF c dn) wt := by simp [popW, q]
      rw [e]
      obtain ⟨fo, hb'⟩ := bal_fold hb fun e => by rw [e, hp] at q; cases q
      have h2 := hf c dn fo hd
      have hl := foldF_len fo
      have hd' : (foldF c dn).length ≤ 1000 := by split at hl <;> omega
      have ih := pop_loop hf hp cond w hc n wt (foldF c dn) hb' hd' (by simp at hw; omega) (by simp at hn; omega)
      have hbody : mutS 2 gPop aNil (kCallB 1 ff) [.val (.str w), .own (.lst (dnD dn)), .own (.lst (wtD (c :: wt)))] = .nx [.val (.str w), .own (.lst (dnD (foldF c dn))), .own (.lst (wtD wt))] := by
        rw [wtD_cons]
        clear ih h1 hl
        generalize dnD (foldF c dn) = D2 at *
        generalize dnD dn = D1 at *
        generalize wtD wt = WD at *
        simp (disch := first | assumption | omega | (simp only [List.length_append, List.length_cons, List.length_nil, List.length_map, List.length_reverse, List.length_replicate, List.length_range, List.length_take, List.length_drop, enD_length, rangeD_length]; omega) | (simp; done) | fail) [decide_eq_true, decide_eq_false, kAsg, kNx, h2]
      show tryE _ (cond _) _ = _
      rw [h1]
      show (match mutS 2 gPop aNil (kCallB 1 ff) [.val (.str w), .own (.lst (dnD dn)), .own (.lst (wtD (c :: wt)))] with
        | .nx ρ' => whileS cond (mutS 2 gPop aNil (kCallB 1 ff)) n ρ'
        | .ct ρ' => whileS cond (mutS 2 gPop aNil (kCallB 1 ff)) n ρ'
        | .bk ρ' => .nx ρ'
        | r => r) = _
      rw [hbody]
      exact ih
def signF (w : List Nat) (dn : List (T × Nat)) (wt : List Nat) : Option (Bool × List (T × Nat) × List Nat) := match w with
  | [c] => if binS c = true then some (true, (popW (gf c) dn wt).1, c :: (popW (gf c) dn wt).2) else none
  | _ => none
theorem signF_none {w : List Nat} {dn : List (T × Nat)} {wt : List Nat} (hm : w ∉ [[61], [62], [124], [38]]) : signF w dn wt = none := by
  rcases w with _ | ⟨c, _ | ⟨c2, r⟩⟩
  · rfl
  · have : ¬ binS c = true := fun hb => hm (by rcases binS_cases hb with rfl | rfl | rfl | rfl <;> simp)
    exact if_neg this
  · rfl
def goneF (w : List Nat) (dn : List (T × Nat)) (wt : List Nat) : Option (Bool × List (T × Nat) × List Nat) :=
  if w = [41] then (match (popW (fun c => decide (c ≠ 40)) dn wt).2 with
    | [] => none
    | _ :: wt' => some (false, (popW (fun c => decide (c ≠ 40)) dn wt).1, wt'))
  else signF w dn wt
def GoneK (f : Fn) : Prop := ∀ (w : List Nat) (dn : List (T × Nat)) (wt : List Nat), Bal 1 dn wt → dn.length ≤ 900 → wt.length ≤ 900 →
  match goneF w dn wt with
  | some (b, dn', wt') => f [.val (.str w), .own (.lst (dnD dn)), .own (.lst (wtD wt))] = .ok (.val (.bl b)) [.val (.str w), .own (.lst (dnD dn')), .own (.lst (wtD wt'))]
  | none => ∃ dn' wt', f [.val (.str w), .own (.lst (dnD dn)), .own (.lst (wtD wt))] = .exc ⟨1, []⟩ [.val (.str w), .own (.lst (dnD dn')), .own (.lst (wtD wt'))]
theorem gone_ok {ff fg : Fn} (hf : FoldK ff) (hg : GoesFK fg) : GoneK (bodyF 3 3 3 (b_gone_on ff fg)) := fun w dn wt hb hd hw => by
  unfold goneF
  by_cases q1 : w = [41]
  · rw [if_pos q1]
    subst q1
    have hl := pop_loop hf (p := fun c => decide (c ≠ 40)) (by decide) (tAn (e2 gNe (eVar 2) (eLst aNil)) (e2 gNe (e2 gIx (eVar 2) (e1 gNeg (eC (.int (1))))) (eC (.str [40])))) [41] (fun dn wt h1 h2 h3 => by
      have n1 := wt_ne h1
      cases wt with
      | nil =>
        simp only [ne_eq, not_true_eq_false, decide_false] at n1
        generalize dnD dn = DD at *
        generalize wtD [] = WD at *
        simp (disch := first | assumption | omega | (simp only [List.length_append, List.length_cons, List.length_nil, List.length_map, List.length_reverse, List.length_replicate, List.length_range, List.length_take, List.length_drop, enD_length, rangeD_length]; omega) | (simp; done) | fail) [decide_eq_true, decide_eq_false, kAsg, kNx, n1]
      | cons c wt =>
        have hlast : L2.atI (wtD (c :: wt)) (-1) = some (.str [c]) := by rw [wtD_cons]; exact L2.atI_last _ _
        simp only [ne_eq, reduceCtorEq, not_false_eq_true, decide_true] at n1
        generalize dnD dn = DD at *
        generalize wtD (c :: wt) = WD at *
        by_cases h40 : c = 40
        · subst h40; simp (disch := first | assumption | omega | (simp only [List.length_append, List.length_cons, List.length_nil, List.length_map, List.length_reverse, List.length_replicate, List.length_range, List.length_take, List.length_drop, enD_length, rangeD_length]; omega) | (simp; done) | fail) [decide_eq_true, decide_eq_false, kAsg, kNx, n1, hlast]
        · simp (disch := first | assumption | omega | (simp only [List.length_append, List.length_cons, List.length_nil, List.length_map, List.length_reverse, List.length_replicate, List.length_range, List.length_take, List.length_drop, enD_length, rangeD_length]; omega) | (simp; done) | fail) [decide_eq_true, decide_eq_false, kAsg, kNx, n1, hlast, h40]) 1000000 wt dn hb (by omega) (by omega) (by omega)
    have hb2 := popW_bal (p := fun c => decide (c ≠ 40)) (by decide) wt dn hb
    generalize (popW (fun c => decide (c ≠ 40)) dn wt).1 = dn' at *
    generalize (popW (fun c => decide (c ≠ 40)) dn wt).2 = wt' at *
    have n2 := wt_eq hb2.1
    cases wt' with
    | nil =>
      refine ⟨dn', [], ?_⟩
      simp only [decide_true] at n2
      have eL : b_gone_on_l1 ff fg = mutS 2 gPop aNil (kCallB 1 ff) := rfl
      unfold b_gone_on
      rw [eL]
      generalize wtD [] = W0' at *
      generalize wtD wt = WD at *
      generalize dnD dn = DD at *
      generalize dnD dn' = DD' at *
      generalize (mutS 2 gPop aNil (kCallB 1 ff)) = MB at *
      generalize (tAn (e2 gNe (eVar 2) (eLst aNil)) (e2 gNe (e2 gIx (eVar 2) (e1 gNeg (eC (.int (1))))) (eC (.str [40])))) = CB at *
      simp (disch := first | assumption | omega | (simp only [List.length_append, List.length_cons, List.length_nil, List.length_map, List.length_reverse, List.length_replicate, List.length_range, List.length_take, List.length_drop, enD_length, rangeD_length]; omega) | (simp; done) | fail) [decide_eq_true, decide_eq_false, kAsg, kNx, hl, n2]
    | cons c wt'' =>
      simp only [reduceCtorEq, decide_false] at n2
      show bodyF 3 3 3 (b_gone_on ff fg) [.val (.str [41]), .own (.lst (dnD dn)), .own (.lst (wtD wt))] = .ok (.val (.bl false)) [.val (.str [41]), .own (.lst (dnD dn')), .own (.lst (wtD wt''))]
      have eL : b_gone_on_l1 ff fg = mutS 2 gPop aNil (kCallB 1 ff) := rfl
      unfold b_gone_on
      rw [eL]
      rw [wtD_cons] at hl n2
      generalize wtD wt'' = W0' at *
      generalize wtD wt = WD at *
      generalize dnD dn = DD at *
      generalize dnD dn' = DD' at *
      generalize (mutS 2 gPop aNil (kCallB 1 ff)) = MB at *
      generalize (tAn (e2 gNe (eVar 2) (eLst aNil)) (e2 gNe (e2 gIx (eVar 2) (e1 gNeg (eC (.int (1))))) (eC (.str [40])))) = CB at *
      simp (disch := first | assumption | omega | (simp only [List.length_append, List.length_cons, List.length_nil, List.length_map, List.length_reverse, List.length_replicate, List.length_range, List.length_take, List.length_drop, enD_length, rangeD_length]; omega) | (simp; done) | fail) [decide_eq_true, decide_eq_false, kAsg, kNx, hl, n2]
  · rw [if_neg q1]
    have hin := gInL_strs w [[61], [62], [124], [38]]
    have hin : gInL (.str w) [.str [61], .str [62], .str [124], .str [38]] = .ok (decide (w ∈ [[61], [62], [124], [38]])) := hin
    by_cases hm : w ∈ [[61], [62], [124], [38]]
    · obtain ⟨c, rfl, hc⟩ : ∃ c, w = [c] ∧ binS c = true := by
        simp only [List.mem_cons, List.not_mem_nil, or_false] at hm
        rcases hm with rfl | rfl | rfl | rfl
        · exact ⟨_, rfl, rfl⟩
        · exact ⟨_, rfl, rfl⟩
        · exact ⟨_, rfl, rfl⟩
        · exact ⟨_, rfl, rfl⟩
      rw [decide_eq_true hm] at hin
      have hl := pop_loop hf (p := gf c) rfl (tAn (e2 gNe (eVar 2) (eLst aNil)) (e1 tBool (eFn fg (aCons (e2 gIx (eVar 2) (e1 gNeg (eC (.int (1))))) (aCons (eFrz 0) aNil))))) [c] (fun dn wt h1 h2 h3 => by
        have n1 := wt_ne h1
        cases wt with
        | nil =>
          simp only [ne_eq, not_true_eq_false, decide_false] at n1
          generalize dnD dn = DD at *
          generalize wtD [] = WD at *
          simp (disch := first | assumption | omega | (simp only [List.length_append, List.length_cons, List.length_nil, List.length_map, List.length_reverse, List.length_replicate, List.length_range, List.length_take, List.length_drop, enD_length, rangeD_length]; omega) | (simp; done) | fail) [decide_eq_true, decide_eq_false, kAsg, kNx, n1]
        | cons a wt =>
          have hlast : L2.atI (wtD (a :: wt)) (-1) = some (.str [a]) := by rw [wtD_cons]; exact L2.atI_last _ _
          have hgo := hg a c (h1 a (by simp)) hc
          show _ = R.ok (gf c a)
          simp only [ne_eq, reduceCtorEq, not_false_eq_true, decide_true] at n1
          generalize dnD dn = DD at *
          generalize wtD (a :: wt) = WD at *
          generalize gf c a = GB at *
          simp (disch := first | assumption | omega | (simp only [List.length_append, List.length_cons, List.length_nil, List.length_map, List.length_reverse, List.length_replicate, List.length_range, List.length_take, List.length_drop, enD_length, rangeD_length]; omega) | (simp; done) | fail) [decide_eq_true, decide_eq_false, kAsg, kNx, n1, hlast, hgo]) 1000000 wt dn hb (by omega) (by omega) (by omega)
      simp only [signF, hc, if_true]
      show bodyF 3 3 3 (b_gone_on ff fg) [.val (.str [c]), .own (.lst (dnD dn)), .own (.lst (wtD wt))] = .ok (.val (.bl true)) [.val (.str [c]), .own (.lst (dnD (popW (gf c) dn wt).1)), .own (.lst (wtD (c :: (popW (gf c) dn wt).2)))]
      have hlen := popW_len (gf c) wt dn
      generalize (popW (gf c) dn wt).1 = dn' at *
      generalize (popW (gf c) dn wt).2 = wt' at *
      have eL : b_gone_on_l2 ff fg = mutS 2 gPop aNil (kCallB 1 ff) := rfl
      rw [wtD_cons]
      have hWl : (wtD wt').length ≤ 1000 := by rw [wtD_len]; omega
      have hne : ¬ [c] = [41] := q1
      unfold b_gone_on
      rw [eL]
      generalize wtD wt' = W0' at *
      generalize wtD wt = WD at *
      generalize dnD dn = DD at *
      generalize dnD dn' = DD' at *
      generalize (mutS 2 gPop aNil (kCallB 1 ff)) = MB at *
      generalize (tAn (e2 gNe (eVar 2) (eLst aNil)) (e1 tBool (eFn fg (aCons (e2 gIx (eVar 2) (e1 gNeg (eC (.int (1))))) (aCons (eFrz 0) aNil))))) = CB at *
      generalize hcw : [c] = cw at *
      simp (disch := first | assumption | omega | (simp only [List.length_append, List.length_cons, List.length_nil, List.length_map, List.length_reverse, List.length_replicate, List.length_range, List.length_take, List.length_drop, enD_length, rangeD_length]; omega) | (simp; done) | fail) [decide_eq_true, decide_eq_false, kAsg, kNx, hl, hin, hne]
    · rw [decide_eq_false hm] at hin
      rw [signF_none hm]
      show ∃ dn' wt', bodyF 3 3 3 (b_gone_on ff fg) [.val (.str w), .own (.lst (dnD dn)), .own (.lst (wtD wt))] = .exc ⟨1, []⟩ [.val (.str w), .own (.lst (dnD dn')), .own (.lst (wtD wt'))]
      refine ⟨dn, wt, ?_⟩
      unfold b_gone_on
      generalize wtD wt = WD at *
      generalize dnD dn = DD at *
      generalize b_gone_on_l1 ff fg = L1 at *
      generalize b_gone_on_l2 ff fg = L2' at *
      simp (disch := first | assumption | omega | (simp only [List.length_append, List.length_cons, List.length_nil, List.length_map, List.length_reverse, List.length_replicate, List.length_range, List.length_take, List.length_drop, enD_length, rangeD_length]; omega) | (simp; done) | fail) [decide_eq_true, decide_eq_false, kAsg, kNx, hin, q1]
end PL
set_option Elab.async false
set_option linter.all false
set_option maxRecDepth 100000
set_option maxHeartbeats 1000000
set_option exponentiation.threshold 20000
namespace PL
set_option autoImplicit false
open PySem L2 PyProof.Rows
theorem forGo_cons_ct {ft : D → R (List (Nat × D))} {fb : Es} {d : D} {ds : List D} {ρ ρ' : List Sl} {as : List (Nat × D)} (h1 : ft d = .ok as) (h2 : fb (setS ρ as) = .ct ρ') : forGo ft fb (d :: ds) ρ = forGo ft fb ds ρ' := by
  have e : forGo ft fb (d :: ds) ρ = tryE ρ (noX (ft d)) (fun as => match fb (setS ρ as) with
        | .nx ρ' => forGo ft fb ds ρ'
        | .ct ρ' => forGo ft fb ds ρ'
        | .bk ρ' => .nx ρ'
        | r => r) := rfl
  rw [e, h1]
  show (match fb (setS ρ as) with
        | .nx ρ' => forGo ft fb ds ρ'
        | .ct ρ' => forGo ft fb ds ρ'
        | .bk ρ' => .nx ρ'
        | r => r) = _
  rw [h2]
def sgnL : List Nat := [61, 62, 124, 38, 126]
def onesL : List Nat := [48, 49, 40, 41]
def wordsGo : List Nat → List Nat → List (List Nat) → Option (List (List Nat))
  | [], _, acc => some acc
  | c :: cs, run, acc => if c ∈ abc then wordsGo cs (run ++ [c]) acc else if 8 < run.length then none else
    if c ∈ sgnL ∨ c ∈ onesL then wordsGo cs [] ((if run ≠ [] then acc ++ [run] else acc) ++ [[c]]) else if c ≠ 32 then none else wordsGo cs [] (if run ≠ [] then acc ++ [run] else acc)
def wordsF (text : List Nat) : Option (List (List Nat)) := wordsGo (text ++ [32]) [] []
def chD (cs : List Nat) : List D := cs.map fun c => .str [c]
theorem words_loop (a0 : Sl) : ∀ (cs : List Nat) (run : List Nat) (acc : List (List Nat)) (y3 : Sl), run.length + cs.length ≤ 1000 → acc.length + 2 * cs.length ≤ 3000 →
    match wordsGo cs run acc with
    | some ws => ∃ x2 x3, forGo (ftOne 3) b_words_of_l1 (chD cs) [a0, .own (.lst (acc.map .str)), .val (.str run), y3] = .nx [a0, .own (.lst (ws.map .str)), x2, x3]
    | none => ∃ x1 x2 x3, forGo (ftOne 3) b_words_of_l1 (chD cs) [a0, .own (.lst (acc.map .str)), .val (.str run), y3] = .exc ⟨1, []⟩ [a0, x1, x2, x3]
  | [], run, acc, y3, _, _ => ⟨_, _, rfl⟩
  | c :: cs, run, acc, y3, h1, h2 => by
    have ha : (97 :: 98 :: 99 :: 100 :: 101 :: 102 :: 103 :: 104 :: 105 :: 106 :: 107 :: 108 :: 109 :: 110 :: 111 :: 112 :: 113 :: 114 :: 115 :: 116 :: 117 :: 118 :: 119 :: 120 :: 121 :: 122 :: []) = abc := rfl
    have hAl : (acc.map D.str).length ≤ 3000 := by simp at h2 ⊢; omega
    have hAl2 : acc.length < 1000000 := by simp at h2; omega
    simp only [List.length_cons] at h1 h2
    have hrl : run.length ≤ 1000 := by omega
    unfold wordsGo
    by_cases q1 : c ∈ abc
    · have ih := words_loop a0 cs (run ++ [c]) acc (.val (.str [c])) (by simp; omega) (by omega)
      have hg : gIn (.str [c]) (.str abc) = .ok true := by show R.ok (decide (c ∈ abc)) = _; rw [decide_eq_true q1]
      have hb : b_words_of_l1 [a0, .own (.lst (acc.map .str)), .val (.str run), .val (.str [c])] = .ct [a0, .own (.lst (acc.map .str)), .val (.str (run ++ [c])), .val (.str [c])] := by
        unfold b_words_of_l1
        rw [ha]
        generalize abc = AB at *
        generalize acc.map D.str = AD at *
        simp (disch := first | assumption | omega | (simp only [List.length_append, List.length_cons, List.length_nil, List.length_map, List.length_reverse, List.length_replicate, List.length_range, List.length_take, List.length_drop, enD_length, rangeD_length]; omega) | (simp; done) | fail) [decide_eq_true, decide_eq_false, kAsg, kNx, hg]
      have e : forGo (ftOne 3) b_words_of_l1 (chD (c :: cs)) [a0, .own (.lst (acc.map .str)), .val (.str run), y3] = forGo (ftOne 3) b_words_of_l1 (chD cs) [a0, .own (.lst (acc.map .str)), .val (.str (run ++ [c])), .val (.str [c])] := forGo_cons_ct (as := [(3, .str [c])]) rfl hb
      rw [e, if_pos q1]
      exact ih
    · rw [if_neg q1]
      have hg : gIn (.str [c]) (.str abc) = .ok false := by show R.ok (decide (c ∈ abc)) = _; rw [decide_eq_false q1]
      have g1 : gIn (.str [c]) (.str [61, 62, 124, 38, 126]) = .ok (decide (c ∈ sgnL)) := rfl
      have g2 : gIn (.str [c]) (.str [48, 49, 40, 41]) = .ok (decide (c ∈ onesL)) := rfl
      by_cases q2 : 8 < run.length
      · rw [if_pos q2]
        refine ⟨.own (.lst (acc.map .str)), .val (.str run), .val (.str [c]), forGo_cons_exc (as := [(3, .str [c])]) rfl ?_⟩
        have q2' : (8 : Int) < (run.length : Int) := by omega
        show b_words_of_l1 [a0, .own (.lst (acc.map .str)), .val (.str run), .val (.str [c])] = _
        unfold b_words_of_l1
        rw [ha]
        generalize abc = AB at *
        generalize acc.map D.str = AD at *
        simp (disch := first | assumption | omega | (simp only [List.length_append, List.length_cons, List.length_nil, List.length_map, List.length_reverse, List.length_replicate, List.length_range, List.length_take, List.length_drop, enD_length, rangeD_length]; omega) | (simp; done) | fail) [decide_eq_true, decide_eq_false, kAsg, kNx, hg, q2']
      · rw [if_neg q2]
        have q2' : ¬ (8 : Int) < (run.length : Int) := by omega
        obtain ⟨acc', hacc⟩ : ∃ acc', acc' = if run ≠ [] then acc ++ [run] else acc := ⟨_, rfl⟩
        rw [← hacc]
        have hal : acc'.length ≤ acc.length + 1 := by rw [hacc]; split <;> simp
        have hmid : ∀ k : Es, RS.seq (ifS (e2 gNe (eVar 2) (eC (.str []))) (seqS (mutS 1 gAppend (aCons (eFrz 2) aNil) kNx) (asgS (ftOne 2) (eC (.str [])))) skipS [a0, .own (.lst (acc.map .str)), .val (.str run), .val (.str [c])]) k = k [a0, .own (.lst (acc'.map .str)), .val (.str []), .val (.str [c])] := fun k => by
          rw [hacc]
          by_cases q0 : run = []
          · subst q0
            simp only [ne_eq, not_true_eq_false, if_false]
            generalize acc.map D.str = AD at *
            simp (disch := first | assumption | omega | (simp only [List.length_append, List.length_cons, List.length_nil, List.length_map, List.length_reverse, List.length_replicate, List.length_range, List.length_take, List.length_drop, enD_length, rangeD_length]; omega) | (simp; done) | fail) [decide_eq_true, decide_eq_false, kAsg, kNx]
          · rw [if_pos q0, List.map_append]
            simp only [List.map_cons, List.map_nil]
            generalize acc.map D.str = AD at *
            simp (disch := first | assumption | omega | (simp only [List.length_append, List.length_cons, List.length_nil, List.length_map, List.length_reverse, List.length_replicate, List.length_range, List.length_take, List.length_drop, enD_length, rangeD_length]; omega) | (simp; done) | fail) [decide_eq_true, decide_eq_false, kAsg, kNx, q0]
        have hbody : ∀ r : RS, (ifS (tOo (e2 gIn (eVar 3) (eC (.str [61, 62, 124, 38, 126]))) (e2 gIn (eVar 3) (eC (.str [48, 49, 40, 41])))) (mutS 1 gAppend (aCons (eFrz 3) aNil) kNx) (ifS (e2 gNe (eVar 3) (eC (.str [32]))) (raiseS 1) skipS) [a0, .own (.lst (acc'.map .str)), .val (.str []), .val (.str [c])] = r) → b_words_of_l1 [a0, .own (.lst (acc.map .str)), .val (.str run), .val (.str [c])] = r := fun r hr => by
          unfold b_words_of_l1
          rw [ha]
          rw [seqS_eq]
          have s1 : ifS (e2 gIn (eVar 3) (eC (.str abc))) (seqS (augV 2 gAddA (eVar 3)) ctS) skipS [a0, .own (.lst (acc.map .str)), .val (.str run), .val (.str [c])] = .nx [a0, .own (.lst (acc.map .str)), .val (.str run), .val (.str [c])] := by
            generalize abc = AB at *
            generalize acc.map D.str = AD at *
            simp (disch := first | assumption | omega | (simp only [List.length_append, List.length_cons, List.length_nil, List.length_map, List.length_reverse, List.length_replicate, List.length_range, List.length_take, List.length_drop, enD_length, rangeD_length]; omega) | (simp; done) | fail) [decide_eq_true, decide_eq_false, kAsg, kNx, hg]
          rw [s1, seq_nx, seqS_eq]
          have s2 : ifS (e2 (gCmp pGt) (eCall gLen (aCons (eVar 2) aNil)) (eC (.int (8)))) (raiseS 1) skipS [a0, .own (.lst (acc.map .str)), .val (.str run), .val (.str [c])] = .nx [a0, .own (.lst (acc.map .str)), .val (.str run), .val (.str [c])] := by
            generalize acc.map D.str = AD at *
            simp (disch := first | assumption | omega | (simp only [List.length_append, List.length_cons, List.length_nil, List.length_map, List.length_reverse, List.length_replicate, List.length_range, List.length_take, List.length_drop, enD_length, rangeD_length]; omega) | (simp; done) | fail) [decide_eq_true, decide_eq_false, kAsg, kNx, q2']
          rw [s2, seq_nx, seqS_eq, hmid]
          exact hr
        by_cases q3 : c ∈ sgnL ∨ c ∈ onesL
        · rw [if_pos q3]
          have ih := words_loop a0 cs [] (acc' ++ [[c]]) (.val (.str [c])) (by simp; omega) (by simp; omega)
          have hb := hbody (.nx [a0, .own (.lst ((acc' ++ [[c]]).map .str)), .val (.str []), .val (.str [c])]) (by
            have hAl3 : (acc'.map D.str).length ≤ 3001 := by simp at h2 ⊢; omega
            rw [List.map_append]
            simp only [List.map_cons, List.map_nil]
            generalize acc'.map D.str = AD at *
            by_cases p1 : c ∈ sgnL
            · rw [decide_eq_true p1] at g1
              generalize sgnL = S1 at *
              simp (disch := first | assumption | omega | (simp only [List.length_append, List.length_cons, List.length_nil, List.length_map, List.length_reverse, List.length_replicate, List.length_range, List.length_take, List.length_drop, enD_length, rangeD_length]; omega) | (simp; done) | fail) [decide_eq_true, decide_eq_false, kAsg, kNx, g1]
            · rw [decide_eq_false p1] at g1
              have p2 := q3.resolve_left p1
              rw [decide_eq_true p2] at g2
              simp (disch := first | assumption | omega | (simp only [List.length_append, List.length_cons, List.length_nil, List.length_map, List.length_reverse, List.length_replicate, List.length_range, List.length_take, List.length_drop, enD_length, rangeD_length]; omega) | (simp; done) | fail) [decide_eq_true, decide_eq_false, kAsg, kNx, g1, g2])
          have e : forGo (ftOne 3) b_words_of_l1 (chD (c :: cs)) [a0, .own (.lst (acc.map .str)), .val (.str run), y3] = forGo (ftOne 3) b_words_of_l1 (chD cs) [a0, .own (.lst ((acc' ++ [[c]]).map .str)), .val (.str []), .val (.str [c])] := forGo_cons_nx (as := [(3, .str [c])]) rfl hb
          rw [e]
          exact ih
        · rw [if_neg q3]
          have p1 : c ∉ sgnL := fun h => q3 (.inl h)
          have p2 : c ∉ onesL := fun h => q3 (.inr h)
          rw [decide_eq_false p1] at g1
          rw [decide_eq_false p2] at g2
          by_cases q4 : c = 32
          · rw [if_neg (by simpa using q4)]
            have ih := words_loop a0 cs [] acc' (.val (.str [c])) (by simp; omega) (by omega)
            have hb := hbody (.nx [a0, .own (.lst (acc'.map .str)), .val (.str []), .val (.str [c])]) (by
              generalize acc'.map D.str = AD at *
              subst q4
              simp (disch := first | assumption | omega | (simp only [List.length_append, List.length_cons, List.length_nil, List.length_map, List.length_reverse, List.length_replicate, List.length_range, List.length_take, List.length_drop, enD_length, rangeD_length]; omega) | (simp; done) | fail) [decide_eq_true, decide_eq_false, kAsg, kNx, g1, g2])
            have e : forGo (ftOne 3) b_words_of_l1 (chD (c :: cs)) [a0, .own (.lst (acc.map .str)), .val (.str run), y3] = forGo (ftOne 3) b_words_of_l1 (chD cs) [a0, .own (.lst (acc'.map .str)), .val (.str []), .val (.str [c])] := forGo_cons_nx (as := [(3, .str [c])]) rfl hb
            rw [e]
            exact ih
          · rw [if_pos q4]
            have hb := hbody (.exc ⟨1, []⟩ [a0, .own (.lst (acc'.map .str)), .val (.str []), .val (.str [c])]) (by
              generalize acc'.map D.str = AD at *
              simp (disch := first | assumption | omega | (simp only [List.length_append, List.length_cons, List.length_nil, List.length_map, List.length_reverse, List.length_replicate, List.length_range, List.length_take, List.length_drop, enD_length, rangeD_length]; omega) | (simp; done) | fail) [decide_eq_true, decide_eq_false, kAsg, kNx, g1, g2, q4])
            exact ⟨_, _, _, forGo_cons_exc (as := [(3, .str [c])]) rfl hb⟩
end PL
set_option Elab.async false
set_option linter.all false
set_option maxRecDepth 100000
set_option maxHeartbeats 1000000
set_option exponentiation.threshold 20000
namespace PL
set_option autoImplicit false
open PySem L2 PyProof.Rows
def WordsK (f : Fn) : Prop := ∀ text : List Nat, text.length ≤ 300 → f [.val (.str text)] = match wordsF text with
  | some ws => .ok (.val (.lst (ws.map .str))) [.val (.str text)]
  | none => .exc ⟨1, []⟩ [.val (.str text)]
theorem words_ok : WordsK (bodyF 4 1 1 b_words_of) := fun text hl => by
  have h := words_loop (.val (.str text)) (text ++ [32]) [] [] .emp (by simp; omega) (by simp; omega)
  have hch : ((text ++ [32]).map fun c => D.str [c]) = chD (text ++ [32]) := rfl
  have hg : gAdd (.str text) (.str [32]) = .ok (.str (text ++ [32])) := gAdd_ss text [32] (by simp; omega)
  unfold wordsF
  cases e : wordsGo (text ++ [32]) [] [] with
  | none =>
    rw [e] at h
    obtain ⟨x1, x2, x3, h⟩ := h
    simp only [List.map_nil] at h
    unfold b_words_of
    generalize b_words_of_l1 = L1 at *
    generalize chD (text ++ [32]) = CD at *
    generalize text ++ [32] = TX at *
    simp (disch := first | assumption | omega | (simp only [List.length_append, List.length_cons, List.length_nil, List.length_map, List.length_reverse, List.length_replicate, List.length_range, List.length_take, List.length_drop, enD_length, rangeD_length]; omega) | (simp; done) | fail) [decide_eq_true, decide_eq_false, kAsg, kNx, hg, hch, h]
  | some ws =>
    rw [e] at h
    obtain ⟨x2, x3, h⟩ := h
    simp only [List.map_nil] at h
    show _ = RF.ok (.val (.lst (ws.map .str))) [.val (.str text)]
    unfold b_words_of
    generalize b_words_of_l1 = L1 at *
    generalize chD (text ++ [32]) = CD at *
    generalize text ++ [32] = TX at *
    generalize ws.map D.str = WS at *
    simp (disch := first | assumption | omega | (simp only [List.length_append, List.length_cons, List.length_nil, List.length_map, List.length_reverse, List.length_replicate, List.length_range, List.length_take, List.length_drop, enD_length, rangeD_length]; omega) | (simp; done) | fail) [decide_eq_true, decide_eq_false, kAsg, kNx, hg, hch, h]
/-- every word is there, and short -/
theorem wordsGo_short : ∀ (cs run : List Nat) (acc ws : List (List Nat)), wordsGo cs run acc = some ws → (∀ w ∈ acc, w ≠ [] ∧ w.length ≤ 8) → ∀ w ∈ ws, w ≠ [] ∧ w.length ≤ 8
  | [], run, acc, ws, h, ha => by
    unfold wordsGo at h
    cases h
    exact ha
  | c :: cs, run, acc, ws, h, ha => by
    unfold wordsGo at h
    split at h
    · exact wordsGo_short cs _ acc ws h ha
    · split at h
      · cases h
      next q =>
        have ha' : ∀ w ∈ (if run ≠ [] then acc ++ [run] else acc), w ≠ [] ∧ w.length ≤ 8 := fun w hw => by
          split at hw
          next q0 =>
            rcases List.mem_append.mp hw with hw | hw
            · exact ha w hw
            · have : w = run := by simpa using hw
              subst this
              exact ⟨q0, by omega⟩
          · exact ha w hw
        split at h
        · refine wordsGo_short cs _ _ ws h fun w hw => ?_
          rcases List.mem_append.mp hw with hw | hw
          · exact ha' w hw
          · have : w = [c] := by simpa using hw
            subst this
            simp
        · split at h
          · cases h
          · exact wordsGo_short cs _ _ ws h ha'
theorem wordsGo_len : ∀ (cs run : List Nat) (acc ws : List (List Nat)), wordsGo cs run acc = some ws → ws.length ≤ acc.length + 2 * cs.length
  | [], run, acc, ws, h => by
    unfold wordsGo at h
    cases h
    simp
  | c :: cs, run, acc, ws, h => by
    unfold wordsGo at h
    have hl : (if run ≠ [] then acc ++ [run] else acc).length ≤ acc.length + 1 := by split <;> simp
    generalize (if run ≠ [] then acc ++ [run] else acc) = A at *
    simp only [List.length_cons]
    split at h
    · have := wordsGo_len cs _ _ ws h; omega
    · split at h
      · cases h
      · split at h
        · have := wordsGo_len cs _ _ ws h
          rw [List.length_append] at this
          simp only [List.length_cons, List.length_nil] at this
          omega
        · split at h
          · cases h
          · have := wordsGo_len cs _ _ ws h; omega
def stepR (w : List Nat) (b : Bool) (dn : List (T × Nat)) (wt : List Nat) : Option (Bool × List (T × Nat) × List Nat) := if b = true then begunF w dn wt else goneF w dn wt
def runF : List (List Nat) → Bool → List (T × Nat) → List Nat → Option (Bool × List (T × Nat) × List Nat)
  | [], b, dn, wt => some (b, dn, wt)
  | w :: ws, b, dn, wt => (stepR w b dn wt).bind fun x => runF ws x.1 x.2.1 x.2.2
def oneB (b : Bool) : Nat := if b = true then 0 else 1
theorem popW_head {p : Nat → Bool} : ∀ (wt : List Nat) (dn : List (T × Nat)) {c : Nat} {r : List Nat}, (popW p dn wt).2 = c :: r → p c = false
  | [], dn, c, r, h => by simp [popW] at h
  | a :: wt, dn, c, r, h => by
    unfold popW at h
    split at h
    · exact popW_head wt _ h
    next q =>
      simp only [List.cons.injEq] at h
      rw [← h.1]; simpa using q
theorem popW_dn (p : Nat → Bool) (hp : p 40 = false) : ∀ (wt : List Nat) (dn : List (T × Nat)), Bal 1 dn wt → (popW p dn wt).1.length ≤ dn.length
  | [], dn, _ => by simp [popW]
  | c :: wt, dn, h => by
    unfold popW
    split
    next q =>
      obtain ⟨fo, hb⟩ := bal_fold h fun e => by rw [e, hp] at q; cases q
      have := popW_dn p hp wt _ hb
      have h2 := foldF_len fo
      omega
    next => simp
theorem step_bal {w : List Nat} {b b' : Bool} {dn dn' : List (T × Nat)} {wt wt' : List Nat} (h : Bal (oneB b) dn wt) (e : stepR w b dn wt = some (b', dn', wt')) : Bal (oneB b') dn' wt' ∧ dn'.length ≤ dn.length + 1 ∧ wt'.length ≤ wt.length + 1 := by
  unfold stepR at e
  cases b with
  | true =>
    simp only [if_true] at e
    obtain ⟨h1, h2⟩ := h
    have h2 : dn.length = nbin wt + 0 := h2
    unfold begunF at e
    split at e
    · cases e
      exact ⟨⟨fun c hc => by rcases List.mem_cons.mp hc with rfl | hc; rfl; exact h1 c hc, by simpa [nbin, binS, oneB] using h2⟩, by omega, by simp⟩
    · split at e
      · cases e
        exact ⟨⟨fun c hc => by rcases List.mem_cons.mp hc with rfl | hc; rfl; exact h1 c hc, by simpa [nbin, binS, oneB] using h2⟩, by omega, by simp⟩
      · obtain ⟨t, _, e⟩ := Option.map_eq_some_iff.mp e
        cases e
        exact ⟨⟨h1, by simp [oneB]; omega⟩, by simp, by omega⟩
  | false =>
    simp only [Bool.false_eq_true, if_false] at e
    have h : Bal 1 dn wt := h
    unfold goneF at e
    split at e
    · have hb := popW_bal (p := fun c => decide (c ≠ 40)) (by decide) wt dn h
      have hd := popW_dn (fun c => decide (c ≠ 40)) (by decide) wt dn h
      have hl := popW_len (fun c => decide (c ≠ 40)) wt dn
      cases e2 : (popW (fun c => decide (c ≠ 40)) dn wt).2 with
      | nil => rw [e2] at e; cases e
      | cons c r =>
        rw [e2] at e hb hl
        cases e
        have hc := popW_head wt dn e2
        have hc : c = 40 := by simpa using hc
        subst hc
        obtain ⟨b1, b2⟩ := hb
        exact ⟨⟨fun x hx => b1 x (by simp [hx]), by simpa [nbin, binS, oneB] using b2⟩, by omega, by simp at hl; omega⟩
    · rcases w with _ | ⟨c, _ | ⟨c2, r⟩⟩
      · cases e
      · unfold signF at e
        simp only at e
        split at e
        next hc =>
          cases e
          have hb := popW_bal (p := gf c) rfl wt dn h
          have hd := popW_dn (gf c) rfl wt dn h
          have hl := popW_len (gf c) wt dn
          obtain ⟨b1, b2⟩ := hb
          refine ⟨⟨fun x hx => ?_, ?_⟩, by omega, by simp; omega⟩
          · rcases List.mem_cons.mp hx with rfl | hx
            · simp [waitS, hc]
            · exact b1 x hx
          · show _ = nbin (c :: _) + 0
            simp [nbin, hc] at b2 ⊢
            omega
        next => cases e
      · cases e
theorem read_loop {fw fb fg ff : Fn} (hb : BegunK fb) (hg : GoneK fg) (a0 : Sl) : ∀ (ws : List (List Nat)) (b : Bool) (dn : List (T × Nat)) (wt : List Nat) (y4 : Sl), (∀ w ∈ ws, w ≠ [] ∧ w.length ≤ 8) → Bal (oneB b) dn wt → dn.length + ws.length ≤ 800 → wt.length + ws.length ≤ 800 →
    match runF ws b dn wt with
    | some (b', dn', wt') => (Bal (oneB b') dn' wt' ∧ dn'.length ≤ 800 ∧ wt'.length ≤ 800) ∧ ∃ z4, forGo (ftOne 4) (b_read_l1 fw fb fg ff) (ws.map D.str) [a0, .own (.lst (dnD dn)), .own (.lst (wtD wt)), .val (.bl b), y4, .emp, .emp, .emp] = .nx [a0, .own (.lst (dnD dn')), .own (.lst (wtD wt')), .val (.bl b'), z4, .emp, .emp, .emp]
    | none => ∃ x1 x2 x3 x4, forGo (ftOne 4) (b_read_l1 fw fb fg ff) (ws.map D.str) [a0, .own (.lst (dnD dn)), .own (.lst (wtD wt)), .val (.bl b), y4, .emp, .emp, .emp] = .exc ⟨1, []⟩ [a0, x1, x2, x3, x4, .emp, .emp, .emp]
  | [], b, dn, wt, y4, _, h, h1, h2 => ⟨⟨h, by simpa using h1, by simpa using h2⟩, _, rfl⟩
  | w :: ws, b, dn, wt, y4, hw, h, h1, h2 => by
    obtain ⟨w1, w2⟩ := hw w (by simp)
    simp only [List.length_cons] at h1 h2
    unfold runF
    have hstep : match stepR w b dn wt with
        | some (b', dn', wt') => b_read_l1 fw fb fg ff [a0, .own (.lst (dnD dn)), .own (.lst (wtD wt)), .val (.bl b), .val (.str w), .emp, .emp, .emp] = .nx [a0, .own (.lst (dnD dn')), .own (.lst (wtD wt')), .val (.bl b'), .val (.str w), .emp, .emp, .emp]
        | none => ∃ x1 x2, b_read_l1 fw fb fg ff [a0, .own (.lst (dnD dn)), .own (.lst (wtD wt)), .val (.bl b), .val (.str w), .emp, .emp, .emp] = .exc ⟨1, []⟩ [a0, x1, x2, .val (.bl b), .val (.str w), .emp, .emp, .emp] := by
      unfold stepR
      cases b with
      | true =>
        simp only [if_true]
        have q := hb w dn wt w1 (by omega) (by omega) (by omega)
        cases e : begunF w dn wt with
        | none =>
          rw [e] at q
          simp only [outR] at q
          refine ⟨.own (.lst (dnD dn)), .own (.lst (wtD wt)), ?_⟩
          generalize dnD dn = DD at *
          generalize wtD wt = WD at *
          simp (disch := first | assumption | omega | (simp only [List.length_append, List.length_cons, List.length_nil, List.length_map, List.length_reverse, List.length_replicate, List.length_range, List.length_take, List.length_drop, enD_length, rangeD_length]; omega) | (simp; done) | fail) [decide_eq_true, decide_eq_false, kAsg, kNx, b_read_l1, q]
        | some x =>
          obtain ⟨b', dn', wt'⟩ := x
          rw [e] at q
          simp only [outR] at q
          show b_read_l1 fw fb fg ff [a0, .own (.lst (dnD dn)), .own (.lst (wtD wt)), .val (.bl true), .val (.str w), .emp, .emp, .emp] = .nx [a0, .own (.lst (dnD dn')), .own (.lst (wtD wt')), .val (.bl b'), .val (.str w), .emp, .emp, .emp]
          generalize dnD dn = DD at *
          generalize wtD wt = WD at *
          generalize dnD dn' = DD' at *
          generalize wtD wt' = WD' at *
          simp (disch := first | assumption | omega | (simp only [List.length_append, List.length_cons, List.length_nil, List.length_map, List.length_reverse, List.length_replicate, List.length_range, List.length_take, List.length_drop, enD_length, rangeD_length]; omega) | (simp; done) | fail) [decide_eq_true, decide_eq_false, kAsg, kNx, b_read_l1, q]
      | false =>
        simp only [Bool.false_eq_true, if_false]
        have q := hg w dn wt h (by omega) (by omega)
        cases e : goneF w dn wt with
        | none =>
          rw [e] at q
          obtain ⟨dn', wt', q⟩ := q
          refine ⟨.own (.lst (dnD dn')), .own (.lst (wtD wt')), ?_⟩
          generalize dnD dn = DD at *
          generalize wtD wt = WD at *
          generalize dnD dn' = DD' at *
          generalize wtD wt' = WD' at *
          simp (disch := first | assumption | omega | (simp only [List.length_append, List.length_cons, List.length_nil, List.length_map, List.length_reverse, List.length_replicate, List.length_range, List.length_take, List.length_drop, enD_length, rangeD_length]; omega) | (simp; done) | fail) [decide_eq_true, decide_eq_false, kAsg, kNx, b_read_l1, q]
        | some x =>
          obtain ⟨b', dn', wt'⟩ := x
          rw [e] at q
          have q : fg [.val (.str w), .own (.lst (dnD dn)), .own (.lst (wtD wt))] = .ok (.val (.bl b')) [.val (.str w), .own (.lst (dnD dn')), .own (.lst (wtD wt'))] := q
          show b_read_l1 fw fb fg ff [a0, .own (.lst (dnD dn)), .own (.lst (wtD wt)), .val (.bl false), .val (.str w), .emp, .emp, .emp] = .nx [a0, .own (.lst (dnD dn')), .own (.lst (wtD wt')), .val (.bl b'), .val (.str w), .emp, .emp, .emp]
          generalize dnD dn = DD at *
          generalize wtD wt = WD at *
          generalize dnD dn' = DD' at *
          generalize wtD wt' = WD' at *
          simp (disch := first | assumption | omega | (simp only [List.length_append, List.length_cons, List.length_nil, List.length_map, List.length_reverse, List.length_replicate, List.length_range, List.length_take, List.length_drop, enD_length, rangeD_length]; omega) | (simp; done) | fail) [decide_eq_true, decide_eq_false, kAsg, kNx, b_read_l1, q]
    cases e : stepR w b dn wt with
    | none =>
      rw [e] at hstep
      obtain ⟨x1, x2, q⟩ := hstep
      exact ⟨x1, x2, _, _, forGo_cons_exc (as := [(4, .str w)]) rfl q⟩
    | some x =>
      obtain ⟨b', dn', wt'⟩ := x
      rw [e] at hstep
      obtain ⟨k1, k2, k3⟩ := step_bal h e
      have ih := read_loop (fw := fw) (ff := ff) hb hg a0 ws b' dn' wt' (.val (.str w)) (fun v hv => hw v (by simp [hv])) k1 (by omega) (by omega)
      have e3 : forGo (ftOne 4) (b_read_l1 fw fb fg ff) ((w :: ws).map D.str) [a0, .own (.lst (dnD dn)), .own (.lst (wtD wt)), .val (.bl b), y4, .emp, .emp, .emp] = forGo (ftOne 4) (b_read_l1 fw fb fg ff) (ws.map D.str) [a0, .own (.lst (dnD dn')), .own (.lst (wtD wt')), .val (.bl b'), .val (.str w), .emp, .emp, .emp] := forGo_cons_nx (as := [(4, .str w)]) rfl hstep
      rw [e3]
      exact ih
end PL
set_option Elab.async false
set_option linter.all false
set_option maxRecDepth 100000
set_option maxHeartbeats 1000000
set_option exponentiation.threshold 20000
namespace PL
set_option autoImplicit false
open PySem L2 PyProof.Rows
/-- what waits at the end -/
def endF : List Nat → List (T × Nat) → Option (List (T × Nat))
  | [], dn => some dn
  | c :: wt, dn => if c = 40 then none else endF wt (foldF c dn)
inductive Rd where
  | tree (t : T) | bad | deep
  deriving DecidableEq
def lastF : Option (List (T × Nat)) → Rd
  | some [(t, d)] => if 40 < d then .deep else .tree t
  | _ => .bad
def finF : Option (Bool × List (T × Nat) × List Nat) → Rd
  | some (false, dn, wt) => lastF (endF wt dn)
  | _ => .bad
def readW (ws : List (List Nat)) : Rd := finF (runF ws true [] [])
def readF (text : List Nat) : Rd := if 200 < text.length then .bad else match wordsF text with
  | none => .bad
  | some ws => readW ws
def rdOut (a : List Sl) : Rd → RF
  | .tree t => .ok (.val t.toD) a
  | .bad => .exc ⟨1, []⟩ a
  | .deep => .exc ⟨2, []⟩ a
def ReadK (f : Fn) : Prop := ∀ text : List Nat, text.length ≤ 100000 → f [.val (.str text)] = rdOut [.val (.str text)] (readF text)
theorem while_false {fc : Ev Bool} {fb : Es} {n : Nat} {ρ : List Sl} (h : fc ρ = .ok false) : whileS fc fb (n + 1) ρ = .nx ρ := by
  show tryE ρ (fc ρ) _ = _
  rw [h]; rfl
theorem while_true {fc : Ev Bool} {fb : Es} {n : Nat} {ρ : List Sl} (h : fc ρ = .ok true) : whileS fc fb (n + 1) ρ = (match fb ρ with
        | .nx ρ' => whileS fc fb n ρ'
        | .ct ρ' => whileS fc fb n ρ'
        | .bk ρ' => .nx ρ'
        | r => r) := by
  show tryE ρ (fc ρ) _ = _
  rw [h]; rfl
theorem end_loop {fw fb fg ff : Fn} (hf : FoldK ff) (a0 : Sl) : ∀ (n : Nat) (wt : List Nat) (dn : List (T × Nat)) (x3 x4 x5 : Sl), Bal 1 dn wt → dn.length ≤ 900 → wt.length ≤ 900 → wt.length < n →
    match endF wt dn with
    | some dn' => dn'.length = 1 ∧ ∃ z5, whileS (e2 gNe (eVar 2) (eLst aNil)) (b_read_l2 fw fb fg ff) n [a0, .own (.lst (dnD dn)), .own (.lst (wtD wt)), x3, x4, x5, .emp, .emp] = .nx [a0, .own (.lst (dnD dn')), .own (.lst (wtD [])), x3, x4, z5, .emp, .emp]
    | none => ∃ x1 x2 z5, whileS (e2 gNe (eVar 2) (eLst aNil)) (b_read_l2 fw fb fg ff) n [a0, .own (.lst (dnD dn)), .own (.lst (wtD wt)), x3, x4, x5, .emp, .emp] = .exc ⟨1, []⟩ [a0, x1, x2, x3, x4, z5, .emp, .emp]
  | 0, wt, dn, x3, x4, x5, _, _, _, h => absurd h (by omega)
  | n + 1, [], dn, x3, x4, x5, hb, hd, hw, h => by
    have hn := wt_ne hb.1
    simp only [ne_eq, not_true_eq_false, decide_false] at hn
    have hc : (e2 gNe (eVar 2) (eLst aNil)) [a0, .own (.lst (dnD dn)), .own (.lst (wtD [])), x3, x4, x5, .emp, .emp] = R.ok false := by
      generalize wtD [] = W0' at *
      generalize dnD dn = DD at *
      simp (disch := first | assumption | omega | (simp only [List.length_append, List.length_cons, List.length_nil, List.length_map, List.length_reverse, List.length_replicate, List.length_range, List.length_take, List.length_drop, enD_length, rangeD_length]; omega) | (simp; done) | fail) [decide_eq_true, decide_eq_false, kAsg, kNx, hn]
    exact ⟨by have := hb.2; simpa [nbin] using this, x5, while_false hc⟩
  | n + 1, c :: wt, dn, x3, x4, x5, hb, hd, hw, h => by
    have hn := wt_ne hb.1
    simp only [ne_eq, reduceCtorEq, not_false_eq_true, decide_true] at hn
    have hc : (e2 gNe (eVar 2) (eLst aNil)) [a0, .own (.lst (dnD dn)), .own (.lst (wtD (c :: wt))), x3, x4, x5, .emp, .emp] = R.ok true := by
      generalize wtD (c :: wt) = W0' at *
      generalize dnD dn = DD at *
      simp (disch := first | assumption | omega | (simp only [List.length_append, List.length_cons, List.length_nil, List.length_map, List.length_reverse, List.length_replicate, List.length_range, List.length_take, List.length_drop, enD_length, rangeD_length]; omega) | (simp; done) | fail) [decide_eq_true, decide_eq_false, kAsg, kNx, hn]
    have hun : ∀ r, whileS (e2 gNe (eVar 2) (eLst aNil)) (b_read_l2 fw fb fg ff) (n + 1) [a0, .own (.lst (dnD dn)), .own (.lst (wtD (c :: wt))), x3, x4, x5, .emp, .emp] = r ↔ (match b_read_l2 fw fb fg ff [a0, .own (.lst (dnD dn)), .own (.lst (wtD (c :: wt))), x3, x4, x5, .emp, .emp] with
        | .nx ρ' => whileS (e2 gNe (eVar 2) (eLst aNil)) (b_read_l2 fw fb fg ff) n ρ'
        | .ct ρ' => whileS (e2 gNe (eVar 2) (eLst aNil)) (b_read_l2 fw fb fg ff) n ρ'
        | .bk ρ' => .nx ρ'
        | r => r) = r := fun r => by rw [while_true hc]
    by_cases h40 : c = 40
    · subst h40
      have e : endF (40 :: wt) dn = none := if_pos rfl
      rw [e]
      have hbody : b_read_l2 fw fb fg ff [a0, .own (.lst (dnD dn)), .own (.lst (wtD (40 :: wt))), x3, x4, x5, .emp, .emp] = .exc ⟨1, []⟩ [a0, .own (.lst (dnD dn)), .own (.lst (wtD wt)), x3, x4, .val (.str [40]), .emp, .emp] := by
        rw [wtD_cons]
        clear hun hc hn
        generalize dnD dn = DD at *
        generalize wtD wt = WD at *
        simp (disch := first | assumption | omega | (simp only [List.length_append, List.length_cons, List.length_nil, List.length_map, List.length_reverse, List.length_replicate, List.length_range, List.length_take, List.length_drop, enD_length, rangeD_length]; omega) | (simp; done) | fail) [decide_eq_true, decide_eq_false, kAsg, kNx, b_read_l2]
      refine ⟨.own (.lst (dnD dn)), .own (.lst (wtD wt)), .val (.str [40]), (hun _).mpr ?_⟩
      rw [hbody]
    · have e : endF (c :: wt) dn = endF wt (foldF c dn) := if_neg h40
      rw [e]
      obtain ⟨fo, hb'⟩ := bal_fold hb h40
      have h2 := hf c dn fo (by omega)
      have hl := foldF_len fo
      have hd' : (foldF c dn).length ≤ 900 := by split at hl <;> omega
      have ih := end_loop (fw := fw) (fb := fb) (fg := fg) hf a0 n wt (foldF c dn) x3 x4 (.val (.str [c])) hb' hd' (by simp at hw; omega) (by simp at h; omega)
      have hbody : b_read_l2 fw fb fg ff [a0, .own (.lst (dnD dn)), .own (.lst (wtD (c :: wt))), x3, x4, x5, .emp, .emp] = .nx [a0, .own (.lst (dnD (foldF c dn))), .own (.lst (wtD wt)), x3, x4, .val (.str [c]), .emp, .emp] := by
        rw [wtD_cons]
        clear hun hc hn ih hl
        generalize dnD (foldF c dn) = D2 at *
        generalize dnD dn = DD at *
        generalize wtD wt = WD at *
        simp (disch := first | assumption | omega | (simp only [List.length_append, List.length_cons, List.length_nil, List.length_map, List.length_reverse, List.length_replicate, List.length_range, List.length_take, List.length_drop, enD_length, rangeD_length]; omega) | (simp; done) | fail) [decide_eq_true, decide_eq_false, kAsg, kNx, b_read_l2, h40, h2]
      cases e2' : endF wt (foldF c dn) with
      | none =>
        rw [e2'] at ih
        obtain ⟨x1, x2, z5, q⟩ := ih
        refine ⟨x1, x2, z5, (hun _).mpr ?_⟩
        rw [hbody]
        exact q
      | some dn' =>
        rw [e2'] at ih
        obtain ⟨q0, z5, q⟩ := ih
        refine ⟨q0, z5, (hun _).mpr ?_⟩
        rw [hbody]
        exact q
theorem read_ok {fw fb fg ff : Fn} (hw : WordsK fw) (hb : BegunK fb) (hg : GoneK fg) (hf : FoldK ff) : ReadK (bodyF 8 1 1 (b_read fw fb fg ff)) := fun text hl => by
  unfold readF
  by_cases h200 : 200 < text.length
  · rw [if_pos h200]
    have h' : (200 : Int) < (text.length : Int) := by omega
    unfold rdOut
    simp (disch := first | assumption | omega | (simp only [List.length_append, List.length_cons, List.length_nil, List.length_map, List.length_reverse, List.length_replicate, List.length_range, List.length_take, List.length_drop, enD_length, rangeD_length]; omega) | (simp; done) | fail) [decide_eq_true, decide_eq_false, kAsg, kNx, b_read, h']
  · rw [if_neg h200]
    have h' : ¬ (200 : Int) < (text.length : Int) := by omega
    have q1 := hw text (by omega)
    cases ew : wordsF text with
    | none =>
      rw [ew] at q1
      simp only [rdOut]
      simp (disch := first | assumption | omega | (simp only [List.length_append, List.length_cons, List.length_nil, List.length_map, List.length_reverse, List.length_replicate, List.length_range, List.length_take, List.length_drop, enD_length, rangeD_length]; omega) | (simp; done) | fail) [decide_eq_true, decide_eq_false, kAsg, kNx, b_read, h', q1]
    | some ws =>
      rw [ew] at q1
      have q1 : fw [.val (.str text)] = .ok (.val (.lst (ws.map .str))) [.val (.str text)] := q1
      have hsh := wordsGo_short _ _ _ _ ew (fun w hw => by cases hw)
      have hwl : ws.length ≤ 402 := by have := wordsGo_len _ _ _ _ ew; simp at this; omega
      have hlp := read_loop (fw := fw) (ff := ff) hb hg (.val (.str text)) ws true [] [] .emp hsh ⟨(fun c hc => by cases hc), rfl⟩ (by simp; omega) (by simp; omega)
      have n1 : dnD [] = [] := rfl
      have n2 : wtD [] = [] := rfl
      rw [n1, n2] at hlp
      show _ = rdOut _ (finF (runF ws true [] []))
      cases er : runF ws true [] [] with
      | none =>
        rw [er] at hlp
        obtain ⟨x1, x2, x3, x4, hlp⟩ := hlp
        simp only [finF, rdOut]
        generalize ws.map D.str = WS at *
        unfold b_read
        generalize b_read_l1 fw fb fg ff = L1 at *
        generalize b_read_l2 fw fb fg ff = L2' at *
        simp (disch := first | assumption | omega | (simp only [List.length_append, List.length_cons, List.length_nil, List.length_map, List.length_reverse, List.length_replicate, List.length_range, List.length_take, List.length_drop, enD_length, rangeD_length]; omega) | (simp; done) | fail) [decide_eq_true, decide_eq_false, kAsg, kNx, h', q1, hlp]
      | some x =>
        obtain ⟨b', dn', wt'⟩ := x
        rw [er] at hlp
        obtain ⟨⟨hbal, hd, hwt⟩, z4, hlp⟩ := hlp
        cases b' with
        | true =>
          simp only [finF, rdOut]
          generalize ws.map D.str = WS at *
          unfold b_read
          generalize b_read_l1 fw fb fg ff = L1 at *
          generalize b_read_l2 fw fb fg ff = L2' at *
          generalize dnD dn' = DD at *
          generalize wtD wt' = WD at *
          simp (disch := first | assumption | omega | (simp only [List.length_append, List.length_cons, List.length_nil, List.length_map, List.length_reverse, List.length_replicate, List.length_range, List.length_take, List.length_drop, enD_length, rangeD_length]; omega) | (simp; done) | fail) [decide_eq_true, decide_eq_false, kAsg, kNx, h', q1, hlp]
        | false =>
          have hend := end_loop (fw := fw) (fb := fb) (fg := fg) hf (.val (.str text)) 1000000 wt' dn' (.val (.bl false)) z4 .emp hbal (by omega) (by omega) (by omega)
          show _ = rdOut _ (lastF (endF wt' dn'))
          cases ee : endF wt' dn' with
          | none =>
            rw [ee] at hend
            obtain ⟨x1, x2, z5, hend⟩ := hend
            simp only [lastF, rdOut]
            generalize ws.map D.str = WS at *
            unfold b_read
            generalize b_read_l1 fw fb fg ff = L1 at *
            generalize b_read_l2 fw fb fg ff = L2' at *
            generalize dnD dn' = DD at *
            generalize wtD wt' = WD at *
            generalize hCB : (e2 gNe (eVar 2) (eLst aNil) : Ev Bool) = CB at *
            simp (disch := first | assumption | omega | (simp only [List.length_append, List.length_cons, List.length_nil, List.length_map, List.length_reverse, List.length_replicate, List.length_range, List.length_take, List.length_drop, enD_length, rangeD_length]; omega) | (simp; done) | fail) [decide_eq_true, decide_eq_false, kAsg, kNx, h', q1, hlp, hend]
          | some dn'' =>
            rw [ee] at hend
            obtain ⟨h1, z5, hend⟩ := hend
            match dn'', h1 with
            | [(t, d)], _ =>
              have hD : dnD [(t, d)] = [.tup [t.toD, .int (d : Nat)]] := rfl
              rw [hD, n2] at hend
              simp only [lastF]
              generalize ws.map D.str = WS at *
              unfold b_read
              generalize b_read_l1 fw fb fg ff = L1 at *
              generalize b_read_l2 fw fb fg ff = L2' at *
              generalize dnD dn' = DD at *
              generalize wtD wt' = WD at *
              generalize hCB : (e2 gNe (eVar 2) (eLst aNil) : Ev Bool) = CB at *
              by_cases hdp : 40 < d
              · rw [if_pos hdp]
                have hdp' : (40 : Int) < (d : Int) := by omega
                simp only [rdOut]
                generalize t.toD = TD at *
                simp (disch := first | assumption | omega | (simp only [List.length_append, List.length_cons, List.length_nil, List.length_map, List.length_reverse, List.length_replicate, List.length_range, List.length_take, List.length_drop, enD_length, rangeD_length]; omega) | (simp; done) | fail) [decide_eq_true, decide_eq_false, kAsg, kNx, h', q1, hlp, hend, hdp']
              · rw [if_neg hdp]
                have hdp' : ¬ (40 : Int) < (d : Int) := by omega
                simp only [rdOut]
                generalize t.toD = TD at *
                simp (disch := first | assumption | omega | (simp only [List.length_append, List.length_cons, List.length_nil, List.length_map, List.length_reverse, List.length_replicate, List.length_range, List.length_take, List.length_drop, enD_length, rangeD_length]; omega) | (simp; done) | fail) [decide_eq_true, decide_eq_false, kAsg, kNx, h', q1, hlp, hend, hdp']
end PL
set_option Elab.async false
set_option linter.all false
set_option maxRecDepth 100000
set_option maxHeartbeats 1000000
set_option exponentiation.threshold 20000
namespace PL
set_option autoImplicit false
open PySem L2 PyProof.Rows
/-- how strongly the parts of a sign must bind -/
def leftS (k : K4) : Nat := if k = .th then 3 else k.st
def rightS (k : K4) : Nat := if k = .th then 2 else k.st + 1
/-- the words ws write t, all signs outside of brackets at least p strong -/
inductive E : Nat → List (List Nat) → T → Prop
  | leaf (w : List Nat) (t : T) : leafF w = some t → t.depth = 1 → E 5 [w] t
  | nt {ws : List (List Nat)} {t : T} : E 5 ws t → E 5 ([126] :: ws) (.nt t)
  | br {ws : List (List Nat)} {t : T} : E 1 ws t → E 5 ([40] :: (ws ++ [[41]])) t
  | bin (k : K4) {w1 w2 : List (List Nat)} {t1 t2 : T} : E (leftS k) w1 t1 → E (rightS k) w2 t2 → E k.st (w1 ++ [k.sign] :: w2) (.bin k t1 t2)
  | up {p : Nat} {ws : List (List Nat)} {t : T} : E (p + 1) ws t → E p ws t
def foldAll (pend : List Nat) (dn : List (T × Nat)) : List (T × Nat) := pend.foldl (fun dn c => foldF c dn) dn
/-- no sign of strength p or more takes what waits on top -/
def Keeps (p : Nat) (wt : List Nat) : Prop := ∀ (c : Nat) (r : List Nat), wt = c :: r → ∀ k : K4, p ≤ k.st → gf k.sign c = false
theorem Keeps.mono {p q : Nat} {wt : List Nat} (h : Keeps p wt) (hpq : p ≤ q) : Keeps q wt := fun c r e k hk => h c r e k (by omega)
theorem sign_bin (k : K4) : binS k.sign = true := by cases k <;> rfl
theorem sign_idx (k : K4) : sIdx k.sign + 1 = k.st := by cases k <;> rfl
theorem sign_k (k : K4) : kSg k.sign = k := by cases k <;> rfl
theorem sign_62 (k : K4) : k.sign = 62 ↔ k = .th := by cases k <;> simp [K4.sign]
theorem runF_app (w1 : List (List Nat)) : ∀ (w2 : List (List Nat)) (b : Bool) (dn : List (T × Nat)) (wt : List Nat), runF (w1 ++ w2) b dn wt = (runF w1 b dn wt).bind fun x => runF w2 x.1 x.2.1 x.2.2 := by
  induction w1 with
  | nil => intro w2 b dn wt; rfl
  | cons w w1 ih =>
    intro w2 b dn wt
    show (stepR w b dn wt).bind (fun x => runF (w1 ++ w2) x.1 x.2.1 x.2.2) = ((stepR w b dn wt).bind fun x => runF w1 x.1 x.2.1 x.2.2).bind _
    cases stepR w b dn wt with
    | none => rfl
    | some x => exact ih w2 x.1 x.2.1 x.2.2
theorem popW_all {p : Nat → Bool} : ∀ (pend : List Nat) (dn : List (T × Nat)) (wt : List Nat), (∀ c ∈ pend, p c = true) → popW p dn (pend ++ wt) = popW p (foldAll pend dn) wt
  | [], dn, wt, _ => rfl
  | c :: pend, dn, wt, h => by
    have e : popW p dn (c :: (pend ++ wt)) = popW p (foldF c dn) (pend ++ wt) := if_pos (h c (by simp))
    show popW p dn (c :: (pend ++ wt)) = popW p (foldAll pend (foldF c dn)) wt
    rw [e, popW_all pend (foldF c dn) wt fun x hx => h x (by simp [hx])]
theorem popW_stop {p : Nat → Bool} {dn : List (T × Nat)} {wt : List Nat} (h : ∀ c r, wt = c :: r → p c = false) : popW p dn wt = (dn, wt) := by
  cases wt with
  | nil => rfl
  | cons c r =>
    have := h c r rfl
    unfold popW
    rw [if_neg (by simp [this])]
theorem foldAll_snoc (pend : List Nat) (c : Nat) (dn : List (T × Nat)) : foldAll (pend ++ [c]) dn = foldF c (foldAll pend dn) := by simp [foldAll, List.foldl_append]
theorem leaf_not {w : List Nat} {t : T} (h : leafF w = some t) : w ≠ [126] ∧ w ≠ [40] := by
  refine ⟨fun e => ?_, fun e => ?_⟩ <;> (subst e; revert h; simp [leafF, abc])
theorem E.run {p : Nat} {ws : List (List Nat)} {t : T} (h : E p ws t) : ∀ (dn : List (T × Nat)) (wt : List Nat), Keeps p wt →
    ∃ (dn' : List (T × Nat)) (pend : List Nat), runF ws true dn wt = some (false, dn', pend ++ wt) ∧ (∀ c ∈ pend, c ≠ 40 ∧ p ≤ sIdx c + 1) ∧ foldAll pend dn' = (t, t.depth) :: dn := by
  induction h with
  | leaf w t h hd =>
    intro dn wt _
    obtain ⟨n1, n2⟩ := leaf_not h
    refine ⟨(t, 1) :: dn, [], ?_, (fun c hc => by cases hc), by rw [hd]; rfl⟩
    show (stepR w true dn wt).bind _ = _
    have e : stepR w true dn wt = some (false, (t, 1) :: dn, wt) := by
      show begunF w dn wt = _
      unfold begunF
      rw [if_neg n1, if_neg n2, h]; rfl
    rw [e]; rfl
  | @nt ws t _ ih =>
    intro dn wt _
    obtain ⟨dn', pend, h1, h2, h3⟩ := ih dn (126 :: wt) fun c r _ k hk => by cases k <;> simp [K4.st] at hk
    refine ⟨dn', pend ++ [126], ?_, fun c hc => ?_, ?_⟩
    · show (stepR [126] true dn wt).bind (fun x => runF ws x.1 x.2.1 x.2.2) = _
      have e : stepR [126] true dn wt = some (true, dn, 126 :: wt) := by
        show begunF [126] dn wt = _
        unfold begunF
        rw [if_pos rfl]
      rw [e]
      show runF ws true dn (126 :: wt) = _
      rw [h1]; simp
    · rcases List.mem_append.mp hc with hc | hc
      · exact h2 c hc
      · have : c = 126 := by simpa using hc
        subst this
        exact ⟨by decide, by decide⟩
    · rw [foldAll_snoc, h3]
      cases dn with
      | nil => simp [foldF, T.depth]
      | cons a r => obtain ⟨a1, a2⟩ := a; simp [foldF, T.depth]
  | @br ws t _ ih =>
    intro dn wt _
    obtain ⟨dn', pend, h1, h2, h3⟩ := ih dn (40 :: wt) fun c r e k _ => by
      cases e
      simp [gf]
    refine ⟨(t, t.depth) :: dn, [], ?_, (fun c hc => by cases hc), rfl⟩
    show (stepR [40] true dn wt).bind (fun x => runF (ws ++ [[41]]) x.1 x.2.1 x.2.2) = _
    have e : stepR [40] true dn wt = some (true, dn, 40 :: wt) := by
      show begunF [40] dn wt = _
      unfold begunF
      rw [if_neg (by decide), if_pos rfl]
    rw [e]
    show runF (ws ++ [[41]]) true dn (40 :: wt) = _
    rw [runF_app, h1]
    show (stepR [41] false dn' (pend ++ 40 :: wt)).bind (fun x => runF [] x.1 x.2.1 x.2.2) = _
    have e2 : stepR [41] false dn' (pend ++ 40 :: wt) = some (false, (t, t.depth) :: dn, wt) := by
      show goneF [41] dn' (pend ++ 40 :: wt) = _
      unfold goneF
      rw [if_pos rfl]
      have e3 : popW (fun c => decide (c ≠ 40)) dn' (pend ++ 40 :: wt) = ((t, t.depth) :: dn, 40 :: wt) := by
        rw [popW_all _ _ _ fun c hc => by simpa using (h2 c hc).1, h3]
        exact popW_stop fun c r e => by cases e; rfl
      rw [e3]
    rw [e2]; rfl
  | @bin k w1 w2 t1 t2 _ _ ih1 ih2 =>
    intro dn wt hk
    have hl : k.st ≤ leftS k := by cases k <;> decide
    obtain ⟨dn1, pend1, a1, a2, a3⟩ := ih1 dn wt (hk.mono hl)
    have hpop : popW (gf k.sign) dn1 (pend1 ++ wt) = ((t1, t1.depth) :: dn, wt) := by
      rw [popW_all _ _ _ fun c hc => ?_, a3]
      · exact popW_stop fun c r e => hk c r e k (Nat.le_refl _)
      · obtain ⟨c1, c2⟩ := a2 c hc
        have hi := sign_idx k
        unfold leftS at c2
        unfold gf
        rw [if_neg c1]
        by_cases hth : k = .th
        · rw [if_pos ((sign_62 k).mpr hth)]
          rw [if_pos hth] at c2
          exact decide_eq_true (by omega)
        · rw [if_neg fun e => hth ((sign_62 k).mp e)]
          rw [if_neg hth] at c2
          exact decide_eq_true (by omega)
    have hkr : Keeps (rightS k) (k.sign :: wt) := fun c r e k' hk' => by
      cases e
      have hi := sign_idx k
      have hi' := sign_idx k'
      have h40 : k.sign ≠ 40 := by cases k <;> decide
      unfold gf
      rw [if_neg h40]
      unfold rightS at hk'
      by_cases hth' : k' = .th
      · rw [if_pos ((sign_62 k').mpr hth')]
        refine decide_eq_false ?_
        subst hth'
        have e2 : K4.th.st = 2 := rfl
        by_cases hth : k = .th
        · subst hth; rw [e2] at hi; omega
        · rw [if_neg hth] at hk'; omega
      · rw [if_neg fun e => hth' ((sign_62 k').mp e)]
        refine decide_eq_false ?_
        by_cases hth : k = .th
        · rw [if_pos hth] at hk'
          subst hth
          have e2 : K4.th.st = 2 := rfl
          have : k'.st ≠ 2 := by cases k' <;> simp_all [K4.st]
          omega
        · rw [if_neg hth] at hk'; omega
    obtain ⟨dn2, pend2, b1, b2, b3⟩ := ih2 ((t1, t1.depth) :: dn) (k.sign :: wt) hkr
    have hr : k.st ≤ rightS k := by cases k <;> decide
    have hne : k.sign ≠ 126 := by cases k <;> decide
    refine ⟨dn2, pend2 ++ [k.sign], ?_, fun c hc => ?_, ?_⟩
    · rw [runF_app, a1]
      show (stepR [k.sign] false dn1 (pend1 ++ wt)).bind (fun x => runF w2 x.1 x.2.1 x.2.2) = _
      have e : stepR [k.sign] false dn1 (pend1 ++ wt) = some (true, (t1, t1.depth) :: dn, k.sign :: wt) := by
        show goneF [k.sign] dn1 (pend1 ++ wt) = _
        unfold goneF
        rw [if_neg (by cases k <;> decide)]
        unfold signF
        simp only [sign_bin, if_true, hpop]
      rw [e]
      show runF w2 true ((t1, t1.depth) :: dn) (k.sign :: wt) = _
      rw [b1]; simp
    · rcases List.mem_append.mp hc with hc | hc
      · obtain ⟨q1, q2⟩ := b2 c hc
        exact ⟨q1, by omega⟩
      · have : c = k.sign := by simpa using hc
        subst this
        exact ⟨by cases k <;> decide, by rw [sign_idx]; exact Nat.le_refl _⟩
    · rw [foldAll_snoc, b3]
      simp only [foldF, hne, if_false, sign_k, T.depth]
      congr 2
      omega
  | @up p ws t _ ih =>
    intro dn wt hk
    obtain ⟨dn', pend, h1, h2, h3⟩ := ih dn wt (hk.mono (by omega))
    exact ⟨dn', pend, h1, fun c hc => ⟨(h2 c hc).1, by have := (h2 c hc).2; omega⟩, h3⟩
theorem endF_all : ∀ (pend : List Nat) (dn : List (T × Nat)), (∀ c ∈ pend, c ≠ 40) → endF pend dn = some (foldAll pend dn)
  | [], dn, _ => rfl
  | c :: pend, dn, h => by
    have e : endF (c :: pend) dn = endF pend (foldF c dn) := if_neg (h c (by simp))
    rw [e, endF_all pend (foldF c dn) fun x hx => h x (by simp [hx])]
    rfl
/-- well written words are read to their sentence -/
theorem E.read {p : Nat} {ws : List (List Nat)} {t : T} (h : E p ws t) : readW ws = if 40 < t.depth then .deep else .tree t := by
  obtain ⟨dn', pend, h1, h2, h3⟩ := h.run [] [] fun c r e => by cases e
  unfold readW
  rw [h1]
  show lastF (endF (pend ++ []) dn') = _
  rw [List.append_nil, endF_all pend dn' fun c hc => (h2 c hc).1, h3]
  rfl
end PL
set_option Elab.async false
set_option linter.all false
set_option maxRecDepth 100000
set_option maxHeartbeats 1000000
set_option exponentiation.threshold 20000
namespace PL
set_option autoImplicit false
open PySem L2 PyProof.Rows
def okW (w : List Nat) : Prop := w ≠ [] ∧ w.length ≤ 8 ∧ ∀ c ∈ w, c ∈ abc
def headOk (cs : List Nat) : Prop := ∀ c r, cs = c :: r → c ∉ abc
/-- the text cs is the words ws, blanks between them as needed -/
inductive Tx : List (List Nat) → List Nat → Prop
  | nil : Tx [] []
  | bl {ws : List (List Nat)} {cs : List Nat} : Tx ws cs → Tx ws (32 :: cs)
  | sg (c : Nat) {ws : List (List Nat)} {cs : List Nat} : (c ∈ sgnL ∨ c ∈ onesL) → Tx ws cs → Tx ([c] :: ws) (c :: cs)
  | nm (w : List Nat) {ws : List (List Nat)} {cs : List Nat} : okW w → headOk cs → Tx ws cs → Tx (w :: ws) (w ++ cs)
theorem sg_not {c : Nat} (h : c ∈ sgnL ∨ c ∈ onesL) : c ∉ abc := by
  have : c = 61 ∨ c = 62 ∨ c = 124 ∨ c = 38 ∨ c = 126 ∨ c = 48 ∨ c = 49 ∨ c = 40 ∨ c = 41 := by
    simp only [sgnL, onesL, List.mem_cons, List.not_mem_nil, or_false] at h
    omega
  rcases this with rfl | rfl | rfl | rfl | rfl | rfl | rfl | rfl | rfl <;> decide
theorem Tx.app {w1 w2 : List (List Nat)} {c1 c2 : List Nat} (h : Tx w1 c1) (ho : headOk c2) (h2 : Tx w2 c2) : Tx (w1 ++ w2) (c1 ++ c2) := by
  induction h with
  | nil => exact h2
  | bl _ ih => exact .bl ih
  | sg c hc _ ih => exact .sg c hc ih
  | @nm w ws cs hw hh _ ih =>
    rw [List.append_assoc]
    refine .nm w hw (fun c r e => ?_) ih
    cases cs with
    | nil => exact ho c r e
    | cons a b => cases e; exact hh c b rfl
theorem wordsGo_run : ∀ (w r run : List Nat) (acc : List (List Nat)), (∀ c ∈ w, c ∈ abc) → wordsGo (w ++ r) run acc = wordsGo r (run ++ w) acc
  | [], r, run, acc, _ => by simp
  | c :: w, r, run, acc, h => by
    have e : wordsGo (c :: (w ++ r)) run acc = wordsGo (w ++ r) (run ++ [c]) acc := if_pos (h c (by simp))
    show wordsGo (c :: (w ++ r)) run acc = _
    rw [e, wordsGo_run w r (run ++ [c]) acc fun x hx => h x (by simp [hx])]
    simp
theorem wordsGo_flush {c : Nat} {r run : List Nat} {acc : List (List Nat)} (hc : c ∉ abc) (h0 : run ≠ []) (h8 : run.length ≤ 8) : wordsGo (c :: r) run acc = wordsGo (c :: r) [] (acc ++ [run]) := by
  have n8 : ¬ 8 < run.length := by omega
  unfold wordsGo
  simp only [hc, if_false, n8, h0, ne_eq, not_false_eq_true, if_true, List.length_nil, not_true_eq_false]
  rfl
theorem Tx.words {ws : List (List Nat)} {cs : List Nat} (h : Tx ws cs) : ∀ acc : List (List Nat), wordsGo (cs ++ [32]) [] acc = some (acc ++ ws) := by
  induction h with
  | nil => intro acc; rw [List.append_nil]; rfl
  | @bl ws cs _ ih =>
    intro acc
    exact ih acc
  | @sg c ws cs hc _ ih =>
    intro acc
    have e : wordsGo (c :: (cs ++ [32])) [] acc = wordsGo (cs ++ [32]) [] (acc ++ [[c]]) := by
      have hn := sg_not hc
      show (if c ∈ abc then _ else _) = _
      rw [if_neg hn]
      show (if 8 < 0 then _ else _) = _
      rw [if_neg (by decide), if_pos hc]
      rfl
    show wordsGo (c :: (cs ++ [32])) [] acc = _
    rw [e, ih]
    simp
  | @nm w ws cs hw hh _ ih =>
    intro acc
    obtain ⟨h1, h2, h3⟩ := hw
    rw [List.append_assoc, wordsGo_run w (cs ++ [32]) [] acc h3]
    show wordsGo (cs ++ [32]) w acc = _
    have e : wordsGo (cs ++ [32]) w acc = wordsGo (cs ++ [32]) [] (acc ++ [w]) := by
      cases cs with
      | nil => exact wordsGo_flush (by decide) h1 h2
      | cons a b => exact wordsGo_flush (hh a b rfl) h1 h2
    rw [e, ih]
    simp
theorem Tx.wordsF {ws : List (List Nat)} {cs : List Nat} (h : Tx ws cs) : PL.wordsF cs = some ws := h.words []
/-- a well written text is read to its sentence -/
theorem read_of {p : Nat} {ws : List (List Nat)} {cs : List Nat} {t : T} (h1 : Tx ws cs) (h2 : E p ws t) : readF cs = if 200 < cs.length then .bad else if 40 < t.depth then .deep else .tree t := by
  unfold readF
  rw [h1.wordsF]
  show (if 200 < cs.length then Rd.bad else readW ws) = _
  rw [h2.read]
theorem E.down {p q : Nat} {ws : List (List Nat)} {t : T} (h : E q ws t) (hpq : p ≤ q) : E p ws t := by
  induction q with
  | zero => have : p = 0 := by omega
            subst this; exact h
  | succ q ih =>
    by_cases e : p = q + 1
    · subst e; exact h
    · exact ih (.up h) (by omega)
def T.okWs : T → Prop
  | .nm x => okW x
  | .nt t => t.okWs
  | .bin _ s t => s.okWs ∧ t.okWs
  | _ => True
theorem leaf_nm {x : List Nat} (h : okW x) : leafF x = some (.nm x) := by
  obtain ⟨h1, _, h3⟩ := h
  match x, h1 with
  | c :: r, _ =>
    have hc := h3 c (by simp)
    have n1 : c ≠ 49 := fun e => by subst e; revert hc; decide
    have n2 : c ≠ 48 := fun e => by subst e; revert hc; decide
    unfold leafF
    rw [if_neg (by simp [n1]), if_neg (by simp [n2])]
    exact if_pos hc
theorem head_of_sg {c : Nat} {cs : List Nat} (h : c ∈ sgnL ∨ c ∈ onesL) : headOk (c :: cs) := fun a r e => by cases e; exact sg_not h
theorem head_bl (cs : List Nat) : headOk (32 :: cs) := fun a r e => by cases e; decide
/-- brackets where they are needed -/
theorem wi_E {q p : Nat} {ws : List (List Nat)} {cs : List Nat} {t : T} {b : Bool} (h1 : E q ws t) (h2 : Tx ws cs) (h : b = false → p ≤ q) (hp : p ≤ 5) (hq : 1 ≤ q) : ∃ ws', E p ws' t ∧ Tx ws' (wi cs b) := by
  cases b with
  | false => exact ⟨ws, h1.down (h rfl), h2⟩
  | true =>
    refine ⟨[40] :: (ws ++ [[41]]), (E.br (h1.down hq)).down hp, ?_⟩
    exact .sg 40 (.inr (by decide)) (h2.app (head_of_sg (.inr (by decide))) (.sg 41 (.inr (by decide)) .nil))
theorem st_pos : ∀ t : T, 1 ≤ t.st ∧ t.st ≤ 5
  | .nm _ => by simp [T.st]
  | .yes => by simp [T.st]
  | .no => by simp [T.st]
  | .nt _ => by simp [T.st]
  | .bin k _ _ => by cases k <;> simp [T.st, K4.st]
theorem sign_sg (k : K4) : k.sign ∈ sgnL ∨ k.sign ∈ onesL := .inl (by cases k <;> decide)
theorem left_ok (k : K4) (n : Nat) (h : (ltb n k.st || (eqb n k.st && eqb k.st 2)) = false) : leftS k ≤ n := by
  rw [ltb_dec, eqb_dec, eqb_dec, Bool.or_eq_false_iff, Bool.and_eq_false_iff, decide_eq_false_iff_not, decide_eq_false_iff_not, decide_eq_false_iff_not] at h
  obtain ⟨h1, h2⟩ := h
  cases k with
  | an => show 4 ≤ n; have h1 : ¬ n < 4 := h1; omega
  | or => show 3 ≤ n; have h1 : ¬ n < 3 := h1; omega
  | th => show 3 ≤ n; have h1 : ¬ n < 2 := h1; have h2 : ¬ n = 2 ∨ ¬ (2 : Nat) = 2 := h2; omega
  | sm => show 1 ≤ n; have h1 : ¬ n < 1 := h1; omega
theorem right_ok' (k : K4) (n : Nat) (h : (ltb n k.st || (eqb n k.st && !eqb k.st 2)) = false) : rightS k ≤ n := by
  rw [ltb_dec, eqb_dec, eqb_dec, Bool.or_eq_false_iff, Bool.and_eq_false_iff, decide_eq_false_iff_not, decide_eq_false_iff_not, Bool.not_eq_false', decide_eq_true_eq] at h
  obtain ⟨h1, h2⟩ := h
  cases k with
  | an => show 5 ≤ n; have h1 : ¬ n < 4 := h1; have h2 : ¬ n = 4 ∨ (4 : Nat) = 2 := h2; omega
  | or => show 4 ≤ n; have h1 : ¬ n < 3 := h1; have h2 : ¬ n = 3 ∨ (3 : Nat) = 2 := h2; omega
  | th => show 2 ≤ n; have h1 : ¬ n < 2 := h1; omega
  | sm => show 2 ≤ n; have h1 : ¬ n < 1 := h1; have h2 : ¬ n = 1 ∨ (1 : Nat) = 2 := h2; omega
theorem shown_E : ∀ t : T, t.okWs → ∃ ws, E t.st ws t ∧ Tx ws t.shown
  | .nm x, h => ⟨[x], .leaf x _ (leaf_nm h) rfl, by have := Tx.nm x h (cs := []) (fun c r e => by cases e) .nil; rwa [List.append_nil] at this⟩
  | .yes, _ => ⟨[[49]], .leaf [49] _ rfl rfl, .sg 49 (.inr (by decide)) .nil⟩
  | .no, _ => ⟨[[48]], .leaf [48] _ rfl rfl, .sg 48 (.inr (by decide)) .nil⟩
  | .nt t, h => by
    obtain ⟨ws, h1, h2⟩ := shown_E t h
    obtain ⟨s1, s2⟩ := st_pos t
    obtain ⟨ws', k1, k2⟩ := wi_E (p := 5) (b := ltb t.st 5) h1 h2 (fun e => by rw [ltb_dec] at e; exact Nat.le_of_not_lt (of_decide_eq_false e)) (by decide) s1
    exact ⟨[126] :: ws', .nt k1, .sg 126 (.inl (by decide)) k2⟩
  | .bin k s t, h => by
    obtain ⟨w1, a1, a2⟩ := shown_E s h.1
    obtain ⟨w2, b1, b2⟩ := shown_E t h.2
    obtain ⟨s1, s2⟩ := st_pos s
    obtain ⟨t1, t2⟩ := st_pos t
    obtain ⟨w1', c1, c2⟩ := wi_E (p := leftS k) (b := ltb s.st k.st || (eqb s.st k.st && eqb k.st 2)) a1 a2 (left_ok k _) (by cases k <;> decide) s1
    obtain ⟨w2', d1, d2⟩ := wi_E (p := rightS k) (b := ltb t.st k.st || (eqb t.st k.st && !eqb k.st 2)) b1 b2 (right_ok' k _) (by cases k <;> decide) t1
    refine ⟨w1' ++ [k.sign] :: w2', .bin k c1 d1, ?_⟩
    have hx : Tx ([k.sign] :: w2') (32 :: k.sign :: 32 :: wi t.shown (ltb t.st k.st || (eqb t.st k.st && !eqb k.st 2))) := .bl (.sg _ (sign_sg k) (.bl d2))
    have := c2.app (head_bl _) hx
    simpa [T.shown] using this
end PL
set_option Elab.async false
set_option linter.all false
set_option maxRecDepth 100000
set_option maxHeartbeats 1000000
set_option exponentiation.threshold 20000
namespace PL
set_option autoImplicit false
open PySem L2 PyProof.Rows
def AlikeD (f : Fn) (d : D) : Prop := f [.val d, .val d] = .ok (.val (.bl true)) [.val d, .val d]
theorem alike_str {fa : Fn} (x : List Nat) : AlikeD (bodyF 4 2 2 (b_alike_b36c fa)) (.str x) := by
  unfold AlikeD
  simp (disch := first | assumption | omega | (simp only [List.length_append, List.length_cons, List.length_nil, List.length_map, List.length_reverse, List.length_replicate, List.length_range, List.length_take, List.length_drop, enD_length, rangeD_length]; omega) | (simp; done) | fail) [decide_eq_true, decide_eq_false, kAsg, kNx, b_alike_b36c]
theorem gAll_ones (n : Nat) : gAll [.lst (List.replicate n (.bl true))] = .ok (.bl true) := by
  have h := gAll_f (fun _ : Nat => true) (List.range n)
  have e : ((List.range n).map fun _ => D.bl true) = List.replicate n (.bl true) := by rw [List.map_const', List.length_range]
  rw [e] at h
  rw [h]
  simp
theorem zip_self : ∀ xs : List D, zipD xs xs = xs.map fun x => .tup [x, x]
  | [] => rfl
  | x :: xs => by simp [zipD, zip_self xs]
theorem alike_tup {fa : Fn} (xs : List D) (hl : xs.length ≤ 100) (h : ∀ x ∈ xs, AlikeD fa x) : AlikeD (bodyF 4 2 2 (b_alike_b36c fa)) (.tup xs) := by
  have hz : gZip [.tup xs, .tup xs] = .ok (xs.map fun x => .tup [x, x]) := by
    show R.ok (zipD xs xs) = _
    rw [zip_self]
  have hlc : ∀ a0 a1 : Sl, lcGo [a0, a1, .emp, .emp] (ftTup [2, 3]) fcYes (eFn fa (aCons (eFrz 2) (aCons (eFrz 3) aNil))) (xs.map fun x => .tup [x, x]) = .ok (List.replicate xs.length (.bl true)) := fun a0 a1 => by
    rw [lcGo_map (xs.map fun x => D.tup [x, x]) (fun _ => .bl true) fun d hd => ?_]
    · rw [List.map_const', List.length_map]
    · obtain ⟨x, hx, rfl⟩ := List.mem_map.mp hd
      have q := h x hx
      unfold AlikeD at q
      refine ⟨[(2, x), (3, x)], rfl, ?_⟩
      simp (disch := first | assumption | omega | (simp only [List.length_append, List.length_cons, List.length_nil, List.length_map, List.length_reverse, List.length_replicate, List.length_range, List.length_take, List.length_drop, enD_length, rangeD_length]; omega) | (simp; done) | fail) [decide_eq_true, decide_eq_false, kAsg, kNx, q]
  have hall := gAll_ones xs.length
  have hl2 : (xs.map fun x => D.tup [x, x]).length ≤ 100 := by simpa using hl
  unfold AlikeD
  generalize (xs.map fun x => D.tup [x, x]) = ZD at *
  generalize List.replicate xs.length (D.bl true) = RD at *
  simp (disch := first | assumption | omega | (simp only [List.length_append, List.length_cons, List.length_nil, List.length_map, List.length_reverse, List.length_replicate, List.length_range, List.length_take, List.length_drop, enD_length, rangeD_length]; omega) | (simp; done) | fail) [decide_eq_true, decide_eq_false, kAsg, kNx, b_alike_b36c, hz, hlc, hall]
def AlikeT (n : Nat) (f : Fn) : Prop := (∀ x : List Nat, AlikeD f (.str x)) ∧ ∀ t : T, t.depth ≤ n → AlikeD f t.toD
theorem alikeT_0 {fa : Fn} : AlikeT 0 (bodyF 4 2 2 (b_alike_b36c fa)) := ⟨alike_str, fun t h => absurd (T.depth_pos t) (by omega)⟩
theorem alikeT_ok {n : Nat} {fa : Fn} (h : AlikeT n fa) : AlikeT (n + 1) (bodyF 4 2 2 (b_alike_b36c fa)) := by
  obtain ⟨h1, h2⟩ := h
  refine ⟨alike_str, fun t ht => ?_⟩
  cases t with
  | nm x =>
    refine alike_tup _ (by simp) fun d hd => ?_
    simp only [List.mem_cons, List.not_mem_nil, or_false] at hd
    rcases hd with rfl | rfl <;> exact h1 _
  | yes =>
    refine alike_tup _ (by simp) fun d hd => ?_
    simp only [List.mem_cons, List.not_mem_nil, or_false] at hd
    subst hd; exact h1 _
  | no =>
    refine alike_tup _ (by simp) fun d hd => ?_
    simp only [List.mem_cons, List.not_mem_nil, or_false] at hd
    subst hd; exact h1 _
  | nt t =>
    simp only [T.depth] at ht
    refine alike_tup _ (by simp) fun d hd => ?_
    simp only [List.mem_cons, List.not_mem_nil, or_false] at hd
    rcases hd with rfl | rfl
    · exact h1 _
    · exact h2 t (by omega)
  | bin k s t =>
    simp only [T.depth] at ht
    refine alike_tup _ (by simp) fun d hd => ?_
    simp only [List.mem_cons, List.not_mem_nil, or_false] at hd
    rcases hd with rfl | rfl | rfl
    · exact h1 _
    · exact h2 s (by omega)
    · exact h2 t (by omega)
theorem abc_letter (i : Int) : letter i ∈ abc := by
  obtain ⟨k, hk, e⟩ : ∃ k : Nat, k < 26 ∧ letter i = 97 + k := ⟨(i % 26).toNat, by omega, rfl⟩
  rw [e]
  have : ∀ k, k < 26 → 97 + k ∈ abc := by decide
  exact this k hk
theorem stem_abc (r : Int) : ∀ c ∈ stemL r, c ∈ abc := fun c hc => by
  obtain ⟨k, _, rfl⟩ := List.mem_map.mp hc
  exact abc_letter _
theorem stem_len (r : Int) : (stemL r).length = 8 := by simp [stemL]
theorem namesA_okW (c : Int) (m : Nat) : ∀ x ∈ namesA c m, okW x := fun x hx => by
  unfold namesA at hx
  dsimp only at hx
  have hs := stem_abc (c / 3)
  have hl := stem_len (c / 3)
  generalize stemL (c / 3) = S at *
  split at hx
  · obtain ⟨k, _, rfl⟩ := List.mem_map.mp hx
    refine ⟨by simp, ?_, fun y hy => ?_⟩
    · have q0 : 0 ≤ c / 3 / 8 % (1 + c / 3 % 8) := Int.emod_nonneg _ (by omega)
      have q1 : c / 3 / 8 % (1 + c / 3 % 8) < 1 + c / 3 % 8 := Int.emod_lt_of_pos _ (by omega)
      simp only [List.length_append, List.length_cons, List.length_nil, List.length_take, List.length_drop, hl]
      omega
    · simp only [List.mem_append, List.mem_singleton] at hy
      rcases hy with (hy | hy) | hy
      · exact hs y (List.mem_of_mem_take hy)
      · rw [hy]; exact abc_letter _
      · exact hs y (List.mem_of_mem_take (List.mem_of_mem_drop hy))
  · split at hx
    · obtain ⟨k, _, rfl⟩ := List.mem_map.mp hx
      refine ⟨fun e => ?_, by simp [hl]; omega, fun y hy => hs y (List.mem_of_mem_take hy)⟩
      have := congrArg List.length e
      simp only [List.length_take, hl, List.length_nil] at this
      omega
    · obtain ⟨k, _, rfl⟩ := List.mem_map.mp hx
      refine ⟨by simp, by simp [hl]; omega, fun y hy => ?_⟩
      rcases List.mem_cons.mp hy with hy | hy
      · rw [hy]; exact abc_letter _
      · exact hs y (List.mem_of_mem_take hy)
def rdD : Rd → D
  | .tree t => .tup [.str [116, 114, 101, 101], t.toD]
  | .bad => .tup [.str [115, 101, 110, 116, 101, 110, 99, 101], .non]
  | .deep => .tup [.str [100, 101, 101, 112], .non]
def ToldR (f : Fn) : Prop := ∀ text : List Nat, text.length ≤ 100000 → f [.val (.str text)] = .ok (.val (rdD (readF text))) [.val (.str text)]
theorem toldR_ok {fr fc : Fn} (hr : ReadK fr) (hc : ClassK fc) : ToldR (bodyF 4 1 1 (b_told_b580 fr fc)) := fun text hl => by
  have h := hr text hl
  have c1 := hc 1 (by decide) (by decide)
  have c2 := hc 2 (by decide) (by decide)
  simp only [wordX] at c1 c2
  cases e : readF text with
  | tree t =>
    rw [e] at h
    simp only [rdOut] at h
    simp only [rdD]
    generalize t.toD = TD at *
    simp (disch := first | assumption | omega | (simp only [List.length_append, List.length_cons, List.length_nil, List.length_map, List.length_reverse, List.length_replicate, List.length_range, List.length_take, List.length_drop, enD_length, rangeD_length]; omega) | (simp; done) | fail) [decide_eq_true, decide_eq_false, kAsg, kNx, b_told_b580, h]
  | bad =>
    rw [e] at h
    simp only [rdOut] at h
    simp only [rdD]
    simp (disch := first | assumption | omega | (simp only [List.length_append, List.length_cons, List.length_nil, List.length_map, List.length_reverse, List.length_replicate, List.length_range, List.length_take, List.length_drop, enD_length, rangeD_length]; omega) | (simp; done) | fail) [decide_eq_true, decide_eq_false, kAsg, kNx, b_told_b580, h, c1]
  | deep =>
    rw [e] at h
    simp only [rdOut] at h
    simp only [rdD]
    simp (disch := first | assumption | omega | (simp only [List.length_append, List.length_cons, List.length_nil, List.length_map, List.length_reverse, List.length_replicate, List.length_range, List.length_take, List.length_drop, enD_length, rangeD_length]; omega) | (simp; done) | fail) [decide_eq_true, decide_eq_false, kAsg, kNx, b_told_b580, h, c2]
end PL
set_option Elab.async false
set_option linter.all false
set_option maxRecDepth 100000
set_option maxHeartbeats 1000000
set_option exponentiation.threshold 20000
namespace PL
set_option autoImplicit false
open PySem L2 PyProof.Rows
def sgW (w : List Nat) : Prop := ∃ c, w = [c] ∧ (c ∈ sgnL ∨ c ∈ onesL)
/-- no two names side by side -/
inductive NA : List (List Nat) → Prop
  | nil : NA []
  | sg {s : List Nat} {ws : List (List Nat)} : sgW s → NA ws → NA (s :: ws)
  | nm {w : List Nat} : okW w → NA [w]
  | nms {w s : List Nat} {ws : List (List Nat)} : okW w → sgW s → NA ws → NA (w :: s :: ws)
theorem NA.app {w1 w2 : List (List Nat)} {s : List Nat} (h : NA w1) (hs : sgW s) (h2 : NA w2) : NA (w1 ++ s :: w2) := by
  induction h with
  | nil => exact .sg hs h2
  | sg a _ ih => exact .sg a ih
  | nm a => exact .nms a hs h2
  | nms a b _ ih => exact .nms a b ih
/-- blanks between, ahead of, behind -/
def spG' : List (List Nat) → List Nat → Nat → List Nat
  | [], _, e => List.replicate e 32
  | w :: ws, n :: ns, e => List.replicate n 32 ++ (w ++ spG' ws ns e)
  | w :: ws, [], e => w ++ spG' ws [] e
theorem Tx.blanks {ws : List (List Nat)} {cs : List Nat} (h : Tx ws cs) : ∀ n : Nat, Tx ws (List.replicate n 32 ++ cs)
  | 0 => h
  | n + 1 => by rw [List.replicate_succ]; exact .bl (Tx.blanks h n)
theorem Tx.sgw {s : List Nat} {ws : List (List Nat)} {cs : List Nat} (hs : sgW s) (h : Tx ws cs) : Tx (s :: ws) (s ++ cs) := by
  obtain ⟨c, rfl, hc⟩ := hs
  exact .sg c hc h
theorem rep_head (e : Nat) : headOk (List.replicate e 32) := fun c r h => by
  cases e with
  | zero => cases h
  | succ e => rw [List.replicate_succ] at h; cases h; decide
theorem sg_head {s : List Nat} {cs : List Nat} (hs : sgW s) (n : Nat) : headOk (List.replicate n 32 ++ (s ++ cs)) := by
  obtain ⟨c, rfl, hc⟩ := hs
  cases n with
  | zero => exact head_of_sg hc
  | succ n => rw [List.replicate_succ]; exact head_bl _
theorem NA.tx {ws : List (List Nat)} (h : NA ws) : ∀ (ns : List Nat) (e : Nat), Tx ws (spG' ws ns e) := by
  induction h with
  | nil => intro ns e; have := Tx.nil.blanks e; simpa [spG'] using this
  | @sg s ws hs _ ih =>
    intro ns e
    cases ns with
    | nil => exact Tx.sgw hs (ih [] e)
    | cons n ns => exact (Tx.sgw hs (ih ns e)).blanks n
  | @nm w hw =>
    intro ns e
    have hx : Tx [w] (w ++ List.replicate e 32) := .nm w hw (rep_head e) (by have := Tx.nil.blanks e; simpa using this)
    cases ns with
    | nil => exact hx
    | cons n ns => exact hx.blanks n
  | @nms w s ws hw hs _ ih =>
    intro ns e
    cases ns with
    | nil => exact .nm w hw (sg_head hs 0) (Tx.sgw hs (ih [] e))
    | cons n ns =>
      refine Tx.blanks ?_ n
      cases ns with
      | nil => exact .nm w hw (sg_head hs 0) (Tx.sgw hs (ih [] e))
      | cons n2 ns => exact .nm w hw (sg_head hs n2) ((Tx.sgw hs (ih ns e)).blanks n2)
end PL
set_option Elab.async false
set_option linter.all false
set_option maxRecDepth 100000
set_option maxHeartbeats 1000000
set_option exponentiation.threshold 20000
namespace PL
set_option autoImplicit false
open PySem L2 PyProof.Rows
theorem blanks_at (n : Nat) (h : n ≤ 10) : gMul (.str [32]) (.int (n : Nat)) = .ok (.str (List.replicate n 32)) := by
  have hn : n = 0 ∨ n = 1 ∨ n = 2 ∨ n = 3 ∨ n = 4 ∨ n = 5 ∨ n = 6 ∨ n = 7 ∨ n = 8 ∨ n = 9 ∨ n = 10 := by omega
  rcases hn with rfl | rfl | rfl | rfl | rfl | rfl | rfl | rfl | rfl | rfl | rfl <;> rfl
end PL
set_option Elab.async false
set_option linter.all false
set_option maxRecDepth 100000
set_option maxHeartbeats 1000000
set_option exponentiation.threshold 20000
namespace PL
set_option autoImplicit false
open PySem L2 PyProof.Rows
end PL
set_option Elab.async false
set_option linter.all false
set_option maxRecDepth 100000
set_option maxHeartbeats 1000000
set_option exponentiation.threshold 20000
namespace PL
set_option autoImplicit false
open PySem L2 PyProof.Rows
end PL
set_option Elab.async false
set_option linter.all false
set_option maxRecDepth 100000
set_option maxHeartbeats 1000000
set_option exponentiation.threshold 20000
namespace PL
set_option autoImplicit false
open PySem L2 PyProof.Rows
end PL
set_option Elab.async false
set_option linter.all false
set_option maxRecDepth 100000
set_option maxHeartbeats 1000000
set_option exponentiation.threshold 20000
namespace PL
set_option autoImplicit false
open PySem L2 PyProof.Rows
theorem chain_left {k : K4} (hk : k ≠ .th) : ∀ (ps : List (List (List Nat) × T)) {ws : List (List Nat)} {t : T}, E k.st ws t → (∀ p ∈ ps, E (k.st + 1) p.1 p.2) →
    E k.st (ws ++ ps.flatMap fun p => [k.sign] :: p.1) (ps.foldl (fun t p => .bin k t p.2) t)
  | [], ws, t, h, _ => by
    rw [List.flatMap_nil, List.append_nil]
    exact h
  | p :: ps, ws, t, h, hp => by
    have hl : leftS k = k.st := if_neg hk
    have h1 : E k.st (ws ++ [k.sign] :: p.1) (.bin k t p.2) := .bin k (by rw [hl]; exact h) ((hp p (by simp)).down (by cases k <;> first | exact absurd rfl hk | decide))
    have h2 := chain_left hk ps h1 fun q hq => hp q (List.mem_cons_of_mem _ hq)
    rw [List.flatMap_cons, List.foldl_cons, ← List.append_assoc]
    exact h2
end PL
set_option Elab.async false
set_option linter.all false
set_option maxRecDepth 100000
set_option maxHeartbeats 1000000
set_option exponentiation.threshold 20000
namespace PL
set_option autoImplicit false
open PySem L2 PyProof.Rows
abbrev ItW := List (List Nat) × T
abbrev RowW := ItW × List (K4 × ItW)
def wR (x : RowW) : List (List Nat) := x.1.1 ++ x.2.flatMap fun q => [q.1.sign] :: q.2.1
def splitK (k : K4) : ItW → List (K4 × ItW) → RowW × List RowW
  | p, [] => ((p, []), [])
  | p, q :: r => if q.1 = k then ((p, []), (splitK k q.2 r).1 :: (splitK k q.2 r).2) else ((p, (q.1, (splitK k q.2 r).1.1) :: (splitK k q.2 r).1.2), (splitK k q.2 r).2)
theorem split_words (k : K4) : ∀ (r : List (K4 × ItW)) (p : ItW), wR (p, r) = wR (splitK k p r).1 ++ (splitK k p r).2.flatMap fun x => [k.sign] :: wR x
  | [], p => by simp [splitK, wR]
  | q :: r, p => by
    have ih := split_words k r q.2
    by_cases h : q.1 = k
    · rw [splitK, if_pos h]
      simp only [List.flatMap_cons]
      rw [List.cons_append, ← ih, ← h]
      simp [wR]
    · rw [splitK, if_neg h]
      have e : wR (p, q :: r) = p.1 ++ [q.1.sign] :: wR (q.2, r) := by simp [wR]
      rw [e, ih]
      simp [wR]
/-- what holds of all items and signs of a row -/
def RwOk (A : K4 → Prop) (x : RowW) : Prop := E 5 x.1.1 x.1.2 ∧ ∀ q ∈ x.2, A q.1 ∧ E 5 q.2.1 q.2.2
theorem split_ok {A : K4 → Prop} (k : K4) : ∀ (r : List (K4 × ItW)) (p : ItW), RwOk A (p, r) → RwOk (fun j => A j ∧ j ≠ k) (splitK k p r).1 ∧ ∀ x ∈ (splitK k p r).2, RwOk (fun j => A j ∧ j ≠ k) x
  | [], p, h => ⟨⟨h.1, fun q hq => by cases hq⟩, fun x hx => by cases hx⟩
  | q :: r, p, h => by
    obtain ⟨h1, h2⟩ := h
    have hq := h2 q (by simp)
    obtain ⟨⟨i1, i2⟩, i3⟩ := split_ok k r q.2 ⟨hq.2, fun x hx => h2 x (List.mem_cons_of_mem _ hx)⟩
    by_cases e : q.1 = k
    · rw [splitK, if_pos e]
      refine ⟨⟨h1, fun x hx => by cases hx⟩, fun x hx => ?_⟩
      rcases List.mem_cons.mp hx with rfl | hx
      · exact ⟨i1, i2⟩
      · exact i3 x hx
    · rw [splitK, if_neg e]
      refine ⟨⟨h1, fun x hx => ?_⟩, i3⟩
      rcases List.mem_cons.mp hx with rfl | hx
      · exact ⟨⟨hq.1, e⟩, i1⟩
      · exact i2 x hx
/-- the parts under one sign -/
def chainT (k : K4) (t : T) (ts : List T) : T := if k = .th then ((t :: ts).dropLast).foldr (fun a b => .bin .th a b) ((t :: ts).getLast (by simp)) else ts.foldl (fun a b => .bin k a b) t
def groupT : List K4 → RowW → T
  | [], x => x.1.2
  | k :: ks, x => chainT k (groupT ks (splitK k x.1 x.2).1) ((splitK k x.1 x.2).2.map (groupT ks))
theorem chain_E (k : K4) (G : RowW → T) (x : RowW) (xs : List RowW) (h : ∀ y ∈ x :: xs, E (k.st + 1) (wR y) (G y)) :
    E k.st (wR x ++ xs.flatMap fun y => [k.sign] :: wR y) (chainT k (G x) (xs.map G)) := by
  unfold chainT
  by_cases hk : k = .th
  · subst hk
    rw [if_pos rfl]
    have key : ∀ (xs : List RowW) (x : RowW), (∀ y ∈ x :: xs, E 3 (wR y) (G y)) → E 2 (wR x ++ xs.flatMap fun y => [62] :: wR y) (((G x :: xs.map G).dropLast).foldr (fun a b => .bin .th a b) ((G x :: xs.map G).getLast (by simp))) := fun xs => by
      induction xs with
      | nil =>
        intro x h
        rw [List.flatMap_nil, List.append_nil]
        exact (h x (by simp)).down (by decide)
      | cons z xs ih =>
        intro x h
        have h2 := ih z fun y hy => h y (List.mem_cons_of_mem _ hy)
        have h1 : E 2 (wR x ++ [62] :: (wR z ++ xs.flatMap fun y => [62] :: wR y)) _ := E.bin .th ((h x (by simp)).down (by decide)) (h2.down (by decide))
        rw [List.flatMap_cons, List.cons_append]
        exact h1
    exact key xs x h
  · rw [if_neg hk]
    have h1 := chain_left hk (xs.map fun y => (wR y, G y)) ((h x (by simp)).down (Nat.le_succ k.st)) (by
      intro p hp
      obtain ⟨y, hy, rfl⟩ := List.mem_map.mp hp
      exact h y (List.mem_cons_of_mem _ hy))
    rw [List.flatMap_map, List.foldl_map] at h1
    rw [List.foldl_map]
    exact h1
theorem group_step (k : K4) (ks : List K4) (A : K4 → Prop) (x : RowW) (hx : RwOk A x) (h : ∀ y : RowW, RwOk (fun j => A j ∧ j ≠ k) y → E (k.st + 1) (wR y) (groupT ks y)) : E k.st (wR x) (groupT (k :: ks) x) := by
  obtain ⟨h1, h2⟩ := split_ok k x.2 x.1 hx
  rw [show wR x = wR (x.1, x.2) from rfl, split_words k x.2 x.1]
  exact chain_E k (groupT ks) _ _ fun y hy => by
    rcases List.mem_cons.mp hy with rfl | hy
    · exact h _ h1
    · exact h _ (h2 _ hy)
theorem group_E (x : RowW) (hx : RwOk (fun _ => True) x) : E 1 (wR x) (groupT [.sm, .th, .or, .an] x) :=
  group_step .sm _ _ x hx fun x hx => group_step .th _ _ x hx fun x hx => group_step .or _ _ x hx fun x hx => group_step .an _ _ x hx fun x hx => by
    obtain ⟨⟨ws, t⟩, r⟩ := x
    cases r with
    | nil =>
      show E 5 _ _
      have := hx.1
      simpa [wR, groupT] using this
    | cons q r =>
      exfalso
      have h := (hx.2 q (by simp)).1
      obtain ⟨k, q⟩ := q
      cases k <;> simp at h
end PL
set_option Elab.async false
set_option linter.all false
set_option maxRecDepth 100000
set_option maxHeartbeats 1000000
set_option exponentiation.threshold 20000
namespace PL
set_option autoImplicit false
open PySem L2 PyProof.Rows
def ChainK (f : Fn) : Prop := ∀ (k : K4) (t : T) (ts : List T), ts.length ≤ 100000 → f [.val (.str k.code), .val (.lst ((t :: ts).map T.toD))] = .ok (.val (chainT k t ts).toD) [.val (.str k.code), .val (.lst ((t :: ts).map T.toD))]
theorem forGo_foldT {fb : Es} (g : T → T → T) (v0 v1 : Sl) (hs : ∀ t a : T, fb [v0, v1, .val t.toD, .val a.toD] = .nx [v0, v1, .val (g t a).toD, .val a.toD]) : ∀ (L : List T) (t : T) (y : Sl),
    ∃ y', forGo (ftOne 3) fb (L.map T.toD) [v0, v1, .val t.toD, y] = .nx [v0, v1, .val (L.foldl g t).toD, y'] := fun L t y => by
  obtain ⟨ρ', h1, y', rfl⟩ := forGo_nx (ft := ftOne 3) (fb := fb) (L.map T.toD) (fun i ρ => ∃ y', ρ = [v0, v1, .val ((L.take i).foldl g t).toD, y']) [v0, v1, .val t.toD, y] ⟨y, rfl⟩ (fun i d ρ hd ⟨y1, e⟩ => by
    subst e
    rw [List.getElem?_map] at hd
    obtain ⟨a, ha, rfl⟩ := Option.map_eq_some_iff.mp hd
    have e2 : (L.take (i + 1)).foldl g t = g ((L.take i).foldl g t) a := by
      rw [List.take_succ, ha, List.foldl_append]; rfl
    exact ⟨_, _, rfl, .inl (hs ((L.take i).foldl g t) a), .val a.toD, by rw [e2]⟩)
  rw [List.length_map, List.take_length] at h1
  exact ⟨y', h1⟩
theorem chained_ok : ChainK (bodyF 4 2 2 b_chained_af29) := fun k t ts hl => by
  by_cases hk : k = .th
  · subst hk
    have hd := List.dropLast_concat_getLast (l := t :: ts) (by simp)
    have hT : chainT .th t ts = ((t :: ts).dropLast.reverse).foldl (fun b a => .bin .th a b) ((t :: ts).getLast (by simp)) := by
      unfold chainT
      rw [if_pos rfl, List.foldl_reverse]
    rw [hT]
    have hl2 : (t :: ts).dropLast.length ≤ 100000 := by simp; omega
    generalize (t :: ts).getLast (by simp) = z at *
    generalize (t :: ts).dropLast = I at *
    rw [← hd]
    have hlast : L2.atI (I.map T.toD ++ [z.toD]) (-1) = some z.toD := L2.atI_last _ _
    have hinit : cutL (I.map T.toD ++ [z.toD]) none (some (-1)) = I.map T.toD := cut_init _ _
    rw [List.map_append, List.map_cons, List.map_nil]
    obtain ⟨y', h⟩ := forGo_foldT (fb := b_chained_af29_l1) (fun b a => .bin .th a b) (.val (.str K4.th.code)) (.val (.lst (I.map T.toD ++ [z.toD]))) (fun t a => by
      simp only [T.toD]
      generalize t.toD = TD at *
      generalize a.toD = AD at *
      generalize I.map T.toD = IM at *
      simp (disch := first | assumption | omega | (simp only [List.length_append, List.length_cons, List.length_nil, List.length_map, List.length_reverse, List.length_replicate, List.length_range, List.length_take, List.length_drop, enD_length, rangeD_length]; omega) | (simp; done) | fail) [decide_eq_true, decide_eq_false, kAsg, kNx, b_chained_af29_l1]) I.reverse z .emp
    rw [List.map_reverse] at h
    have hl3 : (I.map T.toD).length ≤ 100000 := by rw [List.length_map]; exact hl2
    generalize (I.reverse.foldl (fun b a => T.bin .th a b) z).toD = FD at *
    generalize z.toD = ZD at *
    generalize I.map T.toD = IM at *
    have hq : K4.th.code = [116, 104, 101, 110] := rfl
    rw [hq] at h
    rw [hq]
    simp (disch := first | assumption | omega | (simp only [List.length_append, List.length_cons, List.length_nil, List.length_map, List.length_reverse, List.length_replicate, List.length_range, List.length_take, List.length_drop, enD_length, rangeD_length]; omega) | (simp; done) | fail) [decide_eq_true, decide_eq_false, kAsg, kNx, b_chained_af29, hlast, hinit, h]
  · have hc : k.code ≠ [116, 104, 101, 110] := by cases k <;> first | exact absurd rfl hk | decide
    have hT : chainT k t ts = ts.foldl (fun a b => .bin k a b) t := if_neg hk
    rw [hT, List.map_cons]
    have hcut : cutL (t.toD :: ts.map T.toD) (some 1) none = ts.map T.toD := by
      simp [cutL, HT.sIx]
      exact List.take_of_length_le (by simp)
    obtain ⟨y', h⟩ := forGo_foldT (fb := b_chained_af29_l2) (fun a b => .bin k a b) (.val (.str k.code)) (.val (.lst (t.toD :: ts.map T.toD))) (fun u a => by
      simp only [T.toD]
      generalize u.toD = UD at *
      generalize a.toD = AD at *
      generalize t.toD = TD at *
      generalize k.code = KC at *
      generalize ts.map T.toD = IM at *
      simp (disch := first | assumption | omega | (simp only [List.length_append, List.length_cons, List.length_nil, List.length_map, List.length_reverse, List.length_replicate, List.length_range, List.length_take, List.length_drop, enD_length, rangeD_length]; omega) | (simp; done) | fail) [decide_eq_true, decide_eq_false, kAsg, kNx, b_chained_af29_l2]) ts t .emp
    have hl3 : (ts.map T.toD).length ≤ 100000 := by rw [List.length_map]; exact hl
    generalize (ts.foldl (fun a b => T.bin k a b) t).toD = FD at *
    generalize t.toD = TD at *
    generalize ts.map T.toD = IM at *
    generalize k.code = KC at *
    simp (disch := first | assumption | omega | (simp only [List.length_append, List.length_cons, List.length_nil, List.length_map, List.length_reverse, List.length_replicate, List.length_range, List.length_take, List.length_drop, enD_length, rangeD_length]; omega) | (simp; done) | fail) [decide_eq_true, decide_eq_false, kAsg, kNx, b_chained_af29, hc, hcut, h]
end PL
set_option Elab.async false
set_option linter.all false
set_option maxRecDepth 100000
set_option maxHeartbeats 1000000
set_option exponentiation.threshold 20000
namespace PL
set_option autoImplicit false
open PySem L2 PyProof.Rows
def itsR (x : RowW) : List T := x.1.2 :: x.2.map fun q => q.2.2
def sgsR (x : RowW) : List K4 := x.2.map fun q => q.1
/-- parts beside their bounds: low, end -/
inductive Cut (its : List T) (sgs : List K4) : Nat → List Nat → List RowW → Prop
  | one {lo e : Nat} {x : RowW} : (its.drop lo).take (e + 1 - lo) = itsR x → (sgs.drop lo).take (e - lo) = sgsR x → lo ≤ e → Cut its sgs lo [e] [x]
  | more {lo e : Nat} {es : List Nat} {x : RowW} {xs : List RowW} : (its.drop lo).take (e + 1 - lo) = itsR x → (sgs.drop lo).take (e - lo) = sgsR x → lo ≤ e → Cut its sgs (e + 1) es xs → Cut its sgs lo (e :: es) (x :: xs)
end PL
set_option Elab.async false
set_option linter.all false
set_option maxRecDepth 100000
set_option maxHeartbeats 1000000
set_option exponentiation.threshold 20000
namespace PL
set_option autoImplicit false
open PySem L2 PyProof.Rows
end PL
set_option Elab.async false
set_option linter.all false
set_option maxRecDepth 100000
set_option maxHeartbeats 1000000
set_option exponentiation.threshold 20000
namespace PL
set_option autoImplicit false
open PySem L2 PyProof.Rows
end PL
set_option Elab.async false
set_option linter.all false
set_option maxRecDepth 100000
set_option maxHeartbeats 1000000
set_option exponentiation.threshold 20000
namespace PL
set_option autoImplicit false
open PySem L2 PyProof.Rows
def kds : List K4 := [.sm, .th, .or, .an]
theorem Cut.at {its : List T} {sgs : List K4} : ∀ {lo : Nat} {es : List Nat} {xs : List RowW}, Cut its sgs lo es xs → es.length = xs.length ∧ ∀ (i : Nat) (h : i < xs.length), ∃ a e, (lo :: es.map (· + 1))[i]? = some a ∧ es[i]? = some e ∧ (its.drop a).take (e + 1 - a) = itsR xs[i] ∧ (sgs.drop a).take (e - a) = sgsR xs[i] ∧ a ≤ e := by
  intro lo es xs h
  induction h with
  | one h1 h2 h3 =>
    refine ⟨rfl, fun i hi => ?_⟩
    have : i = 0 := by simp at hi; omega
    subst this
    exact ⟨_, _, rfl, rfl, h1, h2, h3⟩
  | more h1 h2 h3 _ ih =>
    obtain ⟨i1, i2⟩ := ih
    refine ⟨by simp [i1], fun i hi => ?_⟩
    cases i with
    | zero => exact ⟨_, _, rfl, rfl, h1, h2, h3⟩
    | succ i =>
      obtain ⟨a, e, g1, g2, g3, g4, g5⟩ := i2 i (by simpa using hi)
      exact ⟨a, e, by simpa using g1, by simpa using g2, by simpa using g3, by simpa using g4, g5⟩
def DueN (n : Nat) (f : Fn) : Prop := (∀ (text : List Nat) (t : T), text.length ≤ 100000 → t.depth ≤ n → (readF text = if 200 < text.length then .bad else if 40 < t.depth then .deep else .tree t) → f [.val (.str text), .val t.toD] = .ok (.val (.bl true)) [.val (.str text), .val t.toD]) ∧
  (∀ text : List Nat, text.length ≤ 100000 → readF text = .bad → f [.val (.str text), .val .non] = .ok (.val (.bl true)) [.val (.str text), .val .non])
theorem dueN_ok {ft fd fa : Fn} {n : Nat} (ht : ToldR ft) (hd : DepthOk n fd) (ha : AlikeT 40 fa) : DueN n (bodyF 3 2 2 (b_due_909d ft fd fa)) := by
  refine ⟨fun text t hl hdp hr => ?_, fun text hl hr => ?_⟩
  · have h := ht text (by omega)
    have h2 := hd t hdp
    have hn : t.toD.isNon = false := by cases t <;> rfl
    rw [hr] at h
    by_cases q : 200 < text.length
    · rw [if_pos q] at h
      simp only [rdD] at h
      have q' : (200 : Int) < (text.length : Int) := by omega
      generalize t.toD = TD at *
      simp (disch := first | assumption | omega | (simp only [List.length_append, List.length_cons, List.length_nil, List.length_map, List.length_reverse, List.length_replicate, List.length_range, List.length_take, List.length_drop, enD_length, rangeD_length]; omega) | (simp; done) | fail) [decide_eq_true, decide_eq_false, kAsg, kNx, b_due_909d, hn, q', h]
    · rw [if_neg q] at h
      have q' : ¬ (200 : Int) < (text.length : Int) := by omega
      by_cases q2 : 40 < t.depth
      · rw [if_pos q2] at h
        simp only [rdD] at h
        have q2' : (40 : Int) < (t.depth : Int) := by omega
        generalize t.toD = TD at *
        simp (disch := first | assumption | omega | (simp only [List.length_append, List.length_cons, List.length_nil, List.length_map, List.length_reverse, List.length_replicate, List.length_range, List.length_take, List.length_drop, enD_length, rangeD_length]; omega) | (simp; done) | fail) [decide_eq_true, decide_eq_false, kAsg, kNx, b_due_909d, hn, q', h, h2, q2']
      · have h3 := ha.2 t (by omega)
        unfold AlikeD at h3
        rw [if_neg q2] at h
        simp only [rdD] at h
        have q2' : ¬ (40 : Int) < (t.depth : Int) := by omega
        generalize t.toD = TD at *
        simp (disch := first | assumption | omega | (simp only [List.length_append, List.length_cons, List.length_nil, List.length_map, List.length_reverse, List.length_replicate, List.length_range, List.length_take, List.length_drop, enD_length, rangeD_length]; omega) | (simp; done) | fail) [decide_eq_true, decide_eq_false, kAsg, kNx, b_due_909d, hn, q', h, h2, q2', h3]
  · have h := ht text (by omega)
    rw [hr] at h
    simp only [rdD] at h
    simp (disch := first | assumption | omega | (simp only [List.length_append, List.length_cons, List.length_nil, List.length_map, List.length_reverse, List.length_replicate, List.length_range, List.length_take, List.length_drop, enD_length, rangeD_length]; omega) | (simp; done) | fail) [decide_eq_true, decide_eq_false, kAsg, kNx, b_due_909d, h]
end PL
set_option Elab.async false
set_option linter.all false
set_option maxRecDepth 100000
set_option maxHeartbeats 1000000
set_option exponentiation.threshold 20000
namespace PL
set_option autoImplicit false
open PySem L2 PyProof.Rows
def shal (n : Nat) (x : RowW) : Prop := x.1.2.depth ≤ n ∧ ∀ q ∈ x.2, q.2.2.depth ≤ n
structure RowSt (x : RowW) (text : List Nat) : Prop where
  ok : RwOk (fun _ => True) x
  sh : shal 4 x
  tx : Tx (wR x) text
  len : text.length ≤ 230
theorem tx_blanks : ∀ (n : Nat) {ws : List (List Nat)} {cs : List Nat}, Tx ws cs → Tx ws (List.replicate n 32 ++ cs)
  | 0, _, _, h => h
  | n + 1, _, _, h => .bl (tx_blanks n h)
theorem tx_trail {ws : List (List Nat)} {cs : List Nat} (h : Tx ws cs) (n : Nat) : Tx ws (cs ++ List.replicate n 32) := by
  have h2 := tx_blanks n Tx.nil
  rw [List.append_nil] at h2
  have h3 := h.app (c2 := List.replicate n 32) (fun c r e => by
    cases n with
    | zero => cases e
    | succ n => cases e; decide) h2
  rwa [List.append_nil] at h3
theorem RowSt.one {ws : List (List Nat)} {t : T} {w : List Nat} (hE : E 5 ws t) (hT : Tx ws w) (hd : t.depth ≤ 4) (hl : w.length ≤ 230) : RowSt ((ws, t), []) w :=
  ⟨⟨hE, fun q hq => (by cases hq)⟩, ⟨hd, fun q hq => (by cases hq)⟩, by show Tx (ws ++ []) w; rw [List.append_nil]; exact hT, hl⟩
theorem RowSt.read {x : RowW} {text : List Nat} (h : RowSt x text) (n : Nat) : readF (text ++ List.replicate n 32) = if 200 < (text ++ List.replicate n 32).length then .bad else if 40 < (groupT kds x).depth then .deep else .tree (groupT kds x) :=
  read_of (tx_trail h.tx n) (group_E x h.ok)
end PL
set_option Elab.async false
set_option linter.all false
set_option maxRecDepth 100000
set_option maxHeartbeats 1000000
namespace PL
set_option autoImplicit false
open PySem L2 PyProof.Rows
/-- how strongly an operand must bind under what waits -/
def needS (a : Nat) : Nat := if a = 40 then 1 else if a = 126 then 5 else rightS (kSg a)
def topN : List Nat → Nat
  | [] => 1
  | a :: _ => needS a
/-- the words so far: what waits, and what is done under it -/
def Pen : List (List Nat) → List Nat → List (T × Nat) → Prop
  | u, [], dn => u = [] ∧ dn = []
  | u, c :: wt, dn => (c = 126 ∧ ∃ u1, u = u1 ++ [[126]] ∧ Pen u1 wt dn) ∨ (c = 40 ∧ ∃ u1, u = u1 ++ [[40]] ∧ Pen u1 wt dn) ∨
    ∃ (k : K4) (u1 w : List (List Nat)) (t : T) (d : Nat) (dn' : List (T × Nat)), c = k.sign ∧ u = u1 ++ (w ++ [[k.sign]]) ∧ dn = (t, d) :: dn' ∧ E (leftS k) w t ∧ topN wt ≤ k.st ∧ Pen u1 wt dn'
/-- a sentence stands on top, as strong as p -/
def Stand (p : Nat) (u : List (List Nat)) (wt : List Nat) (dn : List (T × Nat)) : Prop := ∃ (u0 w : List (List Nat)) (t : T) (d : Nat) (dn' : List (T × Nat)), u = u0 ++ w ∧ dn = (t, d) :: dn' ∧ Pen u0 wt dn' ∧ E p w t ∧ topN wt ≤ p ∧ 1 ≤ p
theorem sign_ne (k : K4) : k.sign ≠ 126 ∧ k.sign ≠ 40 := by cases k <;> decide
theorem k4_st (k : K4) : 1 ≤ k.st ∧ k.st ≤ 4 := by cases k <;> decide
theorem needS_le (a : Nat) : needS a ≤ 5 := by
  unfold needS
  split
  · decide
  · split
    · decide
    · cases kSg a <;> decide
theorem topN_le (wt : List Nat) : topN wt ≤ 5 := by
  cases wt with
  | nil => decide
  | cons a r => exact needS_le a
/-- one fold -/
theorem Stand.fold {p : Nat} {u : List (List Nat)} {a : Nat} {wt : List Nat} {dn : List (T × Nat)} (h : Stand p u (a :: wt) dn) (h40 : a ≠ 40) : ∃ q, Stand q u wt (foldF a dn) ∧ ((a = 126 ∧ q = 5) ∨ ∃ k : K4, a = k.sign ∧ q = k.st) := by
  obtain ⟨u0, w, t, d, dn', rfl, rfl, hp, hE, ht, h1⟩ := h
  rcases hp with ⟨rfl, u1, rfl, hp⟩ | ⟨rfl, _⟩ | ⟨k, u1, w1, t1, d1, dn2, rfl, rfl, rfl, hE1, ht1, hp⟩
  · refine ⟨5, ⟨u1, [126] :: w, .nt t, d + 1, dn', by simp, ?_, hp, .nt (hE.down ht), topN_le wt, by decide⟩, .inl ⟨rfl, rfl⟩⟩
    cases dn' <;> rfl
  · exact absurd rfl h40
  · have ht : rightS k ≤ p := by
      have h2 := sign_ne k
      have : needS k.sign ≤ p := ht
      unfold needS at this
      rw [if_neg h2.2, if_neg h2.1, sign_k] at this
      exact this
    refine ⟨k.st, ⟨u1, w1 ++ [k.sign] :: w, .bin k t1 t, 1 + max d d1, dn2, by simp, ?_, hp, .bin k hE1 (hE.down ht), ht1, (k4_st k).1⟩, .inr ⟨k, rfl, rfl⟩⟩
    show (if k.sign = 126 then _ else _) = _
    rw [if_neg (sign_ne k).1, sign_k]
theorem Stand.pop {q : Nat → Bool} (hq : q 40 = false) (P : Nat → Prop) (h5 : P 5) (hk : ∀ k : K4, q k.sign = true → P k.st) : ∀ (wt : List Nat) (p : Nat) (u : List (List Nat)) (dn : List (T × Nat)), Stand p u wt dn → P p → ∃ p', Stand p' u (popW q dn wt).2 (popW q dn wt).1 ∧ P p'
  | [], p, u, dn, h, hp => ⟨p, h, hp⟩
  | a :: wt, p, u, dn, h, hp => by
    by_cases e : q a = true
    · obtain ⟨p1, h1, h2⟩ := h.fold (fun z => by subst z; rw [hq] at e; cases e)
      have e1 : popW q dn (a :: wt) = popW q (foldF a dn) wt := if_pos e
      rw [e1]
      refine Stand.pop hq P h5 hk wt p1 u _ h1 ?_
      rcases h2 with ⟨_, rfl⟩ | ⟨k, rfl, rfl⟩
      · exact h5
      · exact hk k e
    · have e1 : popW q dn (a :: wt) = (dn, a :: wt) := if_neg e
      rw [e1]
      exact ⟨p, h, hp⟩
theorem gf_left (k j : K4) (h : gf k.sign j.sign = true) : leftS k ≤ j.st := by revert h; cases k <;> cases j <;> decide
theorem gf_need (k : K4) (a : Nat) (ha : waitS a = true) (h : gf k.sign a = false) : needS a ≤ k.st := by
  rcases waitS_cases ha with rfl | rfl | rfl | rfl | rfl | rfl <;> revert h <;> cases k <;> decide
theorem binS_sign {c : Nat} (h : binS c = true) : ∃ k : K4, c = k.sign := by
  rcases binS_cases h with rfl | rfl | rfl | rfl
  · exact ⟨.sm, rfl⟩
  · exact ⟨.th, rfl⟩
  · exact ⟨.or, rfl⟩
  · exact ⟨.an, rfl⟩
theorem leafF_depth {w : List Nat} {t : T} (h : leafF w = some t) : t.depth = 1 := by
  unfold leafF at h
  split at h
  · cases h; rfl
  · split at h
    · cases h; rfl
    · split at h
      · split at h
        · cases h; rfl
        · cases h
      · cases h
/-- what holds between the words -/
def Mid (u : List (List Nat)) (b : Bool) (wt : List Nat) (dn : List (T × Nat)) : Prop := wtOk wt ∧ if b = true then Pen u wt dn else Stand 5 u wt dn
theorem popW_mem (q : Nat → Bool) : ∀ (wt : List Nat) (dn : List (T × Nat)), ∀ c ∈ (popW q dn wt).2, c ∈ wt
  | [], dn, c, h => by simp [popW] at h
  | a :: wt, dn, c, h => by
    unfold popW at h
    split at h
    · exact List.mem_cons_of_mem _ (popW_mem q wt _ c h)
    · exact h
theorem Mid.step {u : List (List Nat)} {b b' : Bool} {w : List Nat} {dn dn' : List (T × Nat)} {wt wt' : List Nat} (h : Mid u b wt dn) (e : stepR w b dn wt = some (b', dn', wt')) : Mid (u ++ [w]) b' wt' dn' := by
  obtain ⟨hw, h⟩ := h
  unfold stepR at e
  cases b with
  | true =>
    simp only [if_true] at e h
    unfold begunF at e
    split at e
    next q =>
      cases e; subst q
      exact ⟨fun c hc => by rcases List.mem_cons.mp hc with rfl | hc; rfl; exact hw c hc, .inl ⟨rfl, u, rfl, h⟩⟩
    · split at e
      next q =>
        cases e; subst q
        exact ⟨fun c hc => by rcases List.mem_cons.mp hc with rfl | hc; rfl; exact hw c hc, .inr (.inl ⟨rfl, u, rfl, h⟩)⟩
      · obtain ⟨t, ht, e⟩ := Option.map_eq_some_iff.mp e
        cases e
        exact ⟨hw, u, [w], t, 1, dn, rfl, rfl, h, .leaf w t ht (leafF_depth ht), topN_le _, by decide⟩
  | false =>
    simp only [Bool.false_eq_true, if_false] at e h
    unfold goneF at e
    split at e
    next q =>
      subst q
      obtain ⟨p, hs, hp⟩ := Stand.pop (q := fun c => decide (c ≠ 40)) (by decide) (fun p => 1 ≤ p) (by decide) (fun k _ => (k4_st k).1) wt 5 u dn h (by decide)
      have hmem := popW_mem (fun c => decide (c ≠ 40)) wt dn
      cases e2 : (popW (fun c => decide (c ≠ 40)) dn wt).2 with
      | nil => rw [e2] at e; cases e
      | cons c r =>
        have hc := popW_head wt dn e2
        have hc : c = 40 := by simpa using hc
        subst hc
        rw [e2] at e hs hmem
        cases e
        refine ⟨fun x hx => hw x (hmem x (by simp [hx])), ?_⟩
        obtain ⟨u0, w, t, d, dn2, rfl, ed, hpn, hE, _, _⟩ := hs
        rcases hpn with ⟨z, _⟩ | ⟨_, u1, rfl, hpn⟩ | ⟨k, _, _, _, _, _, z, _⟩
        · exact absurd z (by decide)
        · exact ⟨u1, [40] :: (w ++ [[41]]), t, d, dn2, by simp, ed, hpn, .br (hE.down hp), topN_le _, by decide⟩
        · exact absurd z.symm (sign_ne k).2
    · rcases w with _ | ⟨c, _ | ⟨c2, r⟩⟩
      · cases e
      · unfold signF at e
        simp only at e
        split at e
        next hc =>
          cases e
          obtain ⟨k, rfl⟩ := binS_sign hc
          obtain ⟨p, hs, hp⟩ := Stand.pop (q := gf k.sign) rfl (fun p => leftS k ≤ p) (by cases k <;> decide) (fun j hj => gf_left k j hj) wt 5 u dn h (by cases k <;> decide)
          have hmem := popW_mem (gf k.sign) wt dn
          have hhd := fun c r (e : (popW (gf k.sign) dn wt).2 = c :: r) => popW_head wt dn e
          generalize (popW (gf k.sign) dn wt).2 = wt2 at *
          generalize (popW (gf k.sign) dn wt).1 = dn2 at *
          have hw2 : wtOk wt2 := fun x hx => hw x (hmem x hx)
          refine ⟨fun x hx => ?_, ?_⟩
          · rcases List.mem_cons.mp hx with rfl | hx
            · simp [waitS, hc]
            · exact hw2 x hx
          · obtain ⟨u0, w, t, d, dn3, rfl, ed, hpn, hE, _, _⟩ := hs
            refine .inr (.inr ⟨k, u0, w, t, d, dn3, rfl, by simp, ed, hE.down hp, ?_, hpn⟩)
            cases wt2 with
            | nil => exact (k4_st k).1
            | cons a r => exact gf_need k a (hw2 a (by simp)) (hhd a r rfl)
        next => cases e
      · cases e
theorem Mid.run : ∀ (ws u : List (List Nat)) (b : Bool) (dn : List (T × Nat)) (wt : List Nat) {b' : Bool} {dn' : List (T × Nat)} {wt' : List Nat}, Mid u b wt dn → runF ws b dn wt = some (b', dn', wt') → Mid (u ++ ws) b' wt' dn'
  | [], u, b, dn, wt, b', dn', wt', h, e => by
    cases e
    rw [List.append_nil]
    exact h
  | w :: ws, u, b, dn, wt, b', dn', wt', h, e => by
    unfold runF at e
    cases e1 : stepR w b dn wt with
    | none => rw [e1] at e; cases e
    | some x =>
      obtain ⟨b1, dn1, wt1⟩ := x
      rw [e1] at e
      have := Mid.run ws (u ++ [w]) b1 dn1 wt1 (h.step e1) e
      rwa [List.append_assoc] at this
theorem Stand.end : ∀ (wt : List Nat) (p : Nat) (u : List (List Nat)) (dn dn' : List (T × Nat)), Stand p u wt dn → endF wt dn = some dn' → ∃ q, Stand q u [] dn'
  | [], p, u, dn, dn', h, e => by cases e; exact ⟨p, h⟩
  | c :: wt, p, u, dn, dn', h, e => by
    unfold endF at e
    split at e
    · cases e
    next q =>
      obtain ⟨p1, h1, _⟩ := h.fold q
      exact Stand.end wt p1 u _ dn' h1 e
/-- what is read was well written -/
theorem readW_sound {ws : List (List Nat)} (h : readW ws ≠ .bad) : ∃ t, E 1 ws t := by
  unfold readW at h
  cases e : runF ws true [] [] with
  | none => rw [e] at h; exact absurd rfl h
  | some x =>
    obtain ⟨b, dn, wt⟩ := x
    rw [e] at h
    have hm := Mid.run ws [] true [] [] ⟨fun c hc => (by cases hc), ⟨rfl, rfl⟩⟩ e
    cases b with
    | true => exact absurd rfl h
    | false =>
      obtain ⟨_, hs⟩ := hm
      simp only [Bool.false_eq_true, if_false, List.nil_append] at hs
      cases e2 : endF wt dn with
      | none =>
        have : finF (some (false, dn, wt)) = .bad := by show lastF (endF wt dn) = _; rw [e2]; rfl
        exact absurd this h
      | some dn' =>
        obtain ⟨q, u0, w, t, d, dn3, rfl, ed, ⟨rfl, rfl⟩, hE, _, h1⟩ := Stand.end wt 5 _ dn dn' hs e2
        exact ⟨t, by rw [List.nil_append]; exact hE.down h1⟩
end PL
set_option Elab.async false
set_option linter.all false
set_option maxRecDepth 100000
set_option maxHeartbeats 1000000
namespace PL
set_option autoImplicit false
open PySem L2 PyProof.Rows
/-- a word of one sign that p holds of -/
def pW (p : Nat → Bool) : List Nat → Bool
  | [c] => p c
  | _ => false
theorem pW_run {p : Nat → Bool} (hp : ∀ c, p c = true → c ∉ abc) {w : List Nat} (h : ∀ c ∈ w, c ∈ abc) : pW p w = false := by
  match w with
  | [] => rfl
  | [c] =>
    show p c = false
    cases e : p c with
    | false => rfl
    | true => exact absurd (h c (by simp)) (hp c e)
  | _ :: _ :: _ => rfl
theorem wordsGo_cnt {p : Nat → Bool} (hp : ∀ c, p c = true → c ∉ abc) (h32 : p 32 = false) : ∀ (cs run : List Nat) (acc ws : List (List Nat)), (∀ c ∈ run, c ∈ abc) → wordsGo cs run acc = some ws → ws.countP (pW p) = acc.countP (pW p) + cs.countP p
  | [], run, acc, ws, _, h => by
    unfold wordsGo at h
    cases h
    simp
  | c :: cs, run, acc, ws, hr, h => by
    unfold wordsGo at h
    have hrun := pW_run hp hr
    have hA : (if run ≠ [] then acc ++ [run] else acc).countP (pW p) = acc.countP (pW p) := by
      split
      · rw [List.countP_append, List.countP_cons, List.countP_nil, hrun]; simp
      · rfl
    generalize (if run ≠ [] then acc ++ [run] else acc) = A at *
    rw [List.countP_cons]
    split at h
    next q =>
      have ih := wordsGo_cnt hp h32 cs (run ++ [c]) acc ws (fun x hx => by
        rcases List.mem_append.mp hx with hx | hx
        · exact hr x hx
        · have : x = c := by simpa using hx
          subst this; exact q) h
      have : p c = false := by
        cases e : p c with
        | false => rfl
        | true => exact absurd q (hp c e)
      rw [ih, this]
      simp
    · split at h
      · cases h
      · split at h
        · have ih := wordsGo_cnt hp h32 cs [] (A ++ [[c]]) ws (fun x hx => (by cases hx)) h
          rw [ih, List.countP_append, hA, List.countP_cons, List.countP_nil]
          show _ + (0 + if p c = true then 1 else 0) + _ = _
          omega
        · split at h
          · cases h
          next q =>
            have q : c = 32 := by simpa using q
            subst q
            have ih := wordsGo_cnt hp h32 cs [] A ws (fun x hx => (by cases hx)) h
            rw [ih, hA, h32]
            simp
theorem wordsF_cnt {p : Nat → Bool} (hp : ∀ c, p c = true → c ∉ abc) (h32 : p 32 = false) {text : List Nat} {ws : List (List Nat)} (h : wordsF text = some ws) : ws.countP (pW p) = text.countP p := by
  have := wordsGo_cnt hp h32 (text ++ [32]) [] [] ws (fun c hc => (by cases hc)) h
  rw [this, List.countP_append]
  simp [h32]
def brP (c : Nat) : Bool := c == 40
def cnP (c : Nat) : Bool := binS c || c == 126
theorem E_dep {p : Nat} {ws : List (List Nat)} {t : T} (h : E p ws t) : t.depth ≤ 1 + ws.countP (pW cnP) := by
  induction h with
  | leaf w t h hd => omega
  | @nt ws t _ ih =>
    rw [List.countP_cons]
    have : pW cnP [126] = true := rfl
    rw [this]
    simp only [T.depth, if_true]
    omega
  | @br ws t _ ih =>
    rw [List.countP_cons, List.countP_append]
    omega
  | @bin k w1 w2 t1 t2 _ _ ih1 ih2 =>
    rw [List.countP_append, List.countP_cons]
    have e1 : pW cnP [k.sign] = true := by cases k <;> rfl
    rw [e1]
    simp only [T.depth, if_true]
    omega
  | up _ ih => exact ih
theorem brP_abc (c : Nat) (h : brP c = true) : c ∉ abc := by
  have : c = 40 := by simpa [brP] using h
  subst this
  decide
theorem cnP_abc (c : Nat) (h : cnP c = true) : c ∉ abc := by
  simp only [cnP, binS, Bool.or_eq_true, beq_iff_eq] at h
  have : c = 61 ∨ c = 62 ∨ c = 124 ∨ c = 38 ∨ c = 126 := by omega
  rcases this with rfl | rfl | rfl | rfl | rfl <;> decide
end PL
set_option Elab.async false
set_option linter.all false
set_option maxRecDepth 100000
set_option maxHeartbeats 1000000
namespace PL
set_option autoImplicit false
open PySem L2 PyProof.Rows
abbrev Wd := List Nat
/-- the level behind a word -/
def lvW (w : Wd) (l : Nat) : Nat := if w = [40] then l + 1 else if w = [41] then l - 1 else l
def binW (w : Wd) : Bool := pW binS w
/-- balanced: from level l to 0, never below -/
def balW : List Wd → Nat → Bool
  | [], l => l == 0
  | w :: ws, l => if w = [41] ∧ l = 0 then false else balW ws (lvW w l)
/-- the signs at level 0 -/
def topW : List Wd → Nat → List Wd
  | [], _ => []
  | w :: ws, l => if l = 0 ∧ binW w = true then w :: topW ws l else topW ws (lvW w l)
def splW (s : Wd) : List Wd → Nat → List Wd × List (List Wd)
  | [], _ => ([], [])
  | w :: ws, l => if l = 0 ∧ w = s then ([], (splW s ws l).1 :: (splW s ws l).2) else (w :: (splW s ws (lvW w l)).1, (splW s ws (lvW w l)).2)
theorem sg_lv (k : K4) (l : Nat) : lvW [k.sign] l = l := by cases k <;> rfl
theorem sg_binW (k : K4) : binW [k.sign] = true := by cases k <;> rfl
theorem E_le {p : Nat} {ws : List Wd} {t : T} (h : E p ws t) : p ≤ 5 := by
  induction h with
  | leaf => decide
  | nt => decide
  | br => decide
  | bin k => cases k <;> decide
  | up _ ih => omega
/-- what a written sentence does to levels and signs -/
structure Ngl (p : Nat) (ws : List Wd) : Prop where
  bal : ∀ r l, balW (ws ++ r) l = balW r l
  top0 : ∀ r, topW (ws ++ r) 0 = topW ws 0 ++ topW r 0
  topS : ∀ r l, topW (ws ++ r) (l + 1) = topW r (l + 1)
  spl0 : ∀ (k : K4) r, [k.sign] ∉ topW ws 0 → splW [k.sign] (ws ++ r) 0 = (ws ++ (splW [k.sign] r 0).1, (splW [k.sign] r 0).2)
  splS : ∀ (k : K4) r l, splW [k.sign] (ws ++ r) (l + 1) = (ws ++ (splW [k.sign] r (l + 1)).1, (splW [k.sign] r (l + 1)).2)
  st : ∀ k : K4, [k.sign] ∈ topW ws 0 → p ≤ k.st
  isK : ∀ w ∈ topW ws 0, ∃ k : K4, w = [k.sign]
theorem lv_plain {w : Wd} (h1 : w ≠ [40]) (h2 : w ≠ [41]) (l : Nat) : lvW w l = l := by unfold lvW; rw [if_neg h1, if_neg h2]
theorem ngl_one {w : Wd} {p : Nat} (h1 : w ≠ [40]) (h2 : w ≠ [41]) (h3 : binW w = false) : Ngl p [w] := by
  have hs : ∀ k : K4, w ≠ [k.sign] := fun k e => by subst e; rw [sg_binW] at h3; cases h3
  refine ⟨fun r l => ?_, fun r => ?_, fun r l => ?_, fun k r _ => ?_, fun k r l => ?_, fun k hk => ?_, fun v hv => ?_⟩
  · show (if w = [41] ∧ l = 0 then false else balW r (lvW w l)) = _
    rw [if_neg (fun h => h2 h.1), lv_plain h1 h2]
  · show (if 0 = 0 ∧ binW w = true then _ else topW r (lvW w 0)) = (if 0 = 0 ∧ binW w = true then _ else topW [] (lvW w 0)) ++ _
    rw [if_neg (by simp [h3]), if_neg (by simp [h3]), lv_plain h1 h2]; rfl
  · show (if l + 1 = 0 ∧ binW w = true then _ else topW r (lvW w (l + 1))) = _
    rw [if_neg (by simp), lv_plain h1 h2]
  · show (if 0 = 0 ∧ w = [k.sign] then _ else (w :: (splW [k.sign] r (lvW w 0)).1, (splW [k.sign] r (lvW w 0)).2)) = _
    rw [if_neg (fun h => hs k h.2), lv_plain h1 h2]; rfl
  · show (if l + 1 = 0 ∧ w = [k.sign] then _ else (w :: (splW [k.sign] r (lvW w (l + 1))).1, (splW [k.sign] r (lvW w (l + 1))).2)) = _
    rw [if_neg (by simp), lv_plain h1 h2]; rfl
  · have e : topW [w] 0 = [] := by
      show (if 0 = 0 ∧ binW w = true then _ else topW [] (lvW w 0)) = _
      rw [if_neg (by simp [h3])]; rfl
    rw [e] at hk; cases hk
  · have e : topW [w] 0 = [] := by
      show (if 0 = 0 ∧ binW w = true then _ else topW [] (lvW w 0)) = _
      rw [if_neg (by simp [h3])]; rfl
    rw [e] at hv; cases hv
theorem Ngl.app {p q : Nat} {a b : List Wd} (h : Ngl p a) (g : Ngl q b) (hpq : ∀ k : K4, [k.sign] ∈ topW a 0 ∨ [k.sign] ∈ topW b 0 → p ≤ k.st) : Ngl p (a ++ b) := by
  refine ⟨fun r l => ?_, fun r => ?_, fun r l => ?_, fun k r hk => ?_, fun k r l => ?_, fun k hk => ?_, fun v hv => ?_⟩
  · rw [List.append_assoc, h.bal, g.bal]
  · rw [List.append_assoc, h.top0, g.top0, h.top0 b, List.append_assoc]
  · rw [List.append_assoc, h.topS, g.topS]
  · rw [h.top0, List.mem_append, not_or] at hk
    rw [List.append_assoc, h.spl0 k _ hk.1, g.spl0 k _ hk.2]
    simp
  · rw [List.append_assoc, h.splS, g.splS]
    simp
  · rw [h.top0, List.mem_append] at hk
    exact hpq k hk
  · rw [h.top0, List.mem_append] at hv
    rcases hv with hv | hv
    · exact h.isK v hv
    · exact g.isK v hv
theorem ngl_sign (k : K4) : Ngl k.st [[k.sign]] := by
  have e0 : ∀ l, lvW [k.sign] l = l := sg_lv k
  have n41 : ([k.sign] : Wd) ≠ [41] := by cases k <;> decide
  have tp : topW [[k.sign]] 0 = [[k.sign]] := by
    show (if 0 = 0 ∧ binW [k.sign] = true then [k.sign] :: topW [] 0 else _) = _
    rw [if_pos ⟨rfl, sg_binW k⟩]; rfl
  refine ⟨fun r l => ?_, fun r => ?_, fun r l => ?_, fun j r hk => ?_, fun j r l => ?_, fun j hk => ?_, fun v hv => ?_⟩
  · show (if [k.sign] = [41] ∧ l = 0 then false else balW r (lvW [k.sign] l)) = _
    rw [if_neg (fun h => n41 h.1), e0]
  · rw [tp]
    show (if 0 = 0 ∧ binW [k.sign] = true then [k.sign] :: topW r 0 else _) = _
    rw [if_pos ⟨rfl, sg_binW k⟩]; rfl
  · show (if l + 1 = 0 ∧ binW [k.sign] = true then _ else topW r (lvW [k.sign] (l + 1))) = _
    rw [if_neg (by simp), e0]
  · rw [tp] at hk
    have hne : ¬ ([k.sign] : Wd) = [j.sign] := fun e => hk (by rw [← e]; simp)
    show (if 0 = 0 ∧ [k.sign] = [j.sign] then _ else ([k.sign] :: (splW [j.sign] r (lvW [k.sign] 0)).1, (splW [j.sign] r (lvW [k.sign] 0)).2)) = _
    rw [if_neg (fun h => hne h.2), e0]; rfl
  · show (if l + 1 = 0 ∧ [k.sign] = [j.sign] then _ else ([k.sign] :: (splW [j.sign] r (lvW [k.sign] (l + 1))).1, (splW [j.sign] r (lvW [k.sign] (l + 1))).2)) = _
    rw [if_neg (by simp), e0]; rfl
  · rw [tp] at hk
    have : j = k := by
      have : ([j.sign] : Wd) = [k.sign] := by simpa using hk
      revert this; cases j <;> cases k <;> decide
    rw [this]; exact Nat.le_refl _
  · rw [tp] at hv
    exact ⟨k, by simpa using hv⟩
theorem ngl_br {p q : Nat} {ws : List Wd} (h : Ngl p ws) : Ngl q ([40] :: (ws ++ [[41]])) := by
  have a1 : ∀ l, lvW [40] l = l + 1 := fun l => rfl
  have a2 : ∀ l, lvW [41] (l + 1) = l := fun l => rfl
  have e : ∀ r, [40] :: (ws ++ [[41]]) ++ r = [40] :: (ws ++ [41] :: r) := fun r => by simp
  have tp : ∀ r l, topW ([40] :: (ws ++ [[41]]) ++ r) l = topW r l := fun r l => by
    rw [e]
    show (if l = 0 ∧ binW [40] = true then _ else topW (ws ++ [41] :: r) (l + 1)) = _
    rw [if_neg (fun h => by cases h.2), h.topS]
    show (if l + 1 = 0 ∧ binW [41] = true then _ else topW r l) = _
    rw [if_neg (by simp)]
  have tp0 : topW ([40] :: (ws ++ [[41]])) 0 = [] := by
    have := tp [] 0
    rwa [List.append_nil] at this
  have sp : ∀ (k : K4) r l, splW [k.sign] ([40] :: (ws ++ [[41]]) ++ r) l = ([40] :: (ws ++ [[41]]) ++ (splW [k.sign] r l).1, (splW [k.sign] r l).2) := fun k r l => by
    rw [e]
    have n40 : ¬ ([40] : Wd) = [k.sign] := by cases k <;> decide
    have n41 : ¬ ([41] : Wd) = [k.sign] := by cases k <;> decide
    show (if l = 0 ∧ [40] = [k.sign] then _ else ([40] :: (splW [k.sign] (ws ++ [41] :: r) (l + 1)).1, (splW [k.sign] (ws ++ [41] :: r) (l + 1)).2)) = _
    rw [if_neg (fun h => n40 h.2), h.splS]
    have e2 : splW [k.sign] ([41] :: r) (l + 1) = ([41] :: (splW [k.sign] r l).1, (splW [k.sign] r l).2) := by
      show (if l + 1 = 0 ∧ [41] = [k.sign] then _ else ([41] :: (splW [k.sign] r l).1, (splW [k.sign] r l).2)) = _
      rw [if_neg (fun h => n41 h.2)]
    rw [e2]
    simp
  refine ⟨fun r l => ?_, fun r => ?_, fun r l => tp r _, fun k r _ => sp k r 0, fun k r l => sp k r _, fun k hk => ?_, fun v hv => ?_⟩
  · rw [e]
    show (if [40] = [41] ∧ l = 0 then false else balW (ws ++ [41] :: r) (l + 1)) = _
    rw [if_neg (fun h => by cases h.1), h.bal]
    show (if [41] = [41] ∧ l + 1 = 0 then false else balW r l) = _
    rw [if_neg (by simp)]
  · rw [tp, tp0]; rfl
  · rw [tp0] at hk; cases hk
  · rw [tp0] at hv; cases hv
theorem leaf_words {w : Wd} {t : T} (h : leafF w = some t) : w ≠ [40] ∧ w ≠ [41] ∧ binW w = false := by
  refine ⟨fun e => ?_, fun e => ?_, ?_⟩
  · subst e; revert h; simp [leafF, abc]
  · subst e; revert h; simp [leafF, abc]
  · match w, h with
    | [], _ => rfl
    | [c], h =>
      show binS c = false
      cases e : binS c with
      | false => rfl
      | true =>
        exfalso
        rcases binS_cases e with rfl | rfl | rfl | rfl <;> (revert h; simp [leafF, abc])
    | _ :: _ :: _, _ => rfl
theorem Ngl.down {p q : Nat} {ws : List Wd} (h : Ngl q ws) (hpq : p ≤ q) : Ngl p ws := ⟨h.bal, h.top0, h.topS, h.spl0, h.splS, fun k hk => Nat.le_trans hpq (h.st k hk), h.isK⟩
theorem E_ngl {p : Nat} {ws : List Wd} {t : T} (h : E p ws t) : Ngl p ws := by
  induction h with
  | leaf w t h _ =>
    obtain ⟨h1, h2, h3⟩ := leaf_words h
    exact ngl_one h1 h2 h3
  | @nt ws t _ ih =>
    have h1 : Ngl 5 [([126] : Wd)] := ngl_one (by decide) (by decide) rfl
    exact Ngl.app h1 ih fun k hk => by
      rcases hk with hk | hk
      · exact h1.st k hk
      · exact ih.st k hk
  | br _ ih => exact ngl_br ih
  | @bin k w1 w2 t1 t2 _ _ i1 i2 =>
    have l1 : k.st ≤ leftS k := by cases k <;> decide
    have l2 : k.st ≤ rightS k := by cases k <;> decide
    have hs := ngl_sign k
    have g2 : Ngl k.st ([[k.sign]] ++ w2) := hs.app i2 fun j hj => by
      rcases hj with hj | hj
      · exact hs.st j hj
      · exact Nat.le_trans l2 (i2.st j hj)
    exact (i1.down l1).app g2 fun j hj => by
      rcases hj with hj | hj
      · exact Nat.le_trans l1 (i1.st j hj)
      · exact g2.st j hj
  | up _ ih => exact ih.down (Nat.le_succ _)
end PL
set_option Elab.async false
set_option linter.all false
set_option maxRecDepth 100000
set_option maxHeartbeats 1000000
namespace PL
set_option autoImplicit false
open PySem L2 PyProof.Rows
/-- parts under one sign, any list of them -/
theorem chain_G (k : K4) (ps : List (List Wd × T)) (p : List Wd × T) (h : ∀ q ∈ p :: ps, E (k.st + 1) q.1 q.2) :
    E k.st (p.1 ++ ps.flatMap fun q => [k.sign] :: q.1) (chainT k p.2 (ps.map fun q => q.2)) := by
  unfold chainT
  by_cases hk : k = .th
  · subst hk
    rw [if_pos rfl]
    have key : ∀ (ps : List (List Wd × T)) (p : List Wd × T), (∀ q ∈ p :: ps, E 3 q.1 q.2) → E 2 (p.1 ++ ps.flatMap fun q => [62] :: q.1) (((p.2 :: ps.map fun q => q.2).dropLast).foldr (fun a b => .bin .th a b) ((p.2 :: ps.map fun q => q.2).getLast (by simp))) := fun ps => by
      induction ps with
      | nil =>
        intro p h
        rw [List.flatMap_nil, List.append_nil]
        exact (h p (by simp)).down (by decide)
      | cons z ps ih =>
        intro p h
        have h2 := ih z fun q hq => h q (List.mem_cons_of_mem _ hq)
        have h1 : E 2 (p.1 ++ [62] :: (z.1 ++ ps.flatMap fun q => [62] :: q.1)) _ := E.bin .th ((h p (by simp)).down (by decide)) (h2.down (by decide))
        rw [List.flatMap_cons, List.cons_append]
        exact h1
    exact key ps p h
  · rw [if_neg hk]
    have h1 := chain_left hk ps ((h p (by simp)).down (Nat.le_succ k.st)) (fun q hq => h q (List.mem_cons_of_mem _ hq))
    rw [List.foldl_map]
    exact h1
theorem chain_snoc {k : K4} (hk : k ≠ .th) (t : T) (ts : List T) (u : T) : chainT k t (ts ++ [u]) = .bin k (chainT k t ts) u := by
  unfold chainT
  rw [if_neg hk, if_neg hk, List.foldl_append]; rfl
theorem chain_th (a t : T) (ts : List T) : chainT .th a (t :: ts) = .bin .th a (chainT .th t ts) := rfl
/-- the parts of a sentence under the sign of its strength -/
theorem E_chain {p : Nat} {ws : List Wd} {t : T} (h : E p ws t) : ∀ k : K4, k.st = p → ∃ (q : List Wd × T) (qs : List (List Wd × T)), (∀ x ∈ q :: qs, E (k.st + 1) x.1 x.2) ∧ ws = q.1 ++ (qs.flatMap fun x => [k.sign] :: x.1) ∧ t = chainT k q.2 (qs.map fun x => x.2) := by
  induction h with
  | leaf => intro k e; exact absurd e (by cases k <;> decide)
  | nt => intro k e; exact absurd e (by cases k <;> decide)
  | br => intro k e; exact absurd e (by cases k <;> decide)
  | @bin j w1 w2 t1 t2 h1 h2 i1 i2 =>
    intro k e
    have : k = j := by revert e; cases k <;> cases j <;> decide
    subst this
    by_cases hk : k = .th
    · subst hk
      obtain ⟨q, qs, g1, g2, g3⟩ := i2 .th rfl
      refine ⟨(w1, t1), q :: qs, fun x hx => ?_, ?_, ?_⟩
      · rcases List.mem_cons.mp hx with rfl | hx
        · exact h1
        · exact g1 x hx
      · rw [g2]; simp
      · rw [g3, List.map_cons, chain_th]
    · have hl : leftS k = k.st := if_neg hk
      have hr : rightS k = k.st + 1 := if_neg hk
      rw [hr] at h2
      obtain ⟨q, qs, g1, g2, g3⟩ := i1 k hl.symm
      refine ⟨q, qs ++ [(w2, t2)], fun x hx => ?_, ?_, ?_⟩
      · rcases List.mem_cons.mp hx with rfl | hx
        · exact g1 _ (by simp)
        · rcases List.mem_append.mp hx with hx | hx
          · exact g1 x (by simp [hx])
          · have : x = (w2, t2) := by simpa using hx
            subst this
            exact h2
      · rw [g2]; simp
      · rw [g3, List.map_append, List.map_cons, List.map_nil, chain_snoc hk]
  | @up p ws t h _ =>
    intro k e
    subst e
    exact ⟨(ws, t), [], fun x hx => by
      have : x = (ws, t) := by simpa using hx
      subst this; exact h, by simp, by unfold chainT; split <;> rfl⟩
/-- the weakest sign of a sentence, or none -/
theorem E_desc {ws : List Wd} {t : T} (h : E 1 ws t) : (∃ (k : K4) (q r : List Wd × T) (qs : List (List Wd × T)), E k.st ws t ∧ (∀ x ∈ q :: r :: qs, E (k.st + 1) x.1 x.2) ∧ ws = q.1 ++ ((r :: qs).flatMap fun x => [k.sign] :: x.1) ∧ t = chainT k q.2 ((r :: qs).map fun x => x.2)) ∨ E 5 ws t := by
  have step : ∀ k : K4, E k.st ws t → (∃ (q r : List Wd × T) (qs : List (List Wd × T)), E k.st ws t ∧ (∀ x ∈ q :: r :: qs, E (k.st + 1) x.1 x.2) ∧ ws = q.1 ++ ((r :: qs).flatMap fun x => [k.sign] :: x.1) ∧ t = chainT k q.2 ((r :: qs).map fun x => x.2)) ∨ E (k.st + 1) ws t := fun k h => by
    obtain ⟨q, qs, g1, g2, g3⟩ := E_chain h k rfl
    cases qs with
    | nil =>
      refine .inr ?_
      have e1 : ws = q.1 := by rw [g2]; simp
      have e2 : t = q.2 := by rw [g3]; unfold chainT; split <;> rfl
      rw [e1, e2]
      exact g1 q (by simp)
    | cons r qs => exact .inl ⟨q, r, qs, h, g1, g2, g3⟩
  rcases step .sm h with g | h
  · exact .inl ⟨.sm, g⟩
  rcases step .th h with g | h
  · exact .inl ⟨.th, g⟩
  rcases step .or h with g | h
  · exact .inl ⟨.or, g⟩
  rcases step .an h with g | h
  · exact .inl ⟨.an, g⟩
  exact .inr h
theorem join_top {k : K4} {p : Nat} (q : List Wd × T) (qs : List (List Wd × T)) (h : ∀ x ∈ q :: qs, E (k.st + 1) x.1 x.2) : splW [k.sign] (q.1 ++ qs.flatMap fun x => [k.sign] :: x.1) 0 = (q.1, qs.map fun x => x.1) ∧ (qs ≠ [] → [k.sign] ∈ topW (q.1 ++ qs.flatMap fun x => [k.sign] :: x.1) 0) := by
  induction qs generalizing q with
  | nil =>
    have hq := E_ngl (h q (by simp))
    have nk : [k.sign] ∉ topW q.1 0 := fun e => by have := hq.st k e; omega
    refine ⟨?_, fun e => absurd rfl e⟩
    rw [List.flatMap_nil, hq.spl0 k [] nk]
    simp [splW]
  | cons r qs ih =>
    have hq := E_ngl (h q (by simp))
    have nk : [k.sign] ∉ topW q.1 0 := fun e => by have := hq.st k e; omega
    obtain ⟨i1, _⟩ := ih r fun x hx => h x (List.mem_cons_of_mem _ hx)
    rw [List.flatMap_cons, List.cons_append]
    constructor
    · rw [hq.spl0 k _ nk]
      have e : splW [k.sign] ([k.sign] :: (r.1 ++ qs.flatMap fun x => [k.sign] :: x.1)) 0 = ([], (splW [k.sign] (r.1 ++ qs.flatMap fun x => [k.sign] :: x.1) 0).1 :: (splW [k.sign] (r.1 ++ qs.flatMap fun x => [k.sign] :: x.1) 0).2) := by
        show (if 0 = 0 ∧ [k.sign] = [k.sign] then _ else _) = _
        rw [if_pos ⟨rfl, rfl⟩]
      rw [e, i1]
      simp
    · intro _
      rw [hq.top0]
      refine List.mem_append.mpr (.inr ?_)
      show [k.sign] ∈ (if 0 = 0 ∧ binW [k.sign] = true then [k.sign] :: topW _ 0 else _)
      rw [if_pos ⟨rfl, sg_binW k⟩]
      simp
/-- stronger, where no weaker sign stands at the top -/
theorem E_strong {ws : List Wd} {t : T} (h : E 1 ws t) {q : Nat} (hq : q ≤ 5) (hk : ∀ k : K4, [k.sign] ∈ topW ws 0 → q ≤ k.st) : E q ws t := by
  rcases E_desc h with ⟨k, a, r, qs, g0, g1, g2, g3⟩ | h5
  · have := (join_top (p := 0) a (r :: qs) g1).2 (by simp)
    rw [← g2] at this
    exact g0.down (hk k this)
  · exact h5.down hq
end PL
set_option Elab.async false
set_option linter.all false
set_option maxRecDepth 100000
set_option maxHeartbeats 1000000
namespace PL
set_option autoImplicit false
open PySem L2 PyProof.Rows
def mW (ws : List Wd) : Nat := ws.countP (pW brP) + 2 * ws.countP (pW cnP)
def firstK (ms : List Wd) : Option K4 := if [61] ∈ ms then some .sm else if [62] ∈ ms then some .th else if [124] ∈ ms then some .or else if [38] ∈ ms then some .an else none
def allO : List (Option T) → Option (List T)
  | [] => some []
  | some t :: os => (allO os).map (t :: ·)
  | none :: _ => none
def leafL (w : Wd) : T := if w = [49] then .yes else if w = [48] then .no else .nm w
def chainL (k : K4) : List T → Option T
  | [] => none
  | t :: ts => some (chainT k t ts)
def partS (k : K4) (r0 : List Wd → Option T) (ws : List Wd) : Option T := (allO (((splW [k.sign] ws 0).1 :: (splW [k.sign] ws 0).2).map r0)).bind (chainL k)
def lastS (r1 : List Wd → Option T) (w : Wd) (r : List Wd) : Option T := if w = [126] then (r1 r).map .nt else if w = [40] ∧ (w :: r).getLast (by simp) = [41] then r1 r.dropLast else if r ≠ [] then none else some (leafL w)
def readS (r1 r0 : List Wd → Option T) : List Wd → Option T
  | [] => none
  | w :: r => if balW (w :: r) 0 = false then none else match firstK (topW (w :: r) 0) with
    | some k => partS k r0 (w :: r)
    | none => lastS r1 w r
def lread2 : Nat → (List Wd → Option T) × (List Wd → Option T)
  | 0 => (fun _ => none, fun _ => none)
  | n + 1 => (readS (lread2 n).1 (lread2 n).2, (lread2 n).1)
def lread (n : Nat) : List Wd → Option T := (lread2 n).1
def okWs (ws : List Wd) : Prop := ∀ w ∈ ws, sgW w ∨ okW w
theorem firstK_some {ms : List Wd} {k : K4} (h : firstK ms = some k) : [k.sign] ∈ ms ∧ ∀ j : K4, [j.sign] ∈ ms → k.st ≤ j.st := by
  unfold firstK at h
  split at h
  · cases h
    rename_i q
    exact ⟨q, fun j _ => by cases j <;> decide⟩
  · split at h
    · cases h
      rename_i q0 q
      refine ⟨q, fun j hj => ?_⟩
      cases j with
      | sm => exact absurd hj q0
      | th => decide
      | or => decide
      | an => decide
    · split at h
      · cases h
        rename_i q0 q1 q
        refine ⟨q, fun j hj => ?_⟩
        cases j with
        | sm => exact absurd hj q0
        | th => exact absurd hj q1
        | or => decide
        | an => decide
      · split at h
        · cases h
          rename_i q0 q1 q2 q
          refine ⟨q, fun j hj => ?_⟩
          cases j with
          | sm => exact absurd hj q0
          | th => exact absurd hj q1
          | or => exact absurd hj q2
          | an => decide
        · cases h
theorem firstK_none {ms : List Wd} (h : firstK ms = none) : ∀ j : K4, [j.sign] ∉ ms := by
  unfold firstK at h
  split at h
  · cases h
  · split at h
    · cases h
    · split at h
      · cases h
      · split at h
        · cases h
        · rename_i q0 q1 q2 q3
          intro j hj
          cases j with
          | sm => exact q0 hj
          | th => exact q1 hj
          | or => exact q2 hj
          | an => exact q3 hj
theorem firstK_min {ms : List Wd} {k : K4} (h1 : [k.sign] ∈ ms) (h2 : ∀ j : K4, [j.sign] ∈ ms → k.st ≤ j.st) : firstK ms = some k := by
  cases e : firstK ms with
  | none => exact absurd h1 (firstK_none e k)
  | some j =>
    obtain ⟨g1, g2⟩ := firstK_some e
    have a := h2 j g1
    have b := g2 k h1
    have : j.st = k.st := Nat.le_antisymm b a
    congr 1
    revert this
    cases j <;> cases k <;> decide
theorem allO_some : ∀ {os : List (Option T)} {ts : List T}, allO os = some ts → os = ts.map some
  | [], ts, h => by cases h; rfl
  | none :: os, ts, h => by cases h
  | some t :: os, ts, h => by
    obtain ⟨us, h1, h2⟩ := Option.map_eq_some_iff.mp h
    subst h2
    rw [allO_some h1]; rfl
theorem allO_map : ∀ ts : List T, allO (ts.map some) = some ts
  | [] => rfl
  | t :: ts => by
    show (allO (ts.map some)).map (t :: ·) = _
    rw [allO_map ts]; rfl
theorem spl_join (s : Wd) : ∀ (ws : List Wd) (l : Nat), ws = (splW s ws l).1 ++ (splW s ws l).2.flatMap fun p => s :: p
  | [], l => rfl
  | w :: ws, l => by
    unfold splW
    split
    next h =>
      have := spl_join s ws l
      rw [List.flatMap_cons, List.nil_append, h.2, List.cons_append, ← this]
    next h =>
      have := spl_join s ws (lvW w l)
      rw [List.cons_append, ← this]
theorem spl_top (s : Wd) (hs : s ≠ [40]) (hs2 : s ≠ [41]) : ∀ (ws : List Wd) (l : Nat), (∀ c ∈ topW (splW s ws l).1 l, c ∈ topW ws l ∧ c ≠ s) ∧ ∀ p ∈ (splW s ws l).2, ∀ c ∈ topW p 0, c ∈ topW ws l ∧ c ≠ s
  | [], l => ⟨fun c hc => (by cases hc), fun p hp => (by cases hp)⟩
  | w :: ws, l => by
    have lv : s ≠ [40] → s ≠ [41] → lvW s l = l := fun a b => lv_plain a b l
    unfold splW
    split
    next h =>
      obtain ⟨h0, rfl⟩ := h
      subst h0
      obtain ⟨i1, i2⟩ := spl_top w hs hs2 ws 0
      have mem : ∀ c, c ∈ topW ws 0 → c ∈ topW (w :: ws) 0 := fun c hc => by
        unfold topW
        split
        · exact List.mem_cons_of_mem _ hc
        · rw [lv hs hs2]; exact hc
      refine ⟨fun c hc => (by cases hc), fun p hp c hc => ?_⟩
      rcases List.mem_cons.mp hp with rfl | hp
      · exact ⟨mem c (i1 c hc).1, (i1 c hc).2⟩
      · exact ⟨mem c (i2 p hp c hc).1, (i2 p hp c hc).2⟩
    next h =>
      obtain ⟨i1, i2⟩ := spl_top s hs hs2 ws (lvW w l)
      by_cases hb : l = 0 ∧ binW w = true
      · have hw : w ≠ s := fun e => h ⟨hb.1, e⟩
        have hlv : lvW w l = l := lv_plain (fun e => by rw [e] at hb; cases hb.2) (fun e => by rw [e] at hb; cases hb.2) l
        rw [hlv] at i1 i2 ⊢
        have e1 : topW (w :: ws) l = w :: topW ws l := if_pos hb
        have e2 : topW (w :: (splW s ws l).1) l = w :: topW (splW s ws l).1 l := if_pos hb
        rw [e1]
        refine ⟨fun c hc => ?_, fun p hp c hc => ⟨List.mem_cons_of_mem _ (i2 p hp c hc).1, (i2 p hp c hc).2⟩⟩
        rw [e2] at hc
        rcases List.mem_cons.mp hc with rfl | hc
        · exact ⟨by simp, hw⟩
        · exact ⟨List.mem_cons_of_mem _ (i1 c hc).1, (i1 c hc).2⟩
      · have e1 : topW (w :: ws) l = topW ws (lvW w l) := if_neg hb
        have e2 : topW (w :: (splW s ws (lvW w l)).1) l = topW (splW s ws (lvW w l)).1 (lvW w l) := if_neg hb
        rw [e1, e2]
        exact ⟨i1, i2⟩
theorem spl_mem (s : Wd) (ws : List Wd) (l : Nat) : ∀ p ∈ (splW s ws l).1 :: (splW s ws l).2, ∀ w ∈ p, w ∈ ws := fun p hp w hw => by
  rw [spl_join s ws l]
  rcases List.mem_cons.mp hp with rfl | hp
  · exact List.mem_append.mpr (.inl hw)
  · exact List.mem_append.mpr (.inr (List.mem_flatMap.mpr ⟨p, hp, List.mem_cons_of_mem _ hw⟩))
theorem partS_sound {k : K4} {r0 : List Wd → Option T} {ws : List Wd} {t : T} (hok : okWs ws) (h0 : ∀ ws t, okWs ws → r0 ws = some t → E 1 ws t) (hk : [k.sign] ∈ topW ws 0 ∧ ∀ j : K4, [j.sign] ∈ topW ws 0 → k.st ≤ j.st) (h : partS k r0 ws = some t) : E 1 ws t := by
  have n40 : ([k.sign] : Wd) ≠ [40] := by cases k <;> decide
  have n41 : ([k.sign] : Wd) ≠ [41] := by cases k <;> decide
  obtain ⟨s1, s2⟩ := spl_top [k.sign] n40 n41 ws 0
  have hm := spl_mem [k.sign] ws 0
  have hj := spl_join [k.sign] ws 0
  unfold partS at h
  generalize (splW [k.sign] ws 0).1 = P at *
  generalize (splW [k.sign] ws 0).2 = PS at *
  obtain ⟨ts, e1, h⟩ := Option.bind_eq_some_iff.mp h
  have e2 := allO_some e1
  cases ts with
  | nil => cases h
  | cons u us =>
    cases h
    rw [List.map_cons, List.map_cons] at e2
    injection e2 with e3 e4
    have strong : ∀ p u, (∀ c ∈ topW p 0, c ∈ topW ws 0 ∧ c ≠ [k.sign]) → (∀ w ∈ p, w ∈ ws) → r0 p = some u → E (k.st + 1) p u := fun p u hc hm e => by
      refine E_strong (h0 p u (fun w hw => hok w (hm w hw)) e) (by have := (k4_st k).2; omega) fun j hj => ?_
      obtain ⟨a, b⟩ := hc _ hj
      have h1 := hk.2 j a
      have h2 : j ≠ k := fun e => b (by rw [e])
      have h3 : j.st ≠ k.st := fun e => h2 (by revert e; cases j <;> cases k <;> decide)
      omega
    have parts : ∀ (PS : List (List Wd)) (us : List T), PS.map r0 = us.map some → (∀ p ∈ PS, (∀ c ∈ topW p 0, c ∈ topW ws 0 ∧ c ≠ [k.sign]) ∧ ∀ w ∈ p, w ∈ ws) → ∃ qs : List (List Wd × T), qs.map (fun q => q.1) = PS ∧ qs.map (fun q => q.2) = us ∧ ∀ q ∈ qs, E (k.st + 1) q.1 q.2 := fun PS => by
      induction PS with
      | nil =>
        intro us e _
        cases us with
        | nil => exact ⟨[], rfl, rfl, fun q hq => by cases hq⟩
        | cons u us => cases e
      | cons p PS ih =>
        intro us e hp
        cases us with
        | nil => cases e
        | cons u us =>
          rw [List.map_cons, List.map_cons] at e
          injection e with e5 e6
          obtain ⟨qs, g1, g2, g3⟩ := ih us e6 fun p hq => hp p (List.mem_cons_of_mem _ hq)
          have := hp p (by simp)
          refine ⟨(p, u) :: qs, by simp [g1], by simp [g2], fun q hq => ?_⟩
          rcases List.mem_cons.mp hq with rfl | hq
          · exact strong p u this.1 this.2 e5
          · exact g3 q hq
    obtain ⟨qs, g1, g2, g3⟩ := parts PS us e4 fun p hp => ⟨s2 p hp, hm p (List.mem_cons_of_mem _ hp)⟩
    have hc := chain_G k qs (P, u) fun q hq => by
      rcases List.mem_cons.mp hq with rfl | hq
      · exact strong P u s1 (hm P (by simp)) e3
      · exact g3 q hq
    have hw : ws = P ++ qs.flatMap fun q => [k.sign] :: q.1 := by
      rw [← g1, List.flatMap_map] at hj
      exact hj
    rw [hw, ← g2]
    exact hc.down (k4_st k).1
theorem okW_not {w : Wd} (h : okW w) (c : Nat) (hc : c ∉ abc) : w ≠ [c] := fun e => by
  subst e
  exact hc (h.2.2 c (by simp))
theorem lastS_sound {r1 : List Wd → Option T} {w : Wd} {r : List Wd} {t : T} (hok : okWs (w :: r)) (h1 : ∀ ws t, okWs ws → r1 ws = some t → E 1 ws t) (hb : balW (w :: r) 0 = true) (hk : ∀ j : K4, [j.sign] ∉ topW (w :: r) 0) (h : lastS r1 w r = some t) : E 1 (w :: r) t := by
  unfold lastS at h
  split at h
  next q =>
    subst q
    obtain ⟨u, e1, rfl⟩ := Option.map_eq_some_iff.mp h
    have h2 := h1 r u (fun v hv => hok v (by simp [hv])) e1
    have tp : topW ([126] :: r) 0 = topW r 0 := by
      show (if 0 = 0 ∧ binW [126] = true then _ else topW r (lvW [126] 0)) = _
      rw [if_neg (fun z => by cases z.2)]; rfl
    rw [tp] at hk
    exact (E.nt (E_strong h2 (Nat.le_refl 5) fun j hj => absurd hj (hk j))).down (by decide)
  · split at h
    next q =>
      obtain ⟨rfl, q⟩ := q
      cases r with
      | nil => cases q
      | cons a r =>
        have hl : (a :: r).getLast (by simp) = [41] := by simpa using q
        have e := List.dropLast_concat_getLast (l := a :: r) (by simp)
        rw [hl] at e
        have h2 := h1 (a :: r).dropLast t (fun v hv => hok v (List.mem_cons_of_mem _ ((List.dropLast_sublist _).subset hv))) h
        have := (E.br h2).down (show 1 ≤ 5 by decide)
        rw [e] at this
        exact this
    · split at h
      · cases h
      next q0 q1 q =>
        have q : r = [] := by simpa using q
        subst q
        cases h
        rcases hok w (by simp) with ⟨c, rfl, hc⟩ | hw
        · have hc : c = 61 ∨ c = 62 ∨ c = 124 ∨ c = 38 ∨ c = 126 ∨ c = 48 ∨ c = 49 ∨ c = 40 ∨ c = 41 := by
            simp only [sgnL, onesL, List.mem_cons, List.not_mem_nil, or_false] at hc
            omega
          rcases hc with rfl | rfl | rfl | rfl | rfl | rfl | rfl | rfl | rfl
          · exact absurd (by decide) (hk .sm)
          · exact absurd (by decide) (hk .th)
          · exact absurd (by decide) (hk .or)
          · exact absurd (by decide) (hk .an)
          · exact absurd rfl q0
          · exact (E.leaf [48] .no rfl rfl).down (by decide)
          · exact (E.leaf [49] .yes rfl rfl).down (by decide)
          · cases hb
          · cases hb
        · have e : leafL w = .nm w := by
            unfold leafL
            rw [if_neg (okW_not hw 49 (by decide)), if_neg (okW_not hw 48 (by decide))]
          rw [e]
          exact (E.leaf w (.nm w) (leaf_nm hw) rfl).down (by decide)
theorem readS_cons (r1 r0 : List Wd → Option T) (w : Wd) (r : List Wd) : readS r1 r0 (w :: r) = if balW (w :: r) 0 = false then none else match firstK (topW (w :: r) 0) with
    | some k => partS k r0 (w :: r)
    | none => lastS r1 w r := rfl
theorem readS_sound {r1 r0 : List Wd → Option T} (h1 : ∀ ws t, okWs ws → r1 ws = some t → E 1 ws t) (h0 : ∀ ws t, okWs ws → r0 ws = some t → E 1 ws t) (ws : List Wd) (t : T) (hok : okWs ws) (h : readS r1 r0 ws = some t) : E 1 ws t := by
  cases ws with
  | nil => cases h
  | cons w r =>
    rw [readS_cons] at h
    split at h
    · cases h
    next q =>
      split at h
      next k e => exact partS_sound hok h0 (firstK_some e) h
      next e => exact lastS_sound hok h1 (by simpa using q) (firstK_none e) h
theorem lread2_sound : ∀ n : Nat, (∀ ws t, okWs ws → (lread2 n).1 ws = some t → E 1 ws t) ∧ ∀ ws t, okWs ws → (lread2 n).2 ws = some t → E 1 ws t
  | 0 => ⟨fun ws t _ h => (by cases h), fun ws t _ h => (by cases h)⟩
  | n + 1 => by
    obtain ⟨i1, i2⟩ := lread2_sound n
    exact ⟨readS_sound i1 i2, i1⟩
theorem lread_sound {n : Nat} {ws : List Wd} {t : T} (hok : okWs ws) (h : lread n ws = some t) : E 1 ws t := (lread2_sound n).1 ws t hok h
theorem E5_cases {p : Nat} {ws : List Wd} {t : T} (h : E p ws t) : p = 5 → (∃ w, ws = [w] ∧ leafF w = some t) ∨ (∃ r u, ws = [126] :: r ∧ t = .nt u ∧ E 5 r u) ∨ ∃ r, ws = [40] :: (r ++ [[41]]) ∧ E 1 r t := by
  cases h with
  | leaf w t h _ => exact fun _ => .inl ⟨w, rfl, h⟩
  | nt h => exact fun _ => .inr (.inl ⟨_, _, rfl, rfl, h⟩)
  | br h => exact fun _ => .inr (.inr ⟨_, rfl, h⟩)
  | bin k _ _ => intro e; exact absurd e (by cases k <;> decide)
  | up h => intro e; have := E_le h; omega
theorem E_ne {p : Nat} {ws : List Wd} {t : T} (h : E p ws t) : ws ≠ [] := by
  induction h with
  | leaf => simp
  | nt => simp
  | br => simp
  | bin => simp
  | up _ ih => exact ih
theorem mW_app (a b : List Wd) : mW (a ++ b) = mW a + mW b := by
  unfold mW
  rw [List.countP_append, List.countP_append]
  omega
theorem mW_cons (w : Wd) (b : List Wd) : mW (w :: b) = mW [w] + mW b := mW_app [w] b
theorem mW_sign (k : K4) : mW [[k.sign]] = 2 := by cases k <;> rfl
theorem mW_part (k : K4) (q : List Wd × T) (qs : List (List Wd × T)) : (qs ≠ [] → mW q.1 + 2 ≤ mW (q.1 ++ qs.flatMap fun x => [k.sign] :: x.1)) ∧ ∀ x ∈ qs, mW x.1 + 2 ≤ mW (q.1 ++ qs.flatMap fun x => [k.sign] :: x.1) := by
  induction qs generalizing q with
  | nil => exact ⟨fun e => absurd rfl e, fun x hx => by cases hx⟩
  | cons r qs ih =>
    obtain ⟨_, i2⟩ := ih r
    have e : mW (q.1 ++ (r :: qs).flatMap fun x => [k.sign] :: x.1) = mW q.1 + (2 + mW (r.1 ++ qs.flatMap fun x => [k.sign] :: x.1)) := by
      rw [List.flatMap_cons, List.cons_append, mW_app, mW_cons, mW_sign]
    rw [e]
    refine ⟨fun _ => by omega, fun x hx => ?_⟩
    rcases List.mem_cons.mp hx with rfl | hx
    · rw [mW_app]; omega
    · have := i2 x hx; omega
theorem lread2_complete : ∀ n : Nat, (∀ ws t, E 1 ws t → mW ws < n → (lread2 n).1 ws = some t) ∧ ∀ ws t, E 1 ws t → mW ws + 1 < n → (lread2 n).2 ws = some t
  | 0 => ⟨fun ws t _ h => absurd h (by omega), fun ws t _ h => absurd h (by omega)⟩
  | n + 1 => by
    obtain ⟨i1, i2⟩ := lread2_complete n
    refine ⟨fun ws t h hm => ?_, fun ws t h hm => i1 ws t h (by omega)⟩
    have hn := E_ngl h
    have hb : balW ws 0 = true := by have := hn.bal [] 0; rw [List.append_nil] at this; rw [this]; rfl
    show readS (lread2 n).1 (lread2 n).2 ws = some t
    cases ws with
    | nil => exact absurd rfl (E_ne h)
    | cons w r =>
      rw [readS_cons, if_neg (by rw [hb]; simp)]
      rcases E_desc h with ⟨k, q, p, qs, g0, g1, g2, g3⟩ | h5
      · obtain ⟨j1, j2⟩ := join_top (p := 0) q (p :: qs) g1
        obtain ⟨m1, m2⟩ := mW_part k q (p :: qs)
        rw [← g2] at j1 j2 m1 m2
        rw [firstK_min (j2 (by simp)) (E_ngl g0).st]
        show partS k (lread2 n).2 (w :: r) = some t
        unfold partS
        rw [j1]
        have hr : ((q.1 :: (p :: qs).map fun x => x.1).map (lread2 n).2) = (q.2 :: (p :: qs).map fun x => x.2).map some := by
          have one : ∀ x ∈ q :: p :: qs, (lread2 n).2 x.1 = some x.2 := fun x hx => by
            refine i2 x.1 x.2 ((g1 x hx).down (by omega)) ?_
            rcases List.mem_cons.mp hx with rfl | hx
            · have := m1 (by simp); omega
            · have := m2 x hx; omega
          have key : ∀ l : List (List Wd × T), (∀ x ∈ l, (lread2 n).2 x.1 = some x.2) → (l.map fun x => x.1).map (lread2 n).2 = (l.map fun x => x.2).map some := fun l hl => by
            rw [List.map_map, List.map_map]
            exact List.map_congr_left fun x hx => hl x hx
          exact key (q :: p :: qs) one
        rw [hr, allO_map]
        show some (chainT k q.2 ((p :: qs).map fun x => x.2)) = _
        rw [g3]
      · have hN : firstK (topW (w :: r) 0) = none := by
          cases e : firstK (topW (w :: r) 0) with
          | none => rfl
          | some k =>
            have := (E_ngl h5).st k (firstK_some e).1
            have := (k4_st k).2
            omega
        rw [hN]
        show lastS (lread2 n).1 w r = some t
        unfold lastS
        rcases E5_cases h5 rfl with ⟨v, e, hl⟩ | ⟨r2, u, e, rfl, h6⟩ | ⟨r2, e, h6⟩
        · injection e with e1 e2
          subst e1 e2
          obtain ⟨n1, n2⟩ := leaf_not hl
          rw [if_neg n1, if_neg (fun z => n2 z.1), if_neg (by simp)]
          congr 1
          unfold leafL
          unfold leafF at hl
          split at hl
          next q => cases hl; rw [if_pos q]
          next q =>
            rw [if_neg q]
            split at hl
            next q2 => cases hl; rw [if_pos q2]
            next q2 =>
              rw [if_neg q2]
              split at hl
              · split at hl
                · cases hl; rfl
                · cases hl
              · cases hl
        · injection e with e1 e2
          subst e1 e2
          rw [if_pos rfl, i1 r u (h6.down (by decide)) (by
            rw [mW_cons] at hm
            have : mW [[126]] = 2 := rfl
            omega)]
          rfl
        · injection e with e1 e2
          subst e1 e2
          rw [if_neg (by decide), if_pos ⟨rfl, List.getLast_concat (l := [40] :: r2) (a := [41])⟩]
          have e3 : (r2 ++ [[41]]).dropLast = r2 := List.dropLast_concat
          rw [e3]
          refine i1 r2 t h6 ?_
          rw [mW_cons, mW_app] at hm
          have : mW [[40]] = 1 := rfl
          omega
theorem lread_complete {n : Nat} {ws : List Wd} {t : T} (h : E 1 ws t) (hm : mW ws < n) : lread n ws = some t := (lread2_complete n).1 ws t h hm
/-- the two readings say the same -/
theorem readW_lread {n : Nat} {ws : List Wd} (hok : okWs ws) (hm : mW ws < n) : readW ws = match lread n ws with
    | some t => if 40 < t.depth then .deep else .tree t
    | none => .bad := by
  cases e : lread n ws with
  | some t => exact (lread_sound hok e).read
  | none =>
    show readW ws = .bad
    by_cases h : readW ws = .bad
    · exact h
    · obtain ⟨t, hE⟩ := readW_sound h
      rw [lread_complete hE hm] at e
      cases e
end PL
set_option Elab.async false
set_option linter.all false
set_option maxRecDepth 100000
set_option maxHeartbeats 1000000
namespace PL
set_option autoImplicit false
open PySem L2 PyProof.Rows
theorem rt_cons {ft : D → R (List (Nat × D))} {fb : Es} {d : D} {ds : List D} {ρ ρ' : List Sl} {as : List (Nat × D)} {x : Sl} (h1 : ft d = .ok as) (h2 : fb (setS ρ as) = .rt x ρ') : forGo ft fb (d :: ds) ρ = .rt x ρ' := by
  have e : forGo ft fb (d :: ds) ρ = tryE ρ (noX (ft d)) (fun as => match fb (setS ρ as) with
        | .nx ρ' => forGo ft fb ds ρ'
        | .ct ρ' => forGo ft fb ds ρ'
        | .bk ρ' => .nx ρ'
        | r => r) := rfl
  rw [e, h1]
  show (match fb (setS ρ as) with
        | .nx ρ' => forGo ft fb ds ρ'
        | .ct ρ' => forGo ft fb ds ρ'
        | .bk ρ' => .nx ρ'
        | r => r) = _
  rw [h2]
theorem abc_tab : ∀ c : Nat, c < 128 → decide (97 ≤ c ∧ c ≤ 122) = decide (c ∈ abc) := by decide +kernel
def okL : List Nat := [32, 126, 38, 124, 62, 61, 40, 41, 48, 49]
theorem okc_tab : ∀ c : Nat, c < 128 → decide (c ∈ okL) = decide ((c ∈ sgnL ∨ c ∈ onesL) ∨ c = 32) := by decide +kernel
def optWs : Option (List Wd) → D
  | some ws => .lst (ws.map .str)
  | none => .non
def keepW (w : Wd) : Bool := decide (w ≠ [] ∧ w ≠ [32])
theorem gIn_keep (w : Wd) : gInL (.str w) [.str [], .str [32]] = .ok (!keepW w) := by
  have h := gInL_strs w [[], [32]]
  have h : gInL (.str w) [.str [], .str [32]] = .ok (decide (w ∈ ([[], [32]] : List Wd))) := h
  rw [h]
  congr 1
  unfold keepW
  by_cases q1 : w = []
  · subst q1; rfl
  · by_cases q2 : w = [32]
    · subst q2; rfl
    · simp [q1, q2]
theorem wordsBy_loop (a0 : Sl) : ∀ (cs run : List Nat) (acc : List Wd) (y3 : Sl), run.length + cs.length ≤ 10000 → acc.length + 2 * cs.length ≤ 30000 → (∀ c ∈ cs, c < 128) → (∀ c ∈ run, c ∈ abc) →
    match wordsGo cs run acc with
    | some ws => ∃ x2 x3, forGo (ftOne 3) b_words_by_9931_l1 (chD cs) [a0, .val (.lst (acc.map .str)), .val (.str run), y3, .emp] = .nx [a0, .val (.lst (ws.map .str)), x2, x3, .emp]
    | none => ∃ x1 x2 x3, forGo (ftOne 3) b_words_by_9931_l1 (chD cs) [a0, .val (.lst (acc.map .str)), .val (.str run), y3, .emp] = .rt (.val .non) [a0, x1, x2, x3, .emp]
  | [], run, acc, y3, _, _, _, _ => ⟨_, _, rfl⟩
  | c :: cs, run, acc, y3, h1, h2, h3, h4 => by
    have hAl : (acc.map D.str).length ≤ 30000 := by simp at h2 ⊢; omega
    simp only [List.length_cons] at h1 h2
    have hrl : run.length ≤ 10000 := by omega
    have hc := h3 c (by simp)
    have h3' : ∀ x ∈ cs, x < 128 := fun x hx => h3 x (by simp [hx])
    have hlow := gLow_one c hc
    rw [abc_tab c hc] at hlow
    unfold wordsGo
    by_cases q1 : c ∈ abc
    · have ih := wordsBy_loop a0 cs (run ++ [c]) acc (.val (.str [c])) (by simp; omega) (by omega) h3' (fun x hx => by
        rcases List.mem_append.mp hx with hx | hx
        · exact h4 x hx
        · have : x = c := by simpa using hx
          subst this; exact q1)
      rw [decide_eq_true q1] at hlow
      have hb : b_words_by_9931_l1 [a0, .val (.lst (acc.map .str)), .val (.str run), .val (.str [c]), .emp] = .ct [a0, .val (.lst (acc.map .str)), .val (.str (run ++ [c])), .val (.str [c]), .emp] := by
        generalize acc.map D.str = AD at *
        simp (disch := first | assumption | omega | (simp only [List.length_append, List.length_cons, List.length_nil, List.length_map, List.length_reverse, List.length_replicate, List.length_range, List.length_take, List.length_drop, enD_length, rangeD_length]; omega) | (simp; done) | fail) [decide_eq_true, decide_eq_false, kAsg, kNx, b_words_by_9931_l1, hlow]
      have e : forGo (ftOne 3) b_words_by_9931_l1 (chD (c :: cs)) [a0, .val (.lst (acc.map .str)), .val (.str run), y3, .emp] = forGo (ftOne 3) b_words_by_9931_l1 (chD cs) [a0, .val (.lst (acc.map .str)), .val (.str (run ++ [c])), .val (.str [c]), .emp] := forGo_cons_ct (as := [(3, .str [c])]) rfl hb
      rw [e, if_pos q1]
      exact ih
    · rw [if_neg q1]
      rw [decide_eq_false q1] at hlow
      have hok : ([32, 126, 38, 124, 62, 61, 40, 41, 48, 49] : List Nat) = okL := rfl
      have hmem : c ∈ okL ↔ (c ∈ sgnL ∨ c ∈ onesL) ∨ c = 32 := decide_eq_decide.mp (okc_tab c hc)
      by_cases q2 : 8 < run.length
      · rw [if_pos q2]
        have q2' : (8 : Int) < (run.length : Int) := by omega
        refine ⟨.val (.lst (acc.map .str)), .val (.str run), .val (.str [c]), rt_cons (as := [(3, .str [c])]) rfl ?_⟩
        show b_words_by_9931_l1 [a0, .val (.lst (acc.map .str)), .val (.str run), .val (.str [c]), .emp] = _
        generalize acc.map D.str = AD at *
        simp (disch := first | assumption | omega | (simp only [List.length_append, List.length_cons, List.length_nil, List.length_map, List.length_reverse, List.length_replicate, List.length_range, List.length_take, List.length_drop, enD_length, rangeD_length]; omega) | (simp; done) | fail) [decide_eq_true, decide_eq_false, kAsg, kNx, b_words_by_9931_l1, hlow, q2']
      · rw [if_neg q2]
        have q2' : ¬ (8 : Int) < (run.length : Int) := by omega
        by_cases q3 : (c ∈ sgnL ∨ c ∈ onesL) ∨ c = 32
        · have hin : c ∈ okL := hmem.mpr q3
          have hcomp : lcGo [a0, .val (.lst (acc.map .str)), .val (.str run), .val (.str [c]), .emp] (ftOne 4) (e2 gNi (eVar 4) (eTup (aCons (eC (.str [])) (aCons (eC (.str [32])) aNil)))) (eFrz 4) [.str run, .str [c]] = .ok ((([run, [c]] : List Wd).filter keepW).map .str) := by
            refine lc_filter (fun w : Wd => D.str w) keepW (fun w => .str w) [run, [c]] (fun w _ => ?_) (fun w _ _ => rfl)
            have := gIn_keep w
            generalize acc.map D.str = AD at *
            simp (disch := first | assumption | omega | (simp only [List.length_append, List.length_cons, List.length_nil, List.length_map, List.length_reverse, List.length_replicate, List.length_range, List.length_take, List.length_drop, enD_length, rangeD_length]; omega) | (simp; done) | fail) [decide_eq_true, decide_eq_false, kAsg, kNx, this]
          have hfl : ((([run, [c]] : List Wd).filter keepW).map D.str).length ≤ 2 := by
            rw [List.length_map]
            exact List.length_filter_le keepW [run, [c]]
          have hb : b_words_by_9931_l1 [a0, .val (.lst (acc.map .str)), .val (.str run), .val (.str [c]), .emp] = .nx [a0, .val (.lst ((acc ++ ([run, [c]] : List Wd).filter keepW).map .str)), .val (.str []), .val (.str [c]), .emp] := by
            rw [List.map_append]
            unfold b_words_by_9931_l1
            rw [hok]
            generalize (([run, [c]] : List Wd).filter keepW).map D.str = FD at *
            generalize acc.map D.str = AD at *
            clear hok hmem
            generalize okL = OKL at *
            simp (disch := first | assumption | omega | (simp only [List.length_append, List.length_cons, List.length_nil, List.length_map, List.length_reverse, List.length_replicate, List.length_range, List.length_take, List.length_drop, enD_length, rangeD_length]; omega) | (simp; done) | fail) [decide_eq_true, decide_eq_false, kAsg, kNx, hlow, q2', hin, hcomp]
          have hfe : acc ++ ([run, [c]] : List Wd).filter keepW = if c ∈ sgnL ∨ c ∈ onesL then (if run ≠ [] then acc ++ [run] else acc) ++ [[c]] else (if run ≠ [] then acc ++ [run] else acc) := by
            have k1 : keepW run = decide (run ≠ []) := by
              unfold keepW
              have : run ≠ [32] := fun e => by
                have := h4 32 (by rw [e]; simp)
                revert this; decide
              simp [this]
            have k2 : keepW [c] = decide (c ≠ 32) := by unfold keepW; simp
            rw [List.filter_cons, List.filter_cons, List.filter_nil, k1, k2]
            by_cases p1 : run = []
            · by_cases p2 : c ∈ sgnL ∨ c ∈ onesL
              · have p3 : c ≠ 32 := fun e => by subst e; revert p2; decide
                simp [p1, p2, p3]
              · have p3 : c = 32 := q3.resolve_left p2
                subst p3
                simp [p1, p2]
            · by_cases p2 : c ∈ sgnL ∨ c ∈ onesL
              · have p3 : c ≠ 32 := fun e => by subst e; revert p2; decide
                simp [p1, p2, p3]
              · have p3 : c = 32 := q3.resolve_left p2
                subst p3
                simp [p1, p2]
          have hal : (acc ++ ([run, [c]] : List Wd).filter keepW).length ≤ acc.length + 2 := by
            rw [List.length_append]
            have := List.length_filter_le keepW [run, [c]]
            simp only [List.length_cons, List.length_nil] at this
            omega
          have ih := wordsBy_loop a0 cs [] (acc ++ ([run, [c]] : List Wd).filter keepW) (.val (.str [c])) (by simp; omega) (by omega) h3' (fun x hx => by cases hx)
          have e : forGo (ftOne 3) b_words_by_9931_l1 (chD (c :: cs)) [a0, .val (.lst (acc.map .str)), .val (.str run), y3, .emp] = forGo (ftOne 3) b_words_by_9931_l1 (chD cs) [a0, .val (.lst ((acc ++ ([run, [c]] : List Wd).filter keepW).map .str)), .val (.str []), .val (.str [c]), .emp] := forGo_cons_nx (as := [(3, .str [c])]) rfl hb
          rw [e]
          rw [hfe] at ih ⊢
          by_cases p2 : c ∈ sgnL ∨ c ∈ onesL
          · rw [if_pos p2] at ih ⊢
            rw [if_pos p2]
            exact ih
          · rw [if_neg p2] at ih ⊢
            rw [if_neg p2, if_neg (by have := q3.resolve_left p2; simpa using this)]
            exact ih
        · have hin : ¬ c ∈ okL := fun h => q3 (hmem.mp h)
          rw [if_neg (fun h => q3 (.inl h)), if_pos (fun h => q3 (.inr h))]
          refine ⟨.val (.lst (acc.map .str)), .val (.str run), .val (.str [c]), rt_cons (as := [(3, .str [c])]) rfl ?_⟩
          show b_words_by_9931_l1 [a0, .val (.lst (acc.map .str)), .val (.str run), .val (.str [c]), .emp] = _
          unfold b_words_by_9931_l1
          rw [hok]
          generalize acc.map D.str = AD at *
          clear hok hmem
          generalize okL = OKL at *
          simp (disch := first | assumption | omega | (simp only [List.length_append, List.length_cons, List.length_nil, List.length_map, List.length_reverse, List.length_replicate, List.length_range, List.length_take, List.length_drop, enD_length, rangeD_length]; omega) | (simp; done) | fail) [decide_eq_true, decide_eq_false, kAsg, kNx, hlow, q2', hin]
def WordsByK (f : Fn) : Prop := ∀ text : List Nat, text.length ≤ 9000 → (∀ c ∈ text, c < 128) → f [.val (.str text)] = .ok (.val (optWs (wordsF text))) [.val (.str text)]
theorem wordsBy_ok : WordsByK (bodyF 5 1 1 b_words_by_9931) := fun text hl ha => by
  have h := wordsBy_loop (.val (.str text)) (text ++ [32]) [] [] .emp (by simp; omega) (by simp; omega) (fun c hc => by
    rcases List.mem_append.mp hc with hc | hc
    · exact ha c hc
    · have : c = 32 := by simpa using hc
      subst this; decide) (fun c hc => by cases hc)
  have hch : ((text ++ [32]).map fun c => D.str [c]) = chD (text ++ [32]) := rfl
  have hg : gAdd (.str text) (.str [32]) = .ok (.str (text ++ [32])) := gAdd_ss text [32] (by simp; omega)
  unfold wordsF
  cases e : wordsGo (text ++ [32]) [] [] with
  | none =>
    rw [e] at h
    obtain ⟨x1, x2, x3, h⟩ := h
    simp only [List.map_nil] at h
    unfold b_words_by_9931 optWs
    generalize b_words_by_9931_l1 = L1 at *
    generalize chD (text ++ [32]) = CD at *
    generalize text ++ [32] = TX at *
    simp (disch := first | assumption | omega | (simp only [List.length_append, List.length_cons, List.length_nil, List.length_map, List.length_reverse, List.length_replicate, List.length_range, List.length_take, List.length_drop, enD_length, rangeD_length]; omega) | (simp; done) | fail) [decide_eq_true, decide_eq_false, kAsg, kNx, hg, hch, h]
  | some ws =>
    rw [e] at h
    obtain ⟨x2, x3, h⟩ := h
    simp only [List.map_nil] at h
    show _ = RF.ok (.val (.lst (ws.map .str))) [.val (.str text)]
    unfold b_words_by_9931
    generalize b_words_by_9931_l1 = L1 at *
    generalize chD (text ++ [32]) = CD at *
    generalize text ++ [32] = TX at *
    generalize ws.map D.str = WS at *
    simp (disch := first | assumption | omega | (simp only [List.length_append, List.length_cons, List.length_nil, List.length_map, List.length_reverse, List.length_replicate, List.length_range, List.length_take, List.length_drop, enD_length, rangeD_length]; omega) | (simp; done) | fail) [decide_eq_true, decide_eq_false, kAsg, kNx, hg, hch, h]
def posM : List Wd → Nat → Nat → List Nat
  | [], _, _ => []
  | w :: ws, l, o => if l = 0 ∧ binW w = true then o :: posM ws l (o + 1) else posM ws (lvW w l) (o + 1)
theorem gIn_bin (w : Wd) : gInL (.str w) [.str [61], .str [62], .str [124], .str [38]] = .ok (binW w) := by
  have h := gInL_strs w [[61], [62], [124], [38]]
  have h : gInL (.str w) [.str [61], .str [62], .str [124], .str [38]] = .ok (decide (w ∈ ([[61], [62], [124], [38]] : List Wd))) := h
  rw [h]
  congr 1
  match w with
  | [] => rfl
  | [c] =>
    show _ = binS c
    unfold binS
    by_cases q1 : c = 61
    · subst q1; rfl
    · by_cases q2 : c = 62
      · subst q2; rfl
      · by_cases q3 : c = 124
        · subst q3; rfl
        · by_cases q4 : c = 38
          · subst q4; rfl
          · simp [q1, q2, q3, q4]
  | _ :: _ :: _ => 
    show decide _ = false
    simp
theorem marks_loop (a0 : Sl) : ∀ (ws : List Wd) (l o : Nat) (acc : List Nat) (y3 y4 : Sl), acc.length + ws.length ≤ 30000 →
    (balW ws l = true → ∃ z3 z4, forGo (ftTup [3, 4]) b_marks_d0e6_l1 (enD o (ws.map .str)) [a0, .val (.int (l : Nat)), .own (.lst (acc.map fun i => .int (i : Nat))), y3, y4] = .nx [a0, .val (.int 0), .own (.lst ((acc ++ posM ws l o).map fun i => .int (i : Nat))), z3, z4]) ∧
    (balW ws l = false → (∃ r ρ1 ρ2 ρ3 ρ4, forGo (ftTup [3, 4]) b_marks_d0e6_l1 (enD o (ws.map .str)) [a0, .val (.int (l : Nat)), .own (.lst (acc.map fun i => .int (i : Nat))), y3, y4] = .rt (.val .non) [a0, ρ1, ρ2, ρ3, ρ4] ∧ r = ()) ∨ ∃ (l' : Nat) (X : List D) (z3 z4 : Sl), l' ≠ 0 ∧ X.length ≤ 30000 ∧ forGo (ftTup [3, 4]) b_marks_d0e6_l1 (enD o (ws.map .str)) [a0, .val (.int (l : Nat)), .own (.lst (acc.map fun i => .int (i : Nat))), y3, y4] = .nx [a0, .val (.int (l' : Nat)), .own (.lst X), z3, z4])
  | [], l, o, acc, y3, y4, hl => by
    constructor
    · intro h
      have : l = 0 := by simpa [balW] using h
      subst this
      exact ⟨y3, y4, by rw [show acc ++ posM [] 0 o = acc from List.append_nil _]; rfl⟩
    · intro h
      have : l ≠ 0 := by simpa [balW] using h
      exact .inr ⟨l, _, y3, y4, this, by simpa using hl, rfl⟩
  | w :: ws, l, o, acc, y3, y4, hl => by
    simp only [List.length_cons] at hl
    have hAl : (acc.map fun i : Nat => D.int (i : Nat)).length ≤ 30000 := by simp; omega
    have hen : enD o ((w :: ws).map D.str) = .tup [.int (o : Nat), .str w] :: enD (o + 1) (ws.map D.str) := rfl
    rw [hen]
    have hbin := gIn_bin w
    by_cases q1 : w = [40]
    · subst q1
      have hs : b_marks_d0e6_l1 [a0, .val (.int (l : Nat)), .own (.lst (acc.map fun i => .int (i : Nat))), .val (.int (o : Nat)), .val (.str [40])] = .nx [a0, .val (.int ((l + 1 : Nat) : Int)), .own (.lst (acc.map fun i => .int (i : Nat))), .val (.int (o : Nat)), .val (.str [40])] := by
        have e1 : ((l + 1 : Nat) : Int) = (l : Int) + 1 := by omega
        have e2 : ¬ (l : Int) + 1 < 0 := by omega
        have e3 : ¬ (l : Int) + 1 = 0 := by omega
        rw [e1]
        generalize (acc.map fun i : Nat => D.int (i : Nat)) = AD at *
        generalize ((o : Nat) : Int) = OI at *
        simp (disch := first | assumption | omega | (simp only [List.length_append, List.length_cons, List.length_nil, List.length_map, List.length_reverse, List.length_replicate, List.length_range, List.length_take, List.length_drop, enD_length, rangeD_length]; omega) | (simp; done) | fail) [decide_eq_true, decide_eq_false, kAsg, kNx, b_marks_d0e6_l1, e2, e3]
      rw [forGo_cons_nx (as := [(3, .int (o : Nat)), (4, .str [40])]) rfl hs]
      have ih := marks_loop a0 ws (l + 1) (o + 1) acc (.val (.int (o : Nat))) (.val (.str [40])) (by omega)
      have eb : balW ([40] :: ws) l = balW ws (l + 1) := by
        show (if [40] = [41] ∧ l = 0 then false else balW ws (l + 1)) = _
        rw [if_neg (fun h => by cases h.1)]
      have ep : posM ([40] :: ws) l o = posM ws (l + 1) (o + 1) := by
        show (if l = 0 ∧ binW [40] = true then _ else posM ws (l + 1) (o + 1)) = _
        rw [if_neg (fun h => by cases h.2)]
      rw [eb, ep]
      exact ih
    · by_cases q2 : w = [41]
      · subst q2
        cases l with
        | zero =>
          have hs : b_marks_d0e6_l1 [a0, .val (.int ((0 : Nat) : Int)), .own (.lst (acc.map fun i => .int (i : Nat))), .val (.int (o : Nat)), .val (.str [41])] = .rt (.val .non) [a0, .val (.int (-1)), .own (.lst (acc.map fun i => .int (i : Nat))), .val (.int (o : Nat)), .val (.str [41])] := by
            generalize (acc.map fun i : Nat => D.int (i : Nat)) = AD at *
            generalize ((o : Nat) : Int) = OI at *
            simp (disch := first | assumption | omega | (simp only [List.length_append, List.length_cons, List.length_nil, List.length_map, List.length_reverse, List.length_replicate, List.length_range, List.length_take, List.length_drop, enD_length, rangeD_length]; omega) | (simp; done) | fail) [decide_eq_true, decide_eq_false, kAsg, kNx, b_marks_d0e6_l1]
          rw [rt_cons (as := [(3, .int (o : Nat)), (4, .str [41])]) rfl hs]
          have eb : balW ([41] :: ws) 0 = false := by
            show (if [41] = [41] ∧ 0 = 0 then false else _) = _
            rw [if_pos ⟨rfl, rfl⟩]
          rw [eb]
          exact ⟨fun h => (by cases h), fun _ => .inl ⟨(), _, _, _, _, rfl, rfl⟩⟩
        | succ l =>
          have hs : b_marks_d0e6_l1 [a0, .val (.int ((l + 1 : Nat) : Int)), .own (.lst (acc.map fun i => .int (i : Nat))), .val (.int (o : Nat)), .val (.str [41])] = .nx [a0, .val (.int (l : Nat)), .own (.lst (acc.map fun i => .int (i : Nat))), .val (.int (o : Nat)), .val (.str [41])] := by
            have e1 : ((l + 1 : Nat) : Int) = (l : Int) + 1 := by omega
            have e2 : ¬ (l : Int) < 0 := by omega
            rw [e1]
            have hb41 : gInL (.str [41]) [.str [61], .str [62], .str [124], .str [38]] = .ok false := hbin
            generalize (acc.map fun i : Nat => D.int (i : Nat)) = AD at *
            generalize ((o : Nat) : Int) = OI at *
            by_cases e3 : (l : Int) = 0
            · rw [e3]
              simp (disch := first | assumption | omega | (simp only [List.length_append, List.length_cons, List.length_nil, List.length_map, List.length_reverse, List.length_replicate, List.length_range, List.length_take, List.length_drop, enD_length, rangeD_length]; omega) | (simp; done) | fail) [decide_eq_true, decide_eq_false, kAsg, kNx, b_marks_d0e6_l1, hb41]
            · simp (disch := first | assumption | omega | (simp only [List.length_append, List.length_cons, List.length_nil, List.length_map, List.length_reverse, List.length_replicate, List.length_range, List.length_take, List.length_drop, enD_length, rangeD_length]; omega) | (simp; done) | fail) [decide_eq_true, decide_eq_false, kAsg, kNx, b_marks_d0e6_l1, e2, e3, hb41]
          rw [forGo_cons_nx (as := [(3, .int (o : Nat)), (4, .str [41])]) rfl hs]
          have ih := marks_loop a0 ws l (o + 1) acc (.val (.int (o : Nat))) (.val (.str [41])) (by omega)
          have eb : balW ([41] :: ws) (l + 1) = balW ws l := by
            show (if [41] = [41] ∧ l + 1 = 0 then false else balW ws l) = _
            rw [if_neg (fun h => by cases h.2)]
          have ep : posM ([41] :: ws) (l + 1) o = posM ws l (o + 1) := by
            show (if l + 1 = 0 ∧ binW [41] = true then _ else posM ws l (o + 1)) = _
            rw [if_neg (fun h => by cases h.2)]
          rw [eb, ep]
          exact ih
      · have elv : lvW w l = l := lv_plain q1 q2 l
        have eb : balW (w :: ws) l = balW ws l := by
          show (if w = [41] ∧ l = 0 then false else balW ws (lvW w l)) = _
          rw [if_neg (fun h => q2 h.1), elv]
        have e2 : ¬ (l : Int) < 0 := by omega
        by_cases q3 : l = 0 ∧ binW w = true
        · obtain ⟨rfl, q3⟩ := q3
          rw [q3] at hbin
          have hs : b_marks_d0e6_l1 [a0, .val (.int ((0 : Nat) : Int)), .own (.lst (acc.map fun i => .int (i : Nat))), .val (.int (o : Nat)), .val (.str w)] = .nx [a0, .val (.int ((0 : Nat) : Int)), .own (.lst ((acc ++ [o]).map fun i => .int (i : Nat))), .val (.int (o : Nat)), .val (.str w)] := by
            rw [List.map_append]
            simp only [List.map_cons, List.map_nil]
            generalize (acc.map fun i : Nat => D.int (i : Nat)) = AD at *
            generalize ((o : Nat) : Int) = OI at *
            simp (disch := first | assumption | omega | (simp only [List.length_append, List.length_cons, List.length_nil, List.length_map, List.length_reverse, List.length_replicate, List.length_range, List.length_take, List.length_drop, enD_length, rangeD_length]; omega) | (simp; done) | fail) [decide_eq_true, decide_eq_false, kAsg, kNx, b_marks_d0e6_l1, q1, q2, hbin]
          rw [forGo_cons_nx (as := [(3, .int (o : Nat)), (4, .str w)]) rfl hs]
          have ih := marks_loop a0 ws 0 (o + 1) (acc ++ [o]) (.val (.int (o : Nat))) (.val (.str w)) (by simp; omega)
          have ep : posM (w :: ws) 0 o = o :: posM ws 0 (o + 1) := if_pos ⟨rfl, q3⟩
          rw [eb, ep]
          rw [List.append_assoc] at ih
          exact ih
        · have hs : b_marks_d0e6_l1 [a0, .val (.int (l : Nat)), .own (.lst (acc.map fun i => .int (i : Nat))), .val (.int (o : Nat)), .val (.str w)] = .nx [a0, .val (.int (l : Nat)), .own (.lst (acc.map fun i => .int (i : Nat))), .val (.int (o : Nat)), .val (.str w)] := by
            generalize (acc.map fun i : Nat => D.int (i : Nat)) = AD at *
            generalize ((o : Nat) : Int) = OI at *
            by_cases e3 : l = 0
            · have e4 : binW w = false := by
                cases e : binW w with
                | false => rfl
                | true => exact absurd ⟨e3, e⟩ q3
              rw [e4] at hbin
              subst e3
              simp (disch := first | assumption | omega | (simp only [List.length_append, List.length_cons, List.length_nil, List.length_map, List.length_reverse, List.length_replicate, List.length_range, List.length_take, List.length_drop, enD_length, rangeD_length]; omega) | (simp; done) | fail) [decide_eq_true, decide_eq_false, kAsg, kNx, b_marks_d0e6_l1, q1, q2, hbin]
            · have e3' : ¬ (l : Int) = 0 := by omega
              simp (disch := first | assumption | omega | (simp only [List.length_append, List.length_cons, List.length_nil, List.length_map, List.length_reverse, List.length_replicate, List.length_range, List.length_take, List.length_drop, enD_length, rangeD_length]; omega) | (simp; done) | fail) [decide_eq_true, decide_eq_false, kAsg, kNx, b_marks_d0e6_l1, q1, q2, e2, e3, e3']
          rw [forGo_cons_nx (as := [(3, .int (o : Nat)), (4, .str w)]) rfl hs]
          have ih := marks_loop a0 ws l (o + 1) acc (.val (.int (o : Nat))) (.val (.str w)) (by omega)
          have ep : posM (w :: ws) l o = posM ws l (o + 1) := by
            show (if l = 0 ∧ binW w = true then _ else posM ws (lvW w l) (o + 1)) = _
            rw [if_neg q3, elv]
          rw [eb, ep]
          exact ih
def MarksWK (f : Fn) : Prop := ∀ ws : List Wd, ws.length ≤ 20000 → f [.val (.lst (ws.map .str))] = .ok (.val (if balW ws 0 = true then .lst ((posM ws 0 0).map fun i => .int (i : Nat)) else .non)) [.val (.lst (ws.map .str))]
theorem posM_len : ∀ (ws : List Wd) (l o : Nat), (posM ws l o).length ≤ ws.length
  | [], _, _ => Nat.le_refl _
  | w :: ws, l, o => by
    unfold posM
    split
    · have := posM_len ws l (o + 1); simp; omega
    · have := posM_len ws (lvW w l) (o + 1); simp; omega
theorem marksW_ok : MarksWK (bodyF 5 1 1 b_marks_d0e6) := fun ws hl => by
  obtain ⟨h1, h2⟩ := marks_loop (.val (.lst (ws.map .str))) ws 0 0 [] .emp .emp (by simp; omega)
  by_cases q : balW ws 0 = true
  · rw [if_pos q]
    obtain ⟨z3, z4, h⟩ := h1 q
    have hpl : ((posM ws 0 0).map fun i : Nat => D.int (i : Nat)).length ≤ 20000 := by have := posM_len ws 0 0; simp; omega
    have h : forGo (ftTup [3, 4]) b_marks_d0e6_l1 (enD 0 (ws.map .str)) [.val (.lst (ws.map .str)), .val (.int 0), .own (.lst []), .emp, .emp] = .nx [.val (.lst (ws.map .str)), .val (.int 0), .own (.lst ((posM ws 0 0).map fun i => .int (i : Nat))), z3, z4] := h
    clear h1 h2
    unfold b_marks_d0e6
    generalize ((posM ws 0 0).map fun i : Nat => D.int (i : Nat)) = PD at *
    generalize ws.map D.str = WD at *
    generalize b_marks_d0e6_l1 = L1 at *
    simp (disch := first | assumption | omega | (simp only [List.length_append, List.length_cons, List.length_nil, List.length_map, List.length_reverse, List.length_replicate, List.length_range, List.length_take, List.length_drop, enD_length, rangeD_length]; omega) | (simp; done) | fail) [decide_eq_true, decide_eq_false, kAsg, kNx, h]
  · rw [if_neg q]
    have q' : balW ws 0 = false := by simpa using q
    rcases h2 q' with ⟨_, ρ1, ρ2, ρ3, ρ4, h, _⟩ | ⟨l', X, z3, z4, hl', hX, h⟩
    · have h : forGo (ftTup [3, 4]) b_marks_d0e6_l1 (enD 0 (ws.map .str)) [.val (.lst (ws.map .str)), .val (.int 0), .own (.lst []), .emp, .emp] = .rt (.val .non) [.val (.lst (ws.map .str)), ρ1, ρ2, ρ3, ρ4] := h
      clear h1 h2
      unfold b_marks_d0e6
      generalize ws.map D.str = WD at *
      generalize b_marks_d0e6_l1 = L1 at *
      simp (disch := first | assumption | omega | (simp only [List.length_append, List.length_cons, List.length_nil, List.length_map, List.length_reverse, List.length_replicate, List.length_range, List.length_take, List.length_drop, enD_length, rangeD_length]; omega) | (simp; done) | fail) [decide_eq_true, decide_eq_false, kAsg, kNx, h]
    · have h : forGo (ftTup [3, 4]) b_marks_d0e6_l1 (enD 0 (ws.map .str)) [.val (.lst (ws.map .str)), .val (.int 0), .own (.lst []), .emp, .emp] = .nx [.val (.lst (ws.map .str)), .val (.int (l' : Nat)), .own (.lst X), z3, z4] := h
      have hl2 : ¬ (l' : Int) = 0 := by omega
      clear h1 h2
      unfold b_marks_d0e6
      generalize ws.map D.str = WD at *
      generalize b_marks_d0e6_l1 = L1 at *
      simp (disch := first | assumption | omega | (simp only [List.length_append, List.length_cons, List.length_nil, List.length_map, List.length_reverse, List.length_replicate, List.length_range, List.length_take, List.length_drop, enD_length, rangeD_length]; omega) | (simp; done) | fail) [decide_eq_true, decide_eq_false, kAsg, kNx, h, hl', hl2]
end PL
set_option Elab.async false
set_option linter.all false
set_option maxRecDepth 100000
set_option maxHeartbeats 1000000
namespace PL
set_option autoImplicit false
open PySem L2 PyProof.Rows
abbrev wsD (ws : List Wd) : List D := ws.map .str
def natsD (ns : List Nat) : List D := ns.map fun i => .int (i : Nat)
def posU (s : Wd) : List Wd → Nat → Nat → List Nat
  | [], _, _ => []
  | w :: ws, l, o => if l = 0 ∧ w = s then o :: posU s ws l (o + 1) else posU s ws (lvW w l) (o + 1)
theorem posM_lt : ∀ (ws : List Wd) (l o : Nat), ∀ i ∈ posM ws l o, o ≤ i ∧ i < o + ws.length
  | [], _, _, i, h => by cases h
  | w :: ws, l, o, i, h => by
    unfold posM at h
    split at h
    · rcases List.mem_cons.mp h with rfl | h
      · simp
      · have := posM_lt ws l (o + 1) i h; simp; omega
    · have := posM_lt ws _ (o + 1) i h; simp; omega
theorem posM_filter (k : K4) (W0 : List Wd) : ∀ (ws : List Wd) (l o : Nat), W0.drop o = ws → (posM ws l o).filter (fun i => decide (W0[i]? = some [k.sign])) = posU [k.sign] ws l o
  | [], _, _, _ => rfl
  | w :: ws, l, o, h => by
    have h1 : W0.drop (o + 1) = ws := by rw [← List.drop_drop, h]; rfl
    have h2 : W0[o]? = some w := by
      have := congrArg (fun l : List Wd => l[0]?) h
      simpa using this
    unfold posM posU
    by_cases q : l = 0 ∧ w = [k.sign]
    · obtain ⟨rfl, rfl⟩ := q
      rw [if_pos ⟨rfl, sg_binW k⟩, if_pos ⟨rfl, rfl⟩, List.filter_cons, if_pos (by simp [h2]), posM_filter k W0 ws 0 (o + 1) h1]
    · rw [if_neg q]
      by_cases q2 : l = 0 ∧ binW w = true
      · have hw : w ≠ [k.sign] := fun e => q ⟨q2.1, e⟩
        have elv : lvW w l = l := lv_plain (fun e => by rw [e] at q2; cases q2.2) (fun e => by rw [e] at q2; cases q2.2) l
        rw [if_pos q2, List.filter_cons, if_neg (by simp [h2, hw]), elv, posM_filter k W0 ws l (o + 1) h1]
      · rw [if_neg q2, posM_filter k W0 ws _ (o + 1) h1]
theorem posU_nil (s : Wd) (hs : binW s = true) : ∀ (ws : List Wd) (l o : Nat), s ∉ topW ws l → posU s ws l o = []
  | [], _, _, _ => rfl
  | w :: ws, l, o, h => by
    unfold topW at h
    unfold posU
    by_cases q : l = 0 ∧ w = s
    · obtain ⟨rfl, rfl⟩ := q
      rw [if_pos ⟨rfl, hs⟩] at h
      exact absurd (by simp) h
    · rw [if_neg q]
      split at h
      next q2 =>
        have elv : lvW w l = l := lv_plain (fun e => by rw [e] at q2; cases q2.2) (fun e => by rw [e] at q2; cases q2.2) l
        rw [elv]
        exact posU_nil s hs ws l (o + 1) fun z => h (by simp [z])
      next q2 => exact posU_nil s hs ws _ (o + 1) h
theorem spl_some (s : Wd) (hs : binW s = true) : ∀ (ws : List Wd) (l : Nat), s ∈ topW ws l → (splW s ws l).2 ≠ []
  | [], _, h => by cases h
  | w :: ws, l, h => by
    unfold topW at h
    unfold splW
    by_cases q : l = 0 ∧ w = s
    · rw [if_pos q]; simp
    · rw [if_neg q]
      split at h
      next q2 =>
        have elv : lvW w l = l := lv_plain (fun e => by rw [e] at q2; cases q2.2) (fun e => by rw [e] at q2; cases q2.2) l
        rcases List.mem_cons.mp h with e | h
        · exact absurd ⟨q2.1, e.symm⟩ q
        · rw [elv]; exact spl_some s hs ws l h
      next q2 => exact spl_some s hs ws _ h
inductive CutW (W0 : List Wd) : Nat → List Nat → List (List Wd) → Prop
  | one {lo e : Nat} {p : List Wd} : (W0.drop lo).take (e - lo) = p → lo ≤ e → CutW W0 lo [e] [p]
  | more {lo e : Nat} {es : List Nat} {p : List Wd} {ps : List (List Wd)} : (W0.drop lo).take (e - lo) = p → lo ≤ e → CutW W0 (e + 1) es ps → CutW W0 lo (e :: es) (p :: ps)
theorem cutw_split (s : Wd) (W0 : List Wd) : ∀ (ws : List Wd) (l o : Nat), W0.drop o = ws → ∃ e es, posU s ws l o ++ [o + ws.length] = e :: es ∧ o ≤ e ∧ CutW W0 o (e :: es) ((splW s ws l).1 :: (splW s ws l).2)
  | [], l, o, h => ⟨o, [], rfl, Nat.le_refl o, .one (by simp [splW]) (Nat.le_refl o)⟩
  | w :: ws, l, o, h => by
    have h1 : W0.drop (o + 1) = ws := by rw [← List.drop_drop, h]; rfl
    have hlen : o + (w :: ws).length = o + 1 + ws.length := by simp; omega
    by_cases q : l = 0 ∧ w = s
    · obtain ⟨e, es, i1, i2, i3⟩ := cutw_split s W0 ws l (o + 1) h1
      refine ⟨o, e :: es, ?_, Nat.le_refl o, ?_⟩
      · unfold posU
        rw [if_pos q, hlen, List.cons_append, i1]
      · unfold splW
        rw [if_pos q]
        exact .more (by simp) (Nat.le_refl o) i3
    · obtain ⟨e, es, i1, i2, i3⟩ := cutw_split s W0 ws (lvW w l) (o + 1) h1
      have hd : (W0.drop o).take (e - o) = w :: (W0.drop (o + 1)).take (e - (o + 1)) := by
        rw [h1, h, show e - o = (e - (o + 1)) + 1 by omega]; rfl
      refine ⟨e, es, ?_, by omega, ?_⟩
      · unfold posU
        rw [if_neg q, hlen]; exact i1
      · unfold splW
        rw [if_neg q]
        clear i1
        generalize (splW s ws (lvW w l)).2 = PS at *
        generalize (splW s ws (lvW w l)).1 = P at *
        cases i3 with
        | one a b => exact .one (by rw [hd, a]) (by omega)
        | more a b c => exact .more (by rw [hd, a]) (by omega) c
theorem CutW.at {W0 : List Wd} {lo : Nat} {es : List Nat} {ps : List (List Wd)} (h : CutW W0 lo es ps) : es.length = ps.length ∧ ∀ (i : Nat) (hi : i < ps.length), ∃ a e, (lo :: es.map (· + 1))[i]? = some a ∧ es[i]? = some e ∧ (W0.drop a).take (e - a) = ps[i] ∧ a ≤ e := by
  induction h with
  | one h1 h2 =>
    refine ⟨rfl, fun i hi => ?_⟩
    have : i = 0 := by simp at hi; omega
    subst this
    exact ⟨_, _, rfl, rfl, h1, h2⟩
  | more h1 h2 _ ih =>
    obtain ⟨i1, i2⟩ := ih
    refine ⟨by simp [i1], fun i hi => ?_⟩
    cases i with
    | zero => exact ⟨_, _, rfl, rfl, h1, h2⟩
    | succ i =>
      obtain ⟨a, e, g1, g2, g3, g4⟩ := i2 i (by simpa using hi)
      exact ⟨a, e, by simpa using g1, by simpa using g2, by simpa using g3, g4⟩
def kindD : D := .dic [(.inr [61], .str [115, 97, 109, 101]), (.inr [62], .str [116, 104, 101, 110]), (.inr [124], .str [111, 114]), (.inr [38], .str [97, 110, 100])]
def placesD (ps : List Nat) (n : Nat) : List D := .int (-1) :: (natsD ps ++ [.int (n : Nat)])
/-- the places of a sign -/
theorem places_at {fr fc : Fn} (k : K4) (ws : List Wd) (hl : ws.length ≤ 20000) (y4 y5 : Sl) : ∀ K : Es,
    (seqS (asgS (ftOne 4) (e2 gAdd (e2 gAdd (eLst (aCons (e1 gNeg (eC (.int (1)))) aNil)) (eLc [6] (iSeq (eVar 1)) (ftOne 6) (e2 gEq (e2 gIx (eVar 0) (eVar 6)) (eVar 3)) (eFrz 6))) (eLst (aCons (eCall gLen (aCons (eVar 0) aNil)) aNil)))) K) [.val (.lst (wsD ws)), .val (.lst (natsD (posM ws 0 0))), .val kindD, .val (.str [k.sign]), y4, y5, .emp]
    = K [.val (.lst (wsD ws)), .val (.lst (natsD (posM ws 0 0))), .val kindD, .val (.str [k.sign]), .val (.lst (placesD (posU [k.sign] ws 0 0) ws.length)), y5, .emp] := fun K => by
  have hfc : ∀ i ∈ posM ws 0 0, (e2 gEq (e2 gIx (eVar 0) (eVar 6)) (eVar 3)) (([.val (.lst (wsD ws)), .val (.lst (natsD (posM ws 0 0))), .val kindD, .val (.str [k.sign]), y4, y5, .emp] : List Sl).set 6 (.val (.int (i : Nat)))) = .ok (decide (ws[i]? = some [k.sign])) := fun i hi => by
    have h1 := posM_lt ws 0 0 i hi
    have h2 : i < ws.length := by omega
    have h3 : L2.atI (wsD ws) (i : Nat) = some (.str ws[i]) := by
      rw [atI_of _ i (by simpa using h2)]
      simp
    rw [List.getElem?_eq_getElem h2]
    generalize ws[i] = w at *
    generalize wsD ws = WD at *
    generalize natsD (posM ws 0 0) = MD at *
    generalize kindD = KD at *
    generalize k.sign = SG at *
    simp (disch := first | assumption | omega | (simp only [List.length_append, List.length_cons, List.length_nil, List.length_map, List.length_reverse, List.length_replicate, List.length_range, List.length_take, List.length_drop, enD_length, rangeD_length]; omega) | (simp; done) | fail) [decide_eq_true, decide_eq_false, kAsg, kNx, h3]
  have hcomp : lcGo [.val (.lst (wsD ws)), .val (.lst (natsD (posM ws 0 0))), .val kindD, .val (.str [k.sign]), y4, y5, .emp] (ftOne 6) (e2 gEq (e2 gIx (eVar 0) (eVar 6)) (eVar 3)) (eFrz 6) (natsD (posM ws 0 0)) = .ok (natsD (posU [k.sign] ws 0 0)) := by
    rw [← posM_filter k ws ws 0 0 rfl]
    exact lc_filter (fun i : Nat => D.int (i : Nat)) (fun i => decide (ws[i]? = some [k.sign])) (fun i => .int (i : Nat)) (posM ws 0 0) hfc fun i _ _ => rfl
  have hpl : (natsD (posU [k.sign] ws 0 0)).length ≤ 20000 := by
    rw [← posM_filter k ws ws 0 0 rfl]
    unfold natsD
    rw [List.length_map]
    have h1 := List.length_filter_le (fun i => decide (ws[i]? = some [k.sign])) (posM ws 0 0)
    have h2 := posM_len ws 0 0
    omega
  have hml : (natsD (posM ws 0 0)).length ≤ 20000 := by
    unfold natsD
    rw [List.length_map]
    have h2 := posM_len ws 0 0
    omega
  have hwl : (wsD ws).length = ws.length := by simp
  have hwl2 : (wsD ws).length ≤ 20000 := by simpa using hl
  unfold placesD
  rw [← hwl]
  clear hfc
  generalize natsD (posU [k.sign] ws 0 0) = PD at *
  generalize natsD (posM ws 0 0) = MD at *
  generalize wsD ws = WD at *
  generalize kindD = KD at *
  generalize k.sign = SG at *
  simp (disch := first | assumption | omega | (simp only [List.length_append, List.length_cons, List.length_nil, List.length_map, List.length_reverse, List.length_replicate, List.length_range, List.length_take, List.length_drop, enD_length, rangeD_length]; omega) | (simp; done) | fail) [decide_eq_true, decide_eq_false, kAsg, kNx, hcomp]
def PartedR (r0 : List Wd → Option T) (n : Nat) (f : Fn) : Prop := ∀ (ws : List Wd) (k : K4), okWs ws → ws.length ≤ 9000 → mW ws < n → firstK (topW ws 0) = some k →
  f [.val (.lst (wsD ws)), .val (.lst (natsD (posM ws 0 0)))] = .ok (.val (optT (partS k r0 ws))) [.val (.lst (wsD ws)), .val (.lst (natsD (posM ws 0 0)))]
def ReadBR (r : List Wd → Option T) (n : Nat) (f : Fn) : Prop := ∀ ws : List Wd, okWs ws → ws.length ≤ 9000 → mW ws < n → f [.val (.lst (wsD ws))] = .ok (.val (optT (r ws))) [.val (.lst (wsD ws))]
theorem optT_tn (o : Option T) : D.isTN (optT o) = true := by
  cases o with
  | none => rfl
  | some t => cases t <;> rfl
theorem optT_non (o : Option T) : D.isNon (optT o) = o.isNone := by
  cases o with
  | none => rfl
  | some t => cases t <;> rfl
theorem allO_none : ∀ {os : List (Option T)}, allO os = none ↔ os.any Option.isNone = true
  | [] => by simp [allO]
  | none :: os => by simp [allO]
  | some t :: os => by
    have ih := allO_none (os := os)
    show (allO os).map (t :: ·) = none ↔ _
    rw [Option.map_eq_none_iff, ih]
    simp
theorem parts_mW (s : K4) (ws : List Wd) (h : (splW [s.sign] ws 0).2 ≠ []) : ∀ p ∈ (splW [s.sign] ws 0).1 :: (splW [s.sign] ws 0).2, mW p + 2 ≤ mW ws := by
  have hj := spl_join [s.sign] ws 0
  obtain ⟨m1, m2⟩ := mW_part s ((splW [s.sign] ws 0).1, T.yes) ((splW [s.sign] ws 0).2.map fun p => (p, T.yes))
  rw [List.flatMap_map] at m1 m2
  have e : (splW [s.sign] ws 0).1 ++ (splW [s.sign] ws 0).2.flatMap (fun p => [s.sign] :: p) = ws := hj.symm
  have m1 : mW (splW [s.sign] ws 0).1 + 2 ≤ mW ((splW [s.sign] ws 0).1 ++ (splW [s.sign] ws 0).2.flatMap (fun p => [s.sign] :: p)) := m1 (by simpa using h)
  rw [e] at m1
  intro p hp
  rcases List.mem_cons.mp hp with rfl | hp
  · exact m1
  · have := m2 (p, T.yes) (List.mem_map.mpr ⟨p, hp, rfl⟩)
    have this : mW p + 2 ≤ mW ((splW [s.sign] ws 0).1 ++ (splW [s.sign] ws 0).2.flatMap (fun p => [s.sign] :: p)) := this
    rw [e] at this
    exact this
theorem spl_len (s : Wd) : ∀ (ws : List Wd) (l : Nat), (splW s ws l).1.length ≤ ws.length ∧ (splW s ws l).2.length ≤ ws.length ∧ ∀ p ∈ (splW s ws l).2, p.length ≤ ws.length
  | [], l => ⟨Nat.le_refl _, Nat.le_refl _, fun p hp => by cases hp⟩
  | w :: ws, l => by
    unfold splW
    split
    · obtain ⟨a, b, c⟩ := spl_len s ws l
      refine ⟨by simp, by simp; omega, fun p hp => ?_⟩
      rcases List.mem_cons.mp hp with rfl | hp
      · simp; omega
      · have := c p hp; simp; omega
    · obtain ⟨a, b, c⟩ := spl_len s ws (lvW w l)
      exact ⟨by simp; omega, by simp; omega, fun p hp => by have := c p hp; simp; omega⟩
end PL
set_option Elab.async false
set_option linter.all false
set_option maxRecDepth 100000
set_option maxHeartbeats 1000000
namespace PL
set_option autoImplicit false
open PySem L2 PyProof.Rows
/-- a sign that does not stand at the top -/
theorem part_skip {fr fc : Fn} (k : K4) (ws : List Wd) (hl : ws.length ≤ 20000) (hk : [k.sign] ∉ topW ws 0) (y3 y4 y5 : Sl) :
    ∃ y4', b_parted_5c18_l1 fr fc (setS [.val (.lst (wsD ws)), .val (.lst (natsD (posM ws 0 0))), .val kindD, y3, y4, y5, .emp] [(3, .str [k.sign])]) = .nx [.val (.lst (wsD ws)), .val (.lst (natsD (posM ws 0 0))), .val kindD, .val (.str [k.sign]), y4', y5, .emp] := by
  refine ⟨.val (.lst (placesD (posU [k.sign] ws 0 0) ws.length)), ?_⟩
  show b_parted_5c18_l1 fr fc [.val (.lst (wsD ws)), .val (.lst (natsD (posM ws 0 0))), .val kindD, .val (.str [k.sign]), y4, y5, .emp] = _
  unfold b_parted_5c18_l1
  rw [places_at (fr := fr) (fc := fc) k ws hl y4 y5, posU_nil _ (sg_binW k) ws 0 0 hk]
  have e : placesD [] ws.length = [.int (-1), .int (ws.length : Nat)] := rfl
  rw [e]
  generalize wsD ws = WD at *
  generalize natsD (posM ws 0 0) = MD at *
  generalize kindD = KD at *
  generalize k.sign = SG at *
  generalize ((ws.length : Nat) : Int) = N at *
  simp (disch := first | assumption | omega | (simp only [List.length_append, List.length_cons, List.length_nil, List.length_map, List.length_reverse, List.length_replicate, List.length_range, List.length_take, List.length_drop, enD_length, rangeD_length]; omega) | (simp; done) | fail) [decide_eq_true, decide_eq_false, kAsg, kNx]
theorem kindD_at (k : K4) : gDix kindD (.str [k.sign]) = .ok (.str k.code) := by cases k <;> rfl
/-- the weakest sign of the top -/
theorem part_hit {fr fc : Fn} {r0 : List Wd → Option T} {n : Nat} (hr : ReadBR r0 n fr) (hc : ChainK fc) (k : K4) (ws : List Wd) (hok : okWs ws) (hl : ws.length ≤ 9000) (hm : mW ws < n + 2) (hk : [k.sign] ∈ topW ws 0) (y3 y4 : Sl) :
    ∃ ρ', b_parted_5c18_l1 fr fc (setS [.val (.lst (wsD ws)), .val (.lst (natsD (posM ws 0 0))), .val kindD, y3, y4, .emp, .emp] [(3, .str [k.sign])]) = .rt (.val (optT (partS k r0 ws))) ρ' ∧ ρ'.take 2 = [.val (.lst (wsD ws)), .val (.lst (natsD (posM ws 0 0)))] ∧ ρ'.length = 7 := by
  have hne := spl_some [k.sign] (sg_binW k) ws 0 hk
  have hmw := parts_mW k ws hne
  obtain ⟨l1, l2, l3⟩ := spl_len [k.sign] ws 0
  have hmem := spl_mem [k.sign] ws 0
  obtain ⟨e, es, c1, c2, c3⟩ := cutw_split [k.sign] ws ws 0 0 rfl
  have hun : partS k r0 ws = (allO (((splW [k.sign] ws 0).1 :: (splW [k.sign] ws 0).2).map r0)).bind (chainL k) := rfl
  have hlen2 : 2 ≤ ((splW [k.sign] ws 0).1 :: (splW [k.sign] ws 0).2).length := by
    cases q : (splW [k.sign] ws 0).2 with
    | nil => exact absurd q hne
    | cons a b => simp
  have hpl : ∀ p ∈ (splW [k.sign] ws 0).1 :: (splW [k.sign] ws 0).2, p.length ≤ 9000 := fun p hp => by
    rcases List.mem_cons.mp hp with rfl | hp
    · omega
    · have := l3 p hp; omega
  rw [hun]
  have hPS : ((splW [k.sign] ws 0).1 :: (splW [k.sign] ws 0).2).length ≤ 9001 := by simp; omega
  clear hun hne l1 l2 l3
  generalize (splW [k.sign] ws 0).1 :: (splW [k.sign] ws 0).2 = PS at *
  obtain ⟨hle, hat⟩ := c3.at
  have hpd : placesD (posU [k.sign] ws 0 0) ws.length = .int (-1) :: natsD (e :: es) := by
    unfold placesD natsD
    rw [← c1]
    simp
  have hread : ∀ p ∈ PS, fr [.val (.lst (wsD p))] = .ok (.val (optT (r0 p))) [.val (.lst (wsD p))] := fun p hp =>
    hr p (fun w hw => hok w (hmem p hp w hw)) (hpl p hp) (by have := hmw p hp; omega)
  have hcomp : lcGo [.val (.lst (wsD ws)), .val (.lst (natsD (posM ws 0 0))), .val kindD, .val (.str [k.sign]), .val (.lst (.int (-1) :: natsD (e :: es))), .emp, .emp] (ftOne 6) fcYes (eFn fr (aCons (eSl (eVar 0) (oSome (e2 gAdd (e2 gIx (eVar 4) (eVar 6)) (eC (.int (1))))) (oSome (e2 gIx (eVar 4) (e2 gAdd (eVar 6) (eC (.int (1))))))) aNil)) (rangeD 0 ((PS.length : Nat) : Int)) = .ok (PS.map fun p => optT (r0 p)) := by
    rw [lc_rng PS.length (fun i => optT (r0 (PS.getD i []))) fun i hi => ?_]
    · congr 1
      apply List.ext_getElem
      · simp
      · intro i h1 h2
        have h3 : i < PS.length := by simpa using h2
        simp [List.getD_eq_getElem?_getD, h3]
    · obtain ⟨a, en, g1, g2, g3, g4⟩ := hat i hi
      have hP : PS.getD i [] = PS[i] := by rw [List.getD_eq_getElem?_getD, List.getElem?_eq_getElem hi]; rfl
      have hrd := hread PS[i] (List.getElem_mem hi)
      rw [hP]
      have p1 : L2.atI (.int (-1) :: natsD (e :: es)) (i : Nat) = some (.int ((a : Int) - 1)) := by
        cases i with
        | zero =>
          have : a = 0 := by simpa using g1.symm
          subst this
          rw [atI_of _ 0 (by simp)]
          simp
        | succ j =>
          have hj : j < (e :: es).length := by omega
          rw [atI_of _ (j + 1) (by simp [natsD] at hj ⊢; omega)]
          rw [List.getElem?_cons_succ, List.getElem?_map, List.getElem?_eq_getElem hj] at g1
          have : a = (e :: es)[j] + 1 := by simpa using g1.symm
          subst this
          rw [List.getElem_cons_succ]
          unfold natsD
          rw [List.getElem_map]
          congr 2
          omega
      have p2 : L2.atI (.int (-1) :: natsD (e :: es)) ((i : Int) + 1) = some (.int (en : Nat)) := by
        have hj : i < (e :: es).length := by omega
        have e1 : (i : Int) + 1 = ((i + 1 : Nat) : Int) := by omega
        rw [e1, atI_of _ (i + 1) (by simp [natsD] at hj ⊢; omega)]
        rw [List.getElem?_eq_getElem hj] at g2
        have : en = (e :: es)[i] := by simpa using g2.symm
        subst this
        rw [List.getElem_cons_succ]
        unfold natsD
        rw [List.getElem_map]
      have c1' : cutL (wsD ws) (some ((a : Nat) : Int)) (some (en : Int)) = wsD PS[i] := by
        rw [cut_both _ _ _ (by omega) (by omega), Int.toNat_natCast, Int.toNat_natCast, List.drop_take, ← g3]
        simp [wsD]
      clear hread hat hmem hmw hpl
      generalize optT (r0 PS[i]) = OT at *
      generalize wsD PS[i] = PI at *
      generalize wsD ws = WD at *
      generalize natsD (posM ws 0 0) = MD at *
      generalize .int (-1) :: natsD (e :: es) = PD at *
      generalize kindD = KD at *
      generalize k.sign = SG at *
      simp (disch := first | assumption | omega | (simp only [List.length_append, List.length_cons, List.length_nil, List.length_map, List.length_reverse, List.length_replicate, List.length_range, List.length_take, List.length_drop, enD_length, rangeD_length]; omega) | (simp; done) | fail) [decide_eq_true, decide_eq_false, kAsg, kNx, p1, p2, c1', hrd]
  have hPl : (((D.int (-1) :: natsD (e :: es)).length : Nat) : Int) - 1 = ((PS.length : Nat) : Int) := by
    simp only [natsD, List.length_cons, List.length_map] at hle ⊢
    omega
  have hP2 : (2 : Int) < (((D.int (-1) :: natsD (e :: es)).length : Nat) : Int) := by omega
  have hPll : (D.int (-1) :: natsD (e :: es)).length ≤ 30000 := by omega
  have htn : (PS.map fun p => optT (r0 p)).all D.isTN = true := by
    rw [List.all_map]
    exact List.all_eq_true.mpr fun p _ => optT_tn _
  have hnon : (PS.map fun p => optT (r0 p)).any D.isNon = (PS.map r0).any Option.isNone := by
    rw [List.any_map, List.any_map]
    congr 1
    funext p
    exact optT_non _
  have hkd := kindD_at k
  have hfront : b_parted_5c18_l1 fr fc (setS [.val (.lst (wsD ws)), .val (.lst (natsD (posM ws 0 0))), .val kindD, y3, y4, .emp, .emp] [(3, .str [k.sign])]) =
      (ifS (e2 (gCmp pGt) (eCall gLen (aCons (eVar 4) aNil)) (eC (.int (2)))) (seqS (asgN 5 (eLc [6] (iRg gRng1 (aCons (e2 gSub (eCall gLen (aCons (eVar 4) aNil)) (eC (.int (1)))) aNil)) (ftOne 6) fcYes (eFn fr (aCons (eSl (eVar 0) (oSome (e2 gAdd (e2 gIx (eVar 4) (eVar 6)) (eC (.int (1))))) (oSome (e2 gIx (eVar 4) (e2 gAdd (eVar 6) (eC (.int (1))))))) aNil))))
        (seqS (ifS (e2 gNoneIn (eC .non) (eVar 5)) (retS (eC .non)) skipS)
        (frzS 5 (retS (eFn fc (aCons (e2 gDix (eVar 2) (eVar 3)) (aCons (eFrz 5) aNil))))))) skipS) [.val (.lst (wsD ws)), .val (.lst (natsD (posM ws 0 0))), .val kindD, .val (.str [k.sign]), .val (.lst (.int (-1) :: natsD (e :: es))), .emp, .emp] := by
    show b_parted_5c18_l1 fr fc [.val (.lst (wsD ws)), .val (.lst (natsD (posM ws 0 0))), .val kindD, .val (.str [k.sign]), y4, .emp, .emp] = _
    unfold b_parted_5c18_l1
    rw [places_at (fr := fr) (fc := fc) k ws (by omega) y4 .emp, hpd]
  rw [hfront]
  refine ⟨[.val (.lst (wsD ws)), .val (.lst (natsD (posM ws 0 0))), .val kindD, .val (.str [k.sign]), .val (.lst (.int (-1) :: natsD (e :: es))), (if (PS.map r0).any Option.isNone = true then .own (.lst (PS.map fun p => optT (r0 p))) else .val (.lst (PS.map fun p => optT (r0 p)))), .emp], ?_, rfl, rfl⟩
  have hdl : (PS.map fun p => optT (r0 p)).length ≤ 9001 := by simpa using hPS
  cases ha : allO (PS.map r0) with
  | none =>
    have hany := allO_none.mp ha
    rw [hany] at hnon
    rw [if_pos hany]
    show _ = RS.rt (.val .non) _
    clear hread hat hmem hmw hpl
    generalize (PS.map fun p => optT (r0 p)) = OD at *
    generalize wsD ws = WD at *
    generalize natsD (posM ws 0 0) = MD at *
    generalize .int (-1) :: natsD (e :: es) = PD at *
    generalize kindD = KD at *
    generalize k.sign = SG at *
    simp (disch := first | assumption | omega | (simp only [List.length_append, List.length_cons, List.length_nil, List.length_map, List.length_reverse, List.length_replicate, List.length_range, List.length_take, List.length_drop, enD_length, rangeD_length]; omega) | (simp; done) | fail) [decide_eq_true, decide_eq_false, kAsg, kNx, hP2, hPl, hcomp, htn, hnon]
  | some ts =>
    have hany : (PS.map r0).any Option.isNone = false := by
      cases q : (PS.map r0).any Option.isNone with
      | false => rfl
      | true => rw [allO_none.mpr q] at ha; cases ha
    rw [hany] at hnon
    have e2 := allO_some ha
    have hOD : (PS.map fun p => optT (r0 p)) = ts.map T.toD := by
      have : PS.map (fun p => optT (r0 p)) = (PS.map r0).map optT := by rw [List.map_map]; rfl
      rw [this, e2, List.map_map]
      rfl
    cases ts with
    | nil =>
      have := congrArg List.length e2
      simp only [List.length_map, List.length_nil] at this
      omega
    | cons t ts =>
      have hts : (t :: ts).length = PS.length := by have := congrArg List.length e2; simpa using this.symm
      have hch := hc k t ts (by simp only [List.length_cons] at hts; omega)
      rw [← hOD] at hch
      show _ = RS.rt (.val (chainT k t ts).toD) _
      rw [hany]
      show _ = RS.rt (.val (chainT k t ts).toD) [.val (.lst (wsD ws)), .val (.lst (natsD (posM ws 0 0))), .val kindD, .val (.str [k.sign]), .val (.lst (.int (-1) :: natsD (e :: es))), .val (.lst (PS.map fun p => optT (r0 p))), .emp]
      clear hread hat hmem hmw hpl hOD
      generalize (PS.map fun p => optT (r0 p)) = OD at *
      generalize (chainT k t ts).toD = CT at *
      generalize wsD ws = WD at *
      generalize natsD (posM ws 0 0) = MD at *
      generalize .int (-1) :: natsD (e :: es) = PD at *
      generalize k.code = KC at *
      generalize kindD = KD at *
      generalize k.sign = SG at *
      simp (disch := first | assumption | omega | (simp only [List.length_append, List.length_cons, List.length_nil, List.length_map, List.length_reverse, List.length_replicate, List.length_range, List.length_take, List.length_drop, enD_length, rangeD_length]; omega) | (simp; done) | fail) [decide_eq_true, decide_eq_false, kAsg, kNx, hP2, hPl, hcomp, htn, hnon, hkd, hch]
theorem parted_0 (f : Fn) (r0 : List Wd → Option T) : PartedR r0 1 f := fun ws k _ _ hm hk => by
  exfalso
  have h := (firstK_some hk).1
  have hne := spl_some [k.sign] (sg_binW k) ws 0 h
  have := parts_mW k ws hne _ List.mem_cons_self
  omega
theorem parted_ok {fr fc : Fn} {r0 : List Wd → Option T} {n : Nat} (hr : ReadBR r0 n fr) (hc : ChainK fc) : PartedR r0 (n + 2) (bodyF 7 2 2 (b_parted_5c18 fr fc)) := fun ws k hok hl hm hk => by
  obtain ⟨h1, h2⟩ := firstK_some hk
  have hsk : ∀ j : K4, j.st < k.st → [j.sign] ∉ topW ws 0 := fun j hj h => by have := h2 j h; omega
  have hloop : ∃ ρ', forGo (ftOne 3) (b_parted_5c18_l1 fr fc) [.str [61], .str [62], .str [124], .str [38]] [.val (.lst (wsD ws)), .val (.lst (natsD (posM ws 0 0))), .val kindD, .emp, .emp, .emp, .emp] = .rt (.val (optT (partS k r0 ws))) ρ' ∧ ρ'.take 2 = [.val (.lst (wsD ws)), .val (.lst (natsD (posM ws 0 0)))] ∧ ρ'.length = 7 := by
    cases k with
    | sm =>
      obtain ⟨ρ', e, g⟩ := part_hit hr hc .sm ws hok hl hm h1 .emp .emp
      exact ⟨ρ', rt_cons (as := [(3, .str [61])]) rfl e, g⟩
    | th =>
      obtain ⟨z4, e1⟩ := part_skip (fr := fr) (fc := fc) .sm ws (by omega) (hsk .sm (by decide)) .emp .emp .emp
      obtain ⟨ρ', e, g⟩ := part_hit hr hc .th ws hok hl hm h1 (.val (.str [K4.sm.sign])) z4
      refine ⟨ρ', ?_, g⟩
      rw [forGo_cons_nx (as := [(3, .str [61])]) rfl e1]
      exact rt_cons (as := [(3, .str [62])]) rfl e
    | or =>
      obtain ⟨z4, e1⟩ := part_skip (fr := fr) (fc := fc) .sm ws (by omega) (hsk .sm (by decide)) .emp .emp .emp
      obtain ⟨z5, e2⟩ := part_skip (fr := fr) (fc := fc) .th ws (by omega) (hsk .th (by decide)) (.val (.str [K4.sm.sign])) z4 .emp
      obtain ⟨ρ', e, g⟩ := part_hit hr hc .or ws hok hl hm h1 (.val (.str [K4.th.sign])) z5
      refine ⟨ρ', ?_, g⟩
      rw [forGo_cons_nx (as := [(3, .str [61])]) rfl e1, forGo_cons_nx (as := [(3, .str [62])]) rfl e2]
      exact rt_cons (as := [(3, .str [124])]) rfl e
    | an =>
      obtain ⟨z4, e1⟩ := part_skip (fr := fr) (fc := fc) .sm ws (by omega) (hsk .sm (by decide)) .emp .emp .emp
      obtain ⟨z5, e2⟩ := part_skip (fr := fr) (fc := fc) .th ws (by omega) (hsk .th (by decide)) (.val (.str [K4.sm.sign])) z4 .emp
      obtain ⟨z6, e3⟩ := part_skip (fr := fr) (fc := fc) .or ws (by omega) (hsk .or (by decide)) (.val (.str [K4.th.sign])) z5 .emp
      obtain ⟨ρ', e, g⟩ := part_hit hr hc .an ws hok hl hm h1 (.val (.str [K4.or.sign])) z6
      refine ⟨ρ', ?_, g⟩
      rw [forGo_cons_nx (as := [(3, .str [61])]) rfl e1, forGo_cons_nx (as := [(3, .str [62])]) rfl e2, forGo_cons_nx (as := [(3, .str [124])]) rfl e3]
      exact rt_cons (as := [(3, .str [38])]) rfl e
  obtain ⟨ρ', hloop, ht, hlen⟩ := hloop
  obtain ⟨x0, x1, x2, x3, x4, x5, x6, rfl⟩ : ∃ x0 x1 x2 x3 x4 x5 x6, ρ' = [x0, x1, x2, x3, x4, x5, x6] := by
    match ρ', hlen with
    | [a, b, c, d, e, f, g], _ => exact ⟨a, b, c, d, e, f, g, rfl⟩
  have ht : [x0, x1] = [.val (.lst (wsD ws)), .val (.lst (natsD (posM ws 0 0)))] := ht
  injection ht with a b
  injection b with b _
  subst a b
  unfold b_parted_5c18
  have hkd : kindD = .dic (putC (putC (putC (putC [] (Sum.inr [61]) (.str [115, 97, 109, 101])) (Sum.inr [62]) (.str [116, 104, 101, 110])) (Sum.inr [124]) (.str [111, 114])) (Sum.inr [38]) (.str [97, 110, 100])) := rfl
  rw [hkd] at hloop
  generalize optT (partS k r0 ws) = OT at *
  generalize wsD ws = WD at *
  generalize natsD (posM ws 0 0) = MD at *
  generalize b_parted_5c18_l1 fr fc = L1 at *
  simp (disch := first | assumption | omega | (simp only [List.length_append, List.length_cons, List.length_nil, List.length_map, List.length_reverse, List.length_replicate, List.length_range, List.length_take, List.length_drop, enD_length, rangeD_length]; omega) | (simp; done) | fail) [decide_eq_true, decide_eq_false, kAsg, kNx, hloop]
theorem posM_top : ∀ (ws : List Wd) (l o : Nat), (posM ws l o).length = (topW ws l).length
  | [], _, _ => rfl
  | w :: ws, l, o => by
    unfold posM topW
    split
    · simp [posM_top ws l (o + 1)]
    · exact posM_top ws _ (o + 1)
theorem topW_bin : ∀ (ws : List Wd) (l : Nat), ∀ w ∈ topW ws l, ∃ k : K4, w = [k.sign]
  | [], _, w, h => by cases h
  | v :: ws, l, w, h => by
    unfold topW at h
    split at h
    next q =>
      rcases List.mem_cons.mp h with rfl | h
      · match w, q with
        | [c], q =>
          obtain ⟨k, rfl⟩ := binS_sign q.2
          exact ⟨k, rfl⟩
        | [], q => cases q.2
        | _ :: _ :: _, q => cases q.2
      · exact topW_bin ws l w h
    · exact topW_bin ws _ w h
theorem mid_cut (w : D) (r : List D) (h : r ≠ []) : cutL (w :: r) (some 1) (some (-1)) = r.dropLast := by
  have hp : 0 < r.length := List.length_pos_iff.mpr h
  have e1 : HT.sIx (w :: r).length 0 (some 1) = 1 := by
    rw [sIx_pos _ _ _ (by decide)]
    show min 1 (r.length + 1) = 1
    omega
  have e2 : HT.sIx (w :: r).length (w :: r).length (some (-1)) = r.length := by
    show (if (-1 : Int) < 0 then ((-1 : Int) + ((w :: r).length : Int)).toNat else min (-1 : Int).toNat (w :: r).length) = _
    rw [if_pos (by decide), List.length_cons]
    omega
  unfold cutL
  rw [e1, e2, List.dropLast_eq_take]
  rfl
theorem last_at (w : D) (r : List D) : L2.atI (w :: r) (-1) = some ((w :: r).getLast (by simp)) := by
  have e : w :: r = (w :: r).dropLast ++ [(w :: r).getLast (by simp)] := (List.dropLast_concat_getLast (by simp)).symm
  generalize hX : (w :: r).getLast (by simp) = X at *
  rw [e]
  exact L2.atI_last _ _
theorem leaf_look (w : Wd) (A B : D) : lookC (putC (putC [] (Sum.inr [49]) A) (Sum.inr [48]) B) (Sum.inr w) = if w = [49] then some A else if w = [48] then some B else none := by
  show lookC [(Sum.inr [49], A), (Sum.inr [48], B)] (Sum.inr w) = _
  by_cases h1 : w = [49]
  · subst h1
    rw [if_pos rfl]
    rfl
  · rw [if_neg h1]
    by_cases h2 : w = [48]
    · subst h2
      rw [if_pos rfl]
      rfl
    · rw [if_neg h2]
      simp [lookC, Ne.symm h1, Ne.symm h2, h1, h2]
theorem readBy_ok {fm fp fr : Fn} {r1 r0 : List Wd → Option T} {n : Nat} (hm : MarksWK fm) (hp : PartedR r0 (n + 1) fp) (hr : ReadBR r1 n fr) : ReadBR (readS r1 r0) (n + 1) (bodyF 3 1 1 (b_read_by_4b26 fm fp fr)) := fun ws hok hl hmw => by
  cases ws with
  | nil =>
    show bodyF 3 1 1 (b_read_by_4b26 fm fp fr) [.val (.lst [])] = .ok (.val .non) [.val (.lst [])]
    simp (disch := first | assumption | omega | (simp only [List.length_append, List.length_cons, List.length_nil, List.length_map, List.length_reverse, List.length_replicate, List.length_range, List.length_take, List.length_drop, enD_length, rangeD_length]; omega) | (simp; done) | fail) [decide_eq_true, decide_eq_false, kAsg, kNx, b_read_by_4b26]
  | cons w r =>
    have hM := hm (w :: r) (by omega)
    rw [readS_cons]
    have hWl : (wsD (w :: r)).length = r.length + 1 := by simp
    have hWn : ¬ wsD (w :: r) = [] := by simp
    have hMl := posM_top (w :: r) 0 0
    have hPl := posM_len (w :: r) 0 0
    by_cases q : balW (w :: r) 0 = false
    · rw [if_pos q]
      rw [q] at hM
      have hM : fm [.val (.lst (wsD (w :: r)))] = .ok (.val .non) [.val (.lst (wsD (w :: r)))] := hM
      show _ = RF.ok (.val .non) _
      generalize wsD (w :: r) = WD at *
      simp (disch := first | assumption | omega | (simp only [List.length_append, List.length_cons, List.length_nil, List.length_map, List.length_reverse, List.length_replicate, List.length_range, List.length_take, List.length_drop, enD_length, rangeD_length]; omega) | (simp; done) | fail) [decide_eq_true, decide_eq_false, kAsg, kNx, b_read_by_4b26, hM, hWn]
    · rw [if_neg q]
      have q : balW (w :: r) 0 = true := by simpa using q
      rw [q] at hM
      have hM : fm [.val (.lst (wsD (w :: r)))] = .ok (.val (.lst (natsD (posM (w :: r) 0 0)))) [.val (.lst (wsD (w :: r)))] := hM
      cases e : firstK (topW (w :: r) 0) with
      | some k =>
        have hP := hp (w :: r) k hok hl hmw e
        have hpos : 0 < (natsD (posM (w :: r) 0 0)).length := by
          unfold natsD
          rw [List.length_map, hMl]
          exact List.length_pos_of_mem (firstK_some e).1
        have hne : ¬ natsD (posM (w :: r) 0 0) = [] := List.ne_nil_of_length_pos hpos
        show _ = RF.ok (.val (optT (partS k r0 (w :: r)))) _
        generalize optT (partS k r0 (w :: r)) = OT at *
        generalize natsD (posM (w :: r) 0 0) = MD at *
        generalize wsD (w :: r) = WD at *
        simp (disch := first | assumption | omega | (simp only [List.length_append, List.length_cons, List.length_nil, List.length_map, List.length_reverse, List.length_replicate, List.length_range, List.length_take, List.length_drop, enD_length, rangeD_length]; omega) | (simp; done) | fail) [decide_eq_true, decide_eq_false, kAsg, kNx, b_read_by_4b26, hM, hWn, hpos, hne, hP]
      | none =>
        have hno : natsD (posM (w :: r) 0 0) = [] := by
          have h0 : topW (w :: r) 0 = [] := by
            cases t : topW (w :: r) 0 with
            | nil => rfl
            | cons a b =>
              obtain ⟨k, hk⟩ := topW_bin (w :: r) 0 a (by rw [t]; simp)
              have := firstK_none e k
              rw [t, hk] at this
              exact absurd (by simp) this
          unfold natsD
          rw [h0] at hMl
          rw [List.length_eq_zero_iff.mp hMl]
          rfl
        rw [hno] at hM
        show bodyF 3 1 1 (b_read_by_4b26 fm fp fr) [.val (.lst (.str w :: wsD r))] = .ok (.val (optT (lastS r1 w r))) [.val (.lst (.str w :: wsD r))]
        have hM : fm [.val (.lst (.str w :: wsD r))] = .ok (.val (.lst [])) [.val (.lst (.str w :: wsD r))] := hM
        unfold lastS
        have hrl : (wsD r).length ≤ 9000 := by simp only [List.length_map]; simp only [List.length_cons] at hl; omega
        by_cases q1 : w = [126]
        · rw [if_pos q1]
          subst q1
          have hR := hr r (fun v hv => hok v (by simp [hv])) (by simp only [List.length_cons] at hl; omega) (by rw [mW_cons] at hmw; have : mW [[126]] = 2 := rfl; omega)
          cases h1 : r1 r with
          | none =>
            rw [h1] at hR
            have hR : fr [.val (.lst (wsD r))] = .ok (.val .non) [.val (.lst (wsD r))] := hR
            show _ = RF.ok (.val .non) _
            generalize wsD r = RD at *
            simp (disch := first | assumption | omega | (simp only [List.length_append, List.length_cons, List.length_nil, List.length_map, List.length_reverse, List.length_replicate, List.length_range, List.length_take, List.length_drop, enD_length, rangeD_length]; omega) | (simp; done) | fail) [decide_eq_true, decide_eq_false, kAsg, kNx, b_read_by_4b26, hM, hR]
          | some t =>
            rw [h1] at hR
            have hR : fr [.val (.lst (wsD r))] = .ok (.val t.toD) [.val (.lst (wsD r))] := hR
            have hn : t.toD.isNon = false := by cases t <;> rfl
            show _ = RF.ok (.val (.tup [.str [110, 111, 116], t.toD])) _
            generalize t.toD = TD at *
            generalize wsD r = RD at *
            simp (disch := first | assumption | omega | (simp only [List.length_append, List.length_cons, List.length_nil, List.length_map, List.length_reverse, List.length_replicate, List.length_range, List.length_take, List.length_drop, enD_length, rangeD_length]; omega) | (simp; done) | fail) [decide_eq_true, decide_eq_false, kAsg, kNx, b_read_by_4b26, hM, hR, hn]
        · rw [if_neg q1]
          have hlast := last_at (.str w) (wsD r)
          have hlastE : (D.str w :: wsD r).getLast (by simp) = .str ((w :: r).getLast (by simp)) := List.getLast_map (f := D.str) (l := w :: r) (by simp)
          rw [hlastE] at hlast
          generalize hLW : (w :: r).getLast (by simp) = LW at *
          by_cases q2 : w = [40] ∧ LW = [41]
          · rw [if_pos q2]
            obtain ⟨rfl, rfl⟩ := q2
            cases r with
            | nil => cases hLW
            | cons a r =>
              have hcut := mid_cut (.str [40]) (wsD (a :: r)) (by simp)
              have hdl : (wsD (a :: r)).dropLast = wsD (a :: r).dropLast := List.map_dropLast.symm
              rw [hdl] at hcut
              have hsub : ∀ v ∈ (a :: r).dropLast, v ∈ a :: r := fun v hv => (List.dropLast_sublist _).subset hv
              have hmd : mW (a :: r).dropLast ≤ mW (a :: r) := by
                unfold mW
                have h1 := (List.dropLast_sublist (a :: r)).countP_le (p := pW brP)
                have h2 := (List.dropLast_sublist (a :: r)).countP_le (p := pW cnP)
                omega
              have hR := hr (a :: r).dropLast (fun v hv => hok v (List.mem_cons_of_mem _ (hsub v hv))) (by simp only [List.length_cons, List.length_dropLast] at hl ⊢; omega) (by rw [mW_cons] at hmw; have : mW [[40]] = 1 := rfl; omega)
              generalize optT (r1 (a :: r).dropLast) = OT at *
              generalize wsD (a :: r).dropLast = DD at *
              generalize wsD (a :: r) = RD at *
              simp (disch := first | assumption | omega | (simp only [List.length_append, List.length_cons, List.length_nil, List.length_map, List.length_reverse, List.length_replicate, List.length_range, List.length_take, List.length_drop, enD_length, rangeD_length]; omega) | (simp; done) | fail) [decide_eq_true, decide_eq_false, kAsg, kNx, b_read_by_4b26, hM, hlast, hcut, hR]
          · rw [if_neg q2]
            by_cases q3 : r = []
            · subst q3
              rw [if_neg (by simp)]
              have hLW : w = LW := hLW
              subst hLW
              show bodyF 3 1 1 (b_read_by_4b26 fm fp fr) [.val (.lst [.str w])] = .ok (.val (leafL w).toD) [.val (.lst [.str w])]
              have hM : fm [.val (.lst [.str w])] = .ok (.val (.lst [])) [.val (.lst [.str w])] := hM
              unfold leafL
              by_cases p1 : w = [49]
              · subst p1
                rw [if_pos rfl]
                simp only [T.toD]
                have hk := leaf_look [49] (.tup [.str [121, 101, 115]]) (.tup [.str [110, 111]])
                rw [if_pos rfl] at hk
                simp (disch := first | assumption | omega | (simp only [List.length_append, List.length_cons, List.length_nil, List.length_map, List.length_reverse, List.length_replicate, List.length_range, List.length_take, List.length_drop, enD_length, rangeD_length]; omega) | (simp; done) | fail) [decide_eq_true, decide_eq_false, kAsg, kNx, b_read_by_4b26, hM, hk]
              · rw [if_neg p1]
                by_cases p2 : w = [48]
                · subst p2
                  rw [if_pos rfl]
                  simp only [T.toD]
                  have hk := leaf_look [48] (.tup [.str [121, 101, 115]]) (.tup [.str [110, 111]])
                  rw [if_neg (by decide), if_pos rfl] at hk
                  simp (disch := first | assumption | omega | (simp only [List.length_append, List.length_cons, List.length_nil, List.length_map, List.length_reverse, List.length_replicate, List.length_range, List.length_take, List.length_drop, enD_length, rangeD_length]; omega) | (simp; done) | fail) [decide_eq_true, decide_eq_false, kAsg, kNx, b_read_by_4b26, hM, hk]
                · rw [if_neg p2]
                  have hk := leaf_look w (.tup [.str [121, 101, 115]]) (.tup [.str [110, 111]])
                  rw [if_neg p1, if_neg p2] at hk
                  simp only [T.toD]
                  have q2' : ¬ (w = [40] ∧ w = [41]) := q2
                  by_cases p3 : w = [40]
                  · subst p3
                    simp (disch := first | assumption | omega | (simp only [List.length_append, List.length_cons, List.length_nil, List.length_map, List.length_reverse, List.length_replicate, List.length_range, List.length_take, List.length_drop, enD_length, rangeD_length]; omega) | (simp; done) | fail) [decide_eq_true, decide_eq_false, kAsg, kNx, b_read_by_4b26, hM, hk]
                  · simp (disch := first | assumption | omega | (simp only [List.length_append, List.length_cons, List.length_nil, List.length_map, List.length_reverse, List.length_replicate, List.length_range, List.length_take, List.length_drop, enD_length, rangeD_length]; omega) | (simp; done) | fail) [decide_eq_true, decide_eq_false, kAsg, kNx, b_read_by_4b26, hM, q1, p1, p2, p3, hk]
            · rw [if_pos q3]
              show _ = RF.ok (.val .non) _
              have hpos : 0 < (wsD r).length := by rw [List.length_map]; exact List.length_pos_iff.mpr q3
              have hpos' : (1 : Int) < ((wsD r).length : Int) + 1 := by omega
              have hne : ¬ wsD r = [] := List.ne_nil_of_length_pos hpos
              generalize wsD r = RD at *
              by_cases p3 : w = [40]
              · have p4 : ¬ LW = [41] := fun z => q2 ⟨p3, z⟩
                subst p3
                simp (disch := first | assumption | omega | (simp only [List.length_append, List.length_cons, List.length_nil, List.length_map, List.length_reverse, List.length_replicate, List.length_range, List.length_take, List.length_drop, enD_length, rangeD_length]; omega) | (simp; done) | fail) [decide_eq_true, decide_eq_false, kAsg, kNx, b_read_by_4b26, hM, hlast, p4, hpos, hpos', hne]
              · simp (disch := first | assumption | omega | (simp only [List.length_append, List.length_cons, List.length_nil, List.length_map, List.length_reverse, List.length_replicate, List.length_range, List.length_take, List.length_drop, enD_length, rangeD_length]; omega) | (simp; done) | fail) [decide_eq_true, decide_eq_false, kAsg, kNx, b_read_by_4b26, hM, q1, p3, hpos, hpos', hne]
end PL
set_option Elab.async false
set_option linter.all false
set_option maxRecDepth 100000
set_option maxHeartbeats 1000000
namespace PL
set_option autoImplicit false
open PySem L2 PyProof.Rows
theorem wordsGo_okWs : ∀ (cs run : List Nat) (acc ws : List Wd), wordsGo cs run acc = some ws → (∀ c ∈ run, c ∈ abc) → okWs acc → okWs ws
  | [], run, acc, ws, h, _, ha => by
    unfold wordsGo at h
    cases h
    exact ha
  | c :: cs, run, acc, ws, h, hr, ha => by
    unfold wordsGo at h
    split at h
    next q => exact wordsGo_okWs cs _ acc ws h (fun x hx => by
        rcases List.mem_append.mp hx with hx | hx
        · exact hr x hx
        · have : x = c := by simpa using hx
          subst this; exact q) ha
    · split at h
      · cases h
      next q8 =>
        have ha' : okWs (if run ≠ [] then acc ++ [run] else acc) := by
          split
          next q0 =>
            intro w hw
            rcases List.mem_append.mp hw with hw | hw
            · exact ha w hw
            · have : w = run := by simpa using hw
              subst this
              exact .inr ⟨q0, by omega, hr⟩
          · exact ha
        split at h
        next q =>
          refine wordsGo_okWs cs _ _ ws h (fun x hx => by cases hx) fun w hw => ?_
          rcases List.mem_append.mp hw with hw | hw
          · exact ha' w hw
          · have : w = [c] := by simpa using hw
            subst this
            exact .inl ⟨c, rfl, q⟩
        · split at h
          · cases h
          · exact wordsGo_okWs cs _ _ ws h (fun x hx => by cases hx) ha'
theorem wordsF_okWs {text : List Nat} {ws : List Wd} (h : wordsF text = some ws) : okWs ws := wordsGo_okWs _ [] [] ws h (fun c hc => by cases hc) fun w hw => by cases hw
def nbP (c : Nat) : Bool := decide (c ≠ 32)
theorem wordsGo_nb : ∀ (cs run : List Nat) (acc ws : List Wd), wordsGo cs run acc = some ws → ws.length ≤ acc.length + (if run = [] then 0 else 1) + cs.countP nbP
  | [], run, acc, ws, h => by
    unfold wordsGo at h
    cases h
    omega
  | c :: cs, run, acc, ws, h => by
    unfold wordsGo at h
    have hA : (if run ≠ [] then acc ++ [run] else acc).length ≤ acc.length + (if run = [] then 0 else 1) := by
      by_cases q : run = []
      · simp [q]
      · simp [q]
    generalize (if run ≠ [] then acc ++ [run] else acc) = A at *
    rw [List.countP_cons]
    split at h
    next q =>
      have ih := wordsGo_nb cs _ acc ws h
      have : nbP c = true := decide_eq_true fun e => by subst e; revert q; decide
      rw [this]
      have e : (if run ++ [c] = [] then 0 else 1) = 1 := if_neg (by simp)
      rw [e] at ih
      simp only [if_true]
      omega
    · split at h
      · cases h
      · split at h
        next q =>
          have ih := wordsGo_nb cs _ _ ws h
          have : nbP c = true := decide_eq_true fun e => by subst e; revert q; decide
          rw [this]
          simp only [if_true, List.length_append, List.length_cons, List.length_nil] at ih ⊢
          omega
        · split at h
          · cases h
          · have ih := wordsGo_nb cs _ _ ws h
            simp only [if_true] at ih
            omega
theorem wordsF_nb {text : List Nat} {ws : List Wd} (h : wordsF text = some ws) : ws.length ≤ text.countP nbP := by
  have := wordsGo_nb (text ++ [32]) [] [] ws h
  rw [List.countP_append] at this
  simpa [nbP] using this
theorem wordsF_mW {text : List Nat} {ws : List Wd} (h : wordsF text = some ws) : mW ws = text.countP brP + 2 * text.countP cnP := by
  unfold mW
  rw [wordsF_cnt brP_abc rfl h, wordsF_cnt cnP_abc rfl h]
/-- all that the spoiling asks of a text -/
structure Txx (m n l : Nat) (text : List Nat) : Prop where
  low : ∀ c ∈ text, c < 128
  br : text.countP brP + 2 * text.countP cnP ≤ m
  nb : text.countP nbP ≤ n
  len : text.length ≤ l
theorem Txx.le {m n l m' n' l' : Nat} {text : List Nat} (h : Txx m n l text) (h1 : m ≤ m') (h2 : n ≤ n') (h3 : l ≤ l') : Txx m' n' l' text := ⟨h.low, Nat.le_trans h.br h1, Nat.le_trans h.nb h2, Nat.le_trans h.len h3⟩
theorem cnt_take {p : Nat → Bool} (t : List Nat) (a : Nat) : (t.take a).countP p + (t.drop a).countP p = t.countP p := by
  rw [← List.countP_append, List.take_append_drop]
theorem cnt_drop1 {p : Nat → Bool} (t : List Nat) (a : Nat) : (t.drop (a + 1)).countP p ≤ (t.drop a).countP p := by
  rw [← List.drop_drop]
  exact (List.drop_sublist 1 _).countP_le
theorem Txx.put {m n l a b : Nat} {t x : List Nat} (h : Txx m n l t) (hx : Txx 2 10 10 x) (hb : b = a ∨ b = a + 1) : Txx (m + 2) (n + 10) (l + 10) (t.take a ++ x ++ t.drop b) := by
  have sub : ∀ p : Nat → Bool, (t.take a).countP p + (t.drop b).countP p ≤ t.countP p := fun p => by
    have h1 := cnt_take (p := p) t a
    rcases hb with rfl | rfl
    · omega
    · have := cnt_drop1 (p := p) t a; omega
  refine ⟨fun c hc => ?_, ?_, ?_, ?_⟩
  · rcases List.mem_append.mp hc with hc | hc
    · rcases List.mem_append.mp hc with hc | hc
      · exact h.low c (List.mem_of_mem_take hc)
      · exact hx.low c hc
    · exact h.low c (List.mem_of_mem_drop hc)
  · have := sub brP
    have := sub cnP
    have := h.br
    have := hx.br
    simp only [List.countP_append]
    omega
  · have := sub nbP
    have := h.nb
    have := hx.nb
    simp only [List.countP_append]
    omega
  · have := h.len
    have := hx.len
    simp only [List.length_append, List.length_take, List.length_drop]
    rcases hb with rfl | rfl <;> omega
theorem txx_one (c : Nat) (h : c < 128) : Txx 2 10 10 [c] := by
  refine ⟨fun x hx => ?_, ?_, ?_, by simp⟩
  · have : x = c := by simpa using hx
    subst this; exact h
  · rw [List.countP_cons, List.countP_cons, List.countP_nil, List.countP_nil]
    by_cases q : cnP c = true
    · have : brP c = false := by
        cases e : brP c with
        | false => rfl
        | true =>
          have : c = 40 := by simpa [brP] using e
          subst this
          cases q
      rw [this, q]
      simp
    · have : cnP c = false := by simpa using q
      rw [this]
      split <;> simp
  · rw [List.countP_cons, List.countP_nil]
    split <;> omega
theorem Tx.low {ws : List Wd} {cs : List Nat} (h : Tx ws cs) : ∀ c ∈ cs, c < 128 := by
  induction h with
  | nil => intro c hc; cases hc
  | bl _ ih =>
    intro c hc
    rcases List.mem_cons.mp hc with rfl | hc
    · decide
    · exact ih c hc
  | sg d hd _ ih =>
    intro c hc
    rcases List.mem_cons.mp hc with rfl | hc
    · have : c = 61 ∨ c = 62 ∨ c = 124 ∨ c = 38 ∨ c = 126 ∨ c = 48 ∨ c = 49 ∨ c = 40 ∨ c = 41 := by
        simp only [sgnL, onesL, List.mem_cons, List.not_mem_nil, or_false] at hd
        omega
      omega
    · exact ih c hc
  | nm w hw _ _ ih =>
    intro c hc
    rcases List.mem_append.mp hc with hc | hc
    · have := hw.2.2 c hc
      have key : ∀ c ∈ abc, c < 128 := by decide
      exact key c this
    · exact ih c hc
theorem Tx.nb {ws : List Wd} {cs : List Nat} (h : Tx ws cs) : cs.countP nbP ≤ 8 * ws.length := by
  induction h with
  | nil => simp
  | bl _ ih => rw [List.countP_cons]; simpa [nbP] using ih
  | sg d hd _ ih =>
    rw [List.countP_cons, List.length_cons]
    split <;> omega
  | nm w hw _ _ ih =>
    rw [List.countP_append, List.length_cons]
    have := List.countP_le_length (p := nbP) (l := w)
    have := hw.2.1
    omega
end PL
set_option Elab.async false
set_option linter.all false
set_option maxRecDepth 100000
set_option maxHeartbeats 1000000
namespace PL
set_option autoImplicit false
open PySem L2 PyProof.Rows
/-- a word: there, of low signs, of little weight -/
structure Wok (w : Wd) : Prop where
  ne : w ≠ []
  tx : Txx 2 12 12 w
theorem wok_one (c : Nat) (h : c < 128) : Wok [c] := ⟨by simp, (txx_one c h).le (by omega) (by omega) (by omega)⟩
theorem wok_abc {w : Wd} (hn : w ≠ []) (h : ∀ c ∈ w, c ∈ abc) (hl : w.length ≤ 12) : Wok w := by
  have low : ∀ c ∈ abc, c < 128 ∧ brP c = false ∧ cnP c = false := by decide
  refine ⟨hn, fun c hc => (low c (h c hc)).1, ?_, ?_, hl⟩
  · have h1 : w.countP brP = 0 := List.countP_eq_zero.mpr fun c hc => by simp [(low c (h c hc)).2.1]
    have h2 : w.countP cnP = 0 := List.countP_eq_zero.mpr fun c hc => by simp [(low c (h c hc)).2.2]
    rw [h1, h2]; omega
  · exact Nat.le_trans List.countP_le_length hl
theorem wok_ok {w : Wd} (h : okW w) : Wok w := wok_abc h.1 h.2.2 (by have := h.2.1; omega)
def WantedK (f : Fn) : Prop := ∀ ws : List Wd, ws.length ≤ 1000 → ∃ b : Bool, f [.val (.lst (wsD ws))] = .ok (.val (.bl b)) [.val (.lst (wsD ws))]
theorem wanted_ok : WantedK (bodyF 1 1 1 b_wanted_a0c6) := fun ws hl => by
  cases ws with
  | nil =>
    refine ⟨true, ?_⟩
    show bodyF 1 1 1 b_wanted_a0c6 [.val (.lst [])] = _
    simp (disch := first | assumption | omega | (simp only [List.length_append, List.length_cons, List.length_nil, List.length_map, List.length_reverse, List.length_replicate, List.length_range, List.length_take, List.length_drop, enD_length, rangeD_length]; omega) | (simp; done) | fail) [decide_eq_true, decide_eq_false, kAsg, kNx, b_wanted_a0c6]
  | cons w r =>
    have hlast := last_at (.str w) (wsD r)
    have hlastE : (D.str w :: wsD r).getLast (by simp) = .str ((w :: r).getLast (by simp)) := List.getLast_map (f := D.str) (l := w :: r) (by simp)
    rw [hlastE] at hlast
    generalize (w :: r).getLast (by simp) = LW at *
    have hin := gInL_strs LW [[126], [40], [38], [124], [62], [61]]
    have hin : gInL (.str LW) [.str [126], .str [40], .str [38], .str [124], .str [62], .str [61]] = .ok (decide (LW ∈ ([[126], [40], [38], [124], [62], [61]] : List Wd))) := hin
    refine ⟨decide (LW ∈ ([[126], [40], [38], [124], [62], [61]] : List Wd)), ?_⟩
    show bodyF 1 1 1 b_wanted_a0c6 [.val (.lst (.str w :: wsD r))] = .ok (.val (.bl (decide (LW ∈ ([[126], [40], [38], [124], [62], [61]] : List Wd))))) [.val (.lst (.str w :: wsD r))]
    generalize decide (LW ∈ ([[126], [40], [38], [124], [62], [61]] : List Wd)) = B at *
    have hp : ¬ ((wsD r).length : Int) + 1 = 0 := by omega
    generalize wsD r = RD at *
    simp (disch := first | assumption | omega | (simp only [List.length_append, List.length_cons, List.length_nil, List.length_map, List.length_reverse, List.length_replicate, List.length_range, List.length_take, List.length_drop, enD_length, rangeD_length]; omega) | (simp; done) | fail) [decide_eq_true, decide_eq_false, kAsg, kNx, b_wanted_a0c6, hlast, hin, hp]
def WordDK (f : Fn) : Prop := ∀ (ns : List (List Nat)) (ws : List Wd) (c : Int), 1 ≤ ns.length → ns.length ≤ 8 → (∀ x ∈ ns, okW x) → ws.length ≤ 1000 → ∃ w : Wd, f [.val (nmD ns), .val (.lst (wsD ws)), .val (.int c)] = .ok (.val (.str w)) [.val (nmD ns), .val (.lst (wsD ws)), .val (.int c)] ∧ Wok w
theorem at8_4 {α : Type} (a b c d e f g h : α) : L2.atI [a, b, c, d, e, f, g, h] 4 = some e := rfl
theorem at8_5 {α : Type} (a b c d e f g h : α) : L2.atI [a, b, c, d, e, f, g, h] 5 = some f := rfl
theorem at8_6 {α : Type} (a b c d e f g h : α) : L2.atI [a, b, c, d, e, f, g, h] 6 = some g := rfl
theorem at8_7 {α : Type} (a b c d e f g h : α) : L2.atI [a, b, c, d, e, f, g, h] 7 = some h := rfl
theorem wordD_ok {fw : Fn} (hw : WantedK fw) : WordDK (bodyF 4 3 3 (b_word_ac73 fw)) := fun ns ws c m1 m8 hW hl => by
  obtain ⟨R, hR⟩ : ∃ R : Int, c / 8 = R := ⟨_, rfl⟩
  obtain ⟨b, hb⟩ := hw ws hl
  have e0 := atI_map D.str ns 0 (by decide) (by simpa using (show 0 < ns.length by omega))
  have el : L2.atI (ns.map D.str) (-1) = some (.str (ns.getLast (List.ne_nil_of_length_pos (by omega)))) := by
    cases ns with
    | nil => simp at m1
    | cons x r =>
      have h1 := last_at (.str x) (r.map D.str)
      have h2 : (D.str x :: r.map D.str).getLast (by simp) = .str ((x :: r).getLast (by simp)) := List.getLast_map (f := D.str) (l := x :: r) (by simp)
      rw [h2] at h1
      exact h1
  have hx0 := hW _ (List.getElem_mem (l := ns) (n := (0 : Int).toNat) (by simpa using (show 0 < ns.length by omega)))
  have hxl := hW _ (List.getLast_mem (List.ne_nil_of_length_pos (show 0 < ns.length by omega)))
  have q0 : 0 ≤ R % (ns.length : Int) := Int.emod_nonneg _ (by omega)
  have q1 : R % (ns.length : Int) < (ns.length : Int) := Int.emod_lt_of_pos _ (by omega)
  have er := atI_map D.str ns (R % (ns.length : Int)) q0 (by omega)
  have hxr := hW _ (List.getElem_mem (l := ns) (n := (R % (ns.length : Int)).toNat) (by omega))
  have hnl : ((ns.map D.str).length : Int) = (ns.length : Int) := by simp
  generalize ns[(0 : Int).toNat]'(by simpa using (show 0 < ns.length by omega)) = x0 at *
  generalize ns.getLast (List.ne_nil_of_length_pos (by omega)) = xl at *
  generalize ns[(R % (ns.length : Int)).toNat]'(by omega) = xr at *
  have hc0 : gCntL (wsD ws) (.str [40]) = .ok (.int ((ws.count [40] : Nat) : Int)) := gCntL_strs ws [40]
  have hc1 : gCntL (wsD ws) (.str [41]) = .ok (.int ((ws.count [41] : Nat) : Int)) := gCntL_strs ws [41]
  have hxl8 := hxl.2.1
  unfold nmD
  have hll : ((ns.map D.str).length : Int) = (ns.length : Int) := by simp
  have c8 : c % 8 = 0 ∨ c % 8 = 1 ∨ c % 8 = 2 ∨ c % 8 = 3 ∨ c % 8 = 4 ∨ c % 8 = 5 ∨ c % 8 = 6 ∨ c % 8 = 7 := by omega
  by_cases qr : R % 41 = 0
  · have lx : (xl ++ [120, 121, 122, 119]).length ≤ 100 := by simp; omega
    have hxw : Wok (xl ++ [120, 121, 122, 119]) := wok_abc (by simp) (fun y hy => by
      rcases List.mem_append.mp hy with hy | hy
      · exact hxl.2.2 y hy
      · have key : ∀ y ∈ ([120, 121, 122, 119] : List Nat), y ∈ abc := by decide
        exact key y hy) (by simp; omega)
    generalize ns.map D.str = ND at *
    generalize wsD ws = WD at *
    rcases c8 with q | q | q | q | q | q | q | q
    · exact ⟨[126], by simp (disch := first | assumption | omega | (simp only [List.length_append, List.length_cons, List.length_nil, List.length_map, List.length_reverse, List.length_replicate, List.length_range, List.length_take, List.length_drop, enD_length, rangeD_length]; omega) | (simp; done) | fail) [decide_eq_true, decide_eq_false, kAsg, kNx, b_word_ac73, hR, qr, q, e0, el, at8_4, at8_5, at8_6, at8_7], wok_one _ (by decide)⟩
    · exact ⟨[40], by simp (disch := first | assumption | omega | (simp only [List.length_append, List.length_cons, List.length_nil, List.length_map, List.length_reverse, List.length_replicate, List.length_range, List.length_take, List.length_drop, enD_length, rangeD_length]; omega) | (simp; done) | fail) [decide_eq_true, decide_eq_false, kAsg, kNx, b_word_ac73, hR, qr, q, e0, el, at8_4, at8_5, at8_6, at8_7], wok_one _ (by decide)⟩
    · exact ⟨[41], by simp (disch := first | assumption | omega | (simp only [List.length_append, List.length_cons, List.length_nil, List.length_map, List.length_reverse, List.length_replicate, List.length_range, List.length_take, List.length_drop, enD_length, rangeD_length]; omega) | (simp; done) | fail) [decide_eq_true, decide_eq_false, kAsg, kNx, b_word_ac73, hR, qr, q, e0, el, at8_4, at8_5, at8_6, at8_7], wok_one _ (by decide)⟩
    · exact ⟨[38], by simp (disch := first | assumption | omega | (simp only [List.length_append, List.length_cons, List.length_nil, List.length_map, List.length_reverse, List.length_replicate, List.length_range, List.length_take, List.length_drop, enD_length, rangeD_length]; omega) | (simp; done) | fail) [decide_eq_true, decide_eq_false, kAsg, kNx, b_word_ac73, hR, qr, q, e0, el, at8_4, at8_5, at8_6, at8_7], wok_one _ (by decide)⟩
    · exact ⟨[62], by simp (disch := first | assumption | omega | (simp only [List.length_append, List.length_cons, List.length_nil, List.length_map, List.length_reverse, List.length_replicate, List.length_range, List.length_take, List.length_drop, enD_length, rangeD_length]; omega) | (simp; done) | fail) [decide_eq_true, decide_eq_false, kAsg, kNx, b_word_ac73, hR, qr, q, e0, el, at8_4, at8_5, at8_6, at8_7], wok_one _ (by decide)⟩
    · exact ⟨[49], by simp (disch := first | assumption | omega | (simp only [List.length_append, List.length_cons, List.length_nil, List.length_map, List.length_reverse, List.length_replicate, List.length_range, List.length_take, List.length_drop, enD_length, rangeD_length]; omega) | (simp; done) | fail) [decide_eq_true, decide_eq_false, kAsg, kNx, b_word_ac73, hR, qr, q, e0, el, at8_4, at8_5, at8_6, at8_7], wok_one _ (by decide)⟩
    · exact ⟨x0, by simp (disch := first | assumption | omega | (simp only [List.length_append, List.length_cons, List.length_nil, List.length_map, List.length_reverse, List.length_replicate, List.length_range, List.length_take, List.length_drop, enD_length, rangeD_length]; omega) | (simp; done) | fail) [decide_eq_true, decide_eq_false, kAsg, kNx, b_word_ac73, hR, qr, q, e0, el, at8_4, at8_5, at8_6, at8_7], wok_ok hx0⟩
    · exact ⟨xl ++ [120, 121, 122, 119], by simp (disch := first | assumption | omega | (simp only [List.length_append, List.length_cons, List.length_nil, List.length_map, List.length_reverse, List.length_replicate, List.length_range, List.length_take, List.length_drop, enD_length, rangeD_length]; omega) | (simp; done) | fail) [decide_eq_true, decide_eq_false, kAsg, kNx, b_word_ac73, hR, qr, q, e0, el, at8_4, at8_5, at8_6, at8_7], hxw⟩
  · cases b with
    | true =>
      by_cases q4 : c % 8 < 4
      · obtain ⟨y, hy, hy2⟩ : ∃ y, L2.atI ([49, 48] : List Nat) (R / 7 % 2) = some y ∧ y < 128 := by
          have : R / 7 % 2 = 0 ∨ R / 7 % 2 = 1 := by omega
          rcases this with h | h
          · rw [h]; exact ⟨49, rfl, by decide⟩
          · rw [h]; exact ⟨48, rfl, by decide⟩
        generalize ns.map D.str = ND at *
        generalize wsD ws = WD at *
        rcases c8 with q | q | q | q | q | q | q | q
        · exact ⟨[126], by simp (disch := first | assumption | omega | (simp only [List.length_append, List.length_cons, List.length_nil, List.length_map, List.length_reverse, List.length_replicate, List.length_range, List.length_take, List.length_drop, enD_length, rangeD_length]; omega) | (simp; done) | fail) [decide_eq_true, decide_eq_false, kAsg, kNx, b_word_ac73, hR, qr, q, hb, hy], wok_one _ (by decide)⟩
        · exact ⟨[40], by simp (disch := first | assumption | omega | (simp only [List.length_append, List.length_cons, List.length_nil, List.length_map, List.length_reverse, List.length_replicate, List.length_range, List.length_take, List.length_drop, enD_length, rangeD_length]; omega) | (simp; done) | fail) [decide_eq_true, decide_eq_false, kAsg, kNx, b_word_ac73, hR, qr, q, hb, hy], wok_one _ (by decide)⟩
        · exact ⟨[126], by simp (disch := first | assumption | omega | (simp only [List.length_append, List.length_cons, List.length_nil, List.length_map, List.length_reverse, List.length_replicate, List.length_range, List.length_take, List.length_drop, enD_length, rangeD_length]; omega) | (simp; done) | fail) [decide_eq_true, decide_eq_false, kAsg, kNx, b_word_ac73, hR, qr, q, hb, hy], wok_one _ (by decide)⟩
        · exact ⟨[y], by simp (disch := first | assumption | omega | (simp only [List.length_append, List.length_cons, List.length_nil, List.length_map, List.length_reverse, List.length_replicate, List.length_range, List.length_take, List.length_drop, enD_length, rangeD_length]; omega) | (simp; done) | fail) [decide_eq_true, decide_eq_false, kAsg, kNx, b_word_ac73, hR, qr, q, hb, hy], wok_one _ hy2⟩
        · omega
        · omega
        · omega
        · omega
      · generalize hND : ns.map D.str = ND at *
        generalize wsD ws = WD at *
        rw [← hnl] at er
        exact ⟨xr, by simp (disch := first | assumption | omega | (simp only [List.length_append, List.length_cons, List.length_nil, List.length_map, List.length_reverse, List.length_replicate, List.length_range, List.length_take, List.length_drop, enD_length, rangeD_length]; omega) | (simp; done) | fail) [decide_eq_true, decide_eq_false, kAsg, kNx, b_word_ac73, hR, qr, q4, hb, er], wok_ok hxr⟩
    | false =>
      obtain ⟨y, hy, hy2⟩ : ∃ y, L2.atI ([38, 124, 62, 61] : List Nat) (R / 41 % 4) = some y ∧ y < 128 := by
        have : R / 41 % 4 = 0 ∨ R / 41 % 4 = 1 ∨ R / 41 % 4 = 2 ∨ R / 41 % 4 = 3 := by omega
        rcases this with h | h | h | h
        · rw [h]; exact ⟨38, rfl, by decide⟩
        · rw [h]; exact ⟨124, rfl, by decide⟩
        · rw [h]; exact ⟨62, rfl, by decide⟩
        · rw [h]; exact ⟨61, rfl, by decide⟩
      generalize ns.map D.str = ND at *
      generalize wsD ws = WD at *
      by_cases q3 : c % 8 < 3
      · by_cases qc : ws.count [41] < ws.count [40]
        · have qc' : ((ws.count [41] : Nat) : Int) < ((ws.count [40] : Nat) : Int) := by omega
          exact ⟨[41], by simp (disch := first | assumption | omega | (simp only [List.length_append, List.length_cons, List.length_nil, List.length_map, List.length_reverse, List.length_replicate, List.length_range, List.length_take, List.length_drop, enD_length, rangeD_length]; omega) | (simp; done) | fail) [decide_eq_true, decide_eq_false, kAsg, kNx, b_word_ac73, hR, qr, q3, hb, hc0, hc1, qc, qc'], wok_one _ (by decide)⟩
        · have qc' : ¬ ((ws.count [41] : Nat) : Int) < ((ws.count [40] : Nat) : Int) := by omega
          exact ⟨[y], by simp (disch := first | assumption | omega | (simp only [List.length_append, List.length_cons, List.length_nil, List.length_map, List.length_reverse, List.length_replicate, List.length_range, List.length_take, List.length_drop, enD_length, rangeD_length]; omega) | (simp; done) | fail) [decide_eq_true, decide_eq_false, kAsg, kNx, b_word_ac73, hR, qr, q3, hb, hc0, hc1, qc, qc', hy], wok_one _ hy2⟩
      · exact ⟨[y], by simp (disch := first | assumption | omega | (simp only [List.length_append, List.length_cons, List.length_nil, List.length_map, List.length_reverse, List.length_replicate, List.length_range, List.length_take, List.length_drop, enD_length, rangeD_length]; omega) | (simp; done) | fail) [decide_eq_true, decide_eq_false, kAsg, kNx, b_word_ac73, hR, qr, q3, hb, hy], wok_one _ hy2⟩
theorem txx_0 : Txx 0 0 0 [] := ⟨fun c hc => (by cases hc), by simp, by simp, by simp⟩
theorem Txx.add {m n l m' n' l' : Nat} {t x : List Nat} (h : Txx m n l t) (g : Txx m' n' l' x) : Txx (m + m') (n + n') (l + l') (t ++ x) := by
  refine ⟨fun c hc => ?_, ?_, ?_, ?_⟩
  · rcases List.mem_append.mp hc with hc | hc
    · exact h.low c hc
    · exact g.low c hc
  · rw [List.countP_append, List.countP_append]
    have := h.br
    have := g.br
    omega
  · rw [List.countP_append]
    have := h.nb
    have := g.nb
    omega
  · rw [List.length_append]
    have := h.len
    have := g.len
    omega
theorem txx_bl (n : Nat) : Txx 0 0 n (List.replicate n 32) := by
  have h : ∀ c ∈ List.replicate n 32, c = 32 := fun c hc => List.eq_of_mem_replicate hc
  refine ⟨fun c hc => by rw [h c hc]; decide, ?_, ?_, by simp⟩
  · have h1 : (List.replicate n 32).countP brP = 0 := List.countP_eq_zero.mpr fun c hc => by rw [h c hc]; decide
    have h2 : (List.replicate n 32).countP cnP = 0 := List.countP_eq_zero.mpr fun c hc => by rw [h c hc]; decide
    rw [h1, h2]; decide
  · have h1 : (List.replicate n 32).countP nbP = 0 := List.countP_eq_zero.mpr fun c hc => by rw [h c hc]; decide
    rw [h1]; exact Nat.le_refl 0
theorem txx_cl (n : Nat) : Txx 0 n n (List.replicate n 41) := by
  have h : ∀ c ∈ List.replicate n 41, c = 41 := fun c hc => List.eq_of_mem_replicate hc
  refine ⟨fun c hc => by rw [h c hc]; decide, ?_, ?_, by simp⟩
  · have h1 : (List.replicate n 41).countP brP = 0 := List.countP_eq_zero.mpr fun c hc => by rw [h c hc]; decide
    have h2 : (List.replicate n 41).countP cnP = 0 := List.countP_eq_zero.mpr fun c hc => by rw [h c hc]; decide
    rw [h1, h2]; decide
  · have := List.countP_le_length (p := nbP) (l := List.replicate n 41)
    rwa [List.length_replicate] at this
theorem txx_nm {x : Wd} (h : okW x) : Txx 0 8 8 x := by
  have low : ∀ c ∈ abc, c < 128 ∧ brP c = false ∧ cnP c = false := by decide
  refine ⟨fun c hc => (low c (h.2.2 c hc)).1, ?_, Nat.le_trans List.countP_le_length h.2.1, h.2.1⟩
  have h1 : x.countP brP = 0 := List.countP_eq_zero.mpr fun c hc => by simp [(low c (h.2.2 c hc)).2.1]
  have h2 : x.countP cnP = 0 := List.countP_eq_zero.mpr fun c hc => by simp [(low c (h.2.2 c hc)).2.2]
  rw [h1, h2]; decide
theorem E_names {p : Nat} {ws : List Wd} {t : T} (h : E p ws t) : okWs ws → t.okWs ∧ t.size ≤ ws.length := by
  induction h with
  | leaf w t h hd =>
    intro hok
    unfold leafF at h
    split at h
    · cases h; exact ⟨trivial, by simp [T.size]⟩
    · split at h
      · cases h; exact ⟨trivial, by simp [T.size]⟩
      · split at h
        · split at h
          · rename_i q
            cases h
            refine ⟨?_, by simp [T.size]⟩
            rcases hok _ (List.mem_singleton.mpr rfl) with ⟨d, e, hd⟩ | hw
            · injection e with e1 e2
              subst e1
              exact absurd q (sg_not hd)
            · exact hw
          · cases h
        · cases h
  | nt _ ih =>
    intro hok
    obtain ⟨a, b⟩ := ih fun w hw => hok w (by simp [hw])
    exact ⟨a, by simp only [T.size, List.length_cons]; omega⟩
  | br _ ih =>
    intro hok
    obtain ⟨a, b⟩ := ih fun w hw => hok w (by simp [hw])
    exact ⟨a, by simp only [List.length_cons, List.length_append]; omega⟩
  | bin k _ _ i1 i2 =>
    intro hok
    obtain ⟨a, b⟩ := i1 fun w hw => hok w (by simp [hw])
    obtain ⟨c, d⟩ := i2 fun w hw => hok w (by simp [hw])
    exact ⟨⟨a, c⟩, by simp only [T.size, List.length_append, List.length_cons]; omega⟩
  | up _ ih => exact ih
theorem okWs_nmLe : ∀ {t : T}, t.okWs → t.nmLe 8
  | .nm x, h => h.2.1
  | .yes, _ => trivial
  | .no, _ => trivial
  | .nt t, h => okWs_nmLe (t := t) h
  | .bin _ s t, h => ⟨okWs_nmLe (t := s) h.1, okWs_nmLe (t := t) h.2⟩
end PL
set_option Elab.async false
set_option linter.all false
set_option maxRecDepth 100000
set_option maxHeartbeats 4000000
namespace Wk08
open PySem PySem.Spec PyProof.Rows L2 PL
def top (i : Nat) : Stmt := PySem.Challenge.pw_mindchange_k08_whole_texts.main.body.getD i (.Pass ⟨0, 0, 0, 0⟩)
abbrev s_words_of : Stmt := top 17
abbrev s_leaf_of : Stmt := top 18
abbrev s_goes_first : Stmt := top 19
abbrev s_fold : Stmt := top 20
abbrev s_begun : Stmt := top 21
abbrev s_gone_on : Stmt := top 22
abbrev s_read : Stmt := top 23
abbrev s_strength : Stmt := top 25
abbrev s_within : Stmt := top 26
abbrev s_sign_of : Stmt := top 27
abbrev s_shown : Stmt := top 28
abbrev s__law_cell_at : Stmt := top 30
abbrev s__law_names_by : Stmt := top 31
abbrev s__law_alike : Stmt := top 32
abbrev s__law_class : Stmt := top 33
abbrev s__law_told : Stmt := top 34
abbrev s__law_words_by : Stmt := top 35
abbrev s__law_marks : Stmt := top 36
abbrev s__law_chained : Stmt := top 37
abbrev s__law_parted : Stmt := top 38
abbrev s__law_read_by : Stmt := top 39
abbrev s__law_deep : Stmt := top 40
abbrev s__law_due : Stmt := top 41
abbrev s__law_wanted : Stmt := top 42
abbrev s__law_word : Stmt := top 43
abbrev s_law : Stmt := top 44
abbrev N_words_of : List Str := ["text", "words", "run", "sign"]
theorem sc_words_of : FnScope N_words_of ["text"] (defScope s_words_of) := ⟨rfl, rfl, rfl, by decide +kernel, rfl, by decide +kernel, by decide +kernel⟩
abbrev N_leaf_of : List Str := ["word"]
theorem sc_leaf_of : FnScope N_leaf_of ["word"] (defScope s_leaf_of) := ⟨rfl, rfl, rfl, by decide +kernel, rfl, by decide +kernel, by decide +kernel⟩
abbrev N_goes_first : List Str := ["one", "sign"]
theorem sc_goes_first : FnScope N_goes_first ["one", "sign"] (defScope s_goes_first) := ⟨rfl, rfl, rfl, by decide +kernel, rfl, by decide +kernel, by decide +kernel⟩
abbrev N_fold : List Str := ["done", "sign", "part", "deep", "other", "far", "kind"]
theorem sc_fold : FnScope N_fold ["done", "sign"] (defScope s_fold) := ⟨rfl, rfl, rfl, by decide +kernel, rfl, by decide +kernel, by decide +kernel⟩
abbrev N_begun : List Str := ["word", "done", "waiting", "leaf"]
theorem sc_begun : FnScope N_begun ["word", "done", "waiting"] (defScope s_begun) := ⟨rfl, rfl, rfl, by decide +kernel, rfl, by decide +kernel, by decide +kernel⟩
abbrev N_gone_on : List Str := ["word", "done", "waiting"]
theorem sc_gone_on : FnScope N_gone_on ["word", "done", "waiting"] (defScope s_gone_on) := ⟨rfl, rfl, rfl, by decide +kernel, rfl, by decide +kernel, by decide +kernel⟩
abbrev N_read : List Str := ["text", "done", "waiting", "wanted", "word", "sign", "tree", "deep"]
theorem sc_read : FnScope N_read ["text"] (defScope s_read) := ⟨rfl, rfl, rfl, by decide +kernel, rfl, by decide +kernel, by decide +kernel⟩
abbrev N_strength : List Str := ["kind"]
theorem sc_strength : FnScope N_strength ["kind"] (defScope s_strength) := ⟨rfl, rfl, rfl, by decide +kernel, rfl, by decide +kernel, by decide +kernel⟩
abbrev N_within : List Str := ["text", "needed"]
theorem sc_within : FnScope N_within ["text", "needed"] (defScope s_within) := ⟨rfl, rfl, rfl, by decide +kernel, rfl, by decide +kernel, by decide +kernel⟩
abbrev N_sign_of : List Str := ["kind"]
theorem sc_sign_of : FnScope N_sign_of ["kind"] (defScope s_sign_of) := ⟨rfl, rfl, rfl, by decide +kernel, rfl, by decide +kernel, by decide +kernel⟩
abbrev N_shown : List Str := ["tree", "kind", "own", "left", "right", "one", "other"]
theorem sc_shown : FnScope N_shown ["tree"] (defScope s_shown) := ⟨rfl, rfl, rfl, by decide +kernel, rfl, by decide +kernel, by decide +kernel⟩
abbrev N__law_cell_at : List Str := ["_law_script", "_law_k"]
theorem sc__law_cell_at : FnScope N__law_cell_at ["_law_script", "_law_k"] (defScope s__law_cell_at) := ⟨rfl, rfl, rfl, by decide +kernel, rfl, by decide +kernel, by decide +kernel⟩
abbrev N__law_names_by : List Str := ["_law_cell", "_law_many", "_law_letters", "_law_rest", "_law_stem", "_law_signs", "_law_size", "_law_at", "_law_k", "_law_sign"]
theorem sc__law_names_by : FnScope N__law_names_by ["_law_cell", "_law_many"] (defScope s__law_names_by) := ⟨rfl, rfl, rfl, by decide +kernel, rfl, by decide +kernel, by decide +kernel⟩
abbrev N__law_alike : List Str := ["_law_found", "_law_due_here", "_law_one", "_law_other"]
theorem sc__law_alike : FnScope N__law_alike ["_law_found", "_law_due_here"] (defScope s__law_alike) := ⟨rfl, rfl, rfl, by decide +kernel, rfl, by decide +kernel, by decide +kernel⟩
abbrev N__law_class : List Str := ["_law_caught", "_law_fits", "_law_words", "_law_fit"]
theorem sc__law_class : FnScope N__law_class ["_law_caught"] (defScope s__law_class) := ⟨rfl, rfl, rfl, by decide +kernel, rfl, by decide +kernel, by decide +kernel⟩
abbrev N__law_told : List Str := ["_law_text", "_law_found", "_law_caught", "e"]
theorem sc__law_told : FnScope N__law_told ["_law_text"] (defScope s__law_told) := ⟨rfl, rfl, rfl, by decide +kernel, rfl, by decide +kernel, by decide +kernel⟩
abbrev N__law_words_by : List Str := ["_law_text", "_law_words", "_law_piece", "_law_sign", "_law_word_here"]
theorem sc__law_words_by : FnScope N__law_words_by ["_law_text"] (defScope s__law_words_by) := ⟨rfl, rfl, rfl, by decide +kernel, rfl, by decide +kernel, by decide +kernel⟩
abbrev N__law_marks : List Str := ["_law_words", "_law_level", "_law_marks_here", "_law_k", "_law_word_here"]
theorem sc__law_marks : FnScope N__law_marks ["_law_words"] (defScope s__law_marks) := ⟨rfl, rfl, rfl, by decide +kernel, rfl, by decide +kernel, by decide +kernel⟩
abbrev N__law_chained : List Str := ["_law_kind", "_law_parts", "_law_tree", "_law_part"]
theorem sc__law_chained : FnScope N__law_chained ["_law_kind", "_law_parts"] (defScope s__law_chained) := ⟨rfl, rfl, rfl, by decide +kernel, rfl, by decide +kernel, by decide +kernel⟩
abbrev N__law_parted : List Str := ["_law_words", "_law_marks_here", "_law_kinds", "_law_sign", "_law_places", "_law_parts", "_law_k"]
theorem sc__law_parted : FnScope N__law_parted ["_law_words", "_law_marks_here"] (defScope s__law_parted) := ⟨rfl, rfl, rfl, by decide +kernel, rfl, by decide +kernel, by decide +kernel⟩
abbrev N__law_read_by : List Str := ["_law_words", "_law_marks_here", "_law_part"]
theorem sc__law_read_by : FnScope N__law_read_by ["_law_words"] (defScope s__law_read_by) := ⟨rfl, rfl, rfl, by decide +kernel, rfl, by decide +kernel, by decide +kernel⟩
abbrev N__law_deep : List Str := ["_law_tree", "_law_part"]
theorem sc__law_deep : FnScope N__law_deep ["_law_tree"] (defScope s__law_deep) := ⟨rfl, rfl, rfl, by decide +kernel, rfl, by decide +kernel, by decide +kernel⟩
abbrev N__law_due : List Str := ["_law_text", "_law_due_here", "_law_told_here"]
theorem sc__law_due : FnScope N__law_due ["_law_text", "_law_due_here"] (defScope s__law_due) := ⟨rfl, rfl, rfl, by decide +kernel, rfl, by decide +kernel, by decide +kernel⟩
abbrev N__law_wanted : List Str := ["_law_words"]
theorem sc__law_wanted : FnScope N__law_wanted ["_law_words"] (defScope s__law_wanted) := ⟨rfl, rfl, rfl, by decide +kernel, rfl, by decide +kernel, by decide +kernel⟩
abbrev N__law_word : List Str := ["_law_names", "_law_words", "_law_cell", "_law_rest"]
theorem sc__law_word : FnScope N__law_word ["_law_names", "_law_words", "_law_cell"] (defScope s__law_word) := ⟨rfl, rfl, rfl, by decide +kernel, rfl, by decide +kernel, by decide +kernel⟩
abbrev N_law : List Str := ["_law_script", "_law_kept", "_law_names", "_law_words", "_law_text", "_law_cell", "_law_word_here", "_law_blank", "_law_end", "_law_due_here", "_law_again", "_law_k"]
theorem sc_law : FnScope N_law ["_law_script"] (defScope s_law) := ⟨rfl, rfl, rfl, by decide +kernel, rfl, by decide +kernel, by decide +kernel⟩
structure Fns where
  words_of : Fn
  leaf_of : Fn
  goes_first : Fn
  fold : Fn
  begun : Fn
  gone_on : Fn
  read : Fn
  strength : Fn
  within : Fn
  sign_of : Fn
  shown : Fn
  _law_cell_at : Fn
  _law_names_by : Fn
  _law_alike : Fn
  _law_class : Fn
  _law_told : Fn
  _law_words_by : Fn
  _law_marks : Fn
  _law_chained : Fn
  _law_parted : Fn
  _law_read_by : Fn
  _law_deep : Fn
  _law_due : Fn
  _law_wanted : Fn
  _law_word : Fn
  law : Fn
noncomputable def F0 : Fns := ⟨fun _ => .stuck, fun _ => .stuck, fun _ => .stuck, fun _ => .stuck, fun _ => .stuck, fun _ => .stuck, fun _ => .stuck, fun _ => .stuck, fun _ => .stuck, fun _ => .stuck, fun _ => .stuck, fun _ => .stuck, fun _ => .stuck, fun _ => .stuck, fun _ => .stuck, fun _ => .stuck, fun _ => .stuck, fun _ => .stuck, fun _ => .stuck, fun _ => .stuck, fun _ => .stuck, fun _ => .stuck, fun _ => .stuck, fun _ => .stuck, fun _ => .stuck, fun _ => .stuck⟩
noncomputable def b_law_l1 (f__law_cell_at f__law_names_by f__law_word f__law_wanted f__law_words_by f__law_read_by f__law_due f__law_deep f_shown f_read f__law_alike : Fn) : Es := (seqS (ifS (e2 (gCmp pGt) (eCall gLen (aCons (eVar 4) aNil)) (e2 gAdd (eC (.int (160))) (e2 gMod (e2 gDiv (eVar 1) (eC (.int (8)))) (eC (.int (40)))))) bkS skipS)
  (seqS (asgS (ftOne 6) (lendD 3 (eFn f__law_word (aCons (eFrz 2) (aCons (eFrz 3) (aCons (e2 gMod (eVar 5) (eC (.int (2147483647)))) aNil))))))
  (seqS (ifS (tAn (e2 gEq (eVar 6) (eC (.str [40]))) (e2 (gCmp pGt) (eCnt (eVar 3) (eC (.str [40]))) (eC (.int (49))))) (asgS (ftOne 6) (e2 gIx (eVar 2) (eC (.int (0))))) skipS)
  (seqS (asgS (ftOne 7) (eCall gIntOf (aCons (eAn (eBl (e2 (gCmp pGt) (eCall gLen (aCons (eVar 3) aNil)) (eC (.int (0))))) (eAn (e1 gLow (e2 gIx (e2 gIx (eVar 3) (e1 gNeg (eC (.int (1))))) (eC (.int (0))))) (e1 gLow (e2 gIx (eVar 6) (eC (.int (0))))))) aNil)))
  (seqS (asgS (ftOne 4) (e2 gAdd (e2 gAdd (eVar 4) (e2 gMul (eC (.str [32])) (eCall gMax2 (aCons (eVar 7) (aCons (e2 gSub (e2 gMod (e2 gDiv (eVar 5) (eC (.int (331)))) (eC (.int (5)))) (eC (.int (3)))) aNil))))) (eVar 6)))
  (mutS 3 gAppend (aCons (eFrz 6) aNil) kNx))))))
noncomputable def b_law (f__law_cell_at f__law_names_by f__law_word f__law_wanted f__law_words_by f__law_read_by f__law_due f__law_deep f_shown f_read f__law_alike : Fn) : Es := (seqS (asgS (ftOne 1) (eFn f__law_cell_at (aCons (eFrz 0) (aCons (eC (.int (1))) aNil))))
  (seqS (asgS (ftOne 2) (eFn f__law_names_by (aCons (eFn f__law_cell_at (aCons (eFrz 0) (aCons (eC (.int (0))) aNil))) (aCons (e2 gAdd (eC (.int (1))) (e2 gMod (eVar 1) (eC (.int (8))))) aNil))))
  (seqS (asgN 3 (eLst aNil))
  (seqS (asgS (ftOne 4) (eC (.str [])))
  (seqS (forS (iSeq (eSl (eVar 0) (oSome (eC (.int (2)))) oNone)) (ftOne 5) (b_law_l1 f__law_cell_at f__law_names_by f__law_word f__law_wanted f__law_words_by f__law_read_by f__law_due f__law_deep f_shown f_read f__law_alike))
  (seqS (ifS (e2 (gCmp pGt) (e2 gMod (e2 gDiv (eVar 1) (eC (.int (512)))) (eC (.int (8)))) (eC (.int (0)))) (seqS (frzS 3 (asgS (ftOne 8) (eSl (eLst (aCons (e2 gIx (eVar 2) (eC (.int (0)))) aNil)) oNone (oSome (eCall gIntOf (aCons (eFn f__law_wanted (aCons (eFrz 3) aNil)) aNil))))))
  (seqS (asgS (ftOne 8) (e2 gAdd (eVar 8) (eLc [11] (iRg gRng1 (aCons (e2 gSub (eCnt (eVar 3) (eC (.str [40]))) (eCnt (eVar 3) (eC (.str [41])))) aNil)) (ftOne 11) fcYes (eC (.str [41])))))
  (asgS (ftOne 4) (e2 gAdd (eVar 4) (eM1 gJoin (eC (.str [])) (eVar 8)))))) skipS)
  (seqS (asgS (ftOne 9) (eFn f__law_read_by (aCons (eFn f__law_words_by (aCons (eFrz 4) aNil)) aNil)))
  (seqS (ifS (tNt (e1 tBool (eFn f__law_due (aCons (eFrz 4) (aCons (eFrz 9) aNil))))) (retS (eC (.bl false))) skipS)
  (seqS (ifS (tOo (e1 gIsN (eVar 9)) (tOo (e2 (gCmp pGt) (eCall gLen (aCons (eVar 4) aNil)) (eC (.int (200)))) (e2 (gCmp pGt) (eFn f__law_deep (aCons (eFrz 9) aNil)) (eC (.int (40)))))) (retS (eC (.bl true))) skipS)
  (seqS (asgS (ftOne 10) (eFn f_shown (aCons (eFrz 9) aNil)))
  (retS (eAn (eBl (e1 (gIsi "str") (eVar 10))) (eOo (eBl (e2 (gCmp pGt) (eCall gLen (aCons (eVar 10) aNil)) (eC (.int (200))))) (eFn f__law_alike (aCons (eFn f_read (aCons (eFrz 10) aNil)) (aCons (eFrz 9) aNil))))))))))))))))
noncomputable def FS (g : Fns) : Fns where
  words_of := bodyF 4 1 1 (b_words_of)
  leaf_of := bodyF 1 1 1 (b_leaf_of)
  goes_first := bodyF 2 2 2 (b_goes_first)
  fold := bodyF 7 2 2 (b_fold)
  begun := bodyF 4 3 3 (b_begun g.leaf_of)
  gone_on := bodyF 3 3 3 (b_gone_on g.fold g.goes_first)
  read := bodyF 8 1 1 (b_read g.words_of g.begun g.gone_on g.fold)
  strength := bodyF 1 1 1 (b_strength)
  within := bodyF 2 2 2 (b_within)
  sign_of := bodyF 1 1 1 (b_sign_of g.strength)
  shown := bodyF 7 1 1 (b_shown g.strength g.shown g.within g.sign_of)
  _law_cell_at := bodyF 2 2 2 (b_cell_at_86d1)
  _law_names_by := bodyF 10 2 2 (b_names_by_5a28)
  _law_alike := bodyF 4 2 2 (b_alike_b36c g._law_alike)
  _law_class := bodyF 4 1 1 (b_class_faa2)
  _law_told := bodyF 4 1 1 (b_told_b580 g.read g._law_class)
  _law_words_by := bodyF 5 1 1 (b_words_by_9931)
  _law_marks := bodyF 5 1 1 (b_marks_d0e6)
  _law_chained := bodyF 4 2 2 (b_chained_af29)
  _law_parted := bodyF 7 2 2 (b_parted_5c18 g._law_read_by g._law_chained)
  _law_read_by := bodyF 3 1 1 (b_read_by_4b26 g._law_marks g._law_parted g._law_read_by)
  _law_deep := bodyF 2 1 1 (b_deep_4d5c g._law_deep)
  _law_due := bodyF 3 2 2 (b_due_909d g._law_told g._law_deep g._law_alike)
  _law_wanted := bodyF 1 1 1 (b_wanted_a0c6)
  _law_word := bodyF 4 3 3 (b_word_ac73 g._law_wanted)
  law := bodyF 12 1 1 (b_law g._law_cell_at g._law_names_by g._law_word g._law_wanted g._law_words_by g._law_read_by g._law_due g._law_deep g.shown g.read g._law_alike)
noncomputable def F : Nat → Fns
  | 0 => F0
  | n + 1 => FS (F n)
noncomputable abbrev LL0 (g : Fns) : Es := (b_law g._law_cell_at g._law_names_by g._law_word g._law_wanted g._law_words_by g._law_read_by g._law_due g._law_deep g.shown g.read g._law_alike)
structure Txt (K : PySem.W.Frag) (mg : Str → Option Value) where
  d_words_of : Fx K mg "words_of" s_words_of ["text"]
  d_leaf_of : Fx K mg "leaf_of" s_leaf_of ["word"]
  d_goes_first : Fx K mg "goes_first" s_goes_first ["one", "sign"]
  d_fold : Fx K mg "fold" s_fold ["done", "sign"]
  d_begun : Fx K mg "begun" s_begun ["word", "done", "waiting"]
  d_gone_on : Fx K mg "gone_on" s_gone_on ["word", "done", "waiting"]
  d_read : Fx K mg "read" s_read ["text"]
  d_strength : Fx K mg "strength" s_strength ["kind"]
  d_within : Fx K mg "within" s_within ["text", "needed"]
  d_sign_of : Fx K mg "sign_of" s_sign_of ["kind"]
  d_shown : Fx K mg "shown" s_shown ["tree"]
  d__law_cell_at : Fx K mg "_law_cell_at" s__law_cell_at ["_law_script", "_law_k"]
  d__law_names_by : Fx K mg "_law_names_by" s__law_names_by ["_law_cell", "_law_many"]
  d__law_alike : Fx K mg "_law_alike" s__law_alike ["_law_found", "_law_due_here"]
  d__law_class : Fx K mg "_law_class" s__law_class ["_law_caught"]
  d__law_told : Fx K mg "_law_told" s__law_told ["_law_text"]
  d__law_words_by : Fx K mg "_law_words_by" s__law_words_by ["_law_text"]
  d__law_marks : Fx K mg "_law_marks" s__law_marks ["_law_words"]
  d__law_chained : Fx K mg "_law_chained" s__law_chained ["_law_kind", "_law_parts"]
  d__law_parted : Fx K mg "_law_parted" s__law_parted ["_law_words", "_law_marks_here"]
  d__law_read_by : Fx K mg "_law_read_by" s__law_read_by ["_law_words"]
  d__law_deep : Fx K mg "_law_deep" s__law_deep ["_law_tree"]
  d__law_due : Fx K mg "_law_due" s__law_due ["_law_text", "_law_due_here"]
  d__law_wanted : Fx K mg "_law_wanted" s__law_wanted ["_law_words"]
  d__law_word : Fx K mg "_law_word" s__law_word ["_law_names", "_law_words", "_law_cell"]
  d_law : Fx K mg "law" s_law ["_law_script"]
  z_ValueError : mg "ValueError" = none
  z_all : mg "all" = none
  z_enumerate : mg "enumerate" = none
  z_int : mg "int" = none
  z_isinstance : mg "isinstance" = none
  z_len : mg "len" = none
  z_max : mg "max" = none
  z_range : mg "range" = none
  z_reversed : mg "reversed" = none
  z_str : mg "str" = none
  z_sum : mg "sum" = none
  z_tuple : mg "tuple" = none
  z_zip : mg "zip" = none
  c_DEEPEST : ∃ t, mg "DEEPEST" = some (.int (40) t)
  c_LETTERS : ∃ t, mg "LETTERS" = some (.str "abcdefghijklmnopqrstuvwxyz" t)
  c_LONGEST : ∃ t, mg "LONGEST" = some (.int (200) t)
  c_SIGNS : ∃ t, mg "SIGNS" = some (.str "=>|&~" t)
  x_MindError : XHere K mg 0
  x_NoSentence : XHere K mg 1
  x_TooDeep : XHere K mg 2
  x_NoName : XHere K mg 3
  x_Always : XHere K mg 4
  x_Never : XHere K mg 5
  x_NoMinds : XHere K mg 6
  x_Unlike : XHere K mg 7
  x_NoBack : XHere K mg 8
  x_NoAgain : XHere K mg 9
  x_Refused : XHere K mg 10
  r_NoSentence : XRaise K mg 1
  r_TooDeep : XRaise K mg 2
  xs : XSub K
structure All (P : Program) (w : World) {K : PySem.W.Frag} {mg : Str → Option Value} (base : Heap) (T : Txt K mg) (cs : Nat → Addr) (k : Nat) (g : Fns) : Prop where
  words_of : FnOk P w K mg base (L2.CX P w) k T.d_words_of.f T.d_words_of.fd ["text"] (spG K cs 1 g.words_of)
  leaf_of : FnOk P w K mg base (L2.CX P w) k T.d_leaf_of.f T.d_leaf_of.fd ["word"] (spG K cs 1 g.leaf_of)
  goes_first : FnOk P w K mg base (L2.CX P w) k T.d_goes_first.f T.d_goes_first.fd ["one", "sign"] (spG K cs 2 g.goes_first)
  fold : FnOk P w K mg base (L2.CX P w) k T.d_fold.f T.d_fold.fd ["done", "sign"] (spG K cs 2 g.fold)
  begun : FnOk P w K mg base (L2.CX P w) k T.d_begun.f T.d_begun.fd ["word", "done", "waiting"] (spG K cs 3 g.begun)
  gone_on : FnOk P w K mg base (L2.CX P w) k T.d_gone_on.f T.d_gone_on.fd ["word", "done", "waiting"] (spG K cs 3 g.gone_on)
  read : FnOk P w K mg base (L2.CX P w) k T.d_read.f T.d_read.fd ["text"] (spG K cs 1 g.read)
  strength : FnOk P w K mg base (L2.CX P w) k T.d_strength.f T.d_strength.fd ["kind"] (spG K cs 1 g.strength)
  within : FnOk P w K mg base (L2.CX P w) k T.d_within.f T.d_within.fd ["text", "needed"] (spG K cs 2 g.within)
  sign_of : FnOk P w K mg base (L2.CX P w) k T.d_sign_of.f T.d_sign_of.fd ["kind"] (spG K cs 1 g.sign_of)
  shown : FnOk P w K mg base (L2.CX P w) k T.d_shown.f T.d_shown.fd ["tree"] (spG K cs 1 g.shown)
  _law_cell_at : FnOk P w K mg base (L2.CX P w) k T.d__law_cell_at.f T.d__law_cell_at.fd ["_law_script", "_law_k"] (spG K cs 2 g._law_cell_at)
  _law_names_by : FnOk P w K mg base (L2.CX P w) k T.d__law_names_by.f T.d__law_names_by.fd ["_law_cell", "_law_many"] (spG K cs 2 g._law_names_by)
  _law_alike : FnOk P w K mg base (L2.CX P w) k T.d__law_alike.f T.d__law_alike.fd ["_law_found", "_law_due_here"] (spG K cs 2 g._law_alike)
  _law_class : FnOk P w K mg base (L2.CX P w) k T.d__law_class.f T.d__law_class.fd ["_law_caught"] (spG K cs 1 g._law_class)
  _law_told : FnOk P w K mg base (L2.CX P w) k T.d__law_told.f T.d__law_told.fd ["_law_text"] (spG K cs 1 g._law_told)
  _law_words_by : FnOk P w K mg base (L2.CX P w) k T.d__law_words_by.f T.d__law_words_by.fd ["_law_text"] (spG K cs 1 g._law_words_by)
  _law_marks : FnOk P w K mg base (L2.CX P w) k T.d__law_marks.f T.d__law_marks.fd ["_law_words"] (spG K cs 1 g._law_marks)
  _law_chained : FnOk P w K mg base (L2.CX P w) k T.d__law_chained.f T.d__law_chained.fd ["_law_kind", "_law_parts"] (spG K cs 2 g._law_chained)
  _law_parted : FnOk P w K mg base (L2.CX P w) k T.d__law_parted.f T.d__law_parted.fd ["_law_words", "_law_marks_here"] (spG K cs 2 g._law_parted)
  _law_read_by : FnOk P w K mg base (L2.CX P w) k T.d__law_read_by.f T.d__law_read_by.fd ["_law_words"] (spG K cs 1 g._law_read_by)
  _law_deep : FnOk P w K mg base (L2.CX P w) k T.d__law_deep.f T.d__law_deep.fd ["_law_tree"] (spG K cs 1 g._law_deep)
  _law_due : FnOk P w K mg base (L2.CX P w) k T.d__law_due.f T.d__law_due.fd ["_law_text", "_law_due_here"] (spG K cs 2 g._law_due)
  _law_wanted : FnOk P w K mg base (L2.CX P w) k T.d__law_wanted.f T.d__law_wanted.fd ["_law_words"] (spG K cs 1 g._law_wanted)
  _law_word : FnOk P w K mg base (L2.CX P w) k T.d__law_word.f T.d__law_word.fd ["_law_names", "_law_words", "_law_cell"] (spG K cs 3 g._law_word)
  law : FnOk P w K mg base (L2.CX P w) k T.d_law.f T.d_law.fd ["_law_script"] (spG K cs 1 g.law)
section
variable {P : Program} {w : World} {K : PySem.W.Frag} {mg : Str → Option Value} {base : Heap} {T : Txt K mg} {k : Nat} {g : Fns}
theorem all0 : All P w base T (clsOf K) 0 F0 := ⟨okStuck (clsOf K), okStuck (clsOf K), okStuck (clsOf K), okStuck (clsOf K), okStuck (clsOf K), okStuck (clsOf K), okStuck (clsOf K), okStuck (clsOf K), okStuck (clsOf K), okStuck (clsOf K), okStuck (clsOf K), okStuck (clsOf K), okStuck (clsOf K), okStuck (clsOf K), okStuck (clsOf K), okStuck (clsOf K), okStuck (clsOf K), okStuck (clsOf K), okStuck (clsOf K), okStuck (clsOf K), okStuck (clsOf K), okStuck (clsOf K), okStuck (clsOf K), okStuck (clsOf K), okStuck (clsOf K), okStuck (clsOf K)⟩
theorem ok_words_of (A : All P w base T (clsOf K) k g) : FnOk P w K mg base (L2.CX P w) (k + 1) T.d_words_of.f T.d_words_of.fd ["text"] (spG K (clsOf K) 1 (bodyF 4 1 1 (b_words_of))) :=
  okF T.d_words_of.fn sc_words_of (clsOf K) 1 (b_words_of) fun cdv A0 outer s H E hr => by
  have tk : Takes (cxOf (L2.CX P w) P w K mg base N_words_of "words_of" (defScope s_words_of) T.d_words_of.f cdv A0 outer s H E) (fun c d _ H => E c d H) := takes_of rfl rfl rfl rfl
  exact (ss_cons (ss_asgN (i := 1) (by decide) sc_words_of.nd (sn_lst sad_nil))
  (ss_cons (ss_asg (sd_str (by decide +kernel)) (tg_name 2 sc_words_of.nd) (ftOne_ge (by decide)) (ftOne_nx _))
  (ss_cons (ss_for (passes_of rfl) rfl (sif_chr (sd_add (sv_var 0) (SD.sv (sd_str (by decide +kernel))))) (tg_name 3 sc_words_of.nd) (ftOne_ge (by decide)) (ss_cons (ss_if (st_in (hu_of hr) (sv_var 3) (SD.sv (sd_gstr (by rfl) T.c_LETTERS.choose_spec (by decide +kernel)))) (ss_cons (ss_augAdd 2 (by decide) sc_words_of.nd (sv_var 3))
  (ss_one ss_continue)) ss_nil)
  (ss_cons (ss_if (st_gt (SD.sv (sd_len (by rfl) T.z_len (sa_cons (sv_var 2) sa_nil))) (SD.sv sd_int)) (ss_one (ss_raise 1 rfl rfl tk T.r_NoSentence (by rfl))) ss_nil)
  (ss_cons (ss_if (st_ne hr.units (sv_var 2) (SD.sv (sd_str (by decide +kernel)))) (ss_cons (ss_mut1 1 mu_append PySem.F.slot_list_append PySem.F.type_list_append mt_append (sad_cons (sd_var 2) sad_nil))
  (ss_one (ss_asg (sd_str (by decide +kernel)) (tg_name 2 sc_words_of.nd) (ftOne_ge (by decide)) (ftOne_nx _)))) ss_nil)
  (ss_one (ss_if (SW.st (sw_or (st_in (hu_of hr) (sv_var 3) (SD.sv (sd_gstr (by rfl) T.c_SIGNS.choose_spec (by decide +kernel)))) (sw_or1 (st_in (hu_of hr) (sv_var 3) (SD.sv (sd_str (by decide +kernel))))))) (ss_one (ss_mut1 1 mu_append PySem.F.slot_list_append PySem.F.type_list_append mt_append (sad_cons (sd_var 3) sad_nil))) (ss_one (ss_if (st_ne hr.units (sv_var 3) (SD.sv (sd_str (by decide +kernel)))) (ss_one (ss_raise 1 rfl rfl tk T.r_NoSentence (by rfl))) ss_nil))))))))
  (ss_one (ss_frz 1 (ss_ret (sd_var 1)))))))
theorem ok_leaf_of (A : All P w base T (clsOf K) k g) : FnOk P w K mg base (L2.CX P w) (k + 1) T.d_leaf_of.f T.d_leaf_of.fd ["word"] (spG K (clsOf K) 1 (bodyF 1 1 1 (b_leaf_of))) :=
  okF T.d_leaf_of.fn sc_leaf_of (clsOf K) 1 (b_leaf_of) fun cdv A0 outer s H E hr => by
  have tk : Takes (cxOf (L2.CX P w) P w K mg base N_leaf_of "leaf_of" (defScope s_leaf_of) T.d_leaf_of.f cdv A0 outer s H E) (fun c d _ H => E c d H) := takes_of rfl rfl rfl rfl
  exact (ss_cons (ss_if (st_eq hr.units (sv_var 0) (SD.sv (sd_str (by decide +kernel)))) (ss_one (ss_ret (sd_tup (sad_cons (sd_str (by decide +kernel)) sad_nil)))) ss_nil)
  (ss_cons (ss_if (st_eq hr.units (sv_var 0) (SD.sv (sd_str (by decide +kernel)))) (ss_one (ss_ret (sd_tup (sad_cons (sd_str (by decide +kernel)) sad_nil)))) ss_nil)
  (ss_cons (ss_if (st_in (hu_of hr) (SD.sv (sd_ix (sv_var 0) (SD.sv sd_int))) (SD.sv (sd_gstr (by rfl) T.c_LETTERS.choose_spec (by decide +kernel)))) (ss_one (ss_ret (sd_tup (sad_cons (sd_str (by decide +kernel)) (sad_cons (sd_var 0) sad_nil))))) ss_nil)
  (ss_one (ss_ret sd_non)))))
theorem ok_goes_first (A : All P w base T (clsOf K) k g) : FnOk P w K mg base (L2.CX P w) (k + 1) T.d_goes_first.f T.d_goes_first.fd ["one", "sign"] (spG K (clsOf K) 2 (bodyF 2 2 2 (b_goes_first))) :=
  okF T.d_goes_first.fn sc_goes_first (clsOf K) 2 (b_goes_first) fun cdv A0 outer s H E hr => by
  have tk : Takes (cxOf (L2.CX P w) P w K mg base N_goes_first "goes_first" (defScope s_goes_first) T.d_goes_first.f cdv A0 outer s H E) (fun c d _ H => E c d H) := takes_of rfl rfl rfl rfl
  exact (ss_cons (ss_if (st_eq hr.units (sv_var 0) (SD.sv (sd_str (by decide +kernel)))) (ss_one (ss_ret sd_bl)) ss_nil)
  (ss_cons (ss_if (st_eq hr.units (sv_var 1) (SD.sv (sd_str (by decide +kernel)))) (ss_one (ss_ret (sd_gt (SD.sv (sd_sindex (sd_gstr (by rfl) T.c_SIGNS.choose_spec (by decide +kernel)) (sd_var 0))) (SD.sv (sd_sindex (sd_gstr (by rfl) T.c_SIGNS.choose_spec (by decide +kernel)) (sd_var 1)))))) ss_nil)
  (ss_one (ss_ret (sd_ge (SD.sv (sd_sindex (sd_gstr (by rfl) T.c_SIGNS.choose_spec (by decide +kernel)) (sd_var 0))) (SD.sv (sd_sindex (sd_gstr (by rfl) T.c_SIGNS.choose_spec (by decide +kernel)) (sd_var 1))))))))
theorem ok_fold (A : All P w base T (clsOf K) k g) : FnOk P w K mg base (L2.CX P w) (k + 1) T.d_fold.f T.d_fold.fd ["done", "sign"] (spG K (clsOf K) 2 (bodyF 7 2 2 (b_fold))) :=
  okF T.d_fold.fn sc_fold (clsOf K) 2 (b_fold) fun cdv A0 outer s H E hr => by
  have tk : Takes (cxOf (L2.CX P w) P w K mg base N_fold "fold" (defScope s_fold) T.d_fold.f cdv A0 outer s H E) (fun c d _ H => E c d H) := takes_of rfl rfl rfl rfl
  exact (ss_cons (ss_mutA0 0 (tg_tup rfl (tgs_cons 2 sc_fold.nd (tgs_cons 3 sc_fold.nd tgs_nil))) (ftTup_ge (by decide)) (ftTup_nx _) mu_pop PySem.F.slot_list_pop PySem.F.type_list_pop mt_pop)
  (ss_cons (ss_if (st_eq hr.units (sv_var 1) (SD.sv (sd_str (by decide +kernel)))) (ss_cons (ss_mut1 0 mu_append PySem.F.slot_list_append PySem.F.type_list_append mt_append (sad_cons (sd_tup (sad_cons (sd_tup (sad_cons (sd_str (by decide +kernel)) (sad_cons (sd_var 2) sad_nil))) (sad_cons (sd_add (sv_var 3) (SD.sv sd_int)) sad_nil))) sad_nil))
  (ss_one ss_retNone)) ss_nil)
  (ss_cons (ss_mutA0 0 (tg_tup rfl (tgs_cons 4 sc_fold.nd (tgs_cons 5 sc_fold.nd tgs_nil))) (ftTup_ge (by decide)) (ftTup_nx _) mu_pop PySem.F.slot_list_pop PySem.F.type_list_pop mt_pop)
  (ss_cons (ss_asg (sd_ix (SD.sv (sd_tup (sad_cons (sd_str (by decide +kernel)) (sad_cons (sd_str (by decide +kernel)) (sad_cons (sd_str (by decide +kernel)) (sad_cons (sd_str (by decide +kernel)) sad_nil)))))) (SD.sv (sd_sindex (sd_gstr (by rfl) T.c_SIGNS.choose_spec (by decide +kernel)) (sd_var 1)))) (tg_name 6 sc_fold.nd) (ftOne_ge (by decide)) (ftOne_nx _))
  (ss_one (ss_mut1 0 mu_append PySem.F.slot_list_append PySem.F.type_list_append mt_append (sad_cons (sd_tup (sad_cons (sd_tup (sad_cons (sd_var 6) (sad_cons (sd_var 4) (sad_cons (sd_var 2) sad_nil)))) (sad_cons (sd_add (SD.sv sd_int) (SD.sv (sd_max2 rfl (by rfl) T.z_max (sa_cons (sv_var 3) (sa_cons (sv_var 5) sa_nil))))) sad_nil))) sad_nil)))))))
theorem ok_begun (A : All P w base T (clsOf K) k g) : FnOk P w K mg base (L2.CX P w) (k + 1) T.d_begun.f T.d_begun.fd ["word", "done", "waiting"] (spG K (clsOf K) 3 (bodyF 4 3 3 (b_begun g.leaf_of))) :=
  okF T.d_begun.fn sc_begun (clsOf K) 3 (b_begun g.leaf_of) fun cdv A0 outer s H E hr => by
  have tk : Takes (cxOf (L2.CX P w) P w K mg base N_begun "begun" (defScope s_begun) T.d_begun.f cdv A0 outer s H E) (fun c d _ H => E c d H) := takes_of rfl rfl rfl rfl
  exact (ss_cons (ss_if (SW.st (sw_or (st_eq hr.units (sv_var 0) (SD.sv (sd_str (by decide +kernel)))) (sw_or1 (st_eq hr.units (sv_var 0) (SD.sv (sd_str (by decide +kernel))))))) (ss_cons (ss_mut1 2 mu_append PySem.F.slot_list_append PySem.F.type_list_append mt_append (sad_cons (sd_var 0) sad_nil))
  (ss_one (ss_ret sd_bl))) ss_nil)
  (ss_cons (ss_asg (sd_call A.leaf_of hr (by rfl) T.d_leaf_of.mg T.d_leaf_of.fn.kp T.d_leaf_of.bd tk (sad_cons (sd_var 0) sad_nil) (aCons_len aNil_len)) (tg_name 3 sc_begun.nd) (ftOne_ge (by decide)) (ftOne_nx _))
  (ss_cons (ss_if (st_isN (sv_var 3)) (ss_one (ss_raise 1 rfl rfl tk T.r_NoSentence (by rfl))) ss_nil)
  (ss_cons (ss_mut1 1 mu_append PySem.F.slot_list_append PySem.F.type_list_append mt_append (sad_cons (sd_tup (sad_cons (sd_var 3) (sad_cons sd_int sad_nil))) sad_nil))
  (ss_one (ss_ret sd_bl))))))
theorem ok_gone_on (A : All P w base T (clsOf K) k g) : FnOk P w K mg base (L2.CX P w) (k + 1) T.d_gone_on.f T.d_gone_on.fd ["word", "done", "waiting"] (spG K (clsOf K) 3 (bodyF 3 3 3 (b_gone_on g.fold g.goes_first))) :=
  okF T.d_gone_on.fn sc_gone_on (clsOf K) 3 (b_gone_on g.fold g.goes_first) fun cdv A0 outer s H E hr => by
  have tk : Takes (cxOf (L2.CX P w) P w K mg base N_gone_on "gone_on" (defScope s_gone_on) T.d_gone_on.f cdv A0 outer s H E) (fun c d _ H => E c d H) := takes_of rfl rfl rfl rfl
  exact (ss_cons (ss_if (st_eq hr.units (sv_var 0) (SD.sv (sd_str (by decide +kernel)))) (ss_cons (ss_while 1000000 (passes_of rfl) (SW.st (sw_and (st_ne hr.units (sv_var 2) (SD.sv (sd_lst sad_nil))) (sw_and1 (st_ne hr.units (SD.sv (sd_ix (sv_var 2) (SD.sv (sd_neg (SD.sv sd_int))))) (SD.sv (sd_str (by decide +kernel))))))) (ss_one (ss_callPop 1 2 (by decide) A.fold hr (by rfl) T.d_fold.mg T.d_fold.fn.kp T.d_fold.bd tk)))
  (ss_cons (ss_if (st_eq hr.units (sv_var 2) (SD.sv (sd_lst sad_nil))) (ss_one (ss_raise 1 rfl rfl tk T.r_NoSentence (by rfl))) ss_nil)
  (ss_cons (ss_mut0 2 mu_pop PySem.F.slot_list_pop PySem.F.type_list_pop mt_pop)
  (ss_one (ss_ret sd_bl))))) ss_nil)
  (ss_cons (ss_if (st_ni (hu_of hr) (sv_var 0) (SD.sv (sd_tup (sad_cons (sd_str (by decide +kernel)) (sad_cons (sd_str (by decide +kernel)) (sad_cons (sd_str (by decide +kernel)) (sad_cons (sd_str (by decide +kernel)) sad_nil))))))) (ss_one (ss_raise 1 rfl rfl tk T.r_NoSentence (by rfl))) ss_nil)
  (ss_cons (ss_while 1000000 (passes_of rfl) (SW.st (sw_and (st_ne hr.units (sv_var 2) (SD.sv (sd_lst sad_nil))) (sw_and1 (st_val (sd_call A.goes_first hr (by rfl) T.d_goes_first.mg T.d_goes_first.fn.kp T.d_goes_first.bd tk (sad_cons (sd_ix (sv_var 2) (SD.sv (sd_neg (SD.sv sd_int)))) (sad_cons (sd_var 0) sad_nil)) (aCons_len (aCons_len aNil_len))))))) (ss_one (ss_callPop 1 2 (by decide) A.fold hr (by rfl) T.d_fold.mg T.d_fold.fn.kp T.d_fold.bd tk)))
  (ss_cons (ss_mut1 2 mu_append PySem.F.slot_list_append PySem.F.type_list_append mt_append (sad_cons (sd_var 0) sad_nil))
  (ss_one (ss_ret sd_bl))))))
theorem ok_read (A : All P w base T (clsOf K) k g) : FnOk P w K mg base (L2.CX P w) (k + 1) T.d_read.f T.d_read.fd ["text"] (spG K (clsOf K) 1 (bodyF 8 1 1 (b_read g.words_of g.begun g.gone_on g.fold))) :=
  okF T.d_read.fn sc_read (clsOf K) 1 (b_read g.words_of g.begun g.gone_on g.fold) fun cdv A0 outer s H E hr => by
  have tk : Takes (cxOf (L2.CX P w) P w K mg base N_read "read" (defScope s_read) T.d_read.f cdv A0 outer s H E) (fun c d _ H => E c d H) := takes_of rfl rfl rfl rfl
  exact (ss_cons (ss_if (st_gt (SD.sv (sd_len (by rfl) T.z_len (sa_cons (sv_var 0) sa_nil))) (SD.sv (sd_gint (by rfl) T.c_LONGEST.choose_spec))) (ss_one (ss_raise 1 rfl rfl tk T.r_NoSentence (by rfl))) ss_nil)
  (ss_cons (ss_asgN (i := 1) (by decide) sc_read.nd (sn_lst sad_nil))
  (ss_cons (ss_asgN (i := 2) (by decide) sc_read.nd (sn_lst sad_nil))
  (ss_cons (ss_asg sd_bl (tg_name 3 sc_read.nd) (ftOne_ge (by decide)) (ftOne_nx _))
  (ss_cons (ss_for (passes_of rfl) rfl (sif_seq (sd_call A.words_of hr (by rfl) T.d_words_of.mg T.d_words_of.fn.kp T.d_words_of.bd tk (sad_cons (sd_var 0) sad_nil) (aCons_len aNil_len))) (tg_name 4 sc_read.nd) (ftOne_ge (by decide)) (ss_one (ss_if (st_val (sd_var 3)) (ss_one (ss_callV (tg_name 3 sc_read.nd) (ftOne_ge (by decide)) (ftOne_nx _) A.begun hr (by rfl) T.d_begun.mg T.d_begun.fn.kp T.d_begun.bd tk (sb_fz (sd_var 4) (sb_bw 1 (sb_bw 2 sb_nil))) rfl (by decide))) (ss_one (ss_callV (tg_name 3 sc_read.nd) (ftOne_ge (by decide)) (ftOne_nx _) A.gone_on hr (by rfl) T.d_gone_on.mg T.d_gone_on.fn.kp T.d_gone_on.bd tk (sb_fz (sd_var 4) (sb_bw 1 (sb_bw 2 sb_nil))) rfl (by decide))))))
  (ss_cons (ss_if (st_val (sd_var 3)) (ss_one (ss_raise 1 rfl rfl tk T.r_NoSentence (by rfl))) ss_nil)
  (ss_cons (ss_while 1000000 (passes_of rfl) (st_ne hr.units (sv_var 2) (SD.sv (sd_lst sad_nil))) (ss_cons (ss_mutA0 2 (tg_name 5 sc_read.nd) (ftOne_ge (by decide)) (ftOne_nx _) mu_pop PySem.F.slot_list_pop PySem.F.type_list_pop mt_pop)
  (ss_cons (ss_if (st_eq hr.units (sv_var 5) (SD.sv (sd_str (by decide +kernel)))) (ss_one (ss_raise 1 rfl rfl tk T.r_NoSentence (by rfl))) ss_nil)
  (ss_one (ss_callE A.fold hr (by rfl) T.d_fold.mg T.d_fold.fn.kp T.d_fold.bd tk (sb_bw 1 (sb_fz (sd_var 5) sb_nil)) rfl (by decide))))))
  (ss_cons (ss_asg (sd_ix (sv_var 1) (SD.sv sd_int)) (tg_tup rfl (tgs_cons 6 sc_read.nd (tgs_cons 7 sc_read.nd tgs_nil))) (ftTup_ge (by decide)) (ftTup_nx _))
  (ss_cons (ss_if (st_gt (sv_var 7) (SD.sv (sd_gint (by rfl) T.c_DEEPEST.choose_spec))) (ss_one (ss_raise 2 rfl rfl tk T.r_TooDeep (by rfl))) ss_nil)
  (ss_one (ss_ret (sd_var 6))))))))))))
theorem ok_strength (A : All P w base T (clsOf K) k g) : FnOk P w K mg base (L2.CX P w) (k + 1) T.d_strength.f T.d_strength.fd ["kind"] (spG K (clsOf K) 1 (bodyF 1 1 1 (b_strength))) :=
  okF T.d_strength.fn sc_strength (clsOf K) 1 (b_strength) fun cdv A0 outer s H E hr => by
  have tk : Takes (cxOf (L2.CX P w) P w K mg base N_strength "strength" (defScope s_strength) T.d_strength.f cdv A0 outer s H E) (fun c d _ H => E c d H) := takes_of rfl rfl rfl rfl
  exact (ss_cons (ss_if (st_eq hr.units (sv_var 0) (SD.sv (sd_str (by decide +kernel)))) (ss_one (ss_ret sd_int)) ss_nil)
  (ss_cons (ss_if (st_eq hr.units (sv_var 0) (SD.sv (sd_str (by decide +kernel)))) (ss_one (ss_ret sd_int)) ss_nil)
  (ss_cons (ss_if (st_eq hr.units (sv_var 0) (SD.sv (sd_str (by decide +kernel)))) (ss_one (ss_ret sd_int)) ss_nil)
  (ss_cons (ss_if (st_eq hr.units (sv_var 0) (SD.sv (sd_str (by decide +kernel)))) (ss_one (ss_ret sd_int)) ss_nil)
  (ss_one (ss_ret sd_int))))))
theorem ok_within (A : All P w base T (clsOf K) k g) : FnOk P w K mg base (L2.CX P w) (k + 1) T.d_within.f T.d_within.fd ["text", "needed"] (spG K (clsOf K) 2 (bodyF 2 2 2 (b_within))) :=
  okF T.d_within.fn sc_within (clsOf K) 2 (b_within) fun cdv A0 outer s H E hr => by
  have tk : Takes (cxOf (L2.CX P w) P w K mg base N_within "within" (defScope s_within) T.d_within.f cdv A0 outer s H E) (fun c d _ H => E c d H) := takes_of rfl rfl rfl rfl
  exact (ss_cons (ss_if (st_val (sd_var 1)) (ss_one (ss_ret (sd_add (SD.sv (sd_add (SD.sv (sd_str (by decide +kernel))) (sv_var 0))) (SD.sv (sd_str (by decide +kernel)))))) ss_nil)
  (ss_one (ss_ret (sd_var 0))))
theorem ok_sign_of (A : All P w base T (clsOf K) k g) : FnOk P w K mg base (L2.CX P w) (k + 1) T.d_sign_of.f T.d_sign_of.fd ["kind"] (spG K (clsOf K) 1 (bodyF 1 1 1 (b_sign_of g.strength))) :=
  okF T.d_sign_of.fn sc_sign_of (clsOf K) 1 (b_sign_of g.strength) fun cdv A0 outer s H E hr => by
  have tk : Takes (cxOf (L2.CX P w) P w K mg base N_sign_of "sign_of" (defScope s_sign_of) T.d_sign_of.f cdv A0 outer s H E) (fun c d _ H => E c d H) := takes_of rfl rfl rfl rfl
  exact (ss_one (ss_ret (sd_ix (SD.sv (sd_str (by decide +kernel))) (SD.sv (sd_sub (SD.sv (sd_call A.strength hr (by rfl) T.d_strength.mg T.d_strength.fn.kp T.d_strength.bd tk (sad_cons (sd_var 0) sad_nil) (aCons_len aNil_len))) (SD.sv sd_int))))))
theorem ok_shown (A : All P w base T (clsOf K) k g) : FnOk P w K mg base (L2.CX P w) (k + 1) T.d_shown.f T.d_shown.fd ["tree"] (spG K (clsOf K) 1 (bodyF 7 1 1 (b_shown g.strength g.shown g.within g.sign_of))) :=
  okF T.d_shown.fn sc_shown (clsOf K) 1 (b_shown g.strength g.shown g.within g.sign_of) fun cdv A0 outer s H E hr => by
  have tk : Takes (cxOf (L2.CX P w) P w K mg base N_shown "shown" (defScope s_shown) T.d_shown.f cdv A0 outer s H E) (fun c d _ H => E c d H) := takes_of rfl rfl rfl rfl
  exact (ss_cons (ss_asg (sd_ix (sv_var 0) (SD.sv sd_int)) (tg_name 1 sc_shown.nd) (ftOne_ge (by decide)) (ftOne_nx _))
  (ss_cons (ss_if (st_eq hr.units (sv_var 1) (SD.sv (sd_str (by decide +kernel)))) (ss_one (ss_ret (sd_ix (sv_var 0) (SD.sv sd_int)))) ss_nil)
  (ss_cons (ss_if (SW.st (sw_or (st_eq hr.units (sv_var 1) (SD.sv (sd_str (by decide +kernel)))) (sw_or1 (st_eq hr.units (sv_var 1) (SD.sv (sd_str (by decide +kernel))))))) (ss_one (ss_ret (sd_if (st_eq hr.units (sv_var 1) (SD.sv (sd_str (by decide +kernel)))) (sd_str (by decide +kernel)) (sd_str (by decide +kernel))))) ss_nil)
  (ss_cons (ss_asg (sd_call A.strength hr (by rfl) T.d_strength.mg T.d_strength.fn.kp T.d_strength.bd tk (sad_cons (sd_var 1) sad_nil) (aCons_len aNil_len)) (tg_name 2 sc_shown.nd) (ftOne_ge (by decide)) (ftOne_nx _))
  (ss_cons (ss_if (st_eq hr.units (sv_var 1) (SD.sv (sd_str (by decide +kernel)))) (ss_one (ss_ret (sd_add (SD.sv (sd_str (by decide +kernel))) (SD.sv (sd_call A.within hr (by rfl) T.d_within.mg T.d_within.fn.kp T.d_within.bd tk (sad_cons (sd_call A.shown hr (by rfl) T.d_shown.mg T.d_shown.fn.kp T.d_shown.bd tk (sad_cons (sd_ix (sv_var 0) (SD.sv sd_int)) sad_nil) (aCons_len aNil_len)) (sad_cons (sd_lt (SD.sv (sd_call A.strength hr (by rfl) T.d_strength.mg T.d_strength.fn.kp T.d_strength.bd tk (sad_cons (sd_ix (SD.sv (sd_ix (sv_var 0) (SD.sv sd_int))) (SD.sv sd_int)) sad_nil) (aCons_len aNil_len))) (sv_var 2)) sad_nil)) (aCons_len (aCons_len aNil_len))))))) ss_nil)
  (ss_cons (ss_asg (sd_call A.strength hr (by rfl) T.d_strength.mg T.d_strength.fn.kp T.d_strength.bd tk (sad_cons (sd_ix (SD.sv (sd_ix (sv_var 0) (SD.sv sd_int))) (SD.sv sd_int)) sad_nil) (aCons_len aNil_len)) (tg_name 3 sc_shown.nd) (ftOne_ge (by decide)) (ftOne_nx _))
  (ss_cons (ss_asg (sd_call A.strength hr (by rfl) T.d_strength.mg T.d_strength.fn.kp T.d_strength.bd tk (sad_cons (sd_ix (SD.sv (sd_ix (sv_var 0) (SD.sv sd_int))) (SD.sv sd_int)) sad_nil) (aCons_len aNil_len)) (tg_name 4 sc_shown.nd) (ftOne_ge (by decide)) (ftOne_nx _))
  (ss_cons (ss_asg (sd_call A.within hr (by rfl) T.d_within.mg T.d_within.fn.kp T.d_within.bd tk (sad_cons (sd_call A.shown hr (by rfl) T.d_shown.mg T.d_shown.fn.kp T.d_shown.bd tk (sad_cons (sd_ix (sv_var 0) (SD.sv sd_int)) sad_nil) (aCons_len aNil_len)) (sad_cons (sd_lor (sd_lt (sv_var 3) (sv_var 2)) (sd_one (sd_land (sd_eq hr.units (sv_var 3) (sv_var 2)) (sd_one (sd_eq hr.units (sv_var 1) (SD.sv (sd_str (by decide +kernel)))))))) sad_nil)) (aCons_len (aCons_len aNil_len))) (tg_name 5 sc_shown.nd) (ftOne_ge (by decide)) (ftOne_nx _))
  (ss_cons (ss_asg (sd_call A.within hr (by rfl) T.d_within.mg T.d_within.fn.kp T.d_within.bd tk (sad_cons (sd_call A.shown hr (by rfl) T.d_shown.mg T.d_shown.fn.kp T.d_shown.bd tk (sad_cons (sd_ix (sv_var 0) (SD.sv sd_int)) sad_nil) (aCons_len aNil_len)) (sad_cons (sd_lor (sd_lt (sv_var 4) (sv_var 2)) (sd_one (sd_land (sd_eq hr.units (sv_var 4) (sv_var 2)) (sd_one (sd_ne hr.units (sv_var 1) (SD.sv (sd_str (by decide +kernel)))))))) sad_nil)) (aCons_len (aCons_len aNil_len))) (tg_name 6 sc_shown.nd) (ftOne_ge (by decide)) (ftOne_nx _))
  (ss_one (ss_ret (sd_add (SD.sv (sd_add (SD.sv (sd_add (SD.sv (sd_add (sv_var 5) (SD.sv (sd_str (by decide +kernel))))) (SD.sv (sd_call A.sign_of hr (by rfl) T.d_sign_of.mg T.d_sign_of.fn.kp T.d_sign_of.bd tk (sad_cons (sd_var 1) sad_nil) (aCons_len aNil_len))))) (SD.sv (sd_str (by decide +kernel))))) (sv_var 6)))))))))))))
theorem ok__law_cell_at (A : All P w base T (clsOf K) k g) : FnOk P w K mg base (L2.CX P w) (k + 1) T.d__law_cell_at.f T.d__law_cell_at.fd ["_law_script", "_law_k"] (spG K (clsOf K) 2 (bodyF 2 2 2 (b_cell_at_86d1))) :=
  okF T.d__law_cell_at.fn sc__law_cell_at (clsOf K) 2 (b_cell_at_86d1) fun cdv A0 outer s H E hr => by
  have tk : Takes (cxOf (L2.CX P w) P w K mg base N__law_cell_at "_law_cell_at" (defScope s__law_cell_at) T.d__law_cell_at.f cdv A0 outer s H E) (fun c d _ H => E c d H) := takes_of rfl rfl rfl rfl
  exact (ss_cons (ss_if (st_lt (sv_var 1) (SD.sv (sd_len (by rfl) T.z_len (sa_cons (sv_var 0) sa_nil)))) (ss_one (ss_ret (sd_ix (sv_var 0) (sv_var 1)))) ss_nil)
  (ss_one (ss_ret sd_int)))
theorem ok__law_names_by (A : All P w base T (clsOf K) k g) : FnOk P w K mg base (L2.CX P w) (k + 1) T.d__law_names_by.f T.d__law_names_by.fd ["_law_cell", "_law_many"] (spG K (clsOf K) 2 (bodyF 10 2 2 (b_names_by_5a28))) :=
  okF T.d__law_names_by.fn sc__law_names_by (clsOf K) 2 (b_names_by_5a28) fun cdv A0 outer s H E hr => by
  have tk : Takes (cxOf (L2.CX P w) P w K mg base N__law_names_by "_law_names_by" (defScope s__law_names_by) T.d__law_names_by.f cdv A0 outer s H E) (fun c d _ H => E c d H) := takes_of rfl rfl rfl rfl
  exact (ss_cons (ss_asg (sd_str (by decide +kernel)) (tg_name 2 sc__law_names_by.nd) (ftOne_ge (by decide)) (ftOne_nx _))
  (ss_cons (ss_asg (sd_div (sv_var 0) (SD.sv sd_int)) (tg_name 3 sc__law_names_by.nd) (ftOne_ge (by decide)) (ftOne_nx _))
  (ss_cons (ss_asg (sd_join (SD.sv (sd_str (by decide +kernel))) (SD.sv (SN.sd (sn_lc [("_law_k", 8)] rfl rfl sc__law_names_by.nd (SIF.e (sif_range1 (by rfl) T.z_range (sa_cons (SD.sv sd_int) sa_nil))) (blkOk_by (N := N__law_names_by) (sc := defScope s__law_names_by) (by decide +kernel)) (ftOne_in (by decide)) (fun _ _ _ _ _ => (tg_name 8 sc__law_names_by.nd)) (fun _ _ _ _ _ => sts_nil) (fun _ _ _ _ _ => (sd_ix (sv_var 2) (SD.sv (sd_mod (SD.sv (sd_add (SD.sv (sd_add (SD.sv (sd_div (sv_var 3) (SD.sv sd_int))) (SD.sv (sd_mul (SD.sv (sd_mul (SD.sv sd_int) (sv_var 8))) (sv_var 8))))) (sv_var 8))) (SD.sv sd_int))))))))) (tg_name 4 sc__law_names_by.nd) (ftOne_ge (by decide)) (ftOne_nx _))
  (ss_cons (ss_asg (SN.sd (sn_lc [("_law_k", 8)] rfl rfl sc__law_names_by.nd (SIF.e (sif_range1 (by rfl) T.z_range (sa_cons (sv_var 1) sa_nil))) (blkOk_by (N := N__law_names_by) (sc := defScope s__law_names_by) (by decide +kernel)) (ftOne_in (by decide)) (fun _ _ _ _ _ => (tg_name 8 sc__law_names_by.nd)) (fun _ _ _ _ _ => sts_nil) (fun _ _ _ _ _ => (sd_ix (sv_var 2) (SD.sv (sd_mod (SD.sv (sd_add (SD.sv (sd_div (sv_var 3) (SD.sv sd_int))) (SD.sv (sd_mul (SD.sv sd_int) (sv_var 8))))) (SD.sv sd_int))))))) (tg_name 5 sc__law_names_by.nd) (ftOne_ge (by decide)) (ftOne_nx _))
  (ss_cons (ss_if (st_eq hr.units (SD.sv (sd_mod (sv_var 0) (SD.sv sd_int))) (SD.sv sd_int)) (ss_cons (ss_asg (sd_add (SD.sv sd_int) (SD.sv (sd_mod (sv_var 3) (SD.sv sd_int)))) (tg_name 6 sc__law_names_by.nd) (ftOne_ge (by decide)) (ftOne_nx _))
  (ss_cons (ss_asg (sd_mod (SD.sv (sd_div (sv_var 3) (SD.sv sd_int))) (sv_var 6)) (tg_name 7 sc__law_names_by.nd) (ftOne_ge (by decide)) (ftOne_nx _))
  (ss_one (ss_ret (sd_tupleOf (by rfl) T.z_tuple (sa_cons (SD.sv (SN.sd (sn_lc [("_law_sign", 9)] rfl rfl sc__law_names_by.nd (sie_seq (sv_var 5)) (blkOk_by (N := N__law_names_by) (sc := defScope s__law_names_by) (by decide +kernel)) (ftOne_in (by decide)) (fun _ _ _ _ _ => (tg_name 9 sc__law_names_by.nd)) (fun _ _ _ _ _ => sts_nil) (fun _ _ _ _ _ => (sd_add (SD.sv (sd_add (SD.sv (sd_sl (sv_var 4) so_none (so_some (sv_var 7)))) (sv_var 9))) (SD.sv (sd_sl (sv_var 4) (so_some (SD.sv (sd_add (sv_var 7) (SD.sv sd_int)))) (so_some (sv_var 6))))))))) sa_nil)))))) ss_nil)
  (ss_cons (ss_if (st_eq hr.units (SD.sv (sd_mod (sv_var 0) (SD.sv sd_int))) (SD.sv sd_int)) (ss_one (ss_ret (sd_tupleOf (by rfl) T.z_tuple (sa_cons (SD.sv (SN.sd (sn_lc [("_law_k", 8)] rfl rfl sc__law_names_by.nd (SIF.e (sif_range1 (by rfl) T.z_range (sa_cons (sv_var 1) sa_nil))) (blkOk_by (N := N__law_names_by) (sc := defScope s__law_names_by) (by decide +kernel)) (ftOne_in (by decide)) (fun _ _ _ _ _ => (tg_name 8 sc__law_names_by.nd)) (fun _ _ _ _ _ => sts_nil) (fun _ _ _ _ _ => (sd_sl (sv_var 4) so_none (so_some (SD.sv (sd_add (SD.sv sd_int) (SD.sv (sd_mod (SD.sv (sd_add (SD.sv (sd_mul (SD.sv sd_int) (sv_var 8))) (sv_var 3))) (SD.sv sd_int))))))))))) sa_nil)))) ss_nil)
  (ss_one (ss_ret (sd_tupleOf (by rfl) T.z_tuple (sa_cons (SD.sv (SN.sd (sn_lc [("_law_k", 8)] rfl rfl sc__law_names_by.nd (SIF.e (sif_range1 (by rfl) T.z_range (sa_cons (sv_var 1) sa_nil))) (blkOk_by (N := N__law_names_by) (sc := defScope s__law_names_by) (by decide +kernel)) (ftOne_in (by decide)) (fun _ _ _ _ _ => (tg_name 8 sc__law_names_by.nd)) (fun _ _ _ _ _ => sts_nil) (fun _ _ _ _ _ => (sd_add (SD.sv (sd_ix (sv_var 5) (sv_var 8))) (SD.sv (sd_sl (sv_var 4) so_none (so_some (SD.sv (sd_mod (SD.sv (sd_add (SD.sv (sd_mul (SD.sv sd_int) (sv_var 8))) (sv_var 3))) (SD.sv sd_int))))))))))) sa_nil))))))))))
theorem ok__law_alike (A : All P w base T (clsOf K) k g) : FnOk P w K mg base (L2.CX P w) (k + 1) T.d__law_alike.f T.d__law_alike.fd ["_law_found", "_law_due_here"] (spG K (clsOf K) 2 (bodyF 4 2 2 (b_alike_b36c g._law_alike))) :=
  okF T.d__law_alike.fn sc__law_alike (clsOf K) 2 (b_alike_b36c g._law_alike) fun cdv A0 outer s H E hr => by
  have tk : Takes (cxOf (L2.CX P w) P w K mg base N__law_alike "_law_alike" (defScope s__law_alike) T.d__law_alike.f cdv A0 outer s H E) (fun c d _ H => E c d H) := takes_of rfl rfl rfl rfl
  exact (ss_cons (ss_if (st_val (sd_isi (n := "str") (by rfl) T.z_isinstance (sv_var 1) (by rfl) T.z_str (by decide +kernel))) (ss_one (ss_ret (sd_land (sd_isi (n := "str") (by rfl) T.z_isinstance (sv_var 0) (by rfl) T.z_str (by decide +kernel)) (sd_one (sd_eq hr.units (sv_var 0) (sv_var 1)))))) ss_nil)
  (ss_cons (ss_if (SW.st (sw_or (st_not (st_val (sd_isi (n := "tuple") (by rfl) T.z_isinstance (sv_var 0) (by rfl) T.z_tuple (by decide +kernel)))) (sw_or1 (st_ne hr.units (SD.sv (sd_len (by rfl) T.z_len (sa_cons (sv_var 0) sa_nil))) (SD.sv (sd_len (by rfl) T.z_len (sa_cons (sv_var 1) sa_nil))))))) (ss_one (ss_ret sd_bl)) ss_nil)
  (ss_one (ss_ret (sd_all rfl (by rfl) T.z_all (sa_cons (SD.sv (SN.sd (sn_lcZip (is := [2, 3]) [("_law_one", 2), ("_law_other", 3)] rfl rfl sc__law_alike.nd (by rfl) T.z_zip (sa_cons (sv_var 0) (sa_cons (sv_var 1) sa_nil)) (blkOk_by (N := N__law_alike) (sc := defScope s__law_alike) (by decide +kernel)) (by decide) rfl (fun _ _ _ _ _ => (tgs_cons 2 sc__law_alike.nd (tgs_cons 3 sc__law_alike.nd tgs_nil))) (fun _ => rfl) (fun _ => rfl) (fun _ _ _ _ _ => sts_nil) (fun _ _ _ _ _ => (sd_call A._law_alike hr (by rfl) T.d__law_alike.mg T.d__law_alike.fn.kp T.d__law_alike.bd takes0 (sad_cons (sd_var 2) (sad_cons (sd_var 3) sad_nil)) (aCons_len (aCons_len aNil_len))))))) sa_nil))))))
theorem ok__law_class (A : All P w base T (clsOf K) k g) : FnOk P w K mg base (L2.CX P w) (k + 1) T.d__law_class.f T.d__law_class.fd ["_law_caught"] (spG K (clsOf K) 1 (bodyF 4 1 1 (b_class_faa2))) :=
  okF T.d__law_class.fn sc__law_class (clsOf K) 1 (b_class_faa2) fun cdv A0 outer s H E hr => by
  have tk : Takes (cxOf (L2.CX P w) P w K mg base N__law_class "_law_class" (defScope s__law_class) T.d__law_class.f cdv A0 outer s H E) (fun c d _ H => E c d H) := takes_of rfl rfl rfl rfl
  exact (ss_cons (ss_asg (sd_lst (sad_cons (sd_isX 1 (by rfl) T.z_isinstance (sv_var 0) T.xs T.x_NoSentence.here (by rfl) T.x_NoSentence.mg (by decide)) (sad_cons (sd_isX 2 (by rfl) T.z_isinstance (sv_var 0) T.xs T.x_TooDeep.here (by rfl) T.x_TooDeep.mg (by decide)) (sad_cons (sd_isX 3 (by rfl) T.z_isinstance (sv_var 0) T.xs T.x_NoName.here (by rfl) T.x_NoName.mg (by decide)) sad_nil)))) (tg_name 1 sc__law_class.nd) (ftOne_ge (by decide)) (ftOne_nx _))
  (ss_cons (ss_asg (sd_add (sv_var 1) (SD.sv (sd_lst (sad_cons (sd_isX 4 (by rfl) T.z_isinstance (sv_var 0) T.xs T.x_Always.here (by rfl) T.x_Always.mg (by decide)) (sad_cons (sd_isX 5 (by rfl) T.z_isinstance (sv_var 0) T.xs T.x_Never.here (by rfl) T.x_Never.mg (by decide)) (sad_cons (sd_isX 6 (by rfl) T.z_isinstance (sv_var 0) T.xs T.x_NoMinds.here (by rfl) T.x_NoMinds.mg (by decide)) sad_nil)))))) (tg_name 1 sc__law_class.nd) (ftOne_ge (by decide)) (ftOne_nx _))
  (ss_cons (ss_asg (sd_add (sv_var 1) (SD.sv (sd_lst (sad_cons (sd_isX 7 (by rfl) T.z_isinstance (sv_var 0) T.xs T.x_Unlike.here (by rfl) T.x_Unlike.mg (by decide)) (sad_cons (sd_isX 8 (by rfl) T.z_isinstance (sv_var 0) T.xs T.x_NoBack.here (by rfl) T.x_NoBack.mg (by decide)) (sad_cons (sd_isX 9 (by rfl) T.z_isinstance (sv_var 0) T.xs T.x_NoAgain.here (by rfl) T.x_NoAgain.mg (by decide)) sad_nil)))))) (tg_name 1 sc__law_class.nd) (ftOne_ge (by decide)) (ftOne_nx _))
  (ss_cons (ss_asg (sd_add (sv_var 1) (SD.sv (sd_lst (sad_cons (sd_isX 10 (by rfl) T.z_isinstance (sv_var 0) T.xs T.x_Refused.here (by rfl) T.x_Refused.mg (by decide)) sad_nil)))) (tg_name 1 sc__law_class.nd) (ftOne_ge (by decide)) (ftOne_nx _))
  (ss_cons (ss_if (SW.st (sw_or (st_ne hr.units (SD.sv (sd_sum rfl (by rfl) T.z_sum (sa_cons (SD.sv (SN.sd (sn_lc [("_law_fit", 3)] rfl rfl sc__law_class.nd (sie_seq (sv_var 1)) (blkOk_by (N := N__law_class) (sc := defScope s__law_class) (by decide +kernel)) (ftOne_in (by decide)) (fun _ _ _ _ _ => (tg_name 3 sc__law_class.nd)) (fun _ _ _ _ _ => sts_nil) (fun _ _ _ _ _ => (sd_intOf (by rfl) T.z_int (sa_cons (sv_var 3) sa_nil)))))) sa_nil))) (SD.sv sd_int)) (sw_or1 (st_not (st_val (sd_isXV (by rfl) T.z_isinstance (sv_var 0) T.xs (by rfl) T.z_ValueError (by decide +kernel))))))) (ss_one (ss_ret (sd_str (by decide +kernel)))) ss_nil)
  (ss_cons (ss_asg (sd_lst (sad_cons (sd_str (by decide +kernel)) (sad_cons (sd_str (by decide +kernel)) (sad_cons (sd_str (by decide +kernel)) (sad_cons (sd_str (by decide +kernel)) (sad_cons (sd_str (by decide +kernel)) (sad_cons (sd_str (by decide +kernel)) (sad_cons (sd_str (by decide +kernel)) (sad_cons (sd_str (by decide +kernel)) (sad_cons (sd_str (by decide +kernel)) (sad_cons (sd_str (by decide +kernel)) sad_nil))))))))))) (tg_name 2 sc__law_class.nd) (ftOne_ge (by decide)) (ftOne_nx _))
  (ss_one (ss_ret (sd_ix (sv_var 2) (SD.sv (sd_idxL (hu65 hr) (sv_var 1) (SD.sv sd_bl))))))))))))
theorem ok__law_told (A : All P w base T (clsOf K) k g) : FnOk P w K mg base (L2.CX P w) (k + 1) T.d__law_told.f T.d__law_told.fd ["_law_text"] (spG K (clsOf K) 1 (bodyF 4 1 1 (b_told_b580 g.read g._law_class))) :=
  okF T.d__law_told.fn sc__law_told (clsOf K) 1 (b_told_b580 g.read g._law_class) fun cdv A0 outer s H E hr => by
  have tk : Takes (cxOf (L2.CX P w) P w K mg base N__law_told "_law_told" (defScope s__law_told) T.d__law_told.f cdv A0 outer s H E) (fun c d _ H => E c d H) := takes_of rfl rfl rfl rfl
  exact (ss_cons (ss_asg sd_non (tg_name 1 sc__law_told.nd) (ftOne_ge (by decide)) (ftOne_nx _))
  (ss_cons (ss_asg sd_non (tg_name 2 sc__law_told.nd) (ftOne_ge (by decide)) (ftOne_nx _))
  (ss_cons (ss_try 3 2 (by decide) (by decide) (by decide) T.xs T.x_MindError.here T.x_MindError.mg tk sc__law_told.nd (fun W' pn xe tk => (ss_one (ss_asg (sd_call A.read hr (by rfl) T.d_read.mg T.d_read.fn.kp T.d_read.bd tk (sad_cons (sd_var 0) sad_nil) (aCons_len aNil_len)) (tg_name 1 sc__law_told.nd) (ftOne_ge (by decide)) (ftOne_nx _)))))
  (ss_cons (ss_if (st_isN (sv_var 2)) (ss_one (ss_ret (sd_tup (sad_cons (sd_str (by decide +kernel)) (sad_cons (sd_var 1) sad_nil))))) ss_nil)
  (ss_one (ss_ret (sd_tup (sad_cons (sd_call A._law_class hr (by rfl) T.d__law_class.mg T.d__law_class.fn.kp T.d__law_class.bd tk (sad_cons (sd_var 2) sad_nil) (aCons_len aNil_len)) (sad_cons sd_non sad_nil)))))))))
theorem ok__law_words_by (A : All P w base T (clsOf K) k g) : FnOk P w K mg base (L2.CX P w) (k + 1) T.d__law_words_by.f T.d__law_words_by.fd ["_law_text"] (spG K (clsOf K) 1 (bodyF 5 1 1 (b_words_by_9931))) :=
  okF T.d__law_words_by.fn sc__law_words_by (clsOf K) 1 (b_words_by_9931) fun cdv A0 outer s H E hr => by
  have tk : Takes (cxOf (L2.CX P w) P w K mg base N__law_words_by "_law_words_by" (defScope s__law_words_by) T.d__law_words_by.f cdv A0 outer s H E) (fun c d _ H => E c d H) := takes_of rfl rfl rfl rfl
  exact (ss_cons (ss_asg (sd_lst sad_nil) (tg_name 1 sc__law_words_by.nd) (ftOne_ge (by decide)) (ftOne_nx _))
  (ss_cons (ss_asg (sd_str (by decide +kernel)) (tg_name 2 sc__law_words_by.nd) (ftOne_ge (by decide)) (ftOne_nx _))
  (ss_cons (ss_for (passes_of rfl) rfl (sif_chr (sd_add (sv_var 0) (SD.sv (sd_str (by decide +kernel))))) (tg_name 3 sc__law_words_by.nd) (ftOne_ge (by decide)) (ss_cons (ss_if (st_val (sd_low (sd_var 3))) (ss_cons (ss_asg (sd_add (sv_var 2) (sv_var 3)) (tg_name 2 sc__law_words_by.nd) (ftOne_ge (by decide)) (ftOne_nx _))
  (ss_one ss_continue)) ss_nil)
  (ss_cons (ss_if (SW.st (sw_or (st_gt (SD.sv (sd_len (by rfl) T.z_len (sa_cons (sv_var 2) sa_nil))) (SD.sv sd_int)) (sw_or1 (st_ni (hu_of hr) (sv_var 3) (SD.sv (sd_str (by decide +kernel))))))) (ss_one (ss_ret sd_non)) ss_nil)
  (ss_cons (ss_asg (sd_add (sv_var 1) (SD.sv (SN.sd (sn_lc [("_law_word_here", 4)] rfl rfl sc__law_words_by.nd (sie_seq (SD.sv (sd_lst (sad_cons (sd_var 2) (sad_cons (sd_var 3) sad_nil))))) (blkOk_by (N := N__law_words_by) (sc := defScope s__law_words_by) (by decide +kernel)) (ftOne_in (by decide)) (fun _ _ _ _ _ => (tg_name 4 sc__law_words_by.nd)) (fun _ _ _ _ _ => (sts_one (st_ni (hu_of hr) (sv_var 4) (SD.sv (sd_tup (sad_cons (sd_str (by decide +kernel)) (sad_cons (sd_str (by decide +kernel)) sad_nil))))))) (fun _ _ _ _ _ => (sd_var 4)))))) (tg_name 1 sc__law_words_by.nd) (ftOne_ge (by decide)) (ftOne_nx _))
  (ss_one (ss_asg (sd_str (by decide +kernel)) (tg_name 2 sc__law_words_by.nd) (ftOne_ge (by decide)) (ftOne_nx _)))))))
  (ss_one (ss_ret (sd_var 1))))))
theorem ok__law_marks (A : All P w base T (clsOf K) k g) : FnOk P w K mg base (L2.CX P w) (k + 1) T.d__law_marks.f T.d__law_marks.fd ["_law_words"] (spG K (clsOf K) 1 (bodyF 5 1 1 (b_marks_d0e6))) :=
  okF T.d__law_marks.fn sc__law_marks (clsOf K) 1 (b_marks_d0e6) fun cdv A0 outer s H E hr => by
  have tk : Takes (cxOf (L2.CX P w) P w K mg base N__law_marks "_law_marks" (defScope s__law_marks) T.d__law_marks.f cdv A0 outer s H E) (fun c d _ H => E c d H) := takes_of rfl rfl rfl rfl
  exact (ss_cons (ss_asg sd_int (tg_name 1 sc__law_marks.nd) (ftOne_ge (by decide)) (ftOne_nx _))
  (ss_cons (ss_asgN (i := 2) (by decide) sc__law_marks.nd (sn_lst sad_nil))
  (ss_cons (ss_for (passes_of rfl) rfl (sif_en (by rfl) T.z_enumerate (sd_var 0)) (tg_tup rfl (tgs_cons 3 sc__law_marks.nd (tgs_cons 4 sc__law_marks.nd tgs_nil))) (ftTup_ge (by decide)) (ss_cons (ss_asg (sd_sub (SD.sv (sd_add (sv_var 1) (SD.sv (sd_intOf (by rfl) T.z_int (sa_cons (SD.sv (sd_eq hr.units (sv_var 4) (SD.sv (sd_str (by decide +kernel))))) sa_nil))))) (SD.sv (sd_intOf (by rfl) T.z_int (sa_cons (SD.sv (sd_eq hr.units (sv_var 4) (SD.sv (sd_str (by decide +kernel))))) sa_nil)))) (tg_name 1 sc__law_marks.nd) (ftOne_ge (by decide)) (ftOne_nx _))
  (ss_cons (ss_if (st_lt (sv_var 1) (SD.sv sd_int)) (ss_one (ss_ret sd_non)) ss_nil)
  (ss_one (ss_if (SW.st (sw_and (st_eq hr.units (sv_var 1) (SD.sv sd_int)) (sw_and1 (st_in (hu_of hr) (sv_var 4) (SD.sv (sd_tup (sad_cons (sd_str (by decide +kernel)) (sad_cons (sd_str (by decide +kernel)) (sad_cons (sd_str (by decide +kernel)) (sad_cons (sd_str (by decide +kernel)) sad_nil)))))))))) (ss_one (ss_mut1 2 mu_append PySem.F.slot_list_append PySem.F.type_list_append mt_append (sad_cons (sd_var 3) sad_nil))) ss_nil)))))
  (ss_one (ss_frz 2 (ss_ret (sd_ix (SD.sv (sd_lst (sad_cons sd_non (sad_cons (sd_var 2) sad_nil)))) (SD.sv (sd_intOf (by rfl) T.z_int (sa_cons (SD.sv (sd_eq hr.units (sv_var 1) (SD.sv sd_int))) sa_nil))))))))))
theorem ok__law_chained (A : All P w base T (clsOf K) k g) : FnOk P w K mg base (L2.CX P w) (k + 1) T.d__law_chained.f T.d__law_chained.fd ["_law_kind", "_law_parts"] (spG K (clsOf K) 2 (bodyF 4 2 2 (b_chained_af29))) :=
  okF T.d__law_chained.fn sc__law_chained (clsOf K) 2 (b_chained_af29) fun cdv A0 outer s H E hr => by
  have tk : Takes (cxOf (L2.CX P w) P w K mg base N__law_chained "_law_chained" (defScope s__law_chained) T.d__law_chained.f cdv A0 outer s H E) (fun c d _ H => E c d H) := takes_of rfl rfl rfl rfl
  exact (ss_cons (ss_if (st_eq hr.units (sv_var 0) (SD.sv (sd_str (by decide +kernel)))) (ss_cons (ss_asg (sd_ix (sv_var 1) (SD.sv (sd_neg (SD.sv sd_int)))) (tg_name 2 sc__law_chained.nd) (ftOne_ge (by decide)) (ftOne_nx _))
  (ss_cons (ss_for (passes_of rfl) rfl (sif_rev (by rfl) T.z_reversed (sd_sl (sv_var 1) so_none (so_some (SD.sv (sd_neg (SD.sv sd_int)))))) (tg_name 3 sc__law_chained.nd) (ftOne_ge (by decide)) (ss_one (ss_asg (sd_tup (sad_cons (sd_var 0) (sad_cons (sd_var 3) (sad_cons (sd_var 2) sad_nil)))) (tg_name 2 sc__law_chained.nd) (ftOne_ge (by decide)) (ftOne_nx _))))
  (ss_one (ss_ret (sd_var 2))))) ss_nil)
  (ss_cons (ss_asg (sd_ix (sv_var 1) (SD.sv sd_int)) (tg_name 2 sc__law_chained.nd) (ftOne_ge (by decide)) (ftOne_nx _))
  (ss_cons (ss_for (passes_of rfl) rfl (sif_seq (sd_sl (sv_var 1) (so_some (SD.sv sd_int)) so_none)) (tg_name 3 sc__law_chained.nd) (ftOne_ge (by decide)) (ss_one (ss_asg (sd_tup (sad_cons (sd_var 0) (sad_cons (sd_var 2) (sad_cons (sd_var 3) sad_nil)))) (tg_name 2 sc__law_chained.nd) (ftOne_ge (by decide)) (ftOne_nx _))))
  (ss_one (ss_ret (sd_var 2))))))
theorem ok__law_parted (A : All P w base T (clsOf K) k g) : FnOk P w K mg base (L2.CX P w) (k + 1) T.d__law_parted.f T.d__law_parted.fd ["_law_words", "_law_marks_here"] (spG K (clsOf K) 2 (bodyF 7 2 2 (b_parted_5c18 g._law_read_by g._law_chained))) :=
  okF T.d__law_parted.fn sc__law_parted (clsOf K) 2 (b_parted_5c18 g._law_read_by g._law_chained) fun cdv A0 outer s H E hr => by
  have tk : Takes (cxOf (L2.CX P w) P w K mg base N__law_parted "_law_parted" (defScope s__law_parted) T.d__law_parted.f cdv A0 outer s H E) (fun c d _ H => E c d H) := takes_of rfl rfl rfl rfl
  exact (ss_cons (ss_asg (SN.sd (sn_disp (sps_cons (sd_str (by decide +kernel)) (sd_str (by decide +kernel)) (sps_cons (sd_str (by decide +kernel)) (sd_str (by decide +kernel)) (sps_cons (sd_str (by decide +kernel)) (sd_str (by decide +kernel)) (sps_cons (sd_str (by decide +kernel)) (sd_str (by decide +kernel)) sps_nil)))))) (tg_name 2 sc__law_parted.nd) (ftOne_ge (by decide)) (ftOne_nx _))
  (ss_cons (ss_for (passes_of rfl) rfl (sif_seq (sd_lst (sad_cons (sd_str (by decide +kernel)) (sad_cons (sd_str (by decide +kernel)) (sad_cons (sd_str (by decide +kernel)) (sad_cons (sd_str (by decide +kernel)) sad_nil)))))) (tg_name 3 sc__law_parted.nd) (ftOne_ge (by decide)) (ss_cons (ss_asg (sd_add (SD.sv (sd_add (SD.sv (sd_lst (sad_cons (sd_neg (SD.sv sd_int)) sad_nil))) (SD.sv (SN.sd (sn_lc [("_law_k", 6)] rfl rfl sc__law_parted.nd (sie_seq (sv_var 1)) (blkOk_by (N := N__law_parted) (sc := defScope s__law_parted) (by decide +kernel)) (ftOne_in (by decide)) (fun _ _ _ _ _ => (tg_name 6 sc__law_parted.nd)) (fun _ _ _ _ _ => (sts_one (st_eq hr.units (SD.sv (sd_ix (sv_var 0) (sv_var 6))) (sv_var 3)))) (fun _ _ _ _ _ => (sd_var 6))))))) (SD.sv (sd_lst (sad_cons (sd_len (by rfl) T.z_len (sa_cons (sv_var 0) sa_nil)) sad_nil)))) (tg_name 4 sc__law_parted.nd) (ftOne_ge (by decide)) (ftOne_nx _))
  (ss_one (ss_if (st_gt (SD.sv (sd_len (by rfl) T.z_len (sa_cons (sv_var 4) sa_nil))) (SD.sv sd_int)) (ss_cons (ss_asgLc (i := 5) [("_law_k", 6)] rfl (by decide) rfl sc__law_parted.nd (SIF.e (sif_range1 (by rfl) T.z_range (sa_cons (SD.sv (sd_sub (SD.sv (sd_len (by rfl) T.z_len (sa_cons (sv_var 4) sa_nil))) (SD.sv sd_int))) sa_nil))) (blkOk_by (N := N__law_parted) (sc := defScope s__law_parted) (by decide +kernel)) (ftOne_in (by decide)) (fun _ _ _ _ _ => (tg_name 6 sc__law_parted.nd)) (fun _ _ _ _ _ => sts_nil) (fun _ _ _ _ _ => (sd_call A._law_read_by hr (by rfl) T.d__law_read_by.mg T.d__law_read_by.fn.kp T.d__law_read_by.bd takes0 (sad_cons (sd_sl (sv_var 0) (so_some (SD.sv (sd_add (SD.sv (sd_ix (sv_var 4) (sv_var 6))) (SD.sv sd_int)))) (so_some (SD.sv (sd_ix (sv_var 4) (SD.sv (sd_add (sv_var 6) (SD.sv sd_int))))))) sad_nil) (aCons_len aNil_len))) (sw_true rfl rfl rfl (by decide +kernel)))
  (ss_cons (ss_if (st_noneIn hr.units (SD.sv sd_non) (sv_var 5)) (ss_one (ss_ret sd_non)) ss_nil)
  (ss_one (ss_frz 5 (ss_ret (sd_call A._law_chained hr (by rfl) T.d__law_chained.mg T.d__law_chained.fn.kp T.d__law_chained.bd tk (sad_cons (sd_dix hr.units0 (hu_of hr) (sv_var 2) (sv_var 3)) (sad_cons (sd_var 5) sad_nil)) (aCons_len (aCons_len aNil_len)))))))) ss_nil))))
  (ss_one (ss_ret sd_non))))
theorem ok__law_read_by (A : All P w base T (clsOf K) k g) : FnOk P w K mg base (L2.CX P w) (k + 1) T.d__law_read_by.f T.d__law_read_by.fd ["_law_words"] (spG K (clsOf K) 1 (bodyF 3 1 1 (b_read_by_4b26 g._law_marks g._law_parted g._law_read_by))) :=
  okF T.d__law_read_by.fn sc__law_read_by (clsOf K) 1 (b_read_by_4b26 g._law_marks g._law_parted g._law_read_by) fun cdv A0 outer s H E hr => by
  have tk : Takes (cxOf (L2.CX P w) P w K mg base N__law_read_by "_law_read_by" (defScope s__law_read_by) T.d__law_read_by.f cdv A0 outer s H E) (fun c d _ H => E c d H) := takes_of rfl rfl rfl rfl
  exact (ss_cons (ss_if (SW.st (sw_or (st_isN (sv_var 0)) (sw_or1 (st_eq hr.units (SD.sv (sd_len (by rfl) T.z_len (sa_cons (sv_var 0) sa_nil))) (SD.sv sd_int))))) (ss_one (ss_ret sd_non)) ss_nil)
  (ss_cons (ss_asg (sd_call A._law_marks hr (by rfl) T.d__law_marks.mg T.d__law_marks.fn.kp T.d__law_marks.bd tk (sad_cons (sd_var 0) sad_nil) (aCons_len aNil_len)) (tg_name 1 sc__law_read_by.nd) (ftOne_ge (by decide)) (ftOne_nx _))
  (ss_cons (ss_if (st_isN (sv_var 1)) (ss_one (ss_ret sd_non)) ss_nil)
  (ss_cons (ss_if (st_gt (SD.sv (sd_len (by rfl) T.z_len (sa_cons (sv_var 1) sa_nil))) (SD.sv sd_int)) (ss_one (ss_ret (sd_call A._law_parted hr (by rfl) T.d__law_parted.mg T.d__law_parted.fn.kp T.d__law_parted.bd tk (sad_cons (sd_var 0) (sad_cons (sd_var 1) sad_nil)) (aCons_len (aCons_len aNil_len))))) ss_nil)
  (ss_cons (ss_if (st_eq hr.units (SD.sv (sd_ix (sv_var 0) (SD.sv sd_int))) (SD.sv (sd_str (by decide +kernel)))) (ss_cons (ss_asg (sd_call A._law_read_by hr (by rfl) T.d__law_read_by.mg T.d__law_read_by.fn.kp T.d__law_read_by.bd tk (sad_cons (sd_sl (sv_var 0) (so_some (SD.sv sd_int)) so_none) sad_nil) (aCons_len aNil_len)) (tg_name 2 sc__law_read_by.nd) (ftOne_ge (by decide)) (ftOne_nx _))
  (ss_one (ss_ret (sd_ix (SD.sv (sd_lst (sad_cons (sd_tup (sad_cons (sd_str (by decide +kernel)) (sad_cons (sd_var 2) sad_nil))) (sad_cons sd_non sad_nil)))) (SD.sv (sd_intOf (by rfl) T.z_int (sa_cons (SD.sv (sd_isN (sv_var 2))) sa_nil))))))) ss_nil)
  (ss_cons (ss_if (SW.st (sw_and (st_eq hr.units (SD.sv (sd_ix (sv_var 0) (SD.sv sd_int))) (SD.sv (sd_str (by decide +kernel)))) (sw_and1 (st_eq hr.units (SD.sv (sd_ix (sv_var 0) (SD.sv (sd_neg (SD.sv sd_int))))) (SD.sv (sd_str (by decide +kernel))))))) (ss_one (ss_ret (sd_call A._law_read_by hr (by rfl) T.d__law_read_by.mg T.d__law_read_by.fn.kp T.d__law_read_by.bd tk (sad_cons (sd_sl (sv_var 0) (so_some (SD.sv sd_int)) (so_some (SD.sv (sd_neg (SD.sv sd_int))))) sad_nil) (aCons_len aNil_len)))) ss_nil)
  (ss_cons (ss_if (st_gt (SD.sv (sd_len (by rfl) T.z_len (sa_cons (sv_var 0) sa_nil))) (SD.sv sd_int)) (ss_one (ss_ret sd_non)) ss_nil)
  (ss_one (ss_ret (sd_dget2 (hu_of hr) (SD.sv (SN.sd (sn_disp (sps_cons (sd_str (by decide +kernel)) (sd_tup (sad_cons (sd_str (by decide +kernel)) sad_nil)) (sps_cons (sd_str (by decide +kernel)) (sd_tup (sad_cons (sd_str (by decide +kernel)) sad_nil)) sps_nil))))) (SD.sv (sd_ix (sv_var 0) (SD.sv sd_int))) (sd_tup (sad_cons (sd_str (by decide +kernel)) (sad_cons (sd_ix (sv_var 0) (SD.sv sd_int)) sad_nil)))))))))))))
theorem ok__law_deep (A : All P w base T (clsOf K) k g) : FnOk P w K mg base (L2.CX P w) (k + 1) T.d__law_deep.f T.d__law_deep.fd ["_law_tree"] (spG K (clsOf K) 1 (bodyF 2 1 1 (b_deep_4d5c g._law_deep))) :=
  okF T.d__law_deep.fn sc__law_deep (clsOf K) 1 (b_deep_4d5c g._law_deep) fun cdv A0 outer s H E hr => by
  have tk : Takes (cxOf (L2.CX P w) P w K mg base N__law_deep "_law_deep" (defScope s__law_deep) T.d__law_deep.f cdv A0 outer s H E) (fun c d _ H => E c d H) := takes_of rfl rfl rfl rfl
  exact (ss_cons (ss_if (SW.st (sw_or (st_eq hr.units (SD.sv (sd_len (by rfl) T.z_len (sa_cons (sv_var 0) sa_nil))) (SD.sv sd_int)) (sw_or1 (st_eq hr.units (SD.sv (sd_ix (sv_var 0) (SD.sv sd_int))) (SD.sv (sd_str (by decide +kernel))))))) (ss_one (ss_ret sd_int)) ss_nil)
  (ss_one (ss_ret (sd_add (SD.sv sd_int) (SD.sv (sd_max1 rfl hr.units (by rfl) T.z_max (sa_cons (SD.sv (SN.sd (sn_lc [("_law_part", 1)] rfl rfl sc__law_deep.nd (sie_seq (SD.sv (sd_sl (sv_var 0) (so_some (SD.sv sd_int)) so_none))) (blkOk_by (N := N__law_deep) (sc := defScope s__law_deep) (by decide +kernel)) (ftOne_in (by decide)) (fun _ _ _ _ _ => (tg_name 1 sc__law_deep.nd)) (fun _ _ _ _ _ => sts_nil) (fun _ _ _ _ _ => (sd_call A._law_deep hr (by rfl) T.d__law_deep.mg T.d__law_deep.fn.kp T.d__law_deep.bd takes0 (sad_cons (sd_var 1) sad_nil) (aCons_len aNil_len)))))) sa_nil)))))))
theorem ok__law_due (A : All P w base T (clsOf K) k g) : FnOk P w K mg base (L2.CX P w) (k + 1) T.d__law_due.f T.d__law_due.fd ["_law_text", "_law_due_here"] (spG K (clsOf K) 2 (bodyF 3 2 2 (b_due_909d g._law_told g._law_deep g._law_alike))) :=
  okF T.d__law_due.fn sc__law_due (clsOf K) 2 (b_due_909d g._law_told g._law_deep g._law_alike) fun cdv A0 outer s H E hr => by
  have tk : Takes (cxOf (L2.CX P w) P w K mg base N__law_due "_law_due" (defScope s__law_due) T.d__law_due.f cdv A0 outer s H E) (fun c d _ H => E c d H) := takes_of rfl rfl rfl rfl
  exact (ss_cons (ss_if (SW.st (sw_or (st_isN (sv_var 1)) (sw_or1 (st_gt (SD.sv (sd_len (by rfl) T.z_len (sa_cons (sv_var 0) sa_nil))) (SD.sv sd_int))))) (ss_one (ss_ret (sd_eq hr.units (SD.sv (sd_ix (SD.sv (sd_call A._law_told hr (by rfl) T.d__law_told.mg T.d__law_told.fn.kp T.d__law_told.bd tk (sad_cons (sd_var 0) sad_nil) (aCons_len aNil_len))) (SD.sv sd_int))) (SD.sv (sd_str (by decide +kernel)))))) ss_nil)
  (ss_cons (ss_if (st_gt (SD.sv (sd_call A._law_deep hr (by rfl) T.d__law_deep.mg T.d__law_deep.fn.kp T.d__law_deep.bd tk (sad_cons (sd_var 1) sad_nil) (aCons_len aNil_len))) (SD.sv sd_int)) (ss_one (ss_ret (sd_eq hr.units (SD.sv (sd_ix (SD.sv (sd_call A._law_told hr (by rfl) T.d__law_told.mg T.d__law_told.fn.kp T.d__law_told.bd tk (sad_cons (sd_var 0) sad_nil) (aCons_len aNil_len))) (SD.sv sd_int))) (SD.sv (sd_str (by decide +kernel)))))) ss_nil)
  (ss_cons (ss_asg (sd_call A._law_told hr (by rfl) T.d__law_told.mg T.d__law_told.fn.kp T.d__law_told.bd tk (sad_cons (sd_var 0) sad_nil) (aCons_len aNil_len)) (tg_name 2 sc__law_due.nd) (ftOne_ge (by decide)) (ftOne_nx _))
  (ss_one (ss_ret (sd_land (sd_eq hr.units (SD.sv (sd_ix (sv_var 2) (SD.sv sd_int))) (SD.sv (sd_str (by decide +kernel)))) (sd_one (sd_call A._law_alike hr (by rfl) T.d__law_alike.mg T.d__law_alike.fn.kp T.d__law_alike.bd tk (sad_cons (sd_ix (sv_var 2) (SD.sv sd_int)) (sad_cons (sd_var 1) sad_nil)) (aCons_len (aCons_len aNil_len))))))))))
theorem ok__law_wanted (A : All P w base T (clsOf K) k g) : FnOk P w K mg base (L2.CX P w) (k + 1) T.d__law_wanted.f T.d__law_wanted.fd ["_law_words"] (spG K (clsOf K) 1 (bodyF 1 1 1 (b_wanted_a0c6))) :=
  okF T.d__law_wanted.fn sc__law_wanted (clsOf K) 1 (b_wanted_a0c6) fun cdv A0 outer s H E hr => by
  have tk : Takes (cxOf (L2.CX P w) P w K mg base N__law_wanted "_law_wanted" (defScope s__law_wanted) T.d__law_wanted.f cdv A0 outer s H E) (fun c d _ H => E c d H) := takes_of rfl rfl rfl rfl
  exact (ss_one (ss_ret (sd_lor (sd_eq hr.units (SD.sv (sd_len (by rfl) T.z_len (sa_cons (sv_var 0) sa_nil))) (SD.sv sd_int)) (sd_one (sd_in (hu_of hr) (SD.sv (sd_ix (sv_var 0) (SD.sv (sd_neg (SD.sv sd_int))))) (SD.sv (sd_tup (sad_cons (sd_str (by decide +kernel)) (sad_cons (sd_str (by decide +kernel)) (sad_cons (sd_str (by decide +kernel)) (sad_cons (sd_str (by decide +kernel)) (sad_cons (sd_str (by decide +kernel)) (sad_cons (sd_str (by decide +kernel)) sad_nil)))))))))))))
theorem ok__law_word (A : All P w base T (clsOf K) k g) : FnOk P w K mg base (L2.CX P w) (k + 1) T.d__law_word.f T.d__law_word.fd ["_law_names", "_law_words", "_law_cell"] (spG K (clsOf K) 3 (bodyF 4 3 3 (b_word_ac73 g._law_wanted))) :=
  okF T.d__law_word.fn sc__law_word (clsOf K) 3 (b_word_ac73 g._law_wanted) fun cdv A0 outer s H E hr => by
  have tk : Takes (cxOf (L2.CX P w) P w K mg base N__law_word "_law_word" (defScope s__law_word) T.d__law_word.f cdv A0 outer s H E) (fun c d _ H => E c d H) := takes_of rfl rfl rfl rfl
  exact (ss_cons (ss_asg (sd_div (sv_var 2) (SD.sv sd_int)) (tg_name 3 sc__law_word.nd) (ftOne_ge (by decide)) (ftOne_nx _))
  (ss_cons (ss_if (st_eq hr.units (SD.sv (sd_mod (sv_var 3) (SD.sv sd_int))) (SD.sv sd_int)) (ss_one (ss_ret (sd_ix (SD.sv (sd_lst (sad_cons (sd_str (by decide +kernel)) (sad_cons (sd_str (by decide +kernel)) (sad_cons (sd_str (by decide +kernel)) (sad_cons (sd_str (by decide +kernel)) (sad_cons (sd_str (by decide +kernel)) (sad_cons (sd_str (by decide +kernel)) (sad_cons (sd_ix (sv_var 0) (SD.sv sd_int)) (sad_cons (sd_add (SD.sv (sd_ix (sv_var 0) (SD.sv (sd_neg (SD.sv sd_int))))) (SD.sv (sd_str (by decide +kernel)))) sad_nil)))))))))) (SD.sv (sd_mod (sv_var 2) (SD.sv sd_int)))))) ss_nil)
  (ss_cons (ss_if (SW.st (sw_and (st_val (sd_call A._law_wanted hr (by rfl) T.d__law_wanted.mg T.d__law_wanted.fn.kp T.d__law_wanted.bd tk (sad_cons (sd_var 1) sad_nil) (aCons_len aNil_len))) (sw_and1 (st_lt (SD.sv (sd_mod (sv_var 2) (SD.sv sd_int))) (SD.sv sd_int))))) (ss_one (ss_ret (sd_ix (SD.sv (sd_lst (sad_cons (sd_str (by decide +kernel)) (sad_cons (sd_str (by decide +kernel)) (sad_cons (sd_str (by decide +kernel)) (sad_cons (sd_ix (SD.sv (sd_str (by decide +kernel))) (SD.sv (sd_mod (SD.sv (sd_div (sv_var 3) (SD.sv sd_int))) (SD.sv sd_int)))) sad_nil)))))) (SD.sv (sd_mod (sv_var 2) (SD.sv sd_int)))))) ss_nil)
  (ss_cons (ss_if (st_val (sd_call A._law_wanted hr (by rfl) T.d__law_wanted.mg T.d__law_wanted.fn.kp T.d__law_wanted.bd tk (sad_cons (sd_var 1) sad_nil) (aCons_len aNil_len))) (ss_one (ss_ret (sd_ix (sv_var 0) (SD.sv (sd_mod (sv_var 3) (SD.sv (sd_len (by rfl) T.z_len (sa_cons (sv_var 0) sa_nil)))))))) ss_nil)
  (ss_cons (ss_if (SW.st (sw_and (st_lt (SD.sv (sd_mod (sv_var 2) (SD.sv sd_int))) (SD.sv sd_int)) (sw_and1 (st_gt (SD.sv (sd_cnt (sv_var 1) (SD.sv (sd_str (by decide +kernel))))) (SD.sv (sd_cnt (sv_var 1) (SD.sv (sd_str (by decide +kernel))))))))) (ss_one (ss_ret (sd_str (by decide +kernel)))) ss_nil)
  (ss_one (ss_ret (sd_ix (SD.sv (sd_str (by decide +kernel))) (SD.sv (sd_mod (SD.sv (sd_div (sv_var 3) (SD.sv sd_int))) (SD.sv sd_int)))))))))))
theorem ok_law (A : All P w base T (clsOf K) k g) : FnOk P w K mg base (L2.CX P w) (k + 1) T.d_law.f T.d_law.fd ["_law_script"] (spG K (clsOf K) 1 (bodyF 12 1 1 (b_law g._law_cell_at g._law_names_by g._law_word g._law_wanted g._law_words_by g._law_read_by g._law_due g._law_deep g.shown g.read g._law_alike))) :=
  okF T.d_law.fn sc_law (clsOf K) 1 (b_law g._law_cell_at g._law_names_by g._law_word g._law_wanted g._law_words_by g._law_read_by g._law_due g._law_deep g.shown g.read g._law_alike) fun cdv A0 outer s H E hr => by
  have tk : Takes (cxOf (L2.CX P w) P w K mg base N_law "law" (defScope s_law) T.d_law.f cdv A0 outer s H E) (fun c d _ H => E c d H) := takes_of rfl rfl rfl rfl
  exact (ss_cons (ss_asg (sd_call A._law_cell_at hr (by rfl) T.d__law_cell_at.mg T.d__law_cell_at.fn.kp T.d__law_cell_at.bd tk (sad_cons (sd_var 0) (sad_cons sd_int sad_nil)) (aCons_len (aCons_len aNil_len))) (tg_name 1 sc_law.nd) (ftOne_ge (by decide)) (ftOne_nx _))
  (ss_cons (ss_asg (sd_call A._law_names_by hr (by rfl) T.d__law_names_by.mg T.d__law_names_by.fn.kp T.d__law_names_by.bd tk (sad_cons (sd_call A._law_cell_at hr (by rfl) T.d__law_cell_at.mg T.d__law_cell_at.fn.kp T.d__law_cell_at.bd tk (sad_cons (sd_var 0) (sad_cons sd_int sad_nil)) (aCons_len (aCons_len aNil_len))) (sad_cons (sd_add (SD.sv sd_int) (SD.sv (sd_mod (sv_var 1) (SD.sv sd_int)))) sad_nil)) (aCons_len (aCons_len aNil_len))) (tg_name 2 sc_law.nd) (ftOne_ge (by decide)) (ftOne_nx _))
  (ss_cons (ss_asgN (i := 3) (by decide) sc_law.nd (sn_lst sad_nil))
  (ss_cons (ss_asg (sd_str (by decide +kernel)) (tg_name 4 sc_law.nd) (ftOne_ge (by decide)) (ftOne_nx _))
  (ss_cons (ss_for (passes_of rfl) rfl (sif_seq (sd_sl (sv_var 0) (so_some (SD.sv sd_int)) so_none)) (tg_name 5 sc_law.nd) (ftOne_ge (by decide)) (ss_cons (ss_if (st_gt (SD.sv (sd_len (by rfl) T.z_len (sa_cons (sv_var 4) sa_nil))) (SD.sv (sd_add (SD.sv sd_int) (SD.sv (sd_mod (SD.sv (sd_div (sv_var 1) (SD.sv sd_int))) (SD.sv sd_int)))))) (ss_one ss_break) ss_nil)
  (ss_cons (ss_asg (sd_lend 3 (sd_call A._law_word hr (by rfl) T.d__law_word.mg T.d__law_word.fn.kp T.d__law_word.bd tk (sad_cons (sd_var 2) (sad_cons (sd_var 3) (sad_cons (sd_mod (sv_var 5) (SD.sv sd_int)) sad_nil))) (aCons_len (aCons_len (aCons_len aNil_len))))) (tg_name 6 sc_law.nd) (ftOne_ge (by decide)) (ftOne_nx _))
  (ss_cons (ss_if (SW.st (sw_and (st_eq hr.units (sv_var 6) (SD.sv (sd_str (by decide +kernel)))) (sw_and1 (st_gt (SD.sv (sd_cnt (sv_var 3) (SD.sv (sd_str (by decide +kernel))))) (SD.sv sd_int))))) (ss_one (ss_asg (sd_ix (sv_var 2) (SD.sv sd_int)) (tg_name 6 sc_law.nd) (ftOne_ge (by decide)) (ftOne_nx _))) ss_nil)
  (ss_cons (ss_asg (sd_intOf (by rfl) T.z_int (sa_cons (SD.sv (sd_land (sd_gt (SD.sv (sd_len (by rfl) T.z_len (sa_cons (sv_var 3) sa_nil))) (SD.sv sd_int)) (sd_land (sd_low (sd_ix (SD.sv (sd_ix (sv_var 3) (SD.sv (sd_neg (SD.sv sd_int))))) (SD.sv sd_int))) (sd_one (sd_low (sd_ix (sv_var 6) (SD.sv sd_int))))))) sa_nil)) (tg_name 7 sc_law.nd) (ftOne_ge (by decide)) (ftOne_nx _))
  (ss_cons (ss_asg (sd_add (SD.sv (sd_add (sv_var 4) (SD.sv (sd_mul (SD.sv (sd_str (by decide +kernel))) (SD.sv (sd_max2 rfl (by rfl) T.z_max (sa_cons (sv_var 7) (sa_cons (SD.sv (sd_sub (SD.sv (sd_mod (SD.sv (sd_div (sv_var 5) (SD.sv sd_int))) (SD.sv sd_int))) (SD.sv sd_int))) sa_nil)))))))) (sv_var 6)) (tg_name 4 sc_law.nd) (ftOne_ge (by decide)) (ftOne_nx _))
  (ss_one (ss_mut1 3 mu_append PySem.F.slot_list_append PySem.F.type_list_append mt_append (sad_cons (sd_var 6) sad_nil)))))))))
  (ss_cons (ss_if (st_gt (SD.sv (sd_mod (SD.sv (sd_div (sv_var 1) (SD.sv sd_int))) (SD.sv sd_int))) (SD.sv sd_int)) (ss_cons (ss_frz 3 (ss_asg (sd_sl (SD.sv (sd_lst (sad_cons (sd_ix (sv_var 2) (SD.sv sd_int)) sad_nil))) so_none (so_some (SD.sv (sd_intOf (by rfl) T.z_int (sa_cons (SD.sv (sd_call A._law_wanted hr (by rfl) T.d__law_wanted.mg T.d__law_wanted.fn.kp T.d__law_wanted.bd tk (sad_cons (sd_var 3) sad_nil) (aCons_len aNil_len))) sa_nil))))) (tg_name 8 sc_law.nd) (ftOne_ge (by decide)) (ftOne_nx _)))
  (ss_cons (ss_asg (sd_add (sv_var 8) (SD.sv (SN.sd (sn_lc [("_law_k", 11)] rfl rfl sc_law.nd (SIF.e (sif_range1 (by rfl) T.z_range (sa_cons (SD.sv (sd_sub (SD.sv (sd_cnt (sv_var 3) (SD.sv (sd_str (by decide +kernel))))) (SD.sv (sd_cnt (sv_var 3) (SD.sv (sd_str (by decide +kernel))))))) sa_nil))) (blkOk_by (N := N_law) (sc := defScope s_law) (by decide +kernel)) (ftOne_in (by decide)) (fun _ _ _ _ _ => (tg_name 11 sc_law.nd)) (fun _ _ _ _ _ => sts_nil) (fun _ _ _ _ _ => (sd_str (by decide +kernel))))))) (tg_name 8 sc_law.nd) (ftOne_ge (by decide)) (ftOne_nx _))
  (ss_one (ss_asg (sd_add (sv_var 4) (SD.sv (sd_join (SD.sv (sd_str (by decide +kernel))) (sv_var 8)))) (tg_name 4 sc_law.nd) (ftOne_ge (by decide)) (ftOne_nx _))))) ss_nil)
  (ss_cons (ss_asg (sd_call A._law_read_by hr (by rfl) T.d__law_read_by.mg T.d__law_read_by.fn.kp T.d__law_read_by.bd tk (sad_cons (sd_call A._law_words_by hr (by rfl) T.d__law_words_by.mg T.d__law_words_by.fn.kp T.d__law_words_by.bd tk (sad_cons (sd_var 4) sad_nil) (aCons_len aNil_len)) sad_nil) (aCons_len aNil_len)) (tg_name 9 sc_law.nd) (ftOne_ge (by decide)) (ftOne_nx _))
  (ss_cons (ss_if (st_not (st_val (sd_call A._law_due hr (by rfl) T.d__law_due.mg T.d__law_due.fn.kp T.d__law_due.bd tk (sad_cons (sd_var 4) (sad_cons (sd_var 9) sad_nil)) (aCons_len (aCons_len aNil_len))))) (ss_one (ss_ret sd_bl)) ss_nil)
  (ss_cons (ss_if (SW.st (sw_or (st_isN (sv_var 9)) (sw_or (st_gt (SD.sv (sd_len (by rfl) T.z_len (sa_cons (sv_var 4) sa_nil))) (SD.sv sd_int)) (sw_or1 (st_gt (SD.sv (sd_call A._law_deep hr (by rfl) T.d__law_deep.mg T.d__law_deep.fn.kp T.d__law_deep.bd tk (sad_cons (sd_var 9) sad_nil) (aCons_len aNil_len))) (SD.sv sd_int)))))) (ss_one (ss_ret sd_bl)) ss_nil)
  (ss_cons (ss_asg (sd_call A.shown hr (by rfl) T.d_shown.mg T.d_shown.fn.kp T.d_shown.bd tk (sad_cons (sd_var 9) sad_nil) (aCons_len aNil_len)) (tg_name 10 sc_law.nd) (ftOne_ge (by decide)) (ftOne_nx _))
  (ss_one (ss_ret (sd_land (sd_isi (n := "str") (by rfl) T.z_isinstance (sv_var 10) (by rfl) T.z_str (by decide +kernel)) (sd_one (sd_lor (sd_gt (SD.sv (sd_len (by rfl) T.z_len (sa_cons (sv_var 10) sa_nil))) (SD.sv sd_int)) (sd_one (sd_call A._law_alike hr (by rfl) T.d__law_alike.mg T.d__law_alike.fn.kp T.d__law_alike.bd tk (sad_cons (sd_call A.read hr (by rfl) T.d_read.mg T.d_read.fn.kp T.d_read.bd tk (sad_cons (sd_var 10) sad_nil) (aCons_len aNil_len)) (sad_cons (sd_var 9) sad_nil)) (aCons_len (aCons_len aNil_len)))))))))))))))))))
theorem allS (A : All P w base T (clsOf K) k g) : All P w base T (clsOf K) (k + 1) (FS g) := ⟨ok_words_of A, ok_leaf_of A, ok_goes_first A, ok_fold A, ok_begun A, ok_gone_on A, ok_read A, ok_strength A, ok_within A, ok_sign_of A, ok_shown A, ok__law_cell_at A, ok__law_names_by A, ok__law_alike A, ok__law_class A, ok__law_told A, ok__law_words_by A, ok__law_marks A, ok__law_chained A, ok__law_parted A, ok__law_read_by A, ok__law_deep A, ok__law_due A, ok__law_wanted A, ok__law_word A, ok_law A⟩
theorem allF : ∀ n, All P w base T (clsOf K) n (F n)
  | 0 => all0
  | n + 1 => allS (allF n)
end
theorem txt_mk {K : PySem.W.Frag} {h : Heap} {mg : Str → Option Value} {fa : Addr} (X : K.In h) (G : h.Ns mainGlobals mg) (hfa : mg "law" = some (.ref fa))
  {f_words_of : Addr} {oc_words_of : Value} {od_words_of an_words_of : Option Addr} {sl_words_of : Array (Option Value)} {kV_words_of dc_words_of pm_words_of cd_words_of ct_words_of : Value}
  {f_leaf_of : Addr} {oc_leaf_of : Value} {od_leaf_of an_leaf_of : Option Addr} {sl_leaf_of : Array (Option Value)} {kV_leaf_of dc_leaf_of pm_leaf_of cd_leaf_of ct_leaf_of : Value}
  {f_goes_first : Addr} {oc_goes_first : Value} {od_goes_first an_goes_first : Option Addr} {sl_goes_first : Array (Option Value)} {kV_goes_first dc_goes_first pm_goes_first cd_goes_first ct_goes_first : Value}
  {f_fold : Addr} {oc_fold : Value} {od_fold an_fold : Option Addr} {sl_fold : Array (Option Value)} {kV_fold dc_fold pm_fold cd_fold ct_fold : Value}
  {f_begun : Addr} {oc_begun : Value} {od_begun an_begun : Option Addr} {sl_begun : Array (Option Value)} {kV_begun dc_begun pm_begun cd_begun ct_begun : Value}
  {f_gone_on : Addr} {oc_gone_on : Value} {od_gone_on an_gone_on : Option Addr} {sl_gone_on : Array (Option Value)} {kV_gone_on dc_gone_on pm_gone_on cd_gone_on ct_gone_on : Value}
  {f_read : Addr} {oc_read : Value} {od_read an_read : Option Addr} {sl_read : Array (Option Value)} {kV_read dc_read pm_read cd_read ct_read : Value}
  {f_strength : Addr} {oc_strength : Value} {od_strength an_strength : Option Addr} {sl_strength : Array (Option Value)} {kV_strength dc_strength pm_strength cd_strength ct_strength : Value}
  {f_within : Addr} {oc_within : Value} {od_within an_within : Option Addr} {sl_within : Array (Option Value)} {kV_within dc_within pm_within cd_within ct_within : Value}
  {f_sign_of : Addr} {oc_sign_of : Value} {od_sign_of an_sign_of : Option Addr} {sl_sign_of : Array (Option Value)} {kV_sign_of dc_sign_of pm_sign_of cd_sign_of ct_sign_of : Value}
  {f_shown : Addr} {oc_shown : Value} {od_shown an_shown : Option Addr} {sl_shown : Array (Option Value)} {kV_shown dc_shown pm_shown cd_shown ct_shown : Value}
  {f__law_cell_at : Addr} {oc__law_cell_at : Value} {od__law_cell_at an__law_cell_at : Option Addr} {sl__law_cell_at : Array (Option Value)} {kV__law_cell_at dc__law_cell_at pm__law_cell_at cd__law_cell_at ct__law_cell_at : Value}
  {f__law_names_by : Addr} {oc__law_names_by : Value} {od__law_names_by an__law_names_by : Option Addr} {sl__law_names_by : Array (Option Value)} {kV__law_names_by dc__law_names_by pm__law_names_by cd__law_names_by ct__law_names_by : Value}
  {f__law_alike : Addr} {oc__law_alike : Value} {od__law_alike an__law_alike : Option Addr} {sl__law_alike : Array (Option Value)} {kV__law_alike dc__law_alike pm__law_alike cd__law_alike ct__law_alike : Value}
  {f__law_class : Addr} {oc__law_class : Value} {od__law_class an__law_class : Option Addr} {sl__law_class : Array (Option Value)} {kV__law_class dc__law_class pm__law_class cd__law_class ct__law_class : Value}
  {f__law_told : Addr} {oc__law_told : Value} {od__law_told an__law_told : Option Addr} {sl__law_told : Array (Option Value)} {kV__law_told dc__law_told pm__law_told cd__law_told ct__law_told : Value}
  {f__law_words_by : Addr} {oc__law_words_by : Value} {od__law_words_by an__law_words_by : Option Addr} {sl__law_words_by : Array (Option Value)} {kV__law_words_by dc__law_words_by pm__law_words_by cd__law_words_by ct__law_words_by : Value}
  {f__law_marks : Addr} {oc__law_marks : Value} {od__law_marks an__law_marks : Option Addr} {sl__law_marks : Array (Option Value)} {kV__law_marks dc__law_marks pm__law_marks cd__law_marks ct__law_marks : Value}
  {f__law_chained : Addr} {oc__law_chained : Value} {od__law_chained an__law_chained : Option Addr} {sl__law_chained : Array (Option Value)} {kV__law_chained dc__law_chained pm__law_chained cd__law_chained ct__law_chained : Value}
  {f__law_parted : Addr} {oc__law_parted : Value} {od__law_parted an__law_parted : Option Addr} {sl__law_parted : Array (Option Value)} {kV__law_parted dc__law_parted pm__law_parted cd__law_parted ct__law_parted : Value}
  {f__law_read_by : Addr} {oc__law_read_by : Value} {od__law_read_by an__law_read_by : Option Addr} {sl__law_read_by : Array (Option Value)} {kV__law_read_by dc__law_read_by pm__law_read_by cd__law_read_by ct__law_read_by : Value}
  {f__law_deep : Addr} {oc__law_deep : Value} {od__law_deep an__law_deep : Option Addr} {sl__law_deep : Array (Option Value)} {kV__law_deep dc__law_deep pm__law_deep cd__law_deep ct__law_deep : Value}
  {f__law_due : Addr} {oc__law_due : Value} {od__law_due an__law_due : Option Addr} {sl__law_due : Array (Option Value)} {kV__law_due dc__law_due pm__law_due cd__law_due ct__law_due : Value}
  {f__law_wanted : Addr} {oc__law_wanted : Value} {od__law_wanted an__law_wanted : Option Addr} {sl__law_wanted : Array (Option Value)} {kV__law_wanted dc__law_wanted pm__law_wanted cd__law_wanted ct__law_wanted : Value}
  {f__law_word : Addr} {oc__law_word : Value} {od__law_word an__law_word : Option Addr} {sl__law_word : Array (Option Value)} {kV__law_word dc__law_word pm__law_word cd__law_word ct__law_word : Value}
  {f_law : Addr} {oc_law : Value} {od_law an_law : Option Addr} {sl_law : Array (Option Value)} {kV_law dc_law pm_law cd_law ct_law : Value}
  (a_words_of : PySem.W.nsIn K mainGlobals "words_of" = some (some (.ref f_words_of))) (l_words_of : K.lookup f_words_of = some ⟨oc_words_of, od_words_of, .func (PySem.W.fnOf "words_of" "words_of" (defArgs s_words_of) (defBody s_words_of) (defScope s_words_of) .none kV_words_of dc_words_of pm_words_of an_words_of cd_words_of ct_words_of), sl_words_of⟩) (c_words_of : PySem.W.codeIn K cd_words_of "words_of" = true) (k_words_of : PySem.W.keepIn K (.ref f_words_of) = true)
  (a_leaf_of : PySem.W.nsIn K mainGlobals "leaf_of" = some (some (.ref f_leaf_of))) (l_leaf_of : K.lookup f_leaf_of = some ⟨oc_leaf_of, od_leaf_of, .func (PySem.W.fnOf "leaf_of" "leaf_of" (defArgs s_leaf_of) (defBody s_leaf_of) (defScope s_leaf_of) .none kV_leaf_of dc_leaf_of pm_leaf_of an_leaf_of cd_leaf_of ct_leaf_of), sl_leaf_of⟩) (c_leaf_of : PySem.W.codeIn K cd_leaf_of "leaf_of" = true) (k_leaf_of : PySem.W.keepIn K (.ref f_leaf_of) = true)
  (a_goes_first : PySem.W.nsIn K mainGlobals "goes_first" = some (some (.ref f_goes_first))) (l_goes_first : K.lookup f_goes_first = some ⟨oc_goes_first, od_goes_first, .func (PySem.W.fnOf "goes_first" "goes_first" (defArgs s_goes_first) (defBody s_goes_first) (defScope s_goes_first) .none kV_goes_first dc_goes_first pm_goes_first an_goes_first cd_goes_first ct_goes_first), sl_goes_first⟩) (c_goes_first : PySem.W.codeIn K cd_goes_first "goes_first" = true) (k_goes_first : PySem.W.keepIn K (.ref f_goes_first) = true)
  (a_fold : PySem.W.nsIn K mainGlobals "fold" = some (some (.ref f_fold))) (l_fold : K.lookup f_fold = some ⟨oc_fold, od_fold, .func (PySem.W.fnOf "fold" "fold" (defArgs s_fold) (defBody s_fold) (defScope s_fold) .none kV_fold dc_fold pm_fold an_fold cd_fold ct_fold), sl_fold⟩) (c_fold : PySem.W.codeIn K cd_fold "fold" = true) (k_fold : PySem.W.keepIn K (.ref f_fold) = true)
  (a_begun : PySem.W.nsIn K mainGlobals "begun" = some (some (.ref f_begun))) (l_begun : K.lookup f_begun = some ⟨oc_begun, od_begun, .func (PySem.W.fnOf "begun" "begun" (defArgs s_begun) (defBody s_begun) (defScope s_begun) .none kV_begun dc_begun pm_begun an_begun cd_begun ct_begun), sl_begun⟩) (c_begun : PySem.W.codeIn K cd_begun "begun" = true) (k_begun : PySem.W.keepIn K (.ref f_begun) = true)
  (a_gone_on : PySem.W.nsIn K mainGlobals "gone_on" = some (some (.ref f_gone_on))) (l_gone_on : K.lookup f_gone_on = some ⟨oc_gone_on, od_gone_on, .func (PySem.W.fnOf "gone_on" "gone_on" (defArgs s_gone_on) (defBody s_gone_on) (defScope s_gone_on) .none kV_gone_on dc_gone_on pm_gone_on an_gone_on cd_gone_on ct_gone_on), sl_gone_on⟩) (c_gone_on : PySem.W.codeIn K cd_gone_on "gone_on" = true) (k_gone_on : PySem.W.keepIn K (.ref f_gone_on) = true)
  (a_read : PySem.W.nsIn K mainGlobals "read" = some (some (.ref f_read))) (l_read : K.lookup f_read = some ⟨oc_read, od_read, .func (PySem.W.fnOf "read" "read" (defArgs s_read) (defBody s_read) (defScope s_read) .none kV_read dc_read pm_read an_read cd_read ct_read), sl_read⟩) (c_read : PySem.W.codeIn K cd_read "read" = true) (k_read : PySem.W.keepIn K (.ref f_read) = true)
  (a_strength : PySem.W.nsIn K mainGlobals "strength" = some (some (.ref f_strength))) (l_strength : K.lookup f_strength = some ⟨oc_strength, od_strength, .func (PySem.W.fnOf "strength" "strength" (defArgs s_strength) (defBody s_strength) (defScope s_strength) .none kV_strength dc_strength pm_strength an_strength cd_strength ct_strength), sl_strength⟩) (c_strength : PySem.W.codeIn K cd_strength "strength" = true) (k_strength : PySem.W.keepIn K (.ref f_strength) = true)
  (a_within : PySem.W.nsIn K mainGlobals "within" = some (some (.ref f_within))) (l_within : K.lookup f_within = some ⟨oc_within, od_within, .func (PySem.W.fnOf "within" "within" (defArgs s_within) (defBody s_within) (defScope s_within) .none kV_within dc_within pm_within an_within cd_within ct_within), sl_within⟩) (c_within : PySem.W.codeIn K cd_within "within" = true) (k_within : PySem.W.keepIn K (.ref f_within) = true)
  (a_sign_of : PySem.W.nsIn K mainGlobals "sign_of" = some (some (.ref f_sign_of))) (l_sign_of : K.lookup f_sign_of = some ⟨oc_sign_of, od_sign_of, .func (PySem.W.fnOf "sign_of" "sign_of" (defArgs s_sign_of) (defBody s_sign_of) (defScope s_sign_of) .none kV_sign_of dc_sign_of pm_sign_of an_sign_of cd_sign_of ct_sign_of), sl_sign_of⟩) (c_sign_of : PySem.W.codeIn K cd_sign_of "sign_of" = true) (k_sign_of : PySem.W.keepIn K (.ref f_sign_of) = true)
  (a_shown : PySem.W.nsIn K mainGlobals "shown" = some (some (.ref f_shown))) (l_shown : K.lookup f_shown = some ⟨oc_shown, od_shown, .func (PySem.W.fnOf "shown" "shown" (defArgs s_shown) (defBody s_shown) (defScope s_shown) .none kV_shown dc_shown pm_shown an_shown cd_shown ct_shown), sl_shown⟩) (c_shown : PySem.W.codeIn K cd_shown "shown" = true) (k_shown : PySem.W.keepIn K (.ref f_shown) = true)
  (a__law_cell_at : PySem.W.nsIn K mainGlobals "_law_cell_at" = some (some (.ref f__law_cell_at))) (l__law_cell_at : K.lookup f__law_cell_at = some ⟨oc__law_cell_at, od__law_cell_at, .func (PySem.W.fnOf "_law_cell_at" "_law_cell_at" (defArgs s__law_cell_at) (defBody s__law_cell_at) (defScope s__law_cell_at) .none kV__law_cell_at dc__law_cell_at pm__law_cell_at an__law_cell_at cd__law_cell_at ct__law_cell_at), sl__law_cell_at⟩) (c__law_cell_at : PySem.W.codeIn K cd__law_cell_at "_law_cell_at" = true) (k__law_cell_at : PySem.W.keepIn K (.ref f__law_cell_at) = true)
  (a__law_names_by : PySem.W.nsIn K mainGlobals "_law_names_by" = some (some (.ref f__law_names_by))) (l__law_names_by : K.lookup f__law_names_by = some ⟨oc__law_names_by, od__law_names_by, .func (PySem.W.fnOf "_law_names_by" "_law_names_by" (defArgs s__law_names_by) (defBody s__law_names_by) (defScope s__law_names_by) .none kV__law_names_by dc__law_names_by pm__law_names_by an__law_names_by cd__law_names_by ct__law_names_by), sl__law_names_by⟩) (c__law_names_by : PySem.W.codeIn K cd__law_names_by "_law_names_by" = true) (k__law_names_by : PySem.W.keepIn K (.ref f__law_names_by) = true)
  (a__law_alike : PySem.W.nsIn K mainGlobals "_law_alike" = some (some (.ref f__law_alike))) (l__law_alike : K.lookup f__law_alike = some ⟨oc__law_alike, od__law_alike, .func (PySem.W.fnOf "_law_alike" "_law_alike" (defArgs s__law_alike) (defBody s__law_alike) (defScope s__law_alike) .none kV__law_alike dc__law_alike pm__law_alike an__law_alike cd__law_alike ct__law_alike), sl__law_alike⟩) (c__law_alike : PySem.W.codeIn K cd__law_alike "_law_alike" = true) (k__law_alike : PySem.W.keepIn K (.ref f__law_alike) = true)
  (a__law_class : PySem.W.nsIn K mainGlobals "_law_class" = some (some (.ref f__law_class))) (l__law_class : K.lookup f__law_class = some ⟨oc__law_class, od__law_class, .func (PySem.W.fnOf "_law_class" "_law_class" (defArgs s__law_class) (defBody s__law_class) (defScope s__law_class) .none kV__law_class dc__law_class pm__law_class an__law_class cd__law_class ct__law_class), sl__law_class⟩) (c__law_class : PySem.W.codeIn K cd__law_class "_law_class" = true) (k__law_class : PySem.W.keepIn K (.ref f__law_class) = true)
  (a__law_told : PySem.W.nsIn K mainGlobals "_law_told" = some (some (.ref f__law_told))) (l__law_told : K.lookup f__law_told = some ⟨oc__law_told, od__law_told, .func (PySem.W.fnOf "_law_told" "_law_told" (defArgs s__law_told) (defBody s__law_told) (defScope s__law_told) .none kV__law_told dc__law_told pm__law_told an__law_told cd__law_told ct__law_told), sl__law_told⟩) (c__law_told : PySem.W.codeIn K cd__law_told "_law_told" = true) (k__law_told : PySem.W.keepIn K (.ref f__law_told) = true)
  (a__law_words_by : PySem.W.nsIn K mainGlobals "_law_words_by" = some (some (.ref f__law_words_by))) (l__law_words_by : K.lookup f__law_words_by = some ⟨oc__law_words_by, od__law_words_by, .func (PySem.W.fnOf "_law_words_by" "_law_words_by" (defArgs s__law_words_by) (defBody s__law_words_by) (defScope s__law_words_by) .none kV__law_words_by dc__law_words_by pm__law_words_by an__law_words_by cd__law_words_by ct__law_words_by), sl__law_words_by⟩) (c__law_words_by : PySem.W.codeIn K cd__law_words_by "_law_words_by" = true) (k__law_words_by : PySem.W.keepIn K (.ref f__law_words_by) = true)
  (a__law_marks : PySem.W.nsIn K mainGlobals "_law_marks" = some (some (.ref f__law_marks))) (l__law_marks : K.lookup f__law_marks = some ⟨oc__law_marks, od__law_marks, .func (PySem.W.fnOf "_law_marks" "_law_marks" (defArgs s__law_marks) (defBody s__law_marks) (defScope s__law_marks) .none kV__law_marks dc__law_marks pm__law_marks an__law_marks cd__law_marks ct__law_marks), sl__law_marks⟩) (c__law_marks : PySem.W.codeIn K cd__law_marks "_law_marks" = true) (k__law_marks : PySem.W.keepIn K (.ref f__law_marks) = true)
  (a__law_chained : PySem.W.nsIn K mainGlobals "_law_chained" = some (some (.ref f__law_chained))) (l__law_chained : K.lookup f__law_chained = some ⟨oc__law_chained, od__law_chained, .func (PySem.W.fnOf "_law_chained" "_law_chained" (defArgs s__law_chained) (defBody s__law_chained) (defScope s__law_chained) .none kV__law_chained dc__law_chained pm__law_chained an__law_chained cd__law_chained ct__law_chained), sl__law_chained⟩) (c__law_chained : PySem.W.codeIn K cd__law_chained "_law_chained" = true) (k__law_chained : PySem.W.keepIn K (.ref f__law_chained) = true)
  (a__law_parted : PySem.W.nsIn K mainGlobals "_law_parted" = some (some (.ref f__law_parted))) (l__law_parted : K.lookup f__law_parted = some ⟨oc__law_parted, od__law_parted, .func (PySem.W.fnOf "_law_parted" "_law_parted" (defArgs s__law_parted) (defBody s__law_parted) (defScope s__law_parted) .none kV__law_parted dc__law_parted pm__law_parted an__law_parted cd__law_parted ct__law_parted), sl__law_parted⟩) (c__law_parted : PySem.W.codeIn K cd__law_parted "_law_parted" = true) (k__law_parted : PySem.W.keepIn K (.ref f__law_parted) = true)
  (a__law_read_by : PySem.W.nsIn K mainGlobals "_law_read_by" = some (some (.ref f__law_read_by))) (l__law_read_by : K.lookup f__law_read_by = some ⟨oc__law_read_by, od__law_read_by, .func (PySem.W.fnOf "_law_read_by" "_law_read_by" (defArgs s__law_read_by) (defBody s__law_read_by) (defScope s__law_read_by) .none kV__law_read_by dc__law_read_by pm__law_read_by an__law_read_by cd__law_read_by ct__law_read_by), sl__law_read_by⟩) (c__law_read_by : PySem.W.codeIn K cd__law_read_by "_law_read_by" = true) (k__law_read_by : PySem.W.keepIn K (.ref f__law_read_by) = true)
  (a__law_deep : PySem.W.nsIn K mainGlobals "_law_deep" = some (some (.ref f__law_deep))) (l__law_deep : K.lookup f__law_deep = some ⟨oc__law_deep, od__law_deep, .func (PySem.W.fnOf "_law_deep" "_law_deep" (defArgs s__law_deep) (defBody s__law_deep) (defScope s__law_deep) .none kV__law_deep dc__law_deep pm__law_deep an__law_deep cd__law_deep ct__law_deep), sl__law_deep⟩) (c__law_deep : PySem.W.codeIn K cd__law_deep "_law_deep" = true) (k__law_deep : PySem.W.keepIn K (.ref f__law_deep) = true)
  (a__law_due : PySem.W.nsIn K mainGlobals "_law_due" = some (some (.ref f__law_due))) (l__law_due : K.lookup f__law_due = some ⟨oc__law_due, od__law_due, .func (PySem.W.fnOf "_law_due" "_law_due" (defArgs s__law_due) (defBody s__law_due) (defScope s__law_due) .none kV__law_due dc__law_due pm__law_due an__law_due cd__law_due ct__law_due), sl__law_due⟩) (c__law_due : PySem.W.codeIn K cd__law_due "_law_due" = true) (k__law_due : PySem.W.keepIn K (.ref f__law_due) = true)
  (a__law_wanted : PySem.W.nsIn K mainGlobals "_law_wanted" = some (some (.ref f__law_wanted))) (l__law_wanted : K.lookup f__law_wanted = some ⟨oc__law_wanted, od__law_wanted, .func (PySem.W.fnOf "_law_wanted" "_law_wanted" (defArgs s__law_wanted) (defBody s__law_wanted) (defScope s__law_wanted) .none kV__law_wanted dc__law_wanted pm__law_wanted an__law_wanted cd__law_wanted ct__law_wanted), sl__law_wanted⟩) (c__law_wanted : PySem.W.codeIn K cd__law_wanted "_law_wanted" = true) (k__law_wanted : PySem.W.keepIn K (.ref f__law_wanted) = true)
  (a__law_word : PySem.W.nsIn K mainGlobals "_law_word" = some (some (.ref f__law_word))) (l__law_word : K.lookup f__law_word = some ⟨oc__law_word, od__law_word, .func (PySem.W.fnOf "_law_word" "_law_word" (defArgs s__law_word) (defBody s__law_word) (defScope s__law_word) .none kV__law_word dc__law_word pm__law_word an__law_word cd__law_word ct__law_word), sl__law_word⟩) (c__law_word : PySem.W.codeIn K cd__law_word "_law_word" = true) (k__law_word : PySem.W.keepIn K (.ref f__law_word) = true)
  (a_law : PySem.W.nsIn K mainGlobals "law" = some (some (.ref f_law))) (l_law : K.lookup f_law = some ⟨oc_law, od_law, .func (PySem.W.fnOf "law" "law" (defArgs s_law) (defBody s_law) (defScope s_law) .none kV_law dc_law pm_law an_law cd_law ct_law), sl_law⟩) (c_law : PySem.W.codeIn K cd_law "law" = true) (k_law : PySem.W.keepIn K (.ref f_law) = true)
  (z_ValueError : PySem.W.nsIn K mainGlobals "ValueError" = some none)
  (z_all : PySem.W.nsIn K mainGlobals "all" = some none)
  (z_enumerate : PySem.W.nsIn K mainGlobals "enumerate" = some none)
  (z_int : PySem.W.nsIn K mainGlobals "int" = some none)
  (z_isinstance : PySem.W.nsIn K mainGlobals "isinstance" = some none)
  (z_len : PySem.W.nsIn K mainGlobals "len" = some none)
  (z_max : PySem.W.nsIn K mainGlobals "max" = some none)
  (z_range : PySem.W.nsIn K mainGlobals "range" = some none)
  (z_reversed : PySem.W.nsIn K mainGlobals "reversed" = some none)
  (z_str : PySem.W.nsIn K mainGlobals "str" = some none)
  (z_sum : PySem.W.nsIn K mainGlobals "sum" = some none)
  (z_tuple : PySem.W.nsIn K mainGlobals "tuple" = some none)
  (z_zip : PySem.W.nsIn K mainGlobals "zip" = some none)
  {t_DEEPEST : Tok} (c_DEEPEST : PySem.W.nsIn K mainGlobals "DEEPEST" = some (some (.int (40) t_DEEPEST)))
  {t_LETTERS : Tok} (c_LETTERS : PySem.W.nsIn K mainGlobals "LETTERS" = some (some (.str "abcdefghijklmnopqrstuvwxyz" t_LETTERS)))
  {t_LONGEST : Tok} (c_LONGEST : PySem.W.nsIn K mainGlobals "LONGEST" = some (some (.int (200) t_LONGEST)))
  {t_SIGNS : Tok} (c_SIGNS : PySem.W.nsIn K mainGlobals "SIGNS" = some (some (.str "=>|&~" t_SIGNS)))
  {e_MindError : Addr} (a_MindError : PySem.W.nsIn K mainGlobals "MindError" = some (some (.ref e_MindError))) (n_MindError : (e_MindError == 0) = false)
  {e_NoSentence : Addr} (a_NoSentence : PySem.W.nsIn K mainGlobals "NoSentence" = some (some (.ref e_NoSentence))) (n_NoSentence : (e_NoSentence == 0) = false)
  {e_TooDeep : Addr} (a_TooDeep : PySem.W.nsIn K mainGlobals "TooDeep" = some (some (.ref e_TooDeep))) (n_TooDeep : (e_TooDeep == 0) = false)
  {e_NoName : Addr} (a_NoName : PySem.W.nsIn K mainGlobals "NoName" = some (some (.ref e_NoName))) (n_NoName : (e_NoName == 0) = false)
  {e_Always : Addr} (a_Always : PySem.W.nsIn K mainGlobals "Always" = some (some (.ref e_Always))) (n_Always : (e_Always == 0) = false)
  {e_Never : Addr} (a_Never : PySem.W.nsIn K mainGlobals "Never" = some (some (.ref e_Never))) (n_Never : (e_Never == 0) = false)
  {e_NoMinds : Addr} (a_NoMinds : PySem.W.nsIn K mainGlobals "NoMinds" = some (some (.ref e_NoMinds))) (n_NoMinds : (e_NoMinds == 0) = false)
  {e_Unlike : Addr} (a_Unlike : PySem.W.nsIn K mainGlobals "Unlike" = some (some (.ref e_Unlike))) (n_Unlike : (e_Unlike == 0) = false)
  {e_NoBack : Addr} (a_NoBack : PySem.W.nsIn K mainGlobals "NoBack" = some (some (.ref e_NoBack))) (n_NoBack : (e_NoBack == 0) = false)
  {e_NoAgain : Addr} (a_NoAgain : PySem.W.nsIn K mainGlobals "NoAgain" = some (some (.ref e_NoAgain))) (n_NoAgain : (e_NoAgain == 0) = false)
  {e_Refused : Addr} (a_Refused : PySem.W.nsIn K mainGlobals "Refused" = some (some (.ref e_Refused))) (n_Refused : (e_Refused == 0) = false)
  (xk_NoSentence : PySem.W.keepIn K (.ref e_NoSentence) = true) (xq_NoSentence : PySem.W.excIn K e_NoSentence [.type "ValueError", .type "Exception", .type "BaseException", .type "object"] "ValueError.__new__" = true) (xb_NoSentence : PySem.W.subIn K (.ref e_NoSentence) (.type "BaseException") = some true) (xt_NoSentence : PySem.W.typeIn K (.ref e_NoSentence) = some (.type "type"))
  (xk_TooDeep : PySem.W.keepIn K (.ref e_TooDeep) = true) (xq_TooDeep : PySem.W.excIn K e_TooDeep [.type "ValueError", .type "Exception", .type "BaseException", .type "object"] "ValueError.__new__" = true) (xb_TooDeep : PySem.W.subIn K (.ref e_TooDeep) (.type "BaseException") = some true) (xt_TooDeep : PySem.W.typeIn K (.ref e_TooDeep) = some (.type "type"))
  (hxs : chkX K = true)
  : ∃ T : Txt K mg, T.d_law.f = fa ∧ ∀ (s : Shared) (v : Value), BindsTo s T.d_law.fd ⟨[v], []⟩ [("_law_script", v)] := by
  have e := hfa.symm.trans (PySem.W.mg_of X G a_law)
  cases e
  have F_words_of := fun_mk (st := s_words_of) l_words_of c_words_of k_words_of
  have b_words_of := F_words_of.binds (ps := ["text"]) fun _ _ _ _ _ _ us hl => match us, hl with | [_], _ => rfl
  have F_leaf_of := fun_mk (st := s_leaf_of) l_leaf_of c_leaf_of k_leaf_of
  have b_leaf_of := F_leaf_of.binds (ps := ["word"]) fun _ _ _ _ _ _ us hl => match us, hl with | [_], _ => rfl
  have F_goes_first := fun_mk (st := s_goes_first) l_goes_first c_goes_first k_goes_first
  have b_goes_first := F_goes_first.binds (ps := ["one", "sign"]) fun _ _ _ _ _ _ us hl => match us, hl with | [_, _], _ => rfl
  have F_fold := fun_mk (st := s_fold) l_fold c_fold k_fold
  have b_fold := F_fold.binds (ps := ["done", "sign"]) fun _ _ _ _ _ _ us hl => match us, hl with | [_, _], _ => rfl
  have F_begun := fun_mk (st := s_begun) l_begun c_begun k_begun
  have b_begun := F_begun.binds (ps := ["word", "done", "waiting"]) fun _ _ _ _ _ _ us hl => match us, hl with | [_, _, _], _ => rfl
  have F_gone_on := fun_mk (st := s_gone_on) l_gone_on c_gone_on k_gone_on
  have b_gone_on := F_gone_on.binds (ps := ["word", "done", "waiting"]) fun _ _ _ _ _ _ us hl => match us, hl with | [_, _, _], _ => rfl
  have F_read := fun_mk (st := s_read) l_read c_read k_read
  have b_read := F_read.binds (ps := ["text"]) fun _ _ _ _ _ _ us hl => match us, hl with | [_], _ => rfl
  have F_strength := fun_mk (st := s_strength) l_strength c_strength k_strength
  have b_strength := F_strength.binds (ps := ["kind"]) fun _ _ _ _ _ _ us hl => match us, hl with | [_], _ => rfl
  have F_within := fun_mk (st := s_within) l_within c_within k_within
  have b_within := F_within.binds (ps := ["text", "needed"]) fun _ _ _ _ _ _ us hl => match us, hl with | [_, _], _ => rfl
  have F_sign_of := fun_mk (st := s_sign_of) l_sign_of c_sign_of k_sign_of
  have b_sign_of := F_sign_of.binds (ps := ["kind"]) fun _ _ _ _ _ _ us hl => match us, hl with | [_], _ => rfl
  have F_shown := fun_mk (st := s_shown) l_shown c_shown k_shown
  have b_shown := F_shown.binds (ps := ["tree"]) fun _ _ _ _ _ _ us hl => match us, hl with | [_], _ => rfl
  have F__law_cell_at := fun_mk (st := s__law_cell_at) l__law_cell_at c__law_cell_at k__law_cell_at
  have b__law_cell_at := F__law_cell_at.binds (ps := ["_law_script", "_law_k"]) fun _ _ _ _ _ _ us hl => match us, hl with | [_, _], _ => rfl
  have F__law_names_by := fun_mk (st := s__law_names_by) l__law_names_by c__law_names_by k__law_names_by
  have b__law_names_by := F__law_names_by.binds (ps := ["_law_cell", "_law_many"]) fun _ _ _ _ _ _ us hl => match us, hl with | [_, _], _ => rfl
  have F__law_alike := fun_mk (st := s__law_alike) l__law_alike c__law_alike k__law_alike
  have b__law_alike := F__law_alike.binds (ps := ["_law_found", "_law_due_here"]) fun _ _ _ _ _ _ us hl => match us, hl with | [_, _], _ => rfl
  have F__law_class := fun_mk (st := s__law_class) l__law_class c__law_class k__law_class
  have b__law_class := F__law_class.binds (ps := ["_law_caught"]) fun _ _ _ _ _ _ us hl => match us, hl with | [_], _ => rfl
  have F__law_told := fun_mk (st := s__law_told) l__law_told c__law_told k__law_told
  have b__law_told := F__law_told.binds (ps := ["_law_text"]) fun _ _ _ _ _ _ us hl => match us, hl with | [_], _ => rfl
  have F__law_words_by := fun_mk (st := s__law_words_by) l__law_words_by c__law_words_by k__law_words_by
  have b__law_words_by := F__law_words_by.binds (ps := ["_law_text"]) fun _ _ _ _ _ _ us hl => match us, hl with | [_], _ => rfl
  have F__law_marks := fun_mk (st := s__law_marks) l__law_marks c__law_marks k__law_marks
  have b__law_marks := F__law_marks.binds (ps := ["_law_words"]) fun _ _ _ _ _ _ us hl => match us, hl with | [_], _ => rfl
  have F__law_chained := fun_mk (st := s__law_chained) l__law_chained c__law_chained k__law_chained
  have b__law_chained := F__law_chained.binds (ps := ["_law_kind", "_law_parts"]) fun _ _ _ _ _ _ us hl => match us, hl with | [_, _], _ => rfl
  have F__law_parted := fun_mk (st := s__law_parted) l__law_parted c__law_parted k__law_parted
  have b__law_parted := F__law_parted.binds (ps := ["_law_words", "_law_marks_here"]) fun _ _ _ _ _ _ us hl => match us, hl with | [_, _], _ => rfl
  have F__law_read_by := fun_mk (st := s__law_read_by) l__law_read_by c__law_read_by k__law_read_by
  have b__law_read_by := F__law_read_by.binds (ps := ["_law_words"]) fun _ _ _ _ _ _ us hl => match us, hl with | [_], _ => rfl
  have F__law_deep := fun_mk (st := s__law_deep) l__law_deep c__law_deep k__law_deep
  have b__law_deep := F__law_deep.binds (ps := ["_law_tree"]) fun _ _ _ _ _ _ us hl => match us, hl with | [_], _ => rfl
  have F__law_due := fun_mk (st := s__law_due) l__law_due c__law_due k__law_due
  have b__law_due := F__law_due.binds (ps := ["_law_text", "_law_due_here"]) fun _ _ _ _ _ _ us hl => match us, hl with | [_, _], _ => rfl
  have F__law_wanted := fun_mk (st := s__law_wanted) l__law_wanted c__law_wanted k__law_wanted
  have b__law_wanted := F__law_wanted.binds (ps := ["_law_words"]) fun _ _ _ _ _ _ us hl => match us, hl with | [_], _ => rfl
  have F__law_word := fun_mk (st := s__law_word) l__law_word c__law_word k__law_word
  have b__law_word := F__law_word.binds (ps := ["_law_names", "_law_words", "_law_cell"]) fun _ _ _ _ _ _ us hl => match us, hl with | [_, _, _], _ => rfl
  have F_law := fun_mk (st := s_law) l_law c_law k_law
  have b_law := F_law.binds (ps := ["_law_script"]) fun _ _ _ _ _ _ us hl => match us, hl with | [_], _ => rfl
  exact ⟨⟨⟨_, _, F_words_of, PySem.W.mg_of X G a_words_of, b_words_of⟩, ⟨_, _, F_leaf_of, PySem.W.mg_of X G a_leaf_of, b_leaf_of⟩, ⟨_, _, F_goes_first, PySem.W.mg_of X G a_goes_first, b_goes_first⟩, ⟨_, _, F_fold, PySem.W.mg_of X G a_fold, b_fold⟩, ⟨_, _, F_begun, PySem.W.mg_of X G a_begun, b_begun⟩, ⟨_, _, F_gone_on, PySem.W.mg_of X G a_gone_on, b_gone_on⟩, ⟨_, _, F_read, PySem.W.mg_of X G a_read, b_read⟩, ⟨_, _, F_strength, PySem.W.mg_of X G a_strength, b_strength⟩, ⟨_, _, F_within, PySem.W.mg_of X G a_within, b_within⟩, ⟨_, _, F_sign_of, PySem.W.mg_of X G a_sign_of, b_sign_of⟩, ⟨_, _, F_shown, PySem.W.mg_of X G a_shown, b_shown⟩, ⟨_, _, F__law_cell_at, PySem.W.mg_of X G a__law_cell_at, b__law_cell_at⟩, ⟨_, _, F__law_names_by, PySem.W.mg_of X G a__law_names_by, b__law_names_by⟩, ⟨_, _, F__law_alike, PySem.W.mg_of X G a__law_alike, b__law_alike⟩, ⟨_, _, F__law_class, PySem.W.mg_of X G a__law_class, b__law_class⟩, ⟨_, _, F__law_told, PySem.W.mg_of X G a__law_told, b__law_told⟩, ⟨_, _, F__law_words_by, PySem.W.mg_of X G a__law_words_by, b__law_words_by⟩, ⟨_, _, F__law_marks, PySem.W.mg_of X G a__law_marks, b__law_marks⟩, ⟨_, _, F__law_chained, PySem.W.mg_of X G a__law_chained, b__law_chained⟩, ⟨_, _, F__law_parted, PySem.W.mg_of X G a__law_parted, b__law_parted⟩, ⟨_, _, F__law_read_by, PySem.W.mg_of X G a__law_read_by, b__law_read_by⟩, ⟨_, _, F__law_deep, PySem.W.mg_of X G a__law_deep, b__law_deep⟩, ⟨_, _, F__law_due, PySem.W.mg_of X G a__law_due, b__law_due⟩, ⟨_, _, F__law_wanted, PySem.W.mg_of X G a__law_wanted, b__law_wanted⟩, ⟨_, _, F__law_word, PySem.W.mg_of X G a__law_word, b__law_word⟩, ⟨_, _, F_law, PySem.W.mg_of X G a_law, b_law⟩, PySem.W.mg_none_of X G z_ValueError, PySem.W.mg_none_of X G z_all, PySem.W.mg_none_of X G z_enumerate, PySem.W.mg_none_of X G z_int, PySem.W.mg_none_of X G z_isinstance, PySem.W.mg_none_of X G z_len, PySem.W.mg_none_of X G z_max, PySem.W.mg_none_of X G z_range, PySem.W.mg_none_of X G z_reversed, PySem.W.mg_none_of X G z_str, PySem.W.mg_none_of X G z_sum, PySem.W.mg_none_of X G z_tuple, PySem.W.mg_none_of X G z_zip, ⟨_, PySem.W.mg_of X G c_DEEPEST⟩, ⟨_, PySem.W.mg_of X G c_LETTERS⟩, ⟨_, PySem.W.mg_of X G c_LONGEST⟩, ⟨_, PySem.W.mg_of X G c_SIGNS⟩, xh_of X G 0 a_MindError n_MindError, xh_of X G 1 a_NoSentence n_NoSentence, xh_of X G 2 a_TooDeep n_TooDeep, xh_of X G 3 a_NoName n_NoName, xh_of X G 4 a_Always n_Always, xh_of X G 5 a_Never n_Never, xh_of X G 6 a_NoMinds n_NoMinds, xh_of X G 7 a_Unlike n_Unlike, xh_of X G 8 a_NoBack n_NoBack, xh_of X G 9 a_NoAgain n_NoAgain, xh_of X G 10 a_Refused n_Refused, xr_of X G 1 a_NoSentence n_NoSentence xk_NoSentence xq_NoSentence xb_NoSentence xt_NoSentence, xr_of X G 2 a_TooDeep n_TooDeep xk_TooDeep xq_TooDeep xb_TooDeep xt_TooDeep, chkX_ok hxs⟩, rfl, fun s v => .of_eq rfl⟩
theorem walk {l : PySem.W.OpenLaw} {q : Program} {loose : List Str} {XP : (Str → Option Value) → Heap → Prop} {YP : World → Heap → Prop} {d : DefRec} {K : Params → PySem.W.Frag} (hn : l.most = some 63) (hdf : d.params.defaults = [])
    (main : ∀ ns : List Int, ns.length ≤ 63 → ∃ fin, (F 200).law [.val (.scr ns)] = .ok (.val (.bl true)) fin)
    (hY : ∀ (w : World) (h : Heap), YP w h → (K w.params).In h)
    (TT : ∀ (w : World) (mg : Str → Option Value) (fa : Addr) (h : Heap), (K w.params).In h → h.Ns mainGlobals mg → mg d.name = some (.ref fa) → ∃ T : Txt (K w.params) mg, T.d_law.f = fa ∧ ∀ (s : Shared) (v : Value), BindsTo s T.d_law.fd ⟨[v], []⟩ [("_law_script", v)]) :
    PySem.W.WalkO q loose XP YP l.row.toRowW d [] (fun f vs => PySem.call f vs) :=
  L2.walk_of (n := 63) (k := 200) (x := "_law_script") (CX := fun w => L2.CX l.prog w) (sp := fun w => spG (K w.params) (clsOf (K w.params)) 1 (F 200).law) hn (by decide) hdf ⟨rfl, by decide, by decide⟩ hY
    (fun w mg fa h KX G hmg => by
      obtain ⟨T, rfl, hb⟩ := TT w mg fa h KX G hmg
      exact ⟨T.d_law.fd, hb, fun base _ _ => (allF (P := l.prog) (w := w) (base := base) (T := T) 200).law⟩)
    (fun w H a ns hl _ hS => law_sp (main ns hl) hS) fun w H s e s' => law_cx H s e s'
end Wk08
set_option Elab.async false
set_option linter.all false
set_option maxRecDepth 100000
set_option maxHeartbeats 800000
set_option exponentiation.threshold 20000
namespace Wk08
open PySem PySem.Spec PyProof.Rows L2 PL
theorem cell_K (n : Nat) : CellOk (F (n + 1))._law_cell_at := cell_ok
theorem names_K (n : Nat) : NamesOk (F (n + 1))._law_names_by := names_ok
theorem fold_K (n : Nat) : FoldK (F (n + 1)).fold := fold_ok
theorem goesF_K (n : Nat) : GoesFK (F (n + 1)).goes_first := goesF_ok
theorem leaf_K (n : Nat) : LeafK (F (n + 1)).leaf_of := leaf_ok'
theorem begun_K (n : Nat) : BegunK (F (n + 2)).begun := begun_ok (leaf_K n)
theorem gone_K (n : Nat) : GoneK (F (n + 2)).gone_on := gone_ok (fold_K n) (goesF_K n)
theorem words_K (n : Nat) : WordsK (F (n + 1)).words_of := words_ok
theorem read_K (n : Nat) : ReadK (F (n + 3)).read := read_ok (words_K (n + 1)) (begun_K n) (gone_K n) (fold_K (n + 1))
theorem class_K (n : Nat) : ClassK (F (n + 1))._law_class := class_ok
theorem told_K (n : Nat) : ToldR (F (n + 4))._law_told := toldR_ok (read_K n) (class_K (n + 2))
theorem alike_k : ∀ n : Nat, AlikeT n (F (n + 1))._law_alike
  | 0 => alikeT_0
  | n + 1 => alikeT_ok (alike_k n)
theorem deep_k : ∀ n : Nat, DepthOk n (F n)._law_deep
  | 0 => fun t h => absurd (T.depth_pos t) (by omega)
  | n + 1 => deep_ok (deep_k n)
theorem due_K (k : Nat) : DueN 150 (F (k + 199))._law_due :=
  dueN_ok (told_K (k + 194)) (fun t h => deep_k (k + 198) t (by omega)) ⟨(alike_k (k + 197)).1, fun t h => (alike_k (k + 197)).2 t (by omega)⟩
theorem wordsBy_K (n : Nat) : WordsByK (F (n + 1))._law_words_by := wordsBy_ok
theorem marksW_K (n : Nat) : MarksWK (F (n + 1))._law_marks := marksW_ok
theorem chained_K (n : Nat) : ChainK (F (n + 1))._law_chained := chained_ok
theorem readBy_k : ∀ n : Nat, ReadBR (lread n) n (F (n + 1))._law_read_by
  | 0 => fun ws _ _ h => absurd h (by omega)
  | 1 => readBy_ok (r0 := (lread2 0).2) (marksW_K 0) (parted_0 _ _) (readBy_k 0)
  | n + 2 => readBy_ok (r0 := (lread2 (n + 1)).2) (marksW_K (n + 1)) (parted_ok (readBy_k n) (chained_K n)) (readBy_k (n + 1))
theorem readBy_non (n : Nat) : (F (n + 1))._law_read_by [.val .non] = .ok (.val .non) [.val .non] := by
  show bodyF 3 1 1 (b_read_by_4b26 (F n)._law_marks (F n)._law_parted (F n)._law_read_by) [.val .non] = _
  generalize (F n)._law_marks = A
  generalize (F n)._law_parted = B
  generalize (F n)._law_read_by = C
  simp (disch := first | assumption | omega | (simp only [List.length_append, List.length_cons, List.length_nil, List.length_map, List.length_reverse, List.length_replicate, List.length_range, List.length_take, List.length_drop, enD_length, rangeD_length]; omega) | (simp; done) | fail) [decide_eq_true, decide_eq_false, kAsg, kNx, b_read_by_4b26]
/-- the last row: what is due of a text -/
theorem last (k : Nat) (text : List Nat) (m n l : Nat) (h : Txx m n l text) (hm : m < 198) (hn : n ≤ 9000) (hl : l ≤ 9000) :
    ∃ d, (F (k + 199))._law_words_by [.val (.str text)] = .ok (.val d) [.val (.str text)] ∧ ∃ o : Option T, (F (k + 199))._law_read_by [.val d] = .ok (.val (optT o)) [.val d] ∧ (F (k + 199))._law_due [.val (.str text), .val (optT o)] = .ok (.val (.bl true)) [.val (.str text), .val (optT o)] ∧ ∀ t, o = some t → t.okWs ∧ t.depth ≤ 150 ∧ (text.length ≤ 200 → t.size ≤ 200) := by
  have htl := h.len
  have hw : (F (k + 199))._law_words_by [.val (.str text)] = .ok (.val (optWs (wordsF text))) [.val (.str text)] := wordsBy_K (k + 198) text (by omega) h.low
  have hd := due_K k
  refine ⟨_, hw, ?_⟩
  cases e : wordsF text with
  | none =>
    refine ⟨none, readBy_non (k + 198), hd.2 text (by omega) ?_, fun t e => by cases e⟩
    unfold readF
    rw [e]
    split <;> rfl
  | some ws =>
    have hok := wordsF_okWs e
    have hnb := wordsF_nb e
    have hnb2 := h.nb
    have hmw := wordsF_mW e
    have hbr := h.br
    have hr : (F (k + 199))._law_read_by [.val (.lst (wsD ws))] = .ok (.val (optT (lread (k + 198) ws))) [.val (.lst (wsD ws))] := readBy_k (k + 198) ws hok (by omega) (by omega)
    refine ⟨_, hr, ?_⟩
    have hrd := readW_lread (n := k + 198) hok (by omega)
    have hrf : readF text = if 200 < text.length then .bad else readW ws := by unfold readF; rw [e]
    rw [hrd] at hrf
    cases el : lread (k + 198) ws with
    | none =>
      rw [el] at hrf
      refine ⟨hd.2 text (by omega) ?_, fun t e => by cases e⟩
      rw [hrf]
      split <;> rfl
    | some t =>
      rw [el] at hrf
      have hE := lread_sound hok el
      have hdep := E_dep hE
      have hcw := wordsF_cnt cnP_abc rfl e
      obtain ⟨hnm, hsz⟩ := E_names hE hok
      have hcl : text.countP nbP ≤ text.length := List.countP_le_length
      exact ⟨hd.1 text t (by omega) (by omega) hrf, fun u e => by cases e; exact ⟨hnm, by omega, fun h => by omega⟩⟩
theorem shown_k : ∀ n : Nat, ShownOk n (F (n + 2)).shown
  | 0 => fun t h => absurd (T.depth_pos t) (by omega)
  | n + 1 => shown_ok strength_ok (shown_k n) within_ok (sign_ok strength_ok)
theorem wanted_K (n : Nat) : WantedK (F (n + 1))._law_wanted := wanted_ok
theorem wordD_K (n : Nat) : WordDK (F (n + 2))._law_word := wordD_ok (wanted_K n)
theorem bk_cons {ft : D → R (List (Nat × D))} {fb : Es} {d : D} {ds : List D} {ρ ρ' : List Sl} {as : List (Nat × D)} (h1 : ft d = .ok as) (h2 : fb (setS ρ as) = .bk ρ') : forGo ft fb (d :: ds) ρ = .nx ρ' := by
  have e : forGo ft fb (d :: ds) ρ = tryE ρ (noX (ft d)) (fun as => match fb (setS ρ as) with
        | .nx ρ' => forGo ft fb ds ρ'
        | .ct ρ' => forGo ft fb ds ρ'
        | .bk ρ' => .nx ρ'
        | r => r) := rfl
  rw [e, h1]
  show (match fb (setS ρ as) with
        | .nx ρ' => forGo ft fb ds ρ'
        | .ct ρ' => forGo ft fb ds ρ'
        | .bk ρ' => .nx ρ'
        | r => r) = _
  rw [h2]
section
variable {fc fn fw fwa fwb frb fdu fde fsh frd fal : Fn}
/-- one row of the loop: it ends, or a word is put on -/
theorem step (hD : WordDK fw) (v0 y6 y7 : Sl) (v1 c : Int) (ns : List Wd) (m1 : 1 ≤ ns.length) (m8 : ns.length ≤ 8) (hW : ∀ x ∈ ns, okW x) (ws : List Wd) (tx : List Nat) (hws : ∀ w ∈ ws, Wok w) (hl : ws.length ≤ 63) (hT : Txx (2 * ws.length) (12 * ws.length) (14 * ws.length) tx) :
    (∃ w x z7, Wok w ∧ Txx 2 12 14 x ∧ b_law_l1 fc fn fw fwa fwb frb fdu fde fsh frd fal [v0, .val (.int v1), .val (nmD ns), .own (.lst (wsD ws)), .val (.str tx), .val (.int c), y6, y7, .emp, .emp, .emp, .emp] = .nx [v0, .val (.int v1), .val (nmD ns), .own (.lst (wsD (ws ++ [w]))), .val (.str (tx ++ x)), .val (.int c), .val (.str w), z7, .emp, .emp, .emp, .emp]) ∨
    b_law_l1 fc fn fw fwa fwb frb fdu fde fsh frd fal [v0, .val (.int v1), .val (nmD ns), .own (.lst (wsD ws)), .val (.str tx), .val (.int c), y6, y7, .emp, .emp, .emp, .emp] = .bk [v0, .val (.int v1), .val (nmD ns), .own (.lst (wsD ws)), .val (.str tx), .val (.int c), y6, y7, .emp, .emp, .emp, .emp] := by
  have hll : (wsD ws).length = ws.length := by simp [wsD]
  have hTl : tx.length ≤ 1000 := by have := hT.len; omega
  by_cases hbr : 160 + v1 / 8 % 40 < (tx.length : Int)
  · refine .inr ?_
    generalize wsD ws = WD at *
    generalize nmD ns = ND at *
    simp (disch := first | assumption | omega | (simp only [List.length_append, List.length_cons, List.length_nil, List.length_map, List.length_reverse, List.length_replicate, List.length_range, List.length_take, List.length_drop, enD_length, rangeD_length]; omega) | (simp; done) | fail) [decide_eq_true, decide_eq_false, kAsg, kNx, b_law_l1, hbr]
  refine .inl ?_
  obtain ⟨sd, hsd⟩ : ∃ sd : Int, c % 2147483647 = sd := ⟨_, rfl⟩
  obtain ⟨w, hw, hwo⟩ := hD ns ws sd m1 m8 hW (by omega)
  obtain ⟨x0, hx0, hx0o⟩ : ∃ x0 : Wd, L2.atI (ns.map D.str) 0 = some (.str x0) ∧ okW x0 :=
    ⟨_, atI_map D.str ns 0 (by decide) (by simpa using (show 0 < ns.length by omega)), hW _ (List.getElem_mem (l := ns) (n := (0 : Int).toNat) (by simpa using (show 0 < ns.length by omega)))⟩
  have hc0 : gCntL (wsD ws) (.str [40]) = .ok (.int ((ws.count [40] : Nat) : Int)) := gCntL_strs ws [40]
  generalize ((ws.count [40] : Nat) : Int) = C0 at *
  obtain ⟨w', hw', hwo'⟩ : ∃ w' : Wd, w' = (if w = [40] ∧ 49 < C0 then x0 else w) ∧ Wok w' := ⟨_, rfl, by split; exact wok_ok hx0o; exact hwo⟩
  obtain ⟨c1, r1, rfl, hc1⟩ : ∃ c1 r1, w' = c1 :: r1 ∧ c1 < 128 := by
    cases w' with
    | nil => exact absurd rfl hwo'.ne
    | cons a r => exact ⟨a, r, rfl, hwo'.tx.low a (by simp)⟩
  have hlow1 := gLow_one c1 hc1
  have hr1 : r1.length ≤ 12 := by have := hwo'.tx.len; simp only [List.length_cons] at this; omega
  have hz1 : L2.atI (c1 :: r1) 0 = some c1 := by rw [show (0 : Int) = ((0 : Nat) : Int) from rfl, atI_of _ 0 (by simp)]; rfl
  generalize decide (97 ≤ c1 ∧ c1 ≤ 122) = B1 at *
  -- the last word's sign
  obtain ⟨B, hB⟩ : ∃ B : Bool, eAn (eBl (e2 (gCmp pGt) (eCall gLen (aCons (eVar 3) aNil)) (eC (.int (0))))) (eAn (e1 gLow (e2 gIx (e2 gIx (eVar 3) (e1 gNeg (eC (.int (1))))) (eC (.int (0))))) (e1 gLow (e2 gIx (eVar 6) (eC (.int (0)))))) [v0, .val (.int v1), .val (nmD ns), .own (.lst (wsD ws)), .val (.str tx), .val (.int c), .val (.str (c1 :: r1)), y7, .emp, .emp, .emp, .emp] = .ok (.bl B) := by
    cases ws with
    | nil =>
      refine ⟨false, ?_⟩
      unfold wsD
      generalize nmD ns = ND at *
      simp (disch := first | assumption | omega | (simp only [List.length_append, List.length_cons, List.length_nil, List.length_map, List.length_reverse, List.length_replicate, List.length_range, List.length_take, List.length_drop, enD_length, rangeD_length]; omega) | (simp; done) | fail) [decide_eq_true, decide_eq_false, kAsg, kNx, List.map_nil]
    | cons u us =>
      have hlast := last_at (.str u) (wsD us)
      have hlastE : (D.str u :: wsD us).getLast (by simp) = .str ((u :: us).getLast (by simp)) := List.getLast_map (f := D.str) (l := u :: us) (by simp)
      rw [hlastE] at hlast
      have hLW := hws _ (List.getLast_mem (l := u :: us) (by simp))
      generalize (u :: us).getLast (by simp) = LW at *
      obtain ⟨c2, r2, rfl, hc2⟩ : ∃ c2 r2, LW = c2 :: r2 ∧ c2 < 128 := by
        cases LW with
        | nil => exact absurd rfl hLW.ne
        | cons a r => exact ⟨a, r, rfl, hLW.tx.low a (by simp)⟩
      have hlow2 := gLow_one c2 hc2
      have hr2 : r2.length ≤ 12 := by have := hLW.tx.len; simp only [List.length_cons] at this; omega
      have hz2 : L2.atI (c2 :: r2) 0 = some c2 := by rw [show (0 : Int) = ((0 : Nat) : Int) from rfl, atI_of _ 0 (by simp)]; rfl
      generalize decide (97 ≤ c2 ∧ c2 ≤ 122) = B2 at *
      have hp : ¬ ((wsD us).length : Int) + 1 = 0 := by omega
      have h0 : (0 : Int) < ((D.str u :: wsD us).length : Int) := by rw [List.length_cons]; omega
      have hL63 : (D.str u :: wsD us).length ≤ 100 := by have : (wsD us).length = us.length := by simp [wsD]
                                                         rw [List.length_cons]; simp only [List.length_cons] at hl; omega
      have e : wsD (u :: us) = D.str u :: wsD us := rfl
      rw [e]
      clear hlastE hw hc0 hll e
      generalize D.str u :: wsD us = WD at *
      generalize nmD ns = ND at *
      cases B2 with
      | true => exact ⟨B1, by simp (disch := first | assumption | omega | (simp only [List.length_append, List.length_cons, List.length_nil, List.length_map, List.length_reverse, List.length_replicate, List.length_range, List.length_take, List.length_drop, enD_length, rangeD_length]; omega) | (simp; done) | fail) [decide_eq_true, decide_eq_false, kAsg, kNx, hlast, hlow1, hlow2, h0, hz1, hz2]⟩
      | false => exact ⟨false, by simp (disch := first | assumption | omega | (simp only [List.length_append, List.length_cons, List.length_nil, List.length_map, List.length_reverse, List.length_replicate, List.length_range, List.length_take, List.length_drop, enD_length, rangeD_length]; omega) | (simp; done) | fail) [decide_eq_true, decide_eq_false, kAsg, kNx, hlast, hlow1, hlow2, h0, hz1, hz2]⟩
  obtain ⟨n, hn, hn1⟩ : ∃ n : Nat, gMax2 [.int (if B then 1 else 0), .int (c / 331 % 5 - 3)] = .ok (.int (n : Nat)) ∧ n ≤ 1 := by
    rw [gMax2_ii]
    have : c / 331 % 5 - 3 ≤ 1 := by omega
    cases B
    · rw [if_neg (by decide : ¬ false = true)]
      by_cases q : c / 331 % 5 - 3 > 0
      · exact ⟨1, by rw [if_pos q]; congr 2; omega, by omega⟩
      · exact ⟨0, by rw [if_neg q]; rfl, by omega⟩
    · rw [if_pos rfl]
      exact ⟨1, by rw [if_neg (by omega)]; rfl, by omega⟩
  have hm := blanks_at n (by omega)
  have hbx := (txx_bl n).add hwo'.tx
  refine ⟨c1 :: r1, List.replicate n 32 ++ (c1 :: r1), .val (.int (if B then 1 else 0)), hwo', hbx.le (by omega) (by omega) (by omega), ?_⟩
  have hrl : (List.replicate n 32).length ≤ 1 := by simp; omega
  have hw1 := hwo'.tx.len
  have e : wsD (ws ++ [c1 :: r1]) = wsD ws ++ [.str (c1 :: r1)] := by simp [wsD]
  rw [e]
  clear hbx hwo' hwo hws hT
  unfold nmD at *
  generalize List.replicate n 32 = RN at *
  generalize hCR : c1 :: r1 = CR at *
  generalize wsD ws = WD at *
  generalize ns.map D.str = ND at *
  have hB' : eAn (eBl (e2 (gCmp pGt) (eCall gLen (aCons (eVar 3) aNil)) (eC (.int (0))))) (eAn (e1 gLow (e2 gIx (e2 gIx (eVar 3) (e1 gNeg (eC (.int (1))))) (eC (.int (0))))) (e1 gLow (e2 gIx (eVar 6) (eC (.int (0)))))) [v0, .val (.int v1), .val (.tup ND), .own (.lst WD), .val (.str tx), .val (.int c), .val (.str CR), y7, .emp, .emp, .emp, .emp] = .ok (.bl B) := hB
  generalize hEB : eAn (eBl (e2 (gCmp pGt) (eCall gLen (aCons (eVar 3) aNil)) (eC (.int (0))))) (eAn (e1 gLow (e2 gIx (e2 gIx (eVar 3) (e1 gNeg (eC (.int (1))))) (eC (.int (0))))) (e1 gLow (e2 gIx (eVar 6) (eC (.int (0)))))) = EB at *
  unfold b_law_l1
  rw [hEB]
  by_cases q1 : w = [40]
  · subst q1
    by_cases q2 : 49 < C0
    · rw [if_pos ⟨rfl, q2⟩] at hw'
      subst hw'
      cases B <;> simp only [Bool.false_eq_true, if_false, if_true] at hn <;> simp (disch := first | assumption | omega | (simp only [List.length_append, List.length_cons, List.length_nil, List.length_map, List.length_reverse, List.length_replicate, List.length_range, List.length_take, List.length_drop, enD_length, rangeD_length]; omega) | (simp; done) | fail) [decide_eq_true, decide_eq_false, kAsg, kNx, hbr, hsd, hw, hx0, hc0, q2, hB', hn, hm, -gMax2_ii, -gMul_si]
    · rw [if_neg (fun h => q2 h.2)] at hw'
      subst hw'
      cases B <;> simp only [Bool.false_eq_true, if_false, if_true] at hn <;> simp (disch := first | assumption | omega | (simp only [List.length_append, List.length_cons, List.length_nil, List.length_map, List.length_reverse, List.length_replicate, List.length_range, List.length_take, List.length_drop, enD_length, rangeD_length]; omega) | (simp; done) | fail) [decide_eq_true, decide_eq_false, kAsg, kNx, hbr, hsd, hw, hc0, q2, hB', hn, hm, -gMax2_ii, -gMul_si]
  · rw [if_neg (fun h => q1 h.1)] at hw'
    subst hw'
    cases B <;> simp only [Bool.false_eq_true, if_false, if_true] at hn <;> simp (disch := first | assumption | omega | (simp only [List.length_append, List.length_cons, List.length_nil, List.length_map, List.length_reverse, List.length_replicate, List.length_range, List.length_take, List.length_drop, enD_length, rangeD_length]; omega) | (simp; done) | fail) [decide_eq_true, decide_eq_false, kAsg, kNx, hbr, hsd, hw, q1, hB', hn, hm, -gMax2_ii, -gMul_si]
theorem rows (hD : WordDK fw) (v0 : Sl) (v1 : Int) (ns : List Wd) (m1 : 1 ≤ ns.length) (m8 : ns.length ≤ 8) (hW : ∀ x ∈ ns, okW x) : ∀ (cs : List Int) (ws : List Wd) (tx : List Nat) (y5 y6 y7 : Sl), (∀ w ∈ ws, Wok w) → ws.length + cs.length ≤ 61 → Txx (2 * ws.length) (12 * ws.length) (14 * ws.length) tx →
    ∃ ws' tx' z5 z6 z7, (∀ w ∈ ws', Wok w) ∧ ws'.length ≤ 61 ∧ Txx (2 * ws'.length) (12 * ws'.length) (14 * ws'.length) tx' ∧ forGo (ftOne 5) (b_law_l1 fc fn fw fwa fwb frb fdu fde fsh frd fal) (cs.map D.int) [v0, .val (.int v1), .val (nmD ns), .own (.lst (wsD ws)), .val (.str tx), y5, y6, y7, .emp, .emp, .emp, .emp] = .nx [v0, .val (.int v1), .val (nmD ns), .own (.lst (wsD ws')), .val (.str tx'), z5, z6, z7, .emp, .emp, .emp, .emp]
  | [], ws, tx, y5, y6, y7, h, hl, hT => ⟨ws, tx, y5, y6, y7, h, by simpa using hl, hT, rfl⟩
  | c :: cs, ws, tx, y5, y6, y7, h, hl, hT => by
    simp only [List.length_cons] at hl
    rcases step (fc := fc) (fn := fn) (fwa := fwa) (fwb := fwb) (frb := frb) (fdu := fdu) (fde := fde) (fsh := fsh) (frd := frd) (fal := fal) hD v0 y6 y7 v1 c ns m1 m8 hW ws tx h (by omega) hT with ⟨w, x, z7, a1, a2, a3⟩ | a3
    · have hT2 : Txx (2 * (ws ++ [w]).length) (12 * (ws ++ [w]).length) (14 * (ws ++ [w]).length) (tx ++ x) := by
        have := hT.add a2
        rw [List.length_append, List.length_singleton]
        exact this.le (by omega) (by omega) (by omega)
      obtain ⟨ws', tx', z5, z6, z7', g1, g2, g3, g4⟩ := rows hD v0 v1 ns m1 m8 hW cs (ws ++ [w]) (tx ++ x) (.val (.int c)) (.val (.str w)) z7 (fun u hu => by
        rcases List.mem_append.mp hu with hu | hu
        · exact h u hu
        · rw [List.mem_singleton.mp hu]; exact a1) (by rw [List.length_append, List.length_singleton]; omega) hT2
      refine ⟨ws', tx', z5, z6, z7', g1, g2, g3, ?_⟩
      rw [List.map_cons, forGo_cons_nx (as := [(5, .int c)]) rfl a3]
      exact g4
    · refine ⟨ws, tx, .val (.int c), y6, y7, h, by omega, hT, ?_⟩
      rw [List.map_cons, bk_cons (as := [(5, .int c)]) rfl a3]
end
theorem closing (N : Int) (ρ : List Sl) : lcGo ρ (ftOne 11) fcYes (eC (.str [41])) (rangeD 0 N) = .ok ((List.replicate N.toNat [41]).map D.str) := by
  rw [lc_rngI (h := fun _ => .str [41]) N (fun k _ => rfl), List.map_replicate, List.map_const', List.length_range]
theorem flat41 : ∀ e : Nat, (List.replicate e [41]).flatten = List.replicate e 41
  | 0 => rfl
  | e + 1 => by rw [List.replicate_succ, List.flatten_cons, flat41 e, List.replicate_succ]; rfl
theorem main' (k : Nat) (s : List Int) (hs : s.length ≤ 63) : ∃ fin, (F (k + 200)).law [.val (.scr s)] = .ok (.val (.bl true)) fin := by
  have c0 : (F (k + 199))._law_cell_at [.val (.scr s), .val (.int 0)] = .ok (.val (.int (s.getD 0 0))) [.val (.scr s), .val (.int 0)] := cell_K (k + 198) s 0 (by omega)
  have c1 : (F (k + 199))._law_cell_at [.val (.scr s), .val (.int 1)] = .ok (.val (.int (s.getD 1 0))) [.val (.scr s), .val (.int 1)] := cell_K (k + 198) s 1 (by omega)
  generalize s.getD 0 0 = v0 at *
  generalize s.getD 1 0 = v1 at *
  obtain ⟨m, hm, m1, m8⟩ : ∃ m : Nat, 1 + v1 % 8 = (m : Int) ∧ 1 ≤ m ∧ m ≤ 8 := ⟨(1 + v1 % 8).toNat, by omega, by omega, by omega⟩
  have hn : (F (k + 199))._law_names_by [.val (.int v0), .val (.int (m : Nat))] = .ok (.val (nmD (namesA v0 m))) [.val (.int v0), .val (.int (m : Nat))] := names_K (k + 198) v0 m (by omega)
  have hlen : (namesA v0 m).length = m := namesA_len v0 m
  have hW := namesA_okW v0 m
  generalize namesA v0 m = ns at *
  have hcut : cutL s (some 2) none = s.drop 2 := cut_from s 2 (by decide)
  obtain ⟨ws, tx, z5, z6, z7, h1, h2, h3, hloop⟩ := rows (fc := (F (k + 199))._law_cell_at) (fn := (F (k + 199))._law_names_by) (fwa := (F (k + 199))._law_wanted) (fwb := (F (k + 199))._law_words_by) (frb := (F (k + 199))._law_read_by) (fdu := (F (k + 199))._law_due) (fde := (F (k + 199))._law_deep) (fsh := (F (k + 199)).shown) (frd := (F (k + 199)).read) (fal := (F (k + 199))._law_alike) (wordD_K (k + 197)) (.val (.scr s)) v1 ns (by omega) (by omega) hW (s.drop 2) [] [] .emp .emp .emp (by simp) (by simp; omega) (txx_0.le (by omega) (by omega) (by omega))
  have hloop : forGo (ftOne 5) (b_law_l1 (F (k + 199))._law_cell_at (F (k + 199))._law_names_by (F (k + 199))._law_word (F (k + 199))._law_wanted (F (k + 199))._law_words_by (F (k + 199))._law_read_by (F (k + 199))._law_due (F (k + 199))._law_deep (F (k + 199)).shown (F (k + 199)).read (F (k + 199))._law_alike) ((s.drop 2).map D.int) [.val (.scr s), .val (.int v1), .val (nmD ns), .own (.lst []), .val (.str []), .emp, .emp, .emp, .emp, .emp, .emp, .emp] = .nx [.val (.scr s), .val (.int v1), .val (nmD ns), .own (.lst (wsD ws)), .val (.str tx), z5, z6, z7, .emp, .emp, .emp, .emp] := hloop
  obtain ⟨b, hwa⟩ := wanted_K (k + 198) ws (by omega)
  have hwa : (F (k + 199))._law_wanted [.val (.lst (wsD ws))] = .ok (.val (.bl b)) [.val (.lst (wsD ws))] := hwa
  have hc0 : gCntL (wsD ws) (.str [40]) = .ok (.int ((ws.count [40] : Nat) : Int)) := gCntL_strs ws [40]
  have hc1 : gCntL (wsD ws) (.str [41]) = .ok (.int ((ws.count [41] : Nat) : Int)) := gCntL_strs ws [41]
  have hcl0 : ws.count [40] ≤ ws.length := List.count_le_length
  obtain ⟨x0, hx0, hx0o⟩ : ∃ x0 : Wd, L2.atI (ns.map D.str) 0 = some (.str x0) ∧ okW x0 :=
    ⟨_, atI_map D.str ns 0 (by decide) (by simpa using (show 0 < ns.length by omega)), hW _ (List.getElem_mem (l := ns) (n := (0 : Int).toNat) (by simpa using (show 0 < ns.length by omega)))⟩
  obtain ⟨N, hN, hNl⟩ : ∃ N : Int, ((ws.count [40] : Nat) : Int) - ((ws.count [41] : Nat) : Int) = N ∧ N ≤ 61 := ⟨_, rfl, by omega⟩
  -- the text as it is read at last
  obtain ⟨text, z3, z8, hT, hend⟩ : ∃ (text : List Nat) (z3 z8 : Sl), Txx 122 2000 2000 text ∧
      ifS (e2 (gCmp pGt) (e2 gMod (e2 gDiv (eVar 1) (eC (.int (512)))) (eC (.int (8)))) (eC (.int (0)))) (seqS (frzS 3 (asgS (ftOne 8) (eSl (eLst (aCons (e2 gIx (eVar 2) (eC (.int (0)))) aNil)) oNone (oSome (eCall gIntOf (aCons (eFn (F (k + 199))._law_wanted (aCons (eFrz 3) aNil)) aNil))))))
        (seqS (asgS (ftOne 8) (e2 gAdd (eVar 8) (eLc [11] (iRg gRng1 (aCons (e2 gSub (eCnt (eVar 3) (eC (.str [40]))) (eCnt (eVar 3) (eC (.str [41])))) aNil)) (ftOne 11) fcYes (eC (.str [41])))))
        (asgS (ftOne 4) (e2 gAdd (eVar 4) (eM1 gJoin (eC (.str [])) (eVar 8)))))) skipS [.val (.scr s), .val (.int v1), .val (nmD ns), .own (.lst (wsD ws)), .val (.str tx), z5, z6, z7, .emp, .emp, .emp, .emp] = .nx [.val (.scr s), .val (.int v1), .val (nmD ns), z3, .val (.str text), z5, z6, z7, z8, .emp, .emp, .emp] := by
    by_cases q : 0 < v1 / 512 % 8
    · have hcl := closing N
      have hLw : (wsD ws).length ≤ 100 := by simp [wsD]; omega
      have hcc0 : ws.count [40] ≤ 1000 := by omega
      have hcc1 : ws.count [41] ≤ 1000 := by have : ws.count [41] ≤ ws.length := List.count_le_length; omega
      have hNe : N.toNat ≤ 61 := by omega
      have htl : tx.length ≤ 2000 := by have := h3.len; omega
      have hx8 := hx0o.2.1
      have hrr : (List.replicate N.toNat 41).length ≤ 61 := by simp; omega
      have hj1 := gJoin_nil (fun x : Wd => x) (x0 :: List.replicate N.toNat [41]) 8 (fun x hx => by
        rcases List.mem_cons.mp hx with rfl | hx
        · exact hx8
        · rw [List.eq_of_mem_replicate hx]; decide) (by simp; omega)
      have hj0 := gJoin_nil (fun x : Wd => x) (List.replicate N.toNat [41]) 8 (fun x hx => by
        rw [List.eq_of_mem_replicate hx]; decide) (by simp; omega)
      rw [List.map_id', List.flatten_cons, flat41] at hj1
      rw [List.map_id', flat41] at hj0
      have hj1 : gJoin [] (.lst (.str x0 :: (List.replicate N.toNat [41]).map D.str)) = .ok (.str (x0 ++ List.replicate N.toNat 41)) := hj1
      have hj0 : gJoin [] (.lst ((List.replicate N.toNat [41]).map D.str)) = .ok (.str (List.replicate N.toNat 41)) := hj0
      have k0 : cutL [D.str x0] none (some 0) = [] := rfl
      have k1 : cutL [D.str x0] none (some 1) = [D.str x0] := rfl
      have hml : ((List.replicate N.toNat [41]).map D.str).length ≤ 61 := by simp; omega
      have t0 := h3.add (txx_cl N.toNat)
      have t1 := h3.add ((txx_nm hx0o).add (txx_cl N.toNat))
      cases b with
      | true =>
        refine ⟨tx ++ (x0 ++ List.replicate N.toNat 41), .val (.lst (wsD ws)), .val (.lst (.str x0 :: (List.replicate N.toNat [41]).map D.str)), t1.le (by omega) (by omega) (by omega), ?_⟩
        clear t0 t1 h3 hj0 h1 hloop hn
        unfold nmD at *
        generalize (List.replicate N.toNat [41]).map D.str = RL at *
        generalize List.replicate N.toNat 41 = RT at *
        generalize wsD ws = WD at *
        generalize ns.map D.str = ND at *
        simp (disch := first | assumption | omega | (simp only [List.length_append, List.length_cons, List.length_nil, List.length_map, List.length_reverse, List.length_replicate, List.length_range, List.length_take, List.length_drop, enD_length, rangeD_length]; omega) | (simp; done) | fail) [decide_eq_true, decide_eq_false, kAsg, kNx, q, hwa, hx0, k1, hc0, hc1, hN, hcl, hj1]
      | false =>
        refine ⟨tx ++ List.replicate N.toNat 41, .val (.lst (wsD ws)), .val (.lst ((List.replicate N.toNat [41]).map D.str)), t0.le (by omega) (by omega) (by omega), ?_⟩
        clear t0 t1 h3 hj1 h1 hloop hn
        unfold nmD at *
        generalize (List.replicate N.toNat [41]).map D.str = RL at *
        generalize List.replicate N.toNat 41 = RT at *
        generalize wsD ws = WD at *
        generalize ns.map D.str = ND at *
        simp (disch := first | assumption | omega | (simp only [List.length_append, List.length_cons, List.length_nil, List.length_map, List.length_reverse, List.length_replicate, List.length_range, List.length_take, List.length_drop, enD_length, rangeD_length]; omega) | (simp; done) | fail) [decide_eq_true, decide_eq_false, kAsg, kNx, q, hwa, hx0, k0, hc0, hc1, hN, hcl, hj0]
    · refine ⟨tx, .own (.lst (wsD ws)), .emp, h3.le (by omega) (by omega) (by omega), ?_⟩
      generalize nmD ns = ND at *
      generalize wsD ws = WD at *
      simp (disch := first | assumption | omega | (simp only [List.length_append, List.length_cons, List.length_nil, List.length_map, List.length_reverse, List.length_replicate, List.length_range, List.length_take, List.length_drop, enD_length, rangeD_length]; omega) | (simp; done) | fail) [decide_eq_true, decide_eq_false, kAsg, kNx, q]
  obtain ⟨d, hw, o, hr, hdu, ho⟩ := last k text _ _ _ hT (by omega) (by omega) (by omega)
  refine ⟨[.val (.scr s)], ?_⟩
  show bodyF 12 1 1 (LL0 (F (k + 199))) [.val (.scr s)] = .ok (.val (.bl true)) [.val (.scr s)]
  unfold LL0 b_law
  have htl : text.length ≤ 2000 := hT.len
  clear h1 h3 hT
  generalize hSD : (s.drop 2).map D.int = SD' at *
  have hSl : SD'.length ≤ 63 := by rw [← hSD]; simp; omega
  generalize wsD ws = WD at *
  generalize nmD ns = ND at *
  generalize b_law_l1 (F (k + 199))._law_cell_at (F (k + 199))._law_names_by (F (k + 199))._law_word (F (k + 199))._law_wanted (F (k + 199))._law_words_by (F (k + 199))._law_read_by (F (k + 199))._law_due (F (k + 199))._law_deep (F (k + 199)).shown (F (k + 199)).read (F (k + 199))._law_alike = L1 at *
  generalize ifS (e2 (gCmp pGt) (e2 gMod (e2 gDiv (eVar 1) (eC (.int (512)))) (eC (.int (8)))) (eC (.int (0)))) (seqS (frzS 3 (asgS (ftOne 8) (eSl (eLst (aCons (e2 gIx (eVar 2) (eC (.int (0)))) aNil)) oNone (oSome (eCall gIntOf (aCons (eFn (F (k + 199))._law_wanted (aCons (eFrz 3) aNil)) aNil))))))
        (seqS (asgS (ftOne 8) (e2 gAdd (eVar 8) (eLc [11] (iRg gRng1 (aCons (e2 gSub (eCnt (eVar 3) (eC (.str [40]))) (eCnt (eVar 3) (eC (.str [41])))) aNil)) (ftOne 11) fcYes (eC (.str [41])))))
        (asgS (ftOne 4) (e2 gAdd (eVar 4) (eM1 gJoin (eC (.str [])) (eVar 8)))))) skipS = IFS at *
  cases o with
  | none =>
    simp only [optT] at *
    simp (disch := first | assumption | omega | (simp only [List.length_append, List.length_cons, List.length_nil, List.length_map, List.length_reverse, List.length_replicate, List.length_range, List.length_take, List.length_drop, enD_length, rangeD_length]; omega) | (simp; done) | fail) [decide_eq_true, decide_eq_false, kAsg, kNx, c0, c1, hm, hn, hcut, hSD, hloop, hend, hw, hr, hdu]
  | some t =>
    obtain ⟨o1, o2, o3⟩ := ho t rfl
    simp only [optT] at *
    have hnon : t.toD.isNon = false := by cases t <;> rfl
    have hde : (F (k + 199))._law_deep [.val t.toD] = .ok (.val (.int (t.depth : Nat))) [.val t.toD] := deep_k (k + 199) t (by omega)
    by_cases q2 : 200 < (text.length : Int)
    · generalize t.toD = TD at *
      simp (disch := first | assumption | omega | (simp only [List.length_append, List.length_cons, List.length_nil, List.length_map, List.length_reverse, List.length_replicate, List.length_range, List.length_take, List.length_drop, enD_length, rangeD_length]; omega) | (simp; done) | fail) [decide_eq_true, decide_eq_false, kAsg, kNx, c0, c1, hm, hn, hcut, hSD, hloop, hend, hw, hr, hdu, hnon, q2]
    by_cases q4 : 40 < (t.depth : Int)
    · generalize t.toD = TD at *
      simp (disch := first | assumption | omega | (simp only [List.length_append, List.length_cons, List.length_nil, List.length_map, List.length_reverse, List.length_replicate, List.length_range, List.length_take, List.length_drop, enD_length, rangeD_length]; omega) | (simp; done) | fail) [decide_eq_true, decide_eq_false, kAsg, kNx, c0, c1, hm, hn, hcut, hSD, hloop, hend, hw, hr, hdu, hnon, q2, hde, q4]
    have hsz := o3 (by omega)
    have hsl : t.shown.length ≤ 10000 := by
      have h3 := T.shown_len 8 t (okWs_nmLe o1)
      have h4 : t.size * (8 + 8) ≤ 200 * 16 := Nat.mul_le_mul (by omega) (by decide)
      omega
    have hsh : (F (k + 199)).shown [.val t.toD] = .ok (.val (.str t.shown)) [.val t.toD] := shown_k (k + 197) t (by omega) (by omega)
    by_cases q5 : 200 < (t.shown.length : Int)
    · generalize t.toD = TD at *
      generalize t.shown = SH at *
      simp (disch := first | assumption | omega | (simp only [List.length_append, List.length_cons, List.length_nil, List.length_map, List.length_reverse, List.length_replicate, List.length_range, List.length_take, List.length_drop, enD_length, rangeD_length]; omega) | (simp; done) | fail) [decide_eq_true, decide_eq_false, kAsg, kNx, c0, c1, hm, hn, hcut, hSD, hloop, hend, hw, hr, hdu, hnon, q2, hde, q4, hsh, q5]
    have hrd : (F (k + 199)).read [.val (.str t.shown)] = rdOut [.val (.str t.shown)] (readF t.shown) := read_K (k + 196) t.shown (by omega)
    obtain ⟨us, e1, e2⟩ := shown_E t o1
    have hrf := read_of e2 e1
    rw [if_neg (by omega), if_neg (by omega)] at hrf
    rw [hrf] at hrd
    have hrd : (F (k + 199)).read [.val (.str t.shown)] = .ok (.val t.toD) [.val (.str t.shown)] := hrd
    have hal : (F (k + 199))._law_alike [.val t.toD, .val t.toD] = .ok (.val (.bl true)) [.val t.toD, .val t.toD] := (alike_k (k + 198)).2 t (by omega)
    clear hrf e1 e2
    generalize t.toD = TD at *
    generalize t.shown = SH at *
    simp (disch := first | assumption | omega | (simp only [List.length_append, List.length_cons, List.length_nil, List.length_map, List.length_reverse, List.length_replicate, List.length_range, List.length_take, List.length_drop, enD_length, rangeD_length]; omega) | (simp; done) | fail) [decide_eq_true, decide_eq_false, kAsg, kNx, c0, c1, hm, hn, hcut, hSD, hloop, hend, hw, hr, hdu, hnon, q2, hde, q4, hsh, q5, hrd, hal]
theorem main (ns : List Int) (h : ns.length ≤ 63) : ∃ fin, (F 200).law [.val (.scr ns)] = .ok (.val (.bl true)) fin := main' 0 ns h
end Wk08
set_option Elab.async false
set_option linter.all false
open PySem PySem.W PyProof.Rows
set_option maxRecDepth 100000 in
set_option maxHeartbeats 0 in
theorem PySem.Challenge.cw_mindchange_k08_whole_texts_holds : PySem.Challenge.rw_mindchange_k08_whole_texts.Holds := by
  w_on; o_law; k_head; (case hw => w_witness2)
  k_fill
  refine Wk08.walk (l := PySem.Challenge.rw_mindchange_k08_whole_texts) rfl rfl Wk08.main (fun w h Y => PySem.W.kIn_of Y) ?F
  case F =>
    intro w mg fa h KX G hmg
    refine' Wk08.txt_mk KX G hmg ?a_words_of ?l_words_of ?c_words_of ?k_words_of ?a_leaf_of ?l_leaf_of ?c_leaf_of ?k_leaf_of ?a_goes_first ?l_goes_first ?c_goes_first ?k_goes_first ?a_fold ?l_fold ?c_fold ?k_fold ?a_begun ?l_begun ?c_begun ?k_begun ?a_gone_on ?l_gone_on ?c_gone_on ?k_gone_on ?a_read ?l_read ?c_read ?k_read ?a_strength ?l_strength ?c_strength ?k_strength ?a_within ?l_within ?c_within ?k_within ?a_sign_of ?l_sign_of ?c_sign_of ?k_sign_of ?a_shown ?l_shown ?c_shown ?k_shown ?a__law_cell_at ?l__law_cell_at ?c__law_cell_at ?k__law_cell_at ?a__law_names_by ?l__law_names_by ?c__law_names_by ?k__law_names_by ?a__law_alike ?l__law_alike ?c__law_alike ?k__law_alike ?a__law_class ?l__law_class ?c__law_class ?k__law_class ?a__law_told ?l__law_told ?c__law_told ?k__law_told ?a__law_words_by ?l__law_words_by ?c__law_words_by ?k__law_words_by ?a__law_marks ?l__law_marks ?c__law_marks ?k__law_marks ?a__law_chained ?l__law_chained ?c__law_chained ?k__law_chained ?a__law_parted ?l__law_parted ?c__law_parted ?k__law_parted ?a__law_read_by ?l__law_read_by ?c__law_read_by ?k__law_read_by ?a__law_deep ?l__law_deep ?c__law_deep ?k__law_deep ?a__law_due ?l__law_due ?c__law_due ?k__law_due ?a__law_wanted ?l__law_wanted ?c__law_wanted ?k__law_wanted ?a__law_word ?l__law_word ?c__law_word ?k__law_word ?a_law ?l_law ?c_law ?k_law ?z_ValueError ?z_all ?z_enumerate ?z_int ?z_isinstance ?z_len ?z_max ?z_range ?z_reversed ?z_str ?z_sum ?z_tuple ?z_zip ?c_DEEPEST ?c_LETTERS ?c_LONGEST ?c_SIGNS ?a_MindError ?n_MindError ?a_NoSentence ?n_NoSentence ?a_TooDeep ?n_TooDeep ?a_NoName ?n_NoName ?a_Always ?n_Always ?a_Never ?n_Never ?a_NoMinds ?n_NoMinds ?a_Unlike ?n_Unlike ?a_NoBack ?n_NoBack ?a_NoAgain ?n_NoAgain ?a_Refused ?n_Refused ?xk_NoSentence ?xq_NoSentence ?xb_NoSentence ?xt_NoSentence ?xk_TooDeep ?xq_TooDeep ?xb_TooDeep ?xt_TooDeep ?hxs
    (case a_words_of => k_is)
    (case l_words_of => k_is)
    (case c_words_of => k_is)
    (case k_words_of => k_is)
    (case a_leaf_of => k_is)
    (case l_leaf_of => k_is)
    (case c_leaf_of => k_is)
    (case k_leaf_of => k_is)
    (case a_goes_first => k_is)
    (case l_goes_first => k_is)
    (case c_goes_first => k_is)
    (case k_goes_first => k_is)
    (case a_fold => k_is)
    (case l_fold => k_is)
    (case c_fold => k_is)
    (case k_fold => k_is)
    (case a_begun => k_is)
    (case l_begun => k_is)
    (case c_begun => k_is)
    (case k_begun => k_is)
    (case a_gone_on => k_is)
    (case l_gone_on => k_is)
    (case c_gone_on => k_is)
    (case k_gone_on => k_is)
    (case a_read => k_is)
    (case l_read => k_is)
    (case c_read => k_is)
    (case k_read => k_is)
    (case a_strength => k_is)
    (case l_strength => k_is)
    (case c_strength => k_is)
    (case k_strength => k_is)
    (case a_within => k_is)
    (case l_within => k_is)
    (case c_within => k_is)
    (case k_within => k_is)
    (case a_sign_of => k_is)
    (case l_sign_of => k_is)
    (case c_sign_of => k_is)
    (case k_sign_of => k_is)
    (case a_shown => k_is)
    (case l_shown => k_is)
    (case c_shown => k_is)
    (case k_shown => k_is)
    (case a__law_cell_at => k_is)
    (case l__law_cell_at => k_is)
    (case c__law_cell_at => k_is)
    (case k__law_cell_at => k_is)
    (case a__law_names_by => k_is)
    (case l__law_names_by => k_is)
    (case c__law_names_by => k_is)
    (case k__law_names_by => k_is)
    (case a__law_alike => k_is)
    (case l__law_alike => k_is)
    (case c__law_alike => k_is)
    (case k__law_alike => k_is)
    (case a__law_class => k_is)
    (case l__law_class => k_is)
    (case c__law_class => k_is)
    (case k__law_class => k_is)
    (case a__law_told => k_is)
    (case l__law_told => k_is)
    (case c__law_told => k_is)
    (case k__law_told => k_is)
    (case a__law_words_by => k_is)
    (case l__law_words_by => k_is)
    (case c__law_words_by => k_is)
    (case k__law_words_by => k_is)
    (case a__law_marks => k_is)
    (case l__law_marks => k_is)
    (case c__law_marks => k_is)
    (case k__law_marks => k_is)
    (case a__law_chained => k_is)
    (case l__law_chained => k_is)
    (case c__law_chained => k_is)
    (case k__law_chained => k_is)
    (case a__law_parted => k_is)
    (case l__law_parted => k_is)
    (case c__law_parted => k_is)
    (case k__law_parted => k_is)
    (case a__law_read_by => k_is)
    (case l__law_read_by => k_is)
    (case c__law_read_by => k_is)
    (case k__law_read_by => k_is)
    (case a__law_deep => k_is)
    (case l__law_deep => k_is)
    (case c__law_deep => k_is)
    (case k__law_deep => k_is)
    (case a__law_due => k_is)
    (case l__law_due => k_is)
    (case c__law_due => k_is)
    (case k__law_due => k_is)
    (case a__law_wanted => k_is)
    (case l__law_wanted => k_is)
    (case c__law_wanted => k_is)
    (case k__law_wanted => k_is)
    (case a__law_word => k_is)
    (case l__law_word => k_is)
    (case c__law_word => k_is)
    (case k__law_word => k_is)
    (case a_law => k_is)
    (case l_law => k_is)
    (case c_law => k_is)
    (case k_law => k_is)
    (case z_ValueError => k_is)
    (case z_all => k_is)
    (case z_enumerate => k_is)
    (case z_int => k_is)
    (case z_isinstance => k_is)
    (case z_len => k_is)
    (case z_max => k_is)
    (case z_range => k_is)
    (case z_reversed => k_is)
    (case z_str => k_is)
    (case z_sum => k_is)
    (case z_tuple => k_is)
    (case z_zip => k_is)
    (case c_DEEPEST => k_is)
    (case c_LETTERS => k_is)
    (case c_LONGEST => k_is)
    (case c_SIGNS => k_is)
    (case a_MindError => k_is)
    (case n_MindError => rfl)
    (case a_NoSentence => k_is)
    (case n_NoSentence => rfl)
    (case a_TooDeep => k_is)
    (case n_TooDeep => rfl)
    (case a_NoName => k_is)
    (case n_NoName => rfl)
    (case a_Always => k_is)
    (case n_Always => rfl)
    (case a_Never => k_is)
    (case n_Never => rfl)
    (case a_NoMinds => k_is)
    (case n_NoMinds => rfl)
    (case a_Unlike => k_is)
    (case n_Unlike => rfl)
    (case a_NoBack => k_is)
    (case n_NoBack => rfl)
    (case a_NoAgain => k_is)
    (case n_NoAgain => rfl)
    (case a_Refused => k_is)
    (case n_Refused => rfl)
    (case xk_NoSentence => k_is)
    (case xq_NoSentence => k_exc)
    (case xb_NoSentence => k_is)
    (case xt_NoSentence => k_is)
    (case xk_TooDeep => k_is)
    (case xq_TooDeep => k_exc)
    (case xb_TooDeep => k_is)
    (case xt_TooDeep => k_is)
    (case hxs => kernel_rfl)
