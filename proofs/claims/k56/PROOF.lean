import PyProof.Rows.All
import Wide.All
import OpenK.AllK
import Wide.FinOn
import HandS.ForMost
import HandS.ForExc
import HandS.TupAny
import HandS.IsInst
import HandS.Wide
import HandS.WideBits
import HandS.Rev
import HandS.Zip
import HandS.SortInts
import HandS.Text
import KE.GoesMore
import KE.DataMinMax
import HandS.Small
import HandS.More
import HandS.Style
import HandS.SortKw
import HandS.Strs
import HandS.ExcIs
import HandS.ExcOwn
import HandS.Deep
import PyProof.Rows.SeqMore
import HandS.SetFor
import HandS.DictComp
import HandS.SetKeys
import HandS.Conv
import HandS.Replace
import HandS.Iter
import HandS.StrMore
import HandS.ReplaceLit
import PyProof.EqKinds
import PyProof.EnumMake
import HandS.TryMany
import PyProof.P3Eq
import KE.BitLaws
import KE.OsArith
import PySem.Challenge.RW_mindchange_k56_lists_held
set_option Elab.async false
set_option linter.all false
set_option maxRecDepth 100000
namespace PL
set_option autoImplicit false
open PySem PySem.Spec PyProof.Rows L2
abbrev Kc := Sum Int (List Nat)
/-- data by value -/
inductive D where
  | non | bl (b : Bool) | int (i : Int) | str (s : List Nat) | tup (xs : List D) | lst (xs : List D) | scr (ns : List Int) | dic (kvs : List (Kc × D)) | cls (c : Nat) | exn (c : Nat)
/-- an exception: the number of its class, its fields -/
structure Exn where
  c : Nat
  fs : List D
inductive R (α : Type) where
  | ok (a : α) | exc (x : Exn) | stuck
def R.bind {α β : Type} (r : R α) (k : α → R β) : R β := match r with
  | .ok a => k a
  | .exc x => .exc x
  | .stuck => .stuck
/-- a cell with parts: a list, a tuple, an object of the class Log -/
inductive Nk where
  | lst | tup | obj (ns : List Str)
/-- what is owned with its parts -/
inductive OT where
  | frz (d : D) | lst (ds : List D) | node (k : Nk) (xs : List OT)
/-- a slot: not given, frozen data, a list or dict of its own, a thing with parts of its own -/
inductive Sl where
  | emp | val (d : D) | own (d : D) | big (o : OT)
abbrev Ev (α : Type) := List Sl → R α
def kcK : Key → Kc
  | .inl i => .inl i
  | .inr x => .inr x.cps.toList
/-- a tuple whose own dict is known -/
def Kn (K : PySem.W.Frag) (Φ : Hp) (a : Addr) : Prop := (∃ o xs, Φ a = some (.frz o (.tup xs)) ∧ o.cls = .type "tuple" ∧ o.dict = none) ∨ ∃ o, K.lookup a = some o ∧ o.cls = .type "tuple" ∧ o.dict = none
theorem Kn.mono {K : PySem.W.Frag} {H H' : Hp} {a : Addr} (e : Same H H') (h : Kn K H a) : Kn K H' a := by
  rcases h with ⟨o, xs, h, q⟩ | h
  · exact .inl ⟨o, xs, e _ _ h, q⟩
  · exact .inr h
/-- a row of texts -/
def D.isS : D → Bool
  | .str _ => true
  | _ => false
def stk : List D → Bool
  | [] => false
  | d :: ds => d.isS && ds.all D.isS
/-- the program's own exception classes, by number -/
def nmX : Nat → Str
  | 0 => "MindError" | 1 => "NoSentence" | 2 => "TooDeep" | 3 => "NoName" | 4 => "Always" | 5 => "Never"
  | 6 => "NoMinds" | 7 => "Unlike" | 8 => "NoBack" | 9 => "NoAgain" | 10 => "Refused" | _ => ""
def clsOf (K : PySem.W.Frag) (c : Nat) : Addr := match PySem.W.nsIn K mainGlobals (nmX c) with
  | some (some (.ref a)) => a
  | _ => 0
/-- the object of an exception of class c, without fields -/
structure ExO (K : PySem.W.Frag) (c : Nat) (oe : Obj) : Prop where
  cls : oe.cls = .ref (clsOf K c)
  here : clsOf K c ≠ 0
  dict : oe.dict = none
  data : ∃ vs, oe.data = .fields vs
mutual
inductive RepD (K : PySem.W.Frag) (Φ : Hp) : D → V → Prop
  | non : RepD K Φ .non .non
  | bl (b : Bool) : RepD K Φ (.bl b) (.bl b)
  | int (i : Int) : RepD K Φ (.int i) (.int i)
  | str (x : Str) (s : List Nat) : x.cps.toList = s → RepD K Φ (.str s) (.str x)
  | tup {a : Addr} {vs : List V} {ds : List D} : SqT K Φ a vs → RepDs K Φ ds vs → (stk ds = true → Kn K Φ a) → RepD K Φ (.tup ds) (.ref a)
  | lst {a : Addr} {vs : List V} {ds : List D} : Φ a = some (.lst vs) → RepDs K Φ ds vs → RepD K Φ (.lst ds) (.ref a)
  | scr {a : Addr} {ns : List Int} : SqL K Φ a (ns.map V.int) → RepD K Φ (.scr ns) (.ref a)
  | dic {a : Addr} {kvs : List (Key × V)} {es : List (Kc × D)} : Φ a = some (.dK kvs) → RepKs K Φ es kvs → RepD K Φ (.dic es) (.ref a)
  | exn {a : Addr} {oe : Obj} (c : Nat) : Φ a = some (.frz oe (.ext fun _ => True)) → ExO K c oe → RepD K Φ (.exn c) (.ref a)
inductive RepDs (K : PySem.W.Frag) (Φ : Hp) : List D → List V → Prop
  | nil : RepDs K Φ [] []
  | cons {d : D} {v : V} {ds : List D} {vs : List V} : RepD K Φ d v → RepDs K Φ ds vs → RepDs K Φ (d :: ds) (v :: vs)
inductive RepKs (K : PySem.W.Frag) (Φ : Hp) : List (Kc × D) → List (Key × V) → Prop
  | nil : RepKs K Φ [] []
  | cons {k : Key} {d : D} {v : V} {ds : List (Kc × D)} {vs : List (Key × V)} : RepD K Φ d v → RepKs K Φ ds vs → RepKs K Φ ((kcK k, d) :: ds) ((k, v) :: vs)
end
theorem sqT_mono {K : PySem.W.Frag} {H H' : Hp} {a : Addr} {xs : List V} (e : Same H H') (h : SqT K H a xs) : SqT K H' a xs := by
  rcases h with (h | ⟨o, h⟩) | h
  · exact .inl (.inl (e _ _ h))
  · exact .inl (.inr ⟨o, e _ _ h⟩)
  · exact .inr h
section
variable {K : PySem.W.Frag} {Φ Φ' H H' : Hp}
mutual
theorem RepD.mono (m : Same Φ Φ') : ∀ {d : D} {v : V}, RepD K Φ d v → RepD K Φ' d v
  | _, _, .non => .non
  | _, _, .bl b => .bl b
  | _, _, .int i => .int i
  | _, _, .str x s e => .str x s e
  | _, _, .tup h r k => .tup (sqT_mono m h) (RepDs.mono m r) fun z => (k z).mono m
  | _, _, .lst h r => .lst (m _ _ h) (RepDs.mono m r)
  | _, _, .scr h => .scr (m.seq h)
  | _, _, .dic h r => .dic (m _ _ h) (RepKs.mono m r)
  | _, _, .exn c h r => .exn c (m _ _ h) r
theorem RepDs.mono (m : Same Φ Φ') : ∀ {d : List D} {v : List V}, RepDs K Φ d v → RepDs K Φ' d v
  | _, _, .nil => .nil
  | _, _, .cons h r => .cons (RepD.mono m h) (RepDs.mono m r)
theorem RepKs.mono (m : Same Φ Φ') : ∀ {d : List (Kc × D)} {v : List (Key × V)}, RepKs K Φ d v → RepKs K Φ' d v
  | _, _, .nil => .nil
  | _, _, .cons h r => .cons (RepD.mono m h) (RepKs.mono m r)
end
theorem RepDs.length : ∀ {ds : List D} {vs : List V}, RepDs K Φ ds vs → ds.length = vs.length
  | _, _, .nil => rfl
  | _, _, .cons _ r => by rw [List.length_cons, List.length_cons, RepDs.length r]
theorem RepDs.get : ∀ {ds : List D} {vs : List V} {i : Nat} {d : D}, RepDs K Φ ds vs → ds[i]? = some d → ∃ v, vs[i]? = some v ∧ RepD K Φ d v
  | _, _, _, _, .nil, e => by simp at e
  | _, _, 0, _, .cons h r, e => by simp at e; subst e; exact ⟨_, rfl, h⟩
  | _, _, i + 1, _, .cons h r, e => by
    obtain ⟨v, h1, h2⟩ := RepDs.get (i := i) r (by simpa using e)
    exact ⟨v, by simpa using h1, h2⟩
theorem RepDs.append : ∀ {ds : List D} {vs : List V} {es : List D} {us : List V}, RepDs K Φ ds vs → RepDs K Φ es us → RepDs K Φ (ds ++ es) (vs ++ us)
  | _, _, _, _, .nil, s => s
  | _, _, _, _, .cons h r, s => .cons h (RepDs.append r s)
theorem RepDs.take : ∀ {ds : List D} {vs : List V} (n : Nat), RepDs K Φ ds vs → RepDs K Φ (ds.take n) (vs.take n)
  | _, _, 0, _ => by simp; exact .nil
  | _, _, n + 1, .nil => by simp; exact .nil
  | _, _, n + 1, .cons h r => by simpa using .cons h (RepDs.take n r)
theorem RepDs.drop : ∀ {ds : List D} {vs : List V} (n : Nat), RepDs K Φ ds vs → RepDs K Φ (ds.drop n) (vs.drop n)
  | _, _, 0, h => h
  | _, _, n + 1, .nil => by simp; exact .nil
  | _, _, n + 1, .cons h r => by simpa using RepDs.drop n r
theorem RepDs.set {d : D} {v : V} (h : RepD K Φ d v) : ∀ {ds : List D} {vs : List V} (n : Nat), RepDs K Φ ds vs → RepDs K Φ (ds.set n d) (vs.set n v)
  | _, _, _, .nil => .nil
  | _, _, 0, .cons _ r => .cons h r
  | _, _, n + 1, .cons g r => .cons g (RepDs.set h n r)
theorem RepDs.dropLast : ∀ {ds : List D} {vs : List V}, RepDs K Φ ds vs → RepDs K Φ ds.dropLast vs.dropLast
  | _, _, .nil => .nil
  | _, _, .cons h .nil => .nil
  | _, _, .cons h (.cons g r) => .cons h (RepDs.dropLast (.cons g r))
theorem RepDs.reverse {ds : List D} {vs : List V} (h : RepDs K Φ ds vs) : RepDs K Φ ds.reverse vs.reverse := by
  induction h using RepDs.rec (motive_1 := fun _ _ _ => True) (motive_3 := fun _ _ _ => True) with
  | nil => exact .nil
  | cons a b _ ih => simp only [List.reverse_cons]; exact ih.append (.cons a .nil)
  | _ => trivial
theorem RepDs.ints : ∀ (ns : List Int), RepDs K Φ (ns.map D.int) (ns.map V.int)
  | [] => .nil
  | n :: ns => .cons (.int n) (RepDs.ints ns)
theorem RepDs.ints_inv : ∀ {ns : List Int} {vs : List V}, RepDs K Φ (ns.map D.int) vs → vs = ns.map V.int
  | [], _, .nil => rfl
  | n :: ns, _, .cons (.int _) r => by rw [RepDs.ints_inv r]; rfl
/-- what is to be read at v: frozen data, or a list or dict that a slot owns -/
inductive RepOwn (K : PySem.W.Frag) (Φ H : Hp) : D → Addr → Prop
  | lst {a : Addr} {vs : List V} {ds : List D} : H a = some (.lst vs) → RepDs K Φ ds vs → RepOwn K Φ H (.lst ds) a
  | dic {a : Addr} {kvs : List (Key × V)} {es : List (Kc × D)} : H a = some (.dK kvs) → RepKs K Φ es kvs → RepOwn K Φ H (.dic es) a
theorem RepOwn.mono {d : D} {a : Addr} (m : Same Φ Φ') (n : Same H H') (h : RepOwn K Φ H d a) : RepOwn K Φ' H' d a := by
  cases h with
  | lst h r => exact .lst (n _ _ h) (r.mono m)
  | dic h r => exact .dic (n _ _ h) (r.mono m)
theorem RepOwn.at {d : D} {a : Addr} (m : Same Φ Φ') (n : ∀ o, H a = some o → H' a = some o) (h : RepOwn K Φ H d a) : RepOwn K Φ' H' d a := by
  cases h with
  | lst h r => exact .lst (n _ h) (r.mono m)
  | dic h r => exact .dic (n _ h) (r.mono m)
theorem RepOwn.there {d : D} {a : Addr} (h : RepOwn K Φ H d a) : ∃ o, H a = some o := by
  cases h with
  | lst h r => exact ⟨_, h⟩
  | dic h r => exact ⟨_, h⟩
/-- reading: frozen or owned -/
def RepV (K : PySem.W.Frag) (Φ H : Hp) (d : D) (v : V) : Prop := RepD K Φ d v ∨ ∃ a, v = .ref a ∧ RepOwn K Φ H d a
theorem RepD.toV {d : D} {v : V} (h : RepD K Φ d v) : RepV K Φ H d v := .inl h
def logC (K : PySem.W.Frag) : Addr := match PySem.W.nsIn K mainGlobals "Log" with
  | some (some (.ref a)) => a
  | _ => 0
def kidsO : HO → List V
  | .lst vs => vs
  | .tup vs => vs
  | .frz _ (.tup vs) => vs
  | .ins _ _ fs => fs.map (·.2)
  | _ => []
def kids (H : Hp) (a : Addr) : List V := match H a with
  | some ho => kidsO ho
  | none => []
theorem kids_at {H : Hp} {a : Addr} {ho : HO} (h : H a = some ho) : kids H a = kidsO ho := by unfold kids; rw [h]
def NodeAt (K : PySem.W.Frag) : Nk → HO → Prop
  | .lst, ho => ∃ vs, ho = .lst vs
  | .tup, ho => (∃ vs, ho = .tup vs) ∨ ∃ o vs, ho = .frz o (.tup vs)
  | .obj ns, ho => ∃ dx fs, ho = .ins (logC K) dx fs ∧ fs.map (·.1) = ns
mutual
inductive RepO (K : PySem.W.Frag) (Φ H : Hp) : OT → V → Prop
  | frz {d : D} {v : V} : RepD K Φ d v → RepO K Φ H (.frz d) v
  | lst {a : Addr} {vs : List V} {ds : List D} : H a = some (.lst vs) → RepDs K Φ ds vs → RepO K Φ H (.lst ds) (.ref a)
  | node {a : Addr} {ho : HO} {k : Nk} {xs : List OT} : H a = some ho → NodeAt K k ho → RepOs K Φ H xs (kidsO ho) → RepO K Φ H (.node k xs) (.ref a)
inductive RepOs (K : PySem.W.Frag) (Φ H : Hp) : List OT → List V → Prop
  | nil : RepOs K Φ H [] []
  | cons {x : OT} {v : V} {xs : List OT} {vs : List V} : RepO K Φ H x v → RepOs K Φ H xs vs → RepOs K Φ H (x :: xs) (v :: vs)
end
mutual
def fpO (H : Hp) : OT → V → List Addr
  | .frz _, _ => []
  | .lst _, v => (match v with
    | .ref a => [a]
    | _ => [])
  | .node _ xs, v => (match v with
    | .ref a => a :: fpOs H xs (kids H a)
    | _ => [])
def fpOs (H : Hp) : List OT → List V → List Addr
  | [], _ => []
  | x :: xs, vs => (match vs with
    | [] => []
    | v :: vs => fpO H x v ++ fpOs H xs vs)
end
theorem fpO_frz (H : Hp) (d : D) (v : V) : fpO H (.frz d) v = [] := by simp only [fpO]
theorem fpO_lst (H : Hp) (ds : List D) (a : Addr) : fpO H (.lst ds) (.ref a) = [a] := by simp only [fpO]
theorem fpO_node (H : Hp) (k : Nk) (xs : List OT) (a : Addr) : fpO H (.node k xs) (.ref a) = a :: fpOs H xs (kids H a) := by simp only [fpO]
theorem fpOs_nil (H : Hp) (vs : List V) : fpOs H [] vs = [] := by simp only [fpOs]
theorem fpOs_cons (H : Hp) (x : OT) (xs : List OT) (v : V) (vs : List V) : fpOs H (x :: xs) (v :: vs) = fpO H x v ++ fpOs H xs vs := by simp only [fpOs]
mutual
theorem RepO.there : ∀ {o : OT} {v : V}, RepO K Φ H o v → ∀ b ∈ fpO H o v, ∃ ho, H b = some ho
  | _, v, .frz (d := d) h, b, hb => by rw [fpO_frz] at hb; cases hb
  | _, _, .lst (a := a) h r, b, hb => by rw [fpO_lst] at hb; rw [List.mem_singleton.mp hb]; exact ⟨_, h⟩
  | _, _, .node (a := a) h k r, b, hb => by
    rw [fpO_node, kids_at h] at hb
    rcases List.mem_cons.mp hb with rfl | hb
    · exact ⟨_, h⟩
    · exact RepOs.there r b hb
theorem RepOs.there : ∀ {o : List OT} {v : List V}, RepOs K Φ H o v → ∀ b ∈ fpOs H o v, ∃ ho, H b = some ho
  | _, _, .nil, b, hb => by rw [fpOs_nil] at hb; cases hb
  | _, _, .cons h r, b, hb => by
    rw [fpOs_cons] at hb
    rcases List.mem_append.mp hb with hb | hb
    · exact RepO.there h b hb
    · exact RepOs.there r b hb
end
mutual
theorem RepO.at (m : Same Φ Φ') : ∀ {o : OT} {v : V}, RepO K Φ H o v → (∀ b ∈ fpO H o v, ∀ ho, H b = some ho → H' b = some ho) → RepO K Φ' H' o v ∧ fpO H' o v = fpO H o v
  | _, v, .frz (d := d) h, _ => ⟨.frz (h.mono m), by rw [fpO_frz, fpO_frz]⟩
  | _, _, .lst (a := a) h r, n => ⟨.lst (n a (by rw [fpO_lst]; exact List.mem_singleton.mpr rfl) _ h) (r.mono m), by rw [fpO_lst, fpO_lst]⟩
  | _, _, .node (a := a) h k r, n => by
    rw [fpO_node, kids_at h] at n
    have ha := n a List.mem_cons_self _ h
    obtain ⟨w1, w2⟩ := RepOs.at m r fun b hb => n b (List.mem_cons_of_mem _ hb)
    exact ⟨.node ha k w1, by rw [fpO_node, fpO_node, kids_at h, kids_at ha, w2]⟩
theorem RepOs.at (m : Same Φ Φ') : ∀ {o : List OT} {v : List V}, RepOs K Φ H o v → (∀ b ∈ fpOs H o v, ∀ ho, H b = some ho → H' b = some ho) → RepOs K Φ' H' o v ∧ fpOs H' o v = fpOs H o v
  | _, _, .nil, _ => ⟨.nil, by rw [fpOs_nil, fpOs_nil]⟩
  | _, _, .cons h r, n => by
    rw [fpOs_cons] at n
    obtain ⟨w1, w2⟩ := RepO.at m h fun b hb => n b (List.mem_append_left _ hb)
    obtain ⟨w3, w4⟩ := RepOs.at m r fun b hb => n b (List.mem_append_right _ hb)
    exact ⟨.cons w1 w3, by rw [fpOs_cons, fpOs_cons, w2, w4]⟩
end
/-- the addresses that a slot owns -/
def fpS (H : Hp) : Sl → V → List Addr
  | .own _, .ref a => [a]
  | .big o, v => fpO H o v
  | _, _ => []
def OwnAt (H : Hp) (σ : L2.St) (ρ : List Sl) (i : Nat) (a : Addr) : Prop := ∃ s v, ρ[i]? = some s ∧ σ[i]? = some (some v) ∧ a ∈ fpS H s v
structure Rel (K : PySem.W.Frag) (Φ H : Hp) (σ : L2.St) (ρ : List Sl) : Prop where
  sub : Same Φ H
  len : σ.length = ρ.length
  val : ∀ (i : Nat) (d : D), ρ[i]? = some (.val d) → ∃ v : V, σ[i]? = some (some v) ∧ RepD K Φ d v
  own : ∀ (i : Nat) (d : D), ρ[i]? = some (.own d) → ∃ a : Addr, σ[i]? = some (some (V.ref a)) ∧ RepOwn K Φ H d a ∧ Φ a = none
  big : ∀ (i : Nat) (o : OT), ρ[i]? = some (.big o) → ∃ v : V, σ[i]? = some (some v) ∧ RepO K Φ H o v ∧ (∀ b ∈ fpO H o v, Φ b = none) ∧ (fpO H o v).Nodup
  sep : ∀ (i j : Nat) (a : Addr), OwnAt H σ ρ i a → OwnAt H σ ρ j a → i = j
theorem ownAt_own {σ : L2.St} {ρ : List Sl} {i : Nat} {a : Addr} {d : D} (h1 : σ[i]? = some (some (.ref a))) (h2 : ρ[i]? = some (.own d)) : OwnAt H σ ρ i a := ⟨_, _, h2, h1, List.mem_singleton.mpr rfl⟩
/-- what a slot says -/
def SlOk (K : PySem.W.Frag) (Φ H : Hp) (s : Sl) (x : Option V) : Prop := match s with
  | .emp => True
  | .val d => ∃ v, x = some v ∧ RepD K Φ d v
  | .own d => ∃ a, x = some (V.ref a) ∧ RepOwn K Φ H d a ∧ Φ a = none
  | .big o => ∃ v, x = some v ∧ RepO K Φ H o v ∧ (∀ b ∈ fpO H o v, Φ b = none) ∧ (fpO H o v).Nodup
theorem Rel.slot {σ : L2.St} {ρ : List Sl} (r : Rel K Φ H σ ρ) {i : Nat} {s : Sl} {x : Option V} (h1 : ρ[i]? = some s) (h2 : σ[i]? = some x) : SlOk K Φ H s x := by
  cases s with
  | emp => trivial
  | val d => obtain ⟨v, e, h⟩ := r.val i d h1; rw [h2] at e; cases e; exact ⟨v, rfl, h⟩
  | own d => obtain ⟨v, e, h⟩ := r.own i d h1; rw [h2] at e; cases e; exact ⟨v, rfl, h⟩
  | big o => obtain ⟨v, e, h⟩ := r.big i o h1; rw [h2] at e; cases e; exact ⟨v, rfl, h⟩
theorem Rel.of {σ : L2.St} {ρ : List Sl} (s : Same Φ H) (hl : σ.length = ρ.length) (ok : ∀ (i : Nat) (s : Sl) (x : Option V), ρ[i]? = some s → σ[i]? = some x → SlOk K Φ H s x) (sep : ∀ (i j : Nat) (a : Addr), OwnAt H σ ρ i a → OwnAt H σ ρ j a → i = j) : Rel K Φ H σ ρ := by
  have sg : ∀ (i : Nat) (s : Sl), ρ[i]? = some s → ∃ x, σ[i]? = some x := fun i s e => ⟨σ[i]'(by rw [hl]; exact (List.getElem?_eq_some_iff.mp e).1), List.getElem?_eq_getElem _⟩
  refine ⟨s, hl, fun i d e => ?_, fun i d e => ?_, fun i d e => ?_, sep⟩
  all_goals
    obtain ⟨x, hx⟩ := sg i _ e
    obtain ⟨v, e2, h⟩ := ok i _ x e hx
    subst e2
    exact ⟨v, hx, h⟩
theorem SlOk.there {s : Sl} {v : V} (h : SlOk K Φ H s (some v)) {b : Addr} (hb : b ∈ fpS H s v) : (∃ o, H b = some o) ∧ Φ b = none := by
  cases s with
  | emp => cases hb
  | val d => cases hb
  | own d =>
    obtain ⟨a, e, h1, h2⟩ := h
    cases e
    rw [List.mem_singleton.mp hb]
    exact ⟨h1.there, h2⟩
  | big o =>
    obtain ⟨a, e, h1, h2, _⟩ := h
    cases e
    exact ⟨h1.there b hb, h2 b hb⟩
theorem SlOk.move {s : Sl} {x : Option V} (h : SlOk K Φ H s x) (m : Same Φ Φ') (n : ∀ v b, x = some v → b ∈ fpS H s v → (∀ o, H b = some o → H' b = some o) ∧ Φ' b = none) : SlOk K Φ' H' s x ∧ ∀ v, x = some v → fpS H' s v = fpS H s v := by
  cases s with
  | emp => exact ⟨trivial, fun v e => rfl⟩
  | val d =>
    obtain ⟨v, e, h1⟩ := h
    exact ⟨⟨v, e, h1.mono m⟩, fun v e => rfl⟩
  | own d =>
    obtain ⟨a, e, h1, h2⟩ := h
    subst e
    obtain ⟨n1, n2⟩ := n _ a rfl (List.mem_singleton.mpr rfl)
    exact ⟨⟨a, rfl, h1.at m n1, n2⟩, fun v e => by cases e; rfl⟩
  | big o =>
    obtain ⟨v, e, h1, h2, h3⟩ := h
    subst e
    obtain ⟨w1, w2⟩ := h1.at (H' := H') m fun b hb => (n _ b rfl hb).1
    exact ⟨⟨v, rfl, w1, fun b hb => (n _ b rfl (show b ∈ fpO H o v by rw [← w2]; exact hb)).2, by rw [w2]; exact h3⟩, fun u e => by cases e; exact w2⟩
theorem Rel.there {σ : L2.St} {ρ : List Sl} (r : Rel K Φ H σ ρ) {i : Nat} {b : Addr} (h : OwnAt H σ ρ i b) : (∃ o, H b = some o) ∧ Φ b = none := by
  obtain ⟨s, v, h1, h2, h3⟩ := h
  exact (r.slot h1 h2).there h3
def Own (H : Hp) (σ : L2.St) (ρ : List Sl) : Addr → Prop := fun a => ∃ i, OwnAt H σ ρ i a
/-- THE MASTER LEMMA: a frame made of an old one's slots (src) and of new slots, whose addresses are in N -/
theorem Rel.remap {σ σ2 : L2.St} {ρ ρ2 : List Sl} (r : Rel K Φ H σ ρ) (m : Same Φ Φ') (sub : Same Φ' H') (hl : σ2.length = ρ2.length) (src : Nat → Option Nat) (N : Addr → Prop)
    (inj : ∀ i j k, src i = some k → src j = some k → i = j)
    (keep : ∀ (j k : Nat) (s : Sl) (x : Option V), src j = some k → ρ2[j]? = some s → s ≠ .emp → σ2[j]? = some x → ρ[k]? = some s ∧ σ[k]? = some x ∧ ∀ b, OwnAt H σ ρ k b → (∀ o, H b = some o → H' b = some o) ∧ Φ' b = none ∧ ¬ N b)
    (fresh : ∀ (j : Nat) (s : Sl) (x : Option V), src j = none → ρ2[j]? = some s → σ2[j]? = some x → SlOk K Φ' H' s x ∧ ∀ v b, x = some v → b ∈ fpS H' s v → N b)
    (one : ∀ i j b, src i = none → src j = none → OwnAt H' σ2 ρ2 i b → OwnAt H' σ2 ρ2 j b → i = j) :
    Rel K Φ' H' σ2 ρ2 ∧ (∀ b, Own H' σ2 ρ2 b → N b ∨ Own H σ ρ b) ∧ ∀ j k b, src j = some k → OwnAt H' σ2 ρ2 j b → OwnAt H σ ρ k b := by
  have kp : ∀ (j k : Nat) (s : Sl) (x : Option V), src j = some k → ρ2[j]? = some s → s ≠ .emp → σ2[j]? = some x → SlOk K Φ' H' s x ∧ (∀ v, x = some v → fpS H' s v = fpS H s v) ∧ ρ[k]? = some s ∧ σ[k]? = some x := fun j k s x e h1 hs h2 => by
    obtain ⟨w1, w2, w3⟩ := keep j k s x e h1 hs h2
    obtain ⟨z1, z2⟩ := (r.slot w1 w2).move (Φ' := Φ') (H' := H') m fun v b ev hb => by
      subst ev
      obtain ⟨y1, y2, _⟩ := w3 b ⟨s, v, w1, w2, hb⟩
      exact ⟨y1, y2⟩
    exact ⟨z1, z2, w1, w2⟩
  have back : ∀ j k b, src j = some k → OwnAt H' σ2 ρ2 j b → OwnAt H σ ρ k b := fun j k b e ⟨s, v, h1, h2, h3⟩ => by
    by_cases hs : s = .emp
    · subst hs; cases h3
    · obtain ⟨_, z2, z3, z4⟩ := kp j k s _ e h1 hs h2
      rw [z2 v rfl] at h3
      exact ⟨s, v, z3, z4, h3⟩
  have noN : ∀ j k b, src j = some k → OwnAt H' σ2 ρ2 j b → ¬ N b := fun j k b e ⟨s, v, h1, h2, h3⟩ => by
    by_cases hs : s = .emp
    · subst hs; cases h3
    · have w := back j k b e ⟨s, v, h1, h2, h3⟩
      exact ((keep j k s _ e h1 hs h2).2.2 b w).2.2
  have isN : ∀ j b, src j = none → OwnAt H' σ2 ρ2 j b → N b := fun j b e ⟨s, v, h1, h2, h3⟩ => (fresh j s _ e h1 h2).2 v b rfl h3
  refine ⟨.of sub hl (fun j s x h1 h2 => ?_) fun i j b h1 h2 => ?_, fun b ⟨j, h⟩ => ?_, back⟩
  · cases e : src j with
    | none => exact (fresh j s x e h1 h2).1
    | some k =>
      by_cases hs : s = .emp
      · subst hs; trivial
      · exact (kp j k s x e h1 hs h2).1
  · cases e1 : src i with
    | none =>
      cases e2 : src j with
      | none => exact one i j b e1 e2 h1 h2
      | some k => exact absurd (isN i b e1 h1) (noN j k b e2 h2)
    | some k =>
      cases e2 : src j with
      | none => exact absurd (isN j b e2 h2) (noN i k b e1 h1)
      | some l =>
        have := r.sep k l b (back i k b e1 h1) (back j l b e2 h2)
        subst this
        exact inj i j k e1 e2
  · cases e : src j with
    | none => exact .inl (isN j b e h)
    | some k => exact .inr ⟨k, back j k b e h⟩
/-- pure growth -/
structure Ext (Φ H Φ' H' : Hp) : Prop where
  mono : Same Φ Φ'
  heap : Same H H'
  sub : Same Φ' H'
  new : ∀ b o, Φ' b = some o → Φ b = some o ∨ H b = none
theorem Ext.refl (s : Same Φ H) : Ext Φ H Φ H := ⟨Same.refl _, Same.refl _, s, fun _ _ h => .inl h⟩
theorem Ext.trans {Φ1 H1 Φ2 H2 : Hp} (a : Ext Φ H Φ1 H1) (b : Ext Φ1 H1 Φ2 H2) : Ext Φ H Φ2 H2 :=
  ⟨a.mono.trans b.mono, a.heap.trans b.heap, b.sub, fun c o h => by
    rcases b.new c o h with h | h
    · exact a.new c o h
    · exact .inr (a.heap.free h)⟩
/-- a new object, frozen at once -/
theorem Ext.fresh {p : Addr} {o : HO} (s : Same Φ H) (hp : H p = none) : Ext Φ H (upd Φ p o) (upd H p o) := by
  have ne : ∀ b u, H b = some u → b ≠ p := fun b u e => ne_of_none e hp
  refine ⟨fun b u e => ?_, fun b u e => ?_, fun b u e => ?_, fun b u e => ?_⟩
  · rw [upd_ne (ne b u (s b u e))]; exact e
  · rw [upd_ne (ne b u e)]; exact e
  · by_cases h : b = p
    · subst h; rw [upd_same] at e ⊢; exact e
    · rw [upd_ne h] at e ⊢; exact s b u e
  · by_cases h : b = p
    · subst h; exact .inr hp
    · rw [upd_ne h] at e; exact .inl e
/-- a new object, left alone -/
theorem Ext.alloc {p : Addr} {o : HO} (s : Same Φ H) (hp : H p = none) : Ext Φ H Φ (upd H p o) := by
  have ne : ∀ b u, H b = some u → b ≠ p := fun b u e => ne_of_none e hp
  exact ⟨Same.refl _, fun b u e => by rw [upd_ne (ne b u e)]; exact e, fun b u e => by rw [upd_ne (ne b u (s b u e))]; exact s b u e, fun _ _ h => .inl h⟩
/-- pure growth keeps a frame, and what it owns -/
theorem Rel.extAll {σ : L2.St} {ρ : List Sl} (r : Rel K Φ H σ ρ) (x : Ext Φ H Φ' H') : Rel K Φ' H' σ ρ ∧ ∀ i b, OwnAt H' σ ρ i b → OwnAt H σ ρ i b := by
  have h := r.remap (σ2 := σ) (ρ2 := ρ) x.mono x.sub r.len some (fun _ => False) (fun i j k e1 e2 => by cases e1; cases e2; rfl) (fun j k s y e h1 _ h2 => by
    cases e
    refine ⟨h1, h2, fun b w => ⟨fun o => x.heap b o, ?_, fun z => z⟩⟩
    obtain ⟨⟨o, ho⟩, hn⟩ := r.there w
    cases q : Φ' b with
    | none => rfl
    | some u =>
      rcases x.new b u q with z | z
      · rw [hn] at z; cases z
      · rw [ho] at z; cases z) (fun j s y e => by cases e) (fun i j b e => by cases e)
  exact ⟨h.1, fun i b w => h.2.2 i i b rfl w⟩
theorem Rel.ext {σ : L2.St} {ρ : List Sl} (r : Rel K Φ H σ ρ) (x : Ext Φ H Φ' H') : Rel K Φ' H' σ ρ := (r.extAll x).1
theorem Rel.ownX {σ : L2.St} {ρ : List Sl} (r : Rel K Φ H σ ρ) (x : Ext Φ H Φ' H') {b : Addr} (w : Own H' σ ρ b) : Own H σ ρ b := by
  obtain ⟨i, w⟩ := w
  exact ⟨i, (r.extAll x).2 i b w⟩
theorem getSet {α : Type} {l : List α} {i j : Nat} {x y : α} (h : (l.set i x)[j]? = some y) : (i = j ∧ x = y ∧ i < l.length) ∨ (i ≠ j ∧ l[j]? = some y) := by
  by_cases z : i = j
  · subst z
    by_cases hl : i < l.length
    · rw [List.getElem?_set_self hl] at h; cases h; exact .inl ⟨rfl, rfl, hl⟩
    · rw [List.getElem?_eq_none (by simpa using hl)] at h; cases h
  · rw [List.getElem?_set_ne z] at h; exact .inr ⟨z, h⟩
theorem getApp {α : Type} {l : List α} {x : α} {i : Nat} {y : α} (h : (l ++ [x])[i]? = some y) : (l[i]? = some y) ∨ (i = l.length ∧ x = y) := by
  by_cases hi : i < l.length
  · rw [List.getElem?_append_left hi] at h; exact .inl h
  · rw [List.getElem?_append_right (by omega)] at h
    by_cases e : i - l.length = 0
    · rw [e] at h; simp at h; exact .inr ⟨by omega, h⟩
    · rw [List.getElem?_eq_none (by simp; omega)] at h; cases h
/-- a slot is stored to -/
theorem Rel.put {σ : L2.St} {ρ : List Sl} (r : Rel K Φ H σ ρ) {i : Nat} {s : Sl} {x : Option V} (ok : SlOk K Φ H s x) (new : ∀ v b, x = some v → b ∈ fpS H s v → ∀ j, j ≠ i → ¬ OwnAt H σ ρ j b) :
    Rel K Φ H (σ.set i x) (ρ.set i s) ∧ ∀ j b, OwnAt H (σ.set i x) (ρ.set i s) j b → (j = i ∧ ∃ v, x = some v ∧ b ∈ fpS H s v) ∨ (j ≠ i ∧ OwnAt H σ ρ j b) := by
  have h := r.remap (σ2 := σ.set i x) (ρ2 := ρ.set i s) (Same.refl _) r.sub (by rw [List.length_set, List.length_set, r.len]) (fun j => if j = i then none else some j) (fun b => ∃ v, x = some v ∧ b ∈ fpS H s v)
    (fun a b k e1 e2 => by
      split at e1 <;> split at e2
      · cases e1
      · cases e1
      · cases e2
      · cases e1; cases e2; rfl)
    (fun j k s' x' e h1 hs h2 => by
      split at e
      · cases e
      next hj =>
        cases e
        rw [List.getElem?_set_ne (Ne.symm hj)] at h1 h2
        refine ⟨h1, h2, fun b w => ⟨fun _ h => h, (r.there w).2, fun ⟨v, hv, hb⟩ => new v b hv hb j hj w⟩⟩)
    (fun j s' x' e h1 h2 => by
      split at e
      next hj =>
        subst hj
        rcases getSet h1 with ⟨_, z1, _⟩ | ⟨z, _⟩
        · rcases getSet h2 with ⟨_, z2, _⟩ | ⟨z, _⟩
          · subst z1; subst z2; exact ⟨ok, fun v b hv hb => ⟨v, hv, hb⟩⟩
          · exact absurd rfl z
        · exact absurd rfl z
      · cases e)
    (fun j k b e1 e2 _ _ => by
      split at e1 <;> split at e2
      · rename_i z1 z2; rw [z1, z2]
      · cases e2
      · cases e1
      · cases e1)
  refine ⟨h.1, fun j b w => ?_⟩
  by_cases hj : j = i
  · subst hj
    obtain ⟨s', v', w1, w2, w3⟩ := w
    rcases getSet w1 with ⟨_, z1, _⟩ | ⟨z, _⟩
    · rcases getSet w2 with ⟨_, z2, _⟩ | ⟨z, _⟩
      · subst z1; exact .inl ⟨rfl, v', z2, w3⟩
      · exact absurd rfl z
    · exact absurd rfl z
  · exact .inr ⟨hj, h.2.2 j j b (if_neg hj) w⟩
theorem Rel.put0 {σ : L2.St} {ρ : List Sl} (r : Rel K Φ H σ ρ) {i : Nat} {s : Sl} {x : Option V} (ok : SlOk K Φ H s x) (no : ∀ v, x = some v → fpS H s v = []) : Rel K Φ H (σ.set i x) (ρ.set i s) :=
  (r.put ok fun v b e hb => by rw [no v e] at hb; cases hb).1
/-- one more slot -/
theorem Rel.app {σ : L2.St} {ρ : List Sl} (r : Rel K Φ H σ ρ) {s : Sl} {x : Option V} (ok : SlOk K Φ H s x) (new : ∀ v b, x = some v → b ∈ fpS H s v → ∀ j, ¬ OwnAt H σ ρ j b) :
    Rel K Φ H (σ ++ [x]) (ρ ++ [s]) ∧ ∀ b, Own H (σ ++ [x]) (ρ ++ [s]) b → (∃ v, x = some v ∧ b ∈ fpS H s v) ∨ Own H σ ρ b := by
  have at_ : ∀ (j : Nat) (s' : Sl) (x' : Option V), j = ρ.length → (ρ ++ [s])[j]? = some s' → (σ ++ [x])[j]? = some x' → s = s' ∧ x = x' := fun j s' x' e h1 h2 => by
    rcases getApp h1 with h1 | ⟨_, z1⟩
    · have := (List.getElem?_eq_some_iff.mp h1).1; omega
    · rcases getApp h2 with h2 | ⟨_, z2⟩
      · have := (List.getElem?_eq_some_iff.mp h2).1; rw [r.len] at this; omega
      · exact ⟨z1, z2⟩
  have h := r.remap (σ2 := σ ++ [x]) (ρ2 := ρ ++ [s]) (Same.refl _) r.sub (by simp [r.len]) (fun j => if j = ρ.length then none else some j) (fun b => ∃ v, x = some v ∧ b ∈ fpS H s v)
    (fun a b k e1 e2 => by
      split at e1 <;> split at e2
      · cases e1
      · cases e1
      · cases e2
      · cases e1; cases e2; rfl)
    (fun j k s' x' e h1 hs h2 => by
      split at e
      · cases e
      next hj =>
        cases e
        rcases getApp h1 with h1 | ⟨z, _⟩
        · rcases getApp h2 with h2 | ⟨z, _⟩
          · exact ⟨h1, h2, fun b w => ⟨fun _ h => h, (r.there w).2, fun ⟨v, hv, hb⟩ => new v b hv hb j w⟩⟩
          · rw [r.len] at z; exact absurd z hj
        · exact absurd z hj)
    (fun j s' x' e h1 h2 => by
      split at e
      next hj =>
        obtain ⟨z1, z2⟩ := at_ j s' x' hj h1 h2
        subst z1; subst z2; exact ⟨ok, fun v b hv hb => ⟨v, hv, hb⟩⟩
      · cases e)
    (fun j k b e1 e2 _ _ => by
      split at e1 <;> split at e2
      · rename_i z1 z2; rw [z1, z2]
      · cases e2
      · cases e1
      · cases e1)
  exact ⟨h.1, h.2.1⟩
theorem RepV.ext {d : D} {v : V} (h : RepV K Φ H d v) (x : Ext Φ H Φ' H') : RepV K Φ' H' d v := by
  rcases h with h | ⟨a, e, h⟩
  · exact .inl (h.mono x.mono)
  · exact .inr ⟨a, e, h.mono x.mono x.heap⟩
end
/-- an exception's own data (the fields come later) -/
def RepX (cs : Nat → Addr) (Φ H : Hp) (x : Exn) (c : Value) (dd : Option Addr) : Prop := c = .ref (cs x.c) ∧ x.fs = [] ∧ dd = none ∧ cs x.c ≠ 0
section
variable {α β γ δ : Type}
structure Rp (α β : Type) where
  rep : Hp → Hp → α → β → Prop
  ext : ∀ {Φ H Φ' H' : Hp} {a : α} {b : β}, rep Φ H a b → Ext Φ H Φ' H' → rep Φ' H' a b
def rD (K : PySem.W.Frag) : Rp D V := ⟨fun Φ _ d v => RepD K Φ d v, fun h x => h.mono x.mono⟩
def rV (K : PySem.W.Frag) : Rp D V := ⟨fun Φ H d v => RepV K Φ H d v, fun h x => h.ext x⟩
def rB : Rp Bool Bool := ⟨fun _ _ a b => a = b, fun h _ => h⟩
def rDs (K : PySem.W.Frag) : Rp (List D) (List V) := ⟨fun Φ _ d v => RepDs K Φ d v, fun h x => h.mono x.mono⟩
inductive RepVs (K : PySem.W.Frag) (Φ H : Hp) : List D → List V → Prop
  | nil : RepVs K Φ H [] []
  | cons {d : D} {v : V} {ds : List D} {vs : List V} : RepV K Φ H d v → RepVs K Φ H ds vs → RepVs K Φ H (d :: ds) (v :: vs)
theorem RepVs.ext {K : PySem.W.Frag} {Φ H Φ' H' : Hp} (x : Ext Φ H Φ' H') : ∀ {d : List D} {v : List V}, RepVs K Φ H d v → RepVs K Φ' H' d v
  | _, _, .nil => .nil
  | _, _, .cons h r => .cons (h.ext x) (RepVs.ext x r)
def rVs (K : PySem.W.Frag) : Rp (List D) (List V) := ⟨fun Φ H d v => RepVs K Φ H d v, fun h x => RepVs.ext x h⟩
def Run (cs : Nat → Addr) (rp : Rp α β) (W : WX) (σ : L2.St) (Φ H : Hp) (Q : β → Hp → Prop) : R α → Prop
  | .ok a => ∀ Φ' H' b, Ext Φ H Φ' H' → rp.rep Φ' H' a b → Q b H'
  | .exc x => ∀ Φ' H' c dd, Ext Φ H Φ' H' → RepX cs Φ' H' x c dd → W c dd σ H'
  | .stuck => False
def tG (K : PySem.W.Frag) (cs : Nat → Addr) (rp : Rp α β) (W : WX) (f : Ev α) : L2.St → Hp → (β → Hp → Prop) → Prop := fun σ H Q => ∃ Φ ρ, Rel K Φ H σ ρ ∧ Run cs rp W σ Φ H Q (f ρ)
theorem Run.ext {cs : Nat → Addr} {rp : Rp α β} {W : WX} {σ : L2.St} {Φ H Φ1 H1 : Hp} {Q : β → Hp → Prop} {r : R α} (x : Ext Φ H Φ1 H1) (h : Run cs rp W σ Φ H Q r) : Run cs rp W σ Φ1 H1 Q r := by
  cases r with
  | ok a => exact fun Φ' H' b y q => h Φ' H' b (x.trans y) q
  | exc z => exact fun Φ' H' c dd y q => h Φ' H' c dd (x.trans y) q
  | stuck => exact h
theorem Run.ok {cs : Nat → Addr} {rp : Rp α β} {W : WX} {σ : L2.St} {Φ H : Hp} {Q : β → Hp → Prop} {a : α} {b : β} (h : Run cs rp W σ Φ H Q (.ok a)) (s : Same Φ H) (r : rp.rep Φ H a b) : Q b H := h Φ H b (.refl s) r
/-- first f, then what hangs on it -/
theorem tG.bind {K : PySem.W.Frag} {cs : Nat → Addr} {rp : Rp α β} {rq : Rp γ δ} {W : WX} {f : Ev α} {k : α → R γ} {σ : L2.St} {ρ : List Sl} {Φ H : Hp} {Q : δ → Hp → Prop} {G : β → Hp → Prop} (r : Rel K Φ H σ ρ)
    (h : Run cs rq W σ Φ H Q ((f ρ).bind k))
    (c : ∀ Φ1 H1 a b, Rel K Φ1 H1 σ ρ → Ext Φ H Φ1 H1 → rp.rep Φ1 H1 a b → Run cs rq W σ Φ1 H1 Q (k a) → G b H1) : tG K cs rp W f σ H G := by
  refine ⟨Φ, ρ, r, ?_⟩
  cases e : f ρ with
  | ok a =>
    rw [e] at h
    exact fun Φ' H' b x q => c Φ' H' a b (r.ext x) x q (h.ext x)
  | exc z =>
    rw [e] at h
    exact h
  | stuck =>
    rw [e] at h
    exact h
end
/-- the same, with what f gave -/
theorem tG.bind' {α β γ δ : Type} {K : PySem.W.Frag} {cs : Nat → Addr} {rp : Rp α β} {rq : Rp γ δ} {W : WX} {f : Ev α} {k : α → R γ} {σ : L2.St} {ρ : List Sl} {Φ H : Hp} {Q : δ → Hp → Prop} {G : β → Hp → Prop} (r : Rel K Φ H σ ρ)
    (h : Run cs rq W σ Φ H Q ((f ρ).bind k))
    (c : ∀ Φ1 H1 a b, f ρ = .ok a → Rel K Φ1 H1 σ ρ → Ext Φ H Φ1 H1 → rp.rep Φ1 H1 a b → Run cs rq W σ Φ1 H1 Q (k a) → G b H1) : tG K cs rp W f σ H G := by
  refine ⟨Φ, ρ, r, ?_⟩
  cases e : f ρ with
  | ok a =>
    rw [e] at h
    exact fun Φ' H' b x q => c Φ' H' a b e (r.ext x) x q (h.ext x)
  | exc z =>
    rw [e] at h
    exact h
  | stuck =>
    rw [e] at h
    exact h
def RunN (K : PySem.W.Frag) (cs : Nat → Addr) (W : WX) (σ : L2.St) (Φ H : Hp) (Q : VK) : R D → Prop
  | .ok d => ∀ Φ' H' a, Ext Φ H Φ' H' → H a = none → Φ' a = none → RepOwn K Φ' H' d a → Q (.ref a) H'
  | .exc x => ∀ Φ' H' c dd, Ext Φ H Φ' H' → RepX cs Φ' H' x c dd → W c dd σ H'
  | .stuck => False
def tN (K : PySem.W.Frag) (cs : Nat → Addr) (W : WX) (f : Ev D) : TE := fun σ H Q => ∃ Φ ρ, Rel K Φ H σ ρ ∧ RunN K cs W σ Φ H Q (f ρ)
theorem RunN.ext {K : PySem.W.Frag} {cs : Nat → Addr} {W : WX} {σ : L2.St} {Φ H Φ1 H1 : Hp} {Q : VK} {r : R D} (x : Ext Φ H Φ1 H1) (h : RunN K cs W σ Φ H Q r) : RunN K cs W σ Φ1 H1 Q r := by
  cases r with
  | ok a => exact fun Φ' H' b y hb hp q => h Φ' H' b (x.trans y) (x.heap.free hb) hp q
  | exc z => exact fun Φ' H' c dd y q => h Φ' H' c dd (x.trans y) q
  | stuck => exact h
theorem tG.bindN {α β : Type} {K : PySem.W.Frag} {cs : Nat → Addr} {rp : Rp α β} {W : WX} {f : Ev α} {k : α → R D} {σ : L2.St} {ρ : List Sl} {Φ H : Hp} {Q : VK} {G : β → Hp → Prop} (r : Rel K Φ H σ ρ)
    (h : RunN K cs W σ Φ H Q ((f ρ).bind k))
    (c : ∀ Φ1 H1 a b, Rel K Φ1 H1 σ ρ → Ext Φ H Φ1 H1 → rp.rep Φ1 H1 a b → RunN K cs W σ Φ1 H1 Q (k a) → G b H1) : tG K cs rp W f σ H G := by
  refine ⟨Φ, ρ, r, ?_⟩
  cases e : f ρ with
  | ok a =>
    rw [e] at h
    exact fun Φ' H' b x q => c Φ' H' a b (r.ext x) x q (h.ext x)
  | exc z =>
    rw [e] at h
    exact h
  | stuck =>
    rw [e] at h
    exact h
theorem RepOwn.freeze {K : PySem.W.Frag} {Φ H : Hp} {d : D} {a : Addr} (h : RepOwn K Φ H d a) (hp : Φ a = none) : ∃ o, H a = some o ∧ RepD K (upd Φ a o) d (.ref a) ∧ Same Φ (upd Φ a o) := by
  have mm : ∀ o, Same Φ (upd Φ a o) := fun o b u e => by
    have hb : b ≠ a := fun z => by subst z; rw [hp] at e; cases e
    rw [upd_ne hb]; exact e
  cases h with
  | lst e r => exact ⟨_, e, .lst upd_same (r.mono (mm _)), mm _⟩
  | dic e r => exact ⟨_, e, .dic upd_same (r.mono (mm _)), mm _⟩
theorem Ext.freeze {Φ H Φ' H' : Hp} {a : Addr} {o : HO} (x : Ext Φ H Φ' H') (hH : H a = none) (hp : Φ' a = none) (e : H' a = some o) : Ext Φ H (upd Φ' a o) H' := by
  refine ⟨fun b u h => ?_, x.heap, fun b u h => ?_, fun b u h => ?_⟩
  · have hb : b ≠ a := fun z => by subst z; rw [x.mono _ _ h] at hp; cases hp
    rw [upd_ne hb]; exact x.mono _ _ h
  · by_cases hb : b = a
    · subst hb; rw [upd_same] at h; rw [e]; exact h
    · rw [upd_ne hb] at h; exact x.sub _ _ h
  · by_cases hb : b = a
    · subst hb; exact .inr hH
    · rw [upd_ne hb] at h; exact x.new _ _ h
section
variable (X : Cx) (cs : Nat → Addr) (W : WX)
def SV (e : Expr) (f : Ev D) : Prop := PE X e (tG X.K cs (rV X.K) W f)
def SD (e : Expr) (f : Ev D) : Prop := PE X e (tG X.K cs (rD X.K) W f)
def ST (e : Expr) (f : Ev Bool) : Prop := PT X e (tG X.K cs rB W f)
def SW (e : Expr) (f : Ev Bool) : Prop := PW X e (tG X.K cs rB W f)
def SN (e : Expr) (f : Ev D) : Prop := PE X e (tN X.K cs W f)
def SA (es : List Expr) (f : Ev (List D)) : Prop := PA X es (tG X.K cs (rVs X.K) W f)
def SAd (es : List Expr) (f : Ev (List D)) : Prop := PA X es (tG X.K cs (rDs X.K) W f)
end
theorem peImp {X : Cx} {e : Expr} {t t' : TE} (h : PE X e t) (i : ∀ σ H Q, t' σ H Q → t σ H Q) : PE X e t' := ⟨fun pins s σ H Q I hw => h.run pins s σ H Q I (i σ H Q hw)⟩
theorem ptImp {X : Cx} {e : Expr} {t t' : TT} (h : PT X e t) (i : ∀ σ H Q, t' σ H Q → t σ H Q) : PT X e t' := ⟨fun pins s σ H Q I hw => h.run pins s σ H Q I (i σ H Q hw)⟩
theorem pwImp {X : Cx} {e : Expr} {t t' : TT} (h : PW X e t) (i : ∀ σ H Q, t' σ H Q → t σ H Q) : PW X e t' := ⟨fun wh pins s σ H Q I hw => h.run wh pins s σ H Q I (i σ H Q hw)⟩
theorem paImp {X : Cx} {e : List Expr} {t t' : TA} (h : PA X e t) (i : ∀ σ H Q, t' σ H Q → t σ H Q) : PA X e t' := ⟨fun pos pins s σ H Q I hw => h.run pos pins s σ H Q I (i σ H Q hw)⟩
theorem psImp {X : Cx} {e : Stmt} {t t' : TS} (h : PS X e t) (i : ∀ D σ H, t' D σ H → t D σ H) : PS X e t' := ⟨fun pins s σ H D I hw => h.run pins s σ H D I (i D σ H hw)⟩
theorem pssImp {X : Cx} {e : List Stmt} {t t' : TS} (h : PSs X e t) (i : ∀ D σ H, t' D σ H → t D σ H) : PSs X e t' := ⟨fun pins s σ H D I hw => h.run pins s σ H D I (i D σ H hw)⟩
section
variable {X : Cx} {cs : Nat → Addr} {W : WX} {e : Expr} {f : Ev D}
theorem SD.sv (h : SD X cs W e f) : SV X cs W e f := peImp h fun σ H Q ⟨Φ, ρ, r, q⟩ => by
  refine ⟨Φ, ρ, r, ?_⟩
  cases e : f ρ with
  | ok a =>
    rw [e] at q
    exact fun Φ' H' b x y => q Φ' H' b x (.inl y)
  | exc z => rw [e] at q; exact q
  | stuck => rw [e] at q; exact q
theorem SN.sd (h : SN X cs W e f) : SD X cs W e f := peImp h fun σ H Q ⟨Φ, ρ, r, q⟩ => by
  refine ⟨Φ, ρ, r, ?_⟩
  cases e : f ρ with
  | ok a =>
    rw [e] at q
    exact fun Φ' H' b x hb hp y => by
      obtain ⟨o, e1, e2, e3⟩ := y.freeze hp
      exact q _ H' _ (x.freeze hb hp e1) e2
  | exc z => rw [e] at q; exact q
  | stuck => rw [e] at q; exact q
end
end PL
set_option Elab.async false
set_option linter.all false
set_option maxRecDepth 100000
namespace PL
set_option autoImplicit false
open PySem PySem.Spec PyProof.Rows L2
abbrev tupO (us : List Value) : Obj := { cls := .type "tuple", data := .seq us.toArray }
section
variable {X : Cx} {pins : List (Addr × Obj)} {σ : L2.St} {H : Hp} {s : Shared}
theorem laidF {xs : List V} {us : List Value} {h : Heap} {t' : Nat} (I : Inv X pins σ H { s with heap := h }) (r : Vals xs us) (hz : xs.length ≤ sizeLine) :
    Inv X pins σ (upd H h.objs.size (.frz (tupO us) (.tup xs))) { s with heap := h.push (tupO us), toks := t' } :=
  I.laid (s := { s with heap := h }) (o := .frz (tupO us) (.tup xs)) (fun b u e => Heap.get?_push_of_some _ e) (Nat.le_refl _)
    ⟨Heap.get?_push_size _ rfl, hz, us, r, IsTup.new _ _⟩
/-- what comes of a new tuple -/
def NewF (H : Hp) (Q : VK) (xs : List V) : Prop := ∀ p o, H p = none → o.cls = .type "tuple" → o.dict = none → Q (.ref p) (upd H p (.frz o (.tup xs)))
theorem newF {xs : List V} {us : List Value} {h : Heap} {t' : Nat} {Q : VK} (I : Inv X pins σ H { s with heap := h }) (r : Vals xs us) (hz : xs.length ≤ sizeLine) (q : NewF H Q xs) :
    EP X pins σ Q (.ref h.objs.size) { s with heap := h.push (tupO us), toks := t' } :=
  ⟨.ref h.objs.size, _, laidF I r hz, rfl, q _ _ (I.hok.fresh (Nat.le_refl _)) rfl rfl⟩
end
section
variable {X : Cx} {e : Expr} {es : List Expr} {t : TA} {pos : Pos}
def tTupF (t : TA) : TE := fun σ H Q => t σ H fun xs H1 => xs.length ≤ sizeLine ∧ NewF H1 Q xs
theorem pe_tupF {x1 : _} (h : PA X es t) : PE X (.Tuple es x1 pos) (tTupF t) := by
  refine ⟨fun pins s σ H Q I hq => ?_⟩
  refine wpAny_Tuple_spliced (thn (h.run pos pins s σ H _ I hq) fun us s1 ⟨xs, H1, I1, r, z, q⟩ => ⟨by rw [← r.length]; exact z, ?_⟩)
  exact newF (h := s1.heap) (s := s1) I1 r z q
def rSlF (K : PySem.W.Frag) : V → Option Int → Option Int → Hp → VK → Prop := fun x lo hi H Q => ∃ a xs, x = .ref a ∧ SqT K H a xs ∧
  (HT.sIx xs.length 0 lo = 0 ∧ HT.sIx xs.length xs.length hi = xs.length → Q (.ref a) H) ∧ (¬ (HT.sIx xs.length 0 lo = 0 ∧ HT.sIx xs.length xs.length hi = xs.length) → NewF H Q (cutV xs lo hi))
theorem sl_tupF : SlR X (rSlF X.K) := by
  intro pins s σ H x v vl vu lo hi sl Q I rx hs pl pu h
  obtain ⟨a, xs, rfl, hx, q1, q2⟩ := h
  cases rx
  obtain ⟨its, r, ht, hz⟩ := I.tuple hx
  have hlen : its.toArray.size = xs.length := by rw [List.size_toArray]; exact r.length.symm
  refine ⟨"tuple", _, PyProof.Rows.slot_tuple_getitem.lookup, ht.typeIs, ?_⟩
  by_cases hw : HT.sIx xs.length 0 lo = 0 ∧ HT.sIx xs.length xs.length hi = xs.length
  · exact getItem_tuple_whole ht hs pl pu (by rw [hlen]; exact hw) ⟨.ref a, H, I, rfl, q1 hw⟩
  · refine HT.getItem_tuple_cut ht hs pl pu (by rw [hlen]; exact hw) ?_ (by rw [hlen]; exact hz)
    rw [hlen]
    exact newF (h := s.heap) (s := s) I ((r.drop (HT.sIx xs.length 0 lo)).take (HT.sIx xs.length xs.length hi - HT.sIx xs.length 0 lo)) (Nat.le_trans (cutV_length xs lo hi) hz) (q2 hw)
def rCatF (K : PySem.W.Frag) : R2 := fun x y H Q => ∃ a b xs ys, x = .ref a ∧ y = .ref b ∧ SqT K H a xs ∧ SqT K H b ys ∧ xs.length + ys.length ≤ sizeLine ∧
  (xs = [] → Q (.ref b) H) ∧ (xs ≠ [] → ys = [] → Q (.ref a) H) ∧ (xs ≠ [] → ys ≠ [] → NewF H Q (xs ++ ys))
theorem op_catF : OpR X (binaryOp .Add) (rCatF X.K) := by
  intro pins s σ H x y v u Q I rx ry h
  obtain ⟨a, b, xs, ys, rfl, rfl, ha, hb, hz, q0, q1, q2⟩ := h
  cases rx
  cases ry
  obtain ⟨its, r1, p1, _⟩ := I.tuple ha
  obtain ⟨its2, r2, p2, _⟩ := I.tuple hb
  by_cases hx : xs = []
  · subst hx
    cases r1
    exact cat_tup0 p1 p2 ⟨.ref b, H, I, rfl, q0 rfl⟩
  · refine HT.cat_tup p1 p2 (fun z => hx (r1.nil_iff.mp z)) (fun z => ⟨.ref a, H, I, rfl, q1 hx (r2.nil_iff.mp z)⟩) (fun z => ?_) (by rw [← r1.length, ← r2.length]; exact hz)
    exact newF (h := s.heap) (s := s) I (r1.append r2) (by rw [List.length_append]; exact hz) (q2 hx (fun w => z (r2.nil_iff.mpr w)))
def rTupF (K : PySem.W.Frag) : List V → Hp → VK → Prop := fun xs H Q => ∃ p ys, xs = [.ref p] ∧ ((SqL K H p ys ∧ NewF H Q ys) ∨ (SqT K H p ys ∧ Q (.ref p) H))
theorem call_tupleF : CallR X (.type "tuple") (rTupF X.K) := by
  intro pins s σ H xs us Q I r h
  obtain ⟨p, ys, rfl, h⟩ := h
  obtain ⟨u, rfl, rx⟩ := vals1 r
  cases rx
  rcases h with ⟨hq, q⟩ | ⟨hq, q⟩
  · obtain ⟨its, r', pl, hz⟩ := I.list hq
    have hlen := r'.length
    refine call_tuple_list pl.isList (fun h' kp => ?_) (by simp only [List.size_toArray]; omega)
    have I1 : Inv X pins σ H { s with heap := h' } := I.kept (t' := s.toks) kp
    exact newF (h := h') (s := s) I1 r' hz q
  · obtain ⟨its, r', pl, hz⟩ := I.tuple hq
    exact call_tuple_same pl ⟨.ref p, H, I, rfl, q⟩
end
theorem Kn.of {K : PySem.W.Frag} {H : Hp} {p : Addr} {o : Obj} {xs : List V} (hc : o.cls = .type "tuple") (hd : o.dict = none) : Kn K (upd H p (.frz o (.tup xs))) p := .inl ⟨o, xs, upd_same, hc, hd⟩
theorem SqT.ofF {K : PySem.W.Frag} {H : Hp} {p : Addr} {o : Obj} {xs : List V} : SqT K (upd H p (.frz o (.tup xs))) p xs := .inl (.inr ⟨o, upd_same⟩)
end PL
set_option Elab.async false
set_option linter.all false
set_option maxRecDepth 100000
namespace PL
set_option autoImplicit false
open PySem PySem.Spec PyProof.Rows L2
abbrev LIM : Nat := 1000000
theorem lim_le {n : Nat} (h : n ≤ LIM) : n ≤ sizeLine := Nat.le_trans h (by rw [sizeLine_eq]; decide)
theorem lim_lt {n : Nat} (h : n ≤ LIM) : n < sizeLine := Nat.lt_of_le_of_lt h (by rw [sizeLine_eq]; decide)
section inversions
variable {K : PySem.W.Frag} {Φ H : Hp} {v : V}
theorem RepV.non_inv (h : RepV K Φ H .non v) : v = .non := by rcases h with h | ⟨a, e, h⟩ <;> cases h; rfl
theorem RepV.bl_inv {b : Bool} (h : RepV K Φ H (.bl b) v) : v = .bl b := by rcases h with h | ⟨a, e, h⟩ <;> cases h; rfl
theorem RepV.int_inv {i : Int} (h : RepV K Φ H (.int i) v) : v = .int i := by rcases h with h | ⟨a, e, h⟩ <;> cases h; rfl
theorem RepV.str_inv {s : List Nat} (h : RepV K Φ H (.str s) v) : ∃ x : Str, v = .str x ∧ x.cps.toList = s := by
  rcases h with h | ⟨a, e, h⟩ <;> cases h
  exact ⟨_, rfl, by assumption⟩
theorem RepV.tup_inv {ds : List D} (h : RepV K Φ H (.tup ds) v) (m : Same Φ H) : ∃ a vs, v = .ref a ∧ SqT K H a vs ∧ RepDs K Φ ds vs := by
  rcases h with h | ⟨a, e, h⟩ <;> cases h
  exact ⟨_, _, rfl, sqT_mono m (by assumption), by assumption⟩
theorem RepV.tup_kn {ds : List D} (h : RepV K Φ H (.tup ds) v) (m : Same Φ H) : ∃ a vs, v = .ref a ∧ SqT K H a vs ∧ RepDs K Φ ds vs ∧ (stk ds = true → Kn K H a) := by
  rcases h with h | ⟨a, e, h⟩ <;> cases h
  rename_i k
  exact ⟨_, _, rfl, sqT_mono m (by assumption), by assumption, fun z => (k z).mono m⟩
theorem RepV.lst_inv {ds : List D} (h : RepV K Φ H (.lst ds) v) (m : Same Φ H) : ∃ a vs, v = .ref a ∧ H a = some (.lst vs) ∧ RepDs K Φ ds vs := by
  rcases h with h | ⟨a, e, h⟩ <;> cases h
  · exact ⟨_, _, rfl, m _ _ (by assumption), by assumption⟩
  · exact ⟨_, _, e, by assumption, by assumption⟩
theorem RepV.scr_inv {ns : List Int} (h : RepV K Φ H (.scr ns) v) (m : Same Φ H) : ∃ a, v = .ref a ∧ SqL K H a (ns.map V.int) := by
  rcases h with h | ⟨a, e, h⟩ <;> cases h
  exact ⟨_, rfl, m.seq (by assumption)⟩
theorem RepV.dic_inv {es : List (Kc × D)} (h : RepV K Φ H (.dic es) v) (m : Same Φ H) : ∃ a kvs, v = .ref a ∧ H a = some (.dK kvs) ∧ RepKs K Φ es kvs := by
  rcases h with h | ⟨a, e, h⟩ <;> cases h
  · exact ⟨_, _, rfl, m _ _ (by assumption), by assumption⟩
  · exact ⟨_, _, e, by assumption, by assumption⟩
end inversions
/-- what a sequence holds -/
def D.items : D → Option (List D)
  | .tup ds => some ds
  | .lst ds => some ds
  | .scr ns => some (ns.map D.int)
  | _ => none
theorem RepV.items {K : PySem.W.Frag} {Φ H : Hp} {v : V} {d : D} {ds : List D} (h : RepV K Φ H d v) (m : Same Φ H) (e : d.items = some ds) :
    ∃ a vs, v = .ref a ∧ (SqL K H a vs ∨ SqT K H a vs) ∧ RepDs K Φ ds vs := by
  cases d <;> simp only [D.items, Option.some.injEq, reduceCtorEq] at e
  · subst e
    obtain ⟨a, vs, rfl, h1, h2⟩ := h.tup_inv m
    exact ⟨a, vs, rfl, .inr h1, h2⟩
  · subst e
    obtain ⟨a, vs, rfl, h1, h2⟩ := h.lst_inv m
    exact ⟨a, vs, rfl, .inl (SqL.of h1), h2⟩
  · subst e
    obtain ⟨a, rfl, h1⟩ := h.scr_inv m
    exact ⟨a, _, rfl, .inl h1, RepDs.ints _⟩
section ops
variable {X : Cx} {cs : Nat → Addr} {W : WX} {a b c e o : Expr} {fa fb fc : Ev D} {pos : Pos}
def eVar (i : Nat) : Ev D := fun ρ => match ρ[i]? with
  | some (.val d) => .ok d
  | some (.own d) => .ok d
  | _ => .stuck
def eFrz (i : Nat) : Ev D := fun ρ => match ρ[i]? with
  | some (.val d) => .ok d
  | _ => .stuck
theorem sv_var (i : Nat) {x : Str} (hN : X.N[i]? = some x := by rfl) (hv : Vis X.env.scope x := by first | exact Or.inl rfl | exact Or.inr (Or.inl rfl) | exact Or.inr (Or.inr rfl)) (hd : (x == ("__debug__" : Str)) = false := by decide)
    (hcd : (x == ("__classdict__" : Str)) = false := by decide) : SV X cs W (.Name x pos) (eVar i) := peImp (pe_var hN hv hd hcd) fun σ H Q ⟨Φ, ρ, r, q⟩ => by
  unfold eVar at q
  split at q
  next d e =>
    obtain ⟨v, h1, h2⟩ := r.val i d e
    exact ⟨v, h1, q.ok r.sub (.inl h2)⟩
  next d e =>
    obtain ⟨v, h1, h2, _⟩ := r.own i d e
    exact ⟨_, h1, q.ok r.sub (.inr ⟨v, rfl, h2⟩)⟩
  next => exact False.elim q
theorem sd_var (i : Nat) {x : Str} (hN : X.N[i]? = some x := by rfl) (hv : Vis X.env.scope x := by first | exact Or.inl rfl | exact Or.inr (Or.inl rfl) | exact Or.inr (Or.inr rfl)) (hd : (x == ("__debug__" : Str)) = false := by decide)
    (hcd : (x == ("__classdict__" : Str)) = false := by decide) : SD X cs W (.Name x pos) (eFrz i) := peImp (pe_var hN hv hd hcd) fun σ H Q ⟨Φ, ρ, r, q⟩ => by
  unfold eFrz at q
  split at q
  next d e =>
    obtain ⟨v, h1, h2⟩ := r.val i d e
    exact ⟨v, h1, q.ok r.sub h2⟩
  next => exact False.elim q
def eC (d : D) : Ev D := fun _ => .ok d
theorem sd_int {i : Int} {j : Nat} : SD X cs W (.Constant (.int i) j pos) (eC (.int i)) := peImp pe_int fun σ H Q ⟨Φ, ρ, r, q⟩ => q.ok r.sub (.int i)
theorem sd_bl {i : Bool} {j : Nat} : SD X cs W (.Constant (.bool i) j pos) (eC (.bl i)) := peImp pe_bl fun σ H Q ⟨Φ, ρ, r, q⟩ => q.ok r.sub (.bl i)
theorem sd_non {j : Nat} : SD X cs W (.Constant .none j pos) (eC .non) := peImp pe_non fun σ H Q ⟨Φ, ρ, r, q⟩ => q.ok r.sub .non
theorem sd_str {x : Str} {j : Nat} {s : List Nat} (h : x.cps.toList = s := by rfl) : SD X cs W (.Constant (.str x) j pos) (eC (.str s)) := peImp pe_str fun σ H Q ⟨Φ, ρ, r, q⟩ => q.ok r.sub (.str x s h)
def e1 {α : Type} (g : D → R α) (fa : Ev D) : Ev α := fun ρ => (fa ρ).bind g
def e2 {α : Type} (g : D → D → R α) (fa fb : Ev D) : Ev α := fun ρ => (fa ρ).bind fun x => (fb ρ).bind (g x)
def e3 {α : Type} (g : D → D → D → R α) (fa fb fc : Ev D) : Ev α := fun ρ => (fa ρ).bind fun x => (fb ρ).bind fun y => (fc ρ).bind (g x y)
theorem run1 {α β : Type} {rp : Rp α β} {g : D → R α} {σ : L2.St} {H : Hp} {Q : β → Hp → Prop} {G : V → Hp → Prop} (h : tG X.K cs rp W (e1 g fa) σ H Q)
    (c : ∀ Φ H v d, Same Φ H → RepV X.K Φ H d v → Run cs rp W σ Φ H Q (g d) → G v H) : tG X.K cs (rV X.K) W fa σ H G := by
  obtain ⟨Φ, ρ, r, q⟩ := h
  exact tG.bind (rp := rV X.K) r q fun Φ1 H1 d v r1 _ rep q => c Φ1 H1 v d r1.sub rep q
theorem run2 {α β : Type} {rp : Rp α β} {g : D → D → R α} {σ : L2.St} {H : Hp} {Q : β → Hp → Prop} {G : V → V → Hp → Prop} (h : tG X.K cs rp W (e2 g fa fb) σ H Q)
    (c : ∀ Φ H v u d e, Same Φ H → RepV X.K Φ H d v → RepV X.K Φ H e u → Run cs rp W σ Φ H Q (g d e) → G v u H) : tG X.K cs (rV X.K) W fa σ H fun v H1 => tG X.K cs (rV X.K) W fb σ H1 fun u H2 => G v u H2 := by
  obtain ⟨Φ, ρ, r, q⟩ := h
  refine tG.bind (rp := rV X.K) r q fun Φ1 H1 d v r1 _ rep q => ?_
  exact tG.bind (rp := rV X.K) r1 q fun Φ2 H2 e u r2 x2 rep2 q => c Φ2 H2 v u d e r2.sub (rep.ext x2) rep2 q
/-- what an operator on values does on data -/
def OpD (X : Cx) (cs : Nat → Addr) (W : WX) (r : R2) (g : D → D → R D) : Prop := ∀ (σ : L2.St) (Φ H : Hp) (Q : VK) (v u : V) (d e : D), Same Φ H → RepV X.K Φ H d v → RepV X.K Φ H e u → Run cs (rD X.K) W σ Φ H Q (g d e) → r v u H Q
def OpB (X : Cx) (cs : Nat → Addr) (W : WX) (r : R2) (g : D → D → R Bool) : Prop := ∀ (σ : L2.St) (Φ H : Hp) (Q : Bool → Hp → Prop) (v u : V) (d e : D), Same Φ H → RepV X.K Φ H d v → RepV X.K Φ H e u → Run cs rB W σ Φ H Q (g d e) → r v u H fun x H' => ∃ k, x = .bl k ∧ Q k H'
theorem sd_op {op : Operator} {r : R2} {g : D → D → R D} (ho : OpR X (binaryOp op) r) (hg : OpD X cs W r g) (ha : SV X cs W a fa) (hb : SV X cs W b fb) : SD X cs W (.BinOp a op b pos) (e2 g fa fb) :=
  peImp (pe_op ho ha hb) fun σ H Q h => run2 h fun Φ H v u d e m r1 r2 q => hg σ Φ H Q v u d e m r1 r2 q
/-- a Bool as a value -/
def eBl (f : Ev Bool) : Ev D := fun ρ => (f ρ).bind fun k => .ok (.bl k)
theorem runBl {σ : L2.St} {H : Hp} {Q : VK} {f : Ev Bool} (h : tG X.K cs (rD X.K) W (eBl f) σ H Q) : tG X.K cs rB W f σ H fun k H' => Q (.bl k) H' := by
  obtain ⟨Φ, ρ, r, q⟩ := h
  exact tG.bind (rp := rB) r q fun Φ1 H1 d v r1 _ rep q => by
    cases rep
    exact q.ok r1.sub (.bl d)
theorem st_cmp {op : CmpOp} {r : R2} {g : D → D → R Bool} (ho : OpR X (compareOp op) r) (hg : OpB X cs W r g) (ha : SV X cs W a fa) (hb : SV X cs W b fb) (hm : behindInMarks op b = false) : ST X cs W (.Compare a [op] [b] pos) (e2 g fa fb) :=
  ptImp (pt_cmpR ho ha hb hm) fun σ H Q h => run2 h fun Φ H v u d e m r1 r2 q => hg σ Φ H Q v u d e m r1 r2 q
theorem sd_cmp {op : CmpOp} {r : R2} {g : D → D → R Bool} (hr : ∀ x y H Q Q', (∀ v H, Q v H → Q' v H) → r x y H Q → r x y H Q') (ho : OpR X (compareOp op) r) (hg : OpB X cs W r g) (ha : SV X cs W a fa) (hb : SV X cs W b fb) (hm : behindInMarks op b = false) : SD X cs W (.Compare a [op] [b] pos) (eBl (e2 g fa fb)) :=
  peImp (pe_cmpR ho ha hb hm) fun σ H Q h => run2 (runBl h) fun Φ H v u d e m r1 r2 q => hr _ _ _ _ _ (fun v H ⟨k, e, z⟩ => by rw [e]; exact z) (hg σ Φ H _ v u d e m r1 r2 q)
def gAdd : D → D → R D
  | .int i, .int j => .ok (.int (i + j))
  | .str x, .str y => if x.length + y.length ≤ LIM then .ok (.str (x ++ y)) else .stuck
  | .lst x, .lst y => if x.length + y.length ≤ LIM then .ok (.lst (x ++ y)) else .stuck
  | .tup x, .tup y => if x.length + y.length ≤ LIM then .ok (.tup (x ++ y)) else .stuck
  | _, _ => .stuck
theorem toL_append (x y : Str) : (x ++ y).cps.toList = x.cps.toList ++ y.cps.toList := by
  show (x.cps ++ y.cps).toList = _
  rw [Array.toList_append]
theorem len_toL (x : Str) : x.length = x.cps.toList.length := by simp [Str.length]
theorem sd_add (ha : SV X cs W a fa) (hb : SV X cs W b fb) : SD X cs W (.BinOp a .Add b pos) (e2 gAdd fa fb) := by
  refine sd_op (op_add.or (op_add_str.or (op_cat.or op_catF))) (fun σ Φ H Q v u d e m r1 r2 q => ?_) ha hb
  unfold gAdd at q
  split at q
  · cases r1.int_inv; cases r2.int_inv
    exact .inl ⟨_, _, rfl, rfl, q.ok m (.int _)⟩
  · obtain ⟨x, rfl, rfl⟩ := r1.str_inv
    obtain ⟨y, rfl, rfl⟩ := r2.str_inv
    split at q
    next h =>
      rw [← len_toL, ← len_toL] at h
      exact .inr (.inl ⟨_, _, rfl, rfl, lim_le h, q.ok m (.str _ _ (toL_append x y))⟩)
    next => exact q.elim
  · obtain ⟨p, vs, rfl, h1, h2⟩ := r1.lst_inv m
    obtain ⟨p', us, rfl, h3, h4⟩ := r2.lst_inv m
    split at q
    next h =>
      rw [h2.length, h4.length] at h
      exact .inr (.inr (.inl ⟨_, _, _, _, rfl, rfl, h1, h3, lim_le h, fun z hz => q _ _ _ (Ext.fresh m hz) (RepD.lst upd_same ((h2.append h4).mono (Ext.fresh m hz).mono))⟩))
    next => exact q.elim
  · obtain ⟨p, vs, rfl, h1, h2⟩ := r1.tup_inv m
    obtain ⟨p', us, rfl, h3, h4⟩ := r2.tup_inv m
    split at q
    next x y h =>
      rw [h2.length, h4.length] at h
      refine .inr (.inr (.inr ⟨_, _, _, _, rfl, rfl, h1, h3, lim_le h, fun z => ?_, fun _ z => ?_, fun _ _ p o hp hc hd => ?_⟩))
      · subst z
        cases h2
        rcases r2 with r2 | ⟨_, e, w⟩
        · exact q.ok m r2
        · cases w
      · subst z
        cases h4
        rcases r1 with r1 | ⟨_, e, w⟩
        · exact q.ok m (show RepD X.K Φ (.tup (x ++ [])) _ by rw [List.append_nil]; exact r1)
        · cases w
      · exact q _ _ _ (Ext.fresh m hp) (RepD.tup SqT.ofF ((h2.append h4).mono (Ext.fresh m hp).mono) fun _ => Kn.of hc hd)
    next => exact q.elim
  · exact q.elim
def gInt (g : Int → Int → R D) : D → D → R D
  | .int i, .int j => g i j
  | _, _ => .stuck
theorem opInt {C : Int → Int → Prop} {g : Int → Int → Int} {k : Int → Int → R D} (hk : ∀ i j, (C i j ∧ k i j = .ok (.int (g i j))) ∨ k i j = .stuck) : OpD X cs W (rI C fun i j => .int (g i j)) (gInt k) := by
  intro σ Φ H Q v u d e m r1 r2 q
  unfold gInt at q
  split at q
  next i j =>
    cases r1.int_inv; cases r2.int_inv
    rcases hk i j with ⟨hC, h⟩ | h
    · rw [h] at q
      exact ⟨_, _, rfl, rfl, hC, q.ok m (.int _)⟩
    · rw [h] at q; exact q.elim
  next => exact q.elim
theorem opInt0 {g : Int → Int → Int} : OpD X cs W (rI0 fun i j => .int (g i j)) (gInt fun i j => .ok (.int (g i j))) := by
  intro σ Φ H Q v u d e m r1 r2 q
  unfold gInt at q
  split at q
  next i j =>
    cases r1.int_inv; cases r2.int_inv
    exact ⟨_, _, rfl, rfl, q.ok m (.int _)⟩
  next => exact q.elim
def gSub : D → D → R D := gInt fun i j => .ok (.int (i - j))
theorem sd_sub (ha : SV X cs W a fa) (hb : SV X cs W b fb) : SD X cs W (.BinOp a .Sub b pos) (e2 gSub fa fb) := sd_op op_sub opInt0 ha hb
def MulOk (i j : Int) : Bool := decide (i.natAbs < 2 ^ 64) || decide (j.natAbs < 2 ^ 64) || decide (i.natAbs.log2 + j.natAbs.log2 < 1000000)
def gMulI : D → D → R D := gInt fun i j => if MulOk i j then .ok (.int (i * j)) else .stuck
def gDiv : D → D → R D := gInt fun i j => if 0 < j ∧ j < 1073741824 then .ok (.int (i / j)) else .stuck
theorem sd_div (ha : SV X cs W a fa) (hb : SV X cs W b fb) : SD X cs W (.BinOp a .FloorDiv b pos) (e2 gDiv fa fb) := sd_op op_fdiv (opInt fun i j => by
  by_cases h : 0 < j ∧ j < 1073741824
  · exact .inl ⟨h, if_pos h⟩
  · exact .inr (if_neg h)) ha hb
def gMod : D → D → R D := gInt fun i j => if 0 < j then .ok (.int (i % j)) else .stuck
theorem sd_mod (ha : SV X cs W a fa) (hb : SV X cs W b fb) : SD X cs W (.BinOp a .Mod b pos) (e2 gMod fa fb) := sd_op op_mod (opInt fun i j => by
  by_cases h : 0 < j
  · exact .inl ⟨h, if_pos h⟩
  · exact .inr (if_neg h)) ha hb
def gPow : D → D → R D := gInt fun i j => if 0 ≤ j ∧ j ≤ 1000000 ∧ i.natAbs < 2 ^ 64 then .ok (.int (i ^ j.toNat)) else .stuck
theorem sd_pow (ha : SV X cs W a fa) (hb : SV X cs W b fb) : SD X cs W (.BinOp a .Pow b pos) (e2 gPow fa fb) := sd_op op_pow (opInt fun i j => by
  by_cases h : 0 ≤ j ∧ j ≤ 1000000 ∧ i.natAbs < 2 ^ 64
  · exact .inl ⟨h, if_pos h⟩
  · exact .inr (if_neg h)) ha hb
def gShl : D → D → R D := gInt fun i j => if 0 ≤ j ∧ j ≤ 1000000 ∧ i.natAbs < 2 ^ 10000 then .ok (.int (i * 2 ^ j.toNat)) else .stuck
theorem sd_shl (ha : SV X cs W a fa) (hb : SV X cs W b fb) : SD X cs W (.BinOp a .LShift b pos) (e2 gShl fa fb) := sd_op op_shlW (opInt fun i j => by
  by_cases h : 0 ≤ j ∧ j ≤ 1000000 ∧ i.natAbs < 2 ^ 10000
  · refine .inl ⟨?_, if_pos h⟩
    obtain ⟨h1, h2, h3⟩ := h
    have z := shl_ok (i := i) (j := j.toNat) h3 (by omega)
    have e : ((j.toNat : Nat) : Int) = j := by omega
    rwa [e] at z
  · exact .inr (if_neg h)) ha hb
def gShr : D → D → R D := gInt fun i j => if 0 ≤ j then .ok (.int (i / 2 ^ j.toNat)) else .stuck
theorem sd_shr (ha : SV X cs W a fa) (hb : SV X cs W b fb) : SD X cs W (.BinOp a .RShift b pos) (e2 gShr fa fb) := sd_op op_shr (opInt fun i j => by
  by_cases h : 0 ≤ j
  · exact .inl ⟨h, if_pos h⟩
  · exact .inr (if_neg h)) ha hb
def gAnd : D → D → R D := gInt fun i j => .ok (.int (Builtin.bitAnd i j))
def gOr : D → D → R D := gInt fun i j => .ok (.int (Builtin.bitOr i j))
def gXor : D → D → R D := gInt fun i j => .ok (.int (Builtin.bitXor i j))
theorem sd_and (ha : SV X cs W a fa) (hb : SV X cs W b fb) : SD X cs W (.BinOp a .BitAnd b pos) (e2 gAnd fa fb) := sd_op op_and opInt0 ha hb
theorem sd_or (ha : SV X cs W a fa) (hb : SV X cs W b fb) : SD X cs W (.BinOp a .BitOr b pos) (e2 gOr fa fb) := sd_op op_or opInt0 ha hb
theorem sd_xor (ha : SV X cs W a fa) (hb : SV X cs W b fb) : SD X cs W (.BinOp a .BitXor b pos) (e2 gXor fa fb) := sd_op op_xor opInt0 ha hb
def gNeg : D → R D
  | .int i => .ok (.int (-i))
  | _ => .stuck
theorem sd_neg (ha : SV X cs W a fa) : SD X cs W (.UnaryOp .USub a pos) (e1 gNeg fa) := peImp (pe_un un_neg ha) fun σ H Q h => run1 h fun Φ H v d m r q => by
  unfold gNeg at q
  split at q
  · cases r.int_inv
    exact ⟨_, rfl, q.ok m (.int _)⟩
  · exact q.elim
def gCmp (p : Int → Int → Bool) : D → D → R Bool
  | .int i, .int j => .ok (p i j)
  | _, _ => .stuck
theorem opCmp {p : Int → Int → Bool} : OpB X cs W (rI0 fun i j => .bl (p i j)) (gCmp p) := by
  intro σ Φ H Q v u d e m r1 r2 q
  unfold gCmp at q
  split at q
  next i j =>
    cases r1.int_inv; cases r2.int_inv
    exact ⟨_, _, rfl, rfl, _, rfl, q.ok m rfl⟩
  next => exact q.elim
abbrev pLt (i j : Int) : Bool := decide (i < j)
abbrev pGt (i j : Int) : Bool := decide (j < i)
theorem st_lt (ha : SV X cs W a fa) (hb : SV X cs W b fb) : ST X cs W (.Compare a [.Lt] [b] pos) (e2 (gCmp pLt) fa fb) := st_cmp op_lt opCmp ha hb (nomark _)
theorem st_gt (ha : SV X cs W a fa) (hb : SV X cs W b fb) : ST X cs W (.Compare a [.Gt] [b] pos) (e2 (gCmp pGt) fa fb) := st_cmp op_gt opCmp ha hb (nomark _)
end ops
mutual
def D.py : D → PyData
  | .non => .none
  | .bl b => .bool b
  | .int i => .int i
  | .str s => .str ⟨s.toArray⟩
  | .tup xs => .tuple (D.pys xs)
  | .lst xs => .list (D.pys xs)
  | .scr ns => .list (ns.map PyData.int)
  | .dic _ => .dict []
  | .cls _ => .dict []
  | .exn _ => .dict []
def D.pys : List D → List PyData
  | [] => []
  | d :: ds => d.py :: D.pys ds
end
theorem mk_toL (x : Str) : (⟨x.cps.toList.toArray⟩ : Str) = x := by cases x; simp
section
variable {K : PySem.W.Frag} {Φ H : Hp}
theorem dpInts : ∀ ns : List Int, DpAll K H (ns.map V.int) (ns.map PyData.int)
  | [] => .nil
  | n :: ns => .cons (.int n) (dpInts ns)
mutual
theorem RepD.dp (m : Same Φ H) : ∀ {d : D} {v : V}, RepD K Φ d v → d.py.canLay0 = true → Dp K H v d.py
  | _, _, .non, _ => .non
  | _, _, .bl b, _ => .bl b
  | _, _, .int i, _ => .int i
  | _, _, .str x s e, _ => by
    subst e
    show Dp K H (.str x) (.str ⟨x.cps.toList.toArray⟩)
    rw [mk_toL]
    exact .str x
  | _, _, .tup h r _, z => .tup (sqT_mono m h) (RepDs.dp m r (by simpa [D.py, PyData.canLay0] using z))
  | _, _, .lst h r, z => .lst (SqL.of (m _ _ h)) (RepDs.dp m r (by simpa [D.py, PyData.canLay0] using z))
  | _, _, .scr h, _ => .lst (m.seq h) (dpInts _)
  | _, _, .dic h r, z => by simp [D.py, PyData.canLay0] at z
  | _, _, .exn c h r, z => by simp [D.py, PyData.canLay0] at z
theorem RepDs.dp (m : Same Φ H) : ∀ {d : List D} {v : List V}, RepDs K Φ d v → PyData.canLayAll0 (D.pys d) = true → DpAll K H v (D.pys d)
  | _, _, .nil, _ => .nil
  | _, _, .cons h r, z => by
    simp only [D.pys, PyData.canLayAll0, Bool.and_eq_true] at z
    exact .cons (RepD.dp m h z.1) (RepDs.dp m r z.2)
end
theorem RepV.dp {d : D} {v : V} (h : RepV K Φ H d v) (m : Same Φ H) (z : d.py.canLay0 = true) : Dp K H v d.py := by
  rcases h with h | ⟨a, rfl, h⟩
  · exact h.dp m z
  · cases h with
    | lst e r => exact .lst (SqL.of e) (r.dp m (by simpa [D.py, PyData.canLay0] using z))
    | dic e r => simp [D.py, PyData.canLay0] at z
end
def D.fits (d : D) : Bool := SeqAt.shaped d.py
def gEq : D → D → R Bool
  | .int i, .int j => .ok (decide (i = j))
  | .str x, .str y => .ok (decide (x = y))
  | .bl x, .bl y => .ok (decide (x = y))
  | d, e => if d.fits = true ∧ e.fits = true then .ok (PyData.eqv d.py e.py) else .stuck
def gNe (d e : D) : R Bool := (gEq d e).bind fun k => .ok (!k)
section
variable {X : Cx} {cs : Nat → Addr} {W : WX} {a b c e o : Expr} {fa fb fc : Ev D} {pos : Pos}
theorem str_dec {x y : Str} : decide (x.cps.toList = y.cps.toList) = decide (x = y) := by
  by_cases h : x = y
  · subst h; simp
  · have h2 : ¬ x.cps.toList = y.cps.toList := fun z => h (by cases x; cases y; simp only [Str.mk.injEq]; exact Array.toList_inj.mp z)
    rw [decide_eq_false h, decide_eq_false h2]
theorem v_int {i j : Int} : decide (V.int i = V.int j) = decide (i = j) := by by_cases h : i = j <;> simp [h]
theorem v_bl {i j : Bool} : decide (V.bl i = V.bl j) = decide (i = j) := by by_cases h : i = j <;> simp [h]
theorem v_str {i j : Str} : decide (V.str i = V.str j) = decide (i = j) := by by_cases h : i = j <;> simp [h]
theorem opEq (hu : X.A.units + 64 < cLine) : OpB X cs W (fun x y H Q => rEq x y H Q ∨ rEqD X.K x y H Q) gEq := by
  intro σ Φ H Q v u d e m r1 r2 q
  unfold gEq at q
  split at q
  · cases r1.int_inv; cases r2.int_inv
    exact .inl ⟨rfl, _, rfl, q.ok m v_int.symm⟩
  · obtain ⟨x, rfl, rfl⟩ := r1.str_inv
    obtain ⟨y, rfl, rfl⟩ := r2.str_inv
    exact .inl ⟨rfl, _, rfl, q.ok m (str_dec.trans v_str.symm)⟩
  · cases r1.bl_inv; cases r2.bl_inv
    exact .inl ⟨rfl, _, rfl, q.ok m v_bl.symm⟩
  · split at q
    next h =>
      exact .inr ⟨_, _, r1.dp m (SeqAt.canLay_of_shaped h.1), r2.dp m (SeqAt.canLay_of_shaped h.2), h.1, h.2, _, rfl, q.ok m rfl⟩
    next => exact q.elim
theorem opNe (hu : X.A.units + 64 < cLine) : OpB X cs W (fun x y H Q => rNe x y H Q ∨ rNeD X.K x y H Q) gNe := by
  intro σ Φ H Q v u d e m r1 r2 q
  unfold gNe gEq at q
  split at q
  · cases r1.int_inv; cases r2.int_inv
    exact .inl ⟨rfl, _, rfl, q.ok m (congrArg (fun k => !k) v_int.symm)⟩
  · obtain ⟨x, rfl, rfl⟩ := r1.str_inv
    obtain ⟨y, rfl, rfl⟩ := r2.str_inv
    exact .inl ⟨rfl, _, rfl, q.ok m (congrArg (fun k => !k) (str_dec.trans v_str.symm))⟩
  · cases r1.bl_inv; cases r2.bl_inv
    exact .inl ⟨rfl, _, rfl, q.ok m (congrArg (fun k => !k) v_bl.symm)⟩
  · split at q
    next h =>
      exact .inr ⟨_, _, r1.dp m (SeqAt.canLay_of_shaped h.1), r2.dp m (SeqAt.canLay_of_shaped h.2), h.1, h.2, _, rfl, q.ok m rfl⟩
    next => exact q.elim
theorem rEq_mono {K : PySem.W.Frag} (x y : V) (H : Hp) (Q Q' : VK) (h : ∀ v H, Q v H → Q' v H) (z : rEq x y H Q ∨ rEqD K x y H Q) : rEq x y H Q' ∨ rEqD K x y H Q' := by
  rcases z with ⟨a, b⟩ | ⟨d, e, a, b, c, f, g⟩
  · exact .inl ⟨a, h _ _ b⟩
  · exact .inr ⟨d, e, a, b, c, f, h _ _ g⟩
theorem st_eq (hu : X.A.units + 64 < cLine) (ha : SV X cs W a fa) (hb : SV X cs W b fb) : ST X cs W (.Compare a [.Eq] [b] pos) (e2 gEq fa fb) := st_cmp (op_eq.or (op_eqD hu)) (opEq hu) ha hb (nomark _)
theorem st_ne (hu : X.A.units + 64 < cLine) (ha : SV X cs W a fa) (hb : SV X cs W b fb) : ST X cs W (.Compare a [.NotEq] [b] pos) (e2 gNe fa fb) := st_cmp (op_ne.or (op_neD hu)) (opNe hu) ha hb (nomark _)
theorem sd_eq (hu : X.A.units + 64 < cLine) (ha : SV X cs W a fa) (hb : SV X cs W b fb) : SD X cs W (.Compare a [.Eq] [b] pos) (eBl (e2 gEq fa fb)) := sd_cmp rEq_mono (op_eq.or (op_eqD hu)) (opEq hu) ha hb (nomark _)
def tBool (d : D) : R Bool := match d with | .bl k => .ok k | _ => .stuck
theorem st_val (h : SD X cs W e fa) (he : ∀ whole, isTrue e X.env whole = (do let v ← whole; standAt e.pos; holding [v] (truthy v)) := by intro _; rfl) : ST X cs W e (e1 tBool fa) :=
  ptImp (pt_val h he) fun σ H Q ⟨Φ, ρ, r, q⟩ => tG.bind (rp := rD X.K) r q fun Φ1 H1 d v r1 _ rep q => by
    unfold tBool at q
    split at q
    · cases rep
      exact ⟨_, rfl, q.ok r1.sub rfl⟩
    · exact q.elim
variable {f g h : Ev Bool} {rest : List Expr}
def tNt (f : Ev Bool) : Ev Bool := fun ρ => (f ρ).bind fun k => .ok (!k)
def tAn (f g : Ev Bool) : Ev Bool := fun ρ => (f ρ).bind fun k => if k = true then g ρ else .ok false
def tOo (f g : Ev Bool) : Ev Bool := fun ρ => (f ρ).bind fun k => if k = true then .ok true else g ρ
theorem sw_and1 (h : ST X cs W a f) : SW X cs W (.BoolOp .And [a] pos) f := pw_and1 h
theorem sw_or1 (h : ST X cs W a f) : SW X cs W (.BoolOp .Or [a] pos) f := pw_or1 h
theorem sw_and (h : ST X cs W a f) (k : SW X cs W (.BoolOp .And (b :: rest) pos) g) : SW X cs W (.BoolOp .And (a :: b :: rest) pos) (tAn f g) := pwImp (pw_and h k) fun σ H Q ⟨Φ, ρ, r, q⟩ => tG.bind (rp := rB) r q fun Φ1 H1 d v r1 _ rep q => by
  cases rep
  cases d with
  | false => exact q.ok r1.sub rfl
  | true => exact ⟨Φ1, ρ, r1, q⟩
theorem sw_or (h : ST X cs W a f) (k : SW X cs W (.BoolOp .Or (b :: rest) pos) g) : SW X cs W (.BoolOp .Or (a :: b :: rest) pos) (tOo f g) := pwImp (pw_or h k) fun σ H Q ⟨Φ, ρ, r, q⟩ => tG.bind (rp := rB) r q fun Φ1 H1 d v r1 _ rep q => by
  cases rep
  cases d with
  | true => exact q.ok r1.sub rfl
  | false => exact ⟨Φ1, ρ, r1, q⟩
theorem SW.st (h : SW X cs W e f) : ST X cs W e f := h.pt
/-- and, or as values: bools all -/
def andR (d : D) (x : R D) : R D := match d with | .bl true => x | .bl false => .ok (.bl false) | _ => .stuck
def orR (d : D) (x : R D) : R D := match d with | .bl true => .ok (.bl true) | .bl false => x | _ => .stuck
def notR (d : D) : R D := match d with | .bl k => .ok (.bl (!k)) | _ => .stuck
def eAn (fa fb : Ev D) : Ev D := fun ρ => (fa ρ).bind fun d => andR d (fb ρ)
def eOo (fa fb : Ev D) : Ev D := fun ρ => (fa ρ).bind fun d => orR d (fb ρ)
def eNt (fa : Ev D) : Ev D := e1 notR fa
def eIf (f : Ev Bool) (fa fb : Ev D) : Ev D := fun ρ => (f ρ).bind fun k => if k = true then fa ρ else fb ρ
theorem sd_if (h : ST X cs W c f) (ha : SD X cs W a fa) (hb : SD X cs W b fb) : SD X cs W (.IfExp c a b pos) (eIf f fa fb) := peImp (pe_ifExp h ha hb) fun σ H Q ⟨Φ, ρ, r, q⟩ => tG.bind (rp := rB) r q fun Φ1 H1 d v r1 _ rep q => by
  cases rep
  cases d with
  | true => exact ⟨Φ1, ρ, r1, q⟩
  | false => exact ⟨Φ1, ρ, r1, q⟩
def aNil : Ev (List D) := fun _ => .ok []
def aCons (fa : Ev D) (fs : Ev (List D)) : Ev (List D) := fun ρ => (fa ρ).bind fun d => (fs ρ).bind fun ds => .ok (d :: ds)
variable {es : List Expr} {fs : Ev (List D)}
theorem sa_nil : SA X cs W [] aNil := paImp pa_nil fun σ H Q ⟨Φ, ρ, r, q⟩ => q.ok r.sub .nil
theorem sa_cons (ha : SV X cs W a fa) (hs : SA X cs W es fs) (h : starEach (a :: es) X.env = (false, eval a X.env) :: starEach es X.env := by rfl) : SA X cs W (a :: es) (aCons fa fs) :=
  paImp (pa_cons ha hs h) fun σ H Q ⟨Φ, ρ, r, q⟩ => tG.bind (rp := rV X.K) r q fun Φ1 H1 d v r1 _ rep q => tG.bind (rp := rVs X.K) r1 q fun Φ2 H2 ds vs r2 x2 rep2 q => q.ok r2.sub (.cons (rep.ext x2) rep2)
theorem sad_nil : SAd X cs W [] aNil := paImp pa_nil fun σ H Q ⟨Φ, ρ, r, q⟩ => q.ok r.sub .nil
theorem sad_cons (ha : SD X cs W a fa) (hs : SAd X cs W es fs) (h : starEach (a :: es) X.env = (false, eval a X.env) :: starEach es X.env := by rfl) : SAd X cs W (a :: es) (aCons fa fs) :=
  paImp (pa_cons ha hs h) fun σ H Q ⟨Φ, ρ, r, q⟩ => tG.bind (rp := rD X.K) r q fun Φ1 H1 d v r1 _ rep q => tG.bind (rp := rDs X.K) r1 q fun Φ2 H2 ds vs r2 x2 rep2 q => q.ok r2.sub (.cons (rep.mono x2.mono) rep2)
def eTup (fs : Ev (List D)) : Ev D := fun ρ => (fs ρ).bind fun ds => if ds.length ≤ LIM then .ok (.tup ds) else .stuck
def eLst (fs : Ev (List D)) : Ev D := fun ρ => (fs ρ).bind fun ds => if ds.length ≤ LIM then .ok (.lst ds) else .stuck
theorem sd_tup {x1 : _} (h : SAd X cs W es fs) : SD X cs W (.Tuple es x1 pos) (eTup fs) := peImp (pe_tupF h) fun σ H Q ⟨Φ, ρ, r, q⟩ => tG.bind (rp := rDs X.K) r q fun Φ1 H1 ds vs r1 _ rep q => by
  split at q
  next h => exact ⟨by rw [← RepDs.length rep]; exact lim_le h, fun p o hp hc hd => q _ _ _ (Ext.fresh r1.sub hp) (RepD.tup SqT.ofF (RepDs.mono (Ext.fresh r1.sub hp).mono rep) fun _ => Kn.of hc hd)⟩
  next => exact q.elim
theorem sn_lst (h : SAd X cs W es fs) : SN X cs W (.List es pos) (eLst fs) := peImp (pe_lst h) fun σ H Q ⟨Φ, ρ, r, q⟩ => tG.bindN (rp := rDs X.K) r q fun Φ1 H1 ds vs r1 _ rep q => by
  split at q
  next h => exact ⟨by rw [← RepDs.length rep]; exact lim_le h, fun p hp => q _ _ _ (Ext.alloc r1.sub hp) hp (by
      cases z : Φ1 p with
      | none => rfl
      | some u => rw [r1.sub _ _ z] at hp; cases hp) (RepOwn.lst upd_same rep)⟩
  next => exact q.elim
theorem sd_lst (h : SAd X cs W es fs) : SD X cs W (.List es pos) (eLst fs) := (sn_lst h).sd
def eDic0 : Ev D := fun _ => .ok (.dic [])
theorem sn_dic0 : SN X cs W (.Dict [] [] pos) eDic0 := peImp pe_dnewK fun σ H Q ⟨Φ, ρ, r, q⟩ p hp => q _ _ _ (Ext.alloc r.sub hp) hp (by
      cases z : Φ p with
      | none => rfl
      | some u => rw [r.sub _ _ z] at hp; cases hp) (RepOwn.dic upd_same .nil)
def oR {α : Type} : Option α → R α
  | some a => .ok a
  | none => .stuck
def gIx : D → D → R D
  | .str s, .int i => if s.length ≤ LIM then (oR (atI s i)).bind fun c => .ok (.str [c]) else .stuck
  | d, .int i => (oR d.items).bind fun ds => oR (atI ds i)
  | _, _ => .stuck
theorem RepDs.atI {K : PySem.W.Frag} {Φ : Hp} {ds : List D} {vs : List V} {i : Int} {d : D} (r : RepDs K Φ ds vs) (h : L2.atI ds i = some d) : ∃ v, L2.atI vs i = some v ∧ RepD K Φ d v := by
  unfold L2.atI at h ⊢
  rw [← r.length]
  cases e : ixN ds.length i with
  | none => rw [e] at h; cases h
  | some j =>
    rw [e] at h
    exact r.get h
theorem oR_bind {α β : Type} {x : Option α} {k : α → R β} {P : R β → Prop} (h : P ((oR x).bind k)) (hs : ¬ P .stuck) : ∃ a, x = some a ∧ P (k a) := by
  cases x with
  | none => exact absurd h hs
  | some a => exact ⟨a, rfl, h⟩
theorem sd_ix (ha : SV X cs W a fa) (hb : SV X cs W b fb) (hs : PlainIx b := by exact fun _ _ => rfl) : SD X cs W (.Subscript a b pos) (e2 gIx fa fb) := peImp (pe_ix ix_seq ha hb hs) fun σ H Q h => run2 h fun Φ H v u d e m r1 r2 q => by
  unfold gIx at q
  split at q
  next s i =>
    cases r2.int_inv
    obtain ⟨x, rfl, rfl⟩ := r1.str_inv
    split at q
    next hl =>
      obtain ⟨c, hc, q⟩ := oR_bind (P := Run cs (rD X.K) W σ Φ H Q) q id
      exact .inr (.inr ⟨x, i, c, rfl, rfl, by rw [len_toL]; exact lim_le hl, hc, q.ok m (.str _ _ rfl)⟩)
    next => exact q.elim
  next i _ =>
    cases r2.int_inv
    obtain ⟨ds, hd, q⟩ := oR_bind (P := Run cs (rD X.K) W σ Φ H Q) q id
    obtain ⟨p, vs, rfl, hs, rs⟩ := r1.items m hd
    cases e : atI ds i with
    | none => rw [e] at q; exact q.elim
    | some w =>
      rw [e] at q
      obtain ⟨w', h1, h2⟩ := rs.atI e
      rcases hs with hs | hs
      · exact .inl ⟨p, vs, i, w', rfl, rfl, hs, h1, q.ok m h2⟩
      · exact .inr (.inl ⟨p, vs, i, w', rfl, rfl, hs, h1, q.ok m h2⟩)
  next => exact q.elim
end
end PL
set_option Elab.async false
set_option linter.all false
set_option maxRecDepth 100000
namespace PL
set_option autoImplicit false
open PySem PySem.Spec PyProof.Rows L2
section
variable {X : Cx} {cs : Nat → Addr} {W : WX} {a b c e o : Expr} {fa fb fc : Ev D} {pos p : Pos} {es : List Expr} {fs : Ev (List D)}
def rO : Rp (Option Int) (Option Int) := ⟨fun _ _ a b => a = b, fun h _ => h⟩
def SO (X : Cx) (cs : Nat → Addr) (W : WX) (e : Option Expr) (f : Ev (Option Int)) : Prop := PO X e (tG X.K cs rO W f)
theorem poImp {e : Option Expr} {t t' : TO} (h : PO X e t) (i : ∀ σ H Q, t' σ H Q → t σ H Q) : PO X e t' := by
  obtain ⟨h⟩ := h
  constructor
  intros
  apply h
  · assumption
  · apply i; assumption
def oNone : Ev (Option Int) := fun _ => .ok none
def oSome (fa : Ev D) : Ev (Option Int) := e1 (fun d => match d with | .int i => .ok (some i) | _ => .stuck) fa
theorem so_none : SO X cs W none oNone := poImp po_none fun σ H Q ⟨Φ, ρ, r, q⟩ => q.ok r.sub rfl
theorem so_some (h : SV X cs W e fa) : SO X cs W (some e) (oSome fa) := poImp (po_some h) fun σ H Q ⟨Φ, ρ, r, q⟩ => tG.bind (rp := rV X.K) r q fun Φ1 H1 d v r1 _ rep q => by
  split at q
  · cases RepV.int_inv rep; exact ⟨_, rfl, q.ok r1.sub rfl⟩
  · exact q.elim
def cutL {α : Type} (xs : List α) (lo hi : Option Int) : List α := (xs.drop (HT.sIx xs.length 0 lo)).take (HT.sIx xs.length xs.length hi - HT.sIx xs.length 0 lo)
def gSl (lo hi : Option Int) : D → R D
  | .str s => if s.length ≤ LIM then .ok (.str (cutL s lo hi)) else .stuck
  | .lst ds => .ok (.lst (cutL ds lo hi))
  | .scr ns => .ok (.lst ((cutL ns lo hi).map D.int))
  | .tup ds => .ok (.tup (cutL ds lo hi))
  | _ => .stuck
def eSl (fa : Ev D) (fl fh : Ev (Option Int)) : Ev D := fun ρ => (fa ρ).bind fun d => (fl ρ).bind fun lo => (fh ρ).bind fun hi => gSl lo hi d
theorem RepDs.cut {K : PySem.W.Frag} {Φ : Hp} {ds : List D} {vs : List V} (r : RepDs K Φ ds vs) (lo hi : Option Int) : RepDs K Φ (cutL ds lo hi) (cutV vs lo hi) := by
  unfold cutL cutV
  rw [r.length]
  exact (r.drop _).take _
theorem cutL_map {α β : Type} (f : α → β) (xs : List α) (lo hi : Option Int) : cutL (xs.map f) lo hi = (cutL xs lo hi).map f := by
  unfold cutL
  rw [List.length_map, ← List.map_drop, ← List.map_take]
theorem sd_sl {lo hi : Option Expr} {fl fh : Ev (Option Int)} {p2 : Pos} (ha : SV X cs W a fa) (hl : SO X cs W lo fl) (hh : SO X cs W hi fh) : SD X cs W (.Subscript a (.Slice lo hi none p2) pos) (eSl fa fl fh) :=
  peImp (pe_slice (sl_list.or (sl_tupF.or sl_str)) ha hl hh) fun σ H Q ⟨Φ, ρ, r, q⟩ => by
    refine tG.bind (rp := rV X.K) r q fun Φ1 H1 d v r1 _ rep q => ?_
    refine tG.bind (rp := rO) r1 q fun Φ2 H2 l l' r2 x2 e2 q => ?_
    refine tG.bind (rp := rO) r2 q fun Φ3 H3 h h' r3 x3 e3 q => ?_
    cases e2; cases e3
    have rep3 := (RepV.ext rep x2).ext x3
    have m := r3.sub
    unfold gSl at q
    split at q
    · obtain ⟨x, rfl, rfl⟩ := rep3.str_inv
      split at q
      next hl =>
        refine .inr (.inr ⟨x, rfl, by rw [len_toL]; exact lim_le hl, q.ok m (.str _ _ ?_)⟩)
        simp [cutS, cutL, Str.length]
      next => exact q.elim
    · obtain ⟨p, vs, rfl, h1, h2⟩ := rep3.lst_inv m
      exact .inl ⟨p, vs, rfl, SqL.of h1, fun z hz => q _ _ _ (Ext.fresh m hz) (RepD.lst upd_same ((h2.cut l h).mono (Ext.fresh m hz).mono))⟩
    · obtain ⟨p, rfl, h1⟩ := rep3.scr_inv m
      refine .inl ⟨p, _, rfl, h1, fun z hz => q _ _ _ (Ext.fresh m hz) (RepD.lst upd_same ?_)⟩
      have e : ∀ ns : List Int, cutV (List.map V.int ns) l h = List.map V.int (cutL ns l h) := fun ns => cutL_map V.int ns l h
      rw [e]
      exact RepDs.ints _
    · obtain ⟨p, vs, rfl, h1, h2⟩ := rep3.tup_inv m
      refine .inr (.inl ⟨p, vs, rfl, h1, fun hw => ?_, fun _ z o hz hc hd => q _ _ _ (Ext.fresh m hz) (RepD.tup SqT.ofF ((h2.cut l h).mono (Ext.fresh m hz).mono) fun _ => Kn.of hc hd)⟩)
      rw [← h2.length] at hw
      rcases rep3 with r | ⟨_, e, w⟩
      · refine q.ok m ?_
        unfold cutL
        rw [hw.1, hw.2, List.drop_zero, Nat.sub_zero, List.take_length]
        exact r
      · cases w
    · exact q.elim
def CallD (X : Cx) (cs : Nat → Addr) (W : WX) (r : List V → Hp → VK → Prop) (g : List D → R D) : Prop := ∀ (σ : L2.St) (Φ H : Hp) (Q : VK) (vs : List V) (ds : List D), Same Φ H → RepVs X.K Φ H ds vs → Run cs (rD X.K) W σ Φ H Q (g ds) → r vs H Q
def eCall (g : List D → R D) (fs : Ev (List D)) : Ev D := fun ρ => (fs ρ).bind g
theorem runA {r : List V → Hp → VK → Prop} {g : List D → R D} (hg : CallD X cs W r g) {σ : L2.St} {H : Hp} {Q : VK} (h : tG X.K cs (rD X.K) W (eCall g fs) σ H Q) : tG X.K cs (rVs X.K) W fs σ H fun vs H1 => r vs H1 Q := by
  obtain ⟨Φ, ρ, z, q⟩ := h
  exact tG.bind (rp := rVs X.K) z q fun Φ1 H1 ds vs r1 _ rep q => hg σ Φ1 H1 Q vs ds r1.sub rep q
theorem sd_callB {r : List V → Hp → VK → Prop} {g : List D → R D} {id : String} {x : Str} (hc : CallR X (.builtin id) r) (hd : CallD X cs W r g) (hv : bootBuiltins x = some (.builtin id)) (hg : Gl X x) (hm : X.mg x = none) (ha : SA X cs W (e :: es) fs) (hn : x ≠ "__name__" := by decide) (hdb : (x == ("__debug__" : Str)) = false := by decide)
    (he : starEach (e :: es) X.env = (false, eval e X.env) :: starEach es X.env := by rfl) (hpl : (backTo pos (starEach es X.env)).any (·.1) = false := by rfl) : SD X cs W (.Call (.Name x p) (e :: es) [] pos) (eCall g fs) :=
  peImp (pe_callB hc hg hm hv ha hn hdb he hpl) fun σ H Q h => runA hd h
theorem sd_callT {r : List V → Hp → VK → Prop} {g : List D → R D} {id : String} {x : Str} (hc : CallR X (.type id) r) (hd : CallD X cs W r g) (hv : bootBuiltins x = some (.type id)) (hg : Gl X x) (hm : X.mg x = none) (ha : SA X cs W (e :: es) fs) (hn : x ≠ "__name__" := by decide) (hdb : (x == ("__debug__" : Str)) = false := by decide)
    (he : starEach (e :: es) X.env = (false, eval e X.env) :: starEach es X.env := by rfl) (hpl : (backTo pos (starEach es X.env)).any (·.1) = false := by rfl) : SD X cs W (.Call (.Name x p) (e :: es) [] pos) (eCall g fs) :=
  peImp (pe_callTy hc hg hm hv ha hn hdb he hpl) fun σ H Q h => runA hd h
def gLen : List D → R D
  | [.str s] => if s.length ≤ LIM then .ok (.int s.length) else .stuck
  | [d] => (oR d.items).bind fun ds => .ok (.int ds.length)
  | _ => .stuck
theorem RepVs.one {K : PySem.W.Frag} {Φ H : Hp} {d : D} {vs : List V} (h : RepVs K Φ H [d] vs) : ∃ v, vs = [v] ∧ RepV K Φ H d v := by
  cases h with
  | cons h r => cases r; exact ⟨_, rfl, h⟩
theorem RepVs.two {K : PySem.W.Frag} {Φ H : Hp} {d d2 : D} {vs : List V} (h : RepVs K Φ H [d, d2] vs) : ∃ v u, vs = [v, u] ∧ RepV K Φ H d v ∧ RepV K Φ H d2 u := by
  cases h with
  | cons h r =>
    obtain ⟨u, rfl, h2⟩ := r.one
    exact ⟨_, _, rfl, h, h2⟩
theorem cd_len : CallD X cs W (fun xs H Q => ∃ x n, xs = [x] ∧ LenV X.K x H n ∧ Q (.int n) H) gLen := fun σ Φ H Q vs ds m r q => by
  unfold gLen at q
  split at q
  · obtain ⟨v, rfl, h⟩ := r.one
    obtain ⟨x, rfl, rfl⟩ := h.str_inv
    split at q
    next hl => exact ⟨_, _, rfl, ⟨by rw [len_toL]; exact lim_le hl, rfl⟩, by rw [len_toL]; exact q.ok m (.int _)⟩
    next => exact q.elim
  · obtain ⟨v, rfl, h⟩ := r.one
    obtain ⟨ds, hd, q⟩ := oR_bind (P := Run cs (rD X.K) W σ Φ H Q) q id
    obtain ⟨p, vs, rfl, hs, rs⟩ := h.items m hd
    refine ⟨_, vs.length, rfl, ?_, by rw [← rs.length]; exact q.ok m (.int _)⟩
    rcases hs with hs | hs
    · exact .inl ⟨vs, hs, rfl⟩
    · exact .inr ⟨vs, hs, rfl⟩
  · exact q.elim
theorem sd_len (hg : Gl X "len") (hm : X.mg "len" = none) (ha : SA X cs W (e :: es) fs) 
    (he : starEach (e :: es) X.env = (false, eval e X.env) :: starEach es X.env := by rfl) (hpl : (backTo pos (starEach es X.env)).any (·.1) = false := by rfl) : SD X cs W (.Call (.Name "len" p) (e :: es) [] pos) (eCall gLen fs) := sd_callB call_len cd_len boot_len hg hm ha (by decide) (by decide) he hpl
def gIntOf : List D → R D
  | [.int i] => .ok (.int i)
  | [.bl k] => .ok (.int (if k then 1 else 0))
  | _ => .stuck
def gMax2 : List D → R D
  | [.int i, .int j] => .ok (.int (if j > i then j else i))
  | _ => .stuck
def gMin2 : List D → R D
  | [.int i, .int j] => .ok (.int (if j < i then j else i))
  | _ => .stuck
theorem sd_max2 (hc : X.calm = true) (hg : Gl X "max") (hm : X.mg "max" = none) (ha : SA X cs W (e :: es) fs) 
    (he : starEach (e :: es) X.env = (false, eval e X.env) :: starEach es X.env := by rfl) (hpl : (backTo pos (starEach es X.env)).any (·.1) = false := by rfl) : SD X cs W (.Call (.Name "max" p) (e :: es) [] pos) (eCall gMax2 fs) :=
  sd_callB (call_max2 hc) (fun σ Φ H Q vs ds m r q => by
    unfold gMax2 at q
    split at q
    · obtain ⟨v, u, rfl, h, h2⟩ := r.two
      cases h.int_inv; cases h2.int_inv
      exact ⟨_, _, rfl, q.ok m (.int _)⟩
    · exact q.elim) (by decide +kernel) hg hm ha (by decide) (by decide) he hpl
def gTupleOf : List D → R D
  | [.tup ds] => .ok (.tup ds)
  | [.lst ds] => .ok (.tup ds)
  | [.scr ns] => .ok (.tup (ns.map D.int))
  | _ => .stuck
theorem sd_tupleOf (hg : Gl X "tuple") (hm : X.mg "tuple" = none) (ha : SA X cs W (e :: es) fs) 
    (he : starEach (e :: es) X.env = (false, eval e X.env) :: starEach es X.env := by rfl) (hpl : (backTo pos (starEach es X.env)).any (·.1) = false := by rfl) : SD X cs W (.Call (.Name "tuple" p) (e :: es) [] pos) (eCall gTupleOf fs) :=
  sd_callT call_tupleF (fun σ Φ H Q vs ds m r q => by
    unfold gTupleOf at q
    split at q
    · obtain ⟨v, rfl, h⟩ := r.one
      obtain ⟨p, vs, rfl, h1, h2⟩ := h.tup_inv m
      refine ⟨_, vs, rfl, .inr ⟨h1, ?_⟩⟩
      rcases h with h | ⟨_, e, w⟩
      · exact q.ok m h
      · cases w
    · obtain ⟨v, rfl, h⟩ := r.one
      obtain ⟨p, vs, rfl, h1, h2⟩ := h.lst_inv m
      exact ⟨_, vs, rfl, .inl ⟨SqL.of h1, fun l o hl hc hd => q _ _ _ (Ext.fresh m hl) (RepD.tup SqT.ofF (h2.mono (Ext.fresh m hl).mono) fun _ => Kn.of hc hd)⟩⟩
    · obtain ⟨v, rfl, h⟩ := r.one
      obtain ⟨p, rfl, h1⟩ := h.scr_inv m
      exact ⟨_, _, rfl, .inl ⟨h1, fun l o hl hc hd => q _ _ _ (Ext.fresh m hl) (RepD.tup SqT.ofF (RepDs.ints _) fun _ => Kn.of hc hd)⟩⟩
    · exact q.elim) (by decide +kernel) hg hm ha (by decide) (by decide) he hpl
def gListOf : List D → R D
  | [.tup ds] => .ok (.lst ds)
  | [.lst ds] => .ok (.lst ds)
  | [.scr ns] => .ok (.lst (ns.map D.int))
  | _ => .stuck
def D.ty : D → Option String
  | .non => some "NoneType"
  | .bl _ => some "bool"
  | .int _ => some "int"
  | .str _ => some "str"
  | .tup _ => some "tuple"
  | .lst _ => some "list"
  | .dic _ => some "dict"
  | _ => none
theorem sqT_ty {K : PySem.W.Frag} {Φ : Hp} {a : Addr} {vs : List V} (h : SqT K Φ a vs) : TyX K Φ (.ref a) (.type "tuple") := by
  rcases h with (h | ⟨o, h⟩) | ⟨o, its, n, h1, h2, _⟩
  · exact .base (.tup h)
  · exact .fTuple h
  · exact .kTuple h1 h2
theorem RepV.ty {K : PySem.W.Frag} {Φ H : Hp} {d : D} {v : V} {n : String} (h : RepV K Φ H d v) (m : Same Φ H) (e : d.ty = some n) : TyX K H v (.type n) := by
  cases d <;> simp only [D.ty, Option.some.injEq, reduceCtorEq] at e <;> subst e
  · cases h.non_inv; exact .base .non
  · cases h.bl_inv; exact .base (.bl _)
  · cases h.int_inv; exact .base (.int _)
  · obtain ⟨x, rfl, _⟩ := h.str_inv; exact .base (.str _)
  · obtain ⟨a, vs, rfl, h1, _⟩ := h.tup_inv m; exact sqT_ty h1
  · obtain ⟨a, vs, rfl, h1, _⟩ := h.lst_inv m; exact .base (.lst h1)
  · obtain ⟨a, vs, rfl, h1, _⟩ := h.dic_inv m; exact .base (.dK h1)
/-- the answer of isinstance by the type's name -/
def gIsi (n : String) (d : D) : R Bool := (oR d.ty).bind fun t => (oR (kitB t n)).bind fun b => .ok b
/-- strs of a sequence -/
def D.strs : List D → Option (List (List Nat))
  | [] => some []
  | .str s :: ds => (D.strs ds).map (s :: ·)
  | _ => none
theorem RepDs.strs {K : PySem.W.Frag} {Φ : Hp} : ∀ {ds : List D} {vs : List V} {ss : List (List Nat)}, RepDs K Φ ds vs → D.strs ds = some ss → ∃ xs : List Str, vs = xs.map V.str ∧ xs.map (·.cps.toList) = ss
  | _, _, _, .nil, e => by simp only [D.strs, Option.some.injEq] at e; subst e; exact ⟨[], rfl, rfl⟩
  | d :: ds, _, ss, .cons h r, e => by
    cases d <;> simp only [D.strs, Option.map_eq_some_iff, reduceCtorEq] at e
    obtain ⟨ss', e1, e2⟩ := e
    obtain ⟨xs, rfl, h2⟩ := RepDs.strs r e1
    obtain ⟨x, h3, h4⟩ := (RepD.toV (H := Φ) h).str_inv
    subst h3
    exact ⟨x :: xs, rfl, by rw [← e2, List.map_cons, h2, h4]⟩
def eM1 (g : List Nat → D → R D) (fa fb : Ev D) : Ev D := fun ρ => (fa ρ).bind fun x => match x with | .str s => (fb ρ).bind (g s) | _ => .stuck
def gJoin (s : List Nat) (d : D) : R D := (oR d.items).bind fun ds => (oR (D.strs ds)).bind fun ss => if (ss.map (·.length)).sum + ss.length * s.length ≤ LIM then .ok (.str (TL.joinL s ss)) else .stuck
theorem runM1 {g : List Nat → D → R D} {r : V → List V → Hp → VK → Prop} {σ : L2.St} {H : Hp} {Q : VK} (h : tG X.K cs (rD X.K) W (eM1 g fa fb) σ H Q)
    (c : ∀ Φ H (x : Str) u d, Same Φ H → RepV X.K Φ H d u → Run cs (rD X.K) W σ Φ H Q (g x.cps.toList d) → r (.str x) [u] H Q) : tM1 r (tG X.K cs (rV X.K) W fa) (tG X.K cs (rV X.K) W fb) σ H Q := by
  obtain ⟨Φ, ρ, z, q⟩ := h
  refine tG.bind (rp := rV X.K) z q fun Φ1 H1 d v r1 _ rep q => ?_
  split at q
  next s =>
    obtain ⟨x, rfl, rfl⟩ := RepV.str_inv rep
    exact ⟨⟨x, rfl⟩, tG.bind (rp := rV X.K) r1 q fun Φ2 H2 d2 u r2 x2 rep2 q => c Φ2 H2 x u d2 r2.sub rep2 q⟩
  next => exact q.elim
theorem sd_join {apos : Pos} (ho : SV X cs W o fa) (ha : SV X cs W e fb) (hs : starEach [e] X.env = [(false, eval e X.env)] := by rfl) (hbase : attributeBase o "join" X.env (eval o X.env) = eval o X.env := by rfl) (hline : (apos.endLine == pos.line) = true := by rfl) :
    SD X cs W (.Call (.Attribute o "join" apos) [e] [] pos) (eM1 gJoin fa fb) := peImp (pe_join ho ha hs hbase hline) fun σ H Q h => runM1 h fun Φ H x u d m r q => by
  unfold gJoin at q
  obtain ⟨ds, hd, q⟩ := oR_bind (P := Run cs (rD X.K) W σ Φ H Q) q id
  obtain ⟨ss, hs, q⟩ := oR_bind (P := Run cs (rD X.K) W σ Φ H Q) q id
  obtain ⟨p, vs, rfl, h1, h2⟩ := r.items m hd
  obtain ⟨xs, rfl, hx⟩ := h2.strs hs
  split at q
  next hl =>
    refine ⟨x, p, xs, rfl, rfl, h1, ?_, q.ok m (.str _ _ ?_)⟩
    · have e1 : (xs.map (·.length)).sum + xs.length * x.length ≤ LIM := by
        have e2 : xs.map (·.length) = ss.map (·.length) := by
          rw [← hx, List.map_map]
          exact List.map_congr_left fun y _ => len_toL y
        have e3 : xs.length = ss.length := by rw [← hx, List.length_map]
        rw [e2, e3, len_toL]
        exact hl
      exact Nat.le_trans e1 (by decide)
    · rw [← hx, TL.join_eq]
      exact TL.tl_join x xs
  next => exact q.elim
end
structure WalksF (K : PySem.W.Frag) (J : It) (ds : List D) (Φ0 : Hp) : Prop where
  go : ∀ (Φ H : Hp) (i : Nat), Same Φ0 Φ → Same Φ H → i < ds.length → J.go i H
  stop : ∀ (Φ H : Hp) (i : Nat), Same Φ0 Φ → Same Φ H → ds.length ≤ i → J.stop i H
  yld : ∀ (Φ H : Hp) (i : Nat) (x : V) (H' : Hp) (d : D), Same Φ0 Φ → Same Φ H → ds[i]? = some d → J.yld i H x H' → ∃ Φ', Ext Φ H Φ' H' ∧ RepD K Φ' d x
structure WalksE (K : PySem.W.Frag) (J : It) (ds : List D) (Φ0 H0 : Hp) : Prop where
  go : ∀ (Φ H : Hp) (i : Nat), Ext Φ0 H0 Φ H → i < ds.length → J.go i H
  stop : ∀ (Φ H : Hp) (i : Nat), Ext Φ0 H0 Φ H → ds.length ≤ i → J.stop i H
  yld : ∀ (Φ H : Hp) (i : Nat) (x : V) (H' : Hp) (d : D), Ext Φ0 H0 Φ H → ds[i]? = some d → J.yld i H x H' → ∃ Φ', Ext Φ H Φ' H' ∧ RepD K Φ' d x
theorem WalksF.e {K : PySem.W.Frag} {J : It} {ds : List D} {Φ0 H0 : Hp} (w : WalksF K J ds Φ0) : WalksE K J ds Φ0 H0 :=
  ⟨fun Φ H i x => w.go Φ H i x.mono x.sub, fun Φ H i x => w.stop Φ H i x.mono x.sub, fun Φ H i x H' d e => w.yld Φ H i x H' d e.mono e.sub⟩
def rIF (K : PySem.W.Frag) : Rp (List D) It := ⟨fun Φ _ ds J => WalksF K J ds Φ, fun w x => ⟨fun Φ H i m => w.go Φ H i (x.mono.trans m), fun Φ H i m => w.stop Φ H i (x.mono.trans m), fun Φ H i y H' d m => w.yld Φ H i y H' d (x.mono.trans m)⟩⟩
def rIE (K : PySem.W.Frag) : Rp (List D) It := ⟨fun Φ H ds J => WalksE K J ds Φ H, fun w x => ⟨fun Φ H i m => w.go Φ H i (x.trans m), fun Φ H i m => w.stop Φ H i (x.trans m), fun Φ H i y H' d m => w.yld Φ H i y H' d (x.trans m)⟩⟩
def SIF (X : Cx) (cs : Nat → Addr) (W : WX) (tg e : Expr) (f : Ev (List D)) : Prop := PI X tg e (tG X.K cs (rIF X.K) W f)
def SIE (X : Cx) (cs : Nat → Addr) (W : WX) (tg e : Expr) (f : Ev (List D)) : Prop := PI X tg e (tG X.K cs (rIE X.K) W f)
theorem piImp {X : Cx} {tg e : Expr} {t t' : TI} (h : PI X tg e t) (i : ∀ σ H Q, t' σ H Q → t σ H Q) : PI X tg e t' := ⟨fun pins s σ H Q I hw => h.run pins s σ H Q I (i σ H Q hw)⟩
theorem piOr {X : Cx} {tg e : Expr} {t t' : TI} (h : PI X tg e t) (h' : PI X tg e t') : PI X tg e (fun σ H R => t σ H R ∨ t' σ H R) := ⟨fun pins s σ H Q I hw => by
  rcases hw with hw | hw
  · exact h.run pins s σ H Q I hw
  · exact h'.run pins s σ H Q I hw⟩
theorem SIF.e {X : Cx} {cs : Nat → Addr} {W : WX} {tg e : Expr} {f : Ev (List D)} (h : SIF X cs W tg e f) : SIE X cs W tg e f := piImp h fun σ H Q ⟨Φ, ρ, r, q⟩ => by
  refine ⟨Φ, ρ, r, ?_⟩
  cases e : f ρ with
  | ok a => rw [e] at q; exact fun Φ' H' b x y => q Φ' H' b x (WalksF.e y)
  | exc z => rw [e] at q; exact q
  | stuck => rw [e] at q; exact q
section
variable {X : Cx} {cs : Nat → Addr} {W : WX} {a b c e tg : Expr} {fa fb fc : Ev D} {pos p : Pos} {es : List Expr} {fs : Ev (List D)}
theorem walk_lstF {K : PySem.W.Frag} {Φ : Hp} {p : Addr} {vs : List V} {ds : List D} (h : SqL K Φ p vs) (r : RepDs K Φ ds vs) : WalksF K (Itl K p) ds Φ := by
  refine ⟨fun Φ1 H1 i m s hi => ?_, fun Φ1 H1 i m s hi => ?_, fun Φ1 H1 i v H' d m s hd y => ?_⟩
  · have hv : i < vs.length := by rw [← r.length]; exact hi
    exact ⟨vs, vs[i], (m.trans s).seq h, by simp [hv]⟩
  · exact ⟨vs, (m.trans s).seq h, by rw [← r.length]; exact hi⟩
  · obtain ⟨rfl, y⟩ := y
    obtain ⟨u, h1, h2⟩ := r.get hd
    have h3 := y vs ((m.trans s).seq h)
    rw [h1] at h3
    cases h3
    exact ⟨Φ1, .refl s, h2.mono m⟩
theorem walk_tup {K : PySem.W.Frag} {Φ : Hp} {p : Addr} {vs : List V} {ds : List D} (h : SqT K Φ p vs) (r : RepDs K Φ ds vs) : WalksF K (Itt K p) ds Φ := by
  refine ⟨fun Φ1 H1 i m s hi => ?_, fun Φ1 H1 i m s hi => ?_, fun Φ1 H1 i v H' d m s hd y => ?_⟩
  · have hv : i < vs.length := by rw [← r.length]; exact hi
    exact ⟨vs, vs[i], sqT_mono (m.trans s) h, by simp [hv]⟩
  · exact ⟨vs, sqT_mono (m.trans s) h, by rw [← r.length]; exact hi⟩
  · obtain ⟨rfl, y⟩ := y
    obtain ⟨u, h1, h2⟩ := r.get hd
    have h3 := y vs (sqT_mono (m.trans s) h)
    rw [h1] at h3
    cases h3
    exact ⟨Φ1, .refl s, h2.mono m⟩
def iSeq (fa : Ev D) : Ev (List D) := fun ρ => (fa ρ).bind fun d => oR d.items
theorem sif_seq (h : SD X cs W e fa) : SIF X cs W tg e (iSeq fa) := piImp (piOr (pi_list h) (pi_tup h)) fun σ H Q ⟨Φ, ρ, r, q⟩ => by
  unfold iSeq at q
  cases ed : fa ρ with
  | stuck => rw [ed] at q; exact q.elim
  | exc x => exact .inl (tG.bind' (rp := rD X.K) r q fun Φ1 H1 d' v e1 r1 x rep q => by rw [ed] at e1; cases e1)
  | ok d =>
    cases d with
    | tup ds =>
      refine .inr (tG.bind' (rp := rD X.K) r q fun Φ1 H1 d' v e1 r1 x rep q => ?_)
      rw [ed] at e1; cases e1
      cases rep with
      | tup h1 h2 => exact ⟨_, rfl, ⟨_, sqT_mono r1.sub h1⟩, q.ok r1.sub (walk_tup h1 h2)⟩
    | lst ds =>
      refine .inl (tG.bind' (rp := rD X.K) r q fun Φ1 H1 d' v e1 r1 x rep q => ?_)
      rw [ed] at e1; cases e1
      cases rep with
      | lst h1 h2 => exact ⟨_, rfl, ⟨_, SqL.of (r1.sub _ _ h1)⟩, q.ok r1.sub (walk_lstF (SqL.of h1) h2)⟩
    | scr ns =>
      refine .inl (tG.bind' (rp := rD X.K) r q fun Φ1 H1 d' v e1 r1 x rep q => ?_)
      rw [ed] at e1; cases e1
      cases rep with
      | scr h1 => exact ⟨_, rfl, ⟨_, r1.sub.seq h1⟩, q.ok r1.sub (walk_lstF h1 (RepDs.ints _))⟩
    | _ => rw [ed] at q; exact q.elim
def rangeD (a b : Int) : List D := (List.range (b - a).toNat).map fun i => D.int (a + (i : Nat))
theorem walk_rng {K : PySem.W.Frag} {Φ : Hp} (a b : Int) : WalksF K (Itr a (b - a).toNat) (rangeD a b) Φ := by
  have hl : (rangeD a b).length = (b - a).toNat := by simp [rangeD]
  refine ⟨fun Φ1 H1 i m s hi => ?_, fun Φ1 H1 i m s hi => ?_, fun Φ1 H1 i v H' d m s hd y => ?_⟩
  · rw [hl] at hi; exact hi
  · rw [hl] at hi; exact hi
  · obtain ⟨rfl, rfl⟩ := y
    have hi : i < (b - a).toNat := by rw [← hl]; exact (List.getElem?_eq_some_iff.mp hd).1
    have e : d = .int (a + (i : Nat)) := by
      unfold rangeD at hd
      rw [List.getElem?_map, List.getElem?_range hi] at hd
      exact (Option.some.inj hd).symm
    subst e
    exact ⟨Φ1, .refl s, .int _⟩
def smallR (i : Int) : Prop := -(2 ^ 62) ≤ i ∧ i < 2 ^ 62
instance (i : Int) : Decidable (smallR i) := inferInstanceAs (Decidable (_ ∧ _))
def gRng1 : List D → R (List D)
  | [.int n] => if smallR n then .ok (rangeD 0 n) else .stuck
  | _ => .stuck
def gRng2 : List D → R (List D)
  | [.int a, .int b] => if smallR a ∧ smallR b then .ok (rangeD a b) else .stuck
  | _ => .stuck
def iRg (g : List D → R (List D)) (fs : Ev (List D)) : Ev (List D) := fun ρ => (fs ρ).bind g
theorem sif_range1 (hg : Gl X "range") (hm : X.mg "range" = none) (ha : SA X cs W [a] fs) (hs : starEach [a] X.env = [(false, eval a X.env)] := by rfl) : SIF X cs W tg (.Call (.Name "range" p) [a] [] pos) (iRg gRng1 fs) :=
  piImp (pi_range1 hg hm ha hs) fun σ H Q ⟨Φ, ρ, r, q⟩ => tG.bind (rp := rVs X.K) r q fun Φ1 H1 ds vs r1 _ rep q => by
    unfold gRng1 at q
    split at q
    · obtain ⟨v, rfl, h⟩ := RepVs.one rep
      cases h.int_inv
      split at q
      next h =>
        refine ⟨_, rfl, h.1, h.2, q.ok r1.sub ?_⟩
        have w := walk_rng (K := X.K) (Φ := Φ1) 0 (by assumption)
        rwa [Int.sub_zero] at w
      next => exact q.elim
    · exact q.elim
end
def setMany {α : Type} (f : V → α) (l : List α) : List (Nat × V) → List α
  | [] => l
  | (i, v) :: r => setMany f (l.set i (f v)) r
def setS (ρ : List Sl) : List (Nat × D) → List Sl
  | [] => ρ
  | (i, d) :: r => setS (ρ.set i (.val d)) r
inductive RepAs (K : PySem.W.Frag) (Φ : Hp) : List (Nat × D) → List (Nat × V) → Prop
  | nil : RepAs K Φ [] []
  | cons {i : Nat} {d : D} {v : V} {ds : List (Nat × D)} {vs : List (Nat × V)} : RepD K Φ d v → RepAs K Φ ds vs → RepAs K Φ ((i, d) :: ds) ((i, v) :: vs)
abbrev setV (σ : L2.St) (l : List (Nat × V)) : L2.St := setMany (fun v => some v) σ l
theorem Rel.set {K : PySem.W.Frag} {Φ H : Hp} {σ : L2.St} {ρ : List Sl} {i : Nat} {d : D} {v : V} (r : Rel K Φ H σ ρ) (h : RepD K Φ d v) : Rel K Φ H (σ.set i (some v)) (ρ.set i (.val d)) := r.put0 (s := .val d) ⟨v, rfl, h⟩ fun _ _ => rfl
theorem Rel.setMany {K : PySem.W.Frag} {Φ H : Hp} : ∀ {as : List (Nat × D)} {ws : List (Nat × V)} {σ : L2.St} {ρ : List Sl}, Rel K Φ H σ ρ → RepAs K Φ as ws → Rel K Φ H (setV σ ws) (setS ρ as)
  | _, _, _, _, r, .nil => r
  | (i, d) :: as, (_, v) :: ws, σ, ρ, r, .cons h t => Rel.setMany (σ := σ.set i (some v)) (ρ := ρ.set i (.val d)) (r.set h) t
/-- a target: what it does with a value -/
structure Tgt (X : Cx) (tg : Expr) (g : TG) (ft : D → R (List (Nat × D))) : Prop where
  pg : PG X tg g
  run : ∀ (Φ H : Hp) (σ : L2.St) (d : D) (v : V) (as : List (Nat × D)) (Q : L2.St → Hp → Prop), Same Φ H → RepD X.K Φ d v → ft d = .ok as → (∀ ws, RepAs X.K Φ as ws → Q (setV σ ws) H) → g v σ H Q
def ftOne (i : Nat) (d : D) : R (List (Nat × D)) := .ok [(i, d)]
def ftTup (is : List Nat) : D → R (List (Nat × D))
  | .tup ds => if ds.length = is.length then .ok (is.zip ds) else .stuck
  | _ => .stuck
section
variable {X : Cx} {tg : Expr} {pos : Pos} {es : List Expr}
theorem tg_name (i : Nat) {x : Str} (hN : X.N.Nodup) (hi : X.N[i]? = some x := by rfl) (hx : Loc X.env.scope x := by first | exact Or.inl rfl | exact Or.inr rfl) (hf : X.fn x = true ∨ X.env.scope.names.lookup x = some .local := by first | exact .inl rfl | exact .inr rfl | assumption) : Tgt X (.Name x pos) (gName i) (ftOne i) :=
  ⟨pg_name hN hi hx hf, fun Φ H σ d v as Q m r e k => by
    cases e
    exact k [(i, v)] (.cons r .nil)⟩
structure Tgs (X : Cx) (es : List Expr) (gs : TGs) (is : List Nat) : Prop where
  pg : PGs X es gs
  run : ∀ (vs : List V) (σ : L2.St) (H : Hp) (Q : L2.St → Hp → Prop), vs.length = is.length → Q (setV σ (is.zip vs)) H → gs vs σ H Q
  len : es.length = is.length
theorem tgs_nil : Tgs X [] gNil [] := ⟨pgs_nil, fun vs σ H Q h q => ⟨List.eq_nil_of_length_eq_zero h, q⟩, rfl⟩
theorem tgs_cons (i : Nat) {x : Str} {gs : TGs} {is : List Nat} (hN : X.N.Nodup) (t : Tgs X es gs is) (hi : X.N[i]? = some x := by rfl) (hx : Loc X.env.scope x := by first | exact Or.inl rfl | exact Or.inr rfl) (hf : X.fn x = true ∨ X.env.scope.names.lookup x = some .local := by first | exact .inl rfl | exact .inr rfl | assumption) : Tgs X (.Name x pos :: es) (gCons (gName i) gs) (i :: is) :=
  ⟨pgs_cons (pg_name hN hi hx hf) t.pg, fun vs σ H Q h q => by
    cases vs with
    | nil => cases h
    | cons v vs => exact ⟨v, vs, rfl, t.run vs _ H Q (by simpa using h) q⟩, by simp [t.len]⟩
theorem repAs_zip {K : PySem.W.Frag} {Φ : Hp} : ∀ {is : List Nat} {ds : List D} {vs : List V}, RepDs K Φ ds vs → RepAs K Φ (is.zip ds) (is.zip vs)
  | [], _, _, _ => .nil
  | _ :: _, _, _, .nil => .nil
  | i :: is, _, _, .cons h r => .cons h (repAs_zip r)
theorem tg_tup {k : Nat} {gs : TGs} {is : List Nat} (hc : X.calm = true) (t : Tgs X es gs is) (hn : (assignEach es X.env).length = is.length := by rfl) (hst : (assignEach es X.env).findIdx? (·.1) = none := by rfl) : Tgt X (.Tuple es k pos) (gTup X.K is.length gs) (ftTup is) :=
  ⟨pg_tup hc t.pg hn hst, fun Φ H σ d v as Q m r e kk => by
    unfold ftTup at e
    split at e
    · split at e
      next hl =>
        cases e
        cases r with
        | tup h1 h2 => exact ⟨_, _, rfl, sqT_mono m h1, by rw [← hl, h2.length], t.run _ _ _ _ (by rw [← h2.length, hl]) (kk _ (repAs_zip h2))⟩
      next => cases e
    · cases e⟩
end
def noX {α : Type} : R α → R α
  | .ok a => .ok a
  | _ => .stuck
def wipeS (ρ : List Sl) : List Nat → List Sl
  | [] => ρ
  | v :: vs => (wipeS ρ vs).set v .emp
theorem Rel.drop {K : PySem.W.Frag} {Φ H : Hp} {σ : L2.St} {ρ : List Sl} (r : Rel K Φ H σ ρ) (i : Nat) : Rel K Φ H (σ.set i none) (ρ.set i .emp) := r.put0 (s := .emp) trivial fun _ e => by cases e
theorem Rel.wipe {K : PySem.W.Frag} {Φ H : Hp} {σ : L2.St} {ρ : List Sl} (r : Rel K Φ H σ ρ) : ∀ vs : List Nat, Rel K Φ H (L2.wipe σ vs) (wipeS ρ vs)
  | [] => r
  | v :: vs => (Rel.wipe r vs).drop v
theorem wipe_set {σ : L2.St} {i : Nat} {x : Option V} : ∀ {vs : List Nat}, i ∈ vs → L2.wipe (σ.set i x) vs = L2.wipe σ vs
  | v :: vs, h => by
    unfold L2.wipe
    rcases List.mem_cons.mp h with h | h
    · subst h
      by_cases hm : i ∈ vs
      · rw [wipe_set hm]
      · have aux : ∀ (us : List Nat) (σ : L2.St), (L2.wipe (σ.set i x) us).set i none = (L2.wipe σ us).set i none := fun us => by
          induction us with
          | nil => intro σ; unfold L2.wipe; rw [List.set_set]
          | cons u us ih =>
            intro σ
            unfold L2.wipe
            by_cases hu : u = i
            · subst hu; rw [List.set_set, List.set_set]; exact ih σ
            · rw [List.set_comm _ _ hu, ih σ, List.set_comm _ _ (Ne.symm hu)]
        exact aux vs σ
    · rw [wipe_set h]
theorem wipe_wipe {σ : L2.St} : ∀ (us vs : List Nat), (∀ i ∈ us, i ∈ vs) → L2.wipe (L2.wipe σ us) vs = L2.wipe σ vs
  | [], _, _ => rfl
  | u :: us, vs, h => by
    show L2.wipe ((L2.wipe σ us).set u none) vs = _
    rw [wipe_set (h u (by simp)), wipe_wipe us vs fun i hi => h i (by simp [hi])]
theorem wipe_setV {vs : List Nat} : ∀ (ws : List (Nat × V)) (σ : L2.St), (∀ p ∈ ws, p.1 ∈ vs) → L2.wipe (setV σ ws) vs = L2.wipe σ vs
  | [], _, _ => rfl
  | (i, v) :: ws, σ, h => by
    show L2.wipe (setV (σ.set i (some v)) ws) vs = _
    rw [wipe_setV ws _ fun p hp => h p (by simp [hp]), wipe_set (h (i, v) (by simp))]
theorem RepAs.fst {K : PySem.W.Frag} {Φ : Hp} {vs : List Nat} : ∀ {as : List (Nat × D)} {ws : List (Nat × V)}, RepAs K Φ as ws → (∀ p ∈ as, p.1 ∈ vs) → ∀ p ∈ ws, p.1 ∈ vs
  | _, _, .nil, _ => fun p hp => by cases hp
  | (i, d) :: as, (_, v) :: ws, .cons _ t, h => fun p hp => by
    rcases List.mem_cons.mp hp with e | hp
    · subst e; exact h (i, d) List.mem_cons_self
    · exact RepAs.fst t (fun q hq => h q (by simp [hq])) p hp
/-- the turns of a comprehension -/
def lcGo (ρ : List Sl) (ft : D → R (List (Nat × D))) (fc : Ev Bool) (fe : Ev D) : List D → R (List D)
  | [] => .ok []
  | d :: ds => (ft d).bind fun as => (noX (fc (setS ρ as))).bind fun k => if k = true then (noX (fe (setS ρ as))).bind fun y => (lcGo ρ ft fc fe ds).bind fun ys => .ok (y :: ys) else lcGo ρ ft fc fe ds
def eLc (vs : List Nat) (fi : Ev (List D)) (ft : D → R (List (Nat × D))) (fc : Ev Bool) (fe : Ev D) : Ev D := fun ρ => (fi ρ).bind fun ds => if ds.length ≤ LIM then (noX (lcGo (wipeS ρ vs) ft fc fe ds)).bind fun ys => .ok (.lst ys) else .stuck
abbrev W0 : WX := fun _ _ _ _ => False
abbrev fcYes : Ev Bool := fun _ => .ok true
def STs (X : Cx) (cs : Nat → Addr) (W : WX) (ifs : List Expr) (f : Ev Bool) : Prop := PTs X ifs (tG X.K cs rB W f)
theorem ptsImp {X : Cx} {e : List Expr} {t t' : TT} (h : PTs X e t) (i : ∀ σ H Q, t' σ H Q → t σ H Q) : PTs X e t' := ⟨fun pins s σ H Q I hw => h.run pins s σ H Q I (i σ H Q hw)⟩
theorem sts_nil {X : Cx} {cs : Nat → Addr} {W : WX} : STs X cs W [] fcYes := ptsImp pts_nil fun σ H Q ⟨Φ, ρ, r, q⟩ => q.ok r.sub rfl
theorem R.bind_ok {α β : Type} {r : R α} {k : α → R β} {b : β} (h : r.bind k = .ok b) : ∃ a, r = .ok a ∧ k a = .ok b := by
  cases r with
  | ok a => exact ⟨a, rfl, h⟩
  | exc x => cases h
  | stuck => cases h
theorem noX_ok {α : Type} {r : R α} {a : α} (h : noX r = .ok a) : r = .ok a := by
  cases r with
  | ok b => exact h
  | exc x => cases h
  | stuck => cases h
theorem Run.of_ok {α β : Type} {cs : Nat → Addr} {rp : Rp α β} {W : WX} {σ : L2.St} {Φ H : Hp} {Q : β → Hp → Prop} {r : R α} {a : α} (e : r = .ok a) (h : ∀ Φ' H' b, Ext Φ H Φ' H' → rp.rep Φ' H' a b → Q b H') : Run cs rp W σ Φ H Q r := by
  rw [e]; exact h
section
variable {X : Cx} {cs : Nat → Addr} {W : WX}
/-- the reading of a comprehension, from the reading that it makes a new list -/
theorem lc_run {g : TG} {ft : D → R (List (Nat × D))} {fc : Ev Bool} {fe : Ev D} {fi : Ev (List D)} {vs : List Nat} {tg : Expr} {XB : Cx} (hK : XB.K = X.K) (hft : ∀ d as, ft d = .ok as → ∀ p ∈ as, p.1 ∈ vs) (hg : Tgt XB tg g ft)
    {σ : L2.St} {H : Hp} {Q : VK} (h : tN X.K cs W (eLc vs fi ft fc fe) σ H Q) : tLc (tG X.K cs (rIE X.K) W fi) g (tG X.K cs rB W0 fc) (tG X.K cs (rD X.K) W0 fe) vs σ H Q := by
  obtain ⟨Φ, ρ, r, q⟩ := h
  refine tG.bindN (rp := rIE X.K) r q fun Φ1 H1 ds J r1 _ wk q D hD => ?_
  by_cases hlim : ds.length ≤ LIM
  case neg => rw [if_neg hlim] at q; exact q.elim
  rw [if_pos hlim] at q
  cases eg : lcGo (wipeS ρ vs) ft fc fe ds with
  | exc z => rw [eg] at q; exact q.elim
  | stuck => rw [eg] at q; exact q.elim
  | ok out =>
  rw [eg] at q
  have q : RunN X.K cs W σ Φ1 H1 Q (.ok (.lst out)) := q
  refine ⟨fun i m H' => m = ds.length - i ∧ i ≤ ds.length ∧ ∃ Φ' acc accD rest, Ext Φ1 H1 Φ' H' ∧ H' D = some (.lst acc) ∧ Φ' D = none ∧ RepDs X.K Φ' accD acc ∧ acc.length ≤ i ∧ lcGo (wipeS ρ vs) ft fc fe (ds.drop i) = .ok rest ∧ out = accD ++ rest, ⟨ds.length, by simp, Nat.zero_le _, Φ1, [], [], out, Ext.alloc r1.sub hD, upd_same, ?_, .nil, Nat.le_refl _, by simpa using eg, rfl⟩, ?_⟩
  · cases z : Φ1 D with
    | none => rfl
    | some u => rw [r1.sub _ _ z] at hD; cases hD
  rintro i m H2 ⟨rfl, hi, Φ2, acc, accD, rest, x2, hD2, hΦ2, racc, hacc, hrest, hout⟩
  by_cases hlt : i < ds.length
  · refine .inr ⟨wk.go Φ2 H2 i x2 hlt, fun H' => ∃ Φ' acc accD rest, Ext Φ1 H1 Φ' H' ∧ H' D = some (.lst acc) ∧ Φ' D = none ∧ RepDs X.K Φ' accD acc ∧ acc.length ≤ i + 1 ∧ lcGo (wipeS ρ vs) ft fc fe (ds.drop (i + 1)) = .ok rest ∧ out = accD ++ rest, fun H' h => ⟨ds.length - (i + 1), by omega, rfl, hlt, h⟩, fun x H3 hy => ?_⟩
    have hds : ds[i]? = some ds[i] := by simp [hlt]
    obtain ⟨Φ3, x3, rx⟩ := wk.yld Φ2 H2 i x H3 _ x2 hds hy
    rw [List.drop_eq_getElem_cons hlt] at hrest
    unfold lcGo at hrest
    obtain ⟨as, has, hrest⟩ := R.bind_ok hrest
    obtain ⟨k, hk, hrest⟩ := R.bind_ok hrest
    have hk := noX_ok hk
    have keepD : ∀ {Φ' H'}, Ext Φ2 H2 Φ' H' → H' D = some (.lst acc) ∧ Φ' D = none := fun {Φ' H'} y => by
      refine ⟨y.heap _ _ hD2, ?_⟩
      cases z : Φ' D with
      | none => rfl
      | some u =>
        rcases y.new D u z with w | w
        · rw [hΦ2] at w; cases w
        · rw [hD2] at w; cases w
    refine hg.run Φ3 H3 (L2.wipe σ vs) ds[i] x as _ x3.sub (by rw [hK]; exact rx) has fun ws rws => ?_
    rw [hK] at rws
    refine ⟨?_, ?_⟩
    · rw [wipe_setV ws _ (RepAs.fst rws (hft _ _ has)), wipe_wipe _ _ fun i h => h]
    have r3 : Rel X.K Φ3 H3 (setV (L2.wipe σ vs) ws) (setS (wipeS ρ vs) as) := (((r1.ext x2).ext x3).wipe _).setMany rws
    refine ⟨Φ3, _, r3, Run.of_ok hk fun Φ4 H4 b x4 eb => ?_⟩
    cases eb
    cases k with
    | false =>
      rw [if_neg (by decide)] at hrest
      rw [if_neg (by decide)]
      obtain ⟨h1, h2⟩ := keepD (x3.trans x4)
      exact ⟨Φ4, acc, accD, rest, (x2.trans x3).trans x4, h1, h2, racc.mono (x3.trans x4).mono, by omega, hrest, hout⟩
    | true =>
      rw [if_pos rfl] at hrest
      rw [if_pos rfl]
      obtain ⟨y, hy2, hrest⟩ := R.bind_ok hrest
      obtain ⟨ys, hys, hrest⟩ := R.bind_ok hrest
      cases hrest
      refine ⟨Φ4, _, r3.ext x4, Run.of_ok (noX_ok hy2) fun Φ5 H5 v x5 rv => ?_⟩
      have x25 := (x3.trans x4).trans x5
      obtain ⟨h1, h2⟩ := keepD x25
      have hz : acc.length < LIM := by omega
      refine ⟨acc, h1, lim_lt (by omega), Φ5, acc ++ [v], accD ++ [y], ys, ?_, upd_same, h2, (racc.mono x25.mono).append (.cons rv .nil), by simp; omega, hys, by rw [hout]; simp⟩
      have x15 := x2.trans x25
      refine ⟨x15.mono, fun b u e => ?_, fun b u e => ?_, x15.new⟩
      · rw [upd_ne (ne_of_none e hD)]; exact x15.heap b u e
      · have hb : b ≠ D := fun z => by subst z; rw [h2] at e; cases e
        rw [upd_ne hb]; exact x15.sub b u e
  · refine .inl ⟨wk.stop Φ2 H2 i x2 (by omega), ?_⟩
    have e0 : ds.drop i = [] := List.drop_eq_nil_of_le (by omega)
    rw [e0] at hrest
    cases hrest
    rw [List.append_nil] at hout
    subst hout
    exact q Φ2 H2 D x2 hD hΦ2 (RepOwn.lst hD2 racc)
theorem sn_lc {elt tg iter : Expr} {ifs : List Expr} {scope : Scope} {vs : List Nat} (own : List (Str × Nat)) (hv : own.map (·.2) = vs) {pos : Pos} {fi : Ev (List D)} {g : TG} {ft : D → R (List (Nat × D))} {fc : Ev Bool} {fe : Ev D} (hc : X.calm = true) (hN : X.N.Nodup) (hi : SIE X cs W tg iter fi) (ok : BlkOk X.N X.env.scope scope own)
    (hft : ∀ d as, ft d = .ok as → ∀ p ∈ as, p.1 ∈ vs)
    (hg : ∀ (s : Shared) (H : Hp) (C : Addr) (cl : List (Str × Addr)) (fp : List Addr), Tgt (X.blk s H scope (compEnvC scope cl C X.env) fp) tg g ft)
    (ht : ∀ (s : Shared) (H : Hp) (C : Addr) (cl : List (Str × Addr)) (fp : List Addr), STs (X.blk s H scope (compEnvC scope cl C X.env) fp) cs W0 ifs fc)
    (he : ∀ (s : Shared) (H : Hp) (C : Addr) (cl : List (Str × Addr)) (fp : List Addr), SD (X.blk s H scope (compEnvC scope cl C X.env) fp) cs W0 elt fe)
    (hs : ∀ x, foldedSetIterable iter X.env x = pure x := by intro _; rfl) :
    SN X cs W (.ListComp elt [⟨tg, iter, ifs, 0⟩] scope pos) (eLc vs fi ft fc fe) := by
  subst hv
  exact peImp (pe_lc (tt := tG X.K cs rB W0 fc) (te := tG X.K cs (rD X.K) W0 fe) hc hN hi ok (fun s H C cl fp => (hg s H C cl fp).pg) ht he hs) fun σ H Q h => lc_run (XB := X.blk X.s_0 H scope (compEnvC scope [] 0 X.env) []) rfl hft (hg X.s_0 H 0 [] []) h
end
end PL
set_option Elab.async false
set_option linter.all false
set_option maxRecDepth 100000
namespace PL
set_option autoImplicit false
open PySem PySem.Spec PyProof.Rows L2
section
variable {X : Cx} {cs : Nat → Addr} {W : WX} {a b c e o : Expr} {fa fb fc : Ev D} {pos p : Pos} {es : List Expr} {fs : Ev (List D)}
def CallN (X : Cx) (cs : Nat → Addr) (W : WX) (r : List V → Hp → VK → Prop) (g : List D → R D) : Prop := ∀ (σ : L2.St) (Φ H : Hp) (Q : VK) (vs : List V) (ds : List D), Same Φ H → RepVs X.K Φ H ds vs → RunN X.K cs W σ Φ H Q (g ds) → r vs H Q
theorem runAN {r : List V → Hp → VK → Prop} {g : List D → R D} (hg : CallN X cs W r g) {σ : L2.St} {H : Hp} {Q : VK} (h : tN X.K cs W (eCall g fs) σ H Q) : tG X.K cs (rVs X.K) W fs σ H fun vs H1 => r vs H1 Q := by
  obtain ⟨Φ, ρ, z, q⟩ := h
  exact tG.bindN (rp := rVs X.K) z q fun Φ1 H1 ds vs r1 _ rep q => hg σ Φ1 H1 Q vs ds r1.sub rep q
theorem none_of {Φ H : Hp} (m : Same Φ H) {p : Addr} (hp : H p = none) : Φ p = none := m.free hp
theorem RunN.new {σ : L2.St} {Φ H : Hp} {Q : VK} {d : D} (h : RunN X.K cs W σ Φ H Q (.ok d)) (m : Same Φ H) {p : Addr} {u : HO} (hp : H p = none) (r : RepOwn X.K Φ (upd H p u) d p) : Q (.ref p) (upd H p u) :=
  h Φ _ p (Ext.alloc m hp) hp (none_of m hp) r
theorem sn_callT {r : List V → Hp → VK → Prop} {g : List D → R D} {id : String} {x : Str} (hc : CallR X (.type id) r) (hd : CallN X cs W r g) (hv : bootBuiltins x = some (.type id)) (hg : Gl X x) (hm : X.mg x = none) (ha : SA X cs W (e :: es) fs) (hn : x ≠ "__name__" := by decide) (hdb : (x == ("__debug__" : Str)) = false := by decide)
    (he : starEach (e :: es) X.env = (false, eval e X.env) :: starEach es X.env := by rfl) (hpl : (backTo pos (starEach es X.env)).any (·.1) = false := by rfl) : SN X cs W (.Call (.Name x p) (e :: es) [] pos) (eCall g fs) :=
  peImp (pe_callTy hc hg hm hv ha hn hdb he hpl) fun σ H Q h => runAN hd h
theorem sn_listOf (hg : Gl X "list") (hm : X.mg "list" = none) (ha : SA X cs W (e :: es) fs) 
    (he : starEach (e :: es) X.env = (false, eval e X.env) :: starEach es X.env := by rfl) (hpl : (backTo pos (starEach es X.env)).any (·.1) = false := by rfl) : SN X cs W (.Call (.Name "list" p) (e :: es) [] pos) (eCall gListOf fs) :=
  sn_callT call_list_of (fun σ Φ H Q vs ds m r q => by
    unfold gListOf at q
    split at q
    · obtain ⟨v, rfl, h⟩ := r.one
      obtain ⟨p, vs, rfl, h1, h2⟩ := h.tup_inv m
      exact ⟨_, vs, rfl, .inr h1, fun l hl => q.new m hl (RepOwn.lst upd_same h2)⟩
    · obtain ⟨v, rfl, h⟩ := r.one
      obtain ⟨p, vs, rfl, h1, h2⟩ := h.lst_inv m
      exact ⟨_, vs, rfl, .inl (SqL.of h1), fun l hl => q.new m hl (RepOwn.lst upd_same h2)⟩
    · obtain ⟨v, rfl, h⟩ := r.one
      obtain ⟨p, rfl, h1⟩ := h.scr_inv m
      exact ⟨_, _, rfl, .inl h1, fun l hl => q.new m hl (RepOwn.lst upd_same (RepDs.ints _))⟩
    · exact q.elim) (by decide +kernel) hg hm ha (by decide) (by decide) he hpl
theorem sd_listOf (hg : Gl X "list") (hm : X.mg "list" = none) (ha : SA X cs W (e :: es) fs) 
    (he : starEach (e :: es) X.env = (false, eval e X.env) :: starEach es X.env := by rfl) (hpl : (backTo pos (starEach es X.env)).any (·.1) = false := by rfl) : SD X cs W (.Call (.Name "list" p) (e :: es) [] pos) (eCall gListOf fs) := (sn_listOf hg hm ha he hpl).sd
def gRep : D → D → R D
  | .lst ds, .int k => if -(2 ^ 63) ≤ k ∧ k < 2 ^ 63 ∧ ds.length * k.toNat ≤ LIM then .ok (.lst (List.replicate k.toNat ds).flatten) else .stuck
  | _, _ => .stuck
theorem RepDs.rep {K : PySem.W.Frag} {Φ : Hp} {ds : List D} {vs : List V} (h : RepDs K Φ ds vs) : ∀ k : Nat, RepDs K Φ (List.replicate k ds).flatten (List.replicate k vs).flatten
  | 0 => .nil
  | k + 1 => by
    rw [List.replicate_succ, List.replicate_succ, List.flatten_cons, List.flatten_cons]
    exact h.append (RepDs.rep h k)
theorem run2N {g : D → D → R D} {σ : L2.St} {H : Hp} {Q : VK} {G : V → V → Hp → Prop} (h : tN X.K cs W (e2 g fa fb) σ H Q)
    (c : ∀ Φ H v u d e, Same Φ H → RepV X.K Φ H d v → RepV X.K Φ H e u → RunN X.K cs W σ Φ H Q (g d e) → G v u H) : tG X.K cs (rV X.K) W fa σ H fun v H1 => tG X.K cs (rV X.K) W fb σ H1 fun u H2 => G v u H2 := by
  obtain ⟨Φ, ρ, r, q⟩ := h
  refine tG.bindN (rp := rV X.K) r q fun Φ1 H1 d v r1 _ rep q => ?_
  exact tG.bindN (rp := rV X.K) r1 q fun Φ2 H2 e u r2 x2 rep2 q => c Φ2 H2 v u d e r2.sub (rep.ext x2) rep2 q
theorem sn_rep (ha : SV X cs W a fa) (hb : SV X cs W b fb) : SN X cs W (.BinOp a .Mult b pos) (e2 gRep fa fb) := peImp (pe_op op_rep ha hb) fun σ H Q h => run2N h fun Φ H v u d e m r1 r2 q => by
  unfold gRep at q
  split at q
  · obtain ⟨p, vs, rfl, h1, h2⟩ := r1.lst_inv m
    cases r2.int_inv
    split at q
    next h =>
      rw [h2.length] at h
      exact ⟨_, _, vs, rfl, rfl, h1, h.1, h.2.1, lim_le h.2.2, fun z hz => q.new m hz (RepOwn.lst upd_same (h2.rep _))⟩
    next => exact q.elim
  · exact q.elim
def gCat : D → D → R D
  | .lst x, .lst y => if x.length + y.length ≤ LIM then .ok (.lst (x ++ y)) else .stuck
  | _, _ => .stuck
end
inductive RS where
  | nx (ρ : List Sl) | rt (r : Sl) (ρ : List Sl) | bk (ρ : List Sl) | ct (ρ : List Sl) | exc (x : Exn) (ρ : List Sl) | stuck
abbrev Es := List Sl → RS
structure Stp (P : Addr → Prop) (Φ H Φ' H' : Hp) (P' : Addr → Prop) : Prop where
  mono : Same Φ Φ'
  frame : ∀ b o, H b = some o → ¬ P b → H' b = some o
  own : ∀ a, P' a → P a ∨ H a = none
  new : ∀ b o, Φ' b = some o → Φ b = some o ∨ P b ∨ H b = none
theorem Stp.refl {P P' : Addr → Prop} {Φ H : Hp} (h : ∀ a, P' a → P a) : Stp P Φ H Φ H P' := ⟨Same.refl _, fun _ _ e _ => e, fun a p => .inl (h a p), fun _ _ e => .inl e⟩
theorem Stp.ofExt {P P' : Addr → Prop} {Φ H Φ' H' : Hp} (x : Ext Φ H Φ' H') (h : ∀ a, P' a → P a ∨ H a = none) : Stp P Φ H Φ' H' P' :=
  ⟨x.mono, fun b o e _ => x.heap b o e, h, fun b o e => by
    rcases x.new b o e with z | z
    · exact .inl z
    · exact .inr (.inr z)⟩
theorem Rel.stp {K : PySem.W.Frag} {Φ H Φ' H' : Hp} {σ : L2.St} {ρ : List Sl} (r : Rel K Φ H σ ρ) (x : Ext Φ H Φ' H') : Stp (Own H σ ρ) Φ H Φ' H' (Own H' σ ρ) := Stp.ofExt x fun _ w => .inl (r.ownX x w)
theorem Stp.trans {P P1 P2 : Addr → Prop} {Φ H Φ1 H1 Φ2 H2 : Hp} (a : Stp P Φ H Φ1 H1 P1) (b : Stp P1 Φ1 H1 Φ2 H2 P2) : Stp P Φ H Φ2 H2 P2 := by
  have back : ∀ c, H1 c = none → P c ∨ H c = none := fun c e => by
    by_cases hp : P c
    · exact .inl hp
    · refine .inr ?_
      cases z : H c with
      | none => rfl
      | some u => rw [a.frame c u z hp] at e; cases e
  have np : ∀ c o, H c = some o → ¬ P c → ¬ P1 c := fun c o e hp h1 => by
    rcases a.own c h1 with z | z
    · exact hp z
    · rw [e] at z; cases z
  refine ⟨a.mono.trans b.mono, fun c o e hp => b.frame c o (a.frame c o e hp) (np c o e hp), fun c h => ?_, fun c o h => ?_⟩
  · rcases b.own c h with z | z
    · exact a.own c z
    · exact back c z
  · rcases b.new c o h with z | z | z
    · exact a.new c o z
    · exact .inr (a.own c z)
    · exact .inr (back c z)
def RunS (K : PySem.W.Frag) (cs : Nat → Addr) (W : WX) (np : Nat) (D : Ends) (P : Addr → Prop) (σ : L2.St) (Φ H : Hp) : RS → Prop
  | .nx ρ' => ∀ Φ' H' σ', Stp P Φ H Φ' H' (Own H' σ' ρ') → Rel K Φ' H' σ' ρ' → σ'.take np = σ.take np → D.nx σ' H'
  | .bk ρ' => ∀ Φ' H' σ', Stp P Φ H Φ' H' (Own H' σ' ρ') → Rel K Φ' H' σ' ρ' → σ'.take np = σ.take np → D.bk σ' H'
  | .ct ρ' => ∀ Φ' H' σ', Stp P Φ H Φ' H' (Own H' σ' ρ') → Rel K Φ' H' σ' ρ' → σ'.take np = σ.take np → D.ct σ' H'
  | .rt r ρ' => ∀ Φ' H' σ' v, Stp P Φ H Φ' H' (Own H' (σ' ++ [some v]) (ρ' ++ [r])) → Rel K Φ' H' (σ' ++ [some v]) (ρ' ++ [r]) → σ'.take np = σ.take np → D.rt v H'
  | .exc x ρ' => ∀ Φ' H' σ' c dd, Stp P Φ H Φ' H' (Own H' σ' ρ') → Rel K Φ' H' σ' ρ' → σ'.take np = σ.take np → RepX cs Φ' H' x c dd → W c dd σ' H'
  | .stuck => False
def tS (K : PySem.W.Frag) (cs : Nat → Addr) (W : WX) (np : Nat) (f : Es) : TS := fun D σ H => ∃ Φ ρ, Rel K Φ H σ ρ ∧ RunS K cs W np D (Own H σ ρ) σ Φ H (f ρ)
def SS (X : Cx) (cs : Nat → Addr) (W : WX) (np : Nat) (st : Stmt) (f : Es) : Prop := PS X st (tS X.K cs W np f)
def SSs (X : Cx) (cs : Nat → Addr) (W : WX) (np : Nat) (st : List Stmt) (f : Es) : Prop := PSs X st (tS X.K cs W np f)
theorem RunS.step {K : PySem.W.Frag} {cs : Nat → Addr} {W : WX} {np : Nat} {D : Ends} {P P1 : Addr → Prop} {σ σ1 : L2.St} {Φ H Φ1 H1 : Hp} {r : RS} (s : Stp P Φ H Φ1 H1 P1) (t : σ1.take np = σ.take np) (h : RunS K cs W np D P σ Φ H r) : RunS K cs W np D P1 σ1 Φ1 H1 r := by
  cases r with
  | nx ρ => exact fun Φ' H' σ' s' r' t' => h Φ' H' σ' (s.trans s') r' (t'.trans t)
  | bk ρ => exact fun Φ' H' σ' s' r' t' => h Φ' H' σ' (s.trans s') r' (t'.trans t)
  | ct ρ => exact fun Φ' H' σ' s' r' t' => h Φ' H' σ' (s.trans s') r' (t'.trans t)
  | rt v ρ => exact fun Φ' H' σ' v s' r' t' => h Φ' H' σ' v (s.trans s') r' (t'.trans t)
  | exc x ρ => exact fun Φ' H' σ' c dd s' r' t' => h Φ' H' σ' c dd (s.trans s') r' (t'.trans t)
  | stuck => exact h
theorem RunS.nx0 {K : PySem.W.Frag} {cs : Nat → Addr} {W : WX} {np : Nat} {D : Ends} {σ : L2.St} {ρ : List Sl} {Φ H : Hp} (h : RunS K cs W np D (Own H σ ρ) σ Φ H (.nx ρ)) (r : Rel K Φ H σ ρ) : D.nx σ H := h Φ H σ (Stp.refl fun _ p => p) r rfl
/-- an expression's answer within a statement -/
def tryE {α : Type} (ρ : List Sl) (r : R α) (k : α → RS) : RS := match r with
  | .ok a => k a
  | .exc x => .exc x ρ
  | .stuck => .stuck
theorem tG.bindS {α β : Type} {K : PySem.W.Frag} {cs : Nat → Addr} {rp : Rp α β} {W : WX} {np : Nat} {D : Ends} {f : Ev α} {k : α → RS} {σ : L2.St} {ρ : List Sl} {Φ H : Hp} {G : β → Hp → Prop} (r : Rel K Φ H σ ρ)
    (h : RunS K cs W np D (Own H σ ρ) σ Φ H (tryE ρ (f ρ) k))
    (c : ∀ Φ1 H1 a b, Rel K Φ1 H1 σ ρ → Ext Φ H Φ1 H1 → rp.rep Φ1 H1 a b → RunS K cs W np D (Own H1 σ ρ) σ Φ1 H1 (k a) → G b H1) : tG K cs rp W f σ H G := by
  refine ⟨Φ, ρ, r, ?_⟩
  cases e : f ρ with
  | ok a =>
    rw [e] at h
    exact fun Φ' H' b x q => c Φ' H' a b (r.ext x) x q (RunS.step (r.stp x) rfl h)
  | exc z =>
    rw [e] at h
    exact fun Φ' H' c dd x q => h Φ' H' σ c dd (r.stp x) (r.ext x) rfl q
  | stuck =>
    rw [e] at h
    exact h
section
variable {X : Cx} {cs : Nat → Addr} {W : WX} {np : Nat} {st : Stmt} {sts : List Stmt} {f g h : Es}
def seqS (f g : Es) : Es := fun ρ => match f ρ with
  | .nx ρ' => g ρ'
  | r => r
def skipS : Es := fun ρ => .nx ρ
theorem ss_nil : SSs X cs W np [] skipS := pssImp pss_nil fun D σ H ⟨Φ, ρ, r, q⟩ => q.nx0 r
theorem ss_one (h : SS X cs W np st f) : SSs X cs W np [st] f := pss_one h
theorem ss_cons (h : SS X cs W np st f) (k : SSs X cs W np sts g) : SSs X cs W np (st :: sts) (seqS f g) := pssImp (pss_cons h k) fun D σ H ⟨Φ, ρ, r, q⟩ => by
  refine ⟨Φ, ρ, r, ?_⟩
  unfold seqS at q
  cases e : f ρ with
  | nx ρ1 =>
    rw [e] at q
    exact fun Φ1 H1 σ1 s1 r1 t1 => ⟨Φ1, ρ1, r1, RunS.step s1 t1 q⟩
  | bk ρ1 => rw [e] at q; exact q
  | ct ρ1 => rw [e] at q; exact q
  | rt v ρ1 => rw [e] at q; exact q
  | exc x ρ1 => rw [e] at q; exact q
  | stuck => rw [e] at q; exact q
def bkS : Es := fun ρ => .bk ρ
def ctS : Es := fun ρ => .ct ρ
/-- a slot's own list or dict is frozen, ahead of a statement -/
def frzAt (ρ : List Sl) (i : Nat) : List Sl := match ρ[i]? with
  | some (.own d) => ρ.set i (.val d)
  | _ => ρ
theorem Rel.frz {K : PySem.W.Frag} {Φ H : Hp} {σ : L2.St} {ρ : List Sl} (r : Rel K Φ H σ ρ) (i : Nat) : ∃ Φ', Rel K Φ' H σ (frzAt ρ i) ∧ Stp (Own H σ ρ) Φ H Φ' H (Own H σ (frzAt ρ i)) := by
  unfold frzAt
  split
  case h_2 => exact ⟨Φ, r, Stp.refl fun _ p => p⟩
  case h_1 d e =>
    obtain ⟨a, h1, h2, h3⟩ := r.own i d e
    obtain ⟨o, e1, e2, e3⟩ := h2.freeze h3
    have hl : i < ρ.length := (List.getElem?_eq_some_iff.mp e).1
    have me : OwnAt H σ ρ i a := ownAt_own h1 e
    have sub' : Same (upd Φ a o) H := fun b u q => by
      by_cases hb : b = a
      · subst hb; rw [upd_same] at q; rw [e1]; exact q
      · rw [upd_ne hb] at q; exact r.sub _ _ q
    have w := r.remap (σ2 := σ) (ρ2 := ρ.set i (.val d)) e3 sub' (by rw [List.length_set, r.len]) (fun j => if j = i then none else some j) (fun _ => False)
      (fun a b k e1 e2 => by
        split at e1 <;> split at e2
        · cases e1
        · cases e1
        · cases e2
        · cases e1; cases e2; rfl)
      (fun j k s' x' e' g1 hs g2 => by
        split at e'
        · cases e'
        next hj =>
          cases e'
          rw [List.getElem?_set_ne (Ne.symm hj)] at g1
          refine ⟨g1, g2, fun b w => ⟨fun _ h => h, ?_, fun z => z⟩⟩
          have hb : b ≠ a := fun z => by subst z; exact hj (r.sep j i b w me)
          rw [upd_ne hb]; exact (r.there w).2)
      (fun j s' x' e' g1 g2 => by
        split at e'
        next hj =>
          subst hj
          rw [List.getElem?_set_self hl] at g1; cases g1
          rw [h1] at g2; cases g2
          exact ⟨⟨_, rfl, e2⟩, fun v b _ hb => by cases hb⟩
        · cases e')
      (fun j k b e1 e2 _ _ => by
        split at e1 <;> split at e2
        · rename_i z1 z2; rw [z1, z2]
        · cases e2
        · cases e1
        · cases e1)
    refine ⟨upd Φ a o, w.1, e3, fun _ _ q _ => q, fun b p => .inl ((w.2.1 b p).resolve_left id), fun b u q => ?_⟩
    by_cases hb : b = a
    · subst hb; exact .inr (.inl ⟨i, me⟩)
    · rw [upd_ne hb] at q; exact .inl q
def frzS (i : Nat) (f : Es) : Es := fun ρ => f (frzAt ρ i)
end
end PL
set_option Elab.async false
set_option linter.all false
set_option maxRecDepth 100000
namespace PL
set_option autoImplicit false
open PySem PySem.Spec PyProof.Rows L2
section
variable {K : PySem.W.Frag} {Φ H : Hp} {σ : L2.St} {ρ : List Sl}
theorem ownSet {i : Nat} {d : D} {v : Option V} {j : Nat} {a : Addr} (h : OwnAt H (σ.set i v) (ρ.set i (.val d)) j a) : OwnAt H σ ρ j a := by
  obtain ⟨s, u, h1, h2, h3⟩ := h
  rcases getSet h1 with ⟨_, z, _⟩ | ⟨z, h1⟩
  · subst z; cases h3
  · rw [List.getElem?_set_ne z] at h2
    exact ⟨s, u, h1, h2, h3⟩
theorem ownSetMany : ∀ {as : List (Nat × D)} {ws : List (Nat × V)} {σ : L2.St} {ρ : List Sl}, RepAs K Φ as ws → ∀ {j : Nat} {a : Addr}, OwnAt H (setV σ ws) (setS ρ as) j a → OwnAt H σ ρ j a
  | _, _, _, _, .nil, _, _, h => h
  | (i, d) :: as, (_, v) :: ws, σ, ρ, .cons _ t, j, a, h => ownSet (ownSetMany (σ := σ.set i (some v)) (ρ := ρ.set i (.val d)) t h)
theorem takeSet {α : Type} {l : List α} {n i : Nat} {x : α} (h : n ≤ i) : (l.set i x).take n = l.take n := by
  apply List.ext_getElem?
  intro k
  rw [List.getElem?_take, List.getElem?_take]
  split
  next hk => rw [List.getElem?_set_ne (by omega)]
  next => rfl
theorem takeSetMany {np : Nat} : ∀ (ws : List (Nat × V)) (σ : L2.St), (∀ p ∈ ws, np ≤ p.1) → (setV σ ws).take np = σ.take np
  | [], _, _ => rfl
  | (i, v) :: ws, σ, h => by
    show (setV (σ.set i (some v)) ws).take np = _
    rw [takeSetMany ws _ fun p hp => h p (by simp [hp]), takeSet (h (i, v) (by simp))]
theorem RepAs.le {np : Nat} : ∀ {as : List (Nat × D)} {ws : List (Nat × V)}, RepAs K Φ as ws → (∀ p ∈ as, np ≤ p.1) → ∀ p ∈ ws, np ≤ p.1
  | _, _, .nil, _ => fun p hp => by cases hp
  | (i, d) :: as, (_, v) :: ws, .cons _ t, h => fun p hp => by
    rcases List.mem_cons.mp hp with e | hp
    · subst e; exact h (i, d) List.mem_cons_self
    · exact RepAs.le t (fun q hq => h q (by simp [hq])) p hp
theorem Rel.notOwn (r : Rel K Φ H σ ρ) {a : Addr} (h : H a = none) : ∀ j, ¬ OwnAt H σ ρ j a := fun j w => by
  obtain ⟨⟨o, e⟩, _⟩ := r.there w
  rw [h] at e; cases e
theorem Rel.setOwn (r : Rel K Φ H σ ρ) {i : Nat} {d : D} {a : Addr} (h : RepOwn K Φ H d a) (hp : Φ a = none) (hn : ∀ j, ¬ OwnAt H σ ρ j a) : Rel K Φ H (σ.set i (some (.ref a))) (ρ.set i (.own d)) :=
  (r.put (s := .own d) ⟨a, rfl, h, hp⟩ fun v b e hb j _ => by cases e; rw [List.mem_singleton.mp hb]; exact hn j).1
theorem ownSetOwn {i : Nat} {d : D} {a : Addr} {b : Addr} (h : Own H (σ.set i (some (.ref a))) (ρ.set i (.own d)) b) : b = a ∨ Own H σ ρ b := by
  obtain ⟨j, s, u, h1, h2, h3⟩ := h
  rcases getSet h1 with ⟨_, z, _⟩ | ⟨z, h1⟩
  · subst z
    rcases getSet h2 with ⟨_, z, _⟩ | ⟨z, _⟩
    · cases z; exact .inl (List.mem_singleton.mp h3)
    · contradiction
  · rw [List.getElem?_set_ne z] at h2
    exact .inr ⟨j, s, u, h1, h2, h3⟩
/-- a slot's own cells change -/
theorem Rel.mutG {Φ' H' : Hp} (r : Rel K Φ H σ ρ) {i : Nat} {s s' : Sl} {v : V} (hr : ρ[i]? = some s) (hs : σ[i]? = some (some v)) (m : Same Φ Φ') (sub : Same Φ' H') (fr : ∀ b o, H b = some o → b ∉ fpS H s v → H' b = some o)
    (new : ∀ b o, Φ' b = some o → Φ b = some o ∨ H b = none ∨ b ∈ fpS H s v) (ok : SlOk K Φ' H' s' (some v)) (fp : ∀ b ∈ fpS H' s' v, b ∈ fpS H s v ∨ H b = none) :
    Rel K Φ' H' σ (ρ.set i s') ∧ Stp (Own H σ ρ) Φ H Φ' H' (Own H' σ (ρ.set i s')) := by
  have hl : i < ρ.length := (List.getElem?_eq_some_iff.mp hr).1
  have w := r.remap (σ2 := σ) (ρ2 := ρ.set i s') m sub (by rw [List.length_set, r.len]) (fun j => if j = i then none else some j) (fun b => b ∈ fpS H s v ∨ H b = none)
    (fun a b k e1 e2 => by
      split at e1 <;> split at e2
      · cases e1
      · cases e1
      · cases e2
      · cases e1; cases e2; rfl)
    (fun j k s1 x1 e' g1 _ g2 => by
      split at e'
      · cases e'
      next hj =>
        cases e'
        rw [List.getElem?_set_ne (Ne.symm hj)] at g1
        refine ⟨g1, g2, fun b w => ?_⟩
        obtain ⟨⟨o, ho⟩, hn⟩ := r.there w
        have hb : b ∉ fpS H s v := fun z => hj (r.sep j i b w ⟨s, v, hr, hs, z⟩)
        refine ⟨fun o h => fr b o h hb, ?_, fun z => ?_⟩
        · cases q : Φ' b with
          | none => rfl
          | some u =>
            rcases new b u q with z | z | z
            · rw [hn] at z; cases z
            · rw [ho] at z; cases z
            · exact absurd z hb
        · rcases z with z | z
          · exact hb z
          · rw [ho] at z; cases z)
    (fun j s1 x1 e' g1 g2 => by
      split at e'
      next hj =>
        subst hj
        rw [List.getElem?_set_self hl] at g1; cases g1
        rw [hs] at g2; cases g2
        exact ⟨ok, fun u b e hb => by cases e; exact fp b hb⟩
      · cases e')
    (fun j k b e1 e2 _ _ => by
      split at e1 <;> split at e2
      · rename_i z1 z2; rw [z1, z2]
      · cases e2
      · cases e1
      · cases e1)
  refine ⟨w.1, m, fun b o q np => fr b o q fun z => np ⟨i, s, v, hr, hs, z⟩, fun b p => ?_, fun b o q => ?_⟩
  · rcases w.2.1 b p with (z | z) | z
    · exact .inl ⟨i, s, v, hr, hs, z⟩
    · exact .inr z
    · exact .inl z
  · rcases new b o q with z | z | z
    · exact .inl z
    · exact .inr (.inr z)
    · exact .inr (.inl ⟨i, s, v, hr, hs, z⟩)
/-- a slot's own object changes -/
theorem Rel.mut (r : Rel K Φ H σ ρ) {i : Nat} {d d' : D} {a : Addr} {u : HO} (hs : σ[i]? = some (some (.ref a))) (hr : ρ[i]? = some (.own d)) (h : RepOwn K Φ (upd H a u) d' a) :
    Rel K Φ (upd H a u) σ (ρ.set i (.own d')) ∧ Stp (Own H σ ρ) Φ H Φ (upd H a u) (Own (upd H a u) σ (ρ.set i (.own d'))) := by
  have hp : Φ a = none := (r.there (ownAt_own hs hr)).2
  refine r.mutG hr hs (Same.refl _) (fun b o q => ?_) (fun b o q np => ?_) (fun b o q => .inl q) ⟨a, rfl, h, hp⟩ fun b hb => .inl hb
  · have hb : b ≠ a := fun z => by subst z; rw [hp] at q; cases q
    rw [upd_ne hb]; exact r.sub _ _ q
  · rw [upd_ne fun z => np (by rw [z]; exact List.mem_singleton.mpr rfl)]; exact q
theorem Rel.push (r : Rel K Φ H σ ρ) {d : D} {v : V} (h : RepD K Φ d v) : Rel K Φ H (σ ++ [some v]) (ρ ++ [.val d]) :=
  (r.app (s := .val d) ⟨v, rfl, h⟩ fun v b _ hb => by cases hb).1
theorem ownPush {d : D} {v : V} {b : Addr} (hl : σ.length = ρ.length) (h : Own H (σ ++ [some v]) (ρ ++ [.val d]) b) : Own H σ ρ b := by
  obtain ⟨j, s, u, h1, h2, h3⟩ := h
  rcases getApp h1 with h1 | ⟨_, z⟩
  · rw [List.getElem?_append_left (by rw [hl]; exact (List.getElem?_eq_some_iff.mp h1).1)] at h2
    exact ⟨j, s, u, h1, h2, h3⟩
  · subst z; cases h3
theorem ownEmp {i j : Nat} {b : Addr} (h : OwnAt H σ (ρ.set i .emp) j b) : OwnAt H σ ρ j b ∧ j ≠ i := by
  obtain ⟨s, u, h1, h2, h3⟩ := h
  rcases getSet h1 with ⟨_, z, _⟩ | ⟨z, h1⟩
  · subst z; cases h3
  · exact ⟨⟨s, u, h1, h2, h3⟩, Ne.symm z⟩
theorem Rel.emp (r : Rel K Φ H σ ρ) (i : Nat) : Rel K Φ H σ (ρ.set i .emp) := by
  refine .of r.sub (by rw [List.length_set, r.len]) (fun j s x h1 h2 => ?_) fun j k b w1 w2 => r.sep j k b (ownEmp w1).1 (ownEmp w2).1
  rcases getSet h1 with ⟨_, z, _⟩ | ⟨z, h1⟩
  · subst z; trivial
  · exact r.slot h1 h2
end
section
variable {X : Cx} {cs : Nat → Addr} {W : WX} {np : Nat} {st : Stmt} {sts : List Stmt} {f g h : Es} {e c tg o : Expr} {fe : Ev D} {fc : Ev Bool} {pos p : Pos}
def asgS (ft : D → R (List (Nat × D))) (fe : Ev D) : Es := fun ρ => tryE ρ ((fe ρ).bind ft) fun as => .nx (setS ρ as)
theorem tryE_bind {α β : Type} {ρ : List Sl} {r : R α} {k : α → R β} {q : β → RS} : tryE ρ (r.bind k) q = tryE ρ r fun a => tryE ρ (k a) q := by cases r <;> rfl
theorem runAsg {D' : Ends} {gt : TG} {ft : D → R (List (Nat × D))} (t : Tgt X tg gt ft) (hnp : ∀ d as, ft d = .ok as → ∀ p ∈ as, np ≤ p.1) (hx : ∀ d x, ft d ≠ .exc x) {Φ H : Hp} {σ : L2.St} {ρ : List Sl} {d : D} {v : V} (r : Rel X.K Φ H σ ρ) (rep : RepD X.K Φ d v)
    (q : RunS X.K cs W np D' (Own H σ ρ) σ Φ H (tryE ρ (ft d) fun as => .nx (setS ρ as))) : gt v σ H D'.nx := by
  cases e : ft d with
  | stuck => rw [e] at q; exact q.elim
  | exc x => exact absurd e (hx d x)
  | ok as =>
    rw [e] at q
    exact t.run Φ H σ d v as _ r.sub rep e fun ws rws => q Φ H _ (Stp.refl fun b ⟨j, w⟩ => ⟨j, ownSetMany rws w⟩) (r.setMany rws) (takeSetMany ws σ (rws.le (hnp d as e)))
theorem ss_asg {gt : TG} {ft : D → R (List (Nat × D))} (he : SD X cs W e fe) (t : Tgt X tg gt ft) (hnp : ∀ d as, ft d = .ok as → ∀ p ∈ as, np ≤ p.1) (hx : ∀ d x, ft d ≠ .exc x) (hs : swapsWithSole [tg] e pos.line X.env = pure false := by rfl) (hw : swappedStores [tg] e X.env = pure none := by rfl)
    (h1 : (assignEach [tg] X.env).map (·.2) = [assign tg X.env] := by rfl) : SS X cs W np (.Assign [tg] e pos) (asgS ft fe) := psImp (ps_asg he t.pg hs hw h1) fun D' σ H ⟨Φ, ρ, r, q⟩ => by
  unfold asgS at q
  rw [tryE_bind] at q
  exact tG.bindS (rp := rD X.K) r q fun Φ1 H1 d v r1 x rep q => runAsg t hnp hx r1 rep (RunS.step (Stp.refl fun _ p => p) rfl q)
def asgN (i : Nat) (fe : Ev D) : Es := fun ρ => tryE ρ (fe ρ) fun d => .nx (ρ.set i (.own d))
theorem runN {D' : Ends} {i : Nat} (hi : np ≤ i) {Φ H : Hp} {σ : L2.St} {ρ : List Sl} (r : Rel X.K Φ H σ ρ) (q : RunS X.K cs W np D' (Own H σ ρ) σ Φ H (asgN i fe ρ)) : tN X.K cs W fe σ H fun x H1 => gName i x σ H1 D'.nx := by
  refine ⟨Φ, ρ, r, ?_⟩
  unfold asgN at q
  cases e : fe ρ with
  | stuck => rw [e] at q; exact q.elim
  | exc x =>
    rw [e] at q
    exact fun Φ' H' c dd x y => q Φ' H' σ c dd (r.stp x) (r.ext x) rfl y
  | ok d =>
    rw [e] at q
    intro Φ' H' a x hb hp y
    have hn : ∀ j, ¬ OwnAt H' σ ρ j a := fun j w => r.notOwn hb j ((r.extAll x).2 j a w)
    exact q Φ' H' _ (Stp.ofExt x fun b w => by
      rcases ownSetOwn w with rfl | w
      · exact .inr hb
      · exact .inl (r.ownX x w)) ((r.ext x).setOwn y hp hn) (takeSet hi)
theorem ss_asgN {i : Nat} {x : Str} {pos' : Pos} (hnp : np ≤ i) (hN : X.N.Nodup) (he : SN X cs W e fe) (hi : X.N[i]? = some x := by rfl) (hx : Loc X.env.scope x := by first | exact Or.inl rfl | exact Or.inr rfl) (hs : swapsWith e (some (.Name x pos')) pos.line X.env = pure false := by rfl) (hf : X.fn x = true ∨ X.env.scope.names.lookup x = some .local := by first | exact .inl rfl | exact .inr rfl | assumption) :
    SS X cs W np (.Assign [.Name x pos'] e pos) (asgN i fe) := psImp (ps_set hN hi hx he hs hf) fun D' σ H ⟨Φ, ρ, r, q⟩ => runN hnp r q
def retS (fe : Ev D) : Es := fun ρ => tryE ρ (fe ρ) fun d => .rt (.val d) ρ
theorem ss_ret (he : SD X cs W e fe) : SS X cs W np (.Return (some e) pos) (retS fe) := psImp (ps_ret he) fun D' σ H ⟨Φ, ρ, r, q⟩ =>
  tG.bindS (rp := rD X.K) r q fun Φ1 H1 d v r1 x rep q => q Φ1 H1 σ v (Stp.refl fun b w => ownPush r1.len w) (r1.push rep) rfl
def retN (fe : Ev D) : Es := fun ρ => tryE ρ (fe ρ) fun d => .rt (.own d) ρ
def retV (i : Nat) : Es := fun ρ => match ρ[i]? with
  | some (.val d) => .rt (.val d) ρ
  | some (.own d) => .rt (.own d) (ρ.set i .emp)
  | _ => .stuck
def retNone : Es := fun ρ => .rt (.val .non) ρ
def ifS (fc : Ev Bool) (f g : Es) : Es := fun ρ => tryE ρ (fc ρ) fun k => if k = true then f ρ else g ρ
theorem ss_if {as bs : List Stmt} (hc : ST X cs W c fc) (ha : SSs X cs W np as f) (hb : SSs X cs W np bs g) : SS X cs W np (.If c as bs pos) (ifS fc f g) := psImp (ps_if hc ha hb) fun D' σ H ⟨Φ, ρ, r, q⟩ =>
  tG.bindS (rp := rB) r q fun Φ1 H1 d v r1 x rep q => by
    cases rep
    cases d with
    | true => exact ⟨Φ1, ρ, r1, q⟩
    | false => exact ⟨Φ1, ρ, r1, q⟩
def whileS (fc : Ev Bool) (fb : Es) : Nat → Es
  | 0 => fun _ => .stuck
  | n + 1 => fun ρ => tryE ρ (fc ρ) fun k => if k = true then (match fb ρ with
    | .nx ρ' => whileS fc fb n ρ'
    | .ct ρ' => whileS fc fb n ρ'
    | .bk ρ' => .nx ρ'
    | r => r) else .nx ρ
theorem ss_while (n : Nat) {body : List Stmt} (hp : PassesOwn (model X.prog X.w) X.A X.env X.xe) (hc : ST X cs W c fc) (hb : SSs X cs W np body f) : SS X cs W np (.While c body [] pos) (whileS fc f n) := psImp (ps_while hp hc hb) fun D' σ H ⟨Φ, ρ, r, q⟩ => by
  refine ⟨fun m σ1 H1 => ∃ Φ1 ρ1, Rel X.K Φ1 H1 σ1 ρ1 ∧ RunS X.K cs W np D' (Own H1 σ1 ρ1) σ1 Φ1 H1 (whileS fc f m ρ1), ⟨n, Φ, ρ, r, q⟩, ?_⟩
  rintro m σ1 H1 ⟨Φ1, ρ1, r1, q⟩
  cases m with
  | zero => exact q.elim
  | succ m =>
    refine tG.bindS (rp := rB) r1 q fun Φ2 H2 d v r2 x rep q => ?_
    cases rep
    cases d with
    | false => exact q.nx0 r2
    | true =>
      refine ⟨fun σ' H' => ∃ Φ' ρ', Rel X.K Φ' H' σ' ρ' ∧ RunS X.K cs W np D' (Own H' σ' ρ') σ' Φ' H' (whileS fc f m ρ'), fun σ' H' h => ⟨m, by omega, h⟩, Φ2, ρ1, r2, ?_⟩
      simp only [if_true] at q
      cases e : f ρ1 with
      | nx ρ' => rw [e] at q; exact fun Φ' H' σ' s' r' t' => ⟨Φ', ρ', r', RunS.step s' t' q⟩
      | ct ρ' => rw [e] at q; exact fun Φ' H' σ' s' r' t' => ⟨Φ', ρ', r', RunS.step s' t' q⟩
      | bk ρ' => rw [e] at q; exact q
      | rt v ρ' => rw [e] at q; exact q
      | exc x ρ' => rw [e] at q; exact q
      | stuck => rw [e] at q; exact q
def forGo (ft : D → R (List (Nat × D))) (fb : Es) : List D → Es
  | [] => fun ρ => .nx ρ
  | d :: ds => fun ρ => tryE ρ (noX (ft d)) fun as => match fb (setS ρ as) with
    | .nx ρ' => forGo ft fb ds ρ'
    | .ct ρ' => forGo ft fb ds ρ'
    | .bk ρ' => .nx ρ'
    | r => r
def forS (fi : Ev (List D)) (ft : D → R (List (Nat × D))) (fb : Es) : Es := fun ρ => tryE ρ (fi ρ) fun ds => forGo ft fb ds ρ
theorem ss_for {gt : TG} {ft : D → R (List (Nat × D))} {fi : Ev (List D)} {iter : Expr} {body : List Stmt} (hp : PassesOwn (model X.prog X.w) X.A X.env X.xe) (hc : X.calm = true) (hi : SIF X cs W tg iter fi) (t : Tgt X tg gt ft) (hnp : ∀ d as, ft d = .ok as → ∀ p ∈ as, np ≤ p.1) (hb : SSs X cs W np body f)
    (hs : ∀ x, foldedSetIterable iter X.env x = pure x := by intro _; rfl) : SS X cs W np (.For tg iter body [] pos) (forS fi ft f) := psImp (ps_for hp hc hi t.pg hb hs) fun D' σ H ⟨Φ, ρ, r, q⟩ => by
  refine tG.bindS (rp := rIF X.K) r q fun Φ1 H1 ds J r1 x1 wk q => ?_
  refine ⟨fun i m σ2 H2 => m = ds.length - i ∧ i ≤ ds.length ∧ ∃ Φ2 ρ2, Same Φ1 Φ2 ∧ Rel X.K Φ2 H2 σ2 ρ2 ∧ RunS X.K cs W np D' (Own H2 σ2 ρ2) σ2 Φ2 H2 (forGo ft f (ds.drop i) ρ2), ⟨ds.length, by simp, Nat.zero_le _, Φ1, ρ, Same.refl _, r1, q⟩, ?_⟩
  rintro i m σ2 H2 ⟨rfl, hi, Φ2, ρ2, m2, r2, q⟩
  by_cases hlt : i < ds.length
  · refine .inr ⟨wk.go Φ2 H2 i m2 r2.sub hlt, fun σ' H' => ∃ Φ' ρ', Same Φ1 Φ' ∧ Rel X.K Φ' H' σ' ρ' ∧ RunS X.K cs W np D' (Own H' σ' ρ') σ' Φ' H' (forGo ft f (ds.drop (i + 1)) ρ'), fun σ' H' h => ⟨ds.length - (i + 1), by omega, rfl, hlt, h⟩, fun y H3 hy => ?_⟩
    obtain ⟨Φ3, x3, ry⟩ := wk.yld Φ2 H2 i y H3 ds[i] m2 r2.sub (by simp [hlt]) hy
    rw [List.drop_eq_getElem_cons hlt] at q
    unfold forGo at q
    cases e : ft ds[i] with
    | stuck => rw [e] at q; exact q.elim
    | exc z => rw [e] at q; exact q.elim
    | ok as =>
      rw [e] at q
      have q : RunS X.K cs W np D' (Own H2 σ2 ρ2) σ2 Φ2 H2 (match f (setS ρ2 as) with
        | .nx ρ' => forGo ft f (ds.drop (i + 1)) ρ'
        | .ct ρ' => forGo ft f (ds.drop (i + 1)) ρ'
        | .bk ρ' => .nx ρ'
        | r => r) := q
      refine t.run Φ3 H3 σ2 ds[i] y as _ x3.sub ry e fun ws rws => ?_
      have r3 := (r2.ext x3).setMany rws
      have s3 : Stp (Own H2 σ2 ρ2) Φ2 H2 Φ3 H3 (Own H3 (setV σ2 ws) (setS ρ2 as)) := Stp.ofExt x3 fun b ⟨j, w⟩ => .inl (r2.ownX x3 ⟨j, ownSetMany rws w⟩)
      have t3 := takeSetMany ws σ2 (rws.le (hnp _ as e))
      have q := RunS.step s3 t3 q
      refine ⟨Φ3, _, r3, ?_⟩
      have mm : ∀ {Φ' H' P'}, Stp (Own H3 (setV σ2 ws) (setS ρ2 as)) Φ3 H3 Φ' H' P' → Same Φ1 Φ' := fun s => (m2.trans x3.mono).trans s.mono
      cases e2 : f (setS ρ2 as) with
      | nx ρ' => rw [e2] at q; exact fun Φ' H' σ' s' r' t' => ⟨Φ', ρ', mm s', r', RunS.step s' t' q⟩
      | ct ρ' => rw [e2] at q; exact fun Φ' H' σ' s' r' t' => ⟨Φ', ρ', mm s', r', RunS.step s' t' q⟩
      | bk ρ' => rw [e2] at q; exact q
      | rt v ρ' => rw [e2] at q; exact q
      | exc x ρ' => rw [e2] at q; exact q
      | stuck => rw [e2] at q; exact q
  · refine .inl ⟨wk.stop Φ2 H2 i m2 r2.sub (by omega), ?_⟩
    rw [List.drop_eq_nil_of_le (by omega)] at q
    exact q.nx0 r2
end
end PL
set_option Elab.async false
set_option linter.all false
set_option maxRecDepth 100000
namespace PL
set_option autoImplicit false
open PySem PySem.Spec PyProof.Rows L2
section
variable {X : Cx} {cs : Nat → Addr} {W : WX} {np : Nat} {e o tg i : Expr} {es : List Expr} {fe fi fv : Ev D} {fs : Ev (List D)} {pos p apos cpos : Pos}
/-- g: the list's items, the arguments, to the answer and the new items -/
abbrev GL := List D → List D → R (D × List D)
def MutL (X : Cx) (r : V → List V → Hp → VK → Prop) (g : GL) : Prop := ∀ (Φ H : Hp) (Q : VK) (a : Addr) (vs us : List V) (ds args : List D) (res : D) (ds' : List D), H a = some (.lst vs) → RepDs X.K Φ ds vs → RepDs X.K Φ args us → g ds args = .ok (res, ds') →
  (∀ v' vs', RepD X.K Φ res v' → RepDs X.K Φ ds' vs' → Q v' (upd H a (.lst vs'))) → r (.ref a) us H Q
def mutS (i : Nat) (g : GL) (fs : Ev (List D)) (k : D → List Sl → RS) : Es := fun ρ => match ρ[i]? with
  | some (.own (.lst ds)) => tryE ρ (fs ρ) fun args => match g ds args with
    | .ok (res, ds') => k res (ρ.set i (.own (.lst ds')))
    | _ => .stuck
  | _ => .stuck
theorem runMut {r : V → List V → Hp → VK → Prop} {g : GL} (m : MutL X r g) {j : Nat} {D' : Ends} {σ : L2.St} {ρ : List Sl} {Φ H : Hp} {k : D → List Sl → RS} {G : VK} (rl : Rel X.K Φ H σ ρ)
    (q : RunS X.K cs W np D' (Own H σ ρ) σ Φ H (mutS j g fs k ρ)) (c : ∀ Φ1 H1 res v ρ1, Rel X.K Φ1 H1 σ ρ1 → RepD X.K Φ1 res v → RunS X.K cs W np D' (Own H1 σ ρ1) σ Φ1 H1 (k res ρ1) → G v H1) :
    ∃ v, σ[j]? = some (some v) ∧ tyV X.K "list" v H ∧ tG X.K cs (rDs X.K) W fs σ H fun us H1 => r v us H1 G := by
  unfold mutS at q
  split at q
  next ds e =>
    obtain ⟨a, h1, h2, h3⟩ := rl.own j _ e
    cases h2 with
    | lst h2 h4 =>
      refine ⟨_, h1, .inl ⟨rfl, _, SqL.of h2⟩, tG.bindS (rp := rDs X.K) rl q fun Φ1 H1 args us r1 x rep q => ?_⟩
      split at q
      next res ds' eg =>
        refine m Φ1 H1 G a _ us ds args res ds' (x.heap _ _ h2) (h4.mono x.mono) rep eg fun v' vs' w1 w2 => ?_
        obtain ⟨r2, s2⟩ := r1.mut (d' := .lst ds') (u := .lst vs') h1 e (.lst upd_same w2)
        exact c Φ1 _ res v' _ r2 w1 (RunS.step s2 rfl q)
      next => exact q.elim
  next => exact q.elim
def gAppend : GL
  | ds, [d] => if ds.length < LIM then .ok (.non, ds ++ [d]) else .stuck
  | _, _ => .stuck
theorem RepDs.one {K : PySem.W.Frag} {Φ : Hp} {d : D} {vs : List V} (h : RepDs K Φ [d] vs) : ∃ v, vs = [v] ∧ RepD K Φ d v := by
  cases h with
  | cons h r => cases r; exact ⟨_, rfl, h⟩
theorem mu_append : MutL X rAppend gAppend := fun Φ H Q a vs us ds args res ds' ha hd hr e k => by
  unfold gAppend at e
  split at e
  · split at e
    next hl =>
      cases e
      obtain ⟨v, rfl, h⟩ := hr.one
      exact ⟨a, vs, v, rfl, rfl, ha, by rw [← hd.length]; exact lim_lt (by omega), k _ _ .non (hd.append (.cons h .nil))⟩
    next => cases e
  · cases e
def gPop : GL
  | ds, [] => (oR ds[ds.length - 1]?).bind fun d => .ok (d, ds.dropLast)
  | _, _ => .stuck
theorem mu_pop : MutL X rPop gPop := fun Φ H Q a vs us ds args res ds' ha hd hr e k => by
  unfold gPop at e
  split at e
  · cases hr
    cases e1 : ds[ds.length - 1]? with
    | none => rw [e1] at e; cases e
    | some d =>
      rw [e1] at e
      cases e
      obtain ⟨v, h1, h2⟩ := hd.get e1
      exact ⟨a, vs, v, rfl, rfl, ha, by rw [← hd.length]; exact h1, k _ _ h2 hd.dropLast⟩
  · cases e
def gClear : GL
  | ds, [] => .ok (.non, [])
  | _, _ => .stuck
abbrev kNx : D → List Sl → RS := fun _ ρ => .nx ρ
abbrev kAsg (ft : D → R (List (Nat × D))) : D → List Sl → RS := fun d ρ => tryE ρ (ft d) fun as => .nx (setS ρ as)
/-- x.m(e) as a statement -/
theorem ss_mut1 {r : V → List V → Hp → VK → Prop} {g : GL} {name x : Str} {id : String} (j : Nat) (m : MutL X r g) (slot : Slot "list" name id) (hty : typeOf (.builtin id) = pure (.type "method_descriptor")) (hm : MtR X id r) (ha : SAd X cs W (e :: es) fs)
    (hN : X.N[j]? = some x := by rfl) (hv : Vis X.env.scope x := by first | exact Or.inl rfl | exact Or.inr (Or.inl rfl) | exact Or.inr (Or.inr rfl)) (hd : (x == ("__debug__" : Str)) = false := by decide) (hcd : (x == ("__classdict__" : Str)) = false := by decide)
    (hbase : attributeBase (.Name x p) name X.env (eval (.Name x p) X.env) = eval (.Name x p) X.env := by rfl)
    (hfew : ((backTo cpos (starEach (e :: es) X.env)).all (fun x => !x.1) && (backToKw cpos (keywordEach [] X.env)).all (fun x => x.1.isSome)
      && decide ((e :: es).length + ([] : List Keyword).length + (if ([] : List Keyword).isEmpty then 0 else 1) < 30)) = true := by rfl)
    (hline : (apos.endLine == cpos.line) = true := by rfl) (hs : starEach (e :: es) X.env = (false, eval e X.env) :: starEach es X.env := by rfl) (hplain : (backTo cpos (starEach es X.env)).any (·.1) = false := by rfl)
    (hsw : swapsWith (.Call (.Attribute (.Name x p) name apos) (e :: es) [] cpos) none pos.line X.env = pure false := by rfl) :
    SS X cs W np (.Expr (.Call (.Attribute (.Name x p) name apos) (e :: es) [] cpos) pos) (mutS j g fs kNx) :=
  psImp (ps_expr (pe_bm PySem.F.plainAttrs_list slot hty hm (pe_var hN hv hd hcd) ha hbase hfew hline hs hplain) hsw) fun D' σ H ⟨Φ, ρ, r, q⟩ => runMut m r q fun Φ1 H1 res v ρ1 r1 _ q => q.nx0 r1
end
inductive RF where
  | ok (r : Sl) (fin : List Sl) | exc (x : Exn) (fin : List Sl) | stuck
abbrev Fn := List Sl → RF
abbrev vS (vs : List V) : L2.St := vs.map some
def RunF (K : PySem.W.Frag) (cs : Nat → Addr) (vs : List V) (args : List Sl) (Φ H : Hp) (Q : VK) (E : XK) : RF → Prop
  | .ok r fin => ∀ Φ' H' v, Stp (Own H (vS vs) args) Φ H Φ' H' (Own H' (vS vs ++ [some v]) (fin ++ [r])) → Rel K Φ' H' (vS vs ++ [some v]) (fin ++ [r]) → Q v H'
  | .exc x fin => ∀ Φ' H' c dd, Stp (Own H (vS vs) args) Φ H Φ' H' (Own H' (vS vs) fin) → Rel K Φ' H' (vS vs) fin → RepX cs Φ' H' x c dd → E c dd H'
  | .stuck => False
/-- what a function promises: n parameters, G on data -/
def spG (K : PySem.W.Frag) (cs : Nat → Addr) (n : Nat) (G : Fn) : Sp := fun vs H Q E => vs.length = n ∧ ∃ Φ args, Rel K Φ H (vS vs) args ∧ RunF K cs vs args Φ H Q E (G args)
def Sl.isVal : Sl → Bool
  | .val _ => true
  | _ => false
def finOf (n np : Nat) (args ρ : List Sl) : List Sl := if n ≤ np then ρ.take n else args
/-- a function from its body: N slots, n parameters, np of them never stored to -/
def bodyF (N n np : Nat) (fb : Es) : Fn := fun args => if n ≤ np ∨ args.all Sl.isVal = true then (match fb (args ++ List.replicate (N - n) .emp) with
  | .rt r ρ => .ok r (finOf n np args ρ)
  | .nx ρ => .ok (.val .non) (finOf n np args ρ)
  | .exc x ρ => .exc x (finOf n np args ρ)
  | _ => .stuck) else .stuck
section
variable {K : PySem.W.Frag} {Φ H : Hp} {σ σ2 : L2.St} {ρ ρ2 : List Sl}
theorem Rel.pick (r : Rel K Φ H σ ρ) (hl : σ2.length = ρ2.length) (f : Nat → Nat) (inj : ∀ i j, f i = f j → i = j) (h : ∀ (j : Nat) (s : Sl), ρ2[j]? = some s → s ≠ .emp → ρ[f j]? = some s ∧ σ[f j]? = σ2[j]?) : Rel K Φ H σ2 ρ2 := by
  have ow : ∀ j a, OwnAt H σ2 ρ2 j a → OwnAt H σ ρ (f j) a := fun j a ⟨s, u, h1, h2, h3⟩ => by
    obtain ⟨e1, e2⟩ := h j _ h1 fun z => by subst z; cases h3
    exact ⟨s, u, e1, e2.trans h2, h3⟩
  refine .of r.sub hl (fun j s x h1 h2 => ?_) fun i j a h1 h2 => inj _ _ (r.sep _ _ a (ow _ _ h1) (ow _ _ h2))
  by_cases hs : s = .emp
  · subst hs; trivial
  · obtain ⟨e1, e2⟩ := h j _ h1 hs
    exact r.slot e1 (e2.trans h2)
theorem ownPick (f : Nat → Nat) (h : ∀ (j : Nat) (s : Sl), ρ2[j]? = some s → s ≠ .emp → ρ[f j]? = some s ∧ σ[f j]? = σ2[j]?) {a : Addr} (w : Own H σ2 ρ2 a) : Own H σ ρ a := by
  obtain ⟨j, s, u, h1, h2, h3⟩ := w
  obtain ⟨e1, e2⟩ := h j _ h1 fun z => by subst z; cases h3
  exact ⟨f j, s, u, e1, e2.trans h2, h3⟩
theorem padAt {k : Nat} {j : Nat} {s : Sl} (h : (ρ ++ List.replicate k Sl.emp)[j]? = some s) (hs : s ≠ .emp) : ρ[j]? = some s := by
  by_cases hj : j < ρ.length
  · rwa [List.getElem?_append_left hj] at h
  · rw [List.getElem?_append_right (by omega), List.getElem?_replicate] at h
    split at h
    · cases h; exact absurd rfl hs
    · cases h
theorem Rel.pad (r : Rel K Φ H σ ρ) (k : Nat) : Rel K Φ H (σ ++ List.replicate k none) (ρ ++ List.replicate k .emp) :=
  r.pick (by simp [r.len]) id (fun _ _ e => e) fun j s e hs => by
    have e' := padAt e hs
    exact ⟨e', by rw [List.getElem?_append_left (by rw [r.len]; exact (List.getElem?_eq_some_iff.mp e').1)]; rfl⟩
theorem ownPad (hl : σ.length = ρ.length) {k : Nat} {a : Addr} (w : Own H (σ ++ List.replicate k none) (ρ ++ List.replicate k .emp) a) : Own H σ ρ a :=
  ownPick id (fun j s e hs => by
    have e' := padAt e hs
    exact ⟨e', by rw [List.getElem?_append_left (by rw [hl]; exact (List.getElem?_eq_some_iff.mp e').1)]; rfl⟩) w
/-- of a frame, the first n slots and the last one -/
def ends (n m : Nat) (j : Nat) : Nat := if j < n then j else m + (j - n)
theorem ends_inj {n m : Nat} (h : n ≤ m) (i j : Nat) (e : ends n m i = ends n m j) : i = j := by
  unfold ends at e
  split at e <;> split at e <;> omega
theorem ends_ok {n : Nat} {x : Option V} {r : Sl} (hl : σ.length = ρ.length) (hn : n ≤ ρ.length) (j : Nat) (s : Sl) (h : (ρ.take n ++ [r])[j]? = some s) (_ : s ≠ .emp) :
    (ρ ++ [r])[ends n ρ.length j]? = some s ∧ (σ ++ [x])[ends n ρ.length j]? = (σ.take n ++ [x])[j]? := by
  have l1 : (ρ.take n).length = n := by rw [List.length_take]; omega
  have l2 : (σ.take n).length = n := by rw [List.length_take, hl]; omega
  unfold ends
  split
  next hj =>
    rw [List.getElem?_append_left (by omega)] at h
    rw [List.getElem?_append_left (by omega), List.getElem?_append_left (by omega), List.getElem?_append_left (by omega)]
    rw [List.getElem?_take, if_pos hj] at h
    rw [List.getElem?_take, if_pos hj]
    exact ⟨h, rfl⟩
  next hj =>
    rw [List.getElem?_append_right (by omega), l1] at h
    rw [List.getElem?_append_right (by omega), List.getElem?_append_right (by omega), List.getElem?_append_right (by omega), l2, hl]
    rw [show ρ.length + (j - n) - ρ.length = j - n by omega]
    exact ⟨h, rfl⟩
end
theorem allVal {args : List Sl} (h : args.all Sl.isVal = true) {j : Nat} {s : Sl} (e : args[j]? = some s) : ∃ d, s = .val d := by
  have z := List.all_eq_true.mp h s (List.mem_of_getElem? e)
  cases s with
  | val d => exact ⟨d, rfl⟩
  | emp => cases z
  | own d => cases z
  | big d => cases z
theorem Rel.vals {K : PySem.W.Frag} {Φ H Φ' H' : Hp} {σ : L2.St} {ρ : List Sl} (r : Rel K Φ H σ ρ) (h : ρ.all Sl.isVal = true) (m : Same Φ Φ') (s : Same Φ' H') : Rel K Φ' H' σ ρ := by
  refine .of s r.len (fun j t x h1 h2 => ?_) fun i j a ⟨t, u, h1, _, h3⟩ _ => ?_
  · obtain ⟨d, rfl⟩ := allVal h h1
    obtain ⟨v, e, q⟩ := r.slot h1 h2
    exact ⟨v, e, q.mono m⟩
  · obtain ⟨d, rfl⟩ := allVal h h1
    cases h3
theorem ownVals {H : Hp} {σ : L2.St} {ρ : List Sl} (h : ρ.all Sl.isVal = true) {a : Addr} : ¬ Own H σ ρ a := fun ⟨j, t, u, h1, _, h3⟩ => by
  obtain ⟨d, rfl⟩ := allVal h h1
  cases h3
theorem Rel.lastOnly {K : PySem.W.Frag} {Φ H : Hp} {σ τ : L2.St} {ρ ξ : List Sl} {x : Option V} {r : Sl} (h : Rel K Φ H (σ ++ [x]) (ρ ++ [r])) (hl : σ.length = ρ.length) (g : Rel K Φ H τ ξ) (hv : ξ.all Sl.isVal = true) : Rel K Φ H (τ ++ [x]) (ξ ++ [r]) := by
  have lr : (ρ ++ [r])[ρ.length]? = some r := by simp
  have lx : (σ ++ [x])[ρ.length]? = some x := by rw [← hl]; simp
  have ow : ∀ i a, OwnAt H (τ ++ [x]) (ξ ++ [r]) i a → i = ξ.length := fun i a ⟨t, u, h1, _, h3⟩ => by
    rcases getApp h1 with h1 | ⟨hi, _⟩
    · obtain ⟨d, rfl⟩ := allVal hv h1
      cases h3
    · exact hi
  refine .of g.sub (by simp [g.len]) (fun j t y h1 h2 => ?_) fun i j a w1 w2 => by rw [ow i a w1, ow j a w2]
  rcases getApp h1 with h1 | ⟨hj, e⟩
  · rw [List.getElem?_append_left (by rw [g.len]; exact (List.getElem?_eq_some_iff.mp h1).1)] at h2
    exact g.slot h1 h2
  · rcases getApp h2 with h2 | ⟨_, e2⟩
    · have := (List.getElem?_eq_some_iff.mp h2).1; rw [g.len] at this; omega
    · subst e; subst e2
      exact h.slot lr lx
theorem ownLast {H : Hp} {σ τ : L2.St} {ρ ξ : List Sl} {x : Option V} {r : Sl} (hl : σ.length = ρ.length) (hl2 : τ.length = ξ.length) (hv : ξ.all Sl.isVal = true) {a : Addr} (w : Own H (τ ++ [x]) (ξ ++ [r]) a) : Own H (σ ++ [x]) (ρ ++ [r]) a := by
  obtain ⟨j, t, u, h1, h2, h3⟩ := w
  rcases getApp h1 with h1 | ⟨hj, e1⟩
  · obtain ⟨d, rfl⟩ := allVal hv h1
    cases h3
  · rcases getApp h2 with h2 | ⟨_, e2⟩
    · have := (List.getElem?_eq_some_iff.mp h2).1; omega
    · subst e1; subst e2
      exact ⟨ρ.length, r, u, by simp, by rw [← hl]; simp, h3⟩
/-- THE RULE for a def -/
theorem okF {P : Program} {w : World} {K : PySem.W.Frag} {mg : Str → Option Value} {base : Heap} {x qual : Str} {st : Stmt} {f : Addr} {fd : FuncData} {N ps : List Str} {k : Nat} (F : Fun K x qual st f fd) (S : FnScope N ps (defScope st)) (cs : Nat → Addr) (np : Nat) (fb : Es)
    (hb : ∀ (cdv : Value) (A : Around) (outer : List PySem.Env) (s : Shared) (H : Hp) (E : XK), Room k (A.deeper (envOfC qual (defScope st) s.heap.objs.size f cdv)) →
      SSs (cxOf (L2.CX P w) P w K mg base N qual (defScope st) f cdv A outer s H E) cs (fun c d _ H => E c d H) np (defBody st) fb) :
    FnOk P w K mg base (L2.CX P w) (k + 1) f fd ps (spG K cs ps.length (bodyF N.length ps.length np fb)) := by
  refine F.okX S (fun vs H Q E h => h.1) fun cdv A outer s H vs Q E hr hsp => ⟨_, hb cdv A outer s H E hr, ?_⟩
  obtain ⟨hlen, Φ, args, r, q⟩ := hsp
  have hal : args.length = ps.length := by rw [← r.len, List.length_map, hlen]
  have hst : L2.start N vs = vS vs ++ List.replicate (N.length - ps.length) none := by unfold L2.start; rw [hlen]
  have hps : ps.length ≤ N.length := by have := congrArg List.length S.pre; rw [List.length_take] at this; omega
  rw [hst]
  refine ⟨Φ, args ++ List.replicate (N.length - ps.length) Sl.emp, r.pad (N.length - ps.length), ?_⟩
  unfold bodyF at q
  split at q
  case isFalse => exact q.elim
  next hg =>
  have own0 : ∀ {P' : Addr → Prop} {Φ' H'}, Stp (Own H (vS vs ++ List.replicate (N.length - ps.length) none) (args ++ List.replicate (N.length - ps.length) .emp)) Φ H Φ' H' P' → Stp (Own H (vS vs) args) Φ H Φ' H' P' := fun s =>
    ⟨s.mono, fun b o e hn => s.frame b o e fun w => hn (ownPad r.len w), fun b p => (s.own b p).imp (ownPad r.len) id, fun b o e => (s.new b o e).imp id (Or.imp (ownPad r.len) id)⟩
  have take0 : ∀ {σ' : L2.St}, ps.length ≤ np → σ'.take np = (vS vs ++ List.replicate (N.length - ps.length) none).take np → σ'.take ps.length = vS vs := fun {σ'} hle ht => by
    have h1 := congrArg (List.take ps.length) ht
    rw [List.take_take, List.take_take, Nat.min_eq_left hle] at h1
    rw [h1, List.take_append_of_le_length (by simp [hlen])]
    exact List.take_of_length_le (by simp [hlen])
  have main : ∀ (rr : Sl) (ρ' : List Sl) (σ' : L2.St) (v : V) (Φ' H' : Hp), RunF K cs vs args Φ H Q E (.ok rr (finOf ps.length np args ρ')) → Stp (Own H (vS vs) args) Φ H Φ' H' (Own H' (σ' ++ [some v]) (ρ' ++ [rr])) → Rel K Φ' H' (σ' ++ [some v]) (ρ' ++ [rr]) → (ps.length ≤ np → σ'.take ps.length = vS vs) → Q v H' := fun rr ρ' σ' v Φ' H' q s r' t => by
    have hl' : σ'.length = ρ'.length := by simpa using r'.len
    unfold finOf at q
    split at q
    next hnp =>
      have hle : ps.length ≤ ρ'.length := by
        have h1 := congrArg List.length (t hnp)
        rw [List.length_take, List.length_map] at h1
        omega
      have hpick := fun j s h hs => ends_ok (σ := σ') (ρ := ρ') (n := ps.length) (x := some v) (r := rr) hl' hle j s h hs
      rw [t hnp] at hpick
      refine q Φ' H' v ⟨s.mono, s.frame, fun b p => s.own b (ownPick _ hpick p), s.new⟩ (r'.pick ?_ _ (ends_inj hle) hpick)
      simp [hlen, List.length_take]; omega
    next hnp =>
      have hv : args.all Sl.isVal = true := hg.resolve_left hnp
      exact q Φ' H' v ⟨s.mono, s.frame, fun b p => s.own b (ownLast hl' r.len hv p), s.new⟩ (r'.lastOnly hl' (r.vals hv s.mono r'.sub) hv)
  have mainX : ∀ (x : Exn) (ρ' : List Sl) (σ' : L2.St) (Φ' H' : Hp) (c : Value) (dd : Option Addr), RunF K cs vs args Φ H Q E (.exc x (finOf ps.length np args ρ')) → Stp (Own H (vS vs) args) Φ H Φ' H' (Own H' σ' ρ') → Rel K Φ' H' σ' ρ' → (ps.length ≤ np → σ'.take ps.length = vS vs) → RepX cs Φ' H' x c dd → E c dd H' := fun x ρ' σ' Φ' H' c dd q s r' t hx => by
    have hl' : σ'.length = ρ'.length := r'.len
    unfold finOf at q
    split at q
    next hnp =>
      have hle : ps.length ≤ ρ'.length := by
        have h1 := congrArg List.length (t hnp)
        rw [List.length_take, List.length_map] at h1
        omega
      have hpick : ∀ (j : Nat) (s : Sl), (ρ'.take ps.length)[j]? = some s → s ≠ .emp → ρ'[id j]? = some s ∧ σ'[id j]? = (vS vs)[j]? := fun j s h _ => by
        have hj : j < ps.length := by
          have := (List.getElem?_eq_some_iff.mp h).1
          rw [List.length_take] at this; omega
        rw [← t hnp]
        rw [List.getElem?_take, if_pos hj] at h
        exact ⟨h, by rw [List.getElem?_take, if_pos hj]; rfl⟩
      exact q Φ' H' c dd ⟨s.mono, s.frame, fun b p => s.own b (ownPick id hpick p), s.new⟩ (r'.pick (by simp [hlen, List.length_take]; omega) id (fun _ _ e => e) hpick) hx
    next hnp =>
      have hv : args.all Sl.isVal = true := hg.resolve_left hnp
      exact q Φ' H' c dd ⟨s.mono, s.frame, fun b p => absurd p (ownVals hv), s.new⟩ (r.vals hv s.mono r'.sub) hx
  cases e : fb (args ++ List.replicate (N.length - ps.length) .emp) with
  | stuck => rw [e] at q; exact q.elim
  | bk ρ' => rw [e] at q; exact q.elim
  | ct ρ' => rw [e] at q; exact q.elim
  | exc x ρ' =>
    rw [e] at q
    exact fun Φ' H' σ' c dd s' r' t' hx => mainX x ρ' σ' Φ' H' c dd q (own0 s') r' (fun hle => take0 hle t') hx
  | rt rr ρ' =>
    rw [e] at q
    exact fun Φ' H' σ' v s' r' t' => main rr ρ' σ' v Φ' H' q (own0 s') r' fun hle => take0 hle t'
  | nx ρ' =>
    rw [e] at q
    intro Φ' H' σ' s' r' t'
    refine main (.val .non) ρ' σ' .non Φ' H' q ?_ (r'.push .non) fun hle => take0 hle t'
    have s0 := own0 s'
    exact ⟨s0.mono, s0.frame, fun b p => s0.own b (ownPush r'.len p), s0.new⟩
def eFn (G : Fn) (fs : Ev (List D)) : Ev D := fun ρ => (fs ρ).bind fun ds => match G (ds.map .val) with
  | .ok (.val d) _ => .ok d
  | .ok (.own d) _ => .ok d
  | .exc x _ => .exc x
  | _ => .stuck
def eFnN (G : Fn) (fs : Ev (List D)) : Ev D := fun ρ => (fs ρ).bind fun ds => match G (ds.map .val) with
  | .ok (.own d) _ => .ok d
  | .exc x _ => .exc x
  | _ => .stuck
section
variable {X : Cx} {cs : Nat → Addr} {W : WX} {e : Expr} {es : List Expr} {fs : Ev (List D)} {pos p : Pos} {x : Str}
theorem valsAll (ds : List D) : (ds.map Sl.val).all Sl.isVal = true := List.all_eq_true.mpr fun s h => by
  obtain ⟨d, _, rfl⟩ := List.mem_map.mp h
  rfl
theorem relVals {K : PySem.W.Frag} {Φ H : Hp} (s : Same Φ H) {ds : List D} {vs : List V} (h : RepDs K Φ ds vs) : Rel K Φ H (vS vs) (ds.map .val) := by
  refine .of s (by simp [h.length]) (fun j t x h1 h2 => ?_) fun i j a ⟨t, u, h1, _, h3⟩ _ => ?_
  · rw [List.getElem?_map] at h1
    cases e2 : ds[j]? with
    | none => rw [e2] at h1; cases h1
    | some d' =>
      rw [e2] at h1; cases h1
      obtain ⟨v, g1, g2⟩ := h.get e2
      simp [g1] at h2
      exact ⟨v, h2.symm, g2⟩
  · obtain ⟨d, rfl⟩ := allVal (valsAll ds) h1
    cases h3
/-- a step that owns nothing is growth -/
theorem Stp.ext {P P' : Addr → Prop} {Φ H Φ' H' : Hp} (s : Stp P Φ H Φ' H' P') (h : ∀ a, ¬ P a) (sub : Same Φ' H') : Ext Φ H Φ' H' :=
  ⟨s.mono, fun b o e => s.frame b o e (h b), sub, fun b o e => by
    rcases s.new b o e with z | z | z
    · exact .inl z
    · exact absurd z (h b)
    · exact .inr z⟩
theorem Rel.last {K : PySem.W.Frag} {Φ H : Hp} {σ : L2.St} {ρ : List Sl} {v : V} {d : D} (r : Rel K Φ H (σ ++ [some v]) (ρ ++ [.val d])) : RepD K Φ d v := by
  have hl : σ.length = ρ.length := by simpa using r.len
  obtain ⟨u, h1, h2⟩ := r.val ρ.length d (by simp)
  rw [← hl] at h1
  simp at h1
  subst h1
  exact h2
theorem Rel.lastOwn {K : PySem.W.Frag} {Φ H : Hp} {σ : L2.St} {ρ : List Sl} {v : V} {d : D} (r : Rel K Φ H (σ ++ [some v]) (ρ ++ [.own d])) : ∃ a, v = .ref a ∧ RepOwn K Φ H d a ∧ Φ a = none ∧ Own H (σ ++ [some v]) (ρ ++ [.own d]) a := by
  have hl : σ.length = ρ.length := by simpa using r.len
  obtain ⟨a, h1, h2, h3⟩ := r.own ρ.length d (by simp)
  have h1' := h1
  rw [← hl] at h1
  simp at h1
  subst h1
  exact ⟨a, rfl, h2, h3, ρ.length, ownAt_own (d := d) h1' (by simp)⟩
theorem runFn {n : Nat} {G : Fn} {ds : List D} {vs : List V} {σ : L2.St} {Φ H : Hp} {Q : VK} (s : Same Φ H) (h : RepDs X.K Φ ds vs) (hn : ds.length = n)
    (q : RunN X.K cs W σ Φ H Q (match G (ds.map .val) with
      | .ok (.own d) _ => .ok d
      | .exc x _ => .exc x
      | _ => .stuck) ∨ Run cs (rD X.K) W σ Φ H Q (match G (ds.map .val) with
      | .ok (.val d) _ => .ok d
      | .ok (.own d) _ => .ok d
      | .exc x _ => .exc x
      | _ => .stuck)) : spG X.K cs n G vs H Q (WE W σ) := by
  refine ⟨by rw [← h.length]; exact hn, Φ, ds.map .val, relVals s h, ?_⟩
  have no : ∀ a, ¬ Own H (vS vs) (ds.map .val) a := fun a => ownVals (valsAll ds)
  cases e : G (ds.map .val) with
  | stuck => rw [e] at q; rcases q with q | q <;> exact q.elim
  | exc x fin =>
    rw [e] at q
    intro Φ' H' c dd s' r' hx
    have x' := s'.ext no r'.sub
    rcases q with q | q <;> exact q Φ' H' c dd x' hx
  | ok r fin =>
    rw [e] at q
    intro Φ' H' v s' r'
    have x' := s'.ext no r'.sub
    cases r with
    | emp => rcases q with q | q <;> exact q.elim
    | big o => rcases q with q | q <;> exact q.elim
    | val d =>
      rcases q with q | q
      · exact q.elim
      · exact q Φ' H' v x' r'.last
    | own d =>
      obtain ⟨a, rfl, h2, h3, h4⟩ := r'.lastOwn
      have hb : H a = none := (s'.own a h4).resolve_left (no a)
      rcases q with q | q
      · exact q Φ' H' a x' hb h3 h2
      · obtain ⟨o, e1, e2, e3⟩ := h2.freeze h3
        exact q _ H' _ (x'.freeze hb h3 e1) e2
theorem sd_call {k n : Nat} {f : Addr} {fd : FuncData} {ps : List Str} {G : Fn} (F : FnOk X.prog X.w X.K X.mg X.base (L2.CX X.prog X.w) k f fd ps (spG X.K cs n G)) (hr : Room k X.A) (hg : Gl X x) (hm : X.mg x = some (.ref f)) (hk : PySem.W.keepIn X.K (.ref f) = true) (hb : Binds X.K fd ps [])
    (tk : Takes X W) (ha : SAd X cs W (e :: es) fs) (hl : ∀ ρ ds, fs ρ = .ok ds → ds.length = n) (hdb : (x == ("__debug__" : Str)) = false := by decide) (he : starEach (e :: es) X.env = (false, eval e X.env) :: starEach es X.env := by rfl) (hpl : (backTo pos (starEach es X.env)).any (·.1) = false := by rfl) :
    SD X cs W (.Call (.Name x p) (e :: es) [] pos) (eFn G fs) := peImp (pe_callS F hr hg hm hk hb (fun σ => passAt tk σ) ha hdb he hpl) fun σ H Q ⟨Φ, ρ, r, q⟩ =>
  tG.bind' (rp := rDs X.K) r q fun Φ1 H1 ds vs e1 r1 x rep q => runFn r1.sub rep (hl ρ ds e1) (.inr q)
theorem aCons_len {fa : Ev D} {n : Nat} (h : ∀ ρ ds, fs ρ = .ok ds → ds.length = n) (ρ : List Sl) (ds : List D) (e : aCons fa fs ρ = .ok ds) : ds.length = n + 1 := by
  obtain ⟨d, _, e⟩ := R.bind_ok e
  obtain ⟨ds', h1, e⟩ := R.bind_ok e
  cases e
  rw [List.length_cons, h ρ ds' h1]
theorem aNil_len (ρ : List Sl) (ds : List D) (e : aNil ρ = .ok ds) : ds.length = 0 := by cases e; rfl
end
end PL
set_option Elab.async false
set_option linter.all false
set_option maxRecDepth 100000
namespace PL
set_option autoImplicit false
open PySem PySem.Spec PyProof.Rows L2
theorem ftOne_in {i : Nat} {l : List Nat} (h : i ∈ l) (d : D) (as : List (Nat × D)) (e : ftOne i d = .ok as) : ∀ p ∈ as, p.1 ∈ l := by
  cases e
  intro p hp
  simp at hp
  subst hp
  exact h
theorem ftOne_ge {i n : Nat} (h : n ≤ i) (d : D) (as : List (Nat × D)) (e : ftOne i d = .ok as) : ∀ p ∈ as, n ≤ p.1 := by
  cases e
  intro p hp
  simp at hp
  subst hp
  exact h
theorem ftOne_nx (i : Nat) (d : D) (x : Exn) : ftOne i d ≠ .exc x := fun e => by cases e
theorem zip_mem {α : Type} : ∀ {is : List Nat} {ds : List α} {p : Nat × α}, p ∈ is.zip ds → p.1 ∈ is
  | [], _, _, h => by simp at h
  | _ :: _, [], _, h => by simp at h
  | i :: is, d :: ds, p, h => by
    rw [List.zip_cons_cons] at h
    rcases List.mem_cons.mp h with h | h
    · subst h; exact List.mem_cons_self
    · exact List.mem_cons_of_mem _ (zip_mem h)
theorem ftTup_ge {is : List Nat} {n : Nat} (h : ∀ i ∈ is, n ≤ i) (d : D) (as : List (Nat × D)) (e : ftTup is d = .ok as) : ∀ p ∈ as, n ≤ p.1 := by
  unfold ftTup at e
  split at e
  · split at e
    · cases e; exact fun p hp => h _ (zip_mem hp)
    · cases e
  · cases e
theorem ftTup_nx (is : List Nat) (d : D) (x : Exn) : ftTup is d ≠ .exc x := fun e => by
  unfold ftTup at e
  split at e
  · split at e <;> cases e
  · cases e
/-- a def of the text as it stands behind the top -/
structure Fx (K : PySem.W.Frag) (mg : Str → Option Value) (x : Str) (st : Stmt) (ps : List Str) where
  f : Addr
  fd : FuncData
  fn : Fun K x x st f fd
  mg : mg x = some (.ref f)
  bd : Binds K fd ps []
theorem okStuck {P : Program} {w : World} {K : PySem.W.Frag} {mg : Str → Option Value} {base : Heap} {CX : CXT} {k : Nat} {f : Addr} {fd : FuncData} {ps : List Str} (cs : Nat → Addr) : FnOk P w K mg base CX k f fd ps (spG K cs ps.length fun _ => .stuck) :=
  ⟨fun vs H Q E h => h.1, fun A outer s H args us vs Q E _ _ _ _ h => by
    obtain ⟨_, _, _, _, q⟩ := h
    exact q.elim⟩
/-- the law's own promise -/
theorem law_sp {K : PySem.W.Frag} {cs : Nat → Addr} {G : Fn} {H : Hp} {a : Addr} {ns : List Int} (h : ∃ fin, G [.val (.scr ns)] = .ok (.val (.bl true)) fin) (hs : SqL K H a (ns.map V.int)) :
    spG K cs 1 G [.ref a] H (fun v _ => v = .bl true) fun _ _ _ => False := by
  obtain ⟨fin, h⟩ := h
  refine ⟨rfl, H, [.val (.scr ns)], relVals (ds := [.scr ns]) (Same.refl H) (.cons (.scr hs) .nil), ?_⟩
  rw [h]
  intro Φ' H' v s' r'
  have z := r'.last
  cases z
  rfl
theorem law_cx {P : Program} {w : World} (H : Hp) (s : Shared) (e : Value) (s' : Shared) (h : L2.CX P w [] H s (fun _ _ _ => False) e s') : False := by
  obtain ⟨_, _, _, _, _, _, _, _, _, _, _, _, z⟩ := h
  exact z
end PL
set_option Elab.async false
set_option linter.all false
set_option maxRecDepth 100000
namespace PL
set_option autoImplicit false
open PySem PySem.Spec PyProof.Rows L2
theorem kcK_inj {a b : Key} (h : kcK a = kcK b) : a = b := by
  cases a <;> cases b <;> simp only [kcK, Sum.inl.injEq, Sum.inr.injEq, reduceCtorEq] at h
  · rw [h]
  · rename_i x y
    cases x; cases y
    congr 1
    exact congrArg Str.mk (Array.toList_inj.mp h)
theorem kcK_dec (a b : Key) : decide (kcK a = kcK b) = decide (a = b) := by
  by_cases h : a = b
  · subst h; simp
  · rw [decide_eq_false h, decide_eq_false fun z => h (kcK_inj z)]
def lookC (es : List (Kc × D)) (k : Kc) : Option D := (es.find? fun e => decide (e.1 = k)).map (·.2)
def putC (es : List (Kc × D)) (k : Kc) (d : D) : List (Kc × D) :=
  if (es.any fun e => decide (e.1 = k)) = true then es.map (fun e => if e.1 = k then (e.1, d) else e) else es ++ [(k, d)]
def mergeC (es more : List (Kc × D)) : List (Kc × D) := more.foldl (fun acc kv => putC acc kv.1 kv.2) es
def D.key : D → Option Kc
  | .int i => some (.inl i)
  | .str s => some (.inr s)
  | _ => none
section
variable {K : PySem.W.Frag} {Φ H : Hp}
theorem RepKs.look {k : Key} : ∀ {es : List (Kc × D)} {kvs : List (Key × V)}, RepKs K Φ es kvs → (lookC es (kcK k) = none ∧ valV kvs k = none) ∨ ∃ d v, lookC es (kcK k) = some d ∧ valV kvs k = some v ∧ RepD K Φ d v
  | _, _, .nil => .inl ⟨rfl, rfl⟩
  | _, _, .cons (k := j) (d := d) (v := v) (ds := ds) (vs := vs) h r => by
    by_cases e : j = k
    · refine .inr ⟨d, v, by simp [lookC, e], valV_pos e, h⟩
    · have e2 : ¬ kcK j = kcK k := fun z => e (kcK_inj z)
      have e3 : lookC ((kcK j, d) :: ds) (kcK k) = lookC ds (kcK k) := by simp [lookC, e2]
      rw [e3, valV_neg (p := (j, v)) e]
      exact RepKs.look r
theorem RepKs.any {k : Key} : ∀ {es : List (Kc × D)} {kvs : List (Key × V)}, RepKs K Φ es kvs → (es.any fun e => decide (e.1 = kcK k)) = (kvs.any fun kv => decide (kv.1 = k))
  | _, _, .nil => rfl
  | _, _, .cons h r => by rw [List.any_cons, List.any_cons, RepKs.any r, kcK_dec]
theorem RepKs.repl {k : Key} {d : D} {v : V} (h : RepD K Φ d v) : ∀ {es : List (Kc × D)} {kvs : List (Key × V)}, RepKs K Φ es kvs → RepKs K Φ (es.map (fun e => if e.1 = kcK k then (e.1, d) else e)) (kvs.map fun kv => if kv.1 = k then (kv.1, v) else kv)
  | _, _, .nil => .nil
  | _, _, .cons (k := j) g r => by
    rw [List.map_cons, List.map_cons]
    by_cases e : j = k
    · simp only [e, if_true]
      exact .cons h (RepKs.repl h r)
    · have e2 : ¬ kcK j = kcK k := fun z => e (kcK_inj z)
      simp only [e, e2, if_false]
      exact .cons g (RepKs.repl h r)
theorem RepKs.append : ∀ {es fs : List (Kc × D)} {kvs gs : List (Key × V)}, RepKs K Φ es kvs → RepKs K Φ fs gs → RepKs K Φ (es ++ fs) (kvs ++ gs)
  | _, _, _, _, .nil, s => s
  | _, _, _, _, .cons h r, s => .cons h (RepKs.append r s)
theorem RepKs.put {k : Key} {d : D} {v : V} {es : List (Kc × D)} {kvs : List (Key × V)} (r : RepKs K Φ es kvs) (h : RepD K Φ d v) : RepKs K Φ (putC es (kcK k) d) (putK kvs k v) := by
  unfold putC putK
  rw [r.any]
  split
  · exact r.repl h
  · exact r.append (.cons h .nil)
theorem RepKs.length : ∀ {es : List (Kc × D)} {kvs : List (Key × V)}, RepKs K Φ es kvs → es.length = kvs.length
  | _, _, .nil => rfl
  | _, _, .cons _ r => by rw [List.length_cons, List.length_cons, RepKs.length r]
theorem RepV.key {d : D} {v : V} {kc : Kc} (h : RepV K Φ H d v) (e : d.key = some kc) : ∃ k, v = kV k ∧ kcK k = kc := by
  cases d <;> simp only [D.key, Option.some.injEq, reduceCtorEq] at e <;> subst e
  · cases h.int_inv; exact ⟨.inl _, rfl, rfl⟩
  · obtain ⟨x, rfl, rfl⟩ := h.str_inv; exact ⟨.inr x, rfl, rfl⟩
end
def pairsE : List (Ev D × Ev D) → Ev (List (D × D))
  | [] => fun _ => .ok []
  | (fk, fv) :: r => fun ρ => (fk ρ).bind fun k => (fv ρ).bind fun v => (pairsE r ρ).bind fun l => .ok ((k, v) :: l)
def keysC : List (D × D) → Option (List (Kc × D))
  | [] => some []
  | (k, d) :: r => match k.key, keysC r with
    | some kc, some l => some ((kc, d) :: l)
    | _, _ => none
def gDisp (l : List (D × D)) : R D := (oR (keysC l)).bind fun es => if es.length ≤ 15 then .ok (.dic (mergeC [] es)) else .stuck
def eDisp (prs : List (Ev D × Ev D)) : Ev D := fun ρ => (pairsE prs ρ).bind gDisp
inductive RepPs (K : PySem.W.Frag) (Φ : Hp) : List (D × D) → List (V × V) → Prop
  | nil : RepPs K Φ [] []
  | cons {k d : D} {u v : V} {ds : List (D × D)} {vs : List (V × V)} : RepD K Φ k u → RepD K Φ d v → RepPs K Φ ds vs → RepPs K Φ ((k, d) :: ds) ((u, v) :: vs)
theorem RepPs.mono {K : PySem.W.Frag} {Φ Φ' : Hp} (m : Same Φ Φ') : ∀ {ds : List (D × D)} {vs : List (V × V)}, RepPs K Φ ds vs → RepPs K Φ' ds vs
  | _, _, .nil => .nil
  | _, _, .cons h g r => .cons (h.mono m) (g.mono m) (RepPs.mono m r)
theorem RepPs.keys {K : PySem.W.Frag} {Φ : Hp} : ∀ {ds : List (D × D)} {vs : List (V × V)} {es : List (Kc × D)}, RepPs K Φ ds vs → keysC ds = some es → ∃ kvs : List (Key × V), vs = kvs.map (fun kv => (kV kv.1, kv.2)) ∧ RepKs K Φ es kvs
  | _, _, _, .nil, e => by cases e; exact ⟨[], rfl, .nil⟩
  | _, _, es, .cons (k := k) (ds := ds) h g r, e => by
    simp only [keysC] at e
    split at e
    next kc l e1 e2 =>
      cases e
      obtain ⟨kvs, rfl, rk⟩ := RepPs.keys r e2
      obtain ⟨k', rfl, rfl⟩ := (RepD.toV (H := Φ) h).key e1
      exact ⟨(k', _) :: kvs, rfl, .cons g rk⟩
    next => cases e
section
variable {X : Cx} {cs : Nat → Addr} {W : WX} {np : Nat} {a b c e o : Expr} {fa fb fc : Ev D} {pos p apos cpos : Pos}
theorem R.bind_assoc {α β γ : Type} (x : R α) (f : α → R β) (g : β → R γ) : (x.bind f).bind g = x.bind fun a => (f a).bind g := by cases x <;> rfl
def gDix : D → D → R D
  | .dic es, k => (oR k.key).bind fun kc => oR (lookC es kc)
  | _, _ => .stuck
def eDget2 (fa fb fc : Ev D) : Ev D := fun ρ => (fa ρ).bind fun x => match x with
  | .dic es => (fb ρ).bind fun k => (fc ρ).bind fun d => (oR k.key).bind fun kc => .ok ((lookC es kc).getD d)
  | _ => .stuck
def eDget1 (fa fb : Ev D) : Ev D := fun ρ => (fa ρ).bind fun x => match x with
  | .dic es => (fb ρ).bind fun k => (oR k.key).bind fun kc => .ok ((lookC es kc).getD .non)
  | _ => .stuck
def pop2S (i j : Nat) : Es := fun ρ => match ρ[j]? with
  | some (.own (.lst (d1 :: d2 :: ds))) => .nx ((ρ.set j (.own (.lst ds))).set i (.val (.tup [d1, d2])))
  | _ => .stuck
def parS (i j : Nat) (fs : Ev (List D)) : Es := fun ρ => tryE ρ (fs ρ) fun ds => match ds with
  | [x, y] => .nx (setS ρ [(i, x), (j, y)])
  | _ => .stuck
end
end PL
set_option Elab.async false
set_option linter.all false
set_option maxRecDepth 100000
namespace PL
set_option autoImplicit false
open PySem PySem.Spec PyProof.Rows L2
def IteT (K : PySem.W.Frag) (a : Addr) : It :=
  ⟨fun i G => ∃ (ys : List V) (y : V), SqT K G a ys ∧ ys[i]? = some y, fun i G r G' => ∃ q y, r = .ref q ∧ G q = none ∧ G' = upd G q (.tup [.int (i : Nat), y]) ∧ ∀ ys, SqT K G a ys → ys[i]? = some y, fun i G => ∃ ys : List V, SqT K G a ys ∧ ys.length ≤ i⟩
theorem turn_enT {P : Program} {w : World} {K : PySem.W.Frag} {el : List Expr} {k1 : Nat} {tp : Pos} (a c j : Addr) :
    Turn P w K (.Tuple el k1 tp) (IteT K a) [c, j] c (fun i h => (∃ old, IsEnum h c j ((i : Nat) : Int) old) ∧ h.IsTupleIter j a i ∧ c ≠ j) where
  mem := List.mem_cons_self ..
  obj := fun i h ⟨⟨old, he⟩, ⟨o, ho, _, hd⟩, _⟩ b hb => by
    rcases List.mem_cons.mp hb with z | z
    · rw [z]; exact ⟨_, he, fun v q => nomatch q⟩
    · rw [List.mem_singleton.mp z]; exact ⟨o, ho, fun v q => by rw [hd] at q; cases q⟩
  keep := fun i h h' ⟨⟨old, he⟩, hi, hne⟩ k => ⟨⟨old, k c (List.mem_cons_self ..) _ he⟩, hi.at fun o q => k j (by simp) o q, hne⟩
  item := by
    intro X hP hw hK hc i pins s σ H E I hf ⟨⟨old, he⟩, hit, hne⟩ ⟨ys, y, hq, hy⟩
    subst hP hw hK
    obtain ⟨us, rv, p, _⟩ := I.tuple hq
    obtain ⟨u, hu, ru⟩ := rv.get hy
    have p2 : s.heap.IsTuple a us.toArray := p
    have cl : c < s.heap.objs.size := Heap.lt_size he
    have jl : j < s.heap.objs.size := by obtain ⟨_, q, _⟩ := hit; exact Heap.lt_size q
    have aj : a ≠ j := fun z => by
      obtain ⟨o, q1, q2, _⟩ := id p2
      obtain ⟨o', q3, q4, _⟩ := id hit
      rw [z, q3] at q1; cases q1; rw [q4] at q2; exact absurd (Value.type.inj q2) (by decide)
    have ac : c ≠ a := fun z => by
      obtain ⟨o, q1, q2, _⟩ := id p2
      rw [← z, he] at q1; cases q1; exact absurd (Value.type.inj q2) (by decide)
    have dr := Draws.tuple (prog := X.prog) (w := X.w) (A := X.A.in1) (I.ok.hd hc) j a aj us.toArray
    have lt : i < us.toArray.size := by
      have := (List.getElem?_eq_some_iff.mp hu).1
      simpa using this
    refine wpAny_pyNext_enum_itemD dr he ⟨hit, p2⟩ lt hne (by simp [hne, ac]) fun z g tk hz ho hst hT _ hk => ?_
    have ez : z = u := by
      have e2 : us.toArray[i]? = some u := by simpa using hu
      rw [e2] at hz; exact (Option.some.inj hz).symm
    subst ez
    refine ⟨_, rfl, wpAny_letOwnedTupleGo_enum (s := { s with heap := g, toks := tk + 1 }) ho fun g2 he2 sb => ?_⟩
    have hT2 : g2.get? s.heap.objs.size = some { cls := .type "tuple", data := .seq #[.int i tk, z] } := (sb.2 _ (Nat.ne_of_gt cl)).trans hT
    have nw : ObjOk X.prog X.w (upd H s.heap.objs.size (.tup [.int (i : Nat), y])) g2 s.heap.objs.size (.tup [.int (i : Nat), y]) :=
      ⟨by show 2 ≤ sizeLine; decide, [.int i tk, z], .cons ⟨_, rfl⟩ (.cons ru .nil), ⟨_, hT2, rfl, _, rfl⟩⟩
    have I1 : Inv X pins σ (upd H s.heap.objs.size (.tup [.int (i : Nat), y])) { s with heap := g2, toks := tk + 1 } :=
      I.turnedNew (ch := [c, j]) (fun b ob hb q => (sb.2 b (fun z => hb (by simp [z]))).trans (hk b ob (fun z => hb (by simp [z])) (fun z => hb (by simp [z])) q)) hf (Nat.le_refl _) nw
    refine ⟨.ref s.heap.objs.size, _, I1, rfl, ⟨_, y, rfl, I.hok.fresh (Nat.le_refl _), rfl, fun zs hz => by rw [I.tuple_inj hz hq]; exact hy⟩, ⟨⟨z, ?_⟩, hst.1.at fun o q => (sb.2 j (Ne.symm hne)).trans q, hne⟩, fun b hb => ?_⟩
    · have e1 : ((i + 1 : Nat) : Int) = (i : Int) + 1 := by omega
      rw [e1]; exact he2
    · have hl : b < s.heap.objs.size := by
        rcases List.mem_cons.mp hb with z | z
        · rw [z]; exact cl
        · rw [List.mem_singleton.mp z]; exact jl
      rw [upd_ne (Nat.ne_of_lt hl)]
      exact (hf b hb).1
  done := by
    intro X hP hw hK hc i pins s σ H E I hf ⟨⟨old, he⟩, hit, hne⟩ ⟨ys, hq, hy⟩
    subst hP hw hK
    obtain ⟨us, rv, p, _⟩ := I.tuple hq
    have p2 : s.heap.IsTuple a us.toArray := p
    obtain ⟨f0, f1, f2, f3, f4, f5⟩ := hf j (by simp)
    have ln := rv.length
    have hx : us.toArray[i]? = none := by simp; omega
    unfold pyNext
    have hT : s.TypeIs (.ref c) "enumerate" := ⟨_, he, rfl⟩
    refine wpAny_bind (wpAny_attempt (wpAny_callSpecial?_slot (name := Str.ofString "__next__") hT F.slot_enumerate_next (wpAny_call_entry F.slot_enumerate_next hT F.entry_enumerate_next ?_ (F.args_enumerate_next_1 _))))
    show wpAny _ _ (field (.ref c) 2 >>= _) _ _ _
    refine wpAny_bind (wpAny_field he rfl (x := .ref j) rfl (wpAny_bind (wpAny_nextOf_tuple_end (I.ok.hd hc) hit p2 hx fun g x hg hx' => ?_)))
    obtain ⟨o, ho, hcl⟩ := hx'
    refine wpAny_bind (wpAny_isInstance (T := "StopIteration") (b := true) ⟨o, ho, hcl⟩ isSubtype_stop (wpAny_pure ⟨rfl, ?_⟩))
    exact I.turned (t' := s.toks) (fun b o hb q => hg b o hb q) f0 f1 f3 f4 f5
  self := fun A i s Q E ⟨⟨_, he⟩, _⟩ h => wpAny_pyIter_enum he h
theorem meets_enT (l : Addr) (us : Array Value) :
    Meets (Builtin.«enumerate.__new__» ⟨[.type "enumerate", .ref l], []⟩) (fun _ R s => s.heap.IsTuple l us ∧
      R (.ok (.ret (.ref (s.heap.push { cls := .type "tuple_iterator", data := .fields #[.ref l, .int 0 0] }).objs.size)))
        { s with heap := (s.heap.push { cls := .type "tuple_iterator", data := .fields #[.ref l, .int 0 0] }).push { cls := .type "enumerate", data := .fields #[.none, .bool false, .ref s.heap.objs.size, rawInt 0, .none, .none] } }) :=
  .of_wp fun prog w A R s h => by
    obtain ⟨hp, gn, dr, tk, os⟩ := s; obtain ⟨hl, h⟩ := h
    have hsub := sub_enumerate
    have hT : Heap.IsTuple (Shared.heap ⟨hp, gn, dr, tk, os⟩) l us := hl
    obtain ⟨ob, ho, hcl, nn, hdt⟩ := id hT
    wp_walk using wpAny_pyIter_tuple hT
    refine wpAny_stack_any fun st => wpAny_pure ?_
    split
    · rename_i c _ _ _ _ _
      cases (c == Value.type "enumerate")
      · wp_walk using wpAny_pyIter_tuple hT
        exact ⟨_, rfl, h⟩
      · wp_walk using wpAny_pyIter_tuple hT
        exact ⟨_, rfl, h⟩
    · wp_walk using wpAny_pyIter_tuple hT
      exact ⟨_, rfl, h⟩
theorem call_enT {prog : Program} {w : World} {A : Around} {E : Value → Shared → Prop} {s : Shared} {l : Addr} {us : Array Value} {Q : Value → Shared → Prop} (hl : s.heap.IsTuple l us)
    (h : ∀ g, IsEnum g (s.heap.objs.size + 1) s.heap.objs.size 0 .none → g.IsTupleIter s.heap.objs.size l 0 → (∀ b o, s.heap.get? b = some o → g.get? b = some o) → Q (.ref (s.heap.objs.size + 1)) { s with heap := g }) :
    wpAny (model prog w) A (call (.type "enumerate") [.ref l]) Q E s := by
  refine callType_new F.called_enumerate (by decide) (F.typeCall_enumerate_1 _) (F.newCall_enumerate_1 _) (fun obj => F.args_object_init_2 obj _) F.entry_enumerate_new (meets_enT l us) ⟨hl, ?_⟩
  have sz : (s.heap.push { cls := .type "tuple_iterator", data := .fields #[.ref l, .int 0 0] }).objs.size = s.heap.objs.size + 1 := Heap.size_push ..
  have ge := Heap.get?_push_size (s.heap.push { cls := .type "tuple_iterator", data := .fields #[.ref l, .int 0 0] }) (o := { cls := .type "enumerate", data := .fields #[.none, .bool false, .ref s.heap.objs.size, rawInt 0, .none, .none] }) rfl
  rw [sz] at ge
  show _ ∧ _
  rw [sz]
  exact ⟨⟨_, ge, rfl⟩, h _ ge ⟨_, Heap.get?_push_of_some _ (Heap.get?_push_size _ rfl), rfl, rfl⟩ fun b o x => Heap.get?_push_of_some _ (Heap.get?_push_of_some _ x)⟩
def iEnA (K : PySem.W.Frag) (te : TE) : TI := fun σ H R => te σ H fun v H1 => ∃ (a : Addr) (xs : List V), v = .ref a ∧ ((SqL K H1 a xs ∧ R (Ite K a) H1) ∨ (SqT K H1 a xs ∧ R (IteT K a) H1))
theorem pi_enA {X : Cx} {e : Expr} {te : TE} {p pos tpos : Pos} {elts : List Expr} {kk : Nat} (hg : Gl X "enumerate") (hm : X.mg "enumerate" = none) (he : PE X e te) (hs : starEach [e] X.env = (false, eval e X.env) :: starEach [] X.env := by rfl) :
    PI X (.Tuple elts kk tpos) (.Call (.Name "enumerate" p) [e] [] pos) (iEnA X.K te) := by
  refine ⟨fun pins s σ H R I h => Call_ (ld_blt I hg hm boot_enumerate (PyProof.Rows.callWith_type1 (args_cons (thn (he.run pins s σ H _ I h) fun u s1 ⟨v, H1, I1, r1, q1⟩ => args_nil ?_) hs) hs rfl))⟩
  obtain ⟨a, xs, rfl, q⟩ := q1
  obtain rfl : u = Value.ref a := r1
  have fp : ∀ b ∈ [s1.heap.objs.size + 1, s1.heap.objs.size], FpOk X pins H1 b := fun b hb => by
    have hle : s1.heap.objs.size ≤ b := by
      rcases List.mem_cons.mp hb with z | z
      · rw [z]; exact Nat.le_add_right _ _
      · rw [List.mem_singleton.mp z]; exact Nat.le_refl _
    exact I1.fpOk hle (I1.hok.fresh hle)
  rcases q with ⟨hq, q⟩ | ⟨hq, q⟩
  · obtain ⟨its, rv, p', _⟩ := I1.list hq
    refine call_enumerate_list p'.isList fun g hen hit _ hk => wpAny_pyIter_enum hen ?_
    exact ⟨s1.heap.objs.size + 1, [s1.heap.objs.size + 1, s1.heap.objs.size], _, _, H1, rfl, I1.kept (t' := s1.toks) hk, turn_enum a (s1.heap.objs.size + 1) s1.heap.objs.size, ⟨⟨.none, hen⟩, hit, Nat.succ_ne_self _⟩, fp, q⟩
  · obtain ⟨its, rv, p', _⟩ := I1.tuple hq
    refine call_enT (us := its.toArray) p' fun g hen hit hk => wpAny_pyIter_enum hen ?_
    exact ⟨s1.heap.objs.size + 1, [s1.heap.objs.size + 1, s1.heap.objs.size], _, _, H1, rfl, I1.kept (t' := s1.toks) hk, turn_enT a (s1.heap.objs.size + 1) s1.heap.objs.size, ⟨⟨.none, hen⟩, hit, Nat.succ_ne_self _⟩, fp, q⟩
/-- the pairs of enumerate -/
def enD : Nat → List D → List D
  | _, [] => []
  | i, d :: ds => .tup [.int i, d] :: enD (i + 1) ds
theorem enD_length : ∀ (ds : List D) (i : Nat), (enD i ds).length = ds.length
  | [], _ => rfl
  | _ :: ds, i => by simp [enD, enD_length ds]
theorem enD_get : ∀ (ds : List D) (i j : Nat), (enD i ds)[j]? = ds[j]?.map fun d => D.tup [.int ((i + j : Nat) : Int), d]
  | [], _, _ => by simp [enD]
  | d :: ds, i, 0 => by simp [enD]
  | d :: ds, i, j + 1 => by
    have e : i + 1 + j = i + (j + 1) := by omega
    simp only [enD, List.getElem?_cons_succ, enD_get ds, e]
section
variable {K : PySem.W.Frag} {Φ H : Hp} {p : Addr} {vs : List V} {ds : List D}
theorem yld_en {Φ1 H1 H' : Hp} {i : Nat} {q : Addr} {x : V} {d' : D} (s : Same Φ1 H1) (m : Same Φ Φ1) (r : RepDs K Φ ds vs) (hd : (enD 0 ds)[i]? = some d') (hq : H1 q = none) (e : H' = upd H1 q (.tup [.int (i : Nat), x])) (hx : vs[i]? = some x) : ∃ Φ', Ext Φ1 H1 Φ' H' ∧ RepD K Φ' d' (.ref q) := by
  rw [enD_get] at hd
  cases e1 : ds[i]? with
  | none => rw [e1] at hd; cases hd
  | some d =>
    rw [e1] at hd
    cases hd
    obtain ⟨v, h1, h2⟩ := r.get e1
    rw [hx] at h1; cases h1
    subst e
    have y := Ext.fresh (o := .tup [.int (i : Nat), x]) s hq
    have e0 : ((0 + i : Nat) : Int) = (i : Int) := by omega
    rw [e0]
    exact ⟨_, y, .tup (SqT.of upd_same) (.cons (.int _) (.cons ((h2.mono m).mono y.mono) .nil)) fun z => nomatch z⟩
theorem walk_enF (h : SqL K Φ p vs) (r : RepDs K Φ ds vs) : WalksF K (Ite K p) (enD 0 ds) Φ := by
  refine ⟨fun Φ1 H1 i m s hi => ?_, fun Φ1 H1 i m s hi => ?_, fun Φ1 H1 i v H' d m s hd y => ?_⟩
  · rw [enD_length] at hi
    have hv : i < vs.length := by rw [← r.length]; exact hi
    exact ⟨vs, vs[i], (m.trans s).seq h, by simp [hv]⟩
  · rw [enD_length] at hi
    exact ⟨vs, (m.trans s).seq h, by rw [← r.length]; exact hi⟩
  · obtain ⟨q, x', rfl, hq, e, f⟩ := y
    exact yld_en s m r hd hq e (f vs ((m.trans s).seq h))
theorem walk_enT (h : SqT K Φ p vs) (r : RepDs K Φ ds vs) : WalksF K (IteT K p) (enD 0 ds) Φ := by
  refine ⟨fun Φ1 H1 i m s hi => ?_, fun Φ1 H1 i m s hi => ?_, fun Φ1 H1 i v H' d m s hd y => ?_⟩
  · rw [enD_length] at hi
    have hv : i < vs.length := by rw [← r.length]; exact hi
    exact ⟨vs, vs[i], sqT_mono (m.trans s) h, by simp [hv]⟩
  · rw [enD_length] at hi
    exact ⟨vs, sqT_mono (m.trans s) h, by rw [← r.length]; exact hi⟩
  · obtain ⟨q, x', rfl, hq, e, f⟩ := y
    exact yld_en s m r hd hq e (f vs (sqT_mono (m.trans s) h))
end
def iEn (fa : Ev D) : Ev (List D) := fun ρ => (fa ρ).bind fun d => (oR d.items).bind fun ds => .ok (enD 0 ds)
section
variable {X : Cx} {cs : Nat → Addr} {W : WX} {e : Expr} {fa : Ev D} {pos p tpos : Pos} {elts : List Expr} {kk : Nat}
theorem sif_en (hg : Gl X "enumerate") (hm : X.mg "enumerate" = none) (h : SD X cs W e fa) (hs : starEach [e] X.env = (false, eval e X.env) :: starEach [] X.env := by rfl) : SIF X cs W (.Tuple elts kk tpos) (.Call (.Name "enumerate" p) [e] [] pos) (iEn fa) :=
  piImp (pi_enA hg hm h hs) fun σ H Q ⟨Φ, ρ, r, q⟩ => tG.bind (rp := rD X.K) r q fun Φ1 H1 d v r1 x rep q => by
    obtain ⟨ds, hd, q⟩ := oR_bind (P := Run cs (rIF X.K) W σ Φ1 H1 Q) q id
    have rep' : RepD X.K Φ1 d v := rep
    clear rep
    cases rep' with
    | tup h1 h2 _ => cases hd; exact ⟨_, _, rfl, .inr ⟨sqT_mono r1.sub h1, q.ok r1.sub (walk_enT h1 h2)⟩⟩
    | lst h1 h2 => cases hd; exact ⟨_, _, rfl, .inl ⟨SqL.of (r1.sub _ _ h1), q.ok r1.sub (walk_enF (SqL.of h1) h2)⟩⟩
    | scr h1 => cases hd; exact ⟨_, _, rfl, .inl ⟨r1.sub.seq h1, q.ok r1.sub (walk_enF h1 (RepDs.ints _))⟩⟩
    | _ => simp [D.items] at hd
end
end PL
set_option Elab.async false
set_option linter.all false
set_option maxRecDepth 100000
namespace PL
set_option autoImplicit false
open PySem PySem.Spec PyProof.Rows L2
section
variable {X : Cx} {cs : Nat → Addr} {W : WX} {np : Nat} {a b c e o i tg : Expr} {fa fb fc fe fi : Ev D} {pos p apos cpos pos' : Pos} {es : List Expr} {fs : Ev (List D)}
def deadS : Es := fun _ => .stuck
def D.isNon : D → Bool
  | .non => true
  | _ => false
def gIsN (d : D) : R Bool := .ok d.isNon
def gNotN (d : D) : R Bool := .ok (!d.isNon)
theorem RepV.isNon {K : PySem.W.Frag} {Φ H : Hp} {d : D} {v : V} (h : RepV K Φ H d v) : decide (v = .non) = d.isNon := by
  rcases h with h | ⟨_, rfl, h⟩
  · cases h <;> rfl
  · cases h <;> rfl
theorem st_isN {j : Nat} (ha : SV X cs W a fa) : ST X cs W (.Compare a [.Is] [.Constant .none j pos'] pos) (e1 gIsN fa) := ptImp (pt_cmp (pc_isN ha)) fun σ H Q h => run1 h fun Φ H v d m r q => ⟨_, rfl, by rw [r.isNon]; exact q.ok m rfl⟩
def D.flat : D → Bool
  | .non => true
  | .bl _ => true
  | .int _ => true
  | .str _ => true
  | _ => false
def eqF : D → D → Bool
  | .non, .non => true
  | .bl a, .bl b => a == b
  | .bl a, .int b => (if a then 1 else 0) == b
  | .int a, .bl b => a == (if b then 1 else 0)
  | .int a, .int b => a == b
  | .str a, .str b => a == b
  | _, _ => false
theorem RepD.flat {K : PySem.W.Frag} {Φ : Hp} {d : D} {v : V} (h : RepD K Φ d v) (f : d.flat = true) : flatV v = true := by cases h <;> first | rfl | cases f
theorem RepV.flatD {K : PySem.W.Frag} {Φ H : Hp} {d : D} {v : V} (h : RepV K Φ H d v) (f : d.flat = true) : RepD K Φ d v := by
  rcases h with h | ⟨_, _, h⟩
  · exact h
  · cases h <;> cases f
theorem str_beq {x y : Str} : (x.cps.toList == y.cps.toList) = (x == y) := by
  have h := str_dec (x := x) (y := y)
  rw [Bool.beq_eq_decide_eq, Bool.beq_eq_decide_eq, h]
theorem RepD.eqF {K : PySem.W.Frag} {Φ : Hp} {d e : D} {v u : V} (h : RepD K Φ d v) (g : RepD K Φ e u) : PL.eqF d e = eqV v u := by
  cases h <;> cases g <;> first | rfl | (rename_i e1 _ _ e2; subst e1 e2; exact str_beq) | skip
theorem RepDs.flat {K : PySem.W.Frag} {Φ : Hp} : ∀ {ds : List D} {vs : List V}, RepDs K Φ ds vs → ds.all D.flat = true → vs.all flatV = true
  | _, _, .nil, _ => rfl
  | _, _, .cons h r, f => by
    rw [List.all_cons, Bool.and_eq_true] at f ⊢
    exact ⟨h.flat f.1, RepDs.flat r f.2⟩
theorem RepDs.inF {K : PySem.W.Frag} {Φ : Hp} {x : D} {v : V} (hx : RepD K Φ x v) : ∀ {ds : List D} {vs : List V}, RepDs K Φ ds vs → (ds.any fun y => PL.eqF y x) = vs.any fun y => eqV y v
  | _, _, .nil => rfl
  | _, _, .cons h r => by rw [List.any_cons, List.any_cons, h.eqF hx, RepDs.inF hx r]
def gInL (x : D) (ds : List D) : R Bool := if x.flat = true ∧ ds.all D.flat = true then .ok (ds.any fun y => eqF y x) else .stuck
def gIn (x : D) : D → R Bool
  | .tup ds => gInL x ds
  | .lst ds => gInL x ds
  | .scr ns => gInL x (ns.map .int)
  | .dic es => (oR x.key).bind fun k => .ok (lookC es k).isSome
  | .str s => match x with
    | .str [c] => .ok (decide (c ∈ s))
    | _ => .stuck
  | _ => .stuck
def gNi (x d : D) : R Bool := (gIn x d).bind fun k => .ok (!k)
theorem pc_or {op : CmpOp} {t t' : TE} (h : PC X op a b t) (h' : PC X op a b t') : PC X op a b (fun σ H Q => t σ H Q ∨ t' σ H Q) := ⟨fun pins s σ H Q I hw => by
  rcases hw with hw | hw
  · exact h.run pins s σ H Q I hw
  · exact h'.run pins s σ H Q I hw⟩
theorem pc_op {op : CmpOp} {r : R2} {ta tb : TE} (ho : OpR X (compareOp op) r) (ha : PE X a ta) (hb : PE X b tb) : PC X op a b (tOp r ta tb) :=
  ⟨fun pins s σ H Q I h => binT ha hb I h fun v u s2 x y H2 I2 rx ry q => ho pins s2 σ H2 x y v u Q I2 rx ry q⟩
/-- x in y, by values -/
def rInA (K : PySem.W.Frag) (neg : Bool) : R2 := fun x y H Q => rIn K neg x y H Q ∨ ∃ (c : Nat) (z : Str), x = .str ⟨#[c]⟩ ∧ y = .str z ∧ Q (.bl (if neg then !decide (c ∈ z.cps.toList) else decide (c ∈ z.cps.toList))) H
theorem str_one {x : Str} {c : Nat} (h : x.cps.toList = [c]) : x = ⟨#[c]⟩ := by
  cases x with
  | mk cps => simp only at h; rw [← Array.toArray_toList (xs := cps), h]
theorem in_run {neg : Bool} {g : D → D → R Bool} (hg : ∀ x d, g x d = (gIn x d).bind fun k => .ok (if neg then !k else k)) {σ : L2.St} {H : Hp} {Q : Bool → Hp → Prop} (h : tG X.K cs rB W (e2 g fa fb) σ H Q) :
    (tOp (rInA X.K neg) (tG X.K cs (rV X.K) W fa) (tG X.K cs (rV X.K) W fb) σ H fun v H1 => ∃ k, v = .bl k ∧ Q k H1) ∨
    (tG X.K cs (rV X.K) W fa σ H fun y H1 => tG X.K cs (rV X.K) W fb σ H1 fun x H2 => ∃ a o, x = .ref a ∧ DGet H2 a y o ∧ Q (if neg then !o.isSome else o.isSome) H2) := by
  obtain ⟨Φ, ρ, r, q⟩ := h
  have q0 := q
  unfold e2 at q
  cases ea : fa ρ with
  | stuck => rw [ea] at q; exact q.elim
  | exc x => exact .inl (tG.bind' (rp := rV X.K) r q0 fun Φ1 H1 d' v e1 r1 x rep q => by rw [ea] at e1; cases e1)
  | ok d =>
    cases eb : fb ρ with
    | stuck => rw [ea, eb] at q; exact q.elim
    | exc x => exact .inl (tG.bind' (rp := rV X.K) r q0 fun Φ1 H1 d' v e1 r1 x rep q => tG.bind' (rp := rV X.K) r1 q fun Φ2 H2 d2 v2 e2 r2 x2 rep2 q => by rw [eb] at e2; cases e2)
    | ok y =>
      have fin : ∀ (Φ H : Hp) (v u : V), Same Φ H → RepV X.K Φ H d v → RepV X.K Φ H y u → Run cs rB W σ Φ H Q (g d y) → rInA X.K neg v u H (fun v H1 => ∃ k, v = .bl k ∧ Q k H1) ∨ ∃ es, y = .dic es := fun Φ H v u m rv ru q => by
        rw [hg] at q
        have lst : ∀ (p : Addr) (vs : List V) (ds : List D), (SqL X.K H p vs ∨ SqT X.K H p vs) → RepDs X.K Φ ds vs → Run cs rB W σ Φ H Q ((gInL d ds).bind fun k => .ok (if neg then !k else k)) → rInA X.K neg v (.ref p) H (fun v H1 => ∃ k, v = .bl k ∧ Q k H1) := fun p vs ds hs rs q => by
          unfold gInL at q
          split at q
          next hf =>
            have rd := rv.flatD hf.1
            refine .inl ⟨p, vs, rfl, hs, rd.flat hf.1, rs.flat hf.2, _, rfl, ?_⟩
            have q1 := q.ok m rfl
            rw [rs.inF rd] at q1
            exact q1
          next => exact q.elim
        unfold gIn at q
        split at q
        · obtain ⟨p, vs, rfl, h1, h2⟩ := ru.tup_inv m
          exact .inl (lst p vs _ (.inr h1) h2 q)
        · obtain ⟨p, vs, rfl, h1, h2⟩ := ru.lst_inv m
          exact .inl (lst p vs _ (.inl (SqL.of h1)) h2 q)
        · obtain ⟨p, rfl, h1⟩ := ru.scr_inv m
          exact .inl (lst p _ _ (.inl h1) (RepDs.ints _) q)
        · exact .inr ⟨_, rfl⟩
        · obtain ⟨z, rfl, rfl⟩ := ru.str_inv
          split at q
          next c =>
            obtain ⟨x, rfl, hx⟩ := rv.str_inv
            have := str_one hx
            subst this
            exact .inl (.inr ⟨c, z, rfl, rfl, _, rfl, q.ok m rfl⟩)
          next => exact q.elim
        · exact q.elim
      by_cases hy : ∃ es, y = .dic es
      · obtain ⟨es, rfl⟩ := hy
        refine .inr (tG.bind' (rp := rV X.K) r q0 fun Φ1 H1 d' v e1 r1 x rep q => ?_)
        rw [ea] at e1; cases e1
        refine tG.bind' (rp := rV X.K) r1 q fun Φ2 H2 d2 u e2 r2 x2 rep2 q => ?_
        rw [eb] at e2; cases e2
        obtain ⟨p, kvs, rfl, h1, h2⟩ := rep2.dic_inv r2.sub
        rw [hg] at q
        simp only [gIn] at q
        rw [R.bind_assoc] at q
        obtain ⟨kc, hk, q⟩ := oR_bind (P := Run cs rB W σ Φ2 H2 Q) q id
        obtain ⟨k', rfl, rfl⟩ := RepV.key (RepV.ext rep x2) hk
        refine ⟨p, _, rfl, DGet.k h1, ?_⟩
        rcases h2.look (k := k') with ⟨z1, z2⟩ | ⟨d', v', z1, z2, z3⟩
        · rw [z2]; rw [z1] at q; exact q.ok r2.sub rfl
        · rw [z2]; rw [z1] at q; exact q.ok r2.sub rfl
      · refine .inl (tG.bind' (rp := rV X.K) r q0 fun Φ1 H1 d' v e1 r1 x rep q => ?_)
        rw [ea] at e1; cases e1
        refine tG.bind' (rp := rV X.K) r1 q fun Φ2 H2 d2 u e2 r2 x2 rep2 q => ?_
        rw [eb] at e2; cases e2
        exact (fin _ _ v u r2.sub (rep.ext x2) rep2 q).resolve_right hy
theorem op_niA : OpR X (compareOp .NotIn) (rInA X.K true) := op_notIn_seq.or op_notIn_sign
theorem gNi_t (x d : D) : gNi x d = (gIn x d).bind fun k => .ok (if true then !k else k) := rfl
theorem Run.imp {α β : Type} {rp : Rp α β} {σ : L2.St} {Φ H : Hp} {Q Q' : β → Hp → Prop} {r : R α} (h : Run cs rp W σ Φ H Q r) (i : ∀ b H, Q b H → Q' b H) : Run cs rp W σ Φ H Q' r := by
  cases r with
  | ok a => exact fun Φ' H' b x y => i _ _ (h Φ' H' b x y)
  | exc z => exact h
  | stuck => exact h
theorem tG.imp {K : PySem.W.Frag} {α β : Type} {rp : Rp α β} {σ : L2.St} {H : Hp} {Q Q' : β → Hp → Prop} {f : Ev α} (h : tG K cs rp W f σ H Q) (i : ∀ b H, Q b H → Q' b H) : tG K cs rp W f σ H Q' := by
  obtain ⟨Φ, ρ, r, z⟩ := h
  exact ⟨Φ, ρ, r, Run.imp z i⟩
theorem pc_niA (hu : X.A.units + 1 < cLine) (ha : SV X cs W a fa) (hb : SV X cs W b fb) : PC X .NotIn a b (fun σ H Q => tOp (rInA X.K true) (tG X.K cs (rV X.K) W fa) (tG X.K cs (rV X.K) W fb) σ H Q ∨ tDNotIn (tG X.K cs (rV X.K) W fa) (tG X.K cs (rV X.K) W fb) σ H Q) := pc_or (pc_op op_niA ha hb) (pc_dnotin hu ha hb)
theorem st_ni (hu : X.A.units + 1 < cLine) (ha : SV X cs W a fa) (hb : SV X cs W b fb) (hm : behindInMarks .NotIn b = false := by rfl) : ST X cs W (.Compare a [.NotIn] [b] pos) (e2 gNi fa fb) :=
  ptImp (pt_cmp (pc_niA hu ha hb) hm) fun σ H Q h => by
    rcases in_run gNi_t h with z | z
    · exact .inl z
    · exact .inr (z.imp fun y H1 z => z.imp fun x H2 ⟨a, o, e, g, q⟩ => ⟨a, o, e, g, _, rfl, q⟩)
def eCh (p q : Int → Int → Bool) (fa fb fc : Ev D) : Ev Bool := fun ρ => (fa ρ).bind fun x => (fb ρ).bind fun y => (gCmp p x y).bind fun k => if k = true then (fc ρ).bind (gCmp q y) else .ok false
end
end PL
set_option Elab.async false
set_option linter.all false
set_option maxRecDepth 100000
namespace PL
set_option autoImplicit false
open PySem PySem.Spec PyProof.Rows L2
theorem ixN_of (n : Nat) (j : Nat) (h : j < n) : L2.ixN n (j : Int) = some j := by
  unfold L2.ixN
  rw [if_pos (by omega), if_pos (by omega)]
  simp
def D.ints : List D → Option (List Int)
  | [] => some []
  | .int i :: ds => (D.ints ds).map (i :: ·)
  | _ => none
theorem ints_eq : ∀ {ds : List D} {ns : List Int}, D.ints ds = some ns → ds = ns.map .int
  | [], _, e => by cases e; rfl
  | .int i :: ds, ns, e => by
    cases h : D.ints ds with
    | none => simp [D.ints, h] at e
    | some l => simp [D.ints, h] at e; subst e; rw [ints_eq h]; rfl
def maxI : List Int → Int
  | [] => 0
  | n :: ns => ns.foldl max n
section
variable {X : Cx} {cs : Nat → Addr} {W : WX} {np : Nat} {a b c e o i tg : Expr} {fa fb fc fe fi : Ev D} {pos p apos cpos pos' : Pos} {es : List Expr} {fs : Ev (List D)}
theorem crOr {f : Value} {r r' : List V → Hp → VK → Prop} (h : CallR X f r) (h' : CallR X f r') : CallR X f (fun xs H Q => r xs H Q ∨ r' xs H Q) := by
  intro pins s σ H xs us Q I rx q
  rcases q with q | q
  · exact h pins s σ H xs us Q I rx q
  · exact h' pins s σ H xs us Q I rx q
def rMulS : R2 := fun x y H Q => ∃ (z : Str) (i : Int), x = .str z ∧ y = .int i ∧ z.length ≤ 16 ∧ -(2 ^ 63) ≤ i ∧ i ≤ 1048576 ∧ Q (.str (Txt.mul z i)) H
theorem op_mulS : OpR X (binaryOp .Mult) rMulS := by
  intro pins s σ H x y v u Q I rx ry h
  obtain ⟨z, i, rfl, rfl, h1, h2, h3, q⟩ := h
  obtain ⟨t, rfl⟩ := rx
  obtain ⟨t', rfl⟩ := ry
  exact SB.mul (mulOk_of 16 1048576 h1 h3 h2 (by decide) (by decide)) fun t' k => ⟨.str _, H, I.tok _, ⟨_, rfl⟩, q⟩
theorem foldl_app (x : Array Nat) : ∀ (n : Nat) (acc : Array Nat), ((List.replicate n x).foldl (· ++ ·) acc).toList = acc.toList ++ (List.replicate n x.toList).flatten
  | 0, acc => by simp
  | n + 1, acc => by simp [List.replicate_succ, foldl_app x n]
theorem mul_toL (z : Str) (i : Int) : (Txt.mul z i).cps.toList = (List.replicate i.toNat z.cps.toList).flatten := by
  unfold Txt.mul
  split
  next h =>
    have e : i.toNat = 0 := by omega
    rw [e]; rfl
  next h =>
    split
    next h2 =>
      simp only [Bool.or_eq_true, beq_iff_eq] at h2
      rcases h2 with h2 | h2
      · rw [h2]; simp
      · have e : z.cps.toList = [] := by
          rw [len_toL] at h2; exact List.eq_nil_of_length_eq_zero h2
        rw [e]
        clear e h2
        induction i.toNat with
        | zero => rfl
        | succ n ih => simpa [List.replicate_succ] using ih
    next h2 => simp [foldl_app]
def gMul : D → D → R D
  | .str s, .int i => if s.length ≤ 16 ∧ -(2 ^ 63) ≤ i ∧ i ≤ 1048576 then .ok (.str (List.replicate i.toNat s).flatten) else .stuck
  | d, e => gMulI d e
theorem sd_mul (ha : SV X cs W a fa) (hb : SV X cs W b fb) : SD X cs W (.BinOp a .Mult b pos) (e2 gMul fa fb) := by
  refine sd_op ((op_mul.or op_mulW).or op_mulS) (fun σ Φ H Q v u d e m r1 r2 q => ?_) ha hb
  unfold gMul at q
  split at q
  · obtain ⟨x, rfl, rfl⟩ := r1.str_inv
    cases r2.int_inv
    split at q
    next h =>
      rw [← len_toL] at h
      exact .inr ⟨x, _, rfl, rfl, h.1, h.2.1, h.2.2, q.ok m (.str _ _ (mul_toL _ _))⟩
    next => exact q.elim
  · refine .inl ?_
    unfold gMulI gInt at q
    split at q
    next i j =>
      cases r1.int_inv; cases r2.int_inv
      dsimp only at q
      split at q
      next h =>
        simp only [MulOk, Bool.or_eq_true, decide_eq_true_eq] at h
        rcases h with (h | h) | h
        · exact .inl ⟨_, _, rfl, rfl, .inl (by omega), q.ok m (.int _)⟩
        · exact .inl ⟨_, _, rfl, rfl, .inr (by omega), q.ok m (.int _)⟩
        · exact .inr ⟨_, _, rfl, rfl, h, q.ok m (.int _)⟩
      next => exact q.elim
    next => exact q.elim
def augV (i : Nat) (g : D → D → R D) (fe : Ev D) : Es := fun ρ => match ρ[i]? with
  | some (.val d) => tryE ρ (fe ρ) fun y => tryE ρ (g d y) fun z => .nx (ρ.set i (.val z))
  | _ => .stuck
theorem ss_aug {op : Operator} {r : TIp} {g : D → D → R D} (j : Nat) {x : Str} (hn : np ≤ j) (hN : X.N.Nodup) (ho : PIp X op r) (hg : OpD X cs (fun _ _ _ _ => False) r g) (hx : ∀ d e z, g d e ≠ .exc z) (he : SV X cs W e fe) (hi : X.N[j]? = some x := by rfl) (hl : Loc X.env.scope x := by first | exact Or.inl rfl | exact Or.inr rfl) (hf : X.fn x = true ∨ X.env.scope.names.lookup x = some .local := by first | exact .inl rfl | exact .inr rfl | assumption) :
    SS X cs W np (.AugAssign (.Name x pos') op e pos) (augV j g fe) := psImp (ps_aug hN hi hl he ho hf) fun D' σ H ⟨Φ, ρ, r, q⟩ => by
  unfold augV at q
  split at q
  next d e1 =>
    obtain ⟨v, h1, h2⟩ := r.val j d e1
    refine ⟨v, h1, tG.bindS (rp := rV X.K) r q fun Φ1 H1 y u r1 x1 rep q => ?_⟩
    cases e3 : g d y with
    | stuck => rw [e3] at q; exact q.elim
    | exc z => exact absurd e3 (hx _ _ _)
    | ok z =>
      rw [e3] at q
      refine hg σ Φ1 H1 _ v u d y r1.sub (.inl (h2.mono x1.mono)) rep ?_
      rw [e3]
      intro Φ2 H2 w x2 rz
      have r2 : Rel X.K Φ2 H2 (σ.set j (some w)) (ρ.set j (.val z)) := (r1.ext x2).set rz
      refine q Φ2 H2 _ (Stp.ofExt x2 fun a ⟨k, w⟩ => .inl (r1.ownX x2 ⟨k, ownSet w⟩)) r2 ?_
      · rw [List.take_set_of_le hn]
  next => exact q.elim
def gAddA : D → D → R D
  | .int i, .int j => .ok (.int (i + j))
  | .str x, .str y => if x.length + y.length ≤ LIM then .ok (.str (x ++ y)) else .stuck
  | _, _ => .stuck
theorem gInt_nx (f : Int → Int → Int) (d e : D) (z : Exn) : gInt (fun i j => .ok (.int (f i j))) d e ≠ .exc z := fun h => by
  unfold gInt at h; split at h <;> cases h
theorem ss_augOr (j : Nat) {x : Str} (hn : np ≤ j) (hN : X.N.Nodup) (he : SV X cs W e fe) (hi : X.N[j]? = some x := by rfl) (hl : Loc X.env.scope x := by first | exact Or.inl rfl | exact Or.inr rfl) (hf : X.fn x = true ∨ X.env.scope.names.lookup x = some .local := by first | exact .inl rfl | exact .inr rfl | assumption) :
    SS X cs W np (.AugAssign (.Name x pos') .BitOr e pos) (augV j gOr fe) := ss_aug j hn hN (r := rI0 fun i j => .int (Builtin.bitOr i j)) iop_or opInt0 (gInt_nx _) he hi hl hf
def setL (j : Nat) (fi fv : Ev D) : Es := fun ρ => match ρ[j]? with
  | some (.own (.lst ds)) => tryE ρ (fv ρ) fun d => tryE ρ (fi ρ) fun k => match k with
    | .int k => (match ixN ds.length k with
      | some m => .nx (ρ.set j (.own (.lst (ds.set m d))))
      | none => .stuck)
    | _ => .stuck
  | _ => .stuck
def setD (j : Nat) (fi fv : Ev D) : Es := fun ρ => match ρ[j]? with
  | some (.own (.dic es)) => tryE ρ (fv ρ) fun d => tryE ρ (fi ρ) fun k => match k.key with
    | some kc => if es.length < LIM then .nx (ρ.set j (.own (.dic (putC es kc d)))) else .stuck
    | none => .stuck
  | _ => .stuck
/-- x[k] op= e, x a list of its own, k not below 0 -/
def augL (j : Nat) (fi : Ev D) (g : D → D → R D) (fe : Ev D) : Es := fun ρ => match ρ[j]? with
  | some (.own (.lst ds)) => tryE ρ (fi ρ) fun k => match k with
    | .int k => if 0 ≤ k ∧ k < LIM then (match ds[k.toNat]? with
      | some d => tryE ρ (fe ρ) fun y => tryE ρ (g d y) fun z => .nx (ρ.set j (.own (.lst (ds.set k.toNat z))))
      | none => .stuck) else .stuck
    | _ => .stuck
  | _ => .stuck
theorem ss_setL (j : Nat) {x : Str} (hv : SD X cs W e fe) (hii : SV X cs W i fi) (hN : X.N[j]? = some x := by rfl) (hvis : Vis X.env.scope x := by first | exact Or.inl rfl | exact Or.inr (Or.inl rfl) | exact Or.inr (Or.inr rfl)) (hd : (x == ("__debug__" : Str)) = false := by decide) (hcd : (x == ("__classdict__" : Str)) = false := by decide)
    (hs : swapsWithSole [.Subscript (.Name x p) i pos'] e pos.line X.env = pure false := by rfl) (hw : swappedStores [.Subscript (.Name x p) i pos'] e X.env = pure none := by rfl)
    (h1 : (assignEach [.Subscript (.Name x p) i pos'] X.env).map (·.2) = [assign (.Subscript (.Name x p) i pos') X.env] := by rfl)
    (ha : ∀ v, assign (.Subscript (.Name x p) i pos') X.env v = (do
      let ov ← holding [v] (eval (.Name x p) X.env)
      let iv ← holding [v, ov] (eval i X.env)
      standAt pos'
      holding [v, ov, iv] (setItem ov iv v)
      release [v, ov, iv] []) := by intro _; rfl) :
    SS X cs W np (.Assign [.Subscript (.Name x p) i pos'] e pos) (setL j fi fe) :=
  psImp (ps_asg hv (pg_sub (pe_var hN hvis hd hcd) hii set_list ha) hs hw h1) fun D' σ H ⟨Φ, ρ, r, q⟩ => by
    unfold setL at q
    split at q
    next ds e0 =>
      refine tG.bindS (rp := rD X.K) r q fun Φ1 H1 d v r1 x1 rep q => ?_
      obtain ⟨a, h1, h2, h3⟩ := r1.own j _ e0
      refine ⟨_, h1, tG.bindS (rp := rV X.K) r1 q fun Φ2 H2 k u r2 x2 rep2 q => ?_⟩
      cases h2 with
      | lst h2 h4 =>
        split at q
        next k =>
          cases rep2.int_inv
          split at q
          next m hm =>
            refine ⟨a, _, _, m, rfl, rfl, x2.heap _ _ h2, by rw [← h4.length]; exact hm, ?_⟩
            obtain ⟨r3, s3⟩ := r2.mut (d' := .lst (ds.set m d)) (u := .lst _) h1 e0 (.lst upd_same ((h4.mono x2.mono).set (rep.mono x2.mono) m))
            exact q _ _ σ s3 r3 rfl
          next => exact q.elim
        next => exact q.elim
    next => exact q.elim
theorem ss_setD (hu : X.A.units + 1 < cLine) (j : Nat) {x : Str} (hv : SD X cs W e fe) (hii : SV X cs W i fi) (hN : X.N[j]? = some x := by rfl) (hvis : Vis X.env.scope x := by first | exact Or.inl rfl | exact Or.inr (Or.inl rfl) | exact Or.inr (Or.inr rfl)) (hd : (x == ("__debug__" : Str)) = false := by decide) (hcd : (x == ("__classdict__" : Str)) = false := by decide)
    (hs : swapsWithSole [.Subscript (.Name x p) i pos'] e pos.line X.env = pure false := by rfl) (hw : swappedStores [.Subscript (.Name x p) i pos'] e X.env = pure none := by rfl)
    (h1 : (assignEach [.Subscript (.Name x p) i pos'] X.env).map (·.2) = [assign (.Subscript (.Name x p) i pos') X.env] := by rfl)
    (ha : ∀ v, assign (.Subscript (.Name x p) i pos') X.env v = (do
      let ov ← holding [v] (eval (.Name x p) X.env)
      let iv ← holding [v, ov] (eval i X.env)
      standAt pos'
      holding [v, ov, iv] (setItem ov iv v)
      release [v, ov, iv] []) := by intro _; rfl) :
    SS X cs W np (.Assign [.Subscript (.Name x p) i pos'] e pos) (setD j fi fe) :=
  psImp (ps_asg hv (pg_sub (pe_var hN hvis hd hcd) hii (set_dict hu) ha) hs hw h1) fun D' σ H ⟨Φ, ρ, r, q⟩ => by
    unfold setD at q
    split at q
    next es e0 =>
      refine tG.bindS (rp := rD X.K) r q fun Φ1 H1 d v r1 x1 rep q => ?_
      obtain ⟨a, h1, h2, h3⟩ := r1.own j _ e0
      refine ⟨_, h1, tG.bindS (rp := rV X.K) r1 q fun Φ2 H2 k u r2 x2 rep2 q => ?_⟩
      cases h2 with
      | dic h2 h4 =>
        split at q
        next kc hk =>
          obtain ⟨k', rfl, rfl⟩ := RepV.key rep2 hk
          split at q
          next hl =>
            have h5 := h4.mono x2.mono
            refine ⟨a, _, rfl, DPut.k (x2.heap _ _ h2) (by rw [← h4.length]; exact lim_lt (by omega)), ?_⟩
            obtain ⟨r3, s3⟩ := r2.mut (d' := .dic (putC es (kcK k') d)) (u := .dK _) h1 e0 (.dic upd_same (h5.put (rep.mono x2.mono)))
            exact q _ _ σ s3 r3 rfl
          next => exact q.elim
        next => exact q.elim
    next => exact q.elim
end
end PL
set_option Elab.async false
set_option linter.all false
set_option maxRecDepth 100000
namespace PL
set_option autoImplicit false
open PySem PySem.Spec PyProof.Rows L2
section
variable {X : Cx} {cs : Nat → Addr} {W : WX} {np : Nat} {a b c e o i tg : Expr} {fa fb fc fe fi : Ev D} {pos p apos cpos pos' : Pos} {es : List Expr} {fs : Ev (List D)}
def expS (fe : Ev D) : Es := fun ρ => tryE ρ (fe ρ) fun _ => .nx ρ
theorem ss_exp (he : SV X cs W e fe) (hsw : swapsWith e none pos.line X.env = pure false := by rfl) : SS X cs W np (.Expr e pos) (expS fe) :=
  psImp (ps_expr he hsw) fun D' σ H ⟨Φ, ρ, r, q⟩ => tG.bindS (rp := rV X.K) r q fun Φ1 H1 d v r1 x rep q => q.nx0 r1
end
end PL
set_option Elab.async false
set_option linter.all false
set_option maxRecDepth 100000
namespace PL
set_option autoImplicit false
open PySem PySem.Spec PyProof.Rows L2
/-- an argument: frozen data, or a slot's own list or dict -/
inductive Ar where
  | fz (f : Ev D) | bw (j : Nat)
def Ar.j : Ar → Option Nat
  | .fz _ => none
  | .bw j => some j
def bwK (r : R (List Sl)) (s : Option Sl) : R (List Sl) := match s with
  | some (.own d) => r.bind fun l => .ok (.own d :: l)
  | some (.big o) => r.bind fun l => .ok (.big o :: l)
  | _ => .stuck
def Sl.lent : Sl → Bool
  | .own _ => true
  | .big _ => true
  | _ => false
def arS : List Ar → List Sl → R (List Sl)
  | [], _ => .ok []
  | .fz f :: r, ρ => (f ρ).bind fun d => (arS r ρ).bind fun l => .ok (.val d :: l)
  | .bw j :: r, ρ => bwK (arS r ρ) ρ[j]?
/-- the slots behind a call -/
def bwSet : List Ar → List Sl → List Sl → List Sl
  | [], _, ρ => ρ
  | .fz _ :: r, _ :: fin, ρ => bwSet r fin ρ
  | .bw j :: r, s :: fin, ρ => bwSet r fin (ρ.set j s)
  | _ :: _, [], ρ => ρ
inductive ArgR (K : PySem.W.Frag) (Φ : Hp) (σ : L2.St) (ρ : List Sl) : List Ar → List Sl → List V → Prop
  | nil : ArgR K Φ σ ρ [] [] []
  | fz {f : Ev D} {d : D} {v : V} {ars : List Ar} {l : List Sl} {vs : List V} : RepD K Φ d v → ArgR K Φ σ ρ ars l vs → ArgR K Φ σ ρ (.fz f :: ars) (.val d :: l) (v :: vs)
  | bw {j : Nat} {s : Sl} {v : V} {ars : List Ar} {l : List Sl} {vs : List V} : s.lent = true → ρ[j]? = some s → σ[j]? = some (some v) → ArgR K Φ σ ρ ars l vs → ArgR K Φ σ ρ (.bw j :: ars) (s :: l) (v :: vs)
section
variable {K : PySem.W.Frag} {Φ Φ' H H' : Hp} {σ : L2.St} {ρ : List Sl}
theorem ArgR.len : ∀ {ars : List Ar} {l : List Sl} {vs : List V}, ArgR K Φ σ ρ ars l vs → l.length = ars.length ∧ vs.length = ars.length
  | _, _, _, .nil => ⟨rfl, rfl⟩
  | _, _, _, .fz _ h => by have := h.len; simp [this.1, this.2]
  | _, _, _, .bw _ _ _ h => by have := h.len; simp [this.1, this.2]
theorem ArgR.at : ∀ {ars : List Ar} {l : List Sl} {vs : List V} {p : Nat} {s : Sl}, ArgR K Φ σ ρ ars l vs → l[p]? = some s → ∃ v, vs[p]? = some v ∧ ((∃ d, s = .val d ∧ RepD K Φ d v ∧ (∃ f, ars[p]? = some (.fz f))) ∨ ∃ j, s.lent = true ∧ ars[p]? = some (.bw j) ∧ ρ[j]? = some s ∧ σ[j]? = some (some v))
  | _, _, _, _, _, .nil, e => by simp at e
  | _, _, _, 0, _, .fz h _, e => by simp at e; subst e; exact ⟨_, rfl, .inl ⟨_, rfl, h, _, rfl⟩⟩
  | _, _, _, 0, _, .bw h0 h1 h2 _, e => by simp at e; subst e; exact ⟨_, rfl, .inr ⟨_, h0, rfl, h1, h2⟩⟩
  | _, _, _, p + 1, _, .fz _ h, e => by
    obtain ⟨v, h1, h2⟩ := ArgR.at (p := p) h (by simpa using e)
    exact ⟨v, by simpa using h1, by simpa using h2⟩
  | _, _, _, p + 1, _, .bw _ _ _ h, e => by
    obtain ⟨v, h1, h2⟩ := ArgR.at (p := p) h (by simpa using e)
    exact ⟨v, by simpa using h1, by simpa using h2⟩
theorem ArgR.atV : ∀ {ars : List Ar} {l : List Sl} {vs : List V} {p j : Nat}, ArgR K Φ σ ρ ars l vs → ars[p]? = some (.bw j) → ∃ v, vs[p]? = some v ∧ σ[j]? = some (some v)
  | _, _, _, _, _, .nil, e => by simp at e
  | _, _, _, 0, _, .fz h _, e => by simp at e
  | _, _, _, 0, _, .bw _ h1 h2 _, e => by simp at e; subst e; exact ⟨_, rfl, h2⟩
  | _, _, _, p + 1, _, .fz _ h, e => by
    obtain ⟨v, h1, h2⟩ := ArgR.atV (p := p) h (by simpa using e)
    exact ⟨v, by simpa using h1, h2⟩
  | _, _, _, p + 1, _, .bw _ _ _ h, e => by
    obtain ⟨v, h1, h2⟩ := ArgR.atV (p := p) h (by simpa using e)
    exact ⟨v, by simpa using h1, h2⟩
theorem bwUniq : ∀ {ars : List Ar}, (ars.filterMap Ar.j).Nodup → ∀ {p q j : Nat}, ars[p]? = some (.bw j) → ars[q]? = some (.bw j) → p = q
  | [], _, p, q, j, h, _ => by simp at h
  | a :: ars, hn, p, q, j, h1, h2 => by
    have mem : ∀ {r : Nat}, ars[r]? = some (.bw j) → j ∈ ars.filterMap Ar.j := fun h => List.mem_filterMap.mpr ⟨_, List.mem_of_getElem? h, rfl⟩
    have hn' : (ars.filterMap Ar.j).Nodup := by
      cases a with
      | fz f => simpa [List.filterMap_cons, Ar.j] using hn
      | bw i => simp [List.filterMap_cons, Ar.j] at hn; exact hn.2
    have top : a = .bw j → ∀ {r : Nat}, ars[r]? ≠ some (Ar.bw j) := fun e r h => by
      subst e
      simp only [List.filterMap_cons, Ar.j, List.nodup_cons] at hn
      exact hn.1 (mem h)
    cases p with
    | zero =>
      cases q with
      | zero => rfl
      | succ q => exact absurd (by simpa using h2) (top (by simpa using h1) (r := q))
    | succ p =>
      cases q with
      | zero => exact absurd (by simpa using h1) (top (by simpa using h2) (r := p))
      | succ q => exact congrArg (· + 1) (bwUniq hn' (by simpa using h1) (by simpa using h2))
theorem bwSet_len : ∀ (ars : List Ar) (fin ρ : List Sl), (bwSet ars fin ρ).length = ρ.length
  | [], _, _ => rfl
  | .fz _ :: r, [], _ => rfl
  | .bw _ :: r, [], _ => rfl
  | .fz _ :: r, _ :: fin, ρ => bwSet_len r fin ρ
  | .bw j :: r, s :: fin, ρ => by rw [bwSet, bwSet_len r fin]; simp
theorem bwSet_at : ∀ (ars : List Ar) (fin ρ : List Sl) (i : Nat) (s : Sl), (bwSet ars fin ρ)[i]? = some s → ars.length = fin.length → (ρ[i]? = some s ∧ ∀ p : Nat, ars[p]? ≠ some (Ar.bw i)) ∨ ∃ p : Nat, ars[p]? = some (Ar.bw i) ∧ fin[p]? = some s
  | [], fin, ρ, i, s, h, _ => .inl ⟨h, fun p => by simp⟩
  | .fz _ :: r, [], _, _, _, _, e => by simp at e
  | .bw _ :: r, [], _, _, _, _, e => by simp at e
  | .fz f :: r, x :: fin, ρ, i, s, h, e => by
    rcases bwSet_at r fin ρ i s h (by simpa using e) with ⟨h1, h2⟩ | ⟨p, h1, h2⟩
    · refine .inl ⟨h1, fun p => ?_⟩
      cases p with
      | zero => simp
      | succ p => simpa using h2 p
    · exact .inr ⟨p + 1, by simpa using h1, by simpa using h2⟩
  | .bw j :: r, x :: fin, ρ, i, s, h, e => by
    rcases bwSet_at r fin (ρ.set j x) i s h (by simpa using e) with ⟨h1, h2⟩ | ⟨p, h1, h2⟩
    · by_cases hj : j = i
      · subst hj
        by_cases hl : j < ρ.length
        · rw [List.getElem?_set_self hl] at h1
          exact .inr ⟨0, rfl, by simpa using h1⟩
        · rw [List.getElem?_eq_none (by simpa using hl)] at h1; cases h1
      · rw [List.getElem?_set_ne hj] at h1
        refine .inl ⟨h1, fun p => ?_⟩
        cases p with
        | zero => simp; exact hj
        | succ p => simpa using h2 p
    · exact .inr ⟨p + 1, by simpa using h1, by simpa using h2⟩
theorem ArgR.mono {ars : List Ar} {l : List Sl} {vs : List V} (m : Same Φ Φ') (h : ArgR K Φ σ ρ ars l vs) : ArgR K Φ' σ ρ ars l vs := by
  induction h with
  | nil => exact .nil
  | fz h _ ih => exact .fz (h.mono m) ih
  | bw h0 h1 h2 _ ih => exact .bw h0 h1 h2 ih
theorem ArgR.own {ars : List Ar} {l : List Sl} {vs : List V} (h : ArgR K Φ σ ρ ars l vs) {p : Nat} {a : Addr} (w : OwnAt H (vS vs) l p a) : ∃ j, ars[p]? = some (.bw j) ∧ OwnAt H σ ρ j a := by
  obtain ⟨s, u, h1, h2, h3⟩ := w
  obtain ⟨v, e1, z⟩ := h.at h1
  rcases z with ⟨d', e, _⟩ | ⟨j, _, e2, e3, e4⟩
  · subst e; cases h3
  · simp only [vS, List.getElem?_map, e1, Option.map_some] at h2
    cases h2
    exact ⟨j, e2, s, u, e3, e4, h3⟩
/-- the callee's slots -/
theorem ArgR.rel {ars : List Ar} {l : List Sl} {vs : List V} (h : ArgR K Φ σ ρ ars l vs) (hn : (ars.filterMap Ar.j).Nodup) (r : Rel K Φ H σ ρ) : Rel K Φ H (vS vs) l := by
  refine .of r.sub (by simp [h.len.1, h.len.2]) (fun p s x e1 e2 => ?_) fun p q a h1 h2 => ?_
  · obtain ⟨v, g1, z⟩ := h.at e1
    simp only [vS, List.getElem?_map, g1, Option.map_some] at e2
    cases e2
    rcases z with ⟨d', e, hr, _⟩ | ⟨j, _, _, g3, g4⟩
    · subst e; exact ⟨v, rfl, hr⟩
    · exact r.slot g3 g4
  · obtain ⟨i, k1, k2⟩ := h.own h1
    obtain ⟨j, k3, k4⟩ := h.own h2
    have := r.sep i j a k2 k4
    subst this
    exact bwUniq hn k1 k3
/-- the caller's slots behind the call, the answer last -/
theorem callBack {ars : List Ar} {l fin : List Sl} {vs : List V} {v : V} {rr : Sl} (h : ArgR K Φ σ ρ ars l vs) (r : Rel K Φ H σ ρ) (s : Stp (Own H (vS vs) l) Φ H Φ' H' (Own H' (vS vs ++ [some v]) (fin ++ [rr]))) (r' : Rel K Φ' H' (vS vs ++ [some v]) (fin ++ [rr])) :
    Rel K Φ' H' (σ ++ [some v]) (bwSet ars fin ρ ++ [rr]) ∧ Stp (Own H σ ρ) Φ H Φ' H' (Own H' (σ ++ [some v]) (bwSet ars fin ρ ++ [rr])) := by
  classical
  have hlf : fin.length = ars.length := by
    have := r'.len
    simp at this
    rw [← this, h.len.2]
  have hlv : (vS vs).length = fin.length := by simpa using r'.len
  have hl : (bwSet ars fin ρ).length = ρ.length := bwSet_len _ _ _
  have out : ∀ i a, OwnAt H σ ρ i a → (∀ p : Nat, ars[p]? ≠ some (Ar.bw i)) → ¬ Own H (vS vs) l a := fun i a h1 h2 ⟨p, w⟩ => by
    obtain ⟨j, k1, k2⟩ := h.own w
    have := r.sep i j a h1 k2
    subst this
    exact h2 p k1
  have inn : ∀ a, Own H (vS vs) l a → Own H σ ρ a := fun a ⟨p, w⟩ => by
    obtain ⟨j, _, k2⟩ := h.own w
    exact ⟨j, k2⟩
  have sg : ∀ i v', σ[i]? = some v' → i < ρ.length → (σ ++ [some v])[i]? = some v' := fun i v' e hi => by rw [List.getElem?_append_left (by rw [r.len]; exact hi)]; exact e
  /- each slot of the new frame: an old one, or a slot of the callee's -/
  have kind : ∀ i sl, (bwSet ars fin ρ ++ [rr])[i]? = some sl → (i < ρ.length ∧ ρ[i]? = some sl ∧ ∀ p : Nat, ars[p]? ≠ some (Ar.bw i)) ∨ ∃ p, (fin ++ [rr])[p]? = some sl ∧ (vS vs ++ [some v])[p]? = (σ ++ [some v])[i]? ∧ ((i < ρ.length ∧ ars[p]? = some (.bw i)) ∨ (i = ρ.length ∧ p = fin.length)) := fun i sl e => by
    rcases getApp e with e | ⟨hi, e1⟩
    · have hi : i < ρ.length := by rw [← hl]; exact (List.getElem?_eq_some_iff.mp e).1
      rcases bwSet_at ars fin ρ i sl e hlf.symm with ⟨h1, h2⟩ | ⟨p, h1, h2⟩
      · exact .inl ⟨hi, h1, h2⟩
      · obtain ⟨u, k1, k2⟩ := h.atV h1
        have hp : p < fin.length := (List.getElem?_eq_some_iff.mp h2).1
        refine .inr ⟨p, by rw [List.getElem?_append_left hp]; exact h2, ?_, .inl ⟨hi, h1⟩⟩
        rw [List.getElem?_append_left (by rw [hlv]; exact hp), sg i _ k2 hi]
        simp [k1]
    · refine .inr ⟨fin.length, by simp [e1], ?_, .inr ⟨by omega, rfl⟩⟩
      rw [hi, hl, ← hlv, ← r.len]
      simp
  have newK : ∀ (i : Nat) (sl : Sl) (x : Option V), (if i < ρ.length ∧ ∀ p : Nat, ars[p]? ≠ some (Ar.bw i) then some i else none) = none → (bwSet ars fin ρ ++ [rr])[i]? = some sl → (σ ++ [some v])[i]? = some x →
      ∃ p, (fin ++ [rr])[p]? = some sl ∧ (vS vs ++ [some v])[p]? = some x ∧ ((i < ρ.length ∧ ars[p]? = some (.bw i)) ∨ (i = ρ.length ∧ p = fin.length)) := fun i sl x e h1 h2 => by
    split at e
    · cases e
    next hc =>
      rcases kind i sl h1 with ⟨hi, _, k2⟩ | ⟨p, k1, k2, k3⟩
      · exact absurd ⟨hi, k2⟩ hc
      · exact ⟨p, k1, k2.trans h2, k3⟩
  have w := r.remap (σ2 := σ ++ [some v]) (ρ2 := bwSet ars fin ρ ++ [rr]) s.mono r'.sub (by simp [r.len, hl]) (fun i => if i < ρ.length ∧ ∀ p : Nat, ars[p]? ≠ some (Ar.bw i) then some i else none) (Own H' (vS vs ++ [some v]) (fin ++ [rr]))
    (fun a b k e1 e2 => by
      split at e1 <;> split at e2
      · cases e1; cases e2; rfl
      · cases e2
      · cases e1
      · cases e1)
    (fun j k sl x e h1 hs h2 => by
      split at e
      next hc =>
        cases e
        rcases kind j sl h1 with ⟨hi, k1, k2⟩ | ⟨p, k1, k2, k3⟩
        · rw [List.getElem?_append_left (by rw [r.len]; exact hi)] at h2
          refine ⟨k1, h2, fun b w => ?_⟩
          have no := out j b w k2
          obtain ⟨⟨o, ho⟩, hn⟩ := r.there w
          refine ⟨fun o h => s.frame b o h no, ?_, fun z => ?_⟩
          · cases q : Φ' b with
            | none => rfl
            | some o' =>
              rcases s.new b o' q with z | z | z
              · rw [hn] at z; cases z
              · exact absurd z no
              · rw [ho] at z; cases z
          · rcases s.own b z with z | z
            · exact no z
            · rw [ho] at z; cases z
        · rcases k3 with ⟨_, k3⟩ | ⟨k3, _⟩
          · exact absurd k3 (hc.2 p)
          · omega
      · cases e)
    (fun j sl x e h1 h2 => by
      obtain ⟨p, k1, k2, _⟩ := newK j sl x e h1 h2
      exact ⟨r'.slot k1 k2, fun u b hu hb => ⟨p, sl, u, k1, by rw [k2, hu], hb⟩⟩)
    (fun i j b e1 e2 ⟨s1, u1, g1, g2, g3⟩ ⟨s2, u2, g4, g5, g6⟩ => by
      obtain ⟨p, k1, k2, w2⟩ := newK i s1 _ e1 g1 g2
      obtain ⟨q, k4, k5, w4⟩ := newK j s2 _ e2 g4 g5
      have hpq := r'.sep p q b ⟨s1, u1, k1, k2, g3⟩ ⟨s2, u2, k4, k5, g6⟩
      subst hpq
      rcases w2 with ⟨_, w2⟩ | ⟨w2, w5⟩
      · rcases w4 with ⟨_, w4⟩ | ⟨_, w6⟩
        · rw [w2] at w4; cases w4; rfl
        · rw [w6, ← hlf.symm, List.getElem?_eq_none (by omega)] at w2; cases w2
      · rcases w4 with ⟨_, w4⟩ | ⟨w4, _⟩
        · rw [w5, List.getElem?_eq_none (by omega)] at w4; cases w4
        · rw [w2, w4])
  refine ⟨w.1, s.mono, fun b o e hn => s.frame b o e fun w => hn (inn b w), fun a p => ?_, fun b o e => (s.new b o e).imp id (Or.imp (inn b) id)⟩
  rcases w.2.1 a p with z | z
  · exact (s.own a z).imp (inn a) id
  · exact .inl z
end
section
variable {X : Cx} {cs : Nat → Addr} {W : WX} {np : Nat} {a e tg : Expr} {es : List Expr} {f : Ev D} {ars : List Ar} {pos p cpos pos' : Pos} {x : Str}
def RunAr (K : PySem.W.Frag) (cs : Nat → Addr) (W : WX) (σ : L2.St) (ρ : List Sl) (ars : List Ar) (Φ H : Hp) (Q : List V → Hp → Prop) : R (List Sl) → Prop
  | .ok l => ∀ Φ' H' vs, Ext Φ H Φ' H' → ArgR K Φ' σ ρ ars l vs → Q vs H'
  | .exc z => ∀ Φ' H' c dd, Ext Φ H Φ' H' → RepX cs Φ' H' z c dd → W c dd σ H'
  | .stuck => False
def tAr (K : PySem.W.Frag) (cs : Nat → Addr) (W : WX) (ars : List Ar) : TA := fun σ H Q => ∃ Φ ρ, Rel K Φ H σ ρ ∧ RunAr K cs W σ ρ ars Φ H Q (arS ars ρ)
/-- arguments -/
def SB (X : Cx) (cs : Nat → Addr) (W : WX) (es : List Expr) (ars : List Ar) : Prop := PA X es (tAr X.K cs W ars)
theorem sb_nil : SB X cs W [] [] := paImp pa_nil fun σ H Q ⟨Φ, ρ, r, q⟩ => q Φ H [] (Ext.refl r.sub) .nil
theorem sb_fz (ha : SD X cs W a f) (hs : SB X cs W es ars) (h : starEach (a :: es) X.env = (false, eval a X.env) :: starEach es X.env := by rfl) : SB X cs W (a :: es) (.fz f :: ars) :=
  paImp (pa_cons ha hs h) fun σ H Q ⟨Φ, ρ, r, q⟩ => by
    refine ⟨Φ, ρ, r, ?_⟩
    simp only [arS] at q
    cases e1 : f ρ with
    | stuck => rw [e1] at q; exact q.elim
    | exc z => rw [e1] at q; exact q
    | ok d =>
      rw [e1] at q
      intro Φ1 H1 v x1 rep
      refine ⟨Φ1, ρ, r.ext x1, ?_⟩
      cases e2 : arS ars ρ with
      | stuck => rw [e2] at q; exact q.elim
      | exc z => rw [e2] at q; exact fun Φ' H' c dd y hx => q Φ' H' c dd (x1.trans y) hx
      | ok l =>
        rw [e2] at q
        exact fun Φ2 H2 vs x2 ra => q Φ2 H2 (v :: vs) (x1.trans x2) (.fz (rep.mono x2.mono) ra)
theorem sb_bw (j : Nat) {y : Str} (hs : SB X cs W es ars) (hN : X.N[j]? = some y := by rfl) (hv : Vis X.env.scope y := by first | exact Or.inl rfl | exact Or.inr (Or.inl rfl) | exact Or.inr (Or.inr rfl)) (hd : (y == ("__debug__" : Str)) = false := by decide) (hcd : (y == ("__classdict__" : Str)) = false := by decide)
    (h : starEach (.Name y p :: es) X.env = (false, eval (.Name y p) X.env) :: starEach es X.env := by rfl) : SB X cs W (.Name y p :: es) (.bw j :: ars) :=
  paImp (pa_cons (pe_var hN hv hd hcd) hs h) fun σ H Q ⟨Φ, ρ, r, q⟩ => by
    simp only [arS, bwK] at q
    split at q
    next d e1 =>
      obtain ⟨b, h1, h2, h3⟩ := r.own j d e1
      refine ⟨_, h1, Φ, ρ, r, ?_⟩
      cases e2 : arS ars ρ with
      | stuck => rw [e2] at q; exact q.elim
      | exc z => rw [e2] at q; exact q
      | ok l =>
        rw [e2] at q
        exact fun Φ2 H2 vs x2 ra => q Φ2 H2 (_ :: vs) x2 (.bw rfl e1 h1 ra)
    next o e1 =>
      obtain ⟨v, h1, h2, h3⟩ := r.big j o e1
      refine ⟨_, h1, Φ, ρ, r, ?_⟩
      cases e2 : arS ars ρ with
      | stuck => rw [e2] at q; exact q.elim
      | exc z => rw [e2] at q; exact q
      | ok l =>
        rw [e2] at q
        exact fun Φ2 H2 vs x2 ra => q Φ2 H2 (_ :: vs) x2 (.bw rfl e1 h1 ra)
    next => exact q.elim
theorem Rel.init {K : PySem.W.Frag} {Φ H : Hp} {σ : L2.St} {ρ : List Sl} {v : Option V} {s : Sl} (r : Rel K Φ H (σ ++ [v]) (ρ ++ [s])) : Rel K Φ H σ ρ := by
  have hl : σ.length = ρ.length := by simpa using r.len
  refine r.pick hl id (fun _ _ e => e) fun j s' e _ => ?_
  have hj : j < ρ.length := (List.getElem?_eq_some_iff.mp e).1
  exact ⟨by rw [List.getElem?_append_left (by exact hj)]; exact e, by rw [List.getElem?_append_left (by rw [hl]; exact hj)]; rfl⟩
theorem ownInit {H : Hp} {σ : L2.St} {ρ : List Sl} {v : Option V} {s : Sl} (hl : σ.length = ρ.length) {a : Addr} (w : Own H σ ρ a) : Own H (σ ++ [v]) (ρ ++ [s]) a := by
  obtain ⟨j, t, u, h1, h2, h3⟩ := w
  have hj : j < ρ.length := (List.getElem?_eq_some_iff.mp h1).1
  exact ⟨j, t, u, by rw [List.getElem?_append_left hj]; exact h1, by rw [List.getElem?_append_left (by rw [hl]; exact hj)]; exact h2, h3⟩
def callR (k : Sl → List Sl → RS) (ars : List Ar) (ρ : List Sl) : RF → RS
  | .ok r fin => k r (bwSet ars fin ρ)
  | .exc z fin => .exc z (bwSet ars fin ρ)
  | .stuck => .stuck
def callS (ars : List Ar) (G : Fn) (k : Sl → List Sl → RS) : Es := fun ρ => tryE ρ (arS ars ρ) fun l => callR k ars ρ (G l)
theorem runCall' {n : Nat} {G : Fn} {k : Sl → List Sl → RS} {D' : Ends} {σ : L2.St} {ρ : List Sl} {Φ H : Hp} {Qv : VK} (hn : ars.length = n) (hd : (ars.filterMap Ar.j).Nodup) (r : Rel X.K Φ H σ ρ) (q : RunS X.K cs W np D' (Own H σ ρ) σ Φ H (callS ars G k ρ))
    (c : ∀ rr fin v Φ2 H2, Rel X.K Φ2 H2 (σ ++ [some v]) (bwSet ars fin ρ ++ [rr]) → Stp (Own H σ ρ) Φ H Φ2 H2 (Own H2 (σ ++ [some v]) (bwSet ars fin ρ ++ [rr])) → RunS X.K cs W np D' (Own H σ ρ) σ Φ H (k rr (bwSet ars fin ρ)) → Qv v H2) :
    RunAr X.K cs W σ ρ ars Φ H (fun vs H1 => spG X.K cs n G vs H1 Qv (WE W σ)) (arS ars ρ) := by
  unfold callS at q
  cases e1 : arS ars ρ with
  | stuck => rw [e1] at q; exact q.elim
  | exc z => rw [e1] at q; exact fun Φ' H' c dd y hx => q Φ' H' σ c dd (r.stp y) (r.ext y) rfl hx
  | ok l =>
    rw [e1] at q
    intro Φ1 H1 vs x1 ra
    have ra1 : ArgR X.K Φ1 σ ρ ars l vs := ra
    refine ⟨by rw [ra.len.2]; exact hn, Φ1, l, ra1.rel hd (r.ext x1), ?_⟩
    have s1 : Stp (Own H σ ρ) Φ H Φ1 H1 (Own H1 σ ρ) := r.stp x1
    cases e2 : G l with
    | stuck => simp only [tryE, callR, e2] at q; exact q.elim
    | exc z fin =>
      simp only [tryE, callR, e2] at q
      intro Φ2 H2 c dd s2 r2 hx
      have r3 := r2.push (d := .non) (v := .non) .non
      have s3 : Stp (Own H1 (vS vs) l) Φ1 H1 Φ2 H2 (Own H2 (vS vs ++ [some .non]) (fin ++ [.val .non])) := ⟨s2.mono, s2.frame, fun b p => s2.own b (ownPush r2.len p), s2.new⟩
      obtain ⟨R, S⟩ := callBack ra1 (r.ext x1) s3 r3
      have hl := R.init.len
      exact q Φ2 H2 σ c dd (s1.trans ⟨S.mono, S.frame, fun b p => S.own b (ownInit hl p), S.new⟩) R.init rfl hx
    | ok rr fin =>
      simp only [tryE, callR, e2] at q
      intro Φ2 H2 v s2 r2
      obtain ⟨R, S⟩ := callBack ra1 (r.ext x1) s2 r2
      exact c rr fin v Φ2 H2 R (s1.trans S) q
theorem runCall {n : Nat} {G : Fn} {k : Sl → List Sl → RS} {D' : Ends} {σ : L2.St} {ρ : List Sl} {Φ H : Hp} {Qv : VK} (hn : ars.length = n) (hd : (ars.filterMap Ar.j).Nodup) (r : Rel X.K Φ H σ ρ) (q : RunS X.K cs W np D' (Own H σ ρ) σ Φ H (callS ars G k ρ))
    (c : ∀ rr fin v Φ2 H2, Rel X.K Φ2 H2 (σ ++ [some v]) (bwSet ars fin ρ ++ [rr]) → Stp (Own H σ ρ) Φ H Φ2 H2 (Own H2 (σ ++ [some v]) (bwSet ars fin ρ ++ [rr])) → RunS X.K cs W np D' (Own H σ ρ) σ Φ H (k rr (bwSet ars fin ρ)) → Qv v H2) :
    tAr X.K cs W ars σ H fun vs H1 => spG X.K cs n G vs H1 Qv (WE W σ) := ⟨Φ, ρ, r, runCall' hn hd r q c⟩
abbrev kDrop : Sl → List Sl → RS := fun _ ρ => .nx ρ
def kOwn (i : Nat) : Sl → List Sl → RS := fun r ρ => match r with
  | .own d => .nx (ρ.set i (.own d))
  | _ => .stuck
def kVal (ft : D → R (List (Nat × D))) : Sl → List Sl → RS := fun r ρ => match r with
  | .val d => tryE ρ (ft d) fun as => .nx (setS ρ as)
  | _ => .stuck
section
variable {k n : Nat} {fa : Addr} {fd : FuncData} {ps : List Str} {G : Fn}
theorem ss_callE (F : FnOk X.prog X.w X.K X.mg X.base (L2.CX X.prog X.w) k fa fd ps (spG X.K cs n G)) (hr : Room k X.A) (hg : Gl X x) (hm : X.mg x = some (.ref fa)) (hk : PySem.W.keepIn X.K (.ref fa) = true) (hb : Binds X.K fd ps [])
    (tk : Takes X W) (ha : SB X cs W (e :: es) ars) (hl : ars.length = n) (hd : (ars.filterMap Ar.j).Nodup) (hdb : (x == ("__debug__" : Str)) = false := by decide) (he : starEach (e :: es) X.env = (false, eval e X.env) :: starEach es X.env := by rfl) (hpl : (backTo cpos (starEach es X.env)).any (·.1) = false := by rfl)
    (hsw : swapsWith (.Call (.Name x p) (e :: es) [] cpos) none pos.line X.env = pure false := by rfl) :
    SS X cs W np (.Expr (.Call (.Name x p) (e :: es) [] cpos) pos) (callS ars G kDrop) :=
  psImp (ps_expr (pe_callS F hr hg hm hk hb (fun σ => passAt tk σ) ha hdb he hpl) hsw) fun D' σ H ⟨Φ, ρ, r, q⟩ => runCall hl hd r q fun rr fin v Φ2 H2 R S q =>
    q Φ2 H2 σ ⟨S.mono, S.frame, fun b p => S.own b (ownInit R.init.len p), S.new⟩ R.init rfl
end
end
end PL
set_option Elab.async false
set_option linter.all false
set_option maxRecDepth 100000
namespace PL
set_option autoImplicit false
open PySem PySem.Spec PyProof.Rows L2
theorem ltCps_eq : ∀ a b : List Nat, ltCps a b = decide (a < b)
  | [], [] => by simp [ltCps]
  | [], b :: bs => by simp [ltCps]
  | a :: as, [] => by simp [ltCps]
  | a :: as, b :: bs => by
    have ih := ltCps_eq as bs
    show (decide (a < b) || (a == b && ltCps as bs)) = _
    have e : decide (a :: as < b :: bs) = decide (a < b ∨ a = b ∧ as < bs) := decide_eq_decide.mpr List.cons_lt_cons_iff
    rw [ih, e]
    by_cases h1 : a < b
    · simp [h1]
    · by_cases h2 : a = b
      · subst h2; simp
      · simp [h1, h2]
def leS (a b : List Nat) : Prop := ltCps b a = false
theorem leS_iff (a b : List Nat) : leS a b ↔ a ≤ b := by
  unfold leS
  rw [ltCps_eq, decide_eq_false_iff_not, List.not_lt]
theorem leS_trans {a b c : List Nat} (h : leS a b) (g : leS b c) : leS a c := by
  rw [leS_iff] at *
  exact List.le_trans h g
theorem leS_anti {a b : List Nat} (h : leS a b) (g : leS b a) : a = b := by
  rw [leS_iff] at *
  exact List.le_antisymm h g
/-- one order of the items of a list, by choice -/
noncomputable def sortP {α : Type} (P : List α → Prop) : List α := open Classical in if h : ∃ ys : List α, P ys then Classical.choose h else []
noncomputable def sortOf {α : Type} (le : α → α → Prop) (xs : List α) : List α := sortP fun ys : List α => ys.Perm xs ∧ ys.Pairwise le
theorem sort_uniq {α : Type} {le : α → α → Prop} (ha : ∀ a b, le a b → le b a → a = b) : ∀ {xs ys : List α}, xs.Perm ys → xs.Pairwise le → ys.Pairwise le → xs = ys
  | [], ys, h, _, _ => by rw [List.nil_perm] at h; exact h.symm
  | x :: xs, [], h, _, _ => by have := h.length_eq; simp at this
  | x :: xs, y :: ys, h, hx, hy => by
    have e : x = y := by
      have m1 : x ∈ y :: ys := h.mem_iff.mp (by simp)
      have m2 : y ∈ x :: xs := h.mem_iff.mpr (by simp)
      rcases List.mem_cons.mp m1 with e | m1
      · exact e
      · rcases List.mem_cons.mp m2 with e | m2
        · exact e.symm
        · exact ha _ _ ((List.pairwise_cons.mp hx).1 y m2) ((List.pairwise_cons.mp hy).1 x m1)
    subst e
    rw [sort_uniq ha (List.Perm.cons_inv h) (List.pairwise_cons.mp hx).2 (List.pairwise_cons.mp hy).2]
theorem sortOf_eq {α : Type} {le : α → α → Prop} (ha : ∀ a b, le a b → le b a → a = b) {xs ys : List α} (h : ys.Perm xs) (hs : ys.Pairwise le) : sortOf le xs = ys := by
  unfold sortOf sortP
  have hex : ∃ ys : List α, ys.Perm xs ∧ ys.Pairwise le := ⟨ys, h, hs⟩
  rw [dif_pos hex]
  obtain ⟨h1, h2⟩ := Classical.choose_spec hex
  exact sort_uniq ha (h1.trans h.symm) h2 hs
theorem rising_pw : ∀ (l : List Str) (p : Str), risingS p l = true → (p :: l).Pairwise fun a b => leS a.cps.toList b.cps.toList
  | [], p, _ => by simp
  | x :: r, p, h => by
    simp only [risingS, Bool.and_eq_true, Bool.not_eq_true'] at h
    have ih := rising_pw r x h.2
    have h1 : leS p.cps.toList x.cps.toList := h.1
    refine List.pairwise_cons.mpr ⟨fun y hy => ?_, ih⟩
    rcases List.mem_cons.mp hy with rfl | hy
    · exact h1
    · exact leS_trans h1 ((List.pairwise_cons.mp ih).1 y hy)
theorem sortedS_pw : ∀ (l : List Str), sortedS l = true → l.Pairwise fun a b => leS a.cps.toList b.cps.toList
  | [], _ => .nil
  | x :: r, h => rising_pw r x h
def keyD : Kc → D
  | .inl i => .int i
  | .inr s => .str s
section
variable {X : Cx} {cs : Nat → Addr} {W : WX} {np : Nat} {a b c e o i tg : Expr} {fa fb fc fe fi : Ev D} {pos p apos cpos pos' : Pos} {es : List Expr} {fs : Ev (List D)}
theorem RepKs.keys {K : PySem.W.Frag} {Φ : Hp} : ∀ {es : List (Kc × D)} {kvs : List (Key × V)}, RepKs K Φ es kvs → RepDs K Φ (es.map fun q => keyD q.1) (kvs.map fun kv => kV kv.1)
  | _, _, .nil => .nil
  | _, _, .cons (k := k) h r => by
    refine .cons ?_ (RepKs.keys r)
    cases k with
    | inl i => exact .int i
    | inr s => exact .str s _ rfl
/-- list(x) -/
def gListA : List D → R D
  | [.dic es] => .ok (.lst (es.map fun q => keyD q.1))
  | ds => gListOf ds
theorem sn_listA (hc : X.calm = true) (hg : Gl X "list") (hm : X.mg "list" = none) (ha : SA X cs W (e :: es) fs)
    (he : starEach (e :: es) X.env = (false, eval e X.env) :: starEach es X.env := by rfl) (hpl : (backTo pos (starEach es X.env)).any (·.1) = false := by rfl) : SN X cs W (.Call (.Name "list" p) (e :: es) [] pos) (eCall gListA fs) :=
  sn_callT (crOr call_list_of (call_listD hc)) (fun σ Φ H Q vs ds m r q => by
    unfold gListA at q
    split at q
    · obtain ⟨v, rfl, h⟩ := r.one
      obtain ⟨p, kvs, rfl, h1, h2⟩ := h.dic_inv m
      exact .inr ⟨p, kvs, rfl, .inl h1, fun l hl => q.new m hl (RepOwn.lst upd_same h2.keys)⟩
    · refine .inl ?_
      unfold gListOf at q
      split at q
      · obtain ⟨v, rfl, h⟩ := r.one
        obtain ⟨p, vs, rfl, h1, h2⟩ := h.tup_inv m
        exact ⟨_, vs, rfl, .inr h1, fun l hl => q.new m hl (RepOwn.lst upd_same h2)⟩
      · obtain ⟨v, rfl, h⟩ := r.one
        obtain ⟨p, vs, rfl, h1, h2⟩ := h.lst_inv m
        exact ⟨_, vs, rfl, .inl (SqL.of h1), fun l hl => q.new m hl (RepOwn.lst upd_same h2)⟩
      · obtain ⟨v, rfl, h⟩ := r.one
        obtain ⟨p, rfl, h1⟩ := h.scr_inv m
        exact ⟨_, _, rfl, .inl h1, fun l hl => q.new m hl (RepOwn.lst upd_same (RepDs.ints _))⟩
      · exact q.elim) (by decide +kernel) hg hm ha (by decide) (by decide) he hpl
noncomputable def gSorted : List D → R D
  | [.lst ds] => match D.ints ds with
    | some ns => .ok (.lst ((sortOf (· ≤ ·) ns).map .int))
    | none => (oR (D.strs ds)).bind fun ss => if ss.length < 64 then .ok (.lst ((sortOf leS ss).map .str)) else .stuck
  | _ => .stuck
theorem sn_callB {r : List V → Hp → VK → Prop} {g : List D → R D} {id : String} {x : Str} (hc : CallR X (.builtin id) r) (hd : CallN X cs W r g) (hv : bootBuiltins x = some (.builtin id)) (hg : Gl X x) (hm : X.mg x = none) (ha : SA X cs W (e :: es) fs) (hn : x ≠ "__name__" := by decide) (hdb : (x == ("__debug__" : Str)) = false := by decide)
    (he : starEach (e :: es) X.env = (false, eval e X.env) :: starEach es X.env := by rfl) (hpl : (backTo pos (starEach es X.env)).any (·.1) = false := by rfl) : SN X cs W (.Call (.Name x p) (e :: es) [] pos) (eCall g fs) :=
  peImp (pe_callB hc hg hm hv ha hn hdb he hpl) fun σ H Q h => runAN hd h
theorem RepDs.strsTo {K : PySem.W.Frag} {Φ : Hp} : ∀ (ys : List Str), RepDs K Φ (ys.map fun y => D.str y.cps.toList) (ys.map V.str)
  | [] => .nil
  | y :: ys => .cons (.str y _ rfl) (RepDs.strsTo ys)
theorem sn_sorted (hg : Gl X "sorted") (hm : X.mg "sorted" = none) (ha : SA X cs W (e :: es) fs)
    (he : starEach (e :: es) X.env = (false, eval e X.env) :: starEach es X.env := by rfl) (hpl : (backTo pos (starEach es X.env)).any (·.1) = false := by rfl) : SN X cs W (.Call (.Name "sorted" p) (e :: es) [] pos) (eCall gSorted fs) :=
  sn_callB (crOr cr_sortedI cr_sortedS) (fun σ Φ H Q vs ds m r q => by
    unfold gSorted at q
    split at q
    · obtain ⟨v, rfl, h⟩ := r.one
      obtain ⟨a, vs, rfl, h3, h4⟩ := h.lst_inv m
      split at q
      next ns h2 =>
        rw [ints_eq h2] at h4
        rw [h4.ints_inv] at h3
        refine .inl ⟨a, ns, rfl, SqL.of h3, fun ns' p hp hs hH => ?_⟩
        rw [sortOf_eq (fun a b h g => Int.le_antisymm h g) hp hs] at q
        exact q.new m hH (RepOwn.lst upd_same (RepDs.ints _))
      next =>
        obtain ⟨ss, h2, q⟩ := oR_bind (P := RunN X.K cs W σ Φ H Q) q id
        obtain ⟨xs, rfl, hx⟩ := h4.strs h2
        split at q
        next hl =>
          refine .inr ⟨a, xs, rfl, SqL.of h3, by rw [← hx, List.length_map] at hl; exact hl, fun ys p hp hs hH => ?_⟩
          have e1 : sortOf leS ss = ys.map fun y => y.cps.toList := sortOf_eq (fun a b h g => leS_anti h g) (by rw [← hx]; exact hp.map _) (List.pairwise_map.mpr (sortedS_pw ys hs))
          rw [e1] at q
          exact q.new m hH (RepOwn.lst upd_same (by rw [List.map_map]; exact RepDs.strsTo ys))
        next => exact q.elim
    · exact q.elim) (by decide +kernel) hg hm ha (by decide) (by decide) he hpl
def gInsert : GL
  | ds, [.int i, d] => if ds.length < LIM ∧ 0 ≤ i ∧ i < LIM then .ok (.non, ds.take i.toNat ++ [d] ++ ds.drop i.toNat) else .stuck
  | _, _ => .stuck
theorem mu_insert : MutL X (fun x vs H Q => ∃ (l : Addr) (xs : List V) (i : Int) (y : V), x = .ref l ∧ vs = [.int i, y] ∧ H l = some (.lst xs) ∧ xs.length < sizeLine ∧ 0 ≤ i ∧ i < 2 ^ 63 ∧
    Q .non (upd H l (.lst (xs.take i.toNat ++ [y] ++ xs.drop i.toNat)))) gInsert := fun Φ H Q a vs us ds args res ds' ha hd hr e k => by
  unfold gInsert at e
  split at e
  · split at e
    next hl =>
      cases e
      cases hr with
      | cons h1 hr =>
        obtain ⟨y, rfl, h2⟩ := hr.one
        cases h1
        have h63 : ∀ i : Int, i < LIM → i < 2 ^ 63 := fun i h => by simp only [LIM] at h; omega
        exact ⟨a, vs, _, y, rfl, rfl, ha, by rw [← hd.length]; exact lim_lt (by omega), hl.2.1, h63 _ hl.2.2, k _ _ .non (((hd.take _).append (.cons h2 .nil)).append (hd.drop _))⟩
    next => cases e
  · cases e
def gRevL : D → R D
  | .lst ds => .ok (.lst ds.reverse)
  | _ => .stuck
def gMaxDf (d : D) (c : D) : R D := match d with
  | .lst ds => (oR (D.ints ds)).bind fun ns => .ok (if ns = [] then c else .int (maxI ns))
  | _ => .stuck
def eMaxDf (fa fc : Ev D) : Ev D := fun ρ => (fa ρ).bind fun d => (fc ρ).bind fun z => gMaxDf d z
end
end PL
set_option Elab.async false
set_option linter.all false
set_option maxRecDepth 100000
namespace PL
set_option autoImplicit false
open PySem PySem.Spec PyProof.Rows L2
section
variable {X : Cx} {pins : List (Addr × Obj)} {σ : L2.St} {H : Hp} {s : Shared}
theorem kn_is {p : Addr} (I : Inv X pins σ H s) (h : Kn X.K H p) : ∃ ob, s.heap.get? p = some ob ∧ ob.cls = .type "tuple" ∧ ob.dict = none := by
  rcases h with ⟨o, xs, h, h1, h2⟩ | ⟨o, h, h1, h2⟩
  · obtain ⟨e, _⟩ := (show ObjOk X.prog X.w H s.heap p (.frz o (.tup xs)) from I.hok p _ h)
    exact ⟨o, e, h1, h2⟩
  · exact ⟨o, I.kIn p o h, h1, h2⟩
def tBMK (K : PySem.W.Frag) (r : V → List V → Hp → VK → Prop) (to : TE) (t : TA) : TE := fun σ H Q => to σ H fun x H1 => (∃ p, x = .ref p ∧ Kn K H1 p) ∧ t σ H1 fun xs H2 => r x xs H2 Q
variable {o e : Expr} {es : List Expr} {to : TE} {t : TA} {name : Str} {apos cpos : Pos} {id : String} {r : V → List V → Hp → VK → Prop}
/-- a method of a tuple whose dict is known -/
theorem pe_bmK (slot : Slot "tuple" name id) (hty : typeOf (.builtin id) = pure (.type "method_descriptor")) (hm : MtR X id r) (ho : PE X o to) (ha : PA X (e :: es) t)
    (hbase : attributeBase o name X.env (eval o X.env) = eval o X.env := by rfl)
    (hfew : ((backTo cpos (starEach (e :: es) X.env)).all (fun x => !x.1) && (backToKw cpos (keywordEach [] X.env)).all (fun x => x.1.isSome)
      && decide ((e :: es).length + ([] : List Keyword).length + (if ([] : List Keyword).isEmpty then 0 else 1) < 30)) = true := by rfl)
    (hline : (apos.endLine == cpos.line) = true := by rfl) (hs : starEach (e :: es) X.env = (false, eval e X.env) :: starEach es X.env := by rfl) (hplain : (backTo cpos (starEach es X.env)).any (·.1) = false := by rfl) :
    PE X (.Call (.Attribute o name apos) (e :: es) [] cpos) (tBMK X.K r to t) := by
  refine ⟨fun pins s σ H Q I h => ?_⟩
  refine wpAny_Call_method_late hbase hfew hline rfl (thn (ho.run pins s σ H _ I h) fun v s1 ⟨x, H1, I1, r1, ⟨p, hx, kn⟩, q1⟩ => ?_)
  subst hx
  cases r1
  obtain ⟨ob, e1, e2, e3⟩ := kn_is I1 kn
  refine ⟨"tuple", id, PySem.F.plainAttrs_tuple, slot, hty, ⟨ob, e1, e2⟩, fun a z => by cases z; exact ⟨ob, e1, e3⟩, ?_⟩
  have hA := ha.run cpos pins s1 σ H1 _ I1 q1
  rw [hs] at hA ⊢
  refine Calls.callWith_builtin (by show (false || (backTo cpos (starEach es X.env)).any (·.1)) = false; rw [hplain]; rfl) (Calls.evalArgs_plain ?_)
  exact thn hA fun us s2 ⟨vs, H2, I2, r2, q2⟩ => hm pins s2 σ H2 (.ref p) vs (.ref p) us Q I2 rfl r2 q2
end
/-- the first place of a text -/
def posS : List (List Nat) → List Nat → Option Nat
  | [], _ => none
  | y :: ys, x => if y = x then some 0 else (posS ys x).map (· + 1)
theorem posS_spec : ∀ {ys : List (List Nat)} {x : List Nat} {j : Nat}, posS ys x = some j → ys[j]? = some x ∧ ∀ m, m < j → ys[m]? ≠ some x
  | [], _, _, h => by cases h
  | y :: ys, x, j, h => by
    unfold posS at h
    split at h
    next e =>
      cases h
      exact ⟨by rw [e]; rfl, fun m hm => absurd hm (Nat.not_lt_zero _)⟩
    next e =>
      cases h1 : posS ys x with
      | none => rw [h1] at h; cases h
      | some i =>
        rw [h1] at h
        cases h
        obtain ⟨h2, h3⟩ := posS_spec h1
        refine ⟨by simpa using h2, fun m hm => ?_⟩
        cases m with
        | zero => simpa using e
        | succ m =>
          have hm' : m + 1 < i + 1 := hm
          simpa using h3 m (by omega)
theorem posS_mem : ∀ {ys : List (List Nat)} {x : List Nat}, x ∈ ys → ∃ j, posS ys x = some j ∧ j < ys.length
  | [], _, h => by cases h
  | y :: ys, x, h => by
    unfold posS
    by_cases e : y = x
    · exact ⟨0, by rw [if_pos e], by simp⟩
    · rcases List.mem_cons.mp h with h | h
      · exact absurd h.symm e
      · obtain ⟨j, h1, h2⟩ := posS_mem h
        exact ⟨j + 1, by rw [if_neg e, h1]; rfl, by simpa using h2⟩
def D.nms : D → Option (List (List Nat))
  | .tup (d :: ds) => D.strs (d :: ds)
  | _ => none
def gIndex (ss : List (List Nat)) : D → R D
  | .str x => (oR (posS ss x)).bind fun j => .ok (.int (j : Nat))
  | _ => .stuck
def eIndex (fa fe : Ev D) : Ev D := fun ρ => (fa ρ).bind fun d => (oR d.nms).bind fun ss => (fe ρ).bind (gIndex ss)
theorem stk_strs : ∀ {ds : List D} {ss : List (List Nat)}, D.strs ds = some ss → ds.all D.isS = true
  | [], _, _ => rfl
  | .str s :: ds, ss, h => by
    cases h1 : D.strs ds with
    | none => simp [D.strs, h1] at h
    | some rs => 
      have := stk_strs h1
      simpa [D.isS] using this
  | .non :: _, _, h => by cases h
  | .bl _ :: _, _, h => by cases h
  | .int _ :: _, _, h => by cases h
  | .tup _ :: _, _, h => by cases h
  | .lst _ :: _, _, h => by cases h
  | .scr _ :: _, _, h => by cases h
  | .dic _ :: _, _, h => by cases h
  | .cls _ :: _, _, h => by cases h
  | .exn _ :: _, _, h => by cases h
theorem str_eq {x y : Str} (h : x.cps.toList = y.cps.toList) : x = y := by
  rw [← mk_toL x, ← mk_toL y, h]
section
variable {X : Cx} {cs : Nat → Addr} {W : WX} {o e : Expr} {fa fe : Ev D} {apos cpos : Pos}
theorem sd_index (ho : SV X cs W o fa) (he : SV X cs W e fe)
    (hbase : attributeBase o "index" X.env (eval o X.env) = eval o X.env := by rfl)
    (hfew : ((backTo cpos (starEach [e] X.env)).all (fun x => !x.1) && (backToKw cpos (keywordEach [] X.env)).all (fun x => x.1.isSome)
      && decide ([e].length + ([] : List Keyword).length + (if ([] : List Keyword).isEmpty then 0 else 1) < 30)) = true := by rfl)
    (hline : (apos.endLine == cpos.line) = true := by rfl) (hs : starEach [e] X.env = (false, eval e X.env) :: starEach [] X.env := by rfl) (hplain : (backTo cpos (starEach [] X.env)).any (·.1) = false := by rfl) :
    SD X cs W (.Call (.Attribute o "index" apos) [e] [] cpos) (eIndex fa fe) :=
  peImp (pe_bmK PySem.F.slot_tuple_index PySem.F.type_tuple_index mt_tup_index ho (pa_cons he pa_nil hs) hbase hfew hline hs hplain) fun σ H Q ⟨Φ, ρ, r, q⟩ => by
    refine tG.bind (rp := rV X.K) r q fun Φ1 H1 d v r1 _ rep q => ?_
    obtain ⟨ss, e1, q'⟩ := oR_bind (P := Run cs (rD X.K) W σ Φ1 H1 Q) q id
    clear q
    unfold D.nms at e1
    split at e1
    next d ds =>
      obtain ⟨p, vs, rfl, h1, h2, kn⟩ := RepV.tup_kn rep r1.sub
      refine ⟨⟨p, rfl, kn (stk_strs e1)⟩, ?_⟩
      refine tG.bind (rp := rV X.K) r1 q' fun Φ2 H2 z u r2 x2 rz q => ?_
      unfold gIndex at q
      split at q
      next x =>
        obtain ⟨w, rfl, rfl⟩ := RepV.str_inv rz
        obtain ⟨j, e2, q⟩ := oR_bind (P := Run cs (rD X.K) W σ Φ2 H2 Q) q id
        obtain ⟨xs, rfl, hx⟩ := h2.strs e1
        obtain ⟨e3, e4⟩ := posS_spec e2
        refine ⟨p, xs, w, j, rfl, rfl, sqT_mono x2.heap h1, ?_, fun m hm z => e4 m hm ?_, q.ok r2.sub (.int _)⟩
        · rw [← hx, List.getElem?_map] at e3
          cases e5 : xs[j]? with
          | none => rw [e5] at e3; cases e3
          | some y =>
            rw [e5] at e3
            rw [str_eq (Option.some.inj e3)]
        · rw [← hx, List.getElem?_map, z]; rfl
      next => exact q.elim
    next => cases e1
end
end PL
set_option Elab.async false
set_option linter.all false
set_option maxRecDepth 100000
namespace PL
set_option autoImplicit false
open PySem PySem.Spec PyProof.Rows L2
section
variable {X : Cx} {cs : Nat → Addr} {W : WX} {a b : Expr} {fa fb : Ev D} {pos : Pos}
def gIsB : D → D → R Bool
  | .bl x, .bl y => .ok (x == y)
  | _, _ => .stuck
def gNotB : D → D → R Bool
  | .bl x, .bl y => .ok (!(x == y))
  | _, _ => .stuck
end
end PL
set_option Elab.async false
set_option linter.all false
set_option maxRecDepth 100000
namespace PL
set_option autoImplicit false
open PySem PySem.Spec PyProof.Rows L2
section
variable {X : Cx} {cs : Nat → Addr} {W : WX} {e : Expr}
def lendT (i : Nat) (f : Ev Bool) : Ev Bool := fun ρ => f (frzAt ρ i)
def lendD (i : Nat) (f : Ev D) : Ev D := fun ρ => (f (frzAt ρ i)).bind fun d => if d.flat = true then .ok d else .stuck
theorem Ext.drop {Φ H Φ1 Φ' H' : Hp} (s : Same Φ H) (x : Ext Φ1 H Φ' H') : Ext Φ H Φ H' := ⟨Same.refl _, x.heap, s.trans x.heap, fun _ _ h => .inl h⟩
theorem RepD.drop {K : PySem.W.Frag} {Φ Φ' : Hp} {d : D} {v : V} (h : RepD K Φ d v) (f : d.flat = true) : RepD K Φ' d v := by
  cases h <;> first | cases f; done | skip
  · exact .non
  · exact .bl _
  · exact .int _
  · rename_i h; exact .str _ _ h
end
end PL
set_option Elab.async false
set_option linter.all false
set_option maxRecDepth 100000
namespace PL
set_option autoImplicit false
open PySem PySem.Spec PyProof.Rows L2
def D.flatL : D → Bool
  | .lst ds => ds.all D.flat
  | _ => false
theorem RepDs.dropAll {K : PySem.W.Frag} {Φ Φ' : Hp} : ∀ {ds : List D} {vs : List V}, RepDs K Φ ds vs → ds.all D.flat = true → RepDs K Φ' ds vs
  | _, _, .nil, _ => .nil
  | _, _, .cons h r, f => by
    simp only [List.all_cons, Bool.and_eq_true] at f
    exact .cons (RepD.drop h f.1) (RepDs.dropAll r f.2)
section
variable {X : Cx} {cs : Nat → Addr} {W : WX} {e a b : Expr} {fa fb : Ev D} {pos : Pos}
def gPowW : D → D → R D := gInt fun i j => if 0 ≤ j ∧ j ≤ 1000 ∧ i.natAbs < 2 ^ 10000 then .ok (.int (i ^ j.toNat)) else .stuck
def lendN (i : Nat) (f : Ev D) : Ev D := fun ρ => (f (frzAt ρ i)).bind fun d => if d.flatL = true then .ok d else .stuck
end
end PL
set_option Elab.async false
set_option linter.all false
set_option maxRecDepth 100000
namespace PL
set_option autoImplicit false
open PySem PySem.Spec PyProof.Rows L2
/-- the answer of isinstance of an exception of class c: 11 is ValueError -/
def subX (c j : Nat) : Bool := j == 0 || j == 11 || c == j
/-- a class that may be raised -/
structure XRaise (K : PySem.W.Frag) (mg : Str → Option Value) (c : Nat) : Prop where
  here : clsOf K c ≠ 0
  mg : mg (nmX c) = some (.ref (clsOf K c))
  keep : PySem.W.keepIn K (.ref (clsOf K c)) = true
  own : ∃ bmB newId initId B, ExcBaseFacts B newId initId bmB ∧ PySem.W.excIn K (clsOf K c) bmB newId = true
  sub : PySem.W.subIn K (.ref (clsOf K c)) (.type "BaseException") = some true
  ty : PySem.W.typeIn K (.ref (clsOf K c)) = some (.type "type")
section
variable {X : Cx} {W : WX} {np : Nat} {pos pos2 p p1 p2 p3 pos' : Pos}
def raiseS (c : Nat) : Es := fun ρ => .exc ⟨c, []⟩ ρ
theorem ss_raise {x m : Str} {j : Nat} (c : Nat) (hx : x = nmX c) (hc : X.calm = true) (tk : Takes X W) (F : XRaise X.K X.mg c) (hg : Gl X x) (hdb : (x == ("__debug__" : Str)) = false := by decide) :
    SS X (clsOf X.K) W np (.Raise (some (.Call (.Name x p) [.Constant (.str m) j p2] [] pos)) none pos2) (raiseS c) := by
  subst hx
  obtain ⟨bmB, newId, initId, B, F1, q1⟩ := F.own
  exact psImp (ps_raise hc tk (pmk_own F1 q1 F.mg F.keep (raises_own F.sub F.ty) hg hdb)) fun D σ H ⟨Φ, ρ, r, q⟩ =>
    q Φ H σ _ _ (Stp.refl fun _ z => z) r rfl ⟨rfl, rfl, rfl, F.here⟩
end
end PL
set_option Elab.async false
set_option linter.all false
set_option maxRecDepth 100000
namespace PL
set_option autoImplicit false
open PySem PySem.Spec PyProof.Rows L2
def tryS (i j : Nat) (fb : Es) : Es := fun ρ => match fb ρ with
  | .exc x ρ' => if i < ρ'.length then .nx ((ρ'.set j (.val (.exn x.c))).set i .emp) else .stuck
  | r => r
def gIsX (j : Nat) : D → R Bool
  | .exn c => .ok (subX c j)
  | .non => .ok false
  | _ => .stuck
end PL
set_option Elab.async false
set_option linter.all false
set_option maxRecDepth 100000
namespace PL
set_option autoImplicit false
open PySem PySem.Spec PyProof.Rows L2
structure XHere (K : PySem.W.Frag) (mg : Str → Option Value) (c : Nat) : Prop where
  here : clsOf K c ≠ 0
  mg : mg (nmX c) = some (.ref (clsOf K c))
theorem cls_of {K : PySem.W.Frag} {c : Nat} {e : Addr} (a : PySem.W.nsIn K mainGlobals (nmX c) = some (some (.ref e))) : clsOf K c = e := by
  unfold clsOf; rw [a]
theorem xh_of {K : PySem.W.Frag} {h : Heap} {mg : Str → Option Value} (X : K.In h) (G : h.Ns mainGlobals mg) (c : Nat) {e : Addr} (a : PySem.W.nsIn K mainGlobals (nmX c) = some (some (.ref e))) (n : (e == 0) = false) : XHere K mg c := by
  have z := cls_of a
  exact ⟨by rw [z]; simpa using n, by rw [z]; exact PySem.W.mg_of X G a⟩
theorem xr_of {K : PySem.W.Frag} {h : Heap} {mg : Str → Option Value} (X : K.In h) (G : h.Ns mainGlobals mg) (c : Nat) {e : Addr} (a : PySem.W.nsIn K mainGlobals (nmX c) = some (some (.ref e))) (n : (e == 0) = false)
    (k : PySem.W.keepIn K (.ref e) = true) (q : PySem.W.excIn K e [.type "ValueError", .type "Exception", .type "BaseException", .type "object"] "ValueError.__new__" = true)
    (s : PySem.W.subIn K (.ref e) (.type "BaseException") = some true) (t : PySem.W.typeIn K (.ref e) = some (.type "type")) : XRaise K mg c := by
  obtain ⟨z1, z2⟩ := xh_of X G c a n
  have z := cls_of a
  exact ⟨z1, z2, by rw [z]; exact k, ⟨_, _, _, _, PySem.F.excBase_ValueError, by rw [z]; exact q⟩, by rw [z]; exact s, by rw [z]; exact t⟩
def gIdxL (ds : List D) (e : D) : R D := if (D.lst ds).fits = true ∧ e.fits = true then (match (ds.map D.py).findIdx? (fun z => PyData.eqv z e.py) with | some j => .ok (.int (j : Nat)) | none => .stuck) else .stuck
def idxR (fe : Ev D) (ρ : List Sl) : D → R D
  | .lst ds => (fe ρ).bind (gIdxL ds)
  | _ => .stuck
def eIdxL (fa fe : Ev D) : Ev D := fun ρ => (fa ρ).bind (idxR fe ρ)
end PL
set_option Elab.async false
set_option linter.all false
set_option maxRecDepth 100000
namespace PL
set_option autoImplicit false
open PySem PySem.Spec PyProof.Rows L2
section
variable {X : Cx} {cs : Nat → Addr} {W : WX} {a b : Expr} {fa fb : Ev D} {pos : Pos}
def gCatS : D → D → R D
  | .scr x, .lst y => if x.length + y.length ≤ LIM then .ok (.lst (x.map .int ++ y)) else .stuck
  | _, _ => .stuck
end
end PL
set_option Elab.async false
set_option linter.all false
set_option maxRecDepth 100000
namespace PL
set_option autoImplicit false
open PySem PySem.Spec PyProof.Rows L2
/-- without doubles -/
def dd : List Int → List Int
  | [] => []
  | x :: xs => if x ∈ dd xs then dd xs else x :: dd xs
section
variable {X : Cx} {cs : Nat → Addr} {W : WX} {e tg : Expr} {fa : Ev D} {p pos p2 pos2 : Pos}
def gRevI : D → R (List D)
  | .lst ds => .ok ds.reverse
  | _ => .stuck
def iRev (fa : Ev D) : Ev (List D) := fun ρ => (fa ρ).bind gRevI
def gBits : D → R D
  | .int i => .ok (.int (Builtin.Int.intBits i : Nat))
  | _ => .stuck
end
end PL
set_option Elab.async false
set_option linter.all false
set_option maxRecDepth 100000
namespace PL
set_option autoImplicit false
open PySem PySem.Spec PyProof.Rows L2
section
variable {X : Cx} {cs : Nat → Addr} {W : WX} {np : Nat} {e : Expr} {es : List Expr} {fs : Ev (List D)} {p apos cpos pos : Pos}
def gExtend : GL
  | ds, [.lst es] => if ds.length + es.length < LIM then .ok (.non, ds ++ es) else .stuck
  | _, _ => .stuck
def gDictOf : List D → R D
  | [.dic es] => .ok (.dic es)
  | _ => .stuck
end
end PL
set_option Elab.async false
set_option linter.all false
set_option maxRecDepth 100000
namespace PL
set_option autoImplicit false
open PySem PySem.Spec PyProof.Rows L2
section
variable {X : Cx} {cs : Nat → Addr} {W : WX} {np : Nat} {a b e f : Expr} {fa fb fe fk fv : Ev D} {p apos cpos pos pos' : Pos}
def augX (j : Nat) (fe : Ev D) : Es := fun ρ => match ρ[j]? with
  | some (.own (.lst ds)) => tryE ρ (fe ρ) fun d => match d with
    | .lst es => if ds.length + es.length < LIM then .nx (ρ.set j (.own (.lst (ds ++ es)))) else .stuck
    | _ => .stuck
  | _ => .stuck
def setDfK (j : Nat) (es : List (Kc × D)) (d : D) (ρ : List Sl) (kc : Kc) : Option D → RS
  | some _ => .nx ρ
  | none => .nx (ρ.set j (.own (.dic (putC es kc d))))
def setDf (j : Nat) (fk fv : Ev D) : Es := fun ρ => match ρ[j]? with
  | some (.own (.dic es)) => tryE ρ (fk ρ) fun k => tryE ρ (fv ρ) fun d => match k.key with
    | some kc => if es.length < LIM then setDfK j es d ρ kc (lookC es kc) else .stuck
    | none => .stuck
  | _ => .stuck
theorem RepKs.cons_inv {K : PySem.W.Frag} {Φ : Hp} {q : Kc × D} {es : List (Kc × D)} {ls : List (Key × V)} (h : RepKs K Φ (q :: es) ls) : ∃ k v ls', ls = (k, v) :: ls' ∧ q.1 = kcK k ∧ RepD K Φ q.2 v ∧ RepKs K Φ es ls' := by
  generalize e : q :: es = l at h
  cases h with
  | nil => cases e
  | cons h r =>
    obtain ⟨rfl, rfl⟩ := List.cons.inj e
    exact ⟨_, _, _, rfl, rfl, h, r⟩
def gRgL : D → R D
  | .int n => if smallR n ∧ n.toNat ≤ LIM then .ok (.lst (rangeD 0 n)) else .stuck
  | _ => .stuck
end
end PL
set_option Elab.async false
set_option linter.all false
set_option maxRecDepth 100000
namespace PL
set_option autoImplicit false
open PySem PySem.Spec PyProof.Rows L2
mutual
def D.solid : D → Bool
  | .tup ds => D.solids ds
  | .lst _ => false
  | .scr _ => false
  | .dic _ => false
  | .cls _ => false
  | _ => true
def D.solids : List D → Bool
  | [] => true
  | d :: ds => d.solid && D.solids ds
end
section
variable {X : Cx} {cs : Nat → Addr} {W : WX} {e : Expr}
def lendG (i : Nat) (f : Ev D) : Ev D := fun ρ => (f (frzAt ρ i)).bind fun d => if d.solid = true then .ok d else .stuck
end
end PL
set_option Elab.async false
set_option linter.all false
set_option maxRecDepth 100000
namespace PL
set_option autoImplicit false
open PySem PySem.Spec PyProof.Rows L2
end PL
set_option Elab.async false
set_option linter.all false
set_option maxRecDepth 100000
namespace PL
set_option autoImplicit false
open PySem PySem.Spec PyProof.Rows L2
end PL
set_option Elab.async false
set_option linter.all false
set_option maxRecDepth 100000
namespace PL
set_option autoImplicit false
open PySem PySem.Spec PyProof.Rows L2
/-- the turns, an exception of the element let out -/
def lcGoX (ρ : List Sl) (ft : D → R (List (Nat × D))) (fc : Ev Bool) (fe : Ev D) : List D → R (List D)
  | [] => .ok []
  | d :: ds => (noX (ft d)).bind fun as => (noX (fc (setS ρ as))).bind fun k => if k = true then (fe (setS ρ as)).bind fun y => (lcGoX ρ ft fc fe ds).bind fun ys => .ok (y :: ys) else lcGoX ρ ft fc fe ds
def eLcX (vs : List Nat) (fi : Ev (List D)) (ft : D → R (List (Nat × D))) (fc : Ev Bool) (fe : Ev D) : Ev D := fun ρ => (fi ρ).bind fun ds => if ds.length ≤ LIM then (lcGoX (wipeS ρ vs) ft fc fe ds).bind fun ys => .ok (.lst ys) else .stuck
end PL
set_option Elab.async false
set_option linter.all false
set_option maxRecDepth 100000
namespace PL
set_option autoImplicit false
open PySem PySem.Spec PyProof.Rows L2
section
variable {X : Cx} {cs : Nat → Addr} {W : WX} {np : Nat} {a e tg : Expr} {es : List Expr} {ars : List Ar} {pos p cpos pos' : Pos} {x : Str}
def kCallB (i : Nat) (G : Fn) : D → List Sl → RS := fun d => callS [.bw i, .fz fun _ => .ok d] G kDrop
end
def gSI (s : List Nat) : D → R D
  | .str t => (match Builtin.Str.occurrences ⟨s.toArray⟩ ⟨t.toArray⟩ 0 s.length 1 with
    | i :: _ => .ok (.int (i : Nat))
    | [] => .stuck)
  | _ => .stuck
def sidxR (fe : Ev D) (ρ : List Sl) : D → R D
  | .str s => (fe ρ).bind (gSI s)
  | _ => .stuck
def eSIdx (fa fe : Ev D) : Ev D := fun ρ => (fa ρ).bind (sidxR fe ρ)
end PL
set_option Elab.async false
set_option linter.all false
set_option maxRecDepth 100000
namespace PL
set_option autoImplicit false
open PySem PySem.Spec PyProof.Rows L2
end PL
set_option Elab.async false
set_option linter.all false
set_option maxRecDepth 100000
namespace PL
set_option autoImplicit false
open PySem PySem.Spec PyProof.Rows L2
def chrR : D → R (List D)
  | .str s => .ok (s.map fun c => .str [c])
  | _ => .stuck
def iChr (fa : Ev D) : Ev (List D) := fun ρ => (fa ρ).bind chrR
end PL
set_option Elab.async false
set_option linter.all false
set_option maxRecDepth 100000
namespace PL
set_option autoImplicit false
open PySem PySem.Spec PyProof.Rows L2
def gCntL (ds : List D) (x : D) : R D := if x.flat = true ∧ ds.all D.flat = true then .ok (.int ((ds.countP fun y => eqF y x : Nat) : Int)) else .stuck
def cntR (fe : Ev D) (ρ : List Sl) : D → R D
  | .lst ds => (fe ρ).bind (gCntL ds)
  | _ => .stuck
def eCnt (fa fe : Ev D) : Ev D := fun ρ => (fa ρ).bind (cntR fe ρ)
def kAppT (i l : Nat) : D → List Sl → RS := fun d => mutS i gAppend (aCons (eTup (aCons (eC d) (aCons (eFrz l) aNil))) aNil) kNx
end PL
set_option Elab.async false
set_option linter.all false
set_option maxRecDepth 100000
namespace PL
set_option autoImplicit false
open PySem PySem.Spec PyProof.Rows L2
def D.isTN : D → Bool
  | .non => true
  | .tup _ => true
  | _ => false
def gNoneIn : D → D → R Bool
  | .non, .lst ds => if ds.all D.isTN = true then .ok (ds.any D.isNon) else .stuck
  | _, _ => .stuck
end PL
set_option Elab.async false
set_option linter.all false
set_option maxRecDepth 100000
namespace PL
set_option autoImplicit false
open PySem PySem.Spec PyProof.Rows L2
def enSR : D → R (List D)
  | .str s => .ok (enD 0 (s.map fun c => .str [c]))
  | _ => .stuck
def iEnC (fa : Ev D) : Ev (List D) := fun ρ => (fa ρ).bind enSR
end PL
set_option Elab.async false
set_option linter.all false
set_option maxRecDepth 100000
namespace PL
set_option autoImplicit false
open PySem PySem.Spec PyProof.Rows L2
abbrev lgN : List Str := ["standing", "undone"]
abbrev logO (st un : List D) : OT := .node (.obj lgN) [.lst st, .lst un]
def fldS (b : Bool) : Str := if b then "undone" else "standing"
structure LogF (K : PySem.W.Frag) : Prop where
  cls : Cls K (logC K)
  no : ∀ b, NoAttr K (logC K) (fldS b)
def logOf : Option Sl → Option (List D × List D)
  | some (.big (.node (.obj ns) [.lst st, .lst un])) => if ns = lgN then some (st, un) else none
  | _ => none
theorem logOf_some {s : Option Sl} {p : List D × List D} (h : logOf s = some p) : s = some (.big (logO p.1 p.2)) := by
  unfold logOf at h
  split at h
  · split at h
    next e => cases h; rw [e]
    · cases h
  · cases h
section
variable {K : PySem.W.Frag} {Φ Φ' H H' : Hp} {v : V} {st un : List D}
theorem logO_mk {a dx b c : Addr} {vs us : List V} (h1 : H a = some (.ins (logC K) dx [("standing", .ref b), ("undone", .ref c)])) (h2 : H b = some (.lst vs)) (h3 : RepDs K Φ st vs) (h4 : H c = some (.lst us)) (h5 : RepDs K Φ un us) :
    RepO K Φ H (logO st un) (.ref a) ∧ fpO H (logO st un) (.ref a) = [a, b, c] := by
  refine ⟨.node h1 ⟨dx, _, rfl, rfl⟩ (.cons (.lst h2 h3) (.cons (.lst h4 h5) .nil)), ?_⟩
  rw [fpO_node, kids_at h1]
  show a :: fpOs H [.lst st, .lst un] [.ref b, .ref c] = _
  rw [fpOs_cons, fpOs_cons, fpOs_nil, fpO_lst, fpO_lst]
  rfl
theorem logO_inv (h : RepO K Φ H (logO st un) v) : ∃ a dx b c vs us, v = .ref a ∧ H a = some (.ins (logC K) dx [("standing", .ref b), ("undone", .ref c)]) ∧ H b = some (.lst vs) ∧ RepDs K Φ st vs ∧ H c = some (.lst us) ∧ RepDs K Φ un us ∧ fpO H (logO st un) v = [a, b, c] := by
  cases h with
  | @node a ho _ _ e1 k w =>
    obtain ⟨dx, fs, rfl, hn⟩ := k
    match fs, hn, w with
    | [(n1, v1), (n2, v2)], hn, w =>
      have hn1 : n1 = "standing" := List.head_eq_of_cons_eq hn
      have hn2 : n2 = "undone" := List.head_eq_of_cons_eq (List.tail_eq_of_cons_eq hn)
      subst hn1
      subst hn2
      cases w with
      | cons w1 w =>
      cases w with
      | cons w2 w =>
      cases w1 with
      | @lst b vs _ g1 g2 =>
      cases w2 with
      | @lst c us _ g3 g4 =>
      exact ⟨a, dx, b, c, vs, us, rfl, e1, g1, g2, g3, g4, (logO_mk e1 g1 g2 g3 g4).2⟩
    | [], hn, w => exact absurd (congrArg List.length hn) (by decide)
    | [_], hn, w => exact absurd (congrArg List.length hn) (by simp)
    | _ :: _ :: _ :: _, hn, w => exact absurd (congrArg List.length hn) (by simp)
def mkL (b : Bool) (xs ys : List D) : OT := if b then logO ys xs else logO xs ys
def ptL (b : Bool) (p : List D × List D) : List D := if b then p.2 else p.1
theorem logB (h : RepO K Φ H (logO st un) v) (nd : (fpO H (logO st un) v).Nodup) (b : Bool) : ∃ a dx fs p q vs us, v = .ref a ∧ H a = some (.ins (logC K) dx fs) ∧ fs.lookup (fldS b) = some (.ref p) ∧ fs.lookup (fldS (!b)) = some (.ref q) ∧
    H p = some (.lst vs) ∧ RepDs K Φ (ptL b (st, un)) vs ∧ H q = some (.lst us) ∧ RepDs K Φ (ptL (!b) (st, un)) us ∧ a ≠ p ∧ a ≠ q ∧ p ≠ q ∧ a ∈ fpO H (logO st un) v ∧ p ∈ fpO H (logO st un) v ∧ q ∈ fpO H (logO st un) v ∧
    ∀ Φ' H' vs' us' xs ys, H' a = H a → H' p = some (.lst vs') → RepDs K Φ' xs vs' → H' q = some (.lst us') → RepDs K Φ' ys us' → RepO K Φ' H' (mkL b xs ys) v ∧ fpO H' (mkL b xs ys) v = fpO H (logO st un) v := by
  obtain ⟨a, dx, p, q, vs, us, rfl, h1, h2, h3, h4, h5, h6⟩ := logO_inv h
  rw [h6] at nd ⊢
  simp only [List.nodup_cons, List.mem_cons, List.not_mem_nil, or_false, not_or, not_false_eq_true, List.nodup_nil, and_true] at nd
  obtain ⟨⟨n1, n2⟩, n3⟩ := nd
  cases b with
  | false =>
    refine ⟨a, dx, _, p, q, vs, us, rfl, h1, rfl, rfl, h2, h3, h4, h5, n1, n2, n3, by simp, by simp, by simp, fun Φ' H' vs' us' xs ys e1 e2 e3 e4 e5 => ?_⟩
    exact logO_mk (e1.trans h1) e2 e3 e4 e5
  | true =>
    refine ⟨a, dx, _, q, p, us, vs, rfl, h1, rfl, rfl, h4, h5, h2, h3, n2, n1, Ne.symm n3, by simp, by simp, by simp, fun Φ' H' vs' us' xs ys e1 e2 e3 e4 e5 => ?_⟩
    exact logO_mk (e1.trans h1) e4 e5 e2 e3
end
section
variable {X : Cx} {cs : Nat → Addr} {W : WX} {np : Nat} {e : Expr} {es : List Expr} {fe : Ev D} {fs : Ev (List D)} {pos p p2 apos cpos : Pos} {x nm : Str}
def eFld (i : Nat) (b : Bool) : Ev D := fun ρ => match logOf ρ[i]? with
  | some q => .ok (.lst (ptL b q))
  | none => .stuck
theorem sv_fld (i : Nat) (b : Bool) (L : LogF X.K) (hnm : nm = fldS b) (hN : X.N[i]? = some x := by rfl) (hv : Vis X.env.scope x := by first | exact Or.inl rfl | exact Or.inr (Or.inl rfl) | exact Or.inr (Or.inr rfl)) (hd : (x == ("__debug__" : Str)) = false := by decide) (hcd : (x == ("__classdict__" : Str)) = false := by decide)
    (hb : attributeBase (.Name x p) nm X.env (eval (.Name x p) X.env) = eval (.Name x p) X.env := by rfl) : SV X cs W (.Attribute (.Name x p) nm pos) (eFld i b) := by
  subst hnm
  exact peImp (pe_fld (pe_var hN hv hd hcd) hb) fun σ H Q ⟨Φ, ρ, r, q⟩ => by
    unfold eFld at q
    split at q
    next pr e =>
      obtain ⟨v, h1, h2, h3, h4⟩ := r.big i _ (logOf_some e)
      obtain ⟨a, dx, fs, p, _, vs, _, rfl, g1, g2, _, g4, g5, _⟩ := logB h2 h4 b
      exact ⟨_, h1, a, _, dx, fs, _, rfl, g1, L.cls, L.no b, g2, q.ok r.sub (.inr ⟨p, rfl, .lst g4 g5⟩)⟩
    next => exact q.elim
def lgMut (i : Nat) (b : Bool) (g : GL) (fs : Ev (List D)) (k : D → List Sl → RS) : Es := fun ρ => match logOf ρ[i]? with
  | some q => tryE ρ (fs ρ) fun args => match g (ptL b q) args with
    | .ok (res, ds') => k res (ρ.set i (.big (mkL b ds' (ptL (!b) q))))
    | _ => .stuck
  | none => .stuck
/-- a list of a log's slot changes -/
theorem Rel.mutLog {K : PySem.W.Frag} {Φ H : Hp} {σ : L2.St} {ρ : List Sl} (r : Rel K Φ H σ ρ) {i : Nat} {pr : List D × List D} (b : Bool) {a p q : Addr} {vs us vs' : List V} {ds' : List D} {v : V} (hs : σ[i]? = some (some v)) (hr : ρ[i]? = some (.big (logO pr.1 pr.2)))
    (ap : a ≠ p) (pq : p ≠ q) (pm : p ∈ fpO H (logO pr.1 pr.2) v) (hq : H q = some (.lst us)) (rq : RepDs K Φ (ptL (!b) pr) us)
    (mk : ∀ Φ' H' vs' us' xs ys, H' a = H a → H' p = some (.lst vs') → RepDs K Φ' xs vs' → H' q = some (.lst us') → RepDs K Φ' ys us' → RepO K Φ' H' (mkL b xs ys) v ∧ fpO H' (mkL b xs ys) v = fpO H (logO pr.1 pr.2) v)
    (rd : RepDs K Φ ds' vs') : Rel K Φ (upd H p (.lst vs')) σ (ρ.set i (.big (mkL b ds' (ptL (!b) pr)))) ∧ Stp (Own H σ ρ) Φ H Φ (upd H p (.lst vs')) (Own (upd H p (.lst vs')) σ (ρ.set i (.big (mkL b ds' (ptL (!b) pr))))) := by
  obtain ⟨v', h1, h2, h3, h4⟩ := r.big i _ hr
  rw [hs] at h1; cases h1
  obtain ⟨m1, m2⟩ := mk Φ (upd H p (.lst vs')) vs' us ds' (ptL (!b) pr) (upd_ne ap) upd_same rd (by rw [upd_ne (Ne.symm pq)]; exact hq) rq
  refine r.mutG hr hs (Same.refl _) (fun z o w => ?_) (fun z o w nz => ?_) (fun z o w => .inl w) ⟨_, rfl, m1, fun z hz => h3 z (by rw [← m2]; exact hz), by rw [m2]; exact h4⟩ fun z hz => .inl (show z ∈ fpO H _ _ by rw [← m2]; exact hz)
  · have hz : z ≠ p := fun e => by subst e; rw [h3 z pm] at w; cases w
    rw [upd_ne hz]; exact r.sub _ _ w
  · rw [upd_ne fun e => nz (by rw [e]; exact pm)]; exact w
theorem ss_lmut1 {r : V → List V → Hp → VK → Prop} {g : GL} {name : Str} {id : String} (j : Nat) (b : Bool) (L : LogF X.K) (hnm : nm = fldS b) (m : MutL X r g) (slot : Slot "list" name id) (hty : typeOf (.builtin id) = pure (.type "method_descriptor")) (hm : MtR X id r) (ha : SAd X cs W (e :: es) fs)
    (hN : X.N[j]? = some x := by rfl) (hv : Vis X.env.scope x := by first | exact Or.inl rfl | exact Or.inr (Or.inl rfl) | exact Or.inr (Or.inr rfl)) (hd : (x == ("__debug__" : Str)) = false := by decide) (hcd : (x == ("__classdict__" : Str)) = false := by decide)
    (hb : attributeBase (.Name x p) nm X.env (eval (.Name x p) X.env) = eval (.Name x p) X.env := by rfl)
    (hbase : attributeBase (.Attribute (.Name x p) nm p2) name X.env (eval (.Attribute (.Name x p) nm p2) X.env) = eval (.Attribute (.Name x p) nm p2) X.env := by rfl)
    (hfew : ((backTo cpos (starEach (e :: es) X.env)).all (fun x => !x.1) && (backToKw cpos (keywordEach [] X.env)).all (fun x => x.1.isSome)
      && decide ((e :: es).length + ([] : List Keyword).length + (if ([] : List Keyword).isEmpty then 0 else 1) < 30)) = true := by rfl)
    (hline : (apos.endLine == cpos.line) = true := by rfl) (hs : starEach (e :: es) X.env = (false, eval e X.env) :: starEach es X.env := by rfl) (hplain : (backTo cpos (starEach es X.env)).any (·.1) = false := by rfl)
    (hsw : swapsWith (.Call (.Attribute (.Attribute (.Name x p) nm p2) name apos) (e :: es) [] cpos) none pos.line X.env = pure false := by rfl) :
    SS X cs W np (.Expr (.Call (.Attribute (.Attribute (.Name x p) nm p2) name apos) (e :: es) [] cpos) pos) (lgMut j b g fs kNx) := by
  subst hnm
  exact psImp (ps_expr (pe_bm PySem.F.plainAttrs_list slot hty hm (pe_fld (pe_var hN hv hd hcd) hb) ha hbase hfew hline hs hplain) hsw) fun D' σ H ⟨Φ, ρ, r, q⟩ => by
    unfold lgMut at q
    split at q
    next pr e =>
      obtain ⟨v, h1, h2, h3, h4⟩ := r.big j _ (logOf_some e)
      obtain ⟨a, dx, fs', p, q0, vs, us, rfl, g1, g2, g3, g4, g5, g6, g7, n1, n2, n3, m1, m2, m3, mk⟩ := logB h2 h4 b
      refine ⟨_, h1, a, _, dx, fs', _, rfl, g1, L.cls, L.no b, g2, .inl ⟨rfl, _, SqL.of g4⟩, tG.bindS (rp := rDs X.K) r q fun Φ1 H1 args ws r1 x rep q => ?_⟩
      split at q
      next res ds' eg =>
        refine m Φ1 H1 _ p _ ws _ args res ds' (x.heap _ _ g4) (g5.mono x.mono) rep eg fun v' vs' w1 w2 => ?_
        obtain ⟨z1, z2⟩ := h2.at (H' := H1) x.mono fun b' hb' ho hh => x.heap b' ho hh
        obtain ⟨r2, s2⟩ := r1.mutLog (vs := vs) (us := us) b h1 (logOf_some e) n1 n3 (by rw [z2]; exact m2) (x.heap _ _ g6) (g7.mono x.mono)
          (fun Φ' H' vs' us' xs ys e1 e2 e3 e4 e5 => by rw [z2]; exact mk Φ' H' vs' us' xs ys (e1.trans ((x.heap _ _ g1).trans g1.symm)) e2 e3 e4 e5) w2
        exact q _ _ σ s2 r2 rfl
      next => exact q.elim
    next => exact q.elim
end
end PL
set_option Elab.async false
set_option linter.all false
set_option maxRecDepth 100000
namespace PL
set_option autoImplicit false
open PySem PySem.Spec PyProof.Rows L2
section
variable {X : Cx} {cs : Nat → Addr} {W : WX} {np : Nat} {e tg : Expr} {es : List Expr} {fe : Ev D} {pos p p2 p3 pos' apos cpos : Pos} {x nm m : Str} {ars : List Ar}
theorem Rel.putFld {K : PySem.W.Frag} {Φ H Φ1 H1 : Hp} {σ : L2.St} {ρ : List Sl} (r : Rel K Φ H σ ρ) (x : Ext Φ H Φ1 H1) {i : Nat} {o o' : OT} {v : V} {a p : Addr} {h : HO} (hr : ρ[i]? = some (.big o)) (hs : σ[i]? = some (some v))
    (am : a ∈ fpO H o v) (hp : H p = none) (hq : Φ1 p = none) (ok : RepO K Φ1 (upd H1 a h) o' v) (fp : ∀ z ∈ fpO (upd H1 a h) o' v, z ∈ fpO H o v ∨ z = p) (nd : (fpO (upd H1 a h) o' v).Nodup) :
    Rel K Φ1 (upd H1 a h) σ (ρ.set i (.big o')) ∧ Stp (Own H σ ρ) Φ H Φ1 (upd H1 a h) (Own (upd H1 a h) σ (ρ.set i (.big o'))) := by
  have no : ∀ z ∈ fpO H o v, Φ1 z = none := fun z hz => by
    obtain ⟨⟨u, hu⟩, hn⟩ := (r.slot hr hs).there (b := z) hz
    cases q : Φ1 z with
    | none => rfl
    | some w =>
      rcases x.new z w q with y | y
      · rw [hn] at y; cases y
      · rw [hu] at y; cases y
  refine r.mutG hr hs x.mono (fun z u w => ?_) (fun z u w nz => ?_) (fun z u w => (x.new z u w).imp id .inl) ⟨_, rfl, ok, fun z hz => ?_, nd⟩ fun z hz => ?_
  · have hz : z ≠ a := fun e => by subst e; rw [no z am] at w; cases w
    rw [upd_ne hz]; exact x.sub _ _ w
  · rw [upd_ne fun e => nz (by rw [e]; exact am)]; exact x.heap _ _ w
  · rcases fp z hz with y | y
    · exact no z y
    · rw [y]; exact hq
  · rcases fp z hz with y | y
    · exact .inl y
    · rw [y]; exact .inr hp
/-- the three shapes of an object to whose field a new list is stored -/
inductive ShL : Bool → OT → (List D → OT) → Prop
  | i0 : ShL false (.node (.obj []) []) fun ds => .node (.obj ["standing"]) [.lst ds]
  | i1 (st : List D) : ShL true (.node (.obj ["standing"]) [.lst st]) fun ds => logO st ds
  | lg (st un : List D) : ShL true (logO st un) fun ds => logO st ds
def shOf (b : Bool) : Option Sl → Option (List D → OT)
  | some (.big (.node (.obj ns) xs)) => match b, xs with
    | false, [] => if ns = ([] : List Str) then some fun ds => .node (.obj ["standing"]) [.lst ds] else none
    | true, [.lst st] => if ns = (["standing"] : List Str) then some fun ds => logO st ds else none
    | true, [.lst st, .lst _] => if ns = lgN then some fun ds => logO st ds else none
    | _, _ => none
  | _ => none
theorem shOf_some {b : Bool} {s : Option Sl} {f : List D → OT} (h : shOf b s = some f) : ∃ o, s = some (.big o) ∧ ShL b o f := by
  unfold shOf at h
  split at h
  · split at h
    · split at h
      next e => cases h; subst e; exact ⟨_, rfl, .i0⟩
      · cases h
    · split at h
      next e => cases h; subst e; exact ⟨_, rfl, .i1 _⟩
      · cases h
    · split at h
      next e => cases h; subst e; exact ⟨_, rfl, .lg _ _⟩
      · cases h
    · cases h
  · cases h
def asgL (i : Nat) (b : Bool) (fe : Ev D) : Es := fun ρ => match shOf b ρ[i]? with
  | some f => tryE ρ (fe ρ) fun d => match d with
    | .lst ds => .nx (ρ.set i (.big (f ds)))
    | _ => .stuck
  | none => .stuck
theorem ss_fldN (i : Nat) (b : Bool) (L : LogF X.K) (hnm : nm = fldS b) (he : SN X cs W e fe) (hN : X.N[i]? = some x := by rfl) (hv : Vis X.env.scope x := by first | exact Or.inl rfl | exact Or.inr (Or.inl rfl) | exact Or.inr (Or.inr rfl)) (hd : (x == ("__debug__" : Str)) = false := by decide) (hcd : (x == ("__classdict__" : Str)) = false := by decide)
    (hs : swapsWith e (some (.Attribute (.Name x p) nm pos')) pos.line X.env = pure false := by rfl) :
    SS X cs W np (.Assign [.Attribute (.Name x p) nm pos'] e pos) (asgL i b fe) := by
  subst hnm
  exact psImp (ps_fld (pe_var hN hv hd hcd) he hs) fun D' σ H ⟨Φ, ρ, r, q⟩ => by
    refine ⟨Φ, ρ, r, ?_⟩
    unfold asgL at q
    split at q
    case h_2 => exact q.elim
    next f ef =>
    obtain ⟨o, eo, sh⟩ := shOf_some ef
    cases ee : fe ρ with
    | stuck => rw [ee] at q; exact q.elim
    | exc z =>
      rw [ee] at q
      exact fun Φ' H' c dd x y => q Φ' H' σ c dd (r.stp x) (r.ext x) rfl y
    | ok d =>
      rw [ee] at q
      intro Φ1 H1 l x1 hl hq ro
      cases ro with
      | dic _ _ => exact q.elim
      | @lst _ ws ds gl rl =>
        obtain ⟨v, h1, h2, h3, h4⟩ := r.big i o eo
        cases sh with
        | i0 =>
          cases h2 with
          | @node a ho _ _ e1 k w =>
            obtain ⟨dx, fs, rfl, hn⟩ := k
            match fs, hn with
            | [], _ =>
              have hal : l ≠ a := fun z => by subst z; rw [hl] at e1; cases e1
              have ok : RepO X.K Φ1 (upd H1 a (.ins (logC X.K) dx [("standing", .ref l)])) (.node (.obj ["standing"]) [.lst ds]) (.ref a) := .node upd_same ⟨dx, _, rfl, rfl⟩ (.cons (.lst (by rw [upd_ne hal]; exact gl) rl) .nil)
              have fpe : fpO (upd H1 a (.ins (logC X.K) dx [("standing", .ref l)])) (.node (.obj ["standing"]) [.lst ds]) (.ref a) = [a, l] := by
                rw [fpO_node, kids_at upd_same]
                show a :: fpOs _ [.lst ds] [.ref l] = _
                rw [fpOs_cons, fpOs_nil, fpO_lst]; rfl
              have am : a ∈ fpO H (.node (.obj []) []) (.ref a) := by rw [fpO_node]; exact List.mem_cons_self
              obtain ⟨r2, s2⟩ := r.putFld x1 eo h1 am hl hq ok (by
                rw [fpe]; intro z hz
                rcases List.mem_cons.mp hz with rfl | hz
                · exact .inl am
                · exact .inr (List.mem_singleton.mp hz)) (by rw [fpe]; simp; exact Ne.symm hal)
              exact ⟨_, h1, a, _, dx, [], rfl, x1.heap _ _ e1, L.cls, L.no false, by decide, q _ _ σ s2 r2 rfl⟩
            | _ :: _, hn => cases hn
        | i1 st =>
          cases h2 with
          | @node a ho _ _ e1 k w =>
            obtain ⟨dx, fs, rfl, hn⟩ := k
            match fs, hn, w with
            | [(n1, v1)], hn, w =>
              have hn1 : n1 = "standing" := List.head_eq_of_cons_eq hn
              subst hn1
              cases w with
              | cons w1 w =>
              cases w1 with
              | @lst b0 vs _ g1 g2 =>
              have fp0 : fpO H (.node (.obj ["standing"]) [.lst st]) (.ref a) = [a, b0] := by
                rw [fpO_node, kids_at e1]
                show a :: fpOs _ [.lst st] [.ref b0] = _
                rw [fpOs_cons, fpOs_nil, fpO_lst]; rfl
              rw [fp0] at h4
              have hab : a ≠ b0 := fun z => by subst z; simp at h4
              have hal : l ≠ a := fun z => by subst z; rw [hl] at e1; cases e1
              have hbl : l ≠ b0 := fun z => by subst z; rw [hl] at g1; cases g1
              have am : a ∈ fpO H (.node (.obj ["standing"]) [.lst st]) (.ref a) := by rw [fp0]; exact List.mem_cons_self
              obtain ⟨ok, fpe⟩ := logO_mk (K := X.K) (Φ := Φ1) (H := upd H1 a (.ins (logC X.K) dx [("standing", .ref b0), ("undone", .ref l)])) (a := a) upd_same (by rw [upd_ne (Ne.symm hab)]; exact x1.heap _ _ g1) (g2.mono x1.mono) (by rw [upd_ne hal]; exact gl) rl
              obtain ⟨r2, s2⟩ := r.putFld x1 eo h1 am hl hq ok (by
                rw [fpe, fp0]; intro z hz
                simp only [List.mem_cons, List.not_mem_nil, or_false] at hz ⊢
                rcases hz with hz | hz | hz
                · exact .inl (.inl hz)
                · exact .inl (.inr hz)
                · exact .inr hz) (by rw [fpe]; simp; exact ⟨⟨hab, Ne.symm hal⟩, Ne.symm hbl⟩)
              exact ⟨_, h1, a, _, dx, [("standing", .ref b0)], rfl, x1.heap _ _ e1, L.cls, L.no true, by show (1 : Nat) < 1000; decide, q _ _ σ s2 r2 rfl⟩
            | [], hn, w => exact absurd (congrArg List.length hn) (by decide)
            | _ :: _ :: _, hn, w => exact absurd (congrArg List.length hn) (by simp)
        | lg st un =>
          obtain ⟨a, dx, b0, c0, vs, us, rfl, e1, g1, g2, g3, g4, fp0⟩ := logO_inv h2
          rw [fp0] at h4
          simp only [List.nodup_cons, List.mem_cons, List.not_mem_nil, or_false, not_or, not_false_eq_true, List.nodup_nil, and_true] at h4
          have hal : l ≠ a := fun z => by subst z; rw [hl] at e1; cases e1
          have hbl : l ≠ b0 := fun z => by subst z; rw [hl] at g1; cases g1
          have am : a ∈ fpO H (logO st un) (.ref a) := by rw [fp0]; exact List.mem_cons_self
          obtain ⟨ok, fpe⟩ := logO_mk (K := X.K) (Φ := Φ1) (H := upd H1 a (.ins (logC X.K) dx [("standing", .ref b0), ("undone", .ref l)])) (a := a) upd_same (by rw [upd_ne (Ne.symm h4.1.1)]; exact x1.heap _ _ g1) (g2.mono x1.mono) (by rw [upd_ne hal]; exact gl) rl
          obtain ⟨r2, s2⟩ := r.putFld x1 eo h1 am hl hq ok (by
            rw [fpe, fp0]; intro z hz
            simp only [List.mem_cons, List.not_mem_nil, or_false] at hz ⊢
            rcases hz with hz | hz | hz
            · exact .inl (.inl hz)
            · exact .inl (.inr (.inl hz))
            · exact .inr hz) (by rw [fpe]; simp; exact ⟨⟨h4.1.1, Ne.symm hal⟩, Ne.symm hbl⟩)
          exact ⟨_, h1, a, _, dx, [("standing", .ref b0), ("undone", .ref c0)], rfl, x1.heap _ _ e1, L.cls, L.no true, by show (2 : Nat) < 1000; decide, q _ _ σ s2 r2 rfl⟩
end
end PL
set_option Elab.async false
set_option linter.all false
set_option maxRecDepth 100000
namespace PL
set_option autoImplicit false
open PySem PySem.Spec PyProof.Rows L2
/-- o.m(e, ..), which may raise -/
def tMethSs (C : Addr) (m : Str) (sp : Sp) (E : L2.St → XK) (ta : TE) (t : TA) : TE := fun σ H Q => ta σ H fun x H1 => ∃ a dx fs, x = .ref a ∧ H1 a = some (.ins C dx fs) ∧ fs.lookup m = none ∧ t σ H1 fun vs H2 => sp (x :: vs) H2 Q (E σ)
section
variable {X : Cx} {CX : CXT} {k : Nat} {f C : Addr} {fd : FuncData} {ps : List Str} {sp : Sp} {E : L2.St → XK} {x m : Str} {p pos apos : Pos} {e o : Expr} {es : List Expr} {ta : TE} {t : TA}
theorem pe_methSs {pl : Sem Bool} (he : PE X o ta) (c : Cls X.K C) (hm : Meth X.K C m f) (F : FnOk X.prog X.w X.K X.mg X.base CX k f fd ps sp) (hr : Room k X.A) (hb : Binds X.K fd ps []) (hx : ∀ σ, PassesAt CX X σ (E σ)) (ha : PA X (e :: es) t)
    (hst : starEach (e :: es) X.env = (false, eval e X.env) :: starEach es X.env := by rfl) (hpl : (backTo pos (starEach es X.env)).any (·.1) = false := by rfl)
    (ht : eval (.Call (.Attribute o m apos) (e :: es) [] pos) X.env = (do
      let ov ← eval o X.env
      standAt apos.atName
      let (f, first) ← holding [ov] (getMethod ov m pl)
      callWith pos f first (backTo pos (starEach (e :: es) X.env)) (backToKw pos (keywordEach [] X.env))) := by rfl) :
    PE X (.Call (.Attribute o m apos) (e :: es) [] pos) (tMethSs C m sp E ta t) := by
  refine ⟨fun pins s σ H Q I h => ?_⟩
  refine PySem.W.methodCall_KW (pl := pl) (thn (he.run pins s σ H _ I h) fun u s1 ⟨x, H1, I1, rx, a, dx, fs, ex, ea, l, q⟩ => ?_) ht
  subst ex
  obtain rfl : u = Value.ref a := rx
  refine getmeth_ok I1 ea c hm l ?_
  refine PySem.W.callWith_K (first := [.ref a]) (h₀ := X.base) I.ok.mod.kin hm.kp (thn (ha.run pos pins s1 σ H1 _ I1 q) fun us s2 ⟨vs, H2, I2, r, q2⟩ => ⟨I2.kIn, ?_⟩) hst hpl
  exact run_fnS (us := .ref a :: us) (vs := .ref a :: vs) F hr hb (hx σ) I2 (.cons rfl r) q2
theorem pe_methSs0 {pl : Sem Bool} (he : PE X o ta) (c : Cls X.K C) (hm : Meth X.K C m f) (F : FnOk X.prog X.w X.K X.mg X.base CX k f fd ps sp) (hr : Room k X.A) (hb : Binds X.K fd ps []) (hx : ∀ σ, PassesAt CX X σ (E σ))
    (ht : eval (.Call (.Attribute o m apos) [] [] pos) X.env = (do
      let ov ← eval o X.env
      standAt apos.atName
      let (f, first) ← holding [ov] (getMethod ov m pl)
      callWith pos f first (backTo pos (starEach [] X.env)) (backToKw pos (keywordEach [] X.env))) := by rfl) :
    PE X (.Call (.Attribute o m apos) [] [] pos) (tMethSs C m sp E ta tNil) := by
  refine ⟨fun pins s σ H Q I h => ?_⟩
  refine PySem.W.methodCall_KW (pl := pl) (thn (he.run pins s σ H _ I h) fun u s1 ⟨x, H1, I1, rx, a, dx, fs, ex, ea, l, q⟩ => ?_) ht
  subst ex
  obtain rfl : u = Value.ref a := rx
  refine getmeth_ok I1 ea c hm l ?_
  exact PySem.W.callWith_K0 (first := [.ref a]) I1.kIn hm.kp (run_fnS (us := [.ref a]) (vs := [.ref a]) F hr hb (hx σ) I1 (.cons rfl .nil) q)
end
/-- a method of Log as it stands in the text -/
structure Mx (K : PySem.W.Frag) (m : Str) (st : Stmt) (ps : List Str) where
  f : Addr
  fd : FuncData
  fn : Fun K m ("Log." ++ m) st f fd
  mt : Meth K (logC K) m f
  bd : Binds K fd ps []
section
variable {X : Cx} {cs : Nat → Addr} {W : WX} {np : Nat} {e tg : Expr} {es : List Expr} {fe : Ev D} {pos p p2 p3 pos' apos cpos : Pos} {x nm m : Str} {ars : List Ar}
def moveL (i : Nat) (b : Bool) : Es := fun ρ => match logOf ρ[i]? with
  | some q => match gPop (ptL b q) [] with
    | .ok (d, xs) => match gAppend (ptL (!b) q) [d] with
      | .ok (_, ys) => .nx (ρ.set i (.big (mkL b xs ys)))
      | _ => .stuck
    | _ => .stuck
  | none => .stuck
theorem ss_lmove (j : Nat) (b : Bool) (L : LogF X.K) {n1 n2 : Str} {a1 a2 c1 c2 q1 q2 : Pos} (h1 : n1 = fldS b) (h2 : n2 = fldS (!b))
    (hN : X.N[j]? = some x := by rfl) (hv : Vis X.env.scope x := by first | exact Or.inl rfl | exact Or.inr (Or.inl rfl) | exact Or.inr (Or.inr rfl)) (hd : (x == ("__debug__" : Str)) = false := by decide) (hcd : (x == ("__classdict__" : Str)) = false := by decide)
    (hb1 : attributeBase (.Name x p) n1 X.env (eval (.Name x p) X.env) = eval (.Name x p) X.env := by rfl) (hb2 : attributeBase (.Name x p2) n2 X.env (eval (.Name x p2) X.env) = eval (.Name x p2) X.env := by rfl)
    (hbase1 : attributeBase (.Attribute (.Name x p) n1 q1) "pop" X.env (eval (.Attribute (.Name x p) n1 q1) X.env) = eval (.Attribute (.Name x p) n1 q1) X.env := by rfl)
    (hbase2 : attributeBase (.Attribute (.Name x p2) n2 q2) "append" X.env (eval (.Attribute (.Name x p2) n2 q2) X.env) = eval (.Attribute (.Name x p2) n2 q2) X.env := by rfl)
    (hl1 : (a1.endLine == c1.line) = true := by rfl)
    (hfew : ((backTo c2 (starEach [.Call (.Attribute (.Attribute (.Name x p) n1 q1) "pop" a1) [] [] c1] X.env)).all (fun x => !x.1) && (backToKw c2 (keywordEach [] X.env)).all (fun x => x.1.isSome)
      && decide (([.Call (.Attribute (.Attribute (.Name x p) n1 q1) "pop" a1) [] [] c1] : List Expr).length + ([] : List Keyword).length + (if ([] : List Keyword).isEmpty then 0 else 1) < 30)) = true := by rfl)
    (hline : (a2.endLine == c2.line) = true := by rfl) (hs : starEach [.Call (.Attribute (.Attribute (.Name x p) n1 q1) "pop" a1) [] [] c1] X.env = (false, eval (.Call (.Attribute (.Attribute (.Name x p) n1 q1) "pop" a1) [] [] c1) X.env) :: starEach [] X.env := by rfl) (hplain : (backTo c2 (starEach [] X.env)).any (·.1) = false := by rfl)
    (hsw : swapsWith (.Call (.Attribute (.Attribute (.Name x p2) n2 q2) "append" a2) [.Call (.Attribute (.Attribute (.Name x p) n1 q1) "pop" a1) [] [] c1] [] c2) none pos.line X.env = pure false := by rfl) :
    SS X cs W np (.Expr (.Call (.Attribute (.Attribute (.Name x p2) n2 q2) "append" a2) [.Call (.Attribute (.Attribute (.Name x p) n1 q1) "pop" a1) [] [] c1] [] c2) pos) (moveL j b) := by
  subst h1; subst h2
  exact psImp (ps_expr (pe_bm PySem.F.plainAttrs_list PySem.F.slot_list_append PySem.F.type_list_append mt_append (pe_fld (pe_var hN hv hd hcd) hb2)
    (pa_cons (pe_bm0 PySem.F.plainAttrs_list PySem.F.slot_list_pop PySem.F.type_list_pop mt_pop (pe_fld (pe_var hN hv hd hcd) hb1) hbase1 hl1) pa_nil hs) hbase2 hfew hline hs hplain) hsw) fun D' σ H ⟨Φ, ρ, r, q⟩ => by
    unfold moveL at q
    split at q
    case h_2 => exact q.elim
    next pr e =>
    obtain ⟨v, h1, h2, h3, h4⟩ := r.big j _ (logOf_some e)
    obtain ⟨a, dx, fs', p, q0, vs, us, rfl, g1, g2, g3, g4, g5, g6, g7, n1, n2, n3, m1, m2, m3, mk⟩ := logB h2 h4 b
    split at q
    case h_2 => exact q.elim
    next d xs eg =>
    split at q
    case h_2 => exact q.elim
    next z ys eg2 =>
    refine ⟨_, h1, a, _, dx, fs', _, rfl, g1, L.cls, L.no (!b), g3, .inl ⟨rfl, _, SqL.of g6⟩, ?_⟩
    refine ⟨_, h1, a, _, dx, fs', _, rfl, g1, L.cls, L.no b, g2, .inl ⟨rfl, _, SqL.of g4⟩, ?_⟩
    refine mu_pop (X := X) Φ H _ p _ [] _ [] d xs g4 g5 .nil eg fun v' vs' w1 w2 => ?_
    show rAppend (V.ref q0) [v'] (upd H p (.lst vs')) fun _ H1 => D'.nx σ H1
    refine mu_append (X := X) Φ (upd H p (.lst vs')) _ q0 us [v'] _ [d] z ys (by rw [upd_ne (Ne.symm n3)]; exact g6) g7 (.cons w1 .nil) eg2 fun v2 us' y1 y2 => ?_
    obtain ⟨k1, k2⟩ := mk Φ (upd (upd H p (.lst vs')) q0 (.lst us')) vs' us' xs ys (by rw [upd_ne n2, upd_ne n1]) (by rw [upd_ne n3, upd_same]) w2 upd_same y2
    obtain ⟨r2, s2⟩ := r.mutG (H' := upd (upd H p (.lst vs')) q0 (.lst us')) (s' := .big (mkL b xs ys)) (logOf_some e) h1 (Same.refl _) (fun z o w => by
        have e1 : z ≠ p := fun e => by subst e; rw [h3 z m2] at w; cases w
        have e2 : z ≠ q0 := fun e => by subst e; rw [h3 z m3] at w; cases w
        rw [upd_ne e2, upd_ne e1]; exact r.sub _ _ w) (fun z o w nz => by
        rw [upd_ne fun e => nz (by rw [e]; exact m3), upd_ne fun e => nz (by rw [e]; exact m2)]; exact w) (fun z o w => .inl w)
      ⟨_, rfl, k1, fun z hz => h3 z (by rw [← k2]; exact hz), by rw [k2]; exact h4⟩ fun z hz => .inl (show z ∈ fpO H _ _ by rw [← k2]; exact hz)
    exact q _ _ σ s2 r2 rfl
def methS (i : Nat) (ars : List Ar) (G : Fn) (k : Sl → List Sl → RS) : Es := fun ρ => match logOf ρ[i]? with
  | some _ => callS (.bw i :: ars) G k ρ
  | none => .stuck
theorem runMeth {n i : Nat} {G : Fn} {k : Sl → List Sl → RS} {D' : Ends} {σ : L2.St} {ρ : List Sl} {Φ H : Hp} {Qv : VK} (hm : ∀ b, m ≠ fldS b) (hn : ars.length + 1 = n) (hd : (((.bw i : Ar) :: ars).filterMap Ar.j).Nodup) (r : Rel X.K Φ H σ ρ) (q : RunS X.K cs W np D' (Own H σ ρ) σ Φ H (methS i ars G k ρ))
    (c : ∀ rr fin v Φ2 H2, Rel X.K Φ2 H2 (σ ++ [some v]) (bwSet (.bw i :: ars) fin ρ ++ [rr]) → Stp (Own H σ ρ) Φ H Φ2 H2 (Own H2 (σ ++ [some v]) (bwSet (.bw i :: ars) fin ρ ++ [rr])) → RunS X.K cs W np D' (Own H σ ρ) σ Φ H (k rr (bwSet (.bw i :: ars) fin ρ)) → Qv v H2) :
    ∃ v, σ[i]? = some (some v) ∧ ∃ a dx fs, v = .ref a ∧ H a = some (.ins (logC X.K) dx fs) ∧ fs.lookup m = none ∧ tAr X.K cs W ars σ H fun vs H1 => spG X.K cs n G (v :: vs) H1 Qv (WE W σ) := by
  unfold methS at q
  split at q
  case h_2 => exact q.elim
  next pr e =>
  have e0 := logOf_some e
  obtain ⟨v, h1, h2, h3, h4⟩ := r.big i _ e0
  obtain ⟨a, dx, b0, c0, vs, us, rfl, e1, g1, g2, g3, g4, fp0⟩ := logO_inv h2
  refine ⟨_, h1, a, dx, _, rfl, e1, ?_, Φ, ρ, r, ?_⟩
  · have m1 : (m == ("standing" : Str)) = false := beq_eq_false_iff_ne.mpr (hm false)
    have m2 : (m == ("undone" : Str)) = false := beq_eq_false_iff_ne.mpr (hm true)
    simp [List.lookup, m1, m2]
  · have main := runCall' (ars := .bw i :: ars) (by simpa using hn) hd r q c
    simp only [arS, e0, bwK] at main
    cases e2 : arS ars ρ with
    | stuck => rw [e2] at main; exact main.elim
    | exc z => rw [e2] at main; exact main
    | ok l =>
      rw [e2] at main
      exact fun Φ' H' ws x ra => main Φ' H' (_ :: ws) x (.bw rfl e0 h1 ra)
section
variable {k n i : Nat} {fa : Addr} {fd : FuncData} {ps : List Str} {G : Fn}
/-- x.m(..) as a statement -/
theorem ss_methE (i : Nat) (L : LogF X.K) (F : FnOk X.prog X.w X.K X.mg X.base (L2.CX X.prog X.w) k fa fd ps (spG X.K cs n G)) (hr : Room k X.A) (hM : Meth X.K (logC X.K) m fa) (hb : Binds X.K fd ps []) (tk : Takes X W) (ha : SB X cs W (e :: es) ars) (hl : ars.length + 1 = n) (hd : (((.bw i : Ar) :: ars).filterMap Ar.j).Nodup) (hne : ∀ b, m ≠ fldS b)
    (hN : X.N[i]? = some x := by rfl) (hv : Vis X.env.scope x := by first | exact Or.inl rfl | exact Or.inr (Or.inl rfl) | exact Or.inr (Or.inr rfl)) (hdb : (x == ("__debug__" : Str)) = false := by decide) (hcd : (x == ("__classdict__" : Str)) = false := by decide)
    {pl : Sem Bool} (hst : starEach (e :: es) X.env = (false, eval e X.env) :: starEach es X.env := by rfl) (hpl : (backTo cpos (starEach es X.env)).any (·.1) = false := by rfl)
    (ht : eval (.Call (.Attribute (.Name x p) m apos) (e :: es) [] cpos) X.env = (do
      let ov ← eval (.Name x p) X.env
      standAt apos.atName
      let (f, first) ← holding [ov] (getMethod ov m pl)
      callWith cpos f first (backTo cpos (starEach (e :: es) X.env)) (backToKw cpos (keywordEach [] X.env))) := by rfl)
    (hsw : swapsWith (.Call (.Attribute (.Name x p) m apos) (e :: es) [] cpos) none pos.line X.env = pure false := by rfl) :
    SS X cs W np (.Expr (.Call (.Attribute (.Name x p) m apos) (e :: es) [] cpos) pos) (methS i ars G kDrop) :=
  psImp (ps_expr (pe_methSs (E := WE W) (pl := pl) (pe_var hN hv hdb hcd) L.cls hM F hr hb (fun σ => passAt tk σ) ha hst hpl ht) hsw) fun D' σ H ⟨Φ, ρ, r, q⟩ => runMeth hne hl hd r q fun rr fin v Φ2 H2 R S q =>
    q Φ2 H2 σ ⟨S.mono, S.frame, fun b p => S.own b (ownInit R.init.len p), S.new⟩ R.init rfl
theorem ss_methE0 (i : Nat) (L : LogF X.K) (F : FnOk X.prog X.w X.K X.mg X.base (L2.CX X.prog X.w) k fa fd ps (spG X.K cs 1 G)) (hr : Room k X.A) (hM : Meth X.K (logC X.K) m fa) (hb : Binds X.K fd ps []) (tk : Takes X W) (hne : ∀ b, m ≠ fldS b)
    (hN : X.N[i]? = some x := by rfl) (hv : Vis X.env.scope x := by first | exact Or.inl rfl | exact Or.inr (Or.inl rfl) | exact Or.inr (Or.inr rfl)) (hdb : (x == ("__debug__" : Str)) = false := by decide) (hcd : (x == ("__classdict__" : Str)) = false := by decide)
    {pl : Sem Bool}
    (ht : eval (.Call (.Attribute (.Name x p) m apos) [] [] cpos) X.env = (do
      let ov ← eval (.Name x p) X.env
      standAt apos.atName
      let (f, first) ← holding [ov] (getMethod ov m pl)
      callWith cpos f first (backTo cpos (starEach [] X.env)) (backToKw cpos (keywordEach [] X.env))) := by rfl)
    (hsw : swapsWith (.Call (.Attribute (.Name x p) m apos) [] [] cpos) none pos.line X.env = pure false := by rfl) :
    SS X cs W np (.Expr (.Call (.Attribute (.Name x p) m apos) [] [] cpos) pos) (methS i [] G kDrop) :=
  psImp (ps_expr (pe_methSs0 (E := WE W) (pl := pl) (pe_var hN hv hdb hcd) L.cls hM F hr hb (fun σ => passAt tk σ) ht) hsw) fun D' σ H ⟨Φ, ρ, r, q⟩ => by
    obtain ⟨v, h1, a, dx, fs, h2, h3, h4, Φ', ρ', r', q'⟩ := runMeth (n := 1) (Qv := fun v H1 => D'.nx σ H1) hne rfl (by simp [Ar.j]) r q fun rr fin v Φ2 H2 R S q =>
      q Φ2 H2 σ ⟨S.mono, S.frame, fun b p => S.own b (ownInit R.init.len p), S.new⟩ R.init rfl
    exact ⟨v, h1, a, dx, fs, h2, h3, h4, q' Φ' H [] (Ext.refl r'.sub) .nil⟩
end
end
end PL
set_option Elab.async false
set_option linter.all false
set_option maxRecDepth 100000
namespace PL
set_option autoImplicit false
open PySem PySem.Spec PyProof.Rows L2
abbrev Gn := List Sl → R D
/-- a statement of a class's body -/
def inCls : Stmt → Nat → Stmt
  | .ClassDef _ _ _ body _ _ _ _ _ _ _, j => body.getD j (.Pass ⟨0, 0, 0, 0⟩)
  | _, _ => .Pass ⟨0, 0, 0, 0⟩
def RunP (K : PySem.W.Frag) (cs : Nat → Addr) (Φ H : Hp) (Q : VK) (E : XK) : R D → Prop
  | .ok d => ∀ Φ' H' v, Ext Φ H Φ' H' → RepD K Φ' d v → Q v H'
  | .exc x => ∀ Φ' H' c dd, Ext Φ H Φ' H' → RepX cs Φ' H' x c dd → E c dd H'
  | .stuck => False
def RunPN (K : PySem.W.Frag) (cs : Nat → Addr) (Φ H : Hp) (Q : VK) (E : XK) : R D → Prop
  | .ok d => ∀ Φ' H' a, Ext Φ H Φ' H' → H a = none → Φ' a = none → RepOwn K Φ' H' d a → Q (.ref a) H'
  | .exc x => ∀ Φ' H' c dd, Ext Φ H Φ' H' → RepX cs Φ' H' x c dd → E c dd H'
  | .stuck => False
def spPu (K : PySem.W.Frag) (cs : Nat → Addr) (n : Nat) (G : List Sl → R D) : Sp := fun vs H Q E => vs.length = n ∧ ∃ Φ args, Rel K Φ H (vS vs) args ∧ RunP K cs Φ H Q E (G args)
def spPN (K : PySem.W.Frag) (cs : Nat → Addr) (n : Nat) (G : List Sl → R D) : Sp := fun vs H Q E => vs.length = n ∧ ∃ Φ args, Rel K Φ H (vS vs) args ∧ RunPN K cs Φ H Q E (G args)
def bodyP (N n : Nat) (fe : Ev D) : List Sl → R D := fun args => fe (args ++ List.replicate (N - n) .emp)
theorem okStuckP {P : Program} {w : World} {K : PySem.W.Frag} {mg : Str → Option Value} {base : Heap} {CX : CXT} {k : Nat} {f : Addr} {fd : FuncData} {ps : List Str} (cs : Nat → Addr) : FnOk P w K mg base CX k f fd ps (spPu K cs ps.length fun _ => .stuck) :=
  ⟨fun vs H Q E h => h.1, fun A outer s H args us vs Q E _ _ _ _ h => by
    obtain ⟨_, _, _, _, q⟩ := h
    exact q.elim⟩
theorem okStuckPN {P : Program} {w : World} {K : PySem.W.Frag} {mg : Str → Option Value} {base : Heap} {CX : CXT} {k : Nat} {f : Addr} {fd : FuncData} {ps : List Str} (cs : Nat → Addr) : FnOk P w K mg base CX k f fd ps (spPN K cs ps.length fun _ => .stuck) :=
  ⟨fun vs H Q E h => h.1, fun A outer s H args us vs Q E _ _ _ _ h => by
    obtain ⟨_, _, _, _, q⟩ := h
    exact q.elim⟩
theorem okPu {P : Program} {w : World} {K : PySem.W.Frag} {mg : Str → Option Value} {base : Heap} {x qual : Str} {st : Stmt} {f : Addr} {fd : FuncData} {N ps : List Str} {k : Nat} (F : Fun K x qual st f fd) (S : FnScope N ps (defScope st)) (cs : Nat → Addr) (fe : Ev D)
    (hb : ∀ (cdv : Value) (A : Around) (outer : List PySem.Env) (s : Shared) (H : Hp) (E : XK), Room k (A.deeper (envOfC qual (defScope st) s.heap.objs.size f cdv)) →
      PSs (cxOf (L2.CX P w) P w K mg base N qual (defScope st) f cdv A outer s H E) (defBody st) (tRet (tG K cs (rD K) (fun c d _ H => E c d H) fe))) :
    FnOk P w K mg base (L2.CX P w) (k + 1) f fd ps (spPu K cs ps.length (bodyP N.length ps.length fe)) := by
  refine F.okX S (fun vs H Q E h => h.1) fun cdv A outer s H vs Q E hr hsp => ⟨_, hb cdv A outer s H E hr, ?_⟩
  obtain ⟨hlen, Φ, args, r, q⟩ := hsp
  have hst : L2.start N vs = vS vs ++ List.replicate (N.length - ps.length) none := by unfold L2.start; rw [hlen]
  rw [hst]
  refine ⟨Φ, args ++ List.replicate (N.length - ps.length) Sl.emp, r.pad (N.length - ps.length), ?_⟩
  unfold bodyP at q
  cases e : fe (args ++ List.replicate (N.length - ps.length) .emp) with
  | ok d => rw [e] at q; exact q
  | exc z => rw [e] at q; exact q
  | stuck => rw [e] at q; exact q
theorem okPN {P : Program} {w : World} {K : PySem.W.Frag} {mg : Str → Option Value} {base : Heap} {x qual : Str} {st : Stmt} {f : Addr} {fd : FuncData} {N ps : List Str} {k : Nat} (F : Fun K x qual st f fd) (S : FnScope N ps (defScope st)) (cs : Nat → Addr) (fe : Ev D)
    (hb : ∀ (cdv : Value) (A : Around) (outer : List PySem.Env) (s : Shared) (H : Hp) (E : XK), Room k (A.deeper (envOfC qual (defScope st) s.heap.objs.size f cdv)) →
      PSs (cxOf (L2.CX P w) P w K mg base N qual (defScope st) f cdv A outer s H E) (defBody st) (tRet (tN K cs (fun c d _ H => E c d H) fe))) :
    FnOk P w K mg base (L2.CX P w) (k + 1) f fd ps (spPN K cs ps.length (bodyP N.length ps.length fe)) := by
  refine F.okX S (fun vs H Q E h => h.1) fun cdv A outer s H vs Q E hr hsp => ⟨_, hb cdv A outer s H E hr, ?_⟩
  obtain ⟨hlen, Φ, args, r, q⟩ := hsp
  have hst : L2.start N vs = vS vs ++ List.replicate (N.length - ps.length) none := by unfold L2.start; rw [hlen]
  rw [hst]
  refine ⟨Φ, args ++ List.replicate (N.length - ps.length) Sl.emp, r.pad (N.length - ps.length), ?_⟩
  unfold bodyP at q
  cases e : fe (args ++ List.replicate (N.length - ps.length) .emp) with
  | ok d => rw [e] at q; exact q
  | exc z => rw [e] at q; exact q
  | stuck => rw [e] at q; exact q
theorem pr_ret {X : Cx} {e : Expr} {t : TE} {pos : Pos} (he : PE X e t) : PSs X [.Return (some e) pos] (tRet t) := pss_one (ps_ret he)
section
variable {X : Cx} {cs : Nat → Addr} {W : WX} {np : Nat} {e tg : Expr} {es : List Expr} {fe : Ev D} {fs : Ev (List D)} {pos p p2 p3 pos' apos cpos : Pos} {x nm m : Str} {ars : List Ar}
def ePm (i : Nat) (G : List Sl → R D) : Ev D := fun ρ => match logOf ρ[i]? with
  | some q => G [.big (logO q.1 q.2)]
  | none => .stuck
theorem logAlone {K : PySem.W.Frag} {Φ H : Hp} {σ : L2.St} {ρ : List Sl} (r : Rel K Φ H σ ρ) {i : Nat} {o : OT} {v : V} (h1 : σ[i]? = some (some v)) (h2 : ρ[i]? = some (.big o)) : Rel K Φ H (vS [v]) [.big o] :=
  r.pick rfl (fun j => i + j) (fun a b h => by omega) fun j s e _ => by
    match j with
    | 0 => cases e; exact ⟨h2, h1⟩
    | j + 1 => simp at e
theorem logName {K : PySem.W.Frag} {Φ H : Hp} {st un : List D} {v : V} (h : RepO K Φ H (logO st un) v) (hne : ∀ b, m ≠ fldS b) : ∃ a dx fs, v = .ref a ∧ H a = some (.ins (logC K) dx fs) ∧ fs.lookup m = none := by
  obtain ⟨a, dx, b0, c0, vs, us, rfl, e1, _⟩ := logO_inv h
  have m1 : (m == ("standing" : Str)) = false := beq_eq_false_iff_ne.mpr (hne false)
  have m2 : (m == ("undone" : Str)) = false := beq_eq_false_iff_ne.mpr (hne true)
  exact ⟨a, dx, _, rfl, e1, by simp [List.lookup, m1, m2]⟩
section
variable {k n i : Nat} {fa : Addr} {fd : FuncData} {ps : List Str} {G : List Sl → R D}
/-- x.m(), that only tells -/
theorem sd_pm (i : Nat) (L : LogF X.K) (F : FnOk X.prog X.w X.K X.mg X.base (L2.CX X.prog X.w) k fa fd ps (spPu X.K cs 1 G)) (hr : Room k X.A) (hM : Meth X.K (logC X.K) m fa) (hb : Binds X.K fd ps []) (tk : Takes X W) (hne : ∀ b, m ≠ fldS b)
    (hN : X.N[i]? = some x := by rfl) (hv : Vis X.env.scope x := by first | exact Or.inl rfl | exact Or.inr (Or.inl rfl) | exact Or.inr (Or.inr rfl)) (hdb : (x == ("__debug__" : Str)) = false := by decide) (hcd : (x == ("__classdict__" : Str)) = false := by decide)
    {pl : Sem Bool}
    (ht : eval (.Call (.Attribute (.Name x p) m apos) [] [] cpos) X.env = (do
      let ov ← eval (.Name x p) X.env
      standAt apos.atName
      let (f, first) ← holding [ov] (getMethod ov m pl)
      callWith cpos f first (backTo cpos (starEach [] X.env)) (backToKw cpos (keywordEach [] X.env))) := by rfl) :
    SD X cs W (.Call (.Attribute (.Name x p) m apos) [] [] cpos) (ePm i G) :=
  peImp (pe_methSs0 (E := WE W) (pl := pl) (pe_var hN hv hdb hcd) L.cls hM F hr hb (fun σ => passAt tk σ) ht) fun σ H Q ⟨Φ, ρ, r, q⟩ => by
    unfold ePm at q
    split at q
    case h_2 => exact q.elim
    next pr e =>
    have e0 := logOf_some e
    obtain ⟨v, h1, h2, h3, h4⟩ := r.big i _ e0
    obtain ⟨a, dx, fs, hva, e1, hl⟩ := logName (m := m) h2 hne
    refine ⟨v, h1, a, dx, fs, hva, e1, hl, rfl, Φ, _, logAlone r h1 e0, ?_⟩
    cases eg : G [.big (logO pr.1 pr.2)] with
    | ok d => rw [eg] at q; exact q
    | exc z => rw [eg] at q; exact q
    | stuck => rw [eg] at q; exact q
theorem sn_pm (i : Nat) (L : LogF X.K) (F : FnOk X.prog X.w X.K X.mg X.base (L2.CX X.prog X.w) k fa fd ps (spPN X.K cs 1 G)) (hr : Room k X.A) (hM : Meth X.K (logC X.K) m fa) (hb : Binds X.K fd ps []) (tk : Takes X W) (hne : ∀ b, m ≠ fldS b)
    (hN : X.N[i]? = some x := by rfl) (hv : Vis X.env.scope x := by first | exact Or.inl rfl | exact Or.inr (Or.inl rfl) | exact Or.inr (Or.inr rfl)) (hdb : (x == ("__debug__" : Str)) = false := by decide) (hcd : (x == ("__classdict__" : Str)) = false := by decide)
    {pl : Sem Bool}
    (ht : eval (.Call (.Attribute (.Name x p) m apos) [] [] cpos) X.env = (do
      let ov ← eval (.Name x p) X.env
      standAt apos.atName
      let (f, first) ← holding [ov] (getMethod ov m pl)
      callWith cpos f first (backTo cpos (starEach [] X.env)) (backToKw cpos (keywordEach [] X.env))) := by rfl) :
    SN X cs W (.Call (.Attribute (.Name x p) m apos) [] [] cpos) (ePm i G) :=
  peImp (pe_methSs0 (E := WE W) (pl := pl) (pe_var hN hv hdb hcd) L.cls hM F hr hb (fun σ => passAt tk σ) ht) fun σ H Q ⟨Φ, ρ, r, q⟩ => by
    unfold ePm at q
    split at q
    case h_2 => exact q.elim
    next pr e =>
    have e0 := logOf_some e
    obtain ⟨v, h1, h2, h3, h4⟩ := r.big i _ e0
    obtain ⟨a, dx, fs, hva, e1, hl⟩ := logName (m := m) h2 hne
    refine ⟨v, h1, a, dx, fs, hva, e1, hl, rfl, Φ, _, logAlone r h1 e0, ?_⟩
    cases eg : G [.big (logO pr.1 pr.2)] with
    | ok d => rw [eg] at q; exact q
    | exc z => rw [eg] at q; exact q
    | stuck => rw [eg] at q; exact q
end
theorem no_cx {P : Program} {w : World} {stack : List PySem.Env} (H : Hp) (s : Shared) (e : Value) (s' : Shared) (h : L2.CX P w stack H s (fun _ _ _ => False) e s') : False := by
  obtain ⟨_, _, _, _, _, _, _, _, _, _, _, _, z⟩ := h
  exact z
def makeS (i : Nat) (G : Fn) (fs : Ev (List D)) : Es := fun ρ => tryE ρ (fs ρ) fun ds => match G (.big (.node (.obj []) []) :: ds.map .val) with
  | .ok (.val .non) (.big o :: _) => .nx (ρ.set i (.big o))
  | _ => .stuck
theorem newObj {K : PySem.W.Frag} {Φ H : Hp} {ds : List D} {vs : List V} {y dx : Addr} (s : Same Φ H) (h : RepDs K Φ ds vs) (hy : H y = none) (hd : H dx = none) (hne : dx ≠ y) :
    Rel K Φ (upd (upd H dx (.own y)) y (.ins (logC K) dx [])) (vS (.ref y :: vs)) (.big (.node (.obj []) []) :: ds.map .val) ∧ ∀ b, Own (upd (upd H dx (.own y)) y (.ins (logC K) dx [])) (vS (.ref y :: vs)) (.big (.node (.obj []) []) :: ds.map .val) b → b = y := by
  have fp : fpO (upd (upd H dx (.own y)) y (.ins (logC K) dx [])) (.node (.obj []) []) (.ref y) = [y] := by
    rw [fpO_node, fpOs_nil]
  have ow : ∀ i b, OwnAt (upd (upd H dx (.own y)) y (.ins (logC K) dx [])) (vS (.ref y :: vs)) (.big (.node (.obj []) []) :: ds.map .val) i b → i = 0 ∧ b = y := fun i b ⟨t, u, h1, h2, h3⟩ => by
    match i with
    | 0 =>
      cases h1; cases h2
      rw [show fpS _ (.big (.node (.obj []) [])) (.ref y) = [y] from fp] at h3
      exact ⟨rfl, List.mem_singleton.mp h3⟩
    | i + 1 =>
      simp only [List.getElem?_cons_succ, List.getElem?_map] at h1
      cases e : ds[i]? with
      | none => rw [e] at h1; cases h1
      | some d => rw [e] at h1; cases h1; cases h3
  refine ⟨.of (fun b o e => ?_) (by simp [h.length]) (fun i t x h1 h2 => ?_) fun i j b w1 w2 => by rw [(ow i b w1).1, (ow j b w2).1], fun b ⟨i, w⟩ => (ow i b w).2⟩
  · have e1 := s b o e
    rw [upd_ne (ne_of_none e1 hy), upd_ne (ne_of_none e1 hd)]; exact e1
  · match i with
    | 0 =>
      cases h1; cases h2
      refine ⟨_, rfl, .node upd_same ⟨dx, [], rfl, rfl⟩ .nil, fun b hb => ?_, by rw [fp]; simp⟩
      rw [fp] at hb
      rw [List.mem_singleton.mp hb]
      exact s.free hy
    | i + 1 =>
      simp only [List.getElem?_cons_succ, List.getElem?_map] at h1
      cases e : ds[i]? with
      | none => rw [e] at h1; cases h1
      | some d =>
        rw [e] at h1; cases h1
        obtain ⟨v, g1, g2⟩ := h.get e
        simp [g1] at h2
        exact ⟨v, h2.symm, g2⟩
end
end PL
set_option Elab.async false
set_option linter.all false
set_option maxRecDepth 100000
namespace PL
set_option autoImplicit false
open PySem PySem.Spec PyProof.Rows L2
/-- the answer of an expression is told as .rt r ρ' -/
def RunX (K : PySem.W.Frag) (cs : Nat → Addr) (W : WX) (P : Addr → Prop) (σ : L2.St) (Φ H : Hp) (Q : VK) : RS → Prop
  | .rt r ρ' => ∀ Φ' H' v, Stp P Φ H Φ' H' (Own H' (σ ++ [some v]) (ρ' ++ [r])) → Rel K Φ' H' (σ ++ [some v]) (ρ' ++ [r]) → Q v H'
  | .exc x ρ' => ∀ Φ' H' c dd, Stp P Φ H Φ' H' (Own H' σ ρ') → Rel K Φ' H' σ ρ' → RepX cs Φ' H' x c dd → W c dd σ H'
  | _ => False
def tX (K : PySem.W.Frag) (cs : Nat → Addr) (W : WX) (f : Es) : TE := fun σ H Q => ∃ Φ ρ, Rel K Φ H σ ρ ∧ RunX K cs W (Own H σ ρ) σ Φ H Q (f ρ)
def SX (X : Cx) (cs : Nat → Addr) (W : WX) (e : Expr) (f : Es) : Prop := PE X e (tX X.K cs W f)
/-- a test's -/
def RunXT (K : PySem.W.Frag) (cs : Nat → Addr) (W : WX) (P : Addr → Prop) (σ : L2.St) (Φ H : Hp) (Q : Bool → Hp → Prop) : RS → Prop
  | .rt (.val (.bl k)) ρ' => ∀ Φ' H', Stp P Φ H Φ' H' (Own H' σ ρ') → Rel K Φ' H' σ ρ' → Q k H'
  | .exc x ρ' => ∀ Φ' H' c dd, Stp P Φ H Φ' H' (Own H' σ ρ') → Rel K Φ' H' σ ρ' → RepX cs Φ' H' x c dd → W c dd σ H'
  | _ => False
def tXT (K : PySem.W.Frag) (cs : Nat → Addr) (W : WX) (f : Es) : TT := fun σ H Q => ∃ Φ ρ, Rel K Φ H σ ρ ∧ RunXT K cs W (Own H σ ρ) σ Φ H Q (f ρ)
def SXT (X : Cx) (cs : Nat → Addr) (W : WX) (e : Expr) (f : Es) : Prop := PT X e (tXT X.K cs W f)
def dK (r : RS) (k : D → Es) : RS := match r with
  | .rt (.val d) ρ' => k d ρ'
  | .exc x ρ' => .exc x ρ'
  | _ => .stuck
def bK (r : RS) (k : Bool → Es) : RS := match r with
  | .rt (.val (.bl b)) ρ' => k b ρ'
  | .exc x ρ' => .exc x ρ'
  | _ => .stuck
section
variable {K : PySem.W.Frag} {cs : Nat → Addr} {W : WX} {P P1 : Addr → Prop} {σ : L2.St} {ρ : List Sl} {Φ H Φ1 H1 : Hp}
theorem RunX.step {Q : VK} {x : RS} (s : Stp P Φ H Φ1 H1 P1) (h : RunX K cs W P σ Φ H Q x) : RunX K cs W P1 σ Φ1 H1 Q x := by
  cases x with
  | rt r ρ => exact fun Φ' H' v s' r' => h Φ' H' v (s.trans s') r'
  | exc z ρ => exact fun Φ' H' c dd s' r' => h Φ' H' c dd (s.trans s') r'
  | nx _ => exact h
  | bk _ => exact h
  | ct _ => exact h
  | stuck => exact h
theorem RunXT.step {Q : Bool → Hp → Prop} {x : RS} (s : Stp P Φ H Φ1 H1 P1) (h : RunXT K cs W P σ Φ H Q x) : RunXT K cs W P1 σ Φ1 H1 Q x := by
  cases x with
  | rt r ρ =>
    cases r with
    | val d =>
      cases d with
      | bl k => exact fun Φ' H' s' r' => h Φ' H' (s.trans s') r'
      | _ => exact h.elim
    | _ => exact h.elim
  | exc z ρ => exact fun Φ' H' c dd s' r' => h Φ' H' c dd (s.trans s') r'
  | nx _ => exact h
  | bk _ => exact h
  | ct _ => exact h
  | stuck => exact h
theorem Stp.init {Φ2 H2 : Hp} {v : V} {s : Sl} {P : Addr → Prop} (hl : σ.length = ρ.length) (S : Stp P Φ H Φ2 H2 (Own H2 (σ ++ [some v]) (ρ ++ [s]))) : Stp P Φ H Φ2 H2 (Own H2 σ ρ) := ⟨S.mono, S.frame, fun b p => S.own b (ownInit hl p), S.new⟩
/-- first f, then what hangs on its answer -/
theorem tX.bind {f : Es} {k : D → Es} {Q : VK} {G : VK} (r : Rel K Φ H σ ρ) (h : RunX K cs W (Own H σ ρ) σ Φ H Q (dK (f ρ) k))
    (c : ∀ Φ1 H1 ρ1 d v, Rel K Φ1 H1 σ ρ1 → Same Φ Φ1 → RepD K Φ1 d v → RunX K cs W (Own H1 σ ρ1) σ Φ1 H1 Q (k d ρ1) → G v H1) : tX K cs W f σ H G := by
  refine ⟨Φ, ρ, r, ?_⟩
  cases e : f ρ with
  | rt s ρ1 =>
    rw [e] at h
    cases s with
    | val d => exact fun Φ1 H1 v s1 r1 => c Φ1 H1 ρ1 d v r1.init s1.mono r1.last (RunX.step (Stp.init r1.init.len s1) h)
    | emp => exact h.elim
    | own d => exact h.elim
    | big o => exact h.elim
  | exc x ρ1 => rw [e] at h; exact h
  | nx _ => rw [e] at h; exact h.elim
  | bk _ => rw [e] at h; exact h.elim
  | ct _ => rw [e] at h; exact h.elim
  | stuck => rw [e] at h; exact h.elim
/-- the same, within a test -/
theorem tX.bindT {f : Es} {k : D → Es} {Q : Bool → Hp → Prop} {G : VK} (r : Rel K Φ H σ ρ) (h : RunXT K cs W (Own H σ ρ) σ Φ H Q (dK (f ρ) k))
    (c : ∀ Φ1 H1 ρ1 d v, Rel K Φ1 H1 σ ρ1 → Same Φ Φ1 → RepD K Φ1 d v → RunXT K cs W (Own H1 σ ρ1) σ Φ1 H1 Q (k d ρ1) → G v H1) : tX K cs W f σ H G := by
  refine ⟨Φ, ρ, r, ?_⟩
  cases e : f ρ with
  | rt s ρ1 =>
    rw [e] at h
    cases s with
    | val d => exact fun Φ1 H1 v s1 r1 => c Φ1 H1 ρ1 d v r1.init s1.mono r1.last (RunXT.step (Stp.init r1.init.len s1) h)
    | emp => exact h.elim
    | own d => exact h.elim
    | big o => exact h.elim
  | exc x ρ1 => rw [e] at h; exact h
  | nx _ => rw [e] at h; exact h.elim
  | bk _ => rw [e] at h; exact h.elim
  | ct _ => rw [e] at h; exact h.elim
  | stuck => rw [e] at h; exact h.elim
theorem tXT.bind {f : Es} {k : Bool → Es} {Q G : Bool → Hp → Prop} (r : Rel K Φ H σ ρ) (h : RunXT K cs W (Own H σ ρ) σ Φ H Q (bK (f ρ) k))
    (c : ∀ Φ1 H1 ρ1 b, Rel K Φ1 H1 σ ρ1 → RunXT K cs W (Own H1 σ ρ1) σ Φ1 H1 Q (k b ρ1) → G b H1) : tXT K cs W f σ H G := by
  refine ⟨Φ, ρ, r, ?_⟩
  cases e : f ρ with
  | rt s ρ1 =>
    rw [e] at h
    cases s with
    | val d =>
      cases d with
      | bl b => exact fun Φ1 H1 s1 r1 => c Φ1 H1 ρ1 b r1 (RunXT.step s1 h)
      | _ => exact h.elim
    | emp => exact h.elim
    | own d => exact h.elim
    | big o => exact h.elim
  | exc x ρ1 => rw [e] at h; exact h
  | nx _ => rw [e] at h; exact h.elim
  | bk _ => rw [e] at h; exact h.elim
  | ct _ => rw [e] at h; exact h.elim
  | stuck => rw [e] at h; exact h.elim
/-- within a statement -/
theorem tX.bindS {np : Nat} {D' : Ends} {f : Es} {k : D → Es} {G : VK} (r : Rel K Φ H σ ρ) (h : RunS K cs W np D' (Own H σ ρ) σ Φ H (dK (f ρ) k))
    (c : ∀ Φ1 H1 ρ1 d v, Rel K Φ1 H1 σ ρ1 → Same Φ Φ1 → RepD K Φ1 d v → RunS K cs W np D' (Own H1 σ ρ1) σ Φ1 H1 (k d ρ1) → G v H1) : tX K cs W f σ H G := by
  refine ⟨Φ, ρ, r, ?_⟩
  cases e : f ρ with
  | rt s ρ1 =>
    rw [e] at h
    cases s with
    | val d => exact fun Φ1 H1 v s1 r1 => c Φ1 H1 ρ1 d v r1.init s1.mono r1.last (RunS.step (Stp.init r1.init.len s1) rfl h)
    | emp => exact h.elim
    | own d => exact h.elim
    | big o => exact h.elim
  | exc x ρ1 => rw [e] at h; exact fun Φ' H' cc dd s' r' hx => h Φ' H' σ cc dd s' r' rfl hx
  | nx _ => rw [e] at h; exact h.elim
  | bk _ => rw [e] at h; exact h.elim
  | ct _ => rw [e] at h; exact h.elim
  | stuck => rw [e] at h; exact h.elim
theorem tXT.bindS {np : Nat} {D' : Ends} {f : Es} {k : Bool → Es} {G : Bool → Hp → Prop} (r : Rel K Φ H σ ρ) (h : RunS K cs W np D' (Own H σ ρ) σ Φ H (bK (f ρ) k))
    (c : ∀ Φ1 H1 ρ1 b, Rel K Φ1 H1 σ ρ1 → RunS K cs W np D' (Own H1 σ ρ1) σ Φ1 H1 (k b ρ1) → G b H1) : tXT K cs W f σ H G := by
  refine ⟨Φ, ρ, r, ?_⟩
  cases e : f ρ with
  | rt s ρ1 =>
    rw [e] at h
    cases s with
    | val d =>
      cases d with
      | bl b => exact fun Φ1 H1 s1 r1 => c Φ1 H1 ρ1 b r1 (RunS.step s1 rfl h)
      | _ => exact h.elim
    | emp => exact h.elim
    | own d => exact h.elim
    | big o => exact h.elim
  | exc x ρ1 => rw [e] at h; exact fun Φ' H' cc dd s' r' hx => h Φ' H' σ cc dd s' r' rfl hx
  | nx _ => rw [e] at h; exact h.elim
  | bk _ => rw [e] at h; exact h.elim
  | ct _ => rw [e] at h; exact h.elim
  | stuck => rw [e] at h; exact h.elim
/-- a pure step within -/
theorem RunX.run {α β : Type} {rp : Rp α β} {Q : VK} {G : β → Hp → Prop} {x : R α} {k : α → RS} (r : Rel K Φ H σ ρ) (h : RunX K cs W (Own H σ ρ) σ Φ H Q (tryE ρ x k))
    (c : ∀ Φ1 H1 a b, Rel K Φ1 H1 σ ρ → Ext Φ H Φ1 H1 → rp.rep Φ1 H1 a b → RunX K cs W (Own H1 σ ρ) σ Φ1 H1 Q (k a) → G b H1) : Run cs rp W σ Φ H G x := by
  cases x with
  | ok a => exact fun Φ' H' b x q => c Φ' H' a b (r.ext x) x q (RunX.step (r.stp x) h)
  | exc z => exact fun Φ' H' cc dd x q => h Φ' H' cc dd (r.stp x) (r.ext x) q
  | stuck => exact h
theorem RunXT.run {α β : Type} {rp : Rp α β} {Q : Bool → Hp → Prop} {G : β → Hp → Prop} {x : R α} {k : α → RS} (r : Rel K Φ H σ ρ) (h : RunXT K cs W (Own H σ ρ) σ Φ H Q (tryE ρ x k))
    (c : ∀ Φ1 H1 a b, Rel K Φ1 H1 σ ρ → Ext Φ H Φ1 H1 → rp.rep Φ1 H1 a b → RunXT K cs W (Own H1 σ ρ) σ Φ1 H1 Q (k a) → G b H1) : Run cs rp W σ Φ H G x := by
  cases x with
  | ok a => exact fun Φ' H' b x q => c Φ' H' a b (r.ext x) x q (RunXT.step (r.stp x) h)
  | exc z => exact fun Φ' H' cc dd x q => h Φ' H' cc dd (r.stp x) (r.ext x) q
  | stuck => exact h
theorem RunX.val {Q : VK} {d : D} {v : V} (r : Rel K Φ H σ ρ) (h : RunX K cs W (Own H σ ρ) σ Φ H Q (.rt (.val d) ρ)) (rep : RepD K Φ d v) : Q v H := h Φ H v (Stp.refl fun b w => ownPush r.len w) (r.push rep)
theorem RunXT.val {Q : Bool → Hp → Prop} {b : Bool} (r : Rel K Φ H σ ρ) (h : RunXT K cs W (Own H σ ρ) σ Φ H Q (.rt (.val (.bl b)) ρ)) : Q b H := h Φ H (Stp.refl fun _ w => w) r
end
section
variable {X : Cx} {cs : Nat → Addr} {W : WX} {np : Nat} {a b c e tg : Expr} {es : List Expr} {fe : Ev D} {fc : Ev Bool} {f g fa fb : Es} {pos p p2 p3 pos' apos cpos : Pos} {x nm m : Str} {ars : List Ar}
/-- a test that changes nothing -/
def tstX (fc : Ev Bool) : Es := fun ρ => tryE ρ (fc ρ) fun k => .rt (.val (.bl k)) ρ
def cmpX (g : D → D → R Bool) (fa fb : Es) : Es := fun ρ => dK (fa ρ) fun d ρ1 => dK (fb ρ1) fun e ρ2 => tryE ρ2 (g d e) fun k => .rt (.val (.bl k)) ρ2
theorem sxt_cmp {op : CmpOp} {r : R2} {g : D → D → R Bool} (ho : OpR X (compareOp op) r) (hg : OpB X cs W r g) (ha : SX X cs W a fa) (hb : SX X cs W b fb) (hm : behindInMarks op b = false) : SXT X cs W (.Compare a [op] [b] pos) (cmpX g fa fb) :=
  ptImp (pt_cmpR ho ha hb hm) fun σ H Q ⟨Φ, ρ, r, q⟩ => tX.bindT r q fun Φ1 H1 ρ1 d v r1 _ rep1 q => tX.bindT r1 q fun Φ2 H2 ρ2 e u r2 m2 rep2 q =>
    hg σ Φ2 H2 Q v u d e r2.sub (.inl (rep1.mono m2)) (.inl rep2) (RunXT.run (rp := rB) r2 q fun Φ3 H3 k k' r3 _ rep3 q => by cases rep3; exact q.val r3)
theorem sxt_ne (hu : X.A.units + 64 < cLine) (ha : SX X cs W a fa) (hb : SX X cs W b fb) : SXT X cs W (.Compare a [.NotEq] [b] pos) (cmpX gNe fa fb) := sxt_cmp (op_ne.or (op_neD hu)) (opNe hu) ha hb (nomark _)
def isNX (fa : Es) : Es := fun ρ => dK (fa ρ) fun d ρ1 => .rt (.val (.bl d.isNon)) ρ1
def notX (f : Es) : Es := fun ρ => bK (f ρ) fun k ρ1 => .rt (.val (.bl (!k))) ρ1
def orX (f g : Es) : Es := fun ρ => bK (f ρ) fun k ρ1 => if k = true then .rt (.val (.bl true)) ρ1 else g ρ1
def andX (f g : Es) : Es := fun ρ => bK (f ρ) fun k ρ1 => if k = true then g ρ1 else .rt (.val (.bl false)) ρ1
variable {rest : List Expr}
def eIfX (fc : Ev Bool) (fa fb : Es) : Es := fun ρ => tryE ρ (fc ρ) fun k => if k = true then fa ρ else fb ρ
def ifX (f : Es) (g h : Es) : Es := fun ρ => bK (f ρ) fun k ρ1 => if k = true then g ρ1 else h ρ1
theorem ss_ifX {as bs : List Stmt} {h : Es} (hc : SXT X cs W c f) (ha : SSs X cs W np as g) (hb : SSs X cs W np bs h) : SS X cs W np (.If c as bs pos) (ifX f g h) := psImp (ps_if hc ha hb) fun D' σ H ⟨Φ, ρ, r, q⟩ =>
  tXT.bindS r q fun Φ1 H1 ρ1 k r1 q => by
    cases k with
    | true => exact ⟨Φ1, ρ1, r1, q⟩
    | false => exact ⟨Φ1, ρ1, r1, q⟩
def retX (f : Es) : Es := fun ρ => dK (f ρ) fun d ρ1 => .rt (.val d) ρ1
def asgX (ft : D → R (List (Nat × D))) (f : Es) : Es := fun ρ => dK (f ρ) fun d ρ1 => tryE ρ1 (ft d) fun as => .nx (setS ρ1 as)
def retB (i : Nat) : Es := fun ρ => match ρ[i]? with
  | some (.big o) => .rt (.big o) (ρ.set i .emp)
  | _ => .stuck
def kBig (i : Nat) : Sl → List Sl → RS := fun r ρ => match r with
  | .big o => .nx (ρ.set i (.big o))
  | _ => .stuck
end
end PL
set_option Elab.async false
set_option linter.all false
set_option maxRecDepth 100000
namespace PL
set_option autoImplicit false
open PySem PySem.Spec PyProof.Rows L2
def gIsXs (js : List Nat) : D → R Bool
  | .exn c => .ok (js.any (subX c))
  | .non => .ok false
  | _ => .stuck
@[simp] theorem gIsXs_exn (js : List Nat) (c : Nat) : gIsXs js (.exn c) = .ok (js.any (subX c)) := rfl
@[simp] theorem gIsXs_non (js : List Nat) : gIsXs js .non = .ok false := rfl
end PL
set_option Elab.async false
set_option linter.all false
set_option maxRecDepth 100000
namespace PL
set_option autoImplicit false
open PySem PySem.Spec PyProof.Rows L2
def kAppP (i : Nat) : D → List Sl → RS := fun d => mutS i gAppend (aCons (eC d) aNil) kNx
section
variable {X : Cx} {cs : Nat → Addr} {W : WX} {np : Nat} {a e : Expr} {es : List Expr} {fa : Ev D} {pos p pos' : Pos}
def gAbs : List D → R D
  | [.int i] => .ok (.int (if i < 0 then -i else i))
  | _ => .stuck
def tLogN (i : Nat) : Ev Bool := fun ρ => match ρ[i]? with
  | some (.val .non) => .ok true
  | some (.big (.node _ _)) => .ok false
  | _ => .stuck
end
end PL
set_option Elab.async false
set_option linter.all false
set_option maxRecDepth 100000
namespace PL
set_option autoImplicit false
open PySem PySem.Spec PyProof.Rows L2
mutual
def OT.toD : OT → D
  | .frz d => d
  | .lst ds => .lst ds
  | .node .lst xs => .lst (OT.toDs xs)
  | .node .tup xs => .tup (OT.toDs xs)
  | .node (.obj _) _ => .non
def OT.toDs : List OT → List D
  | [] => []
  | x :: xs => OT.toD x :: OT.toDs xs
end
mutual
def OT.data : OT → Bool
  | .frz _ => true
  | .lst _ => true
  | .node .lst xs => OT.datas xs
  | .node .tup xs => !stk (OT.toDs xs) && OT.datas xs
  | .node (.obj _) _ => false
def OT.datas : List OT → Bool
  | [] => true
  | x :: xs => OT.data x && OT.datas xs
end
section
variable {K : PySem.W.Frag} {Φ Φ' H H' : Hp}
mutual
theorem RepO.toD (m : Same Φ Φ') : ∀ {o : OT} {v : V}, RepO K Φ H o v → o.data = true → (∀ b ∈ fpO H o v, Φ' b = H b) → RepD K Φ' o.toD v
  | _, _, .frz h, _, _ => by rw [OT.toD]; exact h.mono m
  | _, _, .lst (a := a) h r, _, n => by
    rw [OT.toD]
    exact .lst ((n a (by rw [fpO_lst]; exact List.mem_singleton.mpr rfl)).trans h) (r.mono m)
  | _, _, .node (a := a) (k := .lst) h k r, d, n => by
    rw [OT.data] at d
    rw [fpO_node, kids_at h] at n
    obtain ⟨vs, rfl⟩ := k
    rw [OT.toD]
    exact .lst ((n a List.mem_cons_self).trans h) (RepOs.toD m r d fun b hb => n b (List.mem_cons_of_mem _ hb))
  | _, _, .node (a := a) (k := .tup) (xs := xs) h k r, d, n => by
    rw [OT.data, Bool.and_eq_true] at d
    rw [fpO_node, kids_at h] at n
    have w := RepOs.toD m r d.2 fun b hb => n b (List.mem_cons_of_mem _ hb)
    have e := (n a List.mem_cons_self).trans h
    rw [OT.toD]
    have no : stk (OT.toDs xs) = true → Kn K Φ' a := fun z => by rw [z] at d; exact nomatch d.1
    rcases k with ⟨vs, rfl⟩ | ⟨o, vs, rfl⟩
    · exact .tup (.inl (.inl e)) w no
    · exact .tup (.inl (.inr ⟨o, e⟩)) w no
  | _, _, .node (k := .obj _) h k r, d, n => by rw [OT.data] at d; cases d
theorem RepOs.toD (m : Same Φ Φ') : ∀ {o : List OT} {v : List V}, RepOs K Φ H o v → OT.datas o = true → (∀ b ∈ fpOs H o v, Φ' b = H b) → RepDs K Φ' (OT.toDs o) v
  | _, _, .nil, _, _ => by rw [OT.toDs]; exact .nil
  | _, _, .cons h r, d, n => by
    rw [OT.datas, Bool.and_eq_true] at d
    rw [fpOs_cons] at n
    rw [OT.toDs]
    exact .cons (RepO.toD m h d.1 fun b hb => n b (List.mem_append_left _ hb)) (RepOs.toD m r d.2 fun b hb => n b (List.mem_append_right _ hb))
end
def frzB (ρ : List Sl) (i : Nat) : List Sl := match ρ[i]? with
  | some (.big o) => if o.data = true then ρ.set i (.val o.toD) else ρ
  | some (.own d) => ρ.set i (.val d)
  | _ => ρ
end
section
variable {X : Cx} {cs : Nat → Addr} {W : WX} {np : Nat} {e : Expr} {es : List Expr} {fs : Ev (List D)} {st : Stmt} {f : Es} {pos p apos spos ipos cpos : Pos} {x : Str}
def frzBS (i : Nat) (f : Es) : Es := fun ρ => f (frzB ρ i)
def lendTB (i : Nat) (f : Ev Bool) : Ev Bool := fun ρ => f (frzB ρ i)
def lendDB (i : Nat) (f : Ev D) : Ev D := fun ρ => (f (frzB ρ i)).bind fun d => if d.flat = true then .ok d else .stuck
def eFnB (G : Fn) (fs : Ev (List D)) : Ev D := fun ρ => (fs ρ).bind fun ds => match G (ds.map .val) with
  | .ok (.val d) _ => .ok d
  | .ok (.own d) _ => .ok d
  | .ok (.big o) _ => if o.data = true then .ok o.toD else .stuck
  | .exc x _ => .exc x
  | _ => .stuck
end
def partOf (m : Nat) : Option Sl → Option (List OT × List D)
  | some (.big (.node .tup xs)) => match xs[m]? with
    | some (.lst ds) => some (xs, ds)
    | _ => none
  | _ => none
def partS (i m : Nat) (g : GL) (fs : Ev (List D)) (k : D → List Sl → RS) : Es := fun ρ => match partOf m ρ[i]? with
  | some q => tryE ρ (fs ρ) fun args => match g q.2 args with
    | .ok (res, ds') => k res (ρ.set i (.big (.node .tup (q.1.set m (.lst ds')))))
    | _ => .stuck
  | none => .stuck
end PL
set_option Elab.async false
set_option linter.all false
set_option maxRecDepth 100000
namespace PL
set_option autoImplicit false
open PySem PySem.Spec PyProof.Rows L2
/-- a part: frozen data, a slot's own list that moves, a new list -/
inductive Tp where
  | fz (f : Ev D) | mv (j : Nat) | nw (f : Ev D)
def Tp.j : Tp → Option Nat
  | .mv j => some j
  | _ => none
def ownL : Option Sl → Option (List D)
  | some (.own (.lst ds)) => some ds
  | _ => none
def dL : D → R (List D)
  | .lst ds => .ok ds
  | _ => .stuck
def tpS : List Tp → List Sl → R (List OT)
  | [], _ => .ok []
  | .fz f :: r, ρ => (f ρ).bind fun d => (tpS r ρ).bind fun l => .ok (.frz d :: l)
  | .mv j :: r, ρ => match ownL ρ[j]? with
    | some ds => (tpS r ρ).bind fun l => .ok (.lst ds :: l)
    | none => .stuck
  | .nw f :: r, ρ => (f ρ).bind fun d => (dL d).bind fun ds => (tpS r ρ).bind fun l => .ok (.lst ds :: l)
def mvS : List Tp → List Sl → List Sl
  | [], ρ => ρ
  | .mv j :: r, ρ => mvS r (ρ.set j .emp)
  | _ :: r, ρ => mvS r ρ
inductive TpR (K : PySem.W.Frag) (Φ H H0 : Hp) (σ : L2.St) (ρ : List Sl) : List Tp → List OT → List V → Prop
  | nil : TpR K Φ H H0 σ ρ [] [] []
  | fz {f : Ev D} {d : D} {v : V} {ps : List Tp} {l : List OT} {vs : List V} : RepD K Φ d v → TpR K Φ H H0 σ ρ ps l vs → TpR K Φ H H0 σ ρ (.fz f :: ps) (.frz d :: l) (v :: vs)
  | mv {j : Nat} {a : Addr} {ds : List D} {us : List V} {ps : List Tp} {l : List OT} {vs : List V} : ρ[j]? = some (.own (.lst ds)) → σ[j]? = some (some (.ref a)) → H0 a ≠ none → H a = some (.lst us) → RepDs K Φ ds us → Φ a = none → TpR K Φ H H0 σ ρ ps l vs → TpR K Φ H H0 σ ρ (.mv j :: ps) (.lst ds :: l) (.ref a :: vs)
  | nw {f : Ev D} {a : Addr} {ds : List D} {us : List V} {ps : List Tp} {l : List OT} {vs : List V} : H0 a = none → H a = some (.lst us) → RepDs K Φ ds us → Φ a = none → a ∉ fpOs H l vs → TpR K Φ H H0 σ ρ ps l vs → TpR K Φ H H0 σ ρ (.nw f :: ps) (.lst ds :: l) (.ref a :: vs)
section
variable {K : PySem.W.Frag} {Φ Φ' H H' H0 : Hp} {σ : L2.St} {ρ : List Sl}
theorem TpR.rep : ∀ {ps : List Tp} {l : List OT} {vs : List V}, TpR K Φ H H0 σ ρ ps l vs → RepOs K Φ H l vs
  | _, _, _, .nil => .nil
  | _, _, _, .fz h r => .cons (.frz h) (TpR.rep r)
  | _, _, _, .mv _ _ _ h1 h2 _ r => .cons (.lst h1 h2) (TpR.rep r)
  | _, _, _, .nw _ h1 h2 _ _ r => .cons (.lst h1 h2) (TpR.rep r)
theorem TpR.len : ∀ {ps : List Tp} {l : List OT} {vs : List V}, TpR K Φ H H0 σ ρ ps l vs → vs.length = l.length
  | _, _, _, .nil => rfl
  | _, _, _, .fz h r => by rw [List.length_cons, List.length_cons, TpR.len r]
  | _, _, _, .mv _ _ _ h1 h2 _ r => by rw [List.length_cons, List.length_cons, TpR.len r]
  | _, _, _, .nw _ h1 h2 _ _ r => by rw [List.length_cons, List.length_cons, TpR.len r]
/-- whose the addresses are -/
theorem TpR.own : ∀ {ps : List Tp} {l : List OT} {vs : List V} {b : Addr}, TpR K Φ H H0 σ ρ ps l vs → b ∈ fpOs H l vs → Φ b = none ∧ (H0 b = none ∨ ∃ j, j ∈ ps.filterMap Tp.j ∧ OwnAt H0 σ ρ j b)
  | _, _, _, b, .nil, hb => by rw [fpOs_nil] at hb; cases hb
  | _, _, _, b, .fz h r, hb => by
    rw [fpOs_cons, fpO_frz, List.nil_append] at hb
    have w := TpR.own r hb
    simpa [List.filterMap_cons, Tp.j] using w
  | _, _, _, b, .mv (j := j) (a := a) e1 e2 n0 h1 h2 h3 r, hb => by
    rw [fpOs_cons, fpO_lst] at hb
    rcases List.mem_cons.mp hb with rfl | hb
    · exact ⟨h3, .inr ⟨j, by simp [List.filterMap_cons, Tp.j], ownAt_own e2 e1⟩⟩
    · obtain ⟨w1, w2⟩ := TpR.own r hb
      refine ⟨w1, w2.imp id fun ⟨i, hi, w⟩ => ⟨i, ?_, w⟩⟩
      simp only [List.filterMap_cons, Tp.j]
      exact List.mem_cons_of_mem _ hi
  | _, _, _, b, .nw (a := a) h0 h1 h2 h3 h4 r, hb => by
    rw [fpOs_cons, fpO_lst] at hb
    rcases List.mem_cons.mp hb with rfl | hb
    · exact ⟨h3, .inl h0⟩
    · have w := TpR.own r hb
      simpa [List.filterMap_cons, Tp.j] using w
theorem TpR.nodup (sep : ∀ (i j : Nat) (a : Addr), OwnAt H0 σ ρ i a → OwnAt H0 σ ρ j a → i = j) : ∀ {ps : List Tp} {l : List OT} {vs : List V}, TpR K Φ H H0 σ ρ ps l vs → (ps.filterMap Tp.j).Nodup → (fpOs H l vs).Nodup
  | _, _, _, .nil, _ => by rw [fpOs_nil]; exact List.nodup_nil
  | _, _, _, .fz h r, hn => by rw [fpOs_cons, fpO_frz, List.nil_append]; exact TpR.nodup sep r (by simpa [List.filterMap_cons, Tp.j] using hn)
  | _, _, _, .mv (j := j) (a := a) e1 e2 n0 h1 h2 h3 r, hn => by
    rw [fpOs_cons, fpO_lst]
    simp only [List.filterMap_cons, Tp.j, List.nodup_cons] at hn
    refine List.nodup_cons.mpr ⟨fun hb => ?_, TpR.nodup sep r hn.2⟩
    rcases (TpR.own r hb).2 with z | ⟨i, hi, w⟩
    · exact n0 z
    · have := sep i j a w (ownAt_own e2 e1)
      subst this
      exact hn.1 hi
  | _, _, _, .nw (a := a) h0 h1 h2 h3 h4 r, hn => by
    rw [fpOs_cons, fpO_lst]
    exact List.nodup_cons.mpr ⟨h4, TpR.nodup sep r (by simpa [List.filterMap_cons, Tp.j] using hn)⟩
/-- growth -/
theorem TpR.ext (x : Ext Φ H Φ' H') (s : Same H0 H) : ∀ {ps : List Tp} {l : List OT} {vs : List V}, TpR K Φ H H0 σ ρ ps l vs → TpR K Φ' H' H0 σ ρ ps l vs ∧ fpOs H' l vs = fpOs H l vs
  | _, _, _, .nil => ⟨.nil, by rw [fpOs_nil, fpOs_nil]⟩
  | _, _, _, .fz h r => by
    obtain ⟨w1, w2⟩ := TpR.ext x s r
    exact ⟨.fz (h.mono x.mono) w1, by rw [fpOs_cons, fpOs_cons, fpO_frz, fpO_frz, w2]⟩
  | _, _, _, .mv (a := a) e1 e2 n0 h1 h2 h3 r => by
    obtain ⟨w1, w2⟩ := TpR.ext x s r
    refine ⟨.mv e1 e2 n0 (x.heap _ _ h1) (h2.mono x.mono) ?_ w1, by rw [fpOs_cons, fpOs_cons, fpO_lst, fpO_lst, w2]⟩
    cases q : Φ' a with
    | none => rfl
    | some u =>
      rcases x.new a u q with z | z
      · rw [h3] at z; cases z
      · rw [h1] at z; cases z
  | _, _, _, .nw (a := a) h0 h1 h2 h3 h4 r => by
    obtain ⟨w1, w2⟩ := TpR.ext x s r
    refine ⟨.nw h0 (x.heap _ _ h1) (h2.mono x.mono) ?_ (by rw [w2]; exact h4) w1, by rw [fpOs_cons, fpOs_cons, fpO_lst, fpO_lst, w2]⟩
    cases q : Φ' a with
    | none => rfl
    | some u =>
      rcases x.new a u q with z | z
      · rw [h3] at z; cases z
      · rw [h1] at z; cases z
/-- an older base -/
theorem TpR.base {H1 : Hp} (s : Same H0 H1) (r0 : Rel K Φ H0 σ ρ) : ∀ {ps : List Tp} {l : List OT} {vs : List V} {Φ2 : Hp}, TpR K Φ2 H H1 σ ρ ps l vs → TpR K Φ2 H H0 σ ρ ps l vs
  | _, _, _, _, .nil => .nil
  | _, _, _, _, .fz h r => .fz h (TpR.base s r0 r)
  | _, _, _, _, .mv (a := a) e1 e2 n0 h1 h2 h3 r => .mv e1 e2 (by
      obtain ⟨a', q1, q2, _⟩ := r0.own _ _ e1
      rw [e2] at q1; cases q1
      obtain ⟨o, ho⟩ := q2.there
      rw [ho]; exact fun z => nomatch z) h1 h2 h3 (TpR.base s r0 r)
  | _, _, _, _, .nw (a := a) h0 h1 h2 h3 h4 r => .nw (s.free h0) h1 h2 h3 h4 (TpR.base s r0 r)
theorem mvS_len : ∀ (ps : List Tp) (ρ : List Sl), (mvS ps ρ).length = ρ.length
  | [], _ => rfl
  | .mv j :: r, ρ => by rw [mvS, mvS_len r]; simp
  | .fz _ :: r, ρ => mvS_len r ρ
  | .nw _ :: r, ρ => mvS_len r ρ
theorem mvS_at : ∀ (ps : List Tp) (ρ : List Sl) (i : Nat) (s : Sl), (mvS ps ρ)[i]? = some s → s = .emp ∨ (ρ[i]? = some s ∧ i ∉ ps.filterMap Tp.j)
  | [], ρ, i, s, h => .inr ⟨h, by simp⟩
  | .mv j :: r, ρ, i, s, h => by
    rcases mvS_at r (ρ.set j .emp) i s h with z | ⟨z, hn⟩
    · exact .inl z
    · rcases getSet z with ⟨_, z, _⟩ | ⟨hj, z⟩
      · exact .inl z.symm
      · refine .inr ⟨z, ?_⟩
        simp only [List.filterMap_cons, Tp.j, List.mem_cons, not_or]
        exact ⟨Ne.symm hj, hn⟩
  | .fz _ :: r, ρ, i, s, h => by
    rcases mvS_at r ρ i s h with z | ⟨z, hn⟩
    · exact .inl z
    · exact .inr ⟨z, by simpa [List.filterMap_cons, Tp.j] using hn⟩
  | .nw _ :: r, ρ, i, s, h => by
    rcases mvS_at r ρ i s h with z | ⟨z, hn⟩
    · exact .inl z
    · exact .inr ⟨z, by simpa [List.filterMap_cons, Tp.j] using hn⟩
/-- the new tuple as one more slot -/
theorem TpR.last {ps : List Tp} {l : List OT} {vs : List V} {p : Addr} {o : HO} (r : Rel K Φ H0 σ ρ) (x : Ext Φ H0 Φ' H') (t : TpR K Φ' H' H0 σ ρ ps l vs) (hn : (ps.filterMap Tp.j).Nodup) (hp : H' p = none) (ho : o = .tup vs ∨ ∃ ob, o = .frz ob (.tup vs)) :
    Rel K Φ' (upd H' p o) (σ ++ [some (.ref p)]) (mvS ps ρ ++ [.big (.node .tup l)]) ∧ Stp (Own H0 σ ρ) Φ H0 Φ' (upd H' p o) (Own (upd H' p o) (σ ++ [some (.ref p)]) (mvS ps ρ ++ [.big (.node .tup l)])) := by
  have hΦp : Φ' p = none := x.sub.free hp
  have h0p : H0 p = none := x.heap.free hp
  have xa : Ext Φ' H' Φ' (upd H' p o) := Ext.alloc x.sub hp
  obtain ⟨t2, fpe⟩ := t.ext xa x.heap
  have k : kidsO o = vs := by
    rcases ho with rfl | ⟨ob, rfl⟩ <;> rfl
  have fpn : fpO (upd H' p o) (.node .tup l) (.ref p) = p :: fpOs (upd H' p o) l vs := by rw [fpO_node, kids_at upd_same, k]
  have rep : RepO K Φ' (upd H' p o) (.node .tup l) (.ref p) := .node upd_same (by
    rcases ho with rfl | ⟨ob, rfl⟩
    · exact .inl ⟨_, rfl⟩
    · exact .inr ⟨_, _, rfl⟩) (by rw [k]; exact t2.rep)
  have pno : p ∉ fpOs (upd H' p o) l vs := fun hb => by
    rw [fpe] at hb
    obtain ⟨ho', hh⟩ := RepOs.there t.rep p hb
    rw [hp] at hh; cases hh
  have lr : (mvS ps ρ).length = ρ.length := mvS_len ps ρ
  have w := (r.ext (x.trans xa)).remap (σ2 := σ ++ [some (.ref p)]) (ρ2 := mvS ps ρ ++ [.big (.node .tup l)]) (Same.refl _) xa.sub (by simp [r.len, lr]) (fun j => if j = ρ.length then none else some j) (fun b => b ∈ fpO (upd H' p o) (.node .tup l) (.ref p))
    (fun a b k e1 e2 => by
      split at e1 <;> split at e2
      · cases e1
      · cases e1
      · cases e2
      · cases e1; cases e2; rfl)
    (fun j k s y e g1 hs g2 => by
      split at e
      · cases e
      next hj =>
        cases e
        rcases getApp g1 with g1 | ⟨z, _⟩
        · rcases mvS_at ps ρ j s g1 with z | ⟨g3, g4⟩
          · exact absurd z hs
          · have hj' : j < ρ.length := (List.getElem?_eq_some_iff.mp g3).1
            rw [List.getElem?_append_left (by rw [r.len]; exact hj')] at g2
            refine ⟨g3, g2, fun b w => ⟨fun _ h => h, ((r.ext (x.trans xa)).there w).2, fun hb => ?_⟩⟩
            have w0 := (r.extAll (x.trans xa)).2 j b w
            rw [fpn] at hb
            rcases List.mem_cons.mp hb with rfl | hb
            · obtain ⟨⟨u, hu⟩, _⟩ := r.there w0
              rw [h0p] at hu; cases hu
            · rcases (t2.own hb).2 with z | ⟨i, hi, w1⟩
              · obtain ⟨⟨u, hu⟩, _⟩ := r.there w0
                rw [z] at hu; cases hu
              · have := r.sep i j b w1 w0
                subst this
                exact g4 hi
        · rw [lr] at z; exact absurd z hj)
    (fun j s y e g1 g2 => by
      split at e
      next hj =>
        subst hj
        rw [← lr] at g1
        simp at g1
        subst g1
        rw [← r.len] at g2
        simp at g2
        subst g2
        refine ⟨⟨_, rfl, rep, fun b hb => ?_, by rw [fpn]; exact List.nodup_cons.mpr ⟨pno, t2.nodup r.sep hn⟩⟩, fun v b hv hb => by cases hv; exact hb⟩
        rw [fpn] at hb
        rcases List.mem_cons.mp hb with rfl | hb
        · exact hΦp
        · exact (t2.own hb).1
      · cases e)
    (fun i j b e1 e2 _ _ => by
      split at e1 <;> split at e2
      · rename_i z1 z2; rw [z1, z2]
      · cases e2
      · cases e1
      · cases e1)
  refine ⟨w.1, x.mono, fun b u hu _ => xa.heap b u (x.heap b u hu), fun b hb => ?_, fun b u hu => by
    rcases x.new b u hu with z | z
    · exact .inl z
    · exact .inr (.inr z)⟩
  rcases w.2.1 b hb with z | ⟨j, z⟩
  · rw [fpn] at z
    rcases List.mem_cons.mp z with rfl | z
    · exact .inr h0p
    · rcases (t2.own z).2 with z | ⟨i, _, w1⟩
      · exact .inr z
      · exact .inl ⟨i, w1⟩
  · exact .inl ⟨j, (r.extAll (x.trans xa)).2 j b z⟩
end
section
variable {X : Cx} {cs : Nat → Addr} {W : WX} {np : Nat} {a e : Expr} {es : List Expr} {f : Ev D} {ps : List Tp} {pos p pos' : Pos} {x : Str}
def retTB (ps : List Tp) : Es := fun ρ => tryE ρ (tpS ps ρ) fun l => if l.length ≤ LIM then .rt (.big (.node .tup l)) (mvS ps ρ) else .stuck
def asgTB (i : Nat) (ps : List Tp) : Es := fun ρ => tryE ρ (tpS ps ρ) fun l => if l.length ≤ LIM then .nx ((mvS ps ρ).set i (.big (.node .tup l))) else .stuck
end
end PL
set_option Elab.async false
set_option linter.all false
set_option maxRecDepth 100000
namespace PL
set_option autoImplicit false
open PySem PySem.Spec PyProof.Rows L2
mutual
def OT.flat : OT → Bool
  | .frz d => d.flat
  | .lst ds => ds.all D.flat
  | .node _ xs => OT.flats xs
def OT.flats : List OT → Bool
  | [] => true
  | x :: xs => OT.flat x && OT.flats xs
end
section
variable {K : PySem.W.Frag} {Φ Φ' H : Hp}
mutual
theorem RepO.drop : ∀ {o : OT} {v : V}, RepO K Φ H o v → o.flat = true → RepO K Φ' H o v
  | _, _, .frz h, f => by rw [OT.flat] at f; exact .frz (h.drop f)
  | _, _, .lst h r, f => by rw [OT.flat] at f; exact .lst h (r.dropAll f)
  | _, _, .node h k r, f => by rw [OT.flat] at f; exact .node h k (RepOs.drop r f)
theorem RepOs.drop : ∀ {o : List OT} {v : List V}, RepOs K Φ H o v → OT.flats o = true → RepOs K Φ' H o v
  | _, _, .nil, _ => .nil
  | _, _, .cons h r, f => by
    rw [OT.flats, Bool.and_eq_true] at f
    exact .cons (RepO.drop h f.1) (RepOs.drop r f.2)
end
end
def RunNB (K : PySem.W.Frag) (cs : Nat → Addr) (W : WX) (σ : L2.St) (Φ H : Hp) (Q : VK) : R OT → Prop
  | .ok o => ∀ Φ' H' v, Ext Φ H Φ' H' → RepO K Φ' H' o v → (∀ b ∈ fpO H' o v, H b = none ∧ Φ' b = none) → (fpO H' o v).Nodup → Q v H'
  | .exc x => ∀ Φ' H' c dd, Ext Φ H Φ' H' → RepX cs Φ' H' x c dd → W c dd σ H'
  | .stuck => False
def tNB (K : PySem.W.Frag) (cs : Nat → Addr) (W : WX) (f : Ev OT) : TE := fun σ H Q => ∃ Φ ρ, Rel K Φ H σ ρ ∧ RunNB K cs W σ Φ H Q (f ρ)
def SNB (X : Cx) (cs : Nat → Addr) (W : WX) (e : Expr) (f : Ev OT) : Prop := PE X e (tNB X.K cs W f)
section
variable {X : Cx} {cs : Nat → Addr} {W : WX} {np : Nat} {e : Expr} {es : List Expr} {fs : Ev (List D)} {f : Ev OT} {pos p pos' : Pos} {x : Str}
theorem RunNB.ext {K : PySem.W.Frag} {σ : L2.St} {Φ H Φ1 H1 : Hp} {Q : VK} {r : R OT} (x : Ext Φ H Φ1 H1) (h : RunNB K cs W σ Φ H Q r) : RunNB K cs W σ Φ1 H1 Q r := by
  cases r with
  | ok a => exact fun Φ' H' b y q hb nd => h Φ' H' b (x.trans y) q (fun z hz => ⟨x.heap.free (hb z hz).1, (hb z hz).2⟩) nd
  | exc z => exact fun Φ' H' c dd y q => h Φ' H' c dd (x.trans y) q
  | stuck => exact h
def eFnO (G : Fn) (fs : Ev (List D)) : Ev OT := fun ρ => (fs ρ).bind fun ds => match G (ds.map .val) with
  | .ok (.big o) _ => .ok o
  | .exc x _ => .exc x
  | _ => .stuck
/-- an own list lent to it: what is told is flat -/
def lendO (i : Nat) (f : Ev OT) : Ev OT := fun ρ => (f (frzAt ρ i)).bind fun o => if o.flat = true then .ok o else .stuck
def asgO (i : Nat) (f : Ev OT) : Es := fun ρ => tryE ρ (f ρ) fun o => .nx (ρ.set i (.big o))
theorem ss_asgO {i : Nat} {y : Str} (hnp : np ≤ i) (hN : X.N.Nodup) (he : SNB X cs W e f) (hi : X.N[i]? = some y := by rfl) (hx : Loc X.env.scope y := by first | exact Or.inl rfl | exact Or.inr rfl) (hs : swapsWith e (some (.Name y pos')) pos.line X.env = pure false := by rfl) (hf : X.fn y = true ∨ X.env.scope.names.lookup y = some .local := by first | exact .inl rfl | exact .inr rfl | assumption) :
    SS X cs W np (.Assign [.Name y pos'] e pos) (asgO i f) := psImp (ps_set hN hi hx he hs hf) fun D' σ H ⟨Φ, ρ, r, q⟩ => by
  refine ⟨Φ, ρ, r, ?_⟩
  unfold asgO at q
  cases e : f ρ with
  | stuck => rw [e] at q; exact q.elim
  | exc x => rw [e] at q; exact fun Φ' H' c dd x y => q Φ' H' σ c dd (r.stp x) (r.ext x) rfl y
  | ok o =>
    rw [e] at q
    intro Φ' H' v x rep hb nd
    have w := (r.ext x).put (i := i) (s := .big o) (x := some v) ⟨v, rfl, rep, fun b h => (hb b h).2, nd⟩ fun u b hu hm j _ w => by
      cases hu
      obtain ⟨⟨z, hz⟩, _⟩ := r.there ((r.extAll x).2 j b w)
      rw [(hb b hm).1] at hz; cases hz
    refine q Φ' H' _ (Stp.ofExt x fun b ⟨j, w'⟩ => ?_) w.1 (takeSet hnp)
    rcases w.2 j b w' with ⟨_, u, hu, hm⟩ | ⟨_, w'⟩
    · cases hu; exact .inr (hb b hm).1
    · exact .inl (r.ownX x ⟨j, w'⟩)
def retO (f : Ev OT) : Es := fun ρ => tryE ρ (f ρ) fun o => .rt (.big o) ρ
end
end PL
set_option Elab.async false
set_option linter.all false
set_option maxRecDepth 100000
namespace PL
set_option autoImplicit false
open PySem PySem.Spec PyProof.Rows L2
section
variable {X : Cx} {cs : Nat → Addr} {W : WX} {np : Nat} {pos p pos' : Pos} {x y : Str}
def movS (i j : Nat) : Es := fun ρ => match ρ[j]? with
  | some (.own d) => .nx ((ρ.set j .emp).set i (.own d))
  | _ => .stuck
end
end PL
set_option Elab.async false
set_option linter.all false
set_option maxRecDepth 100000
namespace PL
set_option autoImplicit false
open PySem PySem.Spec PyProof.Rows L2
/-- a text of these signs -/
abbrev sOf (s : List Nat) : Str := ⟨s.toArray⟩
def splitL (s c : List Nat) : List (List Nat) := (Txt.split (sOf s) (sOf c)).map fun y => y.cps.toList
def stripL (s c : List Nat) : List Nat := (Txt.stripChars (sOf s) (sOf c)).cps.toList
def lstripL (s c : List Nat) : List Nat := (Txt.lstripChars (sOf s) (sOf c)).cps.toList
def partL (s c : List Nat) : List D := [.str (Txt.partition (sOf s) (sOf c)).1.cps.toList, .str (Txt.partition (sOf s) (sOf c)).2.1.cps.toList, .str (Txt.partition (sOf s) (sOf c)).2.2.cps.toList]
def startsL (s c : List Nat) : Bool := Txt.startswith (sOf s) (sOf c)
def gSplit (s : List Nat) : D → R D
  | .str c => if c ≠ [] ∧ s.length + 2 ≤ LIM then .ok (.lst ((splitL s c).map .str)) else .stuck
  | _ => .stuck
def gStrip (s : List Nat) : D → R D
  | .str c => if s.length ≤ LIM then .ok (.str (stripL s c)) else .stuck
  | _ => .stuck
def gLstrip (s : List Nat) : D → R D
  | .str c => if s.length ≤ LIM then .ok (.str (lstripL s c)) else .stuck
  | _ => .stuck
def gPart (s : List Nat) : D → R D
  | .str c => if c ≠ [] ∧ s.length ≤ LIM then .ok (.tup (partL s c)) else .stuck
  | _ => .stuck
def gStarts (s : List Nat) : D → R D
  | .str c => .ok (.bl (startsL s c))
  | _ => .stuck
def strI (i : Int) : List Nat := ((toString i : String) : Str).cps.toList
def gStrI : List D → R D
  | [.int i] => if i.natAbs < 2 ^ 1900 then .ok (.str (strI i)) else .stuck
  | _ => .stuck
end PL
set_option Elab.async false
set_option linter.all false
set_option maxRecDepth 100000
namespace PL
set_option autoImplicit false
open PySem PySem.Spec PyProof.Rows L2
def noXS : RS → RS
  | .exc _ _ => .stuck
  | r => r
def pickS : List (Nat × Es) → Exn → List Sl → RS
  | [], x, ρ => .exc x ρ
  | (j, f) :: r, x, ρ => if subX x.c j = true then noXS (f ρ) else pickS r x ρ
def trysS (hs : List (Nat × Es)) (fb : Es) : Es := fun ρ => match fb ρ with
  | .exc x ρ' => pickS hs x ρ'
  | r => r
section
variable {X : Cx} {W : WX} {np : Nat}
inductive HsOk (X : Cx) (np : Nat) : List ExceptHandler → List (Nat × Es) → Prop
  | nil : HsOk X np [] []
  | cons {x : Str} (j : Nat) {f : Es} {b : Stmt} {suite : List Stmt} {p1 p2 : Pos} {hds : List ExceptHandler} {l : List (Nat × Es)} (h0 : clsOf X.K j ≠ 0) (hg : Gl X x) (hm : X.mg x = some (.ref (clsOf X.K j)))
      (hd : (x == ("__debug__" : Str)) = false) (hs : ∀ a pn, SSs (X.suite a pn) (clsOf X.K) (fun _ _ _ _ => False) np (b :: suite) f) (r : HsOk X np hds l) : HsOk X np (.ExceptHandler (some (.Name x p1)) none (b :: suite) p2 :: hds) ((j, f) :: l)
def clauses (X : Cx) (np : Nat) : List (Nat × Es) → List (Value × (Addr → Value → Option Addr → TS))
  | [] => []
  | (j, f) :: r => (.ref (clsOf X.K j), fun _ _ _ => tS X.K (clsOf X.K) (fun _ _ _ _ => False) np f) :: clauses X np r
theorem HsOk.hds {hds : List ExceptHandler} {l : List (Nat × Es)} (h : HsOk X np hds l) : HdsOk X hds (clauses X np l) := by
  induction h with
  | nil => exact .nil
  | cons j h0 hg hm hd hs r ih => exact .cons ⟨hg, hd, .inl hm⟩ (fun a oe cls d pn _ _ => hs a ((a, oe) :: pn)) ih
theorem HsOk.cls {hds : List ExceptHandler} {l : List (Nat × Es)} (h : HsOk X np hds l) : ∀ p ∈ l, clsOf X.K p.1 ≠ 0 := by
  induction h with
  | nil => intro p hp; cases hp
  | cons j h0 hg hm hd hs r ih =>
    intro p hp
    rcases List.mem_cons.mp hp with rfl | hp
    · exact h0
    · exact ih p hp
end
end PL
set_option Elab.async false
set_option linter.all false
set_option maxRecDepth 100000
namespace PL
set_option autoImplicit false
open PySem PySem.Spec PyProof.Rows L2
end PL
set_option Elab.async false
set_option linter.all false
set_option maxRecDepth 100000
namespace PL
set_option autoImplicit false
open PySem PySem.Spec PyProof.Rows L2
mutual
def D.noDic : D → Bool
  | .tup ds => D.noDics ds
  | .lst ds => D.noDics ds
  | .dic _ => false
  | .cls _ => false
  | _ => true
def D.noDics : List D → Bool
  | [] => true
  | d :: ds => d.noDic && D.noDics ds
end
def lendK (i : Nat) (f : Ev D) : Ev D := fun ρ => match ρ[i]? with
  | some (.own (.dic _)) => (f (frzAt ρ i)).bind fun d => if d.noDic = true then .ok d else .stuck
  | _ => .stuck
end PL
set_option Elab.async false
set_option linter.all false
set_option maxRecDepth 100000
set_option maxHeartbeats 1000000
namespace PL.RTT
open PySem PySem.Spec PyProof.Rows RT
end PL.RTT
namespace PL
open PySem PySem.Spec PyProof.Rows L2 RT
section
variable {X : Cx}
variable {cs : Nat → Addr} {W : WX} {e : Expr}
def gTupRev : D → R D
  | .tup (d :: ds) => .ok (.tup (d :: ds).reverse)
  | _ => .stuck
end
end PL
set_option Elab.async false
set_option linter.all false
set_option maxRecDepth 100000
namespace PL
set_option autoImplicit false
open PySem PySem.Spec PyProof.Rows L2
section
variable {X : Cx} {cs : Nat → Addr} {W : WX} {np : Nat} {a e : Expr} {es : List Expr} {f : Ev D} {ps : List Tp} {pos p pos' : Pos} {x : Str}
def eTpO (ps : List Tp) : Ev OT := fun ρ => (tpS ps ρ).bind fun l => if l.length ≤ LIM then .ok (.node .tup l) else .stuck
def lcGoO (ρ : List Sl) (ft : D → R (List (Nat × D))) (fc : Ev Bool) (fe : Ev OT) : List D → R (List OT)
  | [] => .ok []
  | d :: ds => (ft d).bind fun as => (noX (fc (setS ρ as))).bind fun k => if k = true then (noX (fe (setS ρ as))).bind fun y => (lcGoO ρ ft fc fe ds).bind fun ys => .ok (y :: ys) else lcGoO ρ ft fc fe ds
def eLcO (vs : List Nat) (fi : Ev (List D)) (ft : D → R (List (Nat × D))) (fc : Ev Bool) (fe : Ev OT) : Ev OT := fun ρ => (fi ρ).bind fun ds => if ds.length ≤ LIM then (noX (lcGoO (wipeS ρ vs) ft fc fe ds)).bind fun ys => .ok (.node .lst ys) else .stuck
theorem RepOs.append {K : PySem.W.Frag} {Φ H : Hp} : ∀ {xs : List OT} {vs : List V} {ys : List OT} {us : List V}, RepOs K Φ H xs vs → RepOs K Φ H ys us → RepOs K Φ H (xs ++ ys) (vs ++ us) ∧ fpOs H (xs ++ ys) (vs ++ us) = fpOs H xs vs ++ fpOs H ys us
  | _, _, _, _, .nil, s => ⟨s, by rw [fpOs_nil]; rfl⟩
  | _, _, _, _, .cons (x := x) (v := v) (xs := xs) (vs := vs) h r, s => by
    obtain ⟨w1, w2⟩ := RepOs.append r s
    exact ⟨.cons h w1, by rw [List.cons_append, List.cons_append, fpOs_cons, fpOs_cons, w2, List.append_assoc]⟩
end
end PL
set_option Elab.async false
set_option linter.all false
set_option maxRecDepth 100000
namespace PL
set_option autoImplicit false
open PySem PySem.Spec PyProof.Rows L2
section
variable {X : Cx} {cs : Nat → Addr} {W : WX} {np : Nat} {e2 : Expr} {f : Ev OT} {pos p pos' : Pos} {y : Str}
def retMN (j : Nat) (f : Ev OT) : Es := fun ρ => match ownL ρ[j]? with
  | some ds => tryE ρ (f ρ) fun o => .rt (.big (.node .tup [.lst ds, o])) (ρ.set j .emp)
  | none => .stuck
end
end PL
set_option Elab.async false
set_option linter.all false
set_option maxRecDepth 100000
namespace PL
set_option autoImplicit false
open PySem PySem.Spec PyProof.Rows L2
end PL
set_option Elab.async false
set_option linter.all false
set_option maxRecDepth 100000
set_option maxHeartbeats 1000000
namespace PL
set_option autoImplicit false
open PySem PySem.Spec PyProof.Rows L2
theorem RepOs.length {K : PySem.W.Frag} {Φ H : Hp} : ∀ {ys : List OT} {us : List V}, RepOs K Φ H ys us → ys.length = us.length
  | _, _, .nil => rfl
  | _, _, .cons _ r => by rw [List.length_cons, List.length_cons, RepOs.length r]
end PL
set_option Elab.async false
set_option linter.all false
set_option maxRecDepth 100000
namespace PL
set_option autoImplicit false
open PySem PySem.Spec PyProof.Rows L2
section
variable {X : Cx} {cs : Nat → Addr} {W : WX} {e : Expr}
def lendNB (i : Nat) (f : Ev D) : Ev D := fun ρ => (f (frzB ρ i)).bind fun d => if d.flatL = true then .ok d else .stuck
end
end PL
set_option Elab.async false
set_option linter.all false
set_option maxRecDepth 100000
set_option maxHeartbeats 1000000
namespace PL
set_option autoImplicit false
open PySem PySem.Spec PyProof.Rows L2
section
variable {K : PySem.W.Frag} {Φ H : Hp}
theorem part_swap : ∀ {xs : List OT} {us : List V} {i : Nat} {o : OT}, RepOs K Φ H xs us → (fpOs H xs us).Nodup → xs[i]? = some o →
    ∃ v0, us[i]? = some v0 ∧ RepO K Φ H o v0 ∧ (fpO H o v0).Nodup ∧ (∀ b ∈ fpO H o v0, b ∈ fpOs H xs us) ∧
      ∀ Φ' H' o', Same Φ Φ' → (∀ b ∈ fpOs H xs us, b ∉ fpO H o v0 → ∀ ho, H b = some ho → H' b = some ho) → RepO K Φ' H' o' v0 → (fpO H' o' v0).Nodup → (∀ b ∈ fpO H' o' v0, b ∈ fpO H o v0 ∨ H b = none) →
        RepOs K Φ' H' (xs.set i o') us ∧ (fpOs H' (xs.set i o') us).Nodup ∧ ∀ b ∈ fpOs H' (xs.set i o') us, b ∈ fpO H' o' v0 ∨ (b ∈ fpOs H xs us ∧ b ∉ fpO H o v0)
  | _, _, i, _, .nil, _, e => by simp at e
  | _, _, 0, o, .cons (x := x) (v := v) (xs := xs) (vs := vs) h r, nd, e => by
    simp only [List.getElem?_cons_zero, Option.some.injEq] at e
    subst e
    rw [fpOs_cons] at nd
    obtain ⟨n1, n2, n3⟩ := List.nodup_append.mp nd
    refine ⟨v, rfl, h, n1, fun b hb => by rw [fpOs_cons]; exact List.mem_append_left _ hb, fun Φ' H' o' m hk ho' hn hf => ?_⟩
    obtain ⟨w1, w2⟩ := RepOs.at (H' := H') m r fun b hb ho hh => hk b (by rw [fpOs_cons]; exact List.mem_append_right _ hb) (fun z => n3 b z b hb rfl) ho hh
    rw [List.set_cons_zero]
    refine ⟨.cons ho' w1, ?_, fun b hb => ?_⟩
    · rw [fpOs_cons, w2]
      refine List.nodup_append.mpr ⟨hn, n2, fun b hb c hc z => ?_⟩
      subst z
      rcases hf b hb with w | w
      · exact n3 b w b hc rfl
      · obtain ⟨ho, hh⟩ := RepOs.there r b hc
        rw [w] at hh; cases hh
    · rw [fpOs_cons, w2] at hb
      rcases List.mem_append.mp hb with hb | hb
      · exact .inl hb
      · exact .inr ⟨by rw [fpOs_cons]; exact List.mem_append_right _ hb, fun z => n3 b z b hb rfl⟩
  | _, _, i + 1, o, .cons (x := x) (v := v) (xs := xs) (vs := vs) h r, nd, e => by
    rw [fpOs_cons] at nd
    obtain ⟨n1, n2, n3⟩ := List.nodup_append.mp nd
    obtain ⟨v0, g1, g2, g3, g4, g5⟩ := part_swap (i := i) (o := o) r n2 (by simpa using e)
    refine ⟨v0, by simpa using g1, g2, g3, fun b hb => by rw [fpOs_cons]; exact List.mem_append_right _ (g4 b hb), fun Φ' H' o' m hk ho' hn hf => ?_⟩
    obtain ⟨w1, w2, w3⟩ := g5 Φ' H' o' m (fun b hb => hk b (by rw [fpOs_cons]; exact List.mem_append_right _ hb)) ho' hn hf
    obtain ⟨w4, w5⟩ := RepO.at (H' := H') m h fun b hb ho hh => hk b (by rw [fpOs_cons]; exact List.mem_append_left _ hb) (fun z => n3 b hb b (g4 b z) rfl) ho hh
    rw [List.set_cons_succ]
    refine ⟨.cons w4 w1, ?_, fun b hb => ?_⟩
    · rw [fpOs_cons, w5]
      refine List.nodup_append.mpr ⟨n1, w2, fun b hb c hc z => ?_⟩
      subst z
      rcases w3 b hc with w | ⟨w, _⟩
      · rcases hf b w with w | w
        · exact n3 b hb b (g4 b w) rfl
        · obtain ⟨ho, hh⟩ := RepO.there h b hb
          rw [w] at hh; cases hh
      · exact n3 b hb b w rfl
    · rw [fpOs_cons, w5] at hb
      rcases List.mem_append.mp hb with hb | hb
      · exact .inr ⟨by rw [fpOs_cons]; exact List.mem_append_left _ hb, fun z => n3 b hb b (g4 b z) rfl⟩
      · rcases w3 b hb with w | ⟨w, w'⟩
        · exact .inl w
        · exact .inr ⟨by rw [fpOs_cons]; exact List.mem_append_right _ w, w'⟩
/-- the callee's slots: a thing, then frozen data -/
theorem partFrame {o : OT} {v0 : V} {ds : List D} {vs : List V} (s : Same Φ H) (h : RepO K Φ H o v0) (hf : ∀ b ∈ fpO H o v0, Φ b = none) (hn : (fpO H o v0).Nodup) (hd : RepDs K Φ ds vs) :
    Rel K Φ H (vS (v0 :: vs)) (.big o :: ds.map .val) ∧ ∀ i b, OwnAt H (vS (v0 :: vs)) (.big o :: ds.map .val) i b → i = 0 ∧ b ∈ fpO H o v0 := by
  have ow : ∀ i b, OwnAt H (vS (v0 :: vs)) (.big o :: ds.map .val) i b → i = 0 ∧ b ∈ fpO H o v0 := fun i b ⟨t, u, h1, h2, h3⟩ => by
    match i with
    | 0 => cases h1; cases h2; exact ⟨rfl, h3⟩
    | i + 1 =>
      simp only [List.getElem?_cons_succ, List.getElem?_map] at h1
      cases e : ds[i]? with
      | none => rw [e] at h1; cases h1
      | some d => rw [e] at h1; cases h1; cases h3
  refine ⟨.of s (by simp [hd.length]) (fun i t x h1 h2 => ?_) fun i j b w1 w2 => by rw [(ow i b w1).1, (ow j b w2).1], ow⟩
  match i with
  | 0 =>
    cases h1; cases h2
    exact ⟨_, rfl, h, hf, hn⟩
  | i + 1 =>
    simp only [List.getElem?_cons_succ, List.getElem?_map] at h1
    cases e : ds[i]? with
    | none => rw [e] at h1; cases h1
    | some d =>
      rw [e] at h1; cases h1
      obtain ⟨v, g1, g2⟩ := hd.get e
      simp [g1] at h2
      exact ⟨v, h2.symm, g2⟩
end
def lstOf : Option Sl → Option (List OT)
  | some (.big (.node .lst xs)) => some xs
  | _ => none
theorem lstOf_some {s : Option Sl} {xs : List OT} (h : lstOf s = some xs) : s = some (.big (.node .lst xs)) := by
  unfold lstOf at h
  split at h
  · cases h; rfl
  · cases h
def ixO (xs : List OT) : D → Option (Nat × OT)
  | .int k => (ixN xs.length k).bind fun n => (xs[n]?).map fun o => (n, o)
  | _ => none
theorem ixO_some {xs : List OT} {d : D} {q : Nat × OT} (h : ixO xs d = some q) : ∃ k, d = .int k ∧ ixN xs.length k = some q.1 ∧ xs[q.1]? = some q.2 := by
  unfold ixO at h
  split at h
  · next k =>
    obtain ⟨n, h1, h2⟩ := Option.bind_eq_some_iff.mp h
    obtain ⟨o, h3, h4⟩ := Option.map_eq_some_iff.mp h2
    subst h4
    exact ⟨k, rfl, h1, h3⟩
  · cases h
def callPX (j : Nat) (fi : Ev D) (fs : Ev (List D)) (G : Fn) : Es := fun ρ => match lstOf ρ[j]? with
  | some xs => tryE ρ (fi ρ) fun d => match ixO xs d with
    | some q => tryE ρ (fs ρ) fun ds => match G (.big q.2 :: ds.map .val) with
      | .ok (.val r) (.big o' :: _) => .rt (.val r) (ρ.set j (.big (.node .lst (xs.set q.1 o'))))
      | _ => .stuck
    | none => .stuck
  | none => .stuck
section
variable {X : Cx} {cs : Nat → Addr} {W : WX} {np : Nat} {e : Expr} {es : List Expr} {fi : Ev D} {fs : Ev (List D)} {pos p py spos cpos : Pos} {x y : Str} {ix : Expr}
theorem sx_callP {k n : Nat} {fa : Addr} {fd : FuncData} {ps : List Str} {G : Fn} (j : Nat) (F : FnOk X.prog X.w X.K X.mg X.base (L2.CX X.prog X.w) k fa fd ps (spG X.K cs n G)) (hr : Room k X.A) (hg : Gl X x) (hm : X.mg x = some (.ref fa)) (hk : PySem.W.keepIn X.K (.ref fa) = true) (hb : Binds X.K fd ps [])
    (tk : Takes X W) (hi : SV X cs W ix fi) (ha : SAd X cs W es fs) (hl : ∀ ρ ds, fs ρ = .ok ds → ds.length + 1 = n)
    (hN : X.N[j]? = some y := by rfl) (hv : Vis X.env.scope y := by first | exact Or.inl rfl | exact Or.inr (Or.inl rfl) | exact Or.inr (Or.inr rfl)) (hd : (y == ("__debug__" : Str)) = false := by decide) (hcd : (y == ("__classdict__" : Str)) = false := by decide)
    (hpi : PlainIx ix := by exact fun _ _ => rfl) (hdb : (x == ("__debug__" : Str)) = false := by decide)
    (he : starEach (.Subscript (.Name y py) ix spos :: es) X.env = (false, eval (.Subscript (.Name y py) ix spos) X.env) :: starEach es X.env := by rfl) (hpl : (backTo cpos (starEach es X.env)).any (·.1) = false := by rfl) :
    SX X cs W (.Call (.Name x p) (.Subscript (.Name y py) ix spos :: es) [] cpos) (callPX j fi fs G) :=
  peImp (pe_callS F hr hg hm hk hb (fun σ => passAt tk σ) (pa_cons (pe_ix ix_seq (pe_var hN hv hd hcd) hi hpi) ha he) hdb he hpl) fun σ H Q ⟨Φ, ρ, r, q⟩ => by
    unfold callPX at q
    split at q
    case h_2 => exact q.elim
    next xs e1 =>
    have es1 := lstOf_some e1
    obtain ⟨v, h1, h2, h3, h4⟩ := r.big j _ es1
    cases h2 with
    | @node a ho _ _ ea kk w =>
    obtain ⟨us, rfl⟩ := kk
    refine ⟨_, h1, Φ, ρ, r, ?_⟩
    cases ei : fi ρ with
    | stuck => rw [ei] at q; exact q.elim
    | exc z => rw [ei] at q; exact fun Φ' H' c dd x y => q Φ' H' c dd (r.stp x) (r.ext x) y
    | ok d =>
    rw [ei] at q
    intro Φ1 H1 b x1 rep
    simp only [tryE] at q
    split at q
    case h_2 => exact q.elim
    next pr e2 =>
    obtain ⟨k0, rfl, g1, g2⟩ := ixO_some e2
    have hbi : b = .int k0 := RepV.int_inv rep
    subst hbi
    have r1 := r.ext x1
    obtain ⟨w1, w2⟩ := RepOs.at (H' := H1) x1.mono w fun b hb ho hh => x1.heap b ho hh
    have hlen : xs.length = us.length := w.length
    rw [fpO_node, kids_at ea] at h4
    obtain ⟨nd1, nd2⟩ := List.nodup_cons.mp h4
    obtain ⟨v0, u1, _⟩ := part_swap w nd2 g2
    have hat : L2.atI us k0 = some v0 := by
      unfold L2.atI
      rw [← hlen, g1]
      exact u1
    refine .inl ⟨a, us, k0, v0, rfl, rfl, SqL.of (x1.heap _ _ ea), hat, Φ1, ρ, r1, ?_⟩
    cases ef : fs ρ with
    | stuck => rw [ef] at q; exact q.elim
    | exc z => rw [ef] at q; exact fun Φ' H' c dd x y => q Φ' H' c dd (r.stp (x1.trans x)) (r.ext (x1.trans x)) y
    | ok ds =>
    rw [ef] at q
    intro Φ2 H2 vs x2 rds
    have rds : RepDs X.K Φ2 ds vs := rds
    have x12 := x1.trans x2
    have r2 := r.ext x12
    have ea2 : H2 a = some (.lst us) := x12.heap _ _ ea
    obtain ⟨vb, z1, z2, z3, z4⟩ := r2.big j _ es1
    rw [h1] at z1; cases z1
    cases z2 with
    | @node _ ho2 _ _ ea' kk2 w2' =>
    rw [ea2] at ea'; cases ea'
    have z3' := z3
    rw [fpO_node, kids_at ea2] at z3 z4
    obtain ⟨m1, m2⟩ := List.nodup_cons.mp z4
    obtain ⟨v0', t1, t2, t3, t4, t5⟩ := part_swap w2' m2 g2
    have ev0 : v0' = v0 := by
      have t1 : us[pr.1]? = some v0' := t1
      have u1 : us[pr.1]? = some v0 := u1
      rw [u1] at t1; cases t1; rfl
    subst ev0
    obtain ⟨rf, ow⟩ := partFrame r2.sub t2 (fun b hb => z3 b (List.mem_cons_of_mem _ (t4 b hb))) t3 rds
    refine ⟨by rw [List.length_cons, ← rds.length]; exact hl ρ ds ef, Φ2, _, rf, ?_⟩
    simp only [] at q
    cases eg : G (.big pr.2 :: ds.map .val) with
    | stuck => rw [eg] at q; exact q.elim
    | exc z fin => rw [eg] at q; exact q.elim
    | ok rr fin =>
      rw [eg] at q
      split at q
      case h_2 => exact q.elim
      next dr o' rest heq =>
      cases heq
      intro Φ3 H3 v3 s3 r3
      have repd : RepD X.K Φ3 dr v3 := r3.last
      obtain ⟨vc, c1, c2, c3, c4⟩ := r3.big 0 o' rfl
      have evc : vc = v0' := by simpa [vS] using c1.symm
      subst evc
      have P0 : ∀ b, Own H2 (vS (vc :: vs)) (.big pr.2 :: ds.map .val) b → b ∈ fpO H2 pr.2 vc := fun b ⟨i, w⟩ => (ow i b w).2
      have inO : ∀ b ∈ fpO H3 o' vc, Own H3 (vS (vc :: vs) ++ [some v3]) (.big o' :: rest ++ [.val dr]) b := fun b hb => ⟨0, .big o', vc, rfl, c1, hb⟩
      have fresh : ∀ b ∈ fpO H3 o' vc, b ∈ fpO H2 pr.2 vc ∨ H2 b = none := fun b hb => (s3.own b (inO b hb)).imp (P0 b) id
      obtain ⟨y1, y2, y3⟩ := t5 Φ3 H3 o' s3.mono (fun b _ hb ho hh => s3.frame b ho hh fun z => hb (P0 b z)) c2 c4 fresh
      have na : ¬ Own H2 (vS (vc :: vs)) (.big pr.2 :: ds.map .val) a := fun z => m1 (t4 a (P0 a z))
      have ea3 : H3 a = some (.lst us) := s3.frame _ _ ea2 na
      have keepN : ∀ b u, Φ2 b = none → H2 b = some u → b ∉ fpO H2 pr.2 vc → Φ3 b = none := fun b u h0 hu hb => by
        cases z : Φ3 b with
        | none => rfl
        | some u' =>
          rcases s3.new b u' z with w | w | w
          · rw [h0] at w; cases w
          · exact absurd (P0 b w) hb
          · rw [hu] at w; cases w
      have fpn : fpO H3 (.node .lst (xs.set pr.1 o')) (.ref a) = a :: fpOs H3 (xs.set pr.1 o') us := by rw [fpO_node, kids_at ea3]; rfl
      have fpo : fpO H2 (.node .lst xs) (.ref a) = a :: fpOs H2 xs us := by rw [fpO_node, kids_at ea2]; rfl
      obtain ⟨R, S⟩ := r2.mutG (i := j) (Φ' := Φ3) (H' := H3) (s' := .big (.node .lst (xs.set pr.1 o'))) es1 h1 s3.mono r3.sub
        (fun b o hh nb => s3.frame b o hh fun z => nb (show b ∈ fpO H2 _ _ by rw [fpo]; exact List.mem_cons_of_mem _ (t4 b (P0 b z))))
        (fun b o hh => by
          rcases s3.new b o hh with w | w | w
          · exact .inl w
          · exact .inr (.inr (show b ∈ fpO H2 _ _ by rw [fpo]; exact List.mem_cons_of_mem _ (t4 b (P0 b w))))
          · exact .inr (.inl w))
        ⟨.ref a, rfl, .node ea3 ⟨us, rfl⟩ y1, fun b hb => by
          rw [fpn] at hb
          rcases List.mem_cons.mp hb with rfl | hb
          · exact keepN b _ (z3 b List.mem_cons_self) ea2 fun z => m1 (t4 b z)
          · rcases y3 b hb with w | ⟨w, w'⟩
            · exact c3 b w
            · obtain ⟨u, hu⟩ := RepOs.there w2' b w
              exact keepN b u (z3 b (List.mem_cons_of_mem _ w)) hu w', by
          rw [fpn]
          refine List.nodup_cons.mpr ⟨fun hb => ?_, y2⟩
          rcases y3 a hb with w | ⟨w, _⟩
          · rcases fresh a w with w | w
            · exact m1 (t4 a w)
            · rw [ea2] at w; cases w
          · exact m1 w⟩
        (fun b hb => by
          have hb : b ∈ fpO H3 (.node .lst (xs.set pr.1 o')) (.ref a) := hb
          rw [fpn] at hb
          rcases List.mem_cons.mp hb with rfl | hb
          · exact .inl (show b ∈ fpO H2 _ _ by rw [fpo]; exact List.mem_cons_self)
          · rcases y3 b hb with w | ⟨w, _⟩
            · rcases fresh b w with w | w
              · exact .inl (show b ∈ fpO H2 _ _ by rw [fpo]; exact List.mem_cons_of_mem _ (t4 b w))
              · exact .inr w
            · exact .inl (show b ∈ fpO H2 _ _ by rw [fpo]; exact List.mem_cons_of_mem _ w))
      have st := (r.stp x12).trans S
      exact q Φ3 H3 v3 ⟨st.mono, st.frame, fun b p => st.own b (ownPush R.len p), st.new⟩ (R.push repd)
/-- the answer is dropped -/
def dropX (f : Es) : Es := fun ρ => dK (f ρ) fun _ ρ' => .nx ρ'
theorem ss_dropX {f : Es} (h : SX X cs W e f) (hs : swapsWith e none pos.line X.env = pure false := by rfl) : SS X cs W np (.Expr e pos) (dropX f) :=
  psImp (ps_expr h hs) fun D' σ H ⟨Φ, ρ, r, q⟩ => tX.bindS r q fun Φ1 H1 ρ1 d v r1 _ _ q => q.nx0 r1
end
end PL
set_option Elab.async false
set_option linter.all false
set_option maxRecDepth 100000
set_option maxHeartbeats 1000000
namespace PL
set_option autoImplicit false
open PySem PySem.Spec PyProof.Rows L2
def ePmP (j : Nat) (fi : Ev D) (G : List Sl → R D) : Ev D := fun ρ => match lstOf ρ[j]? with
  | some xs => (fi ρ).bind fun d => match ixO xs d with
    | some q => (match logOf (some (.big q.2)) with
      | some l => G [.big (logO l.1 l.2)]
      | none => .stuck)
    | none => .stuck
  | none => .stuck
section
variable {K : PySem.W.Frag} {Φ H Φ1 H1 : Hp} {σ : L2.St} {ρ : List Sl}
/-- the part, as a callee sees it -/
theorem partAt {j : Nat} {xs : List OT} {a : Addr} {us : List V} {n : Nat} {o : OT} (r : Rel K Φ H σ ρ) (es1 : ρ[j]? = some (.big (.node .lst xs))) (h1 : σ[j]? = some (some (.ref a))) (ea : H a = some (.lst us)) (g2 : xs[n]? = some o) :
    ∃ v0, us[n]? = some v0 ∧ RepO K Φ H o v0 ∧ Rel K Φ H (vS [v0]) [.big o] := by
  obtain ⟨vb, z1, z2, z3, z4⟩ := r.big j _ es1
  rw [h1] at z1; cases z1
  cases z2 with
  | @node _ ho2 _ _ ea' kk2 w2' =>
  rw [ea] at ea'; cases ea'
  rw [fpO_node, kids_at ea] at z3 z4
  obtain ⟨m1, m2⟩ := List.nodup_cons.mp z4
  obtain ⟨v0, t1, t2, t3, t4, _⟩ := part_swap w2' m2 g2
  exact ⟨v0, t1, t2, (partFrame (ds := []) (vs := []) r.sub t2 (fun b hb => z3 b (List.mem_cons_of_mem _ (t4 b hb))) t3 .nil).1⟩
end
section
variable {X : Cx} {cs : Nat → Addr} {W : WX} {np : Nat} {e : Expr} {es : List Expr} {fi : Ev D} {fs : Ev (List D)} {pos p py spos cpos apos pos' : Pos} {x y m : Str} {ix : Expr}
variable {k n : Nat} {fa : Addr} {fd : FuncData} {ps : List Str} {G : List Sl → R D}
theorem sn_pmP (j : Nat) (L : LogF X.K) (F : FnOk X.prog X.w X.K X.mg X.base (L2.CX X.prog X.w) k fa fd ps (spPN X.K cs 1 G)) (hr : Room k X.A) (hM : Meth X.K (logC X.K) m fa) (hb : Binds X.K fd ps []) (tk : Takes X W) (hne : ∀ b, m ≠ fldS b) (hi : SV X cs W ix fi)
    (hN : X.N[j]? = some y := by rfl) (hv : Vis X.env.scope y := by first | exact Or.inl rfl | exact Or.inr (Or.inl rfl) | exact Or.inr (Or.inr rfl)) (hdb : (y == ("__debug__" : Str)) = false := by decide) (hcd : (y == ("__classdict__" : Str)) = false := by decide)
    (hpi : PlainIx ix := by exact fun _ _ => rfl)
    {pl : Sem Bool}
    (ht : eval (.Call (.Attribute (.Subscript (.Name y py) ix spos) m apos) [] [] cpos) X.env = (do
      let ov ← eval (.Subscript (.Name y py) ix spos) X.env
      standAt apos.atName
      let (f, first) ← holding [ov] (getMethod ov m pl)
      callWith cpos f first (backTo cpos (starEach [] X.env)) (backToKw cpos (keywordEach [] X.env))) := by rfl) :
    SN X cs W (.Call (.Attribute (.Subscript (.Name y py) ix spos) m apos) [] [] cpos) (ePmP j fi G) :=
  peImp (pe_methSs0 (E := WE W) (pl := pl) (pe_ix ix_seq (pe_var hN hv hdb hcd) hi hpi) L.cls hM F hr hb (fun σ => passAt tk σ) ht) fun σ H Q ⟨Φ, ρ, r, q⟩ => by
    unfold ePmP at q
    split at q
    case h_2 => exact q.elim
    next xs e1 =>
    have es1 := lstOf_some e1
    obtain ⟨v, h1, h2, h3, h4⟩ := r.big j _ es1
    cases h2 with
    | @node a ho _ _ ea kk w =>
    obtain ⟨us, rfl⟩ := kk
    refine ⟨_, h1, Φ, ρ, r, ?_⟩
    cases ei : fi ρ with
    | stuck => rw [ei] at q; exact q.elim
    | exc z => rw [ei] at q; exact q
    | ok d =>
    rw [ei] at q
    intro Φ1 H1 b x1 rep
    simp only [R.bind] at q
    split at q
    case h_2 => exact q.elim
    next pr e2 =>
    obtain ⟨k0, rfl, g1, g2⟩ := ixO_some e2
    have hbi : b = .int k0 := RepV.int_inv rep
    subst hbi
    split at q
    case h_2 => exact q.elim
    next l e3 =>
    have e0 : pr.2 = logO l.1 l.2 := by have := logOf_some e3; simpa using this
    have r1 := r.ext x1
    have hlen : xs.length = us.length := w.length
    obtain ⟨v0, u1, u2, u3⟩ := partAt r1 es1 h1 (x1.heap _ _ ea) g2
    rw [e0] at u2 u3
    have hat : L2.atI us k0 = some v0 := by
      unfold L2.atI
      rw [← hlen, g1]
      exact u1
    obtain ⟨a2, dx, fs2, hva, e4, hl⟩ := logName (m := m) u2 hne
    refine .inl ⟨a, us, k0, v0, rfl, rfl, SqL.of (x1.heap _ _ ea), hat, a2, dx, fs2, hva, e4, hl, rfl, Φ1, _, u3, ?_⟩
    have q := RunN.ext x1 q
    cases eg : G [.big (logO l.1 l.2)] with
    | ok d => rw [eg] at q; exact q
    | exc z => rw [eg] at q; exact q
    | stuck => rw [eg] at q; exact q
end
def eMk (G : Fn) (fs : Ev (List D)) : Ev OT := fun ρ => (fs ρ).bind fun ds => match G (.big (.node (.obj []) []) :: ds.map .val) with
  | .ok (.val .non) (.big o :: _) => .ok o
  | _ => .stuck
section
variable {X : Cx} {cs : Nat → Addr} {W : WX} {np : Nat} {e e1 e2 : Expr} {es : List Expr} {fs : Ev (List D)} {f1 f2 : Ev OT} {pos p cpos : Pos}
theorem snb_make {k n : Nat} {fa : Addr} {fd : FuncData} {ps : List Str} {G : Fn} (M : Mk X.K (logC X.K) fa) (F : FnOk X.prog X.w X.K X.mg X.base (L2.CX X.prog X.w) k fa fd ps (spG X.K cs n G)) (hr : Room (k + 1) X.A) (hg : Gl X "Log") (hm : X.mg "Log" = some (.ref (logC X.K))) (hb : Binds X.K fd ps [])
    (ha : SAd X cs W (e :: es) fs) (hl : ∀ ρ ds, fs ρ = .ok ds → ds.length + 1 = n)
    (he : starEach (e :: es) X.env = (false, eval e X.env) :: starEach es X.env := by rfl) (hpl : (backTo cpos (starEach es X.env)).any (·.1) = false := by rfl) :
    SNB X cs W (.Call (.Name "Log" p) (e :: es) [] cpos) (eMk G fs) :=
  peImp (pe_make (E := fun _ _ _ => False) M F hr hg hm hb (dvs := []) (ds := []) .nil (fun pins σ H s e s' _ h => (no_cx _ _ _ _ h).elim) ha (by decide) he hpl) fun σ H Q ⟨Φ, ρ, r, q⟩ => by
    refine ⟨Φ, ρ, r, ?_⟩
    unfold eMk at q
    cases e1 : fs ρ with
    | stuck => rw [e1] at q; exact q.elim
    | exc z => rw [e1] at q; exact q
    | ok ds =>
      rw [e1] at q
      intro Φ1 H1 vs x1 rep
      refine fun yA dx hy hd hne => ?_
      have r1 := r.ext x1
      rw [List.append_nil]
      have rep' : RepDs X.K Φ1 ds vs := rep
      obtain ⟨rn, on⟩ := newObj (K := X.K) r1.sub rep' hy hd hne
      refine ⟨by rw [List.length_cons, ← rep'.length]; exact hl ρ ds e1, Φ1, _, rn, ?_⟩
      simp only [R.bind] at q
      cases eg : G (.big (.node (.obj []) []) :: ds.map .val) with
      | stuck => rw [eg] at q; exact q.elim
      | exc z fin => rw [eg] at q; exact q.elim
      | ok rr fin =>
        rw [eg] at q
        split at q
        case h_2 => exact q.elim
        next o rest heq =>
        cases heq
        intro Φ2 H2 v s2 r2
        have hvn : v = .non := by have := r2.last; cases this; rfl
        subst hvn
        refine ⟨rfl, ?_⟩
        have fr : ∀ b, Own (upd (upd H1 dx (.own yA)) yA (.ins (logC X.K) dx [])) (vS (.ref yA :: vs)) (.big (.node (.obj []) []) :: ds.map .val) b ∨ upd (upd H1 dx (.own yA)) yA (.ins (logC X.K) dx []) b = none → H1 b = none := fun b h => by
          rcases h with h | h
          · rw [on b h]; exact hy
          · cases z : H1 b with
            | none => rfl
            | some u => rw [upd_ne (ne_of_none z hy), upd_ne (ne_of_none z hd), z] at h; cases h
        obtain ⟨vc, c1, c2, c3, c4⟩ := r2.big 0 o rfl
        have evc : vc = .ref yA := by simpa [vS] using c1.symm
        subst evc
        have inO : ∀ b ∈ fpO H2 o (.ref yA), Own H2 (vS (.ref yA :: vs) ++ [some .non]) (.big o :: rest ++ [.val .non]) b := fun b hb => ⟨0, .big o, .ref yA, rfl, c1, hb⟩
        refine q Φ2 H2 (.ref yA) ⟨x1.mono.trans s2.mono, fun b u hu => ?_, r2.sub, fun b u hu => ?_⟩ c2 (fun b hb => ⟨x1.heap.free (fr b (s2.own b (inO b hb))), c3 b hb⟩) c4
        · have hu1 := x1.heap b u hu
          have by_ : b ≠ yA := ne_of_none hu1 hy
          have bd : b ≠ dx := ne_of_none hu1 hd
          exact s2.frame b u (by rw [upd_ne by_, upd_ne bd]; exact hu1) fun w => by_ (on b w)
        · rcases s2.new b u hu with z | z | z
          · exact x1.new b u z
          · exact .inr (x1.heap.free (fr b (.inl z)))
          · exact .inr (x1.heap.free (fr b (.inr z)))
def eLst2 (f1 f2 : Ev OT) : Ev OT := fun ρ => (f1 ρ).bind fun o1 => (f2 ρ).bind fun o2 => .ok (.node .lst [o1, o2])
theorem snb_lst2 (h1 : SNB X cs W e1 f1) (h2 : SNB X cs W e2 f2) (g1 : starEach (e1 :: [e2]) X.env = (false, eval e1 X.env) :: starEach [e2] X.env := by rfl) (g2 : starEach (e2 :: []) X.env = (false, eval e2 X.env) :: starEach [] X.env := by rfl) :
    SNB X cs W (.List [e1, e2] pos) (eLst2 f1 f2) := peImp (pe_lst (pa_cons h1 (pa_cons h2 pa_nil g2) g1)) fun σ H Q ⟨Φ, ρ, r, q⟩ => by
  refine ⟨Φ, ρ, r, ?_⟩
  unfold eLst2 at q
  cases ef1 : f1 ρ with
  | stuck => rw [ef1] at q; exact q.elim
  | exc z => rw [ef1] at q; exact q
  | ok o1 =>
  rw [ef1] at q
  intro Φ1 H1 v1 x1 rep1 hb1 nd1
  refine ⟨Φ1, ρ, r.ext x1, ?_⟩
  simp only [R.bind] at q
  cases ef2 : f2 ρ with
  | stuck => rw [ef2] at q; exact q.elim
  | exc z => rw [ef2] at q; exact fun Φ' H' c dd y hx => q Φ' H' c dd (x1.trans y) hx
  | ok o2 =>
  rw [ef2] at q
  intro Φ2 H2 v2 x2 rep2 hb2 nd2
  refine ⟨by show 2 ≤ sizeLine; decide, fun p hp => ?_⟩
  have xa : Ext Φ2 H2 Φ2 (upd H2 p (.lst [v1, v2])) := Ext.alloc x2.sub hp
  obtain ⟨w1, w2⟩ := rep1.at (H' := upd H2 p (.lst [v1, v2])) (x2.mono.trans xa.mono) fun b hb ho hh => xa.heap _ _ (x2.heap _ _ hh)
  obtain ⟨w3, w4⟩ := rep2.at (H' := upd H2 p (.lst [v1, v2])) xa.mono fun b hb ho hh => xa.heap _ _ hh
  have fpn : fpO (upd H2 p (.lst [v1, v2])) (.node .lst [o1, o2]) (.ref p) = p :: (fpO H1 o1 v1 ++ fpO H2 o2 v2) := by
    rw [fpO_node, kids_at upd_same]
    show p :: fpOs _ [o1, o2] [v1, v2] = _
    rw [fpOs_cons, fpOs_cons, fpOs_nil, List.append_nil, w2, w4]
  have n1 : ∀ b ∈ fpO H1 o1 v1, Φ2 b = none := fun b hb => by
    cases z : Φ2 b with
    | none => rfl
    | some u =>
      rcases x2.new b u z with w | w
      · rw [(hb1 b hb).2] at w; cases w
      · obtain ⟨ho, hh⟩ := rep1.there b hb
        rw [hh] at w; cases w
  have hp1 : H1 p = none := x2.heap.free hp
  have hp0 : ∀ b, b ∈ fpO H1 o1 v1 ++ fpO H2 o2 v2 → b ≠ p := fun b hb z => by
    subst z
    rcases List.mem_append.mp hb with hb | hb
    · obtain ⟨ho, hh⟩ := rep1.there b hb
      rw [hp1] at hh; cases hh
    · obtain ⟨ho, hh⟩ := rep2.there b hb
      rw [hp] at hh; cases hh
  refine q Φ2 _ (.ref p) ((x1.trans x2).trans xa) (.node upd_same ⟨_, rfl⟩ (.cons w1 (.cons w3 .nil))) (fun b hb => ?_) ?_
  · rw [fpn] at hb
    rcases List.mem_cons.mp hb with rfl | hb
    · exact ⟨x1.heap.free hp1, x2.sub.free hp⟩
    · rcases List.mem_append.mp hb with hb | hb
      · exact ⟨(hb1 b hb).1, n1 b hb⟩
      · exact ⟨x1.heap.free (hb2 b hb).1, (hb2 b hb).2⟩
  · rw [fpn]
    refine List.nodup_cons.mpr ⟨fun hb => hp0 p hb rfl, List.nodup_append.mpr ⟨nd1, nd2, fun b hb c hc z => ?_⟩⟩
    subst z
    obtain ⟨ho, hh⟩ := rep1.there b hb
    rw [(hb2 b hc).1] at hh; cases hh
end
end PL
set_option Elab.async false
set_option linter.all false
set_option maxRecDepth 100000
namespace PL
set_option autoImplicit false
open L2
def limR {α : Type} (n : Nat) (r : R α) : R α := if n ≤ LIM then r else .stuck
theorem tr {α : Type} {a b : α} (h : a = b) : a = b := h
@[simp] theorem limR_ok {α : Type} (n : Nat) (r : R α) (h : n ≤ 1000000) : limR n r = r := if_pos h
@[simp] theorem gIx_tup (ds : List D) (i : Int) : gIx (.tup ds) (.int i) = oR (L2.atI ds i) := tr rfl
@[simp] theorem gIx_lst (ds : List D) (i : Int) : gIx (.lst ds) (.int i) = oR (L2.atI ds i) := tr rfl
@[simp] theorem gIx_scr (ns : List Int) (i : Int) : gIx (.scr ns) (.int i) = oR (L2.atI (ns.map D.int) i) := tr rfl
@[simp] theorem gIx_str (s : List Nat) (i : Int) (h : s.length ≤ 1000000) : gIx (.str s) (.int i) = (oR (L2.atI s i)).bind fun c => .ok (.str [c]) := if_pos h
@[simp] theorem gEq_ii (i j : Int) : gEq (.int i) (.int j) = .ok (decide (i = j)) := tr rfl
@[simp] theorem gEq_ss (i j : List Nat) : gEq (.str i) (.str j) = .ok (decide (i = j)) := tr rfl
@[simp] theorem gEq_bb (i j : Bool) : gEq (.bl i) (.bl j) = .ok (decide (i = j)) := tr rfl
@[simp] theorem gNe_ii (i j : Int) : gNe (.int i) (.int j) = .ok (!decide (i = j)) := tr rfl
@[simp] theorem gNe_ss (i j : List Nat) : gNe (.str i) (.str j) = .ok (!decide (i = j)) := tr rfl
@[simp] theorem gNe_bb (i j : Bool) : gNe (.bl i) (.bl j) = .ok (!decide (i = j)) := tr rfl
@[simp] theorem gCmp_ii (p : Int → Int → Bool) (i j : Int) : gCmp p (.int i) (.int j) = .ok (p i j) := tr rfl
@[simp] theorem gAdd_ii (i j : Int) : gAdd (.int i) (.int j) = .ok (.int (i + j)) := tr rfl
@[simp] theorem gAdd_ss (x y : List Nat) (h : x.length + y.length ≤ 1000000) : gAdd (.str x) (.str y) = .ok (.str (x ++ y)) := if_pos h
@[simp] theorem gAdd_ll (x y : List D) (h : x.length + y.length ≤ 1000000) : gAdd (.lst x) (.lst y) = .ok (.lst (x ++ y)) := if_pos h
@[simp] theorem gAdd_tt (x y : List D) (h : x.length + y.length ≤ 1000000) : gAdd (.tup x) (.tup y) = .ok (.tup (x ++ y)) := if_pos h
@[simp] theorem gCat_ll (x y : List D) (h : x.length + y.length ≤ 1000000) : gCat (.lst x) (.lst y) = .ok (.lst (x ++ y)) := if_pos h
@[simp] theorem gSub_ii (i j : Int) : gSub (.int i) (.int j) = .ok (.int (i - j)) := tr rfl
theorem gMul_ok {i j : Int} (h : MulOk i j = true) : gMulI (.int i) (.int j) = .ok (.int (i * j)) := if_pos h
theorem mulOk_l {i j : Int} (h : i.natAbs < 2 ^ 64) : MulOk i j = true := by simp [MulOk, h]
theorem mulOk_r {i j : Int} (h : j.natAbs < 2 ^ 64) : MulOk i j = true := by simp [MulOk, h]
@[simp] theorem gMul_l (i j : Int) (h : -1000000000000 ≤ i) (h2 : i ≤ 1000000000000) : gMulI (.int i) (.int j) = .ok (.int (i * j)) := gMul_ok (mulOk_l (by omega))
@[simp] theorem gMul_r (i j : Int) (h : -1000000000000 ≤ j) (h2 : j ≤ 1000000000000) : gMulI (.int i) (.int j) = .ok (.int (i * j)) := gMul_ok (mulOk_r (by omega))
@[simp] theorem gDiv_ii (i j : Int) (h : 0 < j) (h2 : j < 1073741824) : gDiv (.int i) (.int j) = .ok (.int (i / j)) := if_pos ⟨h, h2⟩
@[simp] theorem gMod_ii (i j : Int) (h : 0 < j) : gMod (.int i) (.int j) = .ok (.int (i % j)) := if_pos h
@[simp] theorem gPow_ii (i j : Int) (h : 0 ≤ j ∧ j ≤ 1000000 ∧ i.natAbs < 2 ^ 64) : gPow (.int i) (.int j) = .ok (.int (i ^ j.toNat)) := if_pos h
theorem gShl_ok {i j : Int} (h : 0 ≤ j) (h2 : j ≤ 1000000) (h3 : i.natAbs < 2 ^ 10000) : gShl (.int i) (.int j) = .ok (.int (i * 2 ^ j.toNat)) := if_pos ⟨h, h2, h3⟩
@[simp] theorem gShr_ii (i j : Int) (h : 0 ≤ j) : gShr (.int i) (.int j) = .ok (.int (i / 2 ^ j.toNat)) := if_pos h
@[simp] theorem gAnd_ii (i j : Int) : gAnd (.int i) (.int j) = .ok (.int (PySem.Builtin.bitAnd i j)) := tr rfl
@[simp] theorem gOr_ii (i j : Int) : gOr (.int i) (.int j) = .ok (.int (PySem.Builtin.bitOr i j)) := tr rfl
@[simp] theorem gXor_ii (i j : Int) : gXor (.int i) (.int j) = .ok (.int (PySem.Builtin.bitXor i j)) := tr rfl
@[simp] theorem gNeg_i (i : Int) : gNeg (.int i) = .ok (.int (-i)) := tr rfl
@[simp] theorem gLen_str (s : List Nat) (h : s.length ≤ 1000000) : gLen [.str s] = .ok (.int s.length) := if_pos h
@[simp] theorem gLen_tup (s : List D) : gLen [.tup s] = .ok (.int s.length) := tr rfl
@[simp] theorem gLen_lst (s : List D) : gLen [.lst s] = .ok (.int s.length) := tr rfl
@[simp] theorem gLen_scr (s : List Int) : gLen [.scr s] = .ok (.int s.length) := by simp [gLen, D.items, oR, R.bind]
@[simp] theorem gIntOf_i (i : Int) : gIntOf [.int i] = .ok (.int i) := tr rfl
@[simp] theorem gIntOf_b (k : Bool) : gIntOf [.bl k] = .ok (.int (if k then 1 else 0)) := tr rfl
@[simp] theorem gMax2_ii (i j : Int) : gMax2 [.int i, .int j] = .ok (.int (if j > i then j else i)) := tr rfl
@[simp] theorem gMin2_ii (i j : Int) : gMin2 [.int i, .int j] = .ok (.int (if j < i then j else i)) := tr rfl
@[simp] theorem gTupleOf_t (ds : List D) : gTupleOf [.tup ds] = .ok (.tup ds) := tr rfl
@[simp] theorem gTupleOf_l (ds : List D) : gTupleOf [.lst ds] = .ok (.tup ds) := tr rfl
@[simp] theorem gTupleOf_s (ns : List Int) : gTupleOf [.scr ns] = .ok (.tup (ns.map D.int)) := tr rfl
@[simp] theorem gListOf_t (ds : List D) : gListOf [.tup ds] = .ok (.lst ds) := tr rfl
@[simp] theorem gListOf_l (ds : List D) : gListOf [.lst ds] = .ok (.lst ds) := tr rfl
@[simp] theorem gListOf_s (ns : List Int) : gListOf [.scr ns] = .ok (.lst (ns.map D.int)) := tr rfl
@[simp] theorem andR_b (k : Bool) (x : R D) : andR (.bl k) x = if k = true then x else .ok (.bl false) := by cases k <;> rfl
@[simp] theorem orR_b (k : Bool) (x : R D) : orR (.bl k) x = if k = true then .ok (.bl true) else x := by cases k <;> rfl
@[simp] theorem notR_b (k : Bool) : notR (.bl k) = .ok (.bl (!k)) := tr rfl
@[simp] theorem R_ite {α : Type} (c : Prop) [Decidable c] (a b : α) : (if c then R.ok a else R.ok b) = R.ok (if c then a else b) := by split <;> rfl
@[simp] theorem bl_ite (c : Prop) [Decidable c] (a b : Bool) : (if c then D.bl a else D.bl b) = D.bl (if c then a else b) := by split <;> rfl
@[simp] theorem tBool_b (k : Bool) : tBool (.bl k) = .ok k := tr rfl
theorem atI_of {α : Type} (xs : List α) (j : Nat) (h : j < xs.length) : L2.atI xs (j : Int) = some xs[j] := by
  unfold L2.atI
  rw [ixN_of _ _ h]
  simp [h]
section
variable {α β : Type}
@[simp] theorem bind_ok (a : α) (k : α → R β) : (R.ok a).bind k = k a := tr rfl
@[simp] theorem bind_exc (x : Exn) (k : α → R β) : (R.exc x : R α).bind k = .exc x := tr rfl
@[simp] theorem bind_stuck (k : α → R β) : (R.stuck : R α).bind k = .stuck := tr rfl
@[simp] theorem oR_some (a : α) : oR (some a) = .ok a := tr rfl
@[simp] theorem oR_none : oR (none : Option α) = .stuck := tr rfl
@[simp] theorem noX_ok' (a : α) : noX (.ok a) = .ok a := tr rfl
@[simp] theorem tryE_ok (ρ : List Sl) (a : α) (k : α → RS) : tryE ρ (.ok a) k = k a := tr rfl
@[simp] theorem tryE_exc (ρ : List Sl) (x : Exn) (k : α → RS) : tryE ρ (.exc x) k = .exc x ρ := tr rfl
@[simp] theorem tryE_stuck (ρ : List Sl) (k : α → RS) : tryE ρ .stuck k = .stuck := tr rfl
end
def RS.seq (r : RS) (g : Es) : RS := match r with
  | .nx ρ' => g ρ'
  | r => r
@[simp] theorem seq_nx (ρ : List Sl) (g : Es) : RS.seq (.nx ρ) g = g ρ := tr rfl
@[simp] theorem seq_rt (v : Sl) (ρ : List Sl) (g : Es) : RS.seq (.rt v ρ) g = .rt v ρ := tr rfl
@[simp] theorem seq_bk (ρ : List Sl) (g : Es) : RS.seq (.bk ρ) g = .bk ρ := tr rfl
@[simp] theorem seq_ct (ρ : List Sl) (g : Es) : RS.seq (.ct ρ) g = .ct ρ := tr rfl
@[simp] theorem seq_exc (x : Exn) (ρ : List Sl) (g : Es) : RS.seq (.exc x ρ) g = .exc x ρ := tr rfl
@[simp] theorem seq_stuck (g : Es) : RS.seq .stuck g = .stuck := tr rfl
@[simp] theorem seqS_eq (f g : Es) (ρ : List Sl) : seqS f g ρ = RS.seq (f ρ) g := tr rfl
@[simp] theorem skipS_eq (ρ : List Sl) : skipS ρ = .nx ρ := tr rfl
@[simp] theorem ctS_eq (ρ : List Sl) : ctS ρ = .ct ρ := tr rfl
@[simp] theorem bkS_eq (ρ : List Sl) : bkS ρ = .bk ρ := tr rfl
@[simp] theorem asgS_eq (ft : D → R (List (Nat × D))) (fe : Ev D) (ρ : List Sl) : asgS ft fe ρ = tryE ρ ((fe ρ).bind ft) fun as => .nx (setS ρ as) := tr rfl
@[simp] theorem asgN_eq (i : Nat) (fe : Ev D) (ρ : List Sl) : asgN i fe ρ = tryE ρ (fe ρ) fun d => .nx (ρ.set i (.own d)) := tr rfl
def par2 (i j : Nat) (ρ : List Sl) (ds : List D) : RS := match ds with
  | [x, y] => .nx (setS ρ [(i, x), (j, y)])
  | _ => .stuck
@[simp] theorem par2_eq (i j : Nat) (ρ : List Sl) (x y : D) : par2 i j ρ [x, y] = .nx (setS ρ [(i, x), (j, y)]) := tr rfl
@[simp] theorem parS_eq (i j : Nat) (fs : Ev (List D)) (ρ : List Sl) : parS i j fs ρ = tryE ρ (fs ρ) (par2 i j ρ) := tr rfl
def ifK (f g : Es) (ρ : List Sl) (k : Bool) : RS := if k = true then f ρ else g ρ
@[simp] theorem ifK_t (f g : Es) (ρ : List Sl) : ifK f g ρ true = f ρ := tr rfl
@[simp] theorem ifK_f (f g : Es) (ρ : List Sl) : ifK f g ρ false = g ρ := tr rfl
@[simp] theorem ifS_eq (fc : Ev Bool) (f g : Es) (ρ : List Sl) : ifS fc f g ρ = tryE ρ (fc ρ) (ifK f g ρ) := tr rfl
@[simp] theorem retS_eq (fe : Ev D) (ρ : List Sl) : retS fe ρ = tryE ρ (fe ρ) fun d => .rt (.val d) ρ := tr rfl
@[simp] theorem retN_eq (fe : Ev D) (ρ : List Sl) : retN fe ρ = tryE ρ (fe ρ) fun d => .rt (.own d) ρ := tr rfl
@[simp] theorem retNone_eq (ρ : List Sl) : retNone ρ = .rt (.val .non) ρ := tr rfl
def rtSl (i : Nat) (ρ : List Sl) (s : Option Sl) : RS := match s with
  | some (.val d) => .rt (.val d) ρ
  | some (.own d) => .rt (.own d) (ρ.set i .emp)
  | _ => .stuck
@[simp] theorem rtSl_val (i : Nat) (ρ : List Sl) (d : D) : rtSl i ρ (some (.val d)) = .rt (.val d) ρ := tr rfl
@[simp] theorem rtSl_own (i : Nat) (ρ : List Sl) (d : D) : rtSl i ρ (some (.own d)) = .rt (.own d) (ρ.set i .emp) := tr rfl
@[simp] theorem retV_eq (i : Nat) (ρ : List Sl) : retV i ρ = rtSl i ρ ρ[i]? := tr rfl
def frz1 (ρ : List Sl) (i : Nat) (s : Option Sl) : List Sl := match s with
  | some (.own d) => ρ.set i (.val d)
  | _ => ρ
@[simp] theorem frz1_own (i : Nat) (ρ : List Sl) (d : D) : frz1 ρ i (some (.own d)) = ρ.set i (.val d) := tr rfl
@[simp] theorem frz1_val (i : Nat) (ρ : List Sl) (d : D) : frz1 ρ i (some (.val d)) = ρ := tr rfl
@[simp] theorem frz1_emp (i : Nat) (ρ : List Sl) : frz1 ρ i (some .emp) = ρ := tr rfl
@[simp] theorem frzS_eq (i : Nat) (f : Es) (ρ : List Sl) : frzS i f ρ = f (frz1 ρ i ρ[i]?) := tr rfl
@[simp] theorem e1_eq {α : Type} (g : D → R α) (fa : Ev D) (ρ : List Sl) : e1 g fa ρ = (fa ρ).bind g := tr rfl
@[simp] theorem e2_eq {α : Type} (g : D → D → R α) (fa fb : Ev D) (ρ : List Sl) : e2 g fa fb ρ = (fa ρ).bind fun x => (fb ρ).bind (g x) := tr rfl
def Sl.rd (s : Option Sl) : R D := match s with
  | some (.val d) => .ok d
  | some (.own d) => .ok d
  | _ => .stuck
def Sl.rf (s : Option Sl) : R D := match s with
  | some (.val d) => .ok d
  | _ => .stuck
@[simp] theorem rd_val (d : D) : Sl.rd (some (.val d)) = .ok d := tr rfl
@[simp] theorem rd_own (d : D) : Sl.rd (some (.own d)) = .ok d := tr rfl
@[simp] theorem rf_val (d : D) : Sl.rf (some (.val d)) = .ok d := tr rfl
@[simp] theorem eVar_eq (i : Nat) (ρ : List Sl) : eVar i ρ = Sl.rd ρ[i]? := tr rfl
@[simp] theorem eFrz_eq (i : Nat) (ρ : List Sl) : eFrz i ρ = Sl.rf ρ[i]? := tr rfl
@[simp] theorem eC_eq (d : D) (ρ : List Sl) : eC d ρ = .ok d := tr rfl
@[simp] theorem eBl_eq (f : Ev Bool) (ρ : List Sl) : eBl f ρ = (f ρ).bind fun k => .ok (.bl k) := tr rfl
@[simp] theorem eTup_eq (fs : Ev (List D)) (ρ : List Sl) : eTup fs ρ = (fs ρ).bind fun ds => limR ds.length (.ok (.tup ds)) := tr rfl
@[simp] theorem eLst_eq (fs : Ev (List D)) (ρ : List Sl) : eLst fs ρ = (fs ρ).bind fun ds => limR ds.length (.ok (.lst ds)) := tr rfl
@[simp] theorem aNil_eq (ρ : List Sl) : aNil ρ = .ok [] := tr rfl
@[simp] theorem aCons_eq (fa : Ev D) (fs : Ev (List D)) (ρ : List Sl) : aCons fa fs ρ = (fa ρ).bind fun d => (fs ρ).bind fun ds => .ok (d :: ds) := tr rfl
@[simp] theorem eCall_eq (g : List D → R D) (fs : Ev (List D)) (ρ : List Sl) : eCall g fs ρ = (fs ρ).bind g := tr rfl
def RF.data (r : RF) : R D := match r with
  | .ok (.val d) _ => .ok d
  | .ok (.own d) _ => .ok d
  | .exc x _ => .exc x
  | _ => .stuck
def RF.dataN (r : RF) : R D := match r with
  | .ok (.own d) _ => .ok d
  | .exc x _ => .exc x
  | _ => .stuck
@[simp] theorem data_val (d : D) (l : List Sl) : RF.data (.ok (.val d) l) = .ok d := tr rfl
@[simp] theorem data_own (d : D) (l : List Sl) : RF.data (.ok (.own d) l) = .ok d := tr rfl
@[simp] theorem data_exc (x : Exn) (l : List Sl) : RF.data (.exc x l) = .exc x := tr rfl
@[simp] theorem dataN_own (d : D) (l : List Sl) : RF.dataN (.ok (.own d) l) = .ok d := tr rfl
@[simp] theorem dataN_exc (x : Exn) (l : List Sl) : RF.dataN (.exc x l) = .exc x := tr rfl
@[simp] theorem eFn_eq (G : Fn) (fs : Ev (List D)) (ρ : List Sl) : eFn G fs ρ = (fs ρ).bind fun ds => RF.data (G (ds.map .val)) := tr rfl
@[simp] theorem eFnN_eq (G : Fn) (fs : Ev (List D)) (ρ : List Sl) : eFnN G fs ρ = (fs ρ).bind fun ds => RF.dataN (G (ds.map .val)) := tr rfl
@[simp] theorem eIf_eq (f : Ev Bool) (fa fb : Ev D) (ρ : List Sl) : eIf f fa fb ρ = (f ρ).bind fun k => if k = true then fa ρ else fb ρ := tr rfl
@[simp] theorem eAn_eq (fa fb : Ev D) (ρ : List Sl) : eAn fa fb ρ = (fa ρ).bind fun d => andR d (fb ρ) := tr rfl
@[simp] theorem eOo_eq (fa fb : Ev D) (ρ : List Sl) : eOo fa fb ρ = (fa ρ).bind fun d => orR d (fb ρ) := tr rfl
@[simp] theorem eNt_eq (fa : Ev D) (ρ : List Sl) : eNt fa ρ = (fa ρ).bind notR := tr rfl
@[simp] theorem tNt_eq (f : Ev Bool) (ρ : List Sl) : tNt f ρ = (f ρ).bind fun k => .ok (!k) := tr rfl
@[simp] theorem tAn_eq (f g : Ev Bool) (ρ : List Sl) : tAn f g ρ = (f ρ).bind fun k => if k = true then g ρ else .ok false := tr rfl
@[simp] theorem tOo_eq (f g : Ev Bool) (ρ : List Sl) : tOo f g ρ = (f ρ).bind fun k => if k = true then .ok true else g ρ := tr rfl
@[simp] theorem oNone_eq (ρ : List Sl) : oNone ρ = .ok none := tr rfl
def D.oi (d : D) : R (Option Int) := match d with | .int i => .ok (some i) | _ => .stuck
@[simp] theorem oi_int (i : Int) : D.oi (.int i) = .ok (some i) := tr rfl
@[simp] theorem oSome_eq (fa : Ev D) (ρ : List Sl) : oSome fa ρ = (fa ρ).bind D.oi := tr rfl
@[simp] theorem eSl_eq (fa : Ev D) (fl fh : Ev (Option Int)) (ρ : List Sl) : eSl fa fl fh ρ = (fa ρ).bind fun d => (fl ρ).bind fun lo => (fh ρ).bind fun hi => gSl lo hi d := tr rfl
@[simp] theorem gSl_str (lo hi : Option Int) (s : List Nat) (h : s.length ≤ 1000000) : gSl lo hi (.str s) = .ok (.str (cutL s lo hi)) := if_pos h
@[simp] theorem gSl_lst (lo hi : Option Int) (s : List D) : gSl lo hi (.lst s) = .ok (.lst (cutL s lo hi)) := tr rfl
@[simp] theorem gSl_scr (lo hi : Option Int) (s : List Int) : gSl lo hi (.scr s) = .ok (.lst ((cutL s lo hi).map D.int)) := tr rfl
@[simp] theorem gSl_tup (lo hi : Option Int) (s : List D) : gSl lo hi (.tup s) = .ok (.tup (cutL s lo hi)) := tr rfl
@[simp] theorem eDisp_eq (prs : List (Ev D × Ev D)) (ρ : List Sl) : eDisp prs ρ = (pairsE prs ρ).bind gDisp := tr rfl
@[simp] theorem pairsE_nil (ρ : List Sl) : pairsE [] ρ = .ok [] := tr rfl
@[simp] theorem pairsE_cons (fk fv : Ev D) (r : List (Ev D × Ev D)) (ρ : List Sl) : pairsE ((fk, fv) :: r) ρ = (fk ρ).bind fun k => (fv ρ).bind fun v => (pairsE r ρ).bind fun l => .ok ((k, v) :: l) := tr rfl
@[simp] theorem pLt_eq (i j : Int) : pLt i j = decide (i < j) := tr rfl
@[simp] theorem pGt_eq (i j : Int) : pGt i j = decide (j < i) := tr rfl
def limD (n : Nat) (r : R D) : R D := if n ≤ 15 then r else .stuck
@[simp] theorem limD_ok (n : Nat) (r : R D) (h : n ≤ 15) : limD n r = r := if_pos h
@[simp] theorem gDisp_eq (l : List (D × D)) : gDisp l = (oR (keysC l)).bind fun es => limD es.length (.ok (.dic (mergeC [] es))) := tr rfl
@[simp] theorem keysC_nil : keysC [] = some [] := tr rfl
@[simp] theorem keysC_str (s : List Nat) (d : D) (r : List (D × D)) : keysC ((.str s, d) :: r) = (keysC r).map ((.inr s, d) :: ·) := by
  simp only [keysC, D.key]
  cases keysC r <;> rfl
@[simp] theorem keysC_int (s : Int) (d : D) (r : List (D × D)) : keysC ((.int s, d) :: r) = (keysC r).map ((.inl s, d) :: ·) := by
  simp only [keysC, D.key]
  cases keysC r <;> rfl
@[simp] theorem mergeC_nil (es : List (Kc × D)) : mergeC es [] = es := tr rfl
@[simp] theorem mergeC_cons (es : List (Kc × D)) (k : Kc) (d : D) (r : List (Kc × D)) : mergeC es ((k, d) :: r) = mergeC (putC es k d) r := tr rfl
@[simp] theorem key_int (i : Int) : D.key (.int i) = some (.inl i) := tr rfl
@[simp] theorem key_str (s : List Nat) : D.key (.str s) = some (.inr s) := tr rfl
def getS2 (es : List (Kc × D)) (fb fc : Ev D) (ρ : List Sl) : R D := (fb ρ).bind fun k => (fc ρ).bind fun d => (oR k.key).bind fun kc => .ok ((lookC es kc).getD d)
def get2 (fb fc : Ev D) (ρ : List Sl) (x : D) : R D := match x with
  | .dic es => getS2 es fb fc ρ
  | _ => .stuck
@[simp] theorem get2_dic (fb fc : Ev D) (ρ : List Sl) (es : List (Kc × D)) : get2 fb fc ρ (.dic es) = (fb ρ).bind fun k => (fc ρ).bind fun d => (oR k.key).bind fun kc => .ok ((lookC es kc).getD d) := tr rfl
@[simp] theorem eDget2_eq (fa fb fc : Ev D) (ρ : List Sl) : eDget2 fa fb fc ρ = (fa ρ).bind (get2 fb fc ρ) := by
  show (fa ρ).bind _ = _
  cases fa ρ with
  | ok d => cases d <;> rfl
  | _ => rfl
@[simp] theorem gDix_dic (es : List (Kc × D)) (k : D) : gDix (.dic es) k = (oR k.key).bind fun kc => oR (lookC es kc) := tr rfl
def m1R (g : List Nat → D → R D) (fb : Ev D) (ρ : List Sl) (x : D) : R D := match x with
  | .str s => (fb ρ).bind (g s)
  | _ => .stuck
@[simp] theorem m1R_str (g : List Nat → D → R D) (fb : Ev D) (ρ : List Sl) (s : List Nat) : m1R g fb ρ (.str s) = (fb ρ).bind (g s) := tr rfl
@[simp] theorem eM1_eq (g : List Nat → D → R D) (fa fb : Ev D) (ρ : List Sl) : eM1 g fa fb ρ = (fa ρ).bind (m1R g fb ρ) := tr rfl
@[simp] theorem ftOne_eq (i : Nat) (d : D) : ftOne i d = .ok [(i, d)] := tr rfl
@[simp] theorem ftTup_eq (is : List Nat) (ds : List D) (h : ds.length = is.length) : ftTup is (.tup ds) = .ok (is.zip ds) := if_pos h
@[simp] theorem setS_nil (ρ : List Sl) : setS ρ [] = ρ := tr rfl
@[simp] theorem setS_cons (ρ : List Sl) (i : Nat) (d : D) (r : List (Nat × D)) : setS ρ ((i, d) :: r) = setS (ρ.set i (.val d)) r := tr rfl
@[simp] theorem items_tup (ds : List D) : D.items (.tup ds) = some ds := tr rfl
@[simp] theorem items_lst (ds : List D) : D.items (.lst ds) = some ds := tr rfl
@[simp] theorem items_scr (ns : List Int) : D.items (.scr ns) = some (ns.map D.int) := tr rfl
@[simp] theorem rangeD_length (a b : Int) : (rangeD a b).length = (b - a).toNat := by simp [rangeD]
@[simp] theorem iEn_eq (fa : Ev D) (ρ : List Sl) : iEn fa ρ = (fa ρ).bind fun d => (oR d.items).bind fun ds => .ok (enD 0 ds) := tr rfl
@[simp] theorem iSeq_eq (fa : Ev D) (ρ : List Sl) : iSeq fa ρ = (fa ρ).bind fun d => oR d.items := tr rfl
@[simp] theorem forS_eq (fi : Ev (List D)) (ft : D → R (List (Nat × D))) (fb : Es) (ρ : List Sl) : forS fi ft fb ρ = tryE ρ (fi ρ) fun ds => forGo ft fb ds ρ := tr rfl
@[simp] theorem iRg_eq (g : List D → R (List D)) (fs : Ev (List D)) (ρ : List Sl) : iRg g fs ρ = (fs ρ).bind g := tr rfl
@[simp] theorem gRng1_i (n : Int) (h0 : -1000000000000 ≤ n) (h1 : n ≤ 1000000000000) : gRng1 [.int n] = .ok (rangeD 0 n) := if_pos ⟨by omega, by omega⟩
@[simp] theorem gRng2_ii (a b : Int) (h0 : -1000000000000 ≤ a) (h1 : a ≤ 1000000000000) (h2 : -1000000000000 ≤ b) (h3 : b ≤ 1000000000000) : gRng2 [.int a, .int b] = .ok (rangeD a b) := if_pos ⟨⟨by omega, by omega⟩, by omega, by omega⟩
def mutR (i : Nat) (ρ : List Sl) (k : D → List Sl → RS) (r : R (D × List D)) : RS := match r with
  | .ok (res, ds') => k res (ρ.set i (.own (.lst ds')))
  | _ => .stuck
@[simp] theorem mutR_ok (i : Nat) (ρ : List Sl) (k : D → List Sl → RS) (res : D) (ds' : List D) : mutR i ρ k (.ok (res, ds')) = k res (ρ.set i (.own (.lst ds'))) := tr rfl
def mutL (i : Nat) (g : GL) (fs : Ev (List D)) (k : D → List Sl → RS) (ρ : List Sl) (s : Option Sl) : RS := match s with
  | some (.own (.lst ds)) => tryE ρ (fs ρ) fun args => mutR i ρ k (g ds args)
  | _ => .stuck
@[simp] theorem mutL_own (i : Nat) (g : GL) (fs : Ev (List D)) (k : D → List Sl → RS) (ρ : List Sl) (ds : List D) : mutL i g fs k ρ (some (.own (.lst ds))) = tryE ρ (fs ρ) fun args => mutR i ρ k (g ds args) := tr rfl
@[simp] theorem mutS_eq (i : Nat) (g : GL) (fs : Ev (List D)) (k : D → List Sl → RS) (ρ : List Sl) : mutS i g fs k ρ = mutL i g fs k ρ ρ[i]? := tr rfl
@[simp] theorem pop2S_eq (i j : Nat) (ρ : List Sl) (d1 d2 : D) (ds : List D) (h : ρ[j]? = some (.own (.lst (d1 :: d2 :: ds)))) : pop2S i j ρ = .nx ((ρ.set j (.own (.lst ds))).set i (.val (.tup [d1, d2]))) := by simp [pop2S, h]
@[simp] theorem isVal_val (d : D) : Sl.isVal (.val d) = true := tr rfl
def RS.fin (n np : Nat) (args : List Sl) (r : RS) : RF := match r with
  | .rt r ρ => .ok r (finOf n np args ρ)
  | .nx ρ => .ok (.val .non) (finOf n np args ρ)
  | .exc x ρ => .exc x (finOf n np args ρ)
  | _ => .stuck
@[simp] theorem fin_rt (n np : Nat) (args : List Sl) (r : Sl) (ρ : List Sl) : RS.fin n np args (.rt r ρ) = .ok r (if n ≤ np then ρ.take n else args) := tr rfl
@[simp] theorem fin_nx (n np : Nat) (args : List Sl) (ρ : List Sl) : RS.fin n np args (.nx ρ) = .ok (.val .non) (if n ≤ np then ρ.take n else args) := tr rfl
@[simp] theorem fin_exc (n np : Nat) (args : List Sl) (x : Exn) (ρ : List Sl) : RS.fin n np args (.exc x ρ) = .exc x (if n ≤ np then ρ.take n else args) := tr rfl
theorem bodyF_eq (N n np : Nat) (fb : Es) (args : List Sl) (h : n ≤ np ∨ args.all Sl.isVal = true) : bodyF N n np fb args = RS.fin n np args (fb (args ++ List.replicate (N - n) .emp)) := by
  unfold bodyF; rw [if_pos h]; rfl
@[simp] theorem bodyF_full (N n : Nat) (fb : Es) (args : List Sl) : bodyF N n n fb args = RS.fin n n args (fb (args ++ List.replicate (N - n) .emp)) := bodyF_eq _ _ _ _ _ (.inl (Nat.le_refl _))
@[simp] theorem bodyF_zero (N n : Nat) (fb : Es) (args : List Sl) (h : args.all Sl.isVal = true) : bodyF N n 0 fb args = RS.fin n 0 args (fb (args ++ List.replicate (N - n) .emp)) := bodyF_eq _ _ _ _ _ (.inr h)
@[simp] theorem eLc_eq (vs : List Nat) (fi : Ev (List D)) (ft : D → R (List (Nat × D))) (fc : Ev Bool) (fe : Ev D) (ρ : List Sl) : eLc vs fi ft fc fe ρ = (fi ρ).bind fun ds => limR ds.length ((noX (lcGo (wipeS ρ vs) ft fc fe ds)).bind fun ys => .ok (.lst ys)) := tr rfl
@[simp] theorem wipeS_nil (ρ : List Sl) : wipeS ρ [] = ρ := tr rfl
@[simp] theorem wipeS_cons (ρ : List Sl) (v : Nat) (vs : List Nat) : wipeS ρ (v :: vs) = (wipeS ρ vs).set v .emp := tr rfl
section
variable {α : Type}
@[simp] theorem atI_0 (x : α) (l : List α) : L2.atI (x :: l) 0 = some x := atI_of (x :: l) 0 (by simp)
@[simp] theorem atI_1 (x y : α) (l : List α) : L2.atI (x :: y :: l) 1 = some y := atI_of (x :: y :: l) 1 (by simp)
@[simp] theorem atI_2 (x y z : α) (l : List α) : L2.atI (x :: y :: z :: l) 2 = some z := atI_of (x :: y :: z :: l) 2 (by simp)
@[simp] theorem atI_3 (x y z w : α) (l : List α) : L2.atI (x :: y :: z :: w :: l) 3 = some w := atI_of (x :: y :: z :: w :: l) 3 (by simp)
@[simp] theorem atI_snoc (x : α) (l : List α) : L2.atI (l ++ [x]) (-1) = some x := L2.atI_last l x
@[simp] theorem atI_m1a (x : α) : L2.atI [x] (-1) = some x := L2.atI_last [] x
@[simp] theorem atI_m1b (x y : α) : L2.atI [x, y] (-1) = some y := L2.atI_last [x] y
@[simp] theorem atI_m1c (x y z : α) : L2.atI [x, y, z] (-1) = some z := L2.atI_last [x, y] z
end
@[simp] theorem lim_eq : LIM = 1000000 := tr rfl
@[simp] theorem gAppend_1 (ds : List D) (d : D) (h : ds.length < 1000000) : gAppend ds [d] = .ok (.non, ds ++ [d]) := if_pos h
@[simp] theorem gPop_snoc (ds : List D) (d : D) : gPop (ds ++ [d]) [] = .ok (d, ds) := by
  simp [gPop, oR, R.bind]
/-- a for loop by an invariant: it goes on, or it leaves with an answer -/
theorem forGo_inv {ft : D → R (List (Nat × D))} {fb : Es} (Fin : RS → Prop) : ∀ (ds : List D) (I : Nat → List Sl → Prop) (ρ : List Sl), I 0 ρ →
    (∀ i d ρ, ds[i]? = some d → I i ρ → ∃ as, ft d = .ok as ∧ ((∃ ρ', (fb (setS ρ as) = .nx ρ' ∨ fb (setS ρ as) = .ct ρ') ∧ I (i + 1) ρ') ∨ ((∀ ρ', fb (setS ρ as) ≠ .nx ρ' ∧ fb (setS ρ as) ≠ .ct ρ' ∧ fb (setS ρ as) ≠ .bk ρ') ∧ Fin (fb (setS ρ as))))) →
    (∃ ρ', forGo ft fb ds ρ = .nx ρ' ∧ I ds.length ρ') ∨ Fin (forGo ft fb ds ρ)
  | [], I, ρ, h0, _ => .inl ⟨ρ, rfl, h0⟩
  | d :: ds, I, ρ, h0, hs => by
    obtain ⟨as, ha, h⟩ := hs 0 d ρ rfl h0
    have e : forGo ft fb (d :: ds) ρ = match fb (setS ρ as) with
      | .nx ρ' => forGo ft fb ds ρ'
      | .ct ρ' => forGo ft fb ds ρ'
      | .bk ρ' => .nx ρ'
      | r => r := by
      show tryE ρ (noX (ft d)) (fun as => match fb (setS ρ as) with
        | .nx ρ' => forGo ft fb ds ρ'
        | .ct ρ' => forGo ft fb ds ρ'
        | .bk ρ' => .nx ρ'
        | r => r) = _
      rw [ha]
      rfl
    rcases h with ⟨ρ', h, hI⟩ | ⟨hn, hf⟩
    · have e2 : forGo ft fb (d :: ds) ρ = forGo ft fb ds ρ' := by rcases h with h | h <;> rw [e, h]
      rw [e2]
      rcases forGo_inv Fin ds (fun i => I (i + 1)) ρ' hI (fun i d' ρ1 h1 h2 => hs (i + 1) d' ρ1 (by simpa using h1) h2) with ⟨ρ2, h3, h4⟩ | h3
      · exact .inl ⟨ρ2, h3, h4⟩
      · exact .inr h3
    · refine .inr ?_
      have e2 : forGo ft fb (d :: ds) ρ = fb (setS ρ as) := by
        rw [e]
        cases q : fb (setS ρ as) with
        | nx r => exact absurd q (hn r).1
        | ct r => exact absurd q (hn r).2.1
        | bk r => exact absurd q (hn r).2.2
        | _ => rfl
      rw [e2]; exact hf
/-- a for loop that never leaves -/
theorem forGo_nx {ft : D → R (List (Nat × D))} {fb : Es} (ds : List D) (I : Nat → List Sl → Prop) (ρ : List Sl) (h0 : I 0 ρ)
    (hs : ∀ i d ρ, ds[i]? = some d → I i ρ → ∃ as ρ', ft d = .ok as ∧ (fb (setS ρ as) = .nx ρ' ∨ fb (setS ρ as) = .ct ρ') ∧ I (i + 1) ρ') : ∃ ρ', forGo ft fb ds ρ = .nx ρ' ∧ I ds.length ρ' := by
  rcases forGo_inv (fun _ => False) ds I ρ h0 (fun i d ρ h1 h2 => by
    obtain ⟨as, ρ', h3, h4, h5⟩ := hs i d ρ h1 h2
    exact ⟨as, h3, .inl ⟨ρ', h4, h5⟩⟩) with h | h
  · exact h
  · exact h.elim
@[simp] theorem gMul_ii (i j : Int) : gMul (.int i) (.int j) = gMulI (.int i) (.int j) := tr rfl
@[simp] theorem gMul_si (s : List Nat) (i : Int) (h : s.length ≤ 16) (h0 : -1000000000000 ≤ i) (h2 : i ≤ 1048576) : gMul (.str s) (.int i) = .ok (.str (List.replicate i.toNat s).flatten) := if_pos ⟨h, by omega, h2⟩
theorem gRep_li (ds : List D) (k : Int) (h0 : 0 ≤ k) (h1 : k ≤ 1000000) (h : ds.length * k.toNat ≤ 1000000) : gRep (.lst ds) (.int k) = .ok (.lst (List.replicate k.toNat ds).flatten) := if_pos ⟨by omega, by omega, h⟩
@[simp] theorem deadS_eq (ρ : List Sl) : deadS ρ = .stuck := tr rfl
@[simp] theorem expS_eq (fe : Ev D) (ρ : List Sl) : expS fe ρ = tryE ρ (fe ρ) fun _ => .nx ρ := tr rfl
@[simp] theorem gIsN_eq (d : D) : gIsN d = .ok d.isNon := tr rfl
@[simp] theorem gNotN_eq (d : D) : gNotN d = .ok (!d.isNon) := tr rfl
@[simp] theorem isNon_non : D.isNon .non = true := tr rfl
@[simp] theorem isNon_int (i : Int) : D.isNon (.int i) = false := tr rfl
@[simp] theorem isNon_bl (i : Bool) : D.isNon (.bl i) = false := tr rfl
@[simp] theorem isNon_str (i : List Nat) : D.isNon (.str i) = false := tr rfl
@[simp] theorem isNon_tup (i : List D) : D.isNon (.tup i) = false := tr rfl
@[simp] theorem isNon_lst (i : List D) : D.isNon (.lst i) = false := tr rfl
@[simp] theorem gIn_tup (x : D) (ds : List D) : gIn x (.tup ds) = gInL x ds := tr rfl
@[simp] theorem gIn_lst (x : D) (ds : List D) : gIn x (.lst ds) = gInL x ds := tr rfl
@[simp] theorem gIn_dic (x : D) (es : List (Kc × D)) : gIn x (.dic es) = (oR x.key).bind fun k => .ok (lookC es k).isSome := tr rfl
@[simp] theorem gIn_chr (c : Nat) (s : List Nat) : gIn (.str [c]) (.str s) = .ok (decide (c ∈ s)) := tr rfl
@[simp] theorem gNi_eq (x d : D) : gNi x d = (gIn x d).bind fun k => .ok (!k) := tr rfl
theorem gInL_strs (x : List Nat) (l : List (List Nat)) : gInL (.str x) (l.map .str) = .ok (decide (x ∈ l)) := by
  have h1 : (l.map D.str).all D.flat = true := by simp [D.flat]
  have h2 : ((l.map D.str).any fun y => eqF y (.str x)) = decide (x ∈ l) := by
    induction l with
    | nil => simp
    | cons a l ih =>
      have ih := ih (by simp [D.flat])
      rw [List.map_cons, List.any_cons, ih]
      show ((a == x) || decide (x ∈ l)) = decide (x ∈ a :: l)
      by_cases h : a = x
      · subst h; simp
      · have h' : ¬ x = a := fun e => h e.symm
        simp [h, h']
  unfold gInL
  rw [if_pos ⟨rfl, h1⟩, h2]
@[simp] theorem eCh_eq (p q : Int → Int → Bool) (fa fb fc : Ev D) (ρ : List Sl) : eCh p q fa fb fc ρ = (fa ρ).bind fun x => (fb ρ).bind fun y => (gCmp p x y).bind fun k => if k = true then (fc ρ).bind (gCmp q y) else .ok false := tr rfl
@[simp] theorem gAddA_ii (i j : Int) : gAddA (.int i) (.int j) = .ok (.int (i + j)) := tr rfl
@[simp] theorem gAddA_ss (x y : List Nat) (h : x.length + y.length ≤ 1000000) : gAddA (.str x) (.str y) = .ok (.str (x ++ y)) := if_pos h
@[simp] theorem gInt_ii (g : Int → Int → R D) (i j : Int) : gInt g (.int i) (.int j) = g i j := tr rfl
def augK (i : Nat) (g : D → D → R D) (fe : Ev D) (ρ : List Sl) (s : Option Sl) : RS := match s with
  | some (.val d) => tryE ρ (fe ρ) fun y => tryE ρ (g d y) fun z => .nx (ρ.set i (.val z))
  | _ => .stuck
@[simp] theorem augK_val (i : Nat) (g : D → D → R D) (fe : Ev D) (ρ : List Sl) (d : D) : augK i g fe ρ (some (.val d)) = tryE ρ (fe ρ) fun y => tryE ρ (g d y) fun z => .nx (ρ.set i (.val z)) := tr rfl
@[simp] theorem augV_eq (i : Nat) (g : D → D → R D) (fe : Ev D) (ρ : List Sl) : augV i g fe ρ = augK i g fe ρ ρ[i]? := tr rfl
def setLK (j : Nat) (fi fv : Ev D) (ρ : List Sl) (s : Option Sl) : RS := match s with
  | some (.own (.lst ds)) => tryE ρ (fv ρ) fun d => tryE ρ (fi ρ) fun k => match k with
    | .int k => (match ixN ds.length k with
      | some m => .nx (ρ.set j (.own (.lst (ds.set m d))))
      | none => .stuck)
    | _ => .stuck
  | _ => .stuck
@[simp] theorem setL_eq (j : Nat) (fi fv : Ev D) (ρ : List Sl) : setL j fi fv ρ = setLK j fi fv ρ ρ[j]? := tr rfl
def setI (j : Nat) (ρ : List Sl) (ds : List D) (d k : D) : RS := match k with
  | .int k => (match ixN ds.length k with
    | some m => .nx (ρ.set j (.own (.lst (ds.set m d))))
    | none => .stuck)
  | _ => .stuck
@[simp] theorem setLK_own (j : Nat) (fi fv : Ev D) (ρ : List Sl) (ds : List D) : setLK j fi fv ρ (some (.own (.lst ds))) = tryE ρ (fv ρ) fun d => tryE ρ (fi ρ) fun k => setI j ρ ds d k := tr rfl
@[simp] theorem setI_int (j : Nat) (ρ : List Sl) (ds : List D) (d : D) (k : Int) (h0 : 0 ≤ k) (h1 : k.toNat < ds.length) : setI j ρ ds d (.int k) = .nx (ρ.set j (.own (.lst (ds.set k.toNat d)))) := by
  have h := ixN_of ds.length k.toNat h1
  have e : ((k.toNat : Nat) : Int) = k := by omega
  rw [e] at h
  simp [setI, h]
def setDK (j : Nat) (fi fv : Ev D) (ρ : List Sl) (s : Option Sl) : RS := match s with
  | some (.own (.dic es)) => tryE ρ (fv ρ) fun d => tryE ρ (fi ρ) fun k => match k.key with
    | some kc => if es.length < LIM then .nx (ρ.set j (.own (.dic (putC es kc d)))) else .stuck
    | none => .stuck
  | _ => .stuck
@[simp] theorem setD_eq (j : Nat) (fi fv : Ev D) (ρ : List Sl) : setD j fi fv ρ = setDK j fi fv ρ ρ[j]? := tr rfl
def setDI (j : Nat) (ρ : List Sl) (es : List (Kc × D)) (d : D) (k : Option Kc) : RS := match k with
  | some kc => if es.length < LIM then .nx (ρ.set j (.own (.dic (putC es kc d)))) else .stuck
  | none => .stuck
@[simp] theorem setDK_own (j : Nat) (fi fv : Ev D) (ρ : List Sl) (es : List (Kc × D)) : setDK j fi fv ρ (some (.own (.dic es))) = tryE ρ (fv ρ) fun d => tryE ρ (fi ρ) fun k => setDI j ρ es d k.key := tr rfl
@[simp] theorem setDI_some (j : Nat) (ρ : List Sl) (es : List (Kc × D)) (d : D) (k : Kc) (h : es.length < 1000000) : setDI j ρ es d (some k) = .nx (ρ.set j (.own (.dic (putC es k d)))) := if_pos h
def augLK (j : Nat) (fi : Ev D) (g : D → D → R D) (fe : Ev D) (ρ : List Sl) (s : Option Sl) : RS := match s with
  | some (.own (.lst ds)) => tryE ρ (fi ρ) fun k => match k with
    | .int k => if 0 ≤ k ∧ k < LIM then (match ds[k.toNat]? with
      | some d => tryE ρ (fe ρ) fun y => tryE ρ (g d y) fun z => .nx (ρ.set j (.own (.lst (ds.set k.toNat z))))
      | none => .stuck) else .stuck
    | _ => .stuck
  | _ => .stuck
@[simp] theorem augL_eq (j : Nat) (fi : Ev D) (g : D → D → R D) (fe : Ev D) (ρ : List Sl) : augL j fi g fe ρ = augLK j fi g fe ρ ρ[j]? := tr rfl
def augI (j : Nat) (g : D → D → R D) (fe : Ev D) (ρ : List Sl) (ds : List D) (k : D) : RS := match k with
  | .int k => if 0 ≤ k ∧ k < LIM then (match ds[k.toNat]? with
    | some d => tryE ρ (fe ρ) fun y => tryE ρ (g d y) fun z => .nx (ρ.set j (.own (.lst (ds.set k.toNat z))))
    | none => .stuck) else .stuck
  | _ => .stuck
@[simp] theorem augLK_own (j : Nat) (fi : Ev D) (g : D → D → R D) (fe : Ev D) (ρ : List Sl) (ds : List D) : augLK j fi g fe ρ (some (.own (.lst ds))) = tryE ρ (fi ρ) fun k => augI j g fe ρ ds k := tr rfl
@[simp] theorem eMaxDf_eq (fa fc : Ev D) (ρ : List Sl) : eMaxDf fa fc ρ = (fa ρ).bind fun d => (fc ρ).bind fun z => gMaxDf d z := tr rfl
@[simp] theorem gListA_d (es : List (Kc × D)) : gListA [.dic es] = .ok (.lst (es.map fun q => keyD q.1)) := tr rfl
@[simp] theorem gListA_l (ds : List D) : gListA [.lst ds] = .ok (.lst ds) := tr rfl
@[simp] theorem gListA_t (ds : List D) : gListA [.tup ds] = .ok (.lst ds) := tr rfl
@[simp] theorem gRevL_l (ds : List D) : gRevL (.lst ds) = .ok (.lst ds.reverse) := tr rfl
@[simp] theorem gInsert_ok (ds : List D) (i : Int) (d : D) (h : ds.length < 1000000) (h0 : 0 ≤ i) (h1 : i < 1000000) : gInsert ds [.int i, d] = .ok (.non, ds.take i.toNat ++ [d] ++ ds.drop i.toNat) := if_pos ⟨h, h0, h1⟩
@[simp] theorem arS_nil (ρ : List Sl) : arS [] ρ = .ok [] := tr rfl
@[simp] theorem arS_fz (f : Ev D) (ars : List Ar) (ρ : List Sl) : arS (.fz f :: ars) ρ = (f ρ).bind fun d => (arS ars ρ).bind fun l => .ok (.val d :: l) := tr rfl
@[simp] theorem arS_bw (j : Nat) (ars : List Ar) (ρ : List Sl) : arS (.bw j :: ars) ρ = bwK (arS ars ρ) ρ[j]? := tr rfl
@[simp] theorem bwK_own (r : R (List Sl)) (d : D) : bwK r (some (.own d)) = r.bind fun l => .ok (.own d :: l) := tr rfl
@[simp] theorem bwSet_nil (fin ρ : List Sl) : bwSet [] fin ρ = ρ := by unfold bwSet; rfl
@[simp] theorem bwSet_bw (j : Nat) (ars : List Ar) (s : Sl) (fin ρ : List Sl) : bwSet (.bw j :: ars) (s :: fin) ρ = bwSet ars fin (ρ.set j s) := tr rfl
@[simp] theorem bwSet_fz (f : Ev D) (ars : List Ar) (s : Sl) (fin ρ : List Sl) : bwSet (.fz f :: ars) (s :: fin) ρ = bwSet ars fin ρ := tr rfl
@[simp] theorem callR_ok (k : Sl → List Sl → RS) (ars : List Ar) (ρ : List Sl) (r : Sl) (fin : List Sl) : callR k ars ρ (.ok r fin) = k r (bwSet ars fin ρ) := tr rfl
@[simp] theorem callR_exc (k : Sl → List Sl → RS) (ars : List Ar) (ρ : List Sl) (r : Exn) (fin : List Sl) : callR k ars ρ (.exc r fin) = .exc r (bwSet ars fin ρ) := tr rfl
@[simp] theorem callS_eq (ars : List Ar) (G : Fn) (k : Sl → List Sl → RS) (ρ : List Sl) : callS ars G k ρ = tryE ρ (arS ars ρ) fun l => callR k ars ρ (G l) := tr rfl
@[simp] theorem kOwn_own (i : Nat) (d : D) (ρ : List Sl) : kOwn i (.own d) ρ = .nx (ρ.set i (.own d)) := tr rfl
@[simp] theorem kVal_val (ft : D → R (List (Nat × D))) (d : D) (ρ : List Sl) : kVal ft (.val d) ρ = tryE ρ (ft d) fun as => .nx (setS ρ as) := tr rfl
@[simp] theorem eIndex_eq (fa fe : Ev D) (ρ : List Sl) : eIndex fa fe ρ = (fa ρ).bind fun d => (oR d.nms).bind fun ss => (fe ρ).bind (gIndex ss) := tr rfl
@[simp] theorem gIndex_str (ss : List (List Nat)) (x : List Nat) : gIndex ss (.str x) = (oR (posS ss x)).bind fun j => .ok (.int (j : Nat)) := tr rfl
theorem nms_map : ∀ (l : List (List Nat)), l ≠ [] → D.nms (.tup (l.map .str)) = some l
  | [], h => absurd rfl h
  | x :: l, _ => by
    have h : ∀ l : List (List Nat), D.strs (l.map .str) = some l := fun l => by
      induction l with
      | nil => rfl
      | cons a l ih => simp [D.strs, ih]
    exact h (x :: l)
@[simp] theorem eDic0_eq (ρ : List Sl) : eDic0 ρ = .ok (.dic []) := tr rfl
end PL
set_option Elab.async false
set_option linter.all false
set_option maxRecDepth 100000
namespace PL
set_option autoImplicit false
open L2
def b_cell_at_86d1 : Es := (seqS (ifS (e2 (gCmp pLt) (eVar 1) (eCall gLen (aCons (eVar 0) aNil))) (retS (e2 gIx (eVar 0) (eVar 1))) skipS)
  (retS (eC (.int (0)))))
end PL
set_option Elab.async false
set_option linter.all false
set_option maxRecDepth 100000
namespace PL
set_option autoImplicit false
open L2
end PL
set_option Elab.async false
set_option linter.all false
set_option maxRecDepth 100000
set_option maxHeartbeats 1000000
namespace PL
set_option autoImplicit false
open PySem L2
theorem sIx_pos (n d : Nat) (v : Int) (h : 0 ≤ v) : HT.sIx n d (some v) = min v.toNat n := if_neg (by omega)
theorem cut_to {α : Type} (s : List α) (i : Int) (h : 0 ≤ i) : cutL s none (some i) = s.take i.toNat := by
  unfold cutL
  rw [sIx_pos _ _ _ h]
  show (s.drop 0).take (min i.toNat s.length - 0) = _
  rw [List.drop_zero, Nat.sub_zero, ← List.take_take, List.take_length]
theorem cut_from {α : Type} (s : List α) (i : Int) (h : 0 ≤ i) : cutL s (some i) none = s.drop i.toNat := by
  unfold cutL
  rw [sIx_pos _ _ _ h]
  show (s.drop (min i.toNat s.length)).take (s.length - min i.toNat s.length) = _
  rw [List.take_of_length_le (by simp)]
  by_cases hl : i.toNat ≤ s.length
  · rw [Nat.min_eq_left hl]
  · rw [Nat.min_eq_right (by omega), List.drop_length, List.drop_of_length_le (by omega)]
@[simp] theorem gIsi_str_non : gIsi "str" .non = .ok false := tr rfl
@[simp] theorem gIsi_str_bl (b : Bool) : gIsi "str" (.bl b) = .ok false := tr rfl
@[simp] theorem gIsi_str_int (i : Int) : gIsi "str" (.int i) = .ok false := tr rfl
@[simp] theorem gIsi_str_str (s : List Nat) : gIsi "str" (.str s) = .ok true := tr rfl
@[simp] theorem gIsi_str_tup (ds : List D) : gIsi "str" (.tup ds) = .ok false := tr rfl
@[simp] theorem gIsi_str_lst (ds : List D) : gIsi "str" (.lst ds) = .ok false := tr rfl
@[simp] theorem gIsi_str_dic (es : List (Kc × D)) : gIsi "str" (.dic es) = .ok false := tr rfl
@[simp] theorem gIsi_int_non : gIsi "int" .non = .ok false := tr rfl
@[simp] theorem gIsi_int_bl (b : Bool) : gIsi "int" (.bl b) = .ok true := tr rfl
@[simp] theorem gIsi_int_int (i : Int) : gIsi "int" (.int i) = .ok true := tr rfl
@[simp] theorem gIsi_int_str (s : List Nat) : gIsi "int" (.str s) = .ok false := tr rfl
@[simp] theorem gIsi_int_tup (ds : List D) : gIsi "int" (.tup ds) = .ok false := tr rfl
@[simp] theorem gIsi_int_lst (ds : List D) : gIsi "int" (.lst ds) = .ok false := tr rfl
@[simp] theorem gIsi_int_dic (es : List (Kc × D)) : gIsi "int" (.dic es) = .ok false := tr rfl
@[simp] theorem gIsi_tuple_non : gIsi "tuple" .non = .ok false := tr rfl
@[simp] theorem gIsi_tuple_bl (b : Bool) : gIsi "tuple" (.bl b) = .ok false := tr rfl
@[simp] theorem gIsi_tuple_int (i : Int) : gIsi "tuple" (.int i) = .ok false := tr rfl
@[simp] theorem gIsi_tuple_str (s : List Nat) : gIsi "tuple" (.str s) = .ok false := tr rfl
@[simp] theorem gIsi_tuple_tup (ds : List D) : gIsi "tuple" (.tup ds) = .ok true := tr rfl
@[simp] theorem gIsi_tuple_lst (ds : List D) : gIsi "tuple" (.lst ds) = .ok false := tr rfl
@[simp] theorem gIsi_tuple_dic (es : List (Kc × D)) : gIsi "tuple" (.dic es) = .ok false := tr rfl
@[simp] theorem gIsi_list_non : gIsi "list" .non = .ok false := tr rfl
@[simp] theorem gIsi_list_bl (b : Bool) : gIsi "list" (.bl b) = .ok false := tr rfl
@[simp] theorem gIsi_list_int (i : Int) : gIsi "list" (.int i) = .ok false := tr rfl
@[simp] theorem gIsi_list_str (s : List Nat) : gIsi "list" (.str s) = .ok false := tr rfl
@[simp] theorem gIsi_list_tup (ds : List D) : gIsi "list" (.tup ds) = .ok false := tr rfl
@[simp] theorem gIsi_list_lst (ds : List D) : gIsi "list" (.lst ds) = .ok true := tr rfl
@[simp] theorem gIsi_list_dic (es : List (Kc × D)) : gIsi "list" (.dic es) = .ok false := tr rfl
@[simp] theorem gIsi_bool_non : gIsi "bool" .non = .ok false := tr rfl
@[simp] theorem gIsi_bool_bl (b : Bool) : gIsi "bool" (.bl b) = .ok true := tr rfl
@[simp] theorem gIsi_bool_int (i : Int) : gIsi "bool" (.int i) = .ok false := tr rfl
@[simp] theorem gIsi_bool_str (s : List Nat) : gIsi "bool" (.str s) = .ok false := tr rfl
@[simp] theorem gIsi_bool_tup (ds : List D) : gIsi "bool" (.tup ds) = .ok false := tr rfl
@[simp] theorem gIsi_bool_lst (ds : List D) : gIsi "bool" (.lst ds) = .ok false := tr rfl
@[simp] theorem gIsi_bool_dic (es : List (Kc × D)) : gIsi "bool" (.dic es) = .ok false := tr rfl
@[simp] theorem gIsi_dict_non : gIsi "dict" .non = .ok false := tr rfl
@[simp] theorem gIsi_dict_bl (b : Bool) : gIsi "dict" (.bl b) = .ok false := tr rfl
@[simp] theorem gIsi_dict_int (i : Int) : gIsi "dict" (.int i) = .ok false := tr rfl
@[simp] theorem gIsi_dict_str (s : List Nat) : gIsi "dict" (.str s) = .ok false := tr rfl
@[simp] theorem gIsi_dict_tup (ds : List D) : gIsi "dict" (.tup ds) = .ok false := tr rfl
@[simp] theorem gIsi_dict_lst (ds : List D) : gIsi "dict" (.lst ds) = .ok false := tr rfl
@[simp] theorem gIsi_dict_dic (es : List (Kc × D)) : gIsi "dict" (.dic es) = .ok true := tr rfl
@[simp] theorem gSl_t1 (a : D) (r : List D) : gSl (some 1) none (.tup (a :: r)) = .ok (.tup r) := by
  rw [gSl_tup, cut_from _ _ (by decide)]
  rfl
@[simp] theorem cut_1 {α : Type} (a : α) (r : List α) : cutL (a :: r) (some 1) none = r := by rw [cut_from _ _ (by decide)]; rfl
theorem joinL_nil (ss : List (List Nat)) : TL.joinL [] ss = ss.flatten := by
  induction ss with
  | nil => rfl
  | cons p r ih =>
    cases r with
    | nil => simp [TL.joinL]
    | cons q r => simp [TL.joinL, ih]
theorem strs_map {α : Type} (f : α → List Nat) : ∀ l : List α, D.strs (l.map fun x => D.str (f x)) = some (l.map f)
  | [] => rfl
  | x :: l => by simp [D.strs, strs_map f l]
theorem flat_one {α : Type} (f : α → Nat) : ∀ l : List α, (l.map fun x => [f x]).flatten = l.map f
  | [] => rfl
  | x :: l => by simp [flat_one f l]
theorem sum_one {α : Type} (f : α → Nat) (n : Nat) : ∀ l : List α, (∀ x ∈ l, f x ≤ n) → (l.map f).sum ≤ l.length * n
  | [], _ => by simp
  | x :: l, h => by
    have h1 := h x (by simp)
    have h2 := sum_one f n l fun y hy => h y (by simp [hy])
    simp only [List.map_cons, List.sum_cons, List.length_cons, Nat.add_mul]
    omega
theorem gJoin_nil {α : Type} (f : α → List Nat) (l : List α) (n : Nat) (h : ∀ x ∈ l, (f x).length ≤ n) (hn : l.length * n ≤ 1000000) : gJoin [] (.lst (l.map fun x => .str (f x))) = .ok (.str (l.map f).flatten) := by
  have h1 := sum_one (fun x => (f x).length) n l h
  have e : (((l.map f).map (·.length)).sum + (l.map f).length * ([] : List Nat).length) ≤ LIM := by
    rw [List.map_map]
    show (l.map fun x => (f x).length).sum + _ ≤ 1000000
    simp only [List.length_nil, Nat.mul_zero]
    omega
  unfold gJoin
  simp only [items_lst, oR_some, bind_ok, strs_map, joinL_nil, if_pos e]
theorem gJoin_one {α : Type} (f : α → Nat) (l : List α) (h : l.length ≤ 1000000) : gJoin [] (.lst (l.map fun x => .str [f x])) = .ok (.str (l.map f)) := by
  rw [gJoin_nil (fun x => [f x]) l 1 (fun x _ => Nat.le_refl _) (by omega), flat_one]
theorem lc_map {α : Type} {ρ : List Sl} {i : Nat} {fe : Ev D} (f : α → D) (h : α → D) : ∀ (l : List α), (∀ x ∈ l, fe (ρ.set i (.val (f x))) = .ok (h x)) → lcGo ρ (ftOne i) fcYes fe (l.map f) = .ok (l.map h)
  | [], _ => rfl
  | x :: l, hs => by
    have h1 := hs x (by simp)
    have ih := lc_map (ρ := ρ) (i := i) (fe := fe) f h l fun y hy => hs y (by simp [hy])
    simp [lcGo, setS, ftOne, h1, R.bind, noX, ih]
theorem lc_rngI {ρ : List Sl} {i : Nat} {fe : Ev D} (n : Int) (h : Nat → D) (hs : ∀ k : Nat, (k : Int) < n → fe (ρ.set i (.val (.int k))) = .ok (h k)) : lcGo ρ (ftOne i) fcYes fe (rangeD 0 n) = .ok ((List.range n.toNat).map h) := by
  unfold rangeD
  rw [Int.sub_zero]
  refine lc_map _ _ _ fun k hk => ?_
  have e2 : (0 + (k : Nat) : Int) = (k : Nat) := by omega
  rw [e2]
  exact hs k (by have := List.mem_range.mp hk; omega)
/-- a body goes on with P -/
def Nxt (P : List Sl → Prop) : RS → Prop
  | .nx ρ => P ρ
  | .ct ρ => P ρ
  | _ => False
@[simp] theorem nxt_nx (P : List Sl → Prop) (ρ : List Sl) : Nxt P (.nx ρ) = P ρ := tr rfl
@[simp] theorem nxt_ct (P : List Sl → Prop) (ρ : List Sl) : Nxt P (.ct ρ) = P ρ := tr rfl
theorem Nxt.or {P : List Sl → Prop} {r : RS} (h : Nxt P r) : ∃ ρ', (r = .nx ρ' ∨ r = .ct ρ') ∧ P ρ' := by
  cases r with
  | nx ρ => exact ⟨ρ, .inl rfl, h⟩
  | ct ρ => exact ⟨ρ, .inr rfl, h⟩
  | _ => exact h.elim
theorem forGo_nxt {ft : D → R (List (Nat × D))} {fb : Es} (ds : List D) (I : Nat → List Sl → Prop) (ρ : List Sl) (h0 : I 0 ρ)
    (hs : ∀ i d ρ, ds[i]? = some d → I i ρ → ∃ as, ft d = .ok as ∧ Nxt (I (i + 1)) (fb (setS ρ as))) : ∃ ρ', forGo ft fb ds ρ = .nx ρ' ∧ I ds.length ρ' :=
  forGo_nx ds I ρ h0 fun i d ρ h1 h2 => by
    obtain ⟨as, h3, h4⟩ := hs i d ρ h1 h2
    obtain ⟨ρ', h5, h6⟩ := h4.or
    exact ⟨as, ρ', h3, h5, h6⟩
theorem forGo_cons_nx {ft : D → R (List (Nat × D))} {fb : Es} {d : D} {ds : List D} {ρ ρ' : List Sl} {as : List (Nat × D)} (h1 : ft d = .ok as) (h2 : fb (setS ρ as) = .nx ρ') : forGo ft fb (d :: ds) ρ = forGo ft fb ds ρ' := by
  have e : forGo ft fb (d :: ds) ρ = tryE ρ (noX (ft d)) (fun as => match fb (setS ρ as) with
        | .nx ρ' => forGo ft fb ds ρ'
        | .ct ρ' => forGo ft fb ds ρ'
        | .bk ρ' => .nx ρ'
        | r => r) := rfl
  rw [e, h1]
  show (match fb (setS ρ as) with
        | .nx ρ' => forGo ft fb ds ρ'
        | .ct ρ' => forGo ft fb ds ρ'
        | .bk ρ' => .nx ρ'
        | r => r) = _
  rw [h2]
theorem atI_nn {α : Type} (xs : List α) (i : Int) (h0 : 0 ≤ i) (h1 : i.toNat < xs.length) : L2.atI xs i = some xs[i.toNat] := by
  have h := atI_of xs i.toNat h1
  have e : ((i.toNat : Nat) : Int) = i := by omega
  rwa [e] at h
theorem atI_map {α β : Type} (f : α → β) (xs : List α) (i : Int) (h0 : 0 ≤ i) (h1 : i.toNat < xs.length) : L2.atI (xs.map f) i = some (f xs[i.toNat]) := by
  rw [atI_nn _ i h0 (by simpa using h1)]; simp
end PL
set_option Elab.async false
set_option linter.all false
set_option maxRecDepth 100000
set_option maxHeartbeats 1000000
namespace PL
set_option autoImplicit false
open PySem L2
def Okd (n : Nat) (d : D) : Prop := d.py.canLay0 = true ∧ d.py.depth ≤ n
theorem Okd.le {n m : Nat} {d : D} (h : Okd n d) (hm : n ≤ m) : Okd m d := ⟨h.1, Nat.le_trans h.2 hm⟩
theorem okd_int (n : Nat) (i : Int) : Okd n (.int i) := ⟨rfl, Nat.zero_le _⟩
def chOk (s : List Nat) : Prop := ∀ c ∈ s, c < 1114112
theorem okd_str (n : Nat) (s : List Nat) (h : chOk s) : Okd n (.str s) := ⟨by
  show PyData.strOk _ = true
  unfold PyData.strOk
  rw [show ((⟨s.toArray⟩ : Str).cps.all fun x => decide (x < 1114112)) = s.all fun x => decide (x < 1114112) from List.all_toArray ..]
  rw [List.all_eq_true]
  intro c hc
  exact decide_eq_true (h c hc), Nat.zero_le _⟩
theorem okds {n : Nat} : ∀ {ds : List D}, (∀ d ∈ ds, Okd n d) → PyData.canLayAll0 (D.pys ds) = true ∧ PyData.depthAll (D.pys ds) ≤ n
  | [], _ => ⟨rfl, Nat.zero_le _⟩
  | d :: ds, h => by
    obtain ⟨h1, h2⟩ := h d (by simp)
    obtain ⟨h3, h4⟩ := okds (ds := ds) fun x hx => h x (by simp [hx])
    refine ⟨?_, ?_⟩
    · simp only [D.pys, PyData.canLayAll0, h1, h3, Bool.and_self]
    · simp only [D.pys, PyData.depthAll]; omega
theorem okd_tup {n : Nat} {ds : List D} (h : ∀ d ∈ ds, Okd n d) : Okd (n + 1) (.tup ds) := by
  obtain ⟨h1, h2⟩ := okds h
  exact ⟨by simpa only [D.py, PyData.canLay0] using h1, by simp only [D.py, PyData.depth]; omega⟩
theorem okd_lst {n : Nat} {ds : List D} (h : ∀ d ∈ ds, Okd n d) : Okd (n + 1) (.lst ds) := by
  obtain ⟨h1, h2⟩ := okds h
  exact ⟨by simpa only [D.py, PyData.canLay0] using h1, by simp only [D.py, PyData.depth]; omega⟩
theorem Okd.fits {n : Nat} {d : D} (h : Okd n d) (hn : n ≤ 64) : d.fits = true := by
  unfold D.fits SeqAt.shaped
  rw [h.1, Bool.true_and]
  exact decide_eq_true (Nat.le_trans h.2 hn)
theorem gEq_gen {n : Nat} {d e : D} (h : Okd n d) (g : Okd n e) (hn : n ≤ 64) : gEq d e = .ok (PyData.eqv d.py e.py) := by
  have f1 := h.fits hn
  have f2 := g.fits hn
  unfold gEq
  split
  · simp only [D.py, PyData.eqv, Bool.beq_eq_decide_eq]
  · rename_i x y
    have e1 : (decide (x = y)) = (PyData.eqv (D.py (.str x)) (D.py (.str y))) := by
      simp only [D.py, PyData.eqv]
      by_cases q : x = y
      · subst q; simp
      · simp [q]
    rw [e1]
  · simp only [D.py, PyData.eqv, Bool.beq_eq_decide_eq]
  · rw [if_pos ⟨f1, f2⟩]
theorem gEq_refl {n : Nat} {d : D} (h : Okd n d) (hn : n ≤ 64) : gEq d d = .ok true := by rw [gEq_gen h h hn, SeqAt.eqv_refl _ h.1]
theorem okd_ints (ns : List Int) : ∀ d ∈ ns.map D.int, Okd 0 d := fun d hd => by obtain ⟨i, _, rfl⟩ := List.mem_map.mp hd; exact okd_int _ _
def nmD (ns : List (List Nat)) : D := .tup (ns.map .str)
def nmOk (ns : List (List Nat)) : Prop := ∀ x ∈ ns, chOk x
theorem okd_nm {ns : List (List Nat)} (h : nmOk ns) : Okd 1 (nmD ns) := okd_tup fun d hd => by obtain ⟨x, hx, rfl⟩ := List.mem_map.mp hd; exact okd_str _ _ (h x hx)
end PL
set_option Elab.async false
set_option linter.all false
set_option maxRecDepth 100000
set_option maxHeartbeats 1000000
namespace PL
set_option autoImplicit false
open L2
inductive K4 where
  | an | or | th | sm
  deriving DecidableEq
/-- sentences -/
inductive T where
  | nm (x : List Nat) | yes | no | nt (t : T) | bin (k : K4) (s t : T)
  deriving DecidableEq
def K4.code : K4 → List Nat
  | .an => [97, 110, 100]
  | .or => [111, 114]
  | .th => [116, 104, 101, 110]
  | .sm => [115, 97, 109, 101]
def T.toD : T → D
  | .nm x => .tup [.str [110, 97, 109, 101], .str x]
  | .yes => .tup [.str [121, 101, 115]]
  | .no => .tup [.str [110, 111]]
  | .nt t => .tup [.str [110, 111, 116], t.toD]
  | .bin k s t => .tup [.str k.code, s.toD, t.toD]
def T.size : T → Nat
  | .nt t => t.size + 1
  | .bin _ s t => s.size + t.size + 1
  | _ => 1
def T.depth : T → Nat
  | .nt t => t.depth + 1
  | .bin _ s t => max s.depth t.depth + 1
  | _ => 1
end PL
set_option Elab.async false
set_option linter.all false
set_option maxRecDepth 100000
set_option maxHeartbeats 1000000
namespace PL
set_option autoImplicit false
open L2
def CellOk (f : Fn) : Prop := ∀ (ns : List Int) (k : Nat), ns.length ≤ 1000 → f [.val (.scr ns), .val (.int k)] = .ok (.val (.int (ns.getD k 0))) [.val (.scr ns), .val (.int k)]
theorem cell_ok : CellOk (bodyF 2 2 2 b_cell_at_86d1) := fun ns k hl => by
  by_cases h : k < ns.length
  · have h2 : (k : Int) < (ns.length : Int) := by omega
    have h3 : L2.atI (ns.map D.int) (k : Int) = some (D.int ns[k]) := by
      rw [atI_of _ k (by simpa using h)]; simp
    simp (disch := first | assumption | decide | omega | (simp only [List.length_append, List.length_cons, List.length_nil, List.length_map, List.length_reverse, List.length_replicate, List.length_range, List.length_take, List.length_drop, enD_length, rangeD_length]; first | decide | omega) | (simp; done) | fail) [decide_eq_true, decide_eq_false, kAsg, kNx, b_cell_at_86d1, h2, h3, h]
  · have h2 : ¬ (k : Int) < (ns.length : Int) := by omega
    have h4 : ns[k]? = none := List.getElem?_eq_none (by omega)
    simp (disch := first | assumption | decide | omega | (simp only [List.length_append, List.length_cons, List.length_nil, List.length_map, List.length_reverse, List.length_replicate, List.length_range, List.length_take, List.length_drop, enD_length, rangeD_length]; first | decide | omega) | (simp; done) | fail) [decide_eq_true, decide_eq_false, kAsg, kNx, b_cell_at_86d1, h2, h4]
end PL
set_option Elab.async false
set_option linter.all false
set_option maxRecDepth 100000
set_option maxHeartbeats 1000000
namespace PL
set_option autoImplicit false
open L2
def abc : List Nat := [97, 98, 99, 100, 101, 102, 103, 104, 105, 106, 107, 108, 109, 110, 111, 112, 113, 114, 115, 116, 117, 118, 119, 120, 121, 122]
theorem abc_fin : ∀ n : Fin 26, abc[n.val]? = some (97 + n.val) := by decide
theorem abc_at (i : Int) : L2.atI abc (i % 26) = some (97 + (i % 26).toNat) := by
  have h0 : 0 ≤ i % 26 := Int.emod_nonneg _ (by decide)
  have h1 : i % 26 < 26 := Int.emod_lt_of_pos _ (by decide)
  have e : i % 26 = ((i % 26).toNat : Int) := by omega
  have hl : (i % 26).toNat < abc.length := by show _ < 26; omega
  have h2 := abc_fin ⟨(i % 26).toNat, hl⟩
  rw [e, atI_of _ _ hl]
  rw [List.getElem?_eq_getElem hl] at h2
  exact h2
/-- the letter at a number -/
def letter (i : Int) : Nat := 97 + (i % 26).toNat
theorem letter_eq (i : Int) : (oR (L2.atI abc (i % 26))).bind (fun c => R.ok (D.str [c])) = .ok (.str [letter i]) := by rw [abc_at]; rfl
end PL
set_option Elab.async false
set_option linter.all false
set_option maxRecDepth 100000
set_option maxHeartbeats 1000000
namespace PL
set_option autoImplicit false
open L2
def T.nmIn (ns : List (List Nat)) : T → Prop
  | .nm x => x ∈ ns
  | .nt t => t.nmIn ns
  | .bin _ s t => s.nmIn ns ∧ t.nmIn ns
  | _ => True
theorem T.depth_pos (t : T) : 1 ≤ t.depth := by cases t <;> simp only [T.depth] <;> omega
def pr (t : T) : D := .tup [t.toD, .int t.depth]
def sizes : List T → Nat
  | [] => 0
  | t :: r => t.size + sizes r
def T.fit (ns : List (List Nat)) (m : Int) (t : T) : Prop := t.nmIn ns ∧ (t.depth : Int) ≤ m
/-- the loop's frame: r the stack from its top down -/
def GS (ns : List (List Nat)) (a1 : Sl) (most : Int) (i : Nat) (ρ : List Sl) : Prop :=
  ∃ (r : List T) (s4 s5 s6 s7 s8 s9 s10 s11 s12 : Sl), ρ = [.val (nmD ns), a1, .val (.int most), .own (.lst (r.reverse.map pr)), s4, s5, s6, s7, s8, s9, s10, s11, s12] ∧ (∀ t ∈ r, t.fit ns most) ∧ sizes r ≤ i ∧ r.length ≤ i
theorem GS.push {ns : List (List Nat)} {a1 : Sl} {most : Int} {i : Nat} {t : T} {r : List T} (ht : t.fit ns most) (hr : ∀ t ∈ r, t.fit ns most) (hs : t.size + sizes r ≤ i) (hn : r.length + 1 ≤ i) (s4 s5 s6 s7 s8 s9 s10 s11 s12 : Sl) :
    GS ns a1 most i [.val (nmD ns), a1, .val (.int most), .own (.lst (r.reverse.map pr ++ [.tup [t.toD, .int t.depth]])), s4, s5, s6, s7, s8, s9, s10, s11, s12] := by
  refine ⟨t :: r, s4, s5, s6, s7, s8, s9, s10, s11, s12, ?_, fun u hu => ?_, hs, hn⟩
  · simp [pr]
  · rcases List.mem_cons.mp hu with e | hu
    · subst e; exact ht
    · exact hr u hu
def Qd (m L : Nat) (ts : List T) : Prop := ∃ (A B : List T) (j : Nat), ts = A ++ B ∧ (∀ t ∈ A, t.depth ≤ m + j) ∧ (∀ t ∈ B, t.depth ≤ m + j + 1) ∧ A.length + 2 * B.length ≤ 2 ^ (L - j) ∧ j ≤ L
theorem Qd.init {m L : Nat} {ts : List T} (h : ∀ t ∈ ts, t.depth ≤ m) (hl : ts.length ≤ 2 ^ L) : Qd m L ts := ⟨ts, [], 0, by simp, h, by simp, by simpa using hl, Nat.zero_le _⟩
theorem Qd.one {m L : Nat} {t : T} (h : Qd m L [t]) : t.depth ≤ m + L := by
  obtain ⟨A, B, j, e, hA, hB, hn, hj⟩ := h
  match A, B, e with
  | x :: A, B, e =>
    simp at e
    have := hA x (by simp)
    rw [e.1]; omega
  | [], x :: B, e =>
    simp at e
    have := hB x (by simp)
    rw [e.1]
    simp only [List.length_cons, List.length_nil] at hn
    rcases Nat.lt_or_ge j L with h | h
    · omega
    · have : L - j = 0 := by omega
      rw [this] at hn; simp at hn; omega
end PL
set_option Elab.async false
set_option linter.all false
set_option maxRecDepth 100000
namespace PL
set_option autoImplicit false
open L2
noncomputable def b_parts_of : Es := (seqS (ifS (e2 gEq (e2 gIx (eVar 0) (eC (.int (0)))) (eC (.str [110, 97, 109, 101]))) (retS (eLst aNil)) skipS)
  (retS (eCall gListOf (aCons (eSl (eVar 0) (oSome (eC (.int (1)))) oNone) aNil))))
noncomputable def b_gather_l1 (f_parts_of f_gather : Fn) : Es := (callS [.fz (eFrz 2), .bw 1] f_gather kDrop)
noncomputable def b_gather (f_parts_of f_gather : Fn) : Es := (seqS (ifS (e2 gEq (e2 gIx (eVar 0) (eC (.int (0)))) (eC (.str [110, 97, 109, 101]))) (setD 1 (e2 gIx (eVar 0) (eC (.int (1)))) (eC (.bl true))) skipS)
  (forS (iSeq (eFn f_parts_of (aCons (eFrz 0) aNil))) (ftOne 2) (b_gather_l1 f_parts_of f_gather)))
noncomputable def b_names_in (f_gather : Fn) : Es := (seqS (asgN 1 eDic0)
  (seqS (callS [.fz (eFrz 0), .bw 1] f_gather kDrop)
  (retS (eCall gSorted (aCons (eCall gListA (aCons (eVar 1) aNil)) aNil)))))
end PL
set_option Elab.async false
set_option linter.all false
set_option maxRecDepth 100000
set_option maxHeartbeats 1000000
namespace PL
set_option autoImplicit false
open L2
def T.parts : T → List T
  | .nt t => [t]
  | .bin _ s t => [s, t]
  | _ => []
theorem K4.code_ne (k : K4) : k.code ≠ [110, 97, 109, 101] := by cases k <;> simp [K4.code]
def PartsOk (f : Fn) : Prop := ∀ t : T, f [.val t.toD] = .ok (.val (.lst (t.parts.map T.toD))) [.val t.toD]
theorem parts_ok : PartsOk (bodyF 1 1 1 b_parts_of) := fun t => by
  cases t with
  | bin k s t => have h := K4.code_ne k; simp (disch := first | assumption | decide | omega | (simp only [List.length_append, List.length_cons, List.length_nil, List.length_map, List.length_reverse, List.length_replicate, List.length_range, List.length_take, List.length_drop, enD_length, rangeD_length]; first | decide | omega) | (simp; done) | fail) [decide_eq_true, decide_eq_false, kAsg, kNx, b_parts_of, T.toD, T.parts, h]
  | _ => simp (disch := first | assumption | decide | omega | (simp only [List.length_append, List.length_cons, List.length_nil, List.length_map, List.length_reverse, List.length_replicate, List.length_range, List.length_take, List.length_drop, enD_length, rangeD_length]; first | decide | omega) | (simp; done) | fail) [decide_eq_true, decide_eq_false, kAsg, kNx, b_parts_of, T.toD, T.parts]
def addN (xs : List (List Nat)) (x : List Nat) : List (List Nat) := if x ∈ xs then xs else xs ++ [x]
def T.names : T → List (List Nat) → List (List Nat)
  | .nm x, xs => addN xs x
  | .nt t, xs => t.names xs
  | .bin _ s t, xs => t.names (s.names xs)
  | _, xs => xs
def metE (xs : List (List Nat)) : List (Kc × D) := xs.map fun x => (.inr x, .bl true)
theorem putC_met (xs : List (List Nat)) (x : List Nat) : putC (metE xs) (.inr x) (.bl true) = metE (addN xs x) := by
  have e1 : ((metE xs).any fun e => decide (e.1 = .inr x)) = decide (x ∈ xs) := by
    unfold metE
    rw [List.any_map]
    induction xs with
    | nil => simp
    | cons a l ih => 
      rw [List.any_cons, ih]
      by_cases h : a = x
      · subst h; simp
      · have h' : ¬ x = a := fun e => h e.symm
        simp [h, h']
  unfold putC addN
  rw [e1]
  by_cases h : x ∈ xs
  · simp only [h, decide_true, if_true]
    unfold metE
    rw [List.map_map]
    refine List.map_congr_left fun y _ => ?_
    simp only [Function.comp]
    split <;> rfl
  · simp only [h, decide_false, if_false, Bool.false_eq_true]
    simp [metE]
theorem addN_len (xs : List (List Nat)) (x : List Nat) : (addN xs x).length ≤ xs.length + 1 := by unfold addN; split <;> simp
theorem names_len : ∀ (t : T) (xs : List (List Nat)), (t.names xs).length ≤ xs.length + t.size
  | .nm x, xs => addN_len xs x
  | .yes, xs => by simp only [T.names, T.size]; omega
  | .no, xs => by simp only [T.names, T.size]; omega
  | .nt t, xs => by have := names_len t xs; simp only [T.names, T.size]; omega
  | .bin _ s t, xs => by
    have h1 := names_len s xs
    have h2 := names_len t (s.names xs)
    simp only [T.names, T.size]; omega
def GatherOk (n : Nat) (f : Fn) : Prop := ∀ (t : T) (xs : List (List Nat)), t.depth ≤ n → xs.length + t.size ≤ 1000000 → f [.val t.toD, .own (.dic (metE xs))] = .ok (.val .non) [.val t.toD, .own (.dic (metE (t.names xs)))]
theorem metE_len (xs : List (List Nat)) : (metE xs).length = xs.length := List.length_map _
theorem fgn (ft : D → R (List (Nat × D))) (fb : Es) (ρ : List Sl) : forGo ft fb [] ρ = .nx ρ := rfl
theorem gather_l1 {n : Nat} {fp fg : Fn} (hg : GatherOk n fg) (u : T) (xs : List (List Nat)) (hu : u.depth ≤ n) (hx : xs.length + u.size ≤ 1000000) (a : Sl) : b_gather_l1 fp fg [a, .own (.dic (metE xs)), .val u.toD] = .nx [a, .own (.dic (metE (u.names xs))), .val u.toD] := by
  have h := hg u xs hu hx
  simp (disch := first | assumption | decide | omega | (simp only [List.length_append, List.length_cons, List.length_nil, List.length_map, List.length_reverse, List.length_replicate, List.length_range, List.length_take, List.length_drop, enD_length, rangeD_length]; first | decide | omega) | (simp; done) | fail) [decide_eq_true, decide_eq_false, kAsg, kNx, b_gather_l1, h]
theorem gather_ok {n : Nat} {fp fg : Fn} (hp : PartsOk fp) (hg : GatherOk n fg) : GatherOk (n + 1) (bodyF 3 2 2 (b_gather fp fg)) := fun t xs ht hx => by
  have h1 := hp t
  cases t with
  | nm x =>
    have e := putC_met xs x
    have hm : (metE xs).length < 1000000 := by rw [metE_len]; simp only [T.size] at hx; omega
    simp only [T.toD, T.parts, List.map_nil] at h1
    simp (disch := first | assumption | decide | omega | (simp only [List.length_append, List.length_cons, List.length_nil, List.length_map, List.length_reverse, List.length_replicate, List.length_range, List.length_take, List.length_drop, enD_length, rangeD_length]; first | decide | omega) | (simp; done) | fail) [decide_eq_true, decide_eq_false, kAsg, kNx, b_gather, h1, T.toD, T.names, key_str, e, fgn]
  | yes => 
    simp only [T.toD, T.parts, List.map_nil] at h1
    simp (disch := first | assumption | decide | omega | (simp only [List.length_append, List.length_cons, List.length_nil, List.length_map, List.length_reverse, List.length_replicate, List.length_range, List.length_take, List.length_drop, enD_length, rangeD_length]; first | decide | omega) | (simp; done) | fail) [decide_eq_true, decide_eq_false, kAsg, kNx, b_gather, h1, T.toD, T.names, fgn]
  | no => 
    simp only [T.toD, T.parts, List.map_nil] at h1
    simp (disch := first | assumption | decide | omega | (simp only [List.length_append, List.length_cons, List.length_nil, List.length_map, List.length_reverse, List.length_replicate, List.length_range, List.length_take, List.length_drop, enD_length, rangeD_length]; first | decide | omega) | (simp; done) | fail) [decide_eq_true, decide_eq_false, kAsg, kNx, b_gather, h1, T.toD, T.names, fgn]
  | nt t => 
    simp only [T.depth, T.size] at ht hx
    have g := fun (a b : Sl) => forGo_cons_nx (ft := ftOne 2) (fb := b_gather_l1 fp fg) (d := t.toD) (ds := []) (ρ := [a, .own (.dic (metE xs)), b]) rfl (gather_l1 hg t xs (by omega) (by omega) a)
    simp only [T.toD, T.parts, List.map_nil, List.map_cons] at h1
    simp (disch := first | assumption | decide | omega | (simp only [List.length_append, List.length_cons, List.length_nil, List.length_map, List.length_reverse, List.length_replicate, List.length_range, List.length_take, List.length_drop, enD_length, rangeD_length]; first | decide | omega) | (simp; done) | fail) [decide_eq_true, decide_eq_false, kAsg, kNx, b_gather, h1, T.toD, T.names, g, fgn]
  | bin k s t => 
    have hk := K4.code_ne k
    simp only [T.depth, T.size] at ht hx
    have hs := names_len s xs
    have g := fun (a b : Sl) => forGo_cons_nx (ft := ftOne 2) (fb := b_gather_l1 fp fg) (d := s.toD) (ds := [t.toD]) (ρ := [a, .own (.dic (metE xs)), b]) rfl (gather_l1 hg s xs (by omega) (by omega) a)
    have g2 := fun (a b : Sl) => forGo_cons_nx (ft := ftOne 2) (fb := b_gather_l1 fp fg) (d := t.toD) (ds := []) (ρ := [a, .own (.dic (metE (s.names xs))), b]) rfl (gather_l1 hg t (s.names xs) (by omega) (by omega) a)
    simp only [T.toD, T.parts, List.map_nil, List.map_cons] at h1
    simp (disch := first | assumption | decide | omega | (simp only [List.length_append, List.length_cons, List.length_nil, List.length_map, List.length_reverse, List.length_replicate, List.length_range, List.length_take, List.length_drop, enD_length, rangeD_length]; first | decide | omega) | (simp; done) | fail) [decide_eq_true, decide_eq_false, kAsg, kNx, b_gather, h1, T.toD, T.names, g, g2, hk, fgn]
theorem sortOf_nil {α : Type} (le : α → α → Prop) : sortOf le ([] : List α) = [] := by
  unfold sortOf sortP
  split
  next h => exact List.perm_nil.mp (Classical.choose_spec h).1
  next => rfl
theorem sortOf_mem {α : Type} {le : α → α → Prop} {xs : List α} {x : α} (h : x ∈ sortOf le xs) : x ∈ xs := by
  unfold sortOf sortP at h
  split at h
  next g => exact (Classical.choose_spec g).1.mem_iff.mp h
  next => cases h
theorem gSorted_s (xs : List (List Nat)) (h : xs.length < 64) : gSorted [.lst (xs.map .str)] = .ok (.lst ((sortOf leS xs).map .str)) := by
  cases xs with
  | nil => rw [sortOf_nil]; simp [gSorted, D.ints, sortOf_nil]
  | cons x xs =>
    have e : D.ints ((x :: xs).map D.str) = none := rfl
    have e2 : D.strs ((x :: xs).map D.str) = some (x :: xs) := by have := strs_map (fun x : List Nat => x) (x :: xs); simpa using this
    unfold gSorted
    simp only [e, e2]
    exact if_pos h
theorem map_keyD (xs : List (List Nat)) : (metE xs).map (fun q => keyD q.1) = xs.map .str := by
  unfold metE
  rw [List.map_map]
  rfl
def NamesInOk (n : Nat) (f : Fn) : Prop := ∀ t : T, t.depth ≤ n → t.size ≤ 1000000 → (t.names []).length < 64 → f [.val t.toD] = .ok (.val (.lst ((sortOf leS (t.names [])).map .str))) [.val t.toD]
theorem names_in_ok {n : Nat} {fg : Fn} (hg : GatherOk n fg) : NamesInOk n (bodyF 2 1 1 (b_names_in fg)) := fun t ht hs hl => by
  have h := hg t [] ht (by simpa using hs)
  have e : metE [] = [] := rfl
  rw [e] at h
  have h2 := gSorted_s _ hl
  have h3 := map_keyD (t.names [])
  have h4 := gListA_d (metE (t.names []))
  rw [h3] at h4
  simp (disch := first | assumption | decide | omega | (simp only [List.length_append, List.length_cons, List.length_nil, List.length_map, List.length_reverse, List.length_replicate, List.length_range, List.length_take, List.length_drop, enD_length, rangeD_length]; first | decide | omega) | (simp; done) | fail) [decide_eq_true, decide_eq_false, kAsg, kNx, b_names_in, h, h4, h2]
def T.has (x : List Nat) : T → Bool
  | .nm y => decide (y = x)
  | .nt t => t.has x
  | .bin _ s t => s.has x || t.has x
  | _ => false
theorem addN_mem (xs : List (List Nat)) (x y : List Nat) : y ∈ addN xs x ↔ y ∈ xs ∨ y = x := by
  unfold addN
  split
  next h => exact ⟨.inl, fun g => g.elim id fun e => e ▸ h⟩
  next h => simp
theorem addN_nodup (xs : List (List Nat)) (x : List Nat) (h : xs.Nodup) : (addN xs x).Nodup := by
  unfold addN
  split
  · exact h
  next g => exact List.nodup_append.mpr ⟨h, by simp, fun a ha b hb => by simp at hb; subst hb; exact fun e => g (e ▸ ha)⟩
theorem names_mem : ∀ (t : T) (xs : List (List Nat)) (y : List Nat), y ∈ t.names xs ↔ y ∈ xs ∨ t.has y = true
  | .nm x, xs, y => by
    simp only [T.names, T.has, addN_mem, decide_eq_true_eq]
    exact ⟨fun h => h.imp id fun e => e.symm, fun h => h.imp id fun e => e.symm⟩
  | .yes, xs, y => by simp [T.names, T.has]
  | .no, xs, y => by simp [T.names, T.has]
  | .nt t, xs, y => names_mem t xs y
  | .bin _ s t, xs, y => by
    simp only [T.names, T.has, Bool.or_eq_true]
    rw [names_mem t, names_mem s, or_assoc]
theorem names_nodup : ∀ (t : T) (xs : List (List Nat)), xs.Nodup → (t.names xs).Nodup
  | .nm x, xs, h => addN_nodup xs x h
  | .yes, xs, h => h
  | .no, xs, h => h
  | .nt t, xs, h => names_nodup t xs h
  | .bin _ s t, xs, h => names_nodup t _ (names_nodup s xs h)
theorem has_in {ns : List (List Nat)} {y : List Nat} : ∀ {t : T}, t.nmIn ns → t.has y = true → y ∈ ns
  | .nm x, h, e => by simp only [T.has, decide_eq_true_eq] at e; subst e; exact h
  | .yes, _, e => by cases e
  | .no, _, e => by cases e
  | .nt t, h, e => has_in (t := t) h e
  | .bin _ s t, h, e => by
    simp only [T.has, Bool.or_eq_true] at e
    rcases e with e | e
    · exact has_in h.1 e
    · exact has_in h.2 e
theorem perm_of {α : Type} [DecidableEq α] : ∀ {xs ys : List α}, xs.Nodup → ys.Nodup → (∀ a, a ∈ xs ↔ a ∈ ys) → xs.Perm ys
  | [], ys, _, _, h => by
    cases ys with
    | nil => exact .nil
    | cons y ys => exact absurd ((h y).mpr (by simp)) (by simp)
  | x :: xs, ys, hx, hy, h => by
    have hm : x ∈ ys := (h x).mp (by simp)
    have p := List.perm_cons_erase hm
    refine (List.Perm.cons x (perm_of (List.nodup_cons.mp hx).2 (hy.erase x) fun a => ?_)).trans p.symm
    rw [hy.mem_erase_iff]
    constructor
    · intro ha
      exact ⟨fun e => (List.nodup_cons.mp hx).1 (e ▸ ha), (h a).mp (by simp [ha])⟩
    · rintro ⟨h1, h2⟩
      rcases List.mem_cons.mp ((h a).mpr h2) with e | e
      · exact absurd e h1
      · exact e
theorem names_le {ns : List (List Nat)} (hn : ns.Nodup) {t : T} (h : t.nmIn ns) : (t.names []).length ≤ ns.length := by
  have p : (t.names []).Perm (ns.filter fun x => t.has x) := perm_of (names_nodup t [] (by simp)) (List.Pairwise.filter _ hn) fun a => by
    rw [names_mem, List.mem_filter]
    constructor
    · rintro (h1 | h1)
      · cases h1
      · exact ⟨has_in h h1, h1⟩
    · rintro ⟨_, h1⟩
      exact .inr h1
  rw [p.length_eq]
  exact List.length_filter_le _ _
theorem nodup_range {α : Type} (f : Nat → α) (m : Nat) (h : ∀ i j, i < j → j < m → f i ≠ f j) : ((List.range m).map f).Nodup := by
  refine List.pairwise_map.mpr ?_
  have hp : (List.range m).Pairwise (fun a b => a < b) := List.pairwise_lt_range
  refine List.Pairwise.imp_of_mem (fun {a b} ha hb hab => h a b hab (List.mem_range.mp hb)) hp
theorem letter_ok (i : Int) : letter i < 1114112 := by unfold letter; omega
end PL
set_option Elab.async false
set_option linter.all false
set_option maxRecDepth 100000
set_option maxHeartbeats 1000000
namespace PL
set_option autoImplicit false
open PySem L2
def mindD (ns : List (List Nat)) (rk : List Int) : D := .tup [nmD ns, .tup (rk.map .int)]
theorem okd_mind {ns : List (List Nat)} (h : nmOk ns) (rk : List Int) : Okd 2 (mindD ns rk) := okd_tup fun d hd => by
  simp only [List.mem_cons, List.not_mem_nil, or_false] at hd
  rcases hd with rfl | rfl
  · exact okd_nm h
  · exact okd_tup (okd_ints rk)
theorem rangeD_get {n : Nat} {i : Nat} {d : D} (h : (rangeD 0 (n : Nat))[i]? = some d) : i < n ∧ d = .int (i : Nat) := by
  have hi : i < n := by have := (List.getElem?_eq_some_iff.mp h).1; simp at this; omega
  refine ⟨hi, ?_⟩
  unfold rangeD at h
  rw [List.getElem?_map, List.getElem?_range (by omega)] at h
  have e : (0 + (i : Nat) : Int) = (i : Nat) := by omega
  have h2 := Option.some.inj h
  rw [← h2]
  show D.int (0 + (i : Nat)) = _
  rw [e]
end PL
set_option Elab.async false
set_option linter.all false
set_option maxRecDepth 100000
set_option maxHeartbeats 1000000
namespace PL
set_option autoImplicit false
open PySem L2
theorem flat_rep (n : Nat) (c : Nat) : (List.replicate n [c]).flatten = List.replicate n c := by
  induction n with
  | zero => rfl
  | succ n ih => simp [List.replicate_succ, ih]
end PL
set_option Elab.async false
set_option linter.all false
set_option maxRecDepth 100000
set_option maxHeartbeats 1000000
namespace PL
set_option autoImplicit false
open PySem L2
end PL
set_option Elab.async false
set_option linter.all false
set_option maxRecDepth 100000
namespace PL
set_option autoImplicit false
open L2
noncomputable def b_look_names_l1 (f_names_in : Fn) : Es := (ifS (e2 gNi (eVar 2) (eVar 0)) (raiseS 3) skipS)
noncomputable def b_look_names (f_names_in : Fn) : Es := (forS (iSeq (eFn f_names_in (aCons (eFrz 1) aNil))) (ftOne 2) (b_look_names_l1 f_names_in))
noncomputable def b_full : Es := (retS (e2 gSub (e2 gShl (eC (.int (1))) (e2 gShl (eC (.int (1))) (eCall gLen (aCons (eVar 0) aNil)))) (eC (.int (1)))))
noncomputable def b_column_l1 : Es := (seqS (augV 3 gOr (e2 gShl (eVar 3) (eVar 2)))
  (asgS (ftOne 2) (e2 gMul (eC (.int (2))) (eVar 2))))
noncomputable def b_column : Es := (seqS (asgS (ftOne 2) (e2 gShl (eC (.int (1))) (eVar 1)))
  (seqS (asgS (ftOne 3) (e2 gShl (e2 gSub (e2 gShl (eC (.int (1))) (eVar 2)) (eC (.int (1)))) (eVar 2)))
  (seqS (asgS (ftOne 2) (e2 gMul (eC (.int (2))) (eVar 2)))
  (seqS (whileS (e2 (gCmp pLt) (eVar 2) (e2 gShl (eC (.int (1))) (eVar 0))) b_column_l1 1000000)
  (retS (eFrz 3))))))
noncomputable def b_table_within (f_column f_full f_table_within : Fn) : Es := (seqS (asgS (ftOne 2) (e2 gIx (eVar 1) (eC (.int (0)))))
  (seqS (ifS (e2 gEq (eVar 2) (eC (.str [110, 97, 109, 101]))) (retS (eFn f_column (aCons (eCall gLen (aCons (eVar 0) aNil)) (aCons (eIndex (eVar 0) (e2 gIx (eVar 1) (eC (.int (1))))) aNil)))) skipS)
  (seqS (ifS (tOo (e2 gEq (eVar 2) (eC (.str [121, 101, 115]))) (e2 gEq (eVar 2) (eC (.str [110, 111])))) (retS (eIf (e2 gEq (eVar 2) (eC (.str [121, 101, 115]))) (eFn f_full (aCons (eFrz 0) aNil)) (eC (.int (0))))) skipS)
  (seqS (asgS (ftOne 3) (eFn f_table_within (aCons (eFrz 0) (aCons (e2 gIx (eVar 1) (eC (.int (1)))) aNil))))
  (seqS (ifS (e2 gEq (eVar 2) (eC (.str [110, 111, 116]))) (retS (e2 gXor (eFn f_full (aCons (eFrz 0) aNil)) (eVar 3))) skipS)
  (seqS (asgS (ftOne 4) (eFn f_table_within (aCons (eFrz 0) (aCons (e2 gIx (eVar 1) (eC (.int (2)))) aNil))))
  (seqS (ifS (e2 gEq (eVar 2) (eC (.str [97, 110, 100]))) (retS (e2 gAnd (eVar 3) (eVar 4))) skipS)
  (seqS (ifS (e2 gEq (eVar 2) (eC (.str [111, 114]))) (retS (e2 gOr (eVar 3) (eVar 4))) skipS)
  (seqS (ifS (e2 gEq (eVar 2) (eC (.str [116, 104, 101, 110]))) (retS (e2 gOr (e2 gXor (eFn f_full (aCons (eFrz 0) aNil)) (eVar 3)) (eVar 4))) skipS)
  (retS (e2 gXor (e2 gXor (eFn f_full (aCons (eFrz 0) aNil)) (eVar 3)) (eVar 4))))))))))))
noncomputable def b_table (f_look_names f_table_within : Fn) : Es := (seqS (expS (eFn f_look_names (aCons (eFrz 0) (aCons (eFrz 1) aNil))))
  (retS (eFn f_table_within (aCons (eFrz 0) (aCons (eFrz 1) aNil)))))
noncomputable def b_flat : Es := (retS (eTup (aCons (eCall gTupleOf (aCons (eVar 0) aNil)) (aCons (eCall gTupleOf (aCons (e2 gRep (eLst (aCons (eC (.int (0))) aNil)) (e2 gShl (eC (.int (1))) (eCall gLen (aCons (eVar 0) aNil)))) aNil)) aNil))))
noncomputable def b_column_9b2c_l1 : Es := (seqS (asgS (ftOne 2) (e2 gOr (eVar 2) (e2 gShl (eVar 2) (eVar 3))))
  (asgS (ftOne 3) (e2 gMul (eC (.int (2))) (eVar 3))))
noncomputable def b_column_9b2c : Es := (seqS (asgS (ftOne 2) (e2 gShl (e2 gSub (e2 gShl (eC (.int (1))) (e2 gShl (eC (.int (1))) (eVar 1))) (eC (.int (1)))) (e2 gShl (eC (.int (1))) (eVar 1))))
  (seqS (asgS (ftOne 3) (e2 gShl (eC (.int (2))) (eVar 1)))
  (seqS (whileS (e2 (gCmp pLt) (eVar 3) (e2 gShl (eC (.int (1))) (eVar 0))) b_column_9b2c_l1 1000000)
  (retS (eFrz 2)))))
noncomputable def b_least_rank_l1 : Es := (ifS (tAn (e2 gEq (e2 gAnd (e2 gShr (eVar 1) (eVar 3)) (eC (.int (1)))) (eC (.int (1)))) (tOo (e1 gIsN (eVar 2)) (e2 (gCmp pLt) (eVar 4) (eVar 2)))) (asgS (ftOne 2) (eFrz 4)) skipS)
noncomputable def b_least_rank : Es := (seqS (asgS (ftOne 2) (eC .non))
  (seqS (forS (iEn (eFrz 0)) (ftTup [3, 4]) b_least_rank_l1)
  (retS (eFrz 2))))
noncomputable def b_firmness (f_full f_table f_least_rank : Fn) : Es := (seqS (asgS (ftTup [2, 3]) (eFrz 0))
  (retS (eFn f_least_rank (aCons (eFrz 3) (aCons (e2 gXor (eFn f_full (aCons (eFrz 2) aNil)) (eFn f_table (aCons (eFrz 2) (aCons (eFrz 1) aNil)))) aNil)))))
noncomputable def b_keeps : Es := (retS (eBl (e2 gEq (e2 gAnd (e2 gShr (eVar 0) (eVar 1)) (eC (.int (1)))) (eC (.int (1))))))
noncomputable def b_turned_l1 (f_table f_full f_least_rank f_keeps : Fn) : Es := (ifS (e1 tBool (eFn f_keeps (aCons (eFrz 5) (aCons (eFrz 10) aNil)))) (mutS 9 gAppend (aCons (e2 gAdd (eVar 11) (eVar 7)) aNil) kNx) (mutS 9 gAppend (aCons (e2 gAdd (eVar 11) (eVar 8)) aNil) kNx))
noncomputable def b_turned (f_table f_full f_least_rank f_keeps : Fn) : Es := (seqS (asgS (ftTup [3, 4]) (eFrz 0))
  (seqS (asgS (ftOne 5) (eFn f_table (aCons (eFrz 3) (aCons (eFrz 1) aNil))))
  (seqS (asgS (ftOne 6) (eFn f_full (aCons (eFrz 3) aNil)))
  (seqS (ifS (e2 gEq (eVar 5) (eVar 6)) (raiseS 4) skipS)
  (seqS (ifS (e2 gEq (eVar 5) (eC (.int (0)))) (raiseS 5) skipS)
  (seqS (asgS (ftOne 7) (e2 gSub (eCall gMax2 (aCons (eC (.int (0))) (aCons (e1 gNeg (eVar 2)) aNil))) (eFn f_least_rank (aCons (eFrz 4) (aCons (eFrz 5) aNil)))))
  (seqS (asgS (ftOne 8) (e2 gSub (eCall gMax2 (aCons (eC (.int (0))) (aCons (eVar 2) aNil))) (eFn f_least_rank (aCons (eFrz 4) (aCons (e2 gXor (eVar 6) (eVar 5)) aNil)))))
  (seqS (asgN 9 (eLst aNil))
  (seqS (forS (iEn (eFrz 4)) (ftTup [10, 11]) (b_turned_l1 f_table f_full f_least_rank f_keeps))
  (retS (eTup (aCons (eFrz 3) (aCons (eCall gTupleOf (aCons (eVar 9) aNil)) aNil)))))))))))))
noncomputable def b_given_up (f_firmness f_turned : Fn) : Es := (seqS (asgS (ftOne 2) (eFn f_firmness (aCons (eFrz 0) (aCons (eFrz 1) aNil))))
  (seqS (ifS (e1 gIsN (eVar 2)) (raiseS 4) skipS)
  (seqS (ifS (e2 gEq (eVar 2) (eC (.int (0)))) (retS (eFrz 0)) skipS)
  (retS (eFn f_turned (aCons (eFrz 0) (aCons (eFrz 1) (aCons (eC (.int (0))) aNil))))))))
noncomputable def b_taken_on (f_table f_full f_turned : Fn) : Es := (seqS (asgS (ftOne 3) (e2 gIx (eVar 0) (eC (.int (0)))))
  (seqS (ifS (e2 gEq (eFn f_table (aCons (eFrz 3) (aCons (eFrz 1) aNil))) (eFn f_full (aCons (eFrz 3) aNil))) (retS (eFrz 0)) skipS)
  (retS (eFn f_turned (aCons (eFrz 0) (aCons (eFrz 1) (aCons (eFrz 2) aNil)))))))
end PL
set_option Elab.async false
set_option linter.all false
set_option maxRecDepth 100000
set_option maxHeartbeats 1000000
set_option exponentiation.threshold 20000
namespace PL
set_option autoImplicit false
open PySem L2 PyProof.Rows
theorem band_nat (a b : Nat) : Builtin.bitAnd (a : Int) (b : Int) = ((a &&& b : Nat) : Int) := PySem.W.os_band a b
theorem bor_nat (a b : Nat) : Builtin.bitOr (a : Int) (b : Int) = ((a ||| b : Nat) : Int) := by
  have e1 : decide (0 ≤ Builtin.bitNot (a : Int)) = false := decide_eq_false (by unfold Builtin.bitNot; omega)
  have e2 : decide (0 ≤ Builtin.bitNot (b : Int)) = false := decide_eq_false (by unfold Builtin.bitNot; omega)
  have e3 : (Builtin.bitNot (Builtin.bitNot (a : Int))).toNat = a := by unfold Builtin.bitNot; omega
  have e4 : (Builtin.bitNot (Builtin.bitNot (b : Int))).toNat = b := by unfold Builtin.bitNot; omega
  unfold Builtin.bitOr Builtin.bitAnd
  simp only [e1, e2, e3, e4]
  unfold Builtin.bitNot
  omega
theorem or_and_xor : ∀ (n a b : Nat), a ≤ n → (a ||| b) = (a ^^^ b) + (a &&& b)
  | 0, a, b, h => by
    have e : a = 0 := by omega
    subst e; simp
  | n + 1, a, b, h => by
    by_cases h0 : a = 0
    · subst h0; simp
    · have ih := or_and_xor n (a / 2) (b / 2) (by omega)
      have d1 : (a ||| b) / 2 = (a / 2 ||| b / 2) := Nat.or_div_two
      have d2 : (a ^^^ b) / 2 = (a / 2 ^^^ b / 2) := Nat.xor_div_two
      have d3 : (a &&& b) / 2 = (a / 2 &&& b / 2) := Nat.and_div_two
      have m : (a ||| b) % 2 = (a ^^^ b) % 2 + (a &&& b) % 2 := by
        have q1 : (a ||| b).testBit 0 = (a.testBit 0 || b.testBit 0) := Nat.testBit_or ..
        have q2 : (a ^^^ b).testBit 0 = (a.testBit 0 ^^ b.testBit 0) := Nat.testBit_xor ..
        have q3 : (a &&& b).testBit 0 = (a.testBit 0 && b.testBit 0) := Nat.testBit_and ..
        simp only [Nat.testBit_zero] at q1 q2 q3
        rcases Nat.mod_two_eq_zero_or_one a with ha | ha <;> rcases Nat.mod_two_eq_zero_or_one b with hb | hb <;> rcases Nat.mod_two_eq_zero_or_one (a ||| b) with h1 | h1 <;> rcases Nat.mod_two_eq_zero_or_one (a ^^^ b) with h2 | h2 <;> rcases Nat.mod_two_eq_zero_or_one (a &&& b) with h3 | h3 <;>
          rw [h1, ha, hb] at q1 <;> rw [h2, ha, hb] at q2 <;> rw [h3, ha, hb] at q3 <;> rw [h1, h2, h3] <;> first | rfl | exact absurd q1 (by decide) | exact absurd q2 (by decide) | exact absurd q3 (by decide)
      omega
theorem bxor_nat (a b : Nat) : Builtin.bitXor (a : Int) (b : Int) = ((a ^^^ b : Nat) : Int) := by
  unfold Builtin.bitXor
  rw [bor_nat, band_nat]
  have := or_and_xor a a b (Nat.le_refl _)
  omega
theorem modI (a w : Nat) : (a : Int) / 2 ^ w % 2 = if a.testBit w = true then 1 else 0 := by
  have e : (a : Int) / 2 ^ w % 2 = ((a / 2 ^ w % 2 : Nat) : Int) := by simp
  rw [e]
  have h : a.testBit w = decide (a / 2 ^ w % 2 = 1) := by
    rw [Nat.testBit_eq_decide_div_mod_eq]
  rw [h]
  rcases Nat.mod_two_eq_zero_or_one (a / 2 ^ w) with q | q <;> rw [q] <;> simp
theorem bitI (a w : Nat) : Builtin.bitAnd ((a : Int) / 2 ^ w) 1 = if a.testBit w = true then 1 else 0 := by
  rw [bitAnd_m1, modI]
def tabOf (p : Nat → Bool) : Nat → Nat
  | 0 => 0
  | n + 1 => tabOf p n + (if p n = true then 2 ^ n else 0)
theorem tabOf_lt (p : Nat → Bool) : ∀ n, tabOf p n < 2 ^ n
  | 0 => by simp [tabOf]
  | n + 1 => by
    have := tabOf_lt p n
    simp only [tabOf, Nat.pow_succ]
    split <;> omega
theorem tabOf_bit (p : Nat → Bool) : ∀ (n w : Nat), (tabOf p n).testBit w = (decide (w < n) && p w)
  | 0, w => by simp [tabOf]
  | n + 1, w => by
    have hlt := tabOf_lt p n
    have ih := tabOf_bit p n w
    simp only [tabOf]
    by_cases hp : p n = true
    · rw [if_pos hp, Nat.add_comm]
      by_cases hw : w < n
      · rw [Nat.testBit_two_pow_add_gt hw, ih]
        simp [hw, show w < n + 1 by omega]
      · by_cases he : w = n
        · subst he
          rw [Nat.testBit_two_pow_add_eq, Nat.testBit_lt_two_pow hlt]
          simp [hp]
        · have h1 : 2 ^ n + tabOf p n < 2 ^ w := by
            have : 2 ^ (n + 1) ≤ 2 ^ w := Nat.pow_le_pow_right (by decide) (by omega)
            rw [Nat.pow_succ] at this; omega
          rw [Nat.testBit_lt_two_pow h1]
          simp [show ¬ w < n + 1 by omega]
    · rw [if_neg hp, Nat.add_zero, ih]
      by_cases hw : w < n
      · simp [hw, show w < n + 1 by omega]
      · by_cases he : w = n
        · subst he; simp [hp]
        · simp [hw, show ¬ w < n + 1 by omega]
theorem tab_eq {a : Nat} {p : Nat → Bool} {n : Nat} (h : ∀ w, a.testBit w = (decide (w < n) && p w)) : a = tabOf p n :=
  Nat.eq_of_testBit_eq fun w => by rw [h, tabOf_bit]
theorem tab_congr {p q : Nat → Bool} {n : Nat} (h : ∀ w, w < n → p w = q w) : tabOf p n = tabOf q n :=
  tab_eq fun w => by
    rw [tabOf_bit]
    by_cases hw : w < n
    · rw [h w hw]
    · simp [hw]
theorem tab_inj {p q : Nat → Bool} {n : Nat} (h : tabOf p n = tabOf q n) : ∀ w, w < n → p w = q w := fun w hw => by
  have := congrArg (fun a => a.testBit w) h
  simpa [tabOf_bit, hw] using this
theorem tab_full (n : Nat) : 2 ^ n - 1 = tabOf (fun _ => true) n := tab_eq fun w => by rw [Nat.testBit_two_pow_sub_one]; simp
theorem tab_and (p q : Nat → Bool) (n : Nat) : (tabOf p n &&& tabOf q n) = tabOf (fun w => p w && q w) n := tab_eq fun w => by
  rw [Nat.testBit_and, tabOf_bit, tabOf_bit]; cases decide (w < n) <;> simp
theorem tab_or (p q : Nat → Bool) (n : Nat) : (tabOf p n ||| tabOf q n) = tabOf (fun w => p w || q w) n := tab_eq fun w => by
  rw [Nat.testBit_or, tabOf_bit, tabOf_bit]; cases decide (w < n) <;> simp
theorem tab_xor (p q : Nat → Bool) (n : Nat) : (tabOf p n ^^^ tabOf q n) = tabOf (fun w => p w ^^ q w) n := tab_eq fun w => by
  rw [Nat.testBit_xor, tabOf_bit, tabOf_bit]; cases decide (w < n) <;> simp
theorem tab_zero (n : Nat) : tabOf (fun _ => false) n = 0 := (tab_eq fun w => by simp).symm
def tabD (p : Nat → Bool) (n : Nat) : D := .int (tabOf p n : Nat)
def colP (k w : Nat) : Bool := w.testBit k
theorem col_start (k : Nat) : (2 ^ 2 ^ k - 1) * 2 ^ 2 ^ k = tabOf (colP k) (2 ^ (k + 1)) := tab_eq fun w => by
  have hp : 2 ^ (k + 1) = 2 ^ k + 2 ^ k := by rw [Nat.pow_succ]; omega
  rw [Nat.mul_comm, Nat.testBit_two_pow_mul, Nat.testBit_two_pow_sub_one]
  unfold colP
  by_cases h1 : w < 2 ^ k
  · have h2 : ¬ w ≥ 2 ^ k := by omega
    rw [Nat.testBit_lt_two_pow h1]
    simp [h1, h2]
  · by_cases h2 : w < 2 ^ (k + 1)
    · have e : w = 2 ^ k + (w - 2 ^ k) := by omega
      have h3 : w - 2 ^ k < 2 ^ k := by omega
      rw [e, Nat.testBit_two_pow_add_eq, Nat.testBit_lt_two_pow h3]
      have h4 : 2 ^ k + (w - 2 ^ k) < 2 ^ (k + 1) := by omega
      simp [h3, h4, Nat.add_sub_cancel_left]
    · have h3 : ¬ w - 2 ^ k < 2 ^ k := by omega
      simp [h2, h3]
theorem col_step (k j : Nat) (h : k < j) : (tabOf (colP k) (2 ^ j) ||| tabOf (colP k) (2 ^ j) * 2 ^ 2 ^ j) = tabOf (colP k) (2 ^ (j + 1)) := tab_eq fun w => by
  have hp : 2 ^ (j + 1) = 2 ^ j + 2 ^ j := by rw [Nat.pow_succ]; omega
  rw [Nat.testBit_or, Nat.mul_comm, Nat.testBit_two_pow_mul, tabOf_bit, tabOf_bit]
  unfold colP
  by_cases h1 : w < 2 ^ j
  · have h2 : ¬ w ≥ 2 ^ j := by omega
    have h3 : w < 2 ^ (j + 1) := by omega
    simp [h1, h2, h3]
  · by_cases h2 : w < 2 ^ (j + 1)
    · have e : w = 2 ^ j + (w - 2 ^ j) := by omega
      have h3 : w - 2 ^ j < 2 ^ j := by omega
      have h4 : w.testBit k = (w - 2 ^ j).testBit k := by
        conv => lhs; rw [e]
        rw [Nat.testBit_two_pow_add_gt h]
      have h5 : w ≥ 2 ^ j := by omega
      simp [h1, h2, h3, h4, h5]
    · have h3 : ¬ w - 2 ^ j < 2 ^ j := by omega
      simp [h1, h2, h3]
theorem gShl_nat (a b : Nat) (h : a < 2 ^ 10000) (h2 : b ≤ 1000000) : gShl (.int (a : Nat)) (.int (b : Nat)) = .ok (.int ((a * 2 ^ b : Nat) : Int)) := by
  rw [gShl_ok (by omega) (by omega) (by simpa using h)]
  simp
theorem one_big : (1 : Nat) < 2 ^ 10000 := by rw [show (1 : Nat) = 2 ^ 0 from rfl]; exact Nat.pow_lt_pow_right (by decide) (by decide)
theorem gShl_p (b : Nat) (h2 : b ≤ 1000000) : gShl (.int 1) (.int (b : Nat)) = .ok (.int ((2 ^ b : Nat) : Int)) := by
  have h := gShl_nat 1 b one_big h2
  rw [Nat.one_mul] at h
  exact h
theorem while_stop {fc : Ev Bool} {fb : Es} {ρ : List Sl} (n : Nat) (h : fc ρ = .ok false) : whileS fc fb (n + 1) ρ = .nx ρ := by simp [whileS, h, tryE]
theorem while_go {fc : Ev Bool} {fb : Es} {ρ ρ' : List Sl} (n : Nat) (h : fc ρ = .ok true) (hb : fb ρ = .nx ρ') : whileS fc fb (n + 1) ρ = whileS fc fb n ρ' := by simp [whileS, h, tryE, hb]
theorem pow_small {n : Nat} (h : n ≤ 9) : 2 ^ n ≤ 512 := Nat.pow_le_pow_right (n := 2) (by decide) h
theorem pow_big {n : Nat} (h : n ≤ 512) : 2 ^ n < 2 ^ 10000 := Nat.pow_lt_pow_right (by decide) (by omega)
theorem tab_big {p : Nat → Bool} {n : Nat} (h : n ≤ 512) : tabOf p n < 2 ^ 10000 := Nat.lt_trans (tabOf_lt p n) (pow_big h)
theorem col_loop (n k : Nat) (hn : n ≤ 8) : ∀ (d j fuel : Nat), j + d = n → k < j → d < fuel →
    whileS (e2 (gCmp pLt) (eVar 2) (e2 gShl (eC (.int (1))) (eVar 0))) b_column_l1 fuel [.val (.int (n : Nat)), .val (.int (k : Nat)), .val (.int ((2 ^ j : Nat) : Int)), .val (tabD (colP k) (2 ^ j))] =
      .nx [.val (.int (n : Nat)), .val (.int (k : Nat)), .val (.int ((2 ^ n : Nat) : Int)), .val (tabD (colP k) (2 ^ n))]
  | 0, j, fuel + 1, h1, h2, h3 => by
    have e : j = n := by omega
    subst e
    refine while_stop _ ?_
    have hs := gShl_p j (by omega)
    generalize 2 ^ j = N at *
    simp (disch := first | assumption | decide | omega | (simp only [List.length_append, List.length_cons, List.length_nil, List.length_map, List.length_reverse, List.length_replicate, List.length_range, List.length_take, List.length_drop, enD_length, rangeD_length]; first | decide | omega) | (simp; done) | fail) [decide_eq_true, decide_eq_false, kAsg, kNx, hs]
  | d + 1, j, fuel + 1, h1, h2, h3 => by
    have ih := col_loop n k hn d (j + 1) fuel (by omega) (by omega) (by omega)
    have hj : 2 ^ j < 2 ^ n := Nat.pow_lt_pow_right (by decide) (by omega)
    have hj2 := pow_small (n := j) (by omega)
    have hs := gShl_p n (by omega)
    have hs2 := gShl_nat (tabOf (colP k) (2 ^ j)) (2 ^ j) (tab_big hj2) (by omega)
    have ho := bor_nat (tabOf (colP k) (2 ^ j)) (tabOf (colP k) (2 ^ j) * 2 ^ 2 ^ j)
    rw [col_step k j h2] at ho
    have hm : (2 : Int) * ((2 ^ j : Nat) : Int) = ((2 ^ (j + 1) : Nat) : Int) := by rw [Nat.pow_succ]; omega
    unfold tabD at ih ⊢
    generalize tabOf (colP k) (2 ^ j) * 2 ^ 2 ^ j = G at *
    generalize tabOf (colP k) (2 ^ j) = A at *
    generalize tabOf (colP k) (2 ^ (j + 1)) = B at *
    generalize 2 ^ (j + 1) = J1 at *
    generalize 2 ^ j = J at *
    rw [while_go (ρ' := [.val (.int (n : Nat)), .val (.int (k : Nat)), .val (.int (J1 : Nat)), .val (.int (B : Nat))]) fuel ?_ ?_]
    · exact ih
    · generalize 2 ^ n = N at *
      simp (disch := first | assumption | decide | omega | (simp only [List.length_append, List.length_cons, List.length_nil, List.length_map, List.length_reverse, List.length_replicate, List.length_range, List.length_take, List.length_drop, enD_length, rangeD_length]; first | decide | omega) | (simp; done) | fail) [decide_eq_true, decide_eq_false, kAsg, kNx, hs, hj]
    · simp (disch := first | assumption | decide | omega | (simp only [List.length_append, List.length_cons, List.length_nil, List.length_map, List.length_reverse, List.length_replicate, List.length_range, List.length_take, List.length_drop, enD_length, rangeD_length]; first | decide | omega) | (simp; done) | fail) [decide_eq_true, decide_eq_false, kAsg, kNx, b_column_l1, hs2, ho, hm]
def ColOk (f : Fn) : Prop := ∀ n k : Nat, n ≤ 8 → k < n → f [.val (.int (n : Nat)), .val (.int (k : Nat))] = .ok (.val (tabD (colP k) (2 ^ n))) [.val (.int (n : Nat)), .val (.int (k : Nat))]
theorem col_ok : ColOk (bodyF 4 2 2 b_column) := fun n k hn hk => by
  have hl := col_loop n k hn (n - (k + 1)) (k + 1) 1000000 (by omega) (by omega) (by omega)
  have hk2 := pow_small (n := k) (by omega)
  have hs1 := gShl_p k (by omega)
  have hs2 := gShl_p (2 ^ k) (by omega)
  have hpos : 0 < 2 ^ 2 ^ k := Nat.pow_pos (by decide)
  have hlt := pow_big (n := 2 ^ k) (by omega)
  have hs3 := gShl_nat (2 ^ 2 ^ k - 1) (2 ^ k) (by omega) (by omega)
  rw [col_start] at hs3
  have hsub : ((2 ^ 2 ^ k : Nat) : Int) - 1 = ((2 ^ 2 ^ k - 1 : Nat) : Int) := by omega
  have hm : (2 : Int) * ((2 ^ k : Nat) : Int) = ((2 ^ (k + 1) : Nat) : Int) := by rw [Nat.pow_succ]; omega
  unfold tabD at hl ⊢
  generalize tabOf (colP k) (2 ^ (k + 1)) = B at *
  generalize tabOf (colP k) (2 ^ n) = C at *
  generalize 2 ^ 2 ^ k - 1 = E at *
  generalize 2 ^ 2 ^ k = EE at *
  generalize 2 ^ (k + 1) = J1 at *
  generalize 2 ^ k = J at *
  generalize 2 ^ n = N at *
  simp (disch := first | assumption | decide | omega | (simp only [List.length_append, List.length_cons, List.length_nil, List.length_map, List.length_reverse, List.length_replicate, List.length_range, List.length_take, List.length_drop, enD_length, rangeD_length]; first | decide | omega) | (simp; done) | fail) [decide_eq_true, decide_eq_false, kAsg, kNx, b_column, hs1, hs2, hs3, hsub, hm, hl]
end PL
set_option Elab.async false
set_option linter.all false
set_option maxRecDepth 100000
set_option maxHeartbeats 1000000
set_option exponentiation.threshold 20000
namespace PL
set_option autoImplicit false
open PySem L2 PyProof.Rows
theorem gAnd_tab (p q : Nat → Bool) (n : Nat) : gAnd (tabD p n) (tabD q n) = .ok (tabD (fun w => p w && q w) n) := by
  unfold tabD; rw [gAnd_ii, band_nat, tab_and]
theorem gOr_tab (p q : Nat → Bool) (n : Nat) : gOr (tabD p n) (tabD q n) = .ok (tabD (fun w => p w || q w) n) := by
  unfold tabD; rw [gOr_ii, bor_nat, tab_or]
theorem gXor_tab (p q : Nat → Bool) (n : Nat) : gXor (tabD p n) (tabD q n) = .ok (tabD (fun w => p w ^^ q w) n) := by
  unfold tabD; rw [gXor_ii, bxor_nat, tab_xor]
theorem gNot_tab (p : Nat → Bool) (n : Nat) : gXor (tabD (fun _ => true) n) (tabD p n) = .ok (tabD (fun w => !p w) n) := by
  rw [gXor_tab]
  congr 2
  funext w
  cases p w <;> rfl
theorem gSame_tab (p q : Nat → Bool) (n : Nat) : gXor (tabD (fun w => !p w) n) (tabD q n) = .ok (tabD (fun w => p w == q w) n) := by
  rw [gXor_tab]
  congr 2
  funext w
  cases p w <;> cases q w <;> rfl
theorem tabD_zero (n : Nat) : D.int 0 = tabD (fun _ => false) n := by unfold tabD; rw [tab_zero]; rfl
theorem tabD_full (n : Nat) (h : n ≤ 512) : gShl (.int 1) (.int (n : Nat)) = .ok (.int ((2 ^ n : Nat) : Int)) ∧ D.int (((2 ^ n : Nat) : Int) - 1) = tabD (fun _ => true) n := by
  refine ⟨gShl_p n (by omega), ?_⟩
  unfold tabD
  rw [← tab_full]
  have : 0 < 2 ^ n := Nat.pow_pos (by decide)
  congr 1
  omega
def T.ev (ns : List (List Nat)) : T → Nat → Bool
  | .nm x, w => colP ((posS ns x).getD 0) w
  | .yes, _ => true
  | .no, _ => false
  | .nt t, w => !t.ev ns w
  | .bin .an s t, w => s.ev ns w && t.ev ns w
  | .bin .or s t, w => s.ev ns w || t.ev ns w
  | .bin .th s t, w => !s.ev ns w || t.ev ns w
  | .bin .sm s t, w => s.ev ns w == t.ev ns w
abbrev W2 (ns : List (List Nat)) : Nat := 2 ^ ns.length
theorem W2_le {ns : List (List Nat)} (h : ns.length ≤ 8) : W2 ns ≤ 256 := Nat.pow_le_pow_right (n := 2) (by decide) h
def ttD (ns : List (List Nat)) (t : T) : D := tabD (t.ev ns) (W2 ns)
def FullOk (f : Fn) : Prop := ∀ ns : List (List Nat), ns.length ≤ 8 → f [.val (nmD ns)] = .ok (.val (tabD (fun _ => true) (W2 ns))) [.val (nmD ns)]
theorem full_ok : FullOk (bodyF 1 1 1 b_full) := fun ns h => by
  have h1 := gShl_p ns.length (by omega)
  obtain ⟨h2, h3⟩ := tabD_full (2 ^ ns.length) (by have h' : 2 ^ ns.length ≤ 256 := W2_le h; omega)
  generalize hE : 2 ^ 2 ^ ns.length = E at *
  generalize tabD (fun _ => true) (W2 ns) = Q at *
  generalize 2 ^ ns.length = N at *
  simp (disch := first | assumption | decide | omega | (simp only [List.length_append, List.length_cons, List.length_nil, List.length_map, List.length_reverse, List.length_replicate, List.length_range, List.length_take, List.length_drop, enD_length, rangeD_length]; first | decide | omega) | (simp; done) | fail) [decide_eq_true, decide_eq_false, kAsg, kNx, b_full, nmD, h1, h2, h3]
def LookOk (n : Nat) (f : Fn) : Prop := ∀ (ns : List (List Nat)) (t : T), ns.Nodup → ns.length ≤ 8 → t.nmIn ns → t.depth ≤ n → t.size ≤ 1000000 → f [.val (nmD ns), .val t.toD] = .ok (.val .non) [.val (nmD ns), .val t.toD]
theorem look_ok {n : Nat} {fn : Fn} (hn : NamesInOk n fn) : LookOk n (bodyF 3 2 2 (b_look_names fn)) := fun ns t h1 h2 h3 h4 h5 => by
  have n1 := hn t h4 h5 (by have := names_le h1 h3; omega)
  have hm : ∀ x ∈ sortOf leS (t.names []), x ∈ ns := fun x hx => by
    have h := sortOf_mem hx
    rw [names_mem] at h
    rcases h with h | h
    · cases h
    · exact has_in h3 h
  generalize sortOf leS (t.names []) = ss at *
  obtain ⟨ρ', e1, y, rfl⟩ := forGo_nxt (ft := ftOne 2) (fb := b_look_names_l1 fn) (ss.map .str) (fun _ ρ => ∃ y, ρ = [.val (nmD ns), .val t.toD, y]) [.val (nmD ns), .val t.toD, .emp] ⟨_, rfl⟩ (fun i d ρ hd ⟨y, e⟩ => by
    subst e
    have hi : i < ss.length := by have := (List.getElem?_eq_some_iff.mp hd).1; simpa using this
    simp [hi] at hd
    subst hd
    refine ⟨_, rfl, ?_⟩
    have hx := gInL_strs ss[i] ns
    rw [decide_eq_true (hm _ (List.getElem_mem hi))] at hx
    simp (disch := first | assumption | decide | omega | (simp only [List.length_append, List.length_cons, List.length_nil, List.length_map, List.length_reverse, List.length_replicate, List.length_range, List.length_take, List.length_drop, enD_length, rangeD_length]; first | decide | omega) | (simp; done) | fail) [decide_eq_true, decide_eq_false, kAsg, kNx, b_look_names_l1, nmD, hx])
  simp only [nmD] at e1
  simp (disch := first | assumption | decide | omega | (simp only [List.length_append, List.length_cons, List.length_nil, List.length_map, List.length_reverse, List.length_replicate, List.length_range, List.length_take, List.length_drop, enD_length, rangeD_length]; first | decide | omega) | (simp; done) | fail) [decide_eq_true, decide_eq_false, kAsg, kNx, b_look_names, n1, nmD, e1]
def TabOk (n : Nat) (f : Fn) : Prop := ∀ (ns : List (List Nat)) (t : T), ns.Nodup → ns.length ≤ 8 → t.nmIn ns → t.depth ≤ n → t.size ≤ 1000000 → f [.val (nmD ns), .val t.toD] = .ok (.val (ttD ns t)) [.val (nmD ns), .val t.toD]
def TabWOk (n : Nat) (f : Fn) : Prop := ∀ (ns : List (List Nat)) (t : T), ns.length ≤ 8 → t.nmIn ns → t.depth ≤ n → f [.val (nmD ns), .val t.toD] = .ok (.val (ttD ns t)) [.val (nmD ns), .val t.toD]
theorem nm_pos {ns : List (List Nat)} {x : List Nat} (h : x ∈ ns) : ∃ j, posS ns x = some j ∧ j < ns.length ∧ ns ≠ [] := by
  obtain ⟨j, h1, h2⟩ := posS_mem h
  exact ⟨j, h1, h2, by intro e; subst e; cases h⟩
theorem tabw_ok {n : Nat} {fc ff ft : Fn} (hc : ColOk fc) (hf : FullOk ff) (ht : TabWOk n ft) : TabWOk (n + 1) (bodyF 5 2 2 (b_table_within fc ff ft)) := fun ns t h8 hin hd => by
  have hfu := hf ns h8
  simp only [nmD] at hfu
  cases t with
  | nm x =>
    obtain ⟨j, j1, j2, j3⟩ := nm_pos hin
    have hcol := hc ns.length j h8 j2
    have e : (D.tup (ns.map .str)).nms = some ns := nms_map ns j3
    have hr : ttD ns (.nm x) = tabD (colP j) (2 ^ ns.length) := by unfold ttD; congr 1; funext w; simp only [T.ev, j1, Option.getD_some]
    rw [hr]
    generalize tabD (colP j) (2 ^ ns.length) = R at *
    simp (disch := first | assumption | decide | omega | (simp only [List.length_append, List.length_cons, List.length_nil, List.length_map, List.length_reverse, List.length_replicate, List.length_range, List.length_take, List.length_drop, enD_length, rangeD_length]; first | decide | omega) | (simp; done) | fail) [decide_eq_true, decide_eq_false, kAsg, kNx, b_table_within, nmD, T.toD, hcol, e, j1]
  | yes =>
    have hr : ttD ns .yes = tabD (fun _ => true) (W2 ns) := rfl
    rw [hr]
    generalize tabD (fun _ => true) (W2 ns) = Q at *
    simp (disch := first | assumption | decide | omega | (simp only [List.length_append, List.length_cons, List.length_nil, List.length_map, List.length_reverse, List.length_replicate, List.length_range, List.length_take, List.length_drop, enD_length, rangeD_length]; first | decide | omega) | (simp; done) | fail) [decide_eq_true, decide_eq_false, kAsg, kNx, b_table_within, nmD, T.toD, hfu]
  | no =>
    have hr : ttD ns .no = .int 0 := (tabD_zero (W2 ns)).symm
    rw [hr]
    simp (disch := first | assumption | decide | omega | (simp only [List.length_append, List.length_cons, List.length_nil, List.length_map, List.length_reverse, List.length_replicate, List.length_range, List.length_take, List.length_drop, enD_length, rangeD_length]; first | decide | omega) | (simp; done) | fail) [decide_eq_true, decide_eq_false, kAsg, kNx, b_table_within, nmD, T.toD]
  | nt t =>
    simp only [T.depth] at hd
    have h1 := ht ns t h8 hin (by omega)
    have hx : gXor (tabD (fun _ => true) (W2 ns)) (ttD ns t) = .ok (ttD ns (.nt t)) := gNot_tab (t.ev ns) (W2 ns)
    simp only [nmD] at h1
    generalize tabD (fun _ => true) (W2 ns) = Q at *
    simp (disch := first | assumption | decide | omega | (simp only [List.length_append, List.length_cons, List.length_nil, List.length_map, List.length_reverse, List.length_replicate, List.length_range, List.length_take, List.length_drop, enD_length, rangeD_length]; first | decide | omega) | (simp; done) | fail) [decide_eq_true, decide_eq_false, kAsg, kNx, b_table_within, nmD, T.toD, h1, hfu, hx]
  | bin k s t =>
    simp only [T.depth] at hd
    have h1 := ht ns s h8 hin.1 (by omega)
    have h2 := ht ns t h8 hin.2 (by omega)
    simp only [nmD] at h1 h2
    have hx1 : gAnd (ttD ns s) (ttD ns t) = .ok (ttD ns (.bin .an s t)) := gAnd_tab (s.ev ns) (t.ev ns) (W2 ns)
    have hx2 : gOr (ttD ns s) (ttD ns t) = .ok (ttD ns (.bin .or s t)) := gOr_tab (s.ev ns) (t.ev ns) (W2 ns)
    have hx3 : gXor (tabD (fun _ => true) (W2 ns)) (ttD ns s) = .ok (ttD ns (.nt s)) := gNot_tab (s.ev ns) (W2 ns)
    have hx4 : gOr (ttD ns (.nt s)) (ttD ns t) = .ok (ttD ns (.bin .th s t)) := gOr_tab (fun w => !s.ev ns w) (t.ev ns) (W2 ns)
    have hx5 : gXor (ttD ns (.nt s)) (ttD ns t) = .ok (ttD ns (.bin .sm s t)) := gSame_tab (s.ev ns) (t.ev ns) (W2 ns)
    generalize tabD (fun _ => true) (W2 ns) = Q at *
    cases k with
    | an => simp (disch := first | assumption | decide | omega | (simp only [List.length_append, List.length_cons, List.length_nil, List.length_map, List.length_reverse, List.length_replicate, List.length_range, List.length_take, List.length_drop, enD_length, rangeD_length]; first | decide | omega) | (simp; done) | fail) [decide_eq_true, decide_eq_false, kAsg, kNx, b_table_within, nmD, T.toD, K4.code, h1, h2, hfu, hx1]
    | or => simp (disch := first | assumption | decide | omega | (simp only [List.length_append, List.length_cons, List.length_nil, List.length_map, List.length_reverse, List.length_replicate, List.length_range, List.length_take, List.length_drop, enD_length, rangeD_length]; first | decide | omega) | (simp; done) | fail) [decide_eq_true, decide_eq_false, kAsg, kNx, b_table_within, nmD, T.toD, K4.code, h1, h2, hfu, hx2]
    | th => simp (disch := first | assumption | decide | omega | (simp only [List.length_append, List.length_cons, List.length_nil, List.length_map, List.length_reverse, List.length_replicate, List.length_range, List.length_take, List.length_drop, enD_length, rangeD_length]; first | decide | omega) | (simp; done) | fail) [decide_eq_true, decide_eq_false, kAsg, kNx, b_table_within, nmD, T.toD, K4.code, h1, h2, hfu, hx3, hx4]
    | sm => simp (disch := first | assumption | decide | omega | (simp only [List.length_append, List.length_cons, List.length_nil, List.length_map, List.length_reverse, List.length_replicate, List.length_range, List.length_take, List.length_drop, enD_length, rangeD_length]; first | decide | omega) | (simp; done) | fail) [decide_eq_true, decide_eq_false, kAsg, kNx, b_table_within, nmD, T.toD, K4.code, h1, h2, hfu, hx3, hx5]
theorem tab_ok {n : Nat} {fl ft : Fn} (hl : LookOk n fl) (ht : TabWOk n ft) : TabOk n (bodyF 2 2 2 (b_table fl ft)) := fun ns t h1 h2 h3 h4 h5 => by
  have a := hl ns t h1 h2 h3 h4 h5
  have b := ht ns t h2 h3 h4
  simp only [nmD] at a b
  simp (disch := first | assumption | decide | omega | (simp only [List.length_append, List.length_cons, List.length_nil, List.length_map, List.length_reverse, List.length_replicate, List.length_range, List.length_take, List.length_drop, enD_length, rangeD_length]; first | decide | omega) | (simp; done) | fail) [decide_eq_true, decide_eq_false, kAsg, kNx, b_table, nmD, a, b]
end PL
set_option Elab.async false
set_option linter.all false
set_option maxRecDepth 100000
set_option maxHeartbeats 1000000
set_option exponentiation.threshold 20000
namespace PL
set_option autoImplicit false
open PySem L2 PyProof.Rows
def optD : Option Int → D
  | none => .non
  | some i => .int i
def okN (ns : List (List Nat)) : Prop := ns.Nodup ∧ ns.length ≤ 8 ∧ 1 ≤ ns.length ∧ nmOk ns
def okT (ns : List (List Nat)) (t : T) : Prop := t.nmIn ns ∧ t.depth ≤ 19
theorem size_depth : ∀ t : T, t.size < 2 ^ t.depth
  | .nm _ => by simp [T.size, T.depth]
  | .yes => by simp [T.size, T.depth]
  | .no => by simp [T.size, T.depth]
  | .nt t => by
    have := size_depth t
    simp only [T.size, T.depth, Nat.pow_succ]; omega
  | .bin _ s t => by
    have h1 := size_depth s
    have h2 := size_depth t
    have h3 : 2 ^ s.depth ≤ 2 ^ max s.depth t.depth := Nat.pow_le_pow_right (by decide) (by omega)
    have h4 : 2 ^ t.depth ≤ 2 ^ max s.depth t.depth := Nat.pow_le_pow_right (by decide) (by omega)
    simp only [T.size, T.depth, Nat.pow_succ]; omega
theorem okT.size {ns : List (List Nat)} {t : T} (h : okT ns t) : t.size ≤ 1000000 := by
  have h1 := size_depth t
  have h2 : 2 ^ t.depth ≤ 2 ^ 19 := Nat.pow_le_pow_right (by decide) h.2
  omega
def TabK (f : Fn) : Prop := ∀ (ns : List (List Nat)) (t : T), okN ns → okT ns t → f [.val (nmD ns), .val t.toD] = .ok (.val (ttD ns t)) [.val (nmD ns), .val t.toD]
theorem tab_k {n : Nat} {f : Fn} (h : TabOk n f) (hn : 19 ≤ n) : TabK f := fun ns t h1 h2 => h ns t h1.1 h1.2.1 h2.1 (by have := h2.2; omega) h2.size
theorem tabw_k {n : Nat} {f : Fn} (h : TabWOk n f) (hn : 19 ≤ n) : TabK f := fun ns t h1 h2 => h ns t h1.2.1 h2.1 (by have := h2.2; omega)
def FullK (f : Fn) : Prop := ∀ ns : List (List Nat), okN ns → f [.val (nmD ns)] = .ok (.val (tabD (fun _ => true) (W2 ns))) [.val (nmD ns)]
theorem full_k {f : Fn} (h : FullOk f) : FullK f := fun ns h1 => h ns h1.2.1
theorem W2_256 {ns : List (List Nat)} (h : okN ns) : W2 ns ≤ 256 := W2_le h.2.1
def lstS (b : Bool) (r : Int) (a : Option Int) : Option Int := if b = true then (match a with
  | none => some r
  | some m => if r < m then some r else some m) else a
def lstN (p : Nat → Bool) (r : Nat → Int) : Nat → Option Int
  | 0 => none
  | i + 1 => lstS (p i) (r i) (lstN p r i)
def leastO (p : Nat → Bool) (rs : List Int) : Option Int := lstN p (fun i => rs.getD i 0) rs.length
theorem lstN_none {p : Nat → Bool} {r : Nat → Int} : ∀ {n : Nat}, lstN p r n = none ↔ ∀ w, w < n → p w = false
  | 0 => by simp [lstN]
  | n + 1 => by
    have ih := lstN_none (p := p) (r := r) (n := n)
    simp only [lstN, lstS]
    constructor
    · intro h w hw
      cases hp : p n with
      | true =>
        rw [hp, if_pos rfl] at h
        cases hl : lstN p r n with
        | none => rw [hl] at h; cases h
        | some m => rw [hl] at h; simp only at h; split at h <;> cases h
      | false =>
        rw [hp, if_neg (by simp)] at h
        by_cases e : w = n
        · rw [e]; exact hp
        · exact ih.mp h w (by omega)
    · intro h
      rw [h n (by omega), if_neg (by simp)]
      exact ih.mpr fun w hw => h w (by omega)
theorem lstN_some {p : Nat → Bool} {r : Nat → Int} : ∀ {n : Nat} {m : Int}, lstN p r n = some m → (∃ w, w < n ∧ p w = true ∧ r w = m) ∧ ∀ w, w < n → p w = true → m ≤ r w
  | 0, m, h => by cases h
  | n + 1, m, h => by
    simp only [lstN, lstS] at h
    cases hp : p n with
    | false =>
      rw [hp, if_neg (by simp)] at h
      obtain ⟨⟨w, h1, h2, h3⟩, h4⟩ := lstN_some h
      refine ⟨⟨w, by omega, h2, h3⟩, fun w hw hpw => ?_⟩
      by_cases e : w = n
      · subst e; rw [hp] at hpw; cases hpw
      · exact h4 w (by omega) hpw
    | true =>
      rw [hp, if_pos rfl] at h
      cases hl : lstN p r n with
      | none =>
        rw [hl] at h
        cases h
        refine ⟨⟨n, by omega, hp, rfl⟩, fun w hw hpw => ?_⟩
        by_cases e : w = n
        · subst e; omega
        · rw [lstN_none.mp hl w (by omega)] at hpw; cases hpw
      | some m' =>
        rw [hl] at h
        obtain ⟨⟨w, h1, h2, h3⟩, h4⟩ := lstN_some hl
        simp only at h
        split at h
        next hlt =>
          cases h
          refine ⟨⟨n, by omega, hp, rfl⟩, fun w hw hpw => ?_⟩
          by_cases e : w = n
          · subst e; omega
          · have := h4 w (by omega) hpw; omega
        next hlt =>
          cases h
          refine ⟨⟨w, by omega, h2, h3⟩, fun w hw hpw => ?_⟩
          by_cases e : w = n
          · subst e; omega
          · exact h4 w (by omega) hpw
theorem least_none {p : Nat → Bool} {rs : List Int} : leastO p rs = none ↔ ∀ w, w < rs.length → p w = false := lstN_none
theorem least_some {p : Nat → Bool} {rs : List Int} {m : Int} (h : leastO p rs = some m) : (∃ w, w < rs.length ∧ p w = true ∧ rs.getD w 0 = m) ∧ ∀ w, w < rs.length → p w = true → m ≤ rs.getD w 0 := lstN_some h
theorem least_ex {p : Nat → Bool} {rs : List Int} {w : Nat} (hw : w < rs.length) (h : p w = true) : ∃ m, leastO p rs = some m := by
  cases e : leastO p rs with
  | none => rw [least_none.mp e w hw] at h; cases h
  | some m => exact ⟨m, rfl⟩
theorem least_eq {p : Nat → Bool} {rs : List Int} {m : Int} (h1 : ∃ w, w < rs.length ∧ p w = true ∧ rs.getD w 0 = m) (h2 : ∀ w, w < rs.length → p w = true → m ≤ rs.getD w 0) : leastO p rs = some m := by
  obtain ⟨w, a, b, c⟩ := h1
  obtain ⟨m', e⟩ := least_ex (rs := rs) a b
  obtain ⟨⟨w', a', b', c'⟩, d'⟩ := least_some e
  have q1 := h2 w' a' b'
  have q2 := d' w a b
  rw [e]; congr 1; omega
def LeastK (f : Fn) : Prop := ∀ (p : Nat → Bool) (rs : List Int), rs.length ≤ 1000 → f [.val (.tup (rs.map .int)), .val (tabD p rs.length)] = .ok (.val (optD (leastO p rs))) [.val (.tup (rs.map .int)), .val (tabD p rs.length)]
theorem bit_at (p : Nat → Bool) (n i : Nat) (h : i < n) : Builtin.bitAnd ((tabOf p n : Nat) / 2 ^ i) 1 = if p i = true then 1 else 0 := by
  rw [bitI, tabOf_bit]; simp [h]
theorem least_ok : LeastK (bodyF 5 2 2 b_least_rank) := fun p rs hl => by
  obtain ⟨ρ', e1, y3, y4, rfl⟩ := forGo_nxt (ft := ftTup [3, 4]) (fb := b_least_rank_l1) (enD 0 (rs.map .int)) (fun i ρ => ∃ y3 y4, ρ = [.val (.tup (rs.map .int)), .val (tabD p rs.length), .val (optD (lstN p (fun i => rs.getD i 0) i)), y3, y4])
    [.val (.tup (rs.map .int)), .val (tabD p rs.length), .val .non, .emp, .emp] ⟨_, _, rfl⟩ (fun i d ρ hd ⟨y3, y4, e⟩ => by
    subst e
    have hi : i < rs.length := by have := (List.getElem?_eq_some_iff.mp hd).1; rw [enD_length] at this; simpa using this
    have hr : rs[i]? = some rs[i] := List.getElem?_eq_getElem hi
    rw [enD_get, List.getElem?_map, hr] at hd
    have ed : d = .tup [.int (i : Nat), .int rs[i]] := by simpa using hd.symm
    subst ed
    have hg : rs.getD i 0 = rs[i] := by rw [List.getD_eq_getElem?_getD, hr]; rfl
    have hb := bit_at p rs.length i hi
    refine ⟨_, rfl, ?_⟩
    simp only [lstN, lstS, hg]
    unfold tabD
    cases hp : p i with
    | false =>
      rw [hp] at hb
      simp only [Bool.false_eq_true, if_false] at hb ⊢
      simp (disch := first | assumption | decide | omega | (simp only [List.length_append, List.length_cons, List.length_nil, List.length_map, List.length_reverse, List.length_replicate, List.length_range, List.length_take, List.length_drop, enD_length, rangeD_length]; first | decide | omega) | (simp; done) | fail) [decide_eq_true, decide_eq_false, kAsg, kNx, b_least_rank_l1, ftTup, hb]
    | true =>
      rw [hp] at hb
      simp only [if_true] at hb ⊢
      cases ha : lstN p (fun i => rs.getD i 0) i with
      | none => simp (disch := first | assumption | decide | omega | (simp only [List.length_append, List.length_cons, List.length_nil, List.length_map, List.length_reverse, List.length_replicate, List.length_range, List.length_take, List.length_drop, enD_length, rangeD_length]; first | decide | omega) | (simp; done) | fail) [decide_eq_true, decide_eq_false, kAsg, kNx, b_least_rank_l1, ftTup, hb, optD]
      | some m =>
        simp only
        by_cases hm : rs[i] < m
        · rw [if_pos hm]; simp (disch := first | assumption | decide | omega | (simp only [List.length_append, List.length_cons, List.length_nil, List.length_map, List.length_reverse, List.length_replicate, List.length_range, List.length_take, List.length_drop, enD_length, rangeD_length]; first | decide | omega) | (simp; done) | fail) [decide_eq_true, decide_eq_false, kAsg, kNx, b_least_rank_l1, ftTup, hb, optD, hm]
        · rw [if_neg hm]; simp (disch := first | assumption | decide | omega | (simp only [List.length_append, List.length_cons, List.length_nil, List.length_map, List.length_reverse, List.length_replicate, List.length_range, List.length_take, List.length_drop, enD_length, rangeD_length]; first | decide | omega) | (simp; done) | fail) [decide_eq_true, decide_eq_false, kAsg, kNx, b_least_rank_l1, ftTup, hb, optD, hm])
  rw [enD_length, List.length_map] at e1
  have e2 : lstN p (fun i => rs.getD i 0) rs.length = leastO p rs := rfl
  rw [e2] at e1
  unfold tabD at e1 ⊢
  simp (disch := first | assumption | decide | omega | (simp only [List.length_append, List.length_cons, List.length_nil, List.length_map, List.length_reverse, List.length_replicate, List.length_range, List.length_take, List.length_drop, enD_length, rangeD_length]; first | decide | omega) | (simp; done) | fail) [decide_eq_true, decide_eq_false, kAsg, kNx, b_least_rank, e1]
end PL
set_option Elab.async false
set_option linter.all false
set_option maxRecDepth 100000
set_option maxHeartbeats 1000000
set_option exponentiation.threshold 20000
namespace PL
set_option autoImplicit false
open PySem L2 PyProof.Rows
/-- the worlds that break a sentence -/
def T.nv (ns : List (List Nat)) (t : T) : Nat → Bool := fun w => !t.ev ns w
theorem tab_of_nt (ns : List (List Nat)) (t : T) : gXor (tabD (fun _ => true) (W2 ns)) (ttD ns t) = .ok (tabD (t.nv ns) (W2 ns)) := gNot_tab (t.ev ns) (W2 ns)
def okR (ns : List (List Nat)) (rs : List Int) : Prop := rs.length = W2 ns
theorem LeastK.at {f : Fn} (h : LeastK f) {ns : List (List Nat)} {rs : List Int} (hn : okN ns) (hr : okR ns rs) (p : Nat → Bool) :
    f [.val (.tup (rs.map .int)), .val (tabD p (W2 ns))] = .ok (.val (optD (leastO p rs))) [.val (.tup (rs.map .int)), .val (tabD p (W2 ns))] := by
  have h1 := h p rs (by have := W2_256 hn; rw [hr]; omega)
  rwa [hr] at h1
def FirmK (f : Fn) : Prop := ∀ (ns : List (List Nat)) (rs : List Int) (t : T), okN ns → okR ns rs → okT ns t → f [.val (mindD ns rs), .val t.toD] = .ok (.val (optD (leastO (t.nv ns) rs))) [.val (mindD ns rs), .val t.toD]
theorem firm_ok {ff ft fl : Fn} (hf : FullK ff) (ht : TabK ft) (hl : LeastK fl) : FirmK (bodyF 4 2 2 (b_firmness ff ft fl)) := fun ns rs t hn hr hk => by
  have h1 := hf ns hn
  have h2 := ht ns t hn hk
  have h3 := tab_of_nt ns t
  have h4 := hl.at hn hr (t.nv ns)
  simp only [nmD] at h1 h2
  generalize tabD (fun _ => true) (W2 ns) = Q at *
  simp (disch := first | assumption | decide | omega | (simp only [List.length_append, List.length_cons, List.length_nil, List.length_map, List.length_reverse, List.length_replicate, List.length_range, List.length_take, List.length_drop, enD_length, rangeD_length]; first | decide | omega) | (simp; done) | fail) [decide_eq_true, decide_eq_false, kAsg, kNx, b_firmness, mindD, nmD, h1, h2, h3, h4]
def KeepsK (f : Fn) : Prop := ∀ (p : Nat → Bool) (n w : Nat), w < n → f [.val (tabD p n), .val (.int (w : Nat))] = .ok (.val (.bl (p w))) [.val (tabD p n), .val (.int (w : Nat))]
theorem keeps_ok : KeepsK (bodyF 2 2 2 b_keeps) := fun p n w h => by
  have hb := bit_at p n w h
  unfold tabD
  cases hp : p w <;> rw [hp] at hb <;> simp at hb <;> simp (disch := first | assumption | decide | omega | (simp only [List.length_append, List.length_cons, List.length_nil, List.length_map, List.length_reverse, List.length_replicate, List.length_range, List.length_take, List.length_drop, enD_length, rangeD_length]; first | decide | omega) | (simp; done) | fail) [decide_eq_true, decide_eq_false, kAsg, kNx, b_keeps, hb]
/-- both sides have worlds -/
def openT (ns : List (List Nat)) (t : T) : Prop := (∃ w, w < W2 ns ∧ t.ev ns w = true) ∧ ∃ w, w < W2 ns ∧ t.ev ns w = false
theorem open_ne {ns : List (List Nat)} {t : T} (h : openT ns t) : gEq (ttD ns t) (tabD (fun _ => true) (W2 ns)) = .ok false ∧ gEq (ttD ns t) (.int 0) = .ok false ∧ gEq (tabD (t.nv ns) (W2 ns)) (.int 0) = .ok false := by
  obtain ⟨⟨w, h1, h2⟩, w', h3, h4⟩ := h
  refine ⟨?_, ?_, ?_⟩
  · unfold ttD tabD
    rw [gEq_ii, decide_eq_false]
    intro e
    have := tab_inj (p := t.ev ns) (q := fun _ => true) (n := W2 ns) (by omega) w' h3
    rw [h4] at this; cases this
  · rw [tabD_zero (W2 ns)]
    unfold ttD tabD
    rw [gEq_ii, decide_eq_false]
    intro e
    have := tab_inj (p := t.ev ns) (q := fun _ => false) (n := W2 ns) (by omega) w h1
    rw [h2] at this; cases this
  · rw [tabD_zero (W2 ns)]
    unfold tabD
    rw [gEq_ii, decide_eq_false]
    intro e
    have := tab_inj (p := t.nv ns) (q := fun _ => false) (n := W2 ns) (by omega) w' h3
    unfold T.nv at this
    rw [h4] at this; cases this
theorem open_least {ns : List (List Nat)} {t : T} {rs : List Int} (h : openT ns t) (hr : okR ns rs) : ∃ a b, leastO (t.ev ns) rs = some a ∧ leastO (t.nv ns) rs = some b := by
  obtain ⟨⟨w, h1, h2⟩, w', h3, h4⟩ := h
  obtain ⟨a, ha⟩ := least_ex (rs := rs) (p := t.ev ns) (w := w) (by rw [hr]; exact h1) h2
  obtain ⟨b, hb⟩ := least_ex (rs := rs) (p := t.nv ns) (w := w') (by rw [hr]; exact h3) (by unfold T.nv; rw [h4]; rfl)
  exact ⟨a, b, ha, hb⟩
def mx0 (x : Int) : Int := if x > 0 then x else 0
theorem gMax2_0 (x : Int) : gMax2 [.int 0, .int x] = .ok (.int (mx0 x)) := gMax2_ii 0 x
/-- the ranks moved on both sides -/
def mvL (p : Nat → Bool) (a b : Int) (rs : List Int) : List Int := (List.range rs.length).map fun w => rs.getD w 0 + if p w = true then a else b
def turnL (ns : List (List Nat)) (t : T) (lean : Int) (rs : List Int) : List Int :=
  mvL (t.ev ns) (mx0 (-lean) - (leastO (t.ev ns) rs).getD 0) (mx0 lean - (leastO (t.nv ns) rs).getD 0) rs
theorem mvL_len (p : Nat → Bool) (a b : Int) (rs : List Int) : (mvL p a b rs).length = rs.length := by simp [mvL]
theorem mvL_at {p : Nat → Bool} {a b : Int} {rs : List Int} {w : Nat} (h : w < rs.length) : (mvL p a b rs).getD w 0 = rs.getD w 0 + if p w = true then a else b := by
  unfold mvL
  rw [List.getD_eq_getElem?_getD, List.getElem?_map, List.getElem?_range h]
  rfl
theorem turnL_len (ns : List (List Nat)) (t : T) (lean : Int) (rs : List Int) : (turnL ns t lean rs).length = rs.length := mvL_len _ _ _ _
def TurnK (f : Fn) : Prop := ∀ (ns : List (List Nat)) (rs : List Int) (t : T) (lean : Int), okN ns → okR ns rs → okT ns t → openT ns t →
  f [.val (mindD ns rs), .val t.toD, .val (.int lean)] = .ok (.val (mindD ns (turnL ns t lean rs))) [.val (mindD ns rs), .val t.toD, .val (.int lean)]
theorem turned_loop {f1 f2 f3 fk : Fn} (hk : KeepsK fk) (p : Nat → Bool) (a b : Int) (rs : List Int) (hl : rs.length ≤ 1000) (a0 a1 a2 a3 a4 a6 x10 x11 : Sl) :
    ∃ y10 y11, forGo (ftTup [10, 11]) (b_turned_l1 f1 f2 f3 fk) (enD 0 (rs.map .int)) [a0, a1, a2, a3, a4, .val (tabD p rs.length), a6, .val (.int a), .val (.int b), .own (.lst []), x10, x11] =
      .nx [a0, a1, a2, a3, a4, .val (tabD p rs.length), a6, .val (.int a), .val (.int b), .own (.lst ((mvL p a b rs).map .int)), y10, y11] := by
  obtain ⟨ρ', e1, y10, y11, rfl⟩ := forGo_nxt (ft := ftTup [10, 11]) (fb := b_turned_l1 f1 f2 f3 fk) (enD 0 (rs.map .int)) (fun i ρ => ∃ y10 y11, ρ = [a0, a1, a2, a3, a4, .val (tabD p rs.length), a6, .val (.int a), .val (.int b), .own (.lst (((List.range i).map fun w => rs.getD w 0 + if p w = true then a else b).map .int)), y10, y11])
    [a0, a1, a2, a3, a4, .val (tabD p rs.length), a6, .val (.int a), .val (.int b), .own (.lst []), x10, x11] ⟨_, _, rfl⟩ (fun i d ρ hd ⟨y10, y11, e⟩ => by
    subst e
    have hi : i < rs.length := by have := (List.getElem?_eq_some_iff.mp hd).1; rw [enD_length] at this; simpa using this
    have hr : rs[i]? = some rs[i] := List.getElem?_eq_getElem hi
    rw [enD_get, List.getElem?_map, hr] at hd
    have ed : d = .tup [.int (i : Nat), .int rs[i]] := by simpa using hd.symm
    subst ed
    have hg : rs.getD i 0 = rs[i] := by rw [List.getD_eq_getElem?_getD, hr]; rfl
    have hkp := hk p rs.length i hi
    refine ⟨_, rfl, ?_⟩
    rw [List.range_succ, List.map_append, List.map_append, List.map_singleton, List.map_singleton, hg]
    generalize hM : ((List.range i).map fun w => rs.getD w 0 + if p w = true then a else b).map D.int = M
    have hMl : M.length < 1000000 := by rw [← hM]; simp; omega
    cases hp : p i <;> rw [hp] at hkp <;> simp (disch := first | assumption | decide | omega | (simp only [List.length_append, List.length_cons, List.length_nil, List.length_map, List.length_reverse, List.length_replicate, List.length_range, List.length_take, List.length_drop, enD_length, rangeD_length]; first | decide | omega) | (simp; done) | fail) [decide_eq_true, decide_eq_false, kAsg, kNx, b_turned_l1, ftTup, hkp])
  rw [enD_length, List.length_map] at e1
  exact ⟨y10, y11, e1⟩
theorem turned_ok {ft ff fl fk : Fn} (ht : TabK ft) (hf : FullK ff) (hl : LeastK fl) (hk : KeepsK fk) : TurnK (bodyF 12 3 3 (b_turned ft ff fl fk)) := fun ns rs t lean hn hr hT ho => by
  have h1 := hf ns hn
  have h2 := ht ns t hn hT
  have h3 := tab_of_nt ns t
  obtain ⟨a, b, ha, hb⟩ := open_least ho hr
  have h4 : fl _ = _ := hl.at hn hr (t.ev ns)
  have h5 : fl _ = _ := hl.at hn hr (t.nv ns)
  obtain ⟨g1, g2, _⟩ := open_ne ho
  have m1 := gMax2_0 lean
  have m2 := gMax2_0 (-lean)
  have h256 := W2_256 hn
  have hrl : rs.length = W2 ns := hr
  have hloop := turned_loop (f1 := ft) (f2 := ff) (f3 := fl) hk (t.ev ns) (mx0 (-lean) - a) (mx0 lean - b) rs (by omega)
  have hT2 : turnL ns t lean rs = mvL (t.ev ns) (mx0 (-lean) - a) (mx0 lean - b) rs := by unfold turnL; rw [ha, hb]; rfl
  rw [hT2]
  rw [ha] at h4
  rw [hb] at h5
  rw [hrl] at hloop
  have e : ttD ns t = tabD (t.ev ns) (W2 ns) := rfl
  rw [e] at h2 h3 g1 g2
  simp only [nmD, optD] at h1 h2 h4 h5
  generalize tabD (fun _ => true) (W2 ns) = Q at *
  generalize tabD (t.ev ns) (W2 ns) = TT at *
  generalize tabD (t.nv ns) (W2 ns) = NV at *
  generalize mx0 lean = X1 at *
  generalize mx0 (-lean) = X2 at *
  obtain ⟨y10, y11, hloop⟩ := hloop (.val (mindD ns rs)) (.val t.toD) (.val (.int lean)) (.val (nmD ns)) (.val (.tup (rs.map .int))) (.val Q) .emp .emp
  simp only [nmD, mindD] at hloop
  simp (disch := first | assumption | decide | omega | (simp only [List.length_append, List.length_cons, List.length_nil, List.length_map, List.length_reverse, List.length_replicate, List.length_range, List.length_take, List.length_drop, enD_length, rangeD_length]; first | decide | omega) | (simp; done) | fail) [decide_eq_true, decide_eq_false, kAsg, kNx, -gMax2_ii, b_turned, mindD, nmD, h1, h2, g1, g2, m1, m2, h4, h3, h5, hloop]
def giveL (ns : List (List Nat)) (t : T) (rs : List Int) : List Int := if leastO (t.nv ns) rs = some 0 then rs else turnL ns t 0 rs
def GiveK (f : Fn) : Prop := ∀ (ns : List (List Nat)) (rs : List Int) (t : T), okN ns → okR ns rs → okT ns t → (openT ns t ∨ leastO (t.nv ns) rs = some 0) →
  f [.val (mindD ns rs), .val t.toD] = .ok (.val (mindD ns (giveL ns t rs))) [.val (mindD ns rs), .val t.toD]
theorem give_ok {ff ft : Fn} (hf : FirmK ff) (ht : TurnK ft) : GiveK (bodyF 3 2 2 (b_given_up ff ft)) := fun ns rs t hn hr hT ho => by
  have h1 := hf ns rs t hn hr hT
  have hex : ∃ b, leastO (t.nv ns) rs = some b := by
    rcases ho with ho | ho
    · obtain ⟨a, b, ha, hb⟩ := open_least ho hr; exact ⟨b, hb⟩
    · exact ⟨_, ho⟩
  obtain ⟨b, hb⟩ := hex
  rw [hb] at h1
  simp only [optD, mindD, nmD] at h1
  unfold giveL
  rw [hb]
  by_cases hz : b = 0
  · subst hz
    simp (disch := first | assumption | decide | omega | (simp only [List.length_append, List.length_cons, List.length_nil, List.length_map, List.length_reverse, List.length_replicate, List.length_range, List.length_take, List.length_drop, enD_length, rangeD_length]; first | decide | omega) | (simp; done) | fail) [decide_eq_true, decide_eq_false, kAsg, kNx, b_given_up, mindD, nmD, h1]
  · have hz' : ¬ (some b = some 0) := fun e => hz (Option.some.inj e)
    rw [if_neg hz']
    rcases ho with ho | ho
    · have h2 := ht ns rs t 0 hn hr hT ho
      simp only [mindD, nmD] at h2
      simp (disch := first | assumption | decide | omega | (simp only [List.length_append, List.length_cons, List.length_nil, List.length_map, List.length_reverse, List.length_replicate, List.length_range, List.length_take, List.length_drop, enD_length, rangeD_length]; first | decide | omega) | (simp; done) | fail) [decide_eq_true, decide_eq_false, kAsg, kNx, b_given_up, mindD, nmD, h1, h2, hz]
    · rw [hb] at ho; exact absurd ho hz'
/-- always so -/
def allT (ns : List (List Nat)) (t : T) : Prop := ∀ w, w < W2 ns → t.ev ns w = true
def TakeK (f : Fn) : Prop := ∀ (ns : List (List Nat)) (rs : List Int) (t : T) (firm : Int), okN ns → okR ns rs → okT ns t → openT ns t →
  f [.val (mindD ns rs), .val t.toD, .val (.int firm)] = .ok (.val (mindD ns (turnL ns t firm rs))) [.val (mindD ns rs), .val t.toD, .val (.int firm)]
theorem take_ok {ft ff fu : Fn} (ht : TabK ft) (hf : FullK ff) (hu : TurnK fu) : TakeK (bodyF 4 3 3 (b_taken_on ft ff fu)) := fun ns rs t firm hn hr hT ho => by
  have h1 := hf ns hn
  have h2 := ht ns t hn hT
  obtain ⟨g1, _, _⟩ := open_ne ho
  have h3 := hu ns rs t firm hn hr hT ho
  simp only [nmD, mindD] at h1 h2 h3
  generalize tabD (fun _ => true) (W2 ns) = Q at *
  generalize ttD ns t = TT at *
  simp (disch := first | assumption | decide | omega | (simp only [List.length_append, List.length_cons, List.length_nil, List.length_map, List.length_reverse, List.length_replicate, List.length_range, List.length_take, List.length_drop, enD_length, rangeD_length]; first | decide | omega) | (simp; done) | fail) [decide_eq_true, decide_eq_false, kAsg, kNx, b_taken_on, mindD, nmD, h1, h2, g1, h3]
end PL
set_option Elab.async false
set_option linter.all false
set_option maxRecDepth 100000
set_option maxHeartbeats 1000000
set_option exponentiation.threshold 20000
namespace PL
set_option autoImplicit false
open PySem L2 PyProof.Rows
theorem name_at {ns : List (List Nat)} (hn : okN ns) (i : Int) : ∃ x, x ∈ ns ∧ L2.atI (ns.map D.str) (i % (ns.length : Nat)) = some (.str x) := by
  have h1 := hn.2.2.1
  have r0 : 0 ≤ i % (ns.length : Nat) := Int.emod_nonneg _ (by omega)
  have r1 : i % (ns.length : Nat) < (ns.length : Nat) := Int.emod_lt_of_pos _ (by omega)
  have e := atI_map D.str ns (i % (ns.length : Nat)) r0 (by omega)
  exact ⟨_, List.getElem_mem (by omega), e⟩
def TreeCOk (d : Nat) (f : Fn) : Prop := ∀ (ns : List (List Nat)) (c : Int) (k : Nat), okN ns → k ≤ d → ∃ t : T, f [.val (nmD ns), .val (.int c), .val (.int k)] = .ok (.val t.toD) [.val (nmD ns), .val (.int c), .val (.int k)] ∧ t.nmIn ns ∧ t.depth ≤ k + 1
end PL
set_option Elab.async false
set_option linter.all false
set_option maxRecDepth 100000
set_option maxHeartbeats 1000000
set_option exponentiation.threshold 20000
namespace PL
set_option autoImplicit false
open PySem L2 PyProof.Rows
theorem W2_2 {ns : List (List Nat)} (h : okN ns) : 2 ≤ W2 ns := by
  have h1 : 2 ^ 1 ≤ 2 ^ ns.length := Nat.pow_le_pow_right (by decide) h.2.2.1
  exact h1
theorem not_open {ns : List (List Nat)} {t : T} (h : ¬ openT ns t) : (∀ w, w < W2 ns → t.ev ns w = false) ∨ ∀ w, w < W2 ns → t.ev ns w = true := by
  by_cases h1 : ∃ w, w < W2 ns ∧ t.ev ns w = true
  · right
    intro w hw
    cases e : t.ev ns w with
    | true => rfl
    | false => exact absurd ⟨h1, w, hw, e⟩ h
  · left
    intro w hw
    cases e : t.ev ns w with
    | false => rfl
    | true => exact absurd ⟨w, hw, e⟩ h1
/-- ranks from nought up -/
def okQ (ns : List (List Nat)) (rs : List Int) : Prop := okR ns rs ∧ (∀ w, w < W2 ns → 0 ≤ rs.getD w 0) ∧ ∃ w, w < W2 ns ∧ rs.getD w 0 = 0
end PL
set_option Elab.async false
set_option linter.all false
set_option maxRecDepth 100000
set_option maxHeartbeats 1000000
set_option exponentiation.threshold 20000
namespace PL
set_option autoImplicit false
open PySem L2 PyProof.Rows
/-- a row of ranks moved by c where q is -/
theorem least_shift {q : Nat → Bool} {old now : List Int} {c m : Int} (hl : now.length = old.length) (h : ∀ w, w < old.length → q w = true → now.getD w 0 = old.getD w 0 + c) (hm : leastO q old = some m) : leastO q now = some (m + c) := by
  obtain ⟨⟨w, h1, h2, h3⟩, h4⟩ := least_some hm
  refine least_eq ⟨w, by omega, h2, by rw [h w h1 h2, h3]⟩ fun v hv hq => ?_
  have := h4 v (by omega) hq
  rw [h v (by omega) hq]
  omega
theorem turnL_ev {ns : List (List Nat)} {t : T} {lean : Int} {rs : List Int} {a b : Int} (ha : leastO (t.ev ns) rs = some a) (hb : leastO (t.nv ns) rs = some b) {w : Nat} (hw : w < rs.length) :
    (turnL ns t lean rs).getD w 0 = rs.getD w 0 + if t.ev ns w = true then mx0 (-lean) - a else mx0 lean - b := by
  unfold turnL
  rw [mvL_at hw, ha, hb]
  rfl
theorem turnL_least {ns : List (List Nat)} {t : T} {lean : Int} {rs : List Int} (ho : openT ns t) (hr : okR ns rs) :
    leastO (t.ev ns) (turnL ns t lean rs) = some (mx0 (-lean)) ∧ leastO (t.nv ns) (turnL ns t lean rs) = some (mx0 lean) := by
  obtain ⟨a, b, ha, hb⟩ := open_least ho hr
  constructor
  · have := least_shift (now := turnL ns t lean rs) (c := mx0 (-lean) - a) (turnL_len ..) (fun w hw hq => by rw [turnL_ev ha hb hw, if_pos hq]) ha
    rw [this]; congr 1; omega
  · have := least_shift (now := turnL ns t lean rs) (c := mx0 lean - b) (turnL_len ..) (fun w hw hq => by
      have hq' : ¬ t.ev ns w = true := by unfold T.nv at hq; cases e : t.ev ns w <;> simp_all
      rw [turnL_ev ha hb hw, if_neg hq']) hb
    rw [this]; congr 1; omega
theorem mx0_nn (x : Int) : 0 ≤ mx0 x := by unfold mx0; split <;> omega
theorem nv_of {ns : List (List Nat)} {t : T} {w : Nat} : t.nv ns w = true ↔ ¬ t.ev ns w = true := by unfold T.nv; cases t.ev ns w <;> simp
theorem turnL_nn {ns : List (List Nat)} {t : T} {lean : Int} {rs : List Int} (ho : openT ns t) (hr : okR ns rs) : ∀ w, w < W2 ns → 0 ≤ (turnL ns t lean rs).getD w 0 := fun w hw => by
  have hw' : w < rs.length := by rw [hr]; exact hw
  obtain ⟨a, b, ha, hb⟩ := open_least ho hr
  have h1 := (least_some ha).2 w hw'
  have h2 := (least_some hb).2 w hw'
  rw [turnL_ev ha hb hw']
  have m1 := mx0_nn lean
  have m2 := mx0_nn (-lean)
  split
  next e => have := h1 e; omega
  next e => have := h2 (nv_of.mpr e); omega
theorem turnL_R {ns : List (List Nat)} {t : T} {lean : Int} {rs : List Int} (hr : okR ns rs) : okR ns (turnL ns t lean rs) := (turnL_len ..).trans hr
end PL
set_option Elab.async false
set_option linter.all false
set_option maxRecDepth 100000
set_option maxHeartbeats 1000000
set_option exponentiation.threshold 20000
namespace PL
set_option autoImplicit false
open PySem L2 PyProof.Rows
end PL
set_option Elab.async false
set_option linter.all false
set_option maxRecDepth 100000
set_option maxHeartbeats 1000000
set_option exponentiation.threshold 20000
namespace PL
set_option autoImplicit false
open PySem L2 PyProof.Rows
theorem okQ.nn {ns : List (List Nat)} {rs : List Int} (h : okQ ns rs) : ∀ w, w < W2 ns → 0 ≤ rs.getD w 0 := h.2.1
end PL
set_option Elab.async false
set_option linter.all false
set_option maxRecDepth 100000
set_option maxHeartbeats 1000000
set_option exponentiation.threshold 20000
namespace PL
set_option autoImplicit false
open PySem L2 PyProof.Rows
end PL
set_option Elab.async false
set_option linter.all false
set_option maxRecDepth 100000
set_option maxHeartbeats 1000000
set_option exponentiation.threshold 20000
namespace PL
set_option autoImplicit false
open PySem L2 PyProof.Rows
theorem colB_loop (n k : Nat) (hn : n ≤ 8) : ∀ (d j fuel : Nat), j + d = n → k < j → d < fuel →
    whileS (e2 (gCmp pLt) (eVar 3) (e2 gShl (eC (.int (1))) (eVar 0))) b_column_9b2c_l1 fuel [.val (.int (n : Nat)), .val (.int (k : Nat)), .val (tabD (colP k) (2 ^ j)), .val (.int ((2 ^ j : Nat) : Int))] =
      .nx [.val (.int (n : Nat)), .val (.int (k : Nat)), .val (tabD (colP k) (2 ^ n)), .val (.int ((2 ^ n : Nat) : Int))]
  | 0, j, fuel + 1, h1, h2, h3 => by
    have e : j = n := by omega
    subst e
    refine while_stop _ ?_
    have hs := gShl_p j (by omega)
    generalize 2 ^ j = N at *
    simp (disch := first | assumption | decide | omega | (simp only [List.length_append, List.length_cons, List.length_nil, List.length_map, List.length_reverse, List.length_replicate, List.length_range, List.length_take, List.length_drop, enD_length, rangeD_length]; first | decide | omega) | (simp; done) | fail) [decide_eq_true, decide_eq_false, kAsg, kNx, hs]
  | d + 1, j, fuel + 1, h1, h2, h3 => by
    have ih := colB_loop n k hn d (j + 1) fuel (by omega) (by omega) (by omega)
    have hj : 2 ^ j < 2 ^ n := Nat.pow_lt_pow_right (by decide) (by omega)
    have hj2 := pow_small (n := j) (by omega)
    have hs := gShl_p n (by omega)
    have hs2 := gShl_nat (tabOf (colP k) (2 ^ j)) (2 ^ j) (tab_big hj2) (by omega)
    have ho := bor_nat (tabOf (colP k) (2 ^ j)) (tabOf (colP k) (2 ^ j) * 2 ^ 2 ^ j)
    rw [col_step k j h2] at ho
    have hm : (2 : Int) * ((2 ^ j : Nat) : Int) = ((2 ^ (j + 1) : Nat) : Int) := by rw [Nat.pow_succ]; omega
    unfold tabD at ih ⊢
    generalize tabOf (colP k) (2 ^ j) * 2 ^ 2 ^ j = G at *
    generalize tabOf (colP k) (2 ^ j) = A at *
    generalize tabOf (colP k) (2 ^ (j + 1)) = B at *
    generalize 2 ^ (j + 1) = J1 at *
    generalize 2 ^ j = J at *
    rw [while_go (ρ' := [.val (.int (n : Nat)), .val (.int (k : Nat)), .val (.int (B : Nat)), .val (.int (J1 : Nat))]) fuel ?_ ?_]
    · exact ih
    · generalize 2 ^ n = N at *
      simp (disch := first | assumption | decide | omega | (simp only [List.length_append, List.length_cons, List.length_nil, List.length_map, List.length_reverse, List.length_replicate, List.length_range, List.length_take, List.length_drop, enD_length, rangeD_length]; first | decide | omega) | (simp; done) | fail) [decide_eq_true, decide_eq_false, kAsg, kNx, hs, hj]
    · simp (disch := first | assumption | decide | omega | (simp only [List.length_append, List.length_cons, List.length_nil, List.length_map, List.length_reverse, List.length_replicate, List.length_range, List.length_take, List.length_drop, enD_length, rangeD_length]; first | decide | omega) | (simp; done) | fail) [decide_eq_true, decide_eq_false, kAsg, kNx, b_column_9b2c_l1, hs2, ho, hm]
theorem colL_ok : ColOk (bodyF 4 2 2 b_column_9b2c) := fun n k hn hk => by
  have hl := colB_loop n k hn (n - (k + 1)) (k + 1) 1000000 (by omega) (by omega) (by omega)
  have hk2 := pow_small (n := k) (by omega)
  have hs1 := gShl_p k (by omega)
  have hs2 := gShl_p (2 ^ k) (by omega)
  have hpos : 0 < 2 ^ 2 ^ k := Nat.pow_pos (by decide)
  have hlt := pow_big (n := 2 ^ k) (by omega)
  have hs3 := gShl_nat (2 ^ 2 ^ k - 1) (2 ^ k) (by omega) (by omega)
  rw [col_start] at hs3
  have hsub : ((2 ^ 2 ^ k : Nat) : Int) - 1 = ((2 ^ 2 ^ k - 1 : Nat) : Int) := by omega
  have hs4 : gShl (.int 2) (.int (k : Nat)) = .ok (.int ((2 ^ (k + 1) : Nat) : Int)) := by
    have h := gShl_nat 2 k (by rw [show (2 : Nat) = 2 ^ 1 from rfl]; exact Nat.pow_lt_pow_right (by decide) (by decide)) (by omega)
    have e : 2 * 2 ^ k = 2 ^ (k + 1) := by rw [Nat.pow_succ]; omega
    rw [e] at h
    exact h
  unfold tabD at hl ⊢
  generalize tabOf (colP k) (2 ^ (k + 1)) = B at *
  generalize tabOf (colP k) (2 ^ n) = C at *
  generalize 2 ^ 2 ^ k - 1 = E at *
  generalize 2 ^ 2 ^ k = EE at *
  generalize 2 ^ (k + 1) = J1 at *
  generalize 2 ^ k = J at *
  generalize 2 ^ n = N at *
  simp (disch := first | assumption | decide | omega | (simp only [List.length_append, List.length_cons, List.length_nil, List.length_map, List.length_reverse, List.length_replicate, List.length_range, List.length_take, List.length_drop, enD_length, rangeD_length]; first | decide | omega) | (simp; done) | fail) [decide_eq_true, decide_eq_false, kAsg, kNx, b_column_9b2c, hs1, hs2, hs3, hs4, hsub, hl]
end PL
set_option Elab.async false
set_option linter.all false
set_option maxRecDepth 100000
set_option maxHeartbeats 1000000
set_option exponentiation.threshold 20000
namespace PL
set_option autoImplicit false
open PySem L2 PyProof.Rows
end PL
set_option Elab.async false
set_option linter.all false
set_option maxRecDepth 100000
namespace PL
set_option autoImplicit false
open L2
@[simp] theorem gIsB_t (a : Bool) : gIsB (.bl a) (.bl true) = .ok a := by cases a <;> rfl
@[simp] theorem gIsB_f (a : Bool) : gIsB (.bl a) (.bl false) = .ok (!a) := by cases a <;> rfl
@[simp] theorem gNotB_t (a : Bool) : gNotB (.bl a) (.bl true) = .ok (!a) := by cases a <;> rfl
@[simp] theorem gNotB_f (a : Bool) : gNotB (.bl a) (.bl false) = .ok a := by cases a <;> rfl
@[simp] theorem lendT_eq (i : Nat) (f : Ev Bool) (ρ : List Sl) : lendT i f ρ = f (frz1 ρ i ρ[i]?) := tr rfl
@[simp] theorem lendD_eq (i : Nat) (f : Ev D) (ρ : List Sl) : lendD i f ρ = (f (frz1 ρ i ρ[i]?)).bind fun d => if d.flat = true then .ok d else .stuck := tr rfl
@[simp] theorem flat_non : D.flat .non = true := tr rfl
@[simp] theorem flat_bl (b : Bool) : D.flat (.bl b) = true := tr rfl
@[simp] theorem flat_int (b : Int) : D.flat (.int b) = true := tr rfl
@[simp] theorem flat_str (b : List Nat) : D.flat (.str b) = true := tr rfl
@[simp] theorem lendN_eq (i : Nat) (f : Ev D) (ρ : List Sl) : lendN i f ρ = (f (frz1 ρ i ρ[i]?)).bind fun d => if d.flatL = true then .ok d else .stuck := tr rfl
@[simp] theorem flatL_lst (ds : List D) : D.flatL (.lst ds) = ds.all D.flat := tr rfl
@[simp] theorem gPowW_ii (i j : Int) (h : 0 ≤ j ∧ j ≤ 1000 ∧ i.natAbs < 2 ^ 10000) : gPowW (.int i) (.int j) = .ok (.int (i ^ j.toNat)) := if_pos h
@[simp] theorem raiseS_eq (c : Nat) (ρ : List Sl) : raiseS c ρ = .exc ⟨c, []⟩ ρ := tr rfl
def tryK (i j : Nat) : RS → RS
  | .exc x ρ' => if i < ρ'.length then .nx ((ρ'.set j (.val (.exn x.c))).set i .emp) else .stuck
  | r => r
theorem tryS_eq' (i j : Nat) (fb : Es) (ρ : List Sl) : tryS i j fb ρ = tryK i j (fb ρ) := by unfold tryS; cases fb ρ <;> rfl
@[simp] theorem tryS_eq (i j : Nat) (fb : Es) (ρ : List Sl) : tryS i j fb ρ = tryK i j (fb ρ) := tryS_eq' i j fb ρ
@[simp] theorem tryK_nx (i j : Nat) (ρ : List Sl) : tryK i j (.nx ρ) = .nx ρ := tr rfl
@[simp] theorem tryK_rt (i j : Nat) (r : Sl) (ρ : List Sl) : tryK i j (.rt r ρ) = .rt r ρ := tr rfl
@[simp] theorem tryK_exc (i j : Nat) (x : Exn) (ρ : List Sl) (h : i < ρ.length) : tryK i j (.exc x ρ) = .nx ((ρ.set j (.val (.exn x.c))).set i .emp) := if_pos h
@[simp] theorem gIsX_exn (j c : Nat) : gIsX j (.exn c) = .ok (subX c j) := tr rfl
@[simp] theorem gIsX_non (j : Nat) : gIsX j .non = .ok false := tr rfl
@[simp] theorem isNon_exn (c : Nat) : D.isNon (.exn c) = false := tr rfl
@[simp] theorem eIdxL_eq (fa fe : Ev D) (ρ : List Sl) : eIdxL fa fe ρ = (fa ρ).bind (idxR fe ρ) := tr rfl
@[simp] theorem idxR_lst (fe : Ev D) (ρ : List Sl) (ds : List D) : idxR fe ρ (.lst ds) = (fe ρ).bind (gIdxL ds) := tr rfl
@[simp] theorem gCatS_sl (x : List Int) (y : List D) (h : x.length + y.length ≤ 1000000) : gCatS (.scr x) (.lst y) = .ok (.lst (x.map .int ++ y)) := if_pos h
end PL
set_option Elab.async false
set_option linter.all false
set_option maxRecDepth 100000
namespace PL
set_option autoImplicit false
open L2
end PL
set_option Elab.async false
set_option linter.all false
set_option maxRecDepth 100000
set_option maxHeartbeats 1000000
set_option exponentiation.threshold 20000
namespace PL
set_option autoImplicit false
open PySem L2 PyProof.Rows
theorem takeAll_ok {ft ff fu : Fn} (ht : TabK ft) (hf : FullK ff) (ns : List (List Nat)) (rs : List Int) (t : T) (firm : Int) (hn : okN ns) (hT : okT ns t) (ha : allT ns t) :
    bodyF 4 3 3 (b_taken_on ft ff fu) [.val (mindD ns rs), .val t.toD, .val (.int firm)] = .ok (.val (mindD ns rs)) [.val (mindD ns rs), .val t.toD, .val (.int firm)] := by
  have h1 := hf ns hn
  have h2 := ht ns t hn hT
  have g1 : gEq (ttD ns t) (tabD (fun _ => true) (W2 ns)) = .ok true := by
    have e : ttD ns t = tabD (fun _ => true) (W2 ns) := by unfold ttD tabD; rw [tab_congr (q := fun _ => true) ha]
    rw [e]; unfold tabD; rw [gEq_ii, decide_eq_true rfl]
  simp only [nmD, mindD] at h1 h2
  generalize tabD (fun _ => true) (W2 ns) = Q at *
  generalize ttD ns t = TT at *
  simp (disch := first | assumption | decide | omega | (simp only [List.length_append, List.length_cons, List.length_nil, List.length_map, List.length_reverse, List.length_replicate, List.length_range, List.length_take, List.length_drop, enD_length, rangeD_length]; first | decide | omega) | (simp; done) | fail) [decide_eq_true, decide_eq_false, kAsg, kNx, b_taken_on, mindD, nmD, h1, h2, g1]
end PL
set_option Elab.async false
set_option linter.all false
set_option maxRecDepth 100000
set_option maxHeartbeats 1000000
set_option exponentiation.threshold 20000
namespace PL
set_option autoImplicit false
open PySem L2 PyProof.Rows
/-- a body goes on with P, or leaves with G -/
def Nxf (P : List Sl → Prop) (G : RS → Prop) : RS → Prop
  | .nx ρ => P ρ
  | .ct ρ => P ρ
  | .bk _ => False
  | .stuck => False
  | .rt r ρ => G (.rt r ρ)
  | .exc x ρ => G (.exc x ρ)
@[simp] theorem nxf_nx (P : List Sl → Prop) (G : RS → Prop) (ρ : List Sl) : Nxf P G (.nx ρ) = P ρ := rfl
@[simp] theorem nxf_ct (P : List Sl → Prop) (G : RS → Prop) (ρ : List Sl) : Nxf P G (.ct ρ) = P ρ := rfl
@[simp] theorem nxf_rt (P : List Sl → Prop) (G : RS → Prop) (r : Sl) (ρ : List Sl) : Nxf P G (.rt r ρ) = G (.rt r ρ) := rfl
@[simp] theorem nxf_exc (P : List Sl → Prop) (G : RS → Prop) (r : Exn) (ρ : List Sl) : Nxf P G (.exc r ρ) = G (.exc r ρ) := rfl
def brkP (p : Nat → Bool) (rs : List Int) (r : Int) (w : Nat) : Bool := decide (rs.getD w 0 = r) && !p w
def brkO (p : Nat → Bool) (rs : List Int) (r : Int) : Option Nat := (List.range rs.length).find? (brkP p rs r)
def optN : Option Nat → D
  | none => .non
  | some i => .int (i : Nat)
def BrokenK (f : Fn) : Prop := ∀ (p : Nat → Bool) (rs : List Int) (r : Int), rs.length ≤ 1000 → f [.val (.tup (rs.map .int)), .val (tabD p rs.length), .val (.int r)] = .ok (.val (optN (brkO p rs r))) [.val (.tup (rs.map .int)), .val (tabD p rs.length), .val (.int r)]
theorem BrokenK.at {f : Fn} (h : BrokenK f) {ns : List (List Nat)} {rs : List Int} (hn : okN ns) (hr : okR ns rs) (p : Nat → Bool) (r : Int) :
    f [.val (.tup (rs.map .int)), .val (tabD p (W2 ns)), .val (.int r)] = .ok (.val (optN (brkO p rs r))) [.val (.tup (rs.map .int)), .val (tabD p (W2 ns)), .val (.int r)] := by
  have h1 := h p rs r (by have := W2_256 hn; rw [hr]; omega)
  rwa [hr] at h1
end PL
set_option Elab.async false
set_option linter.all false
set_option maxRecDepth 100000
set_option maxHeartbeats 1000000
set_option exponentiation.threshold 20000
namespace PL
set_option autoImplicit false
open PySem L2 PyProof.Rows
end PL
set_option Elab.async false
set_option linter.all false
set_option maxRecDepth 100000
set_option maxHeartbeats 1000000
set_option exponentiation.threshold 20000
namespace PL
set_option autoImplicit false
open PySem L2 PyProof.Rows
theorem rep_flat {α : Type} (x : α) (n : Nat) : (List.replicate n [x]).flatten = List.replicate n x := by
  induction n with
  | zero => rfl
  | succ n ih => rw [List.replicate_succ, List.replicate_succ, List.flatten_cons, ih]; rfl
theorem rep_zero (n : Nat) (h : n ≤ 1000000) : gRep (.lst [.int 0]) (.int (n : Nat)) = .ok (.lst ((List.replicate n (0 : Int)).map .int)) := by
  rw [gRep_li _ _ (by omega) (by omega) (by simp; omega)]
  have e : ((n : Nat) : Int).toNat = n := by omega
  rw [e, rep_flat, List.map_replicate]
def zerosL (ns : List (List Nat)) : List Int := List.replicate (W2 ns) 0
theorem zerosL_len (ns : List (List Nat)) : (zerosL ns).length = W2 ns := by simp [zerosL]
theorem W2_gt {ns : List (List Nat)} (hn : okN ns) : 0 < W2 ns := by have := W2_2 hn; omega
def FlatK (f : Fn) : Prop := ∀ ns : List (List Nat), okN ns → f [.val (nmD ns)] = .ok (.val (mindD ns (zerosL ns))) [.val (nmD ns)]
theorem flat_ok : FlatK (bodyF 1 1 1 b_flat) := fun ns hn => by
  have h256 := W2_256 hn
  have q1 : gShl (.int 1) (.int (ns.length : Nat)) = .ok (.int (W2 ns : Nat)) := gShl_p ns.length (by have := hn.2.1; omega)
  have q2 := rep_zero (W2 ns) (by omega)
  have q3 : List.replicate (W2 ns) (0 : Int) = zerosL ns := rfl
  rw [q3] at q2
  generalize zerosL ns = Z at *
  generalize W2 ns = N at *
  simp (disch := first | assumption | decide | omega | (simp only [List.length_append, List.length_cons, List.length_nil, List.length_map, List.length_reverse, List.length_replicate, List.length_range, List.length_take, List.length_drop, enD_length, rangeD_length]; first | decide | omega) | (simp; done) | fail) [decide_eq_true, decide_eq_false, kAsg, kNx, b_flat, mindD, nmD, q1, q2]
end PL
set_option Elab.async false
set_option linter.all false
set_option maxRecDepth 100000
set_option maxHeartbeats 1000000
set_option exponentiation.threshold 20000
namespace PL
set_option autoImplicit false
open PySem L2 PyProof.Rows
end PL
set_option Elab.async false
set_option linter.all false
set_option maxRecDepth 100000
set_option maxHeartbeats 1000000
set_option exponentiation.threshold 20000
namespace PL
set_option autoImplicit false
open PySem L2 PyProof.Rows
end PL
set_option Elab.async false
set_option linter.all false
set_option maxRecDepth 100000
set_option maxHeartbeats 1000000
set_option exponentiation.threshold 20000
namespace PL
set_option autoImplicit false
open PySem L2 PyProof.Rows
def oneI (b : Bool) : Int := if b = true then 1 else 0
end PL
set_option Elab.async false
set_option linter.all false
set_option maxRecDepth 100000
set_option maxHeartbeats 1000000
set_option exponentiation.threshold 20000
namespace PL
set_option autoImplicit false
open PySem L2 PyProof.Rows
end PL
set_option Elab.async false
set_option linter.all false
set_option maxRecDepth 100000
set_option maxHeartbeats 1000000
set_option exponentiation.threshold 20000
namespace PL
set_option autoImplicit false
open PySem L2 PyProof.Rows
theorem gEq_tabN {p : Nat → Bool} {n w : Nat} (h : w < n) (hp : p w = true) : gEq (tabD p n) (.int 0) = .ok false := by
  rw [tabD_zero n]
  unfold tabD
  rw [gEq_ii, decide_eq_false]
  intro e
  have := tab_inj (p := p) (q := fun _ => false) (n := n) (by omega) w h
  rw [hp] at this; cases this
def noT (ns : List (List Nat)) (t : T) : Prop := ∀ w, w < W2 ns → t.ev ns w = false
end PL
set_option Elab.async false
set_option linter.all false
set_option maxRecDepth 100000
namespace PL
set_option autoImplicit false
open L2
end PL
set_option Elab.async false
set_option linter.all false
set_option maxRecDepth 100000
set_option maxHeartbeats 1000000
set_option exponentiation.threshold 20000
namespace PL
set_option autoImplicit false
open PySem L2 PyProof.Rows
end PL
set_option Elab.async false
set_option linter.all false
set_option maxRecDepth 100000
set_option maxHeartbeats 1000000
set_option exponentiation.threshold 20000
namespace PL
set_option autoImplicit false
open PySem L2 PyProof.Rows
theorem okQ_turn {ns : List (List Nat)} {t : T} {l : Int} {rs : List Int} (ho : openT ns t) (hr : okR ns rs) : okQ ns (turnL ns t l rs) := by
  refine ⟨turnL_R hr, turnL_nn ho hr, ?_⟩
  obtain ⟨h1, h2⟩ := turnL_least (lean := l) ho hr
  by_cases h : 0 ≤ l
  · have e : mx0 (-l) = 0 := by unfold mx0; split <;> omega
    obtain ⟨⟨u, a1, a2, a3⟩, _⟩ := least_some h1
    exact ⟨u, by rw [turnL_len, hr] at a1; exact a1, by rw [a3, e]⟩
  · have e : mx0 l = 0 := by unfold mx0; split <;> omega
    obtain ⟨⟨u, a1, a2, a3⟩, _⟩ := least_some h2
    exact ⟨u, by rw [turnL_len, hr] at a1; exact a1, by rw [a3, e]⟩
theorem least_nv_no {ns : List (List Nat)} {t : T} {rs : List Int} (hq : okQ ns rs) (h : noT ns t) : leastO (t.nv ns) rs = some 0 := by
  have hr' : rs.length = W2 ns := hq.1
  obtain ⟨w, h1, h2⟩ := hq.2.2
  exact least_eq ⟨w, by omega, by unfold T.nv; rw [h w h1]; rfl, h2⟩ fun v hv _ => hq.nn v (by omega)
theorem tri {ns : List (List Nat)} {t : T} : openT ns t ∨ allT ns t ∨ noT ns t := by
  by_cases ho : openT ns t
  · exact .inl ho
  · rcases not_open ho with h | h
    · exact .inr (.inr h)
    · exact .inr (.inl h)
def TakeXT (f : Fn) : Prop := ∀ (ns : List (List Nat)) (rs : List Int) (t : T) (firm : Int), okN ns → okT ns t → allT ns t → f [.val (mindD ns rs), .val t.toD, .val (.int firm)] = .ok (.val (mindD ns rs)) [.val (mindD ns rs), .val t.toD, .val (.int firm)]
end PL
set_option Elab.async false
set_option linter.all false
set_option maxRecDepth 100000
set_option maxHeartbeats 1000000
set_option exponentiation.threshold 20000
namespace PL
set_option autoImplicit false
open PySem L2 PyProof.Rows
end PL
set_option Elab.async false
set_option linter.all false
set_option maxRecDepth 100000
set_option maxHeartbeats 1000000
set_option exponentiation.threshold 20000
namespace PL
set_option autoImplicit false
open PySem L2 PyProof.Rows
end PL
set_option Elab.async false
set_option linter.all false
set_option maxRecDepth 100000
namespace PL
set_option autoImplicit false
open L2
@[simp] theorem gRevI_l (ds : List D) : gRevI (.lst ds) = .ok ds.reverse := tr rfl
@[simp] theorem iRev_eq (fa : Ev D) (ρ : List Sl) : iRev fa ρ = (fa ρ).bind gRevI := tr rfl
@[simp] theorem gBits_i (i : Int) : gBits (.int i) = .ok (.int (PySem.Builtin.Int.intBits i : Nat)) := tr rfl
@[simp] theorem gDictOf_d (es : List (Kc × D)) : gDictOf [.dic es] = .ok (.dic es) := tr rfl
@[simp] theorem gExtend_l (ds es : List D) (h : ds.length + es.length < 1000000) : gExtend ds [.lst es] = .ok (.non, ds ++ es) := if_pos h
def dgetR (fb : Ev D) (ρ : List Sl) : D → R D
  | .dic es => (fb ρ).bind fun k => (oR k.key).bind fun kc => .ok ((lookC es kc).getD .non)
  | _ => .stuck
@[simp] theorem eDget1_eq (fa fb : Ev D) (ρ : List Sl) : eDget1 fa fb ρ = (fa ρ).bind (dgetR fb ρ) := tr rfl
@[simp] theorem dgetR_d (fb : Ev D) (ρ : List Sl) (es : List (Kc × D)) : dgetR fb ρ (.dic es) = (fb ρ).bind fun k => (oR k.key).bind fun kc => .ok ((lookC es kc).getD .non) := tr rfl
end PL
set_option Elab.async false
set_option linter.all false
set_option maxRecDepth 100000
namespace PL
set_option autoImplicit false
open L2
end PL
set_option Elab.async false
set_option linter.all false
set_option maxRecDepth 100000
set_option maxHeartbeats 1000000
set_option exponentiation.threshold 20000
namespace PL
set_option autoImplicit false
open PySem L2 PyProof.Rows
end PL
set_option Elab.async false
set_option linter.all false
set_option maxRecDepth 100000
set_option maxHeartbeats 1000000
set_option exponentiation.threshold 20000
namespace PL
set_option autoImplicit false
open PySem L2 PyProof.Rows
end PL
set_option Elab.async false
set_option linter.all false
set_option maxRecDepth 100000
set_option maxHeartbeats 1000000
set_option exponentiation.threshold 20000
namespace PL
set_option autoImplicit false
open PySem L2 PyProof.Rows
end PL
set_option Elab.async false
set_option linter.all false
set_option maxRecDepth 100000
set_option maxHeartbeats 1000000
set_option exponentiation.threshold 20000
namespace PL
set_option autoImplicit false
open PySem L2 PyProof.Rows
end PL
set_option Elab.async false
set_option linter.all false
set_option maxRecDepth 100000
set_option maxHeartbeats 1000000
set_option exponentiation.threshold 20000
namespace PL
set_option autoImplicit false
open PySem L2 PyProof.Rows
end PL
set_option Elab.async false
set_option linter.all false
set_option maxRecDepth 100000
set_option maxHeartbeats 1000000
set_option exponentiation.threshold 20000
namespace PL
set_option autoImplicit false
open PySem L2 PyProof.Rows
def PI (P : List Nat) : List Int := P.map fun i : Nat => (i : Int)
end PL
set_option Elab.async false
set_option linter.all false
set_option maxRecDepth 100000
namespace PL
set_option autoImplicit false
open L2
end PL
set_option Elab.async false
set_option linter.all false
set_option maxRecDepth 100000
set_option maxHeartbeats 1000000
set_option exponentiation.threshold 20000
namespace PL
set_option autoImplicit false
open PySem L2 PyProof.Rows
abbrev Kn' := List (List Nat × Bool)
def kD (kn : Kn') : List (Kc × D) := kn.map fun p => (.inr p.1, .int (oneI p.2))
def getK : Kn' → List Nat → Option Bool
  | [], _ => none
  | p :: kn, x => if p.1 = x then some p.2 else getK kn x
def putK (kn : Kn') (x : List Nat) (b : Bool) : Kn' := if (kn.any fun p => decide (p.1 = x)) = true then kn.map fun p => if p.1 = x then (p.1, b) else p else kn ++ [(x, b)]
def o3D : Option Bool → D
  | none => .non
  | some b => .int (oneI b)
def not3 (a : Option Bool) : Option Bool := a.map (!·)
def and3 (a b : Option Bool) : Option Bool := if a = some false ∨ b = some false then some false else if a = some true ∧ b = some true then some true else none
def or3 (a b : Option Bool) : Option Bool := if a = some true ∨ b = some true then some true else if a = some false ∧ b = some false then some false else none
def sm3 : Option Bool → Option Bool → Option Bool
  | some a, some b => some (a == b)
  | _, _ => none
def seenT (kn : Kn') : T → Option Bool
  | .nm x => getK kn x
  | .yes => some true
  | .no => some false
  | .nt t => not3 (seenT kn t)
  | .bin .an s t => and3 (seenT kn s) (seenT kn t)
  | .bin .or s t => or3 (seenT kn s) (seenT kn t)
  | .bin .th s t => or3 (not3 (seenT kn s)) (seenT kn t)
  | .bin .sm s t => sm3 (seenT kn s) (seenT kn t)
def SeenK (n : Nat) (f : Fn) : Prop := ∀ (t : T) (kn : Kn'), t.depth ≤ n → f [.val t.toD, .val (.dic (kD kn))] = .ok (.val (o3D (seenT kn t))) [.val t.toD, .val (.dic (kD kn))]
def consK (ns : List (List Nat)) (kn : Kn') (w : Nat) : Prop := ∀ x ∈ ns, ∀ b, getK kn x = some b → (T.nm x).ev ns w = b
theorem seen_ev {ns : List (List Nat)} {kn : Kn'} {w : Nat} (hc : consK ns kn w) : ∀ (t : T) (b : Bool), t.nmIn ns → seenT kn t = some b → t.ev ns w = b
  | .nm x, b, hi, h => hc x hi b h
  | .yes, b, _, h => by simp only [seenT, Option.some.injEq] at h; subst h; rfl
  | .no, b, _, h => by simp only [seenT, Option.some.injEq] at h; subst h; rfl
  | .nt t, b, hi, h => by
    have ih := fun b => seen_ev hc t b hi
    simp only [seenT, not3] at h
    cases e : seenT kn t with
    | none => rw [e] at h; cases h
    | some a =>
      rw [e] at h
      have h := Option.some.inj h
      subst h
      show (!t.ev ns w) = _
      rw [ih a e]
  | .bin k s t, b, hi, h => by
    have i1 := fun b => seen_ev hc s b hi.1
    have i2 := fun b => seen_ev hc t b hi.2
    have key : ∀ a c : Option Bool, seenT kn s = a → seenT kn t = c → (.bin k s t : T).ev ns w = b := fun a c ea ec => by
      have j1 : ∀ x, a = some x → s.ev ns w = x := fun x hx => i1 x (ea.trans hx)
      have j2 : ∀ x, c = some x → t.ev ns w = x := fun x hx => i2 x (ec.trans hx)
      cases k <;> (simp only [seenT, ea, ec] at h; simp only [T.ev]; rcases a with _ | _ | _ <;> rcases c with _ | _ | _ <;> simp_all [and3, or3, not3, sm3])
    exact key _ _ rfl rfl
end PL
set_option Elab.async false
set_option linter.all false
set_option maxRecDepth 100000
set_option maxHeartbeats 1000000
set_option exponentiation.threshold 20000
namespace PL
set_option autoImplicit false
open PySem L2 PyProof.Rows
inductive Pap where
  | kept | broken (k : Nat) | split (x : List Nat) (l r : Pap)
def Pap.toD : Pap → D
  | .kept => .tup [.str [107, 101, 112, 116]]
  | .broken k => .tup [.str [98, 114, 111, 107, 101, 110], .int (k : Nat)]
  | .split x l r => .tup [.str [115, 112, 108, 105, 116], .str x, l.toD, r.toD]
def Pap.depth : Pap → Nat
  | .split _ l r => max l.depth r.depth + 1
  | _ => 1
theorem seen_fullH {kn : Kn'} : ∀ t : T, (∀ x, t.has x = true → getK kn x ≠ none) → seenT kn t ≠ none
  | .nm x, hk => hk x (by simp [T.has])
  | .yes, _ => by simp [seenT]
  | .no, _ => by simp [seenT]
  | .nt t, hk => by
    have ih := seen_fullH t hk
    simp only [seenT, not3]
    cases e : seenT kn t with
    | none => exact absurd e ih
    | some a => simp
  | .bin k s t, hk => by
    have i1 := seen_fullH s fun x hx => hk x (by simp [T.has, hx])
    have i2 := seen_fullH t fun x hx => hk x (by simp [T.has, hx])
    cases k <;> (simp only [seenT]; rcases e1 : seenT kn s with _ | _ | _ <;> rcases e2 : seenT kn t with _ | _ | _ <;> simp_all [and3, or3, not3, sm3])
/-- the world of what is known -/
def worldK (ns : List (List Nat)) (kn : Kn') : Nat := tabOf (fun i => decide (getK kn (ns.getD i []) = some true)) ns.length
theorem worldK_lt (ns : List (List Nat)) (kn : Kn') : worldK ns kn < W2 ns := tabOf_lt _ _
theorem worldK_cons (ns : List (List Nat)) (kn : Kn') : consK ns kn (worldK ns kn) := fun x hx b hb => by
  obtain ⟨j, h1, h2⟩ := posS_mem hx
  obtain ⟨h3, _⟩ := posS_spec h1
  have hj : j < ns.length := (List.getElem?_eq_some_iff.mp h3).1
  simp only [T.ev, h1, Option.getD_some]
  show (worldK ns kn).testBit j = b
  unfold worldK
  rw [tabOf_bit, List.getD_eq_getElem?_getD, h3]
  simp only [Option.getD_some, hj, decide_true, Bool.true_and, hb]
  cases b <;> simp
theorem no_has {kn : Kn'} {t : T} {asked : List (List Nat)} (ha : asked = []) (hc : ∀ x, t.has x = true → x ∈ asked ∨ getK kn x ≠ none) : seenT kn t ≠ none := seen_fullH t fun x hx => (hc x hx).resolve_left (by rw [ha]; simp)
structure Case (ns : List (List Nat)) (ps : List T) (t : T) (asked : List (List Nat)) (qs : List (Nat × T)) (kn : Kn') : Prop where
  nd : asked.Nodup
  sub : ∀ x ∈ asked, x ∈ ns ∧ getK kn x = none
  qin : ∀ p ∈ qs, ps[p.1]? = some p.2
  cov : ∀ x, (t.has x = true ∨ ∃ p ∈ qs, p.2.has x = true) → x ∈ asked ∨ getK kn x ≠ none
  no : ∀ w, w < W2 ns → consK ns kn w → (∀ p ∈ qs, p.2.ev ns w = true) → t.ev ns w = true
theorem Case.nil {ns : List (List Nat)} {ps : List T} {t : T} {qs : List (Nat × T)} {kn : Kn'} (h : Case ns ps t [] qs kn) (ht : t.nmIn ns) (hin : ∀ p ∈ qs, p.2.nmIn ns) (hno : qs.find? (fun p => decide (seenT kn p.2 = some false)) = none) : seenT kn t = some true := by
  have hc := worldK_cons ns kn
  have h1 := h.no _ (worldK_lt ns kn) hc fun p hp => by
    rcases e : seenT kn p.2 with _ | _ | _
    · exact absurd e (no_has rfl fun x hx => h.cov x (.inr ⟨p, hp, hx⟩))
    · have := List.find?_eq_none.mp hno p hp
      simp [e] at this
    · exact seen_ev hc p.2 true (hin p hp) e
  rcases e : seenT kn t with _ | _ | _
  · exact absurd e (no_has rfl fun x hx => h.cov x (.inl hx))
  · have := seen_ev hc t false ht e
    rw [h1] at this; cases this
  · rfl
end PL
set_option Elab.async false
set_option linter.all false
set_option maxRecDepth 100000
set_option maxHeartbeats 1000000
set_option exponentiation.threshold 20000
namespace PL
set_option autoImplicit false
open PySem L2 PyProof.Rows
end PL
set_option Elab.async false
set_option linter.all false
set_option maxRecDepth 100000
set_option maxHeartbeats 1000000
set_option exponentiation.threshold 20000
namespace PL
set_option autoImplicit false
open PySem L2 PyProof.Rows
theorem SeenK.le {n m : Nat} {f : Fn} (h : SeenK n f) (hm : m ≤ n) : SeenK m f := fun t kn hd => h t kn (by omega)
theorem LookOk.le {n m : Nat} {f : Fn} (h : LookOk n f) (hm : m ≤ n) : LookOk m f := fun ns t a b c d e => h ns t a b c (by omega) e
theorem NamesInOk.le {n m : Nat} {f : Fn} (h : NamesInOk n f) (hm : m ≤ n) : NamesInOk m f := fun t a b c => h t (by omega) b c
end PL
set_option Elab.async false
set_option linter.all false
set_option maxRecDepth 100000
set_option maxHeartbeats 1000000
set_option exponentiation.threshold 20000
namespace PL
set_option autoImplicit false
open PySem L2 PyProof.Rows
end PL
set_option Elab.async false
set_option linter.all false
set_option maxRecDepth 100000
set_option maxHeartbeats 1000000
set_option exponentiation.threshold 20000
namespace PL
set_option autoImplicit false
open PySem L2 PyProof.Rows
end PL
set_option Elab.async false
set_option linter.all false
set_option maxRecDepth 100000
set_option maxHeartbeats 1000000
set_option exponentiation.threshold 20000
namespace PL
set_option autoImplicit false
open PySem L2 PyProof.Rows
end PL
set_option Elab.async false
set_option linter.all false
set_option maxRecDepth 100000
namespace PL
set_option autoImplicit false
open L2
def augXD (j : Nat) (ρ : List Sl) (ds : List D) : D → RS
  | .lst es => if ds.length + es.length < 1000000 then .nx (ρ.set j (.own (.lst (ds ++ es)))) else .stuck
  | _ => .stuck
def augXK (j : Nat) (fe : Ev D) (ρ : List Sl) : Option Sl → RS
  | some (.own (.lst ds)) => tryE ρ (fe ρ) (augXD j ρ ds)
  | _ => .stuck
@[simp] theorem augX_eq (j : Nat) (fe : Ev D) (ρ : List Sl) : augX j fe ρ = augXK j fe ρ ρ[j]? := tr rfl
@[simp] theorem augXK_own (j : Nat) (fe : Ev D) (ρ : List Sl) (ds : List D) : augXK j fe ρ (some (.own (.lst ds))) = tryE ρ (fe ρ) (augXD j ρ ds) := tr rfl
@[simp] theorem augXD_l (j : Nat) (ρ : List Sl) (ds es : List D) (h : ds.length + es.length < 1000000) : augXD j ρ ds (.lst es) = .nx (ρ.set j (.own (.lst (ds ++ es)))) := if_pos h
def setDfI (j : Nat) (ρ : List Sl) (es : List (Kc × D)) (d : D) : Option Kc → RS
  | some kc => if es.length < 1000000 then setDfK j es d ρ kc (lookC es kc) else .stuck
  | none => .stuck
def setDfS (j : Nat) (fk fv : Ev D) (ρ : List Sl) : Option Sl → RS
  | some (.own (.dic es)) => tryE ρ (fk ρ) fun k => tryE ρ (fv ρ) fun d => setDfI j ρ es d k.key
  | _ => .stuck
@[simp] theorem setDf_eq (j : Nat) (fk fv : Ev D) (ρ : List Sl) : setDf j fk fv ρ = setDfS j fk fv ρ ρ[j]? := tr rfl
@[simp] theorem setDfS_own (j : Nat) (fk fv : Ev D) (ρ : List Sl) (es : List (Kc × D)) : setDfS j fk fv ρ (some (.own (.dic es))) = tryE ρ (fk ρ) fun k => tryE ρ (fv ρ) fun d => setDfI j ρ es d k.key := tr rfl
@[simp] theorem setDfI_some (j : Nat) (ρ : List Sl) (es : List (Kc × D)) (d : D) (kc : Kc) (h : es.length < 1000000) : setDfI j ρ es d (some kc) = setDfK j es d ρ kc (lookC es kc) := if_pos h
@[simp] theorem setDfK_some (j : Nat) (es : List (Kc × D)) (d x : D) (ρ : List Sl) (kc : Kc) : setDfK j es d ρ kc (some x) = .nx ρ := tr rfl
@[simp] theorem setDfK_none (j : Nat) (es : List (Kc × D)) (d : D) (ρ : List Sl) (kc : Kc) : setDfK j es d ρ kc none = .nx (ρ.set j (.own (.dic (putC es kc d)))) := tr rfl
@[simp] theorem gRgL_i (n : Int) (h0 : -1000000 ≤ n) (h1 : n ≤ 1000000) : gRgL (.int n) = .ok (.lst (rangeD 0 n)) := if_pos ⟨⟨by omega, by omega⟩, show n.toNat ≤ 1000000 by omega⟩
end PL
set_option Elab.async false
set_option linter.all false
set_option maxRecDepth 100000
namespace PL
set_option autoImplicit false
open L2
@[simp] theorem lendG_eq (i : Nat) (f : Ev D) (ρ : List Sl) : lendG i f ρ = (f (frz1 ρ i ρ[i]?)).bind fun d => if d.solid = true then .ok d else .stuck := tr rfl
end PL
set_option Elab.async false
set_option linter.all false
set_option maxRecDepth 100000
namespace PL
set_option autoImplicit false
open L2
@[simp] theorem eLcX_eq (vs : List Nat) (fi : Ev (List D)) (ft : D → R (List (Nat × D))) (fc : Ev Bool) (fe : Ev D) (ρ : List Sl) : eLcX vs fi ft fc fe ρ = (fi ρ).bind fun ds => limR ds.length ((lcGoX (wipeS ρ vs) ft fc fe ds).bind fun ys => .ok (.lst ys)) := tr rfl
end PL
set_option Elab.async false
set_option linter.all false
set_option maxRecDepth 100000
namespace PL
set_option autoImplicit false
open L2
@[simp] theorem eSIdx_eq (fa fe : Ev D) (ρ : List Sl) : eSIdx fa fe ρ = (fa ρ).bind (sidxR fe ρ) := tr rfl
@[simp] theorem sidxR_str (fe : Ev D) (ρ : List Sl) (s : List Nat) : sidxR fe ρ (.str s) = (fe ρ).bind (gSI s) := tr rfl
@[simp] theorem iChr_eq (fa : Ev D) (ρ : List Sl) : iChr fa ρ = (fa ρ).bind chrR := tr rfl
@[simp] theorem chrR_str (s : List Nat) : chrR (.str s) = .ok (s.map fun c => .str [c]) := tr rfl
@[simp] theorem kCallB_eq (i : Nat) (G : Fn) (d : D) : kCallB i G d = callS [.bw i, .fz fun _ => .ok d] G kDrop := tr rfl
end PL
set_option Elab.async false
set_option linter.all false
set_option maxRecDepth 100000
namespace PL
set_option autoImplicit false
open PySem L2
@[simp] theorem eCnt_eq (fa fe : Ev D) (ρ : List Sl) : eCnt fa fe ρ = (fa ρ).bind (cntR fe ρ) := tr rfl
@[simp] theorem cntR_lst (fe : Ev D) (ρ : List Sl) (ds : List D) : cntR fe ρ (.lst ds) = (fe ρ).bind (gCntL ds) := tr rfl
@[simp] theorem gNoneIn_lst (ds : List D) (h : ds.all D.isTN = true) : gNoneIn .non (.lst ds) = .ok (ds.any D.isNon) := if_pos h
@[simp] theorem kAppT_eq (i l : Nat) (d : D) : kAppT i l d = mutS i gAppend (aCons (eTup (aCons (eC d) (aCons (eFrz l) aNil))) aNil) kNx := tr rfl
@[simp] theorem iEnC_eq (fa : Ev D) (ρ : List Sl) : iEnC fa ρ = (fa ρ).bind enSR := tr rfl
@[simp] theorem enSR_str (s : List Nat) : enSR (.str s) = .ok (enD 0 (s.map fun c => .str [c])) := tr rfl
end PL
set_option Elab.async false
set_option linter.all false
set_option maxRecDepth 100000
namespace PL
set_option autoImplicit false
open PySem PySem.Spec PyProof.Rows L2
@[simp] theorem logOf_log (st un : List D) : logOf (some (.big (logO st un))) = some (st, un) := by unfold logOf; exact if_pos rfl
@[simp] theorem ptL_t (a b : List D) : ptL true (a, b) = b := rfl
@[simp] theorem ptL_f (a b : List D) : ptL false (a, b) = a := rfl
@[simp] theorem mkL_t (a b : List D) : mkL true a b = logO b a := rfl
@[simp] theorem mkL_f (a b : List D) : mkL false a b = logO a b := rfl
def fldK (b : Bool) : Option (List D × List D) → R D
  | some q => .ok (.lst (ptL b q))
  | none => .stuck
@[simp] theorem fldK_some (b : Bool) (q : List D × List D) : fldK b (some q) = .ok (.lst (ptL b q)) := tr rfl
@[simp] theorem eFld_eq (i : Nat) (b : Bool) (ρ : List Sl) : eFld i b ρ = fldK b (logOf ρ[i]?) := by
  unfold eFld fldK
  cases logOf ρ[i]? <;> rfl
def lgK (i : Nat) (b : Bool) (g : GL) (fs : Ev (List D)) (k : D → List Sl → RS) (ρ : List Sl) : Option (List D × List D) → RS
  | some q => tryE ρ (fs ρ) fun args => match g (ptL b q) args with
    | .ok (res, ds') => k res (ρ.set i (.big (mkL b ds' (ptL (!b) q))))
    | _ => .stuck
  | none => .stuck
theorem lgMut_eq (i : Nat) (b : Bool) (g : GL) (fs : Ev (List D)) (k : D → List Sl → RS) (ρ : List Sl) : lgMut i b g fs k ρ = lgK i b g fs k ρ (logOf ρ[i]?) := by
  unfold lgMut lgK
  cases logOf ρ[i]? <;> rfl
/-- self.f.append(e) -/
theorem lgApp {i : Nat} {b : Bool} {fe : Ev D} {ρ : List Sl} {st un : List D} {d : D} (h : ρ[i]? = some (.big (logO st un))) (he : fe ρ = .ok d) (hl : (ptL b (st, un)).length < LIM) :
    lgMut i b gAppend (aCons fe aNil) kNx ρ = .nx (ρ.set i (.big (mkL b (ptL b (st, un) ++ [d]) (ptL (!b) (st, un))))) := by
  rw [lgMut_eq, h, logOf_log]
  have e : aCons fe aNil ρ = .ok [d] := by
    show (fe ρ).bind _ = _
    rw [he]; rfl
  show tryE ρ (aCons fe aNil ρ) _ = _
  rw [e]
  have g : gAppend (ptL b (st, un)) [d] = .ok (.non, ptL b (st, un) ++ [d]) := if_pos hl
  show (match gAppend (ptL b (st, un)) [d] with
    | .ok (res, ds') => kNx res (ρ.set i (.big (mkL b ds' (ptL (!b) (st, un)))))
    | _ => .stuck) = _
  rw [g]
/-- self.f = [..] -/
theorem lgAsg {i : Nat} {fe : Ev D} {ρ : List Sl} {st un ds : List D} (h : ρ[i]? = some (.big (logO st un))) (he : fe ρ = .ok (.lst ds)) :
    asgL i true fe ρ = .nx (ρ.set i (.big (logO st ds))) := by
  have e : shOf true (some (.big (logO st un))) = some fun ds => logO st ds := by
    show (if lgN = lgN then some (fun ds => logO st ds) else none) = _
    exact if_pos rfl
  unfold asgL
  rw [h, e, he]
  rfl
/-- one list's last item to the other -/
theorem lgMove {i : Nat} {b : Bool} {ρ : List Sl} {st un xs : List D} {d : D} (h : ρ[i]? = some (.big (logO st un))) (hb : ptL b (st, un) = xs ++ [d]) (hl : (ptL (!b) (st, un)).length < LIM) :
    moveL i b ρ = .nx (ρ.set i (.big (mkL b xs (ptL (!b) (st, un) ++ [d])))) := by
  have g1 : gPop (xs ++ [d]) [] = .ok (d, xs) := by
    show (oR (xs ++ [d])[(xs ++ [d]).length - 1]?).bind _ = _
    have e : (xs ++ [d])[(xs ++ [d]).length - 1]? = some d := by simp
    rw [e]
    show R.ok (d, (xs ++ [d]).dropLast) = _
    rw [List.dropLast_concat]
  have g : gAppend (ptL (!b) (st, un)) [d] = .ok (.non, ptL (!b) (st, un) ++ [d]) := if_pos hl
  unfold moveL
  rw [h, logOf_log]
  show (match gPop (ptL b (st, un)) [] with
    | .ok (d, xs) => match gAppend (ptL (!b) (st, un)) [d] with
      | .ok (_, ys) => RS.nx (ρ.set i (.big (mkL b xs ys)))
      | _ => .stuck
    | _ => .stuck) = _
  rw [hb, g1]
  show (match gAppend (ptL (!b) (st, un)) [d] with
      | .ok (_, ys) => RS.nx (ρ.set i (.big (mkL b xs ys)))
      | _ => .stuck) = _
  rw [g]
def methK (i : Nat) (ars : List Ar) (G : Fn) (k : Sl → List Sl → RS) (ρ : List Sl) : Option (List D × List D) → RS
  | some _ => callS (.bw i :: ars) G k ρ
  | none => .stuck
@[simp] theorem methK_some (i : Nat) (ars : List Ar) (G : Fn) (k : Sl → List Sl → RS) (ρ : List Sl) (q : List D × List D) : methK i ars G k ρ (some q) = callS (.bw i :: ars) G k ρ := tr rfl
@[simp] theorem methS_eq (i : Nat) (ars : List Ar) (G : Fn) (k : Sl → List Sl → RS) (ρ : List Sl) : methS i ars G k ρ = methK i ars G k ρ (logOf ρ[i]?) := by
  unfold methS methK
  cases logOf ρ[i]? <;> rfl
@[simp] theorem bwK_big (r : R (List Sl)) (o : OT) : bwK r (some (.big o)) = r.bind fun l => .ok (.big o :: l) := tr rfl
def mkK (i : Nat) (ρ : List Sl) : RF → RS
  | .ok (.val .non) (.big o :: _) => .nx (ρ.set i (.big o))
  | _ => .stuck
@[simp] theorem mkK_ok (i : Nat) (ρ : List Sl) (o : OT) (r : List Sl) : mkK i ρ (.ok (.val .non) (.big o :: r)) = .nx (ρ.set i (.big o)) := tr rfl
@[simp] theorem makeS_eq (i : Nat) (G : Fn) (fs : Ev (List D)) (ρ : List Sl) : makeS i G fs ρ = tryE ρ (fs ρ) fun ds => mkK i ρ (G (.big (.node (.obj []) []) :: ds.map .val)) := by
  unfold makeS
  cases fs ρ with
  | ok ds =>
    show (match G (.big (.node (.obj []) []) :: ds.map .val) with
      | .ok (.val .non) (.big o :: _) => RS.nx (ρ.set i (.big o))
      | _ => .stuck) = mkK i ρ _
    unfold mkK
    rfl
  | _ => rfl
def pmK (G : List Sl → R D) : Option (List D × List D) → R D
  | some q => G [.big (logO q.1 q.2)]
  | none => .stuck
@[simp] theorem pmK_some (G : List Sl → R D) (q : List D × List D) : pmK G (some q) = G [.big (logO q.1 q.2)] := tr rfl
@[simp] theorem ePm_eq (i : Nat) (G : List Sl → R D) (ρ : List Sl) : ePm i G ρ = pmK G (logOf ρ[i]?) := by
  unfold ePm pmK
  cases logOf ρ[i]? <;> rfl
end PL
set_option Elab.async false
set_option linter.all false
set_option maxRecDepth 100000
namespace PL
set_option autoImplicit false
open PySem PySem.Spec PyProof.Rows L2
@[simp] theorem dK_rt (d : D) (ρ : List Sl) (k : D → Es) : dK (.rt (.val d) ρ) k = k d ρ := tr rfl
@[simp] theorem dK_exc (x : Exn) (ρ : List Sl) (k : D → Es) : dK (.exc x ρ) k = .exc x ρ := tr rfl
@[simp] theorem bK_rt (b : Bool) (ρ : List Sl) (k : Bool → Es) : bK (.rt (.val (.bl b)) ρ) k = k b ρ := tr rfl
@[simp] theorem bK_exc (x : Exn) (ρ : List Sl) (k : Bool → Es) : bK (.exc x ρ) k = .exc x ρ := tr rfl
@[simp] theorem tstX_eq (fc : Ev Bool) (ρ : List Sl) : tstX fc ρ = tryE ρ (fc ρ) fun k => .rt (.val (.bl k)) ρ := tr rfl
@[simp] theorem cmpX_eq (g : D → D → R Bool) (fa fb : Es) (ρ : List Sl) : cmpX g fa fb ρ = dK (fa ρ) fun d ρ1 => dK (fb ρ1) fun e ρ2 => tryE ρ2 (g d e) fun k => .rt (.val (.bl k)) ρ2 := tr rfl
@[simp] theorem isNX_eq (fa : Es) (ρ : List Sl) : isNX fa ρ = dK (fa ρ) fun d ρ1 => .rt (.val (.bl d.isNon)) ρ1 := tr rfl
@[simp] theorem notX_eq (f : Es) (ρ : List Sl) : notX f ρ = bK (f ρ) fun k ρ1 => .rt (.val (.bl (!k))) ρ1 := tr rfl
@[simp] theorem orX_eq (f g : Es) (ρ : List Sl) : orX f g ρ = bK (f ρ) fun k ρ1 => if k = true then .rt (.val (.bl true)) ρ1 else g ρ1 := tr rfl
@[simp] theorem andX_eq (f g : Es) (ρ : List Sl) : andX f g ρ = bK (f ρ) fun k ρ1 => if k = true then g ρ1 else .rt (.val (.bl false)) ρ1 := tr rfl
@[simp] theorem eIfX_eq (fc : Ev Bool) (fa fb : Es) (ρ : List Sl) : eIfX fc fa fb ρ = tryE ρ (fc ρ) fun k => if k = true then fa ρ else fb ρ := tr rfl
@[simp] theorem ifX_eq (f g h : Es) (ρ : List Sl) : ifX f g h ρ = bK (f ρ) fun k ρ1 => if k = true then g ρ1 else h ρ1 := tr rfl
@[simp] theorem retX_eq (f : Es) (ρ : List Sl) : retX f ρ = dK (f ρ) fun d ρ1 => .rt (.val d) ρ1 := tr rfl
@[simp] theorem asgX_eq (ft : D → R (List (Nat × D))) (f : Es) (ρ : List Sl) : asgX ft f ρ = dK (f ρ) fun d ρ1 => tryE ρ1 (ft d) fun as => .nx (setS ρ1 as) := tr rfl
def rtBig (i : Nat) (ρ : List Sl) : Option Sl → RS
  | some (.big o) => .rt (.big o) (ρ.set i .emp)
  | _ => .stuck
@[simp] theorem rtBig_big (i : Nat) (ρ : List Sl) (o : OT) : rtBig i ρ (some (.big o)) = .rt (.big o) (ρ.set i .emp) := tr rfl
@[simp] theorem retB_eq (i : Nat) (ρ : List Sl) : retB i ρ = rtBig i ρ ρ[i]? := tr rfl
@[simp] theorem kBig_big (i : Nat) (o : OT) (ρ : List Sl) : kBig i (.big o) ρ = .nx (ρ.set i (.big o)) := tr rfl
@[simp] theorem kAppP_eq (i : Nat) (d : D) : kAppP i d = mutS i gAppend (aCons (eC d) aNil) kNx := tr rfl
@[simp] theorem gClear_0 (ds : List D) : gClear ds [] = .ok (.non, []) := tr rfl
@[simp] theorem gAbs_i (i : Int) : gAbs [.int i] = .ok (.int (if i < 0 then -i else i)) := tr rfl
def logNK : Option Sl → R Bool
  | some (.val .non) => .ok true
  | some (.big (.node _ _)) => .ok false
  | _ => .stuck
@[simp] theorem logNK_non : logNK (some (.val .non)) = .ok true := tr rfl
@[simp] theorem logNK_big (k : Nk) (xs : List OT) : logNK (some (.big (.node k xs))) = .ok false := tr rfl
@[simp] theorem tLogN_eq (i : Nat) (ρ : List Sl) : tLogN i ρ = logNK ρ[i]? := tr rfl
end PL
set_option Elab.async false
set_option linter.all false
set_option maxRecDepth 100000
namespace PL
set_option autoImplicit false
open PySem PySem.Spec PyProof.Rows L2
@[simp] theorem toD_frz (d : D) : OT.toD (.frz d) = d := by rw [OT.toD]
@[simp] theorem toD_lst (ds : List D) : OT.toD (.lst ds) = .lst ds := by rw [OT.toD]
@[simp] theorem toD_tup (xs : List OT) : OT.toD (.node .tup xs) = .tup (OT.toDs xs) := by rw [OT.toD]
@[simp] theorem toD_nlst (xs : List OT) : OT.toD (.node .lst xs) = .lst (OT.toDs xs) := by rw [OT.toD]
@[simp] theorem toDs_nil : OT.toDs [] = [] := by rw [OT.toDs]
@[simp] theorem toDs_cons (x : OT) (xs : List OT) : OT.toDs (x :: xs) = x.toD :: OT.toDs xs := by rw [OT.toDs]
@[simp] theorem data_frz (d : D) : OT.data (.frz d) = true := by rw [OT.data]
@[simp] theorem data_lst (ds : List D) : OT.data (.lst ds) = true := by rw [OT.data]
@[simp] theorem data_tup (xs : List OT) : OT.data (.node .tup xs) = (!stk (OT.toDs xs) && OT.datas xs) := by rw [OT.data]
@[simp] theorem data_nlst (xs : List OT) : OT.data (.node .lst xs) = OT.datas xs := by rw [OT.data]
@[simp] theorem datas_nil : OT.datas [] = true := by rw [OT.datas]
@[simp] theorem datas_cons (x : OT) (xs : List OT) : OT.datas (x :: xs) = (x.data && OT.datas xs) := by rw [OT.datas]
@[simp] theorem oflat_frz (d : D) : OT.flat (.frz d) = d.flat := by rw [OT.flat]
@[simp] theorem oflat_lst (ds : List D) : OT.flat (.lst ds) = ds.all D.flat := by rw [OT.flat]
@[simp] theorem oflat_node (k : Nk) (xs : List OT) : OT.flat (.node k xs) = OT.flats xs := by rw [OT.flat]
@[simp] theorem oflats_nil : OT.flats [] = true := by rw [OT.flats]
@[simp] theorem oflats_cons (x : OT) (xs : List OT) : OT.flats (x :: xs) = (x.flat && OT.flats xs) := by rw [OT.flats]
@[simp] theorem stk_cons_lst (ds : List D) (xs : List D) : stk (.lst ds :: xs) = false := by simp [stk, D.isS]
@[simp] theorem stk_cons_non (xs : List D) : stk (.non :: xs) = false := by simp [stk, D.isS]
@[simp] theorem stk_cons_int (i : Int) (xs : List D) : stk (.int i :: xs) = false := by simp [stk, D.isS]
def frzB1 (i : Nat) (ρ : List Sl) : Option Sl → List Sl
  | some (.big o) => if o.data = true then ρ.set i (.val o.toD) else ρ
  | some (.own d) => ρ.set i (.val d)
  | _ => ρ
theorem frzB_eq (ρ : List Sl) (i : Nat) : frzB ρ i = frzB1 i ρ ρ[i]? := by
  unfold frzB
  cases ρ[i]? with
  | none => rfl
  | some s => cases s <;> rfl
@[simp] theorem frzB1_big (i : Nat) (ρ : List Sl) (o : OT) : frzB1 i ρ (some (.big o)) = if o.data = true then ρ.set i (.val o.toD) else ρ := tr rfl
@[simp] theorem frzB1_own (i : Nat) (ρ : List Sl) (d : D) : frzB1 i ρ (some (.own d)) = ρ.set i (.val d) := tr rfl
@[simp] theorem frzB1_val (i : Nat) (ρ : List Sl) (d : D) : frzB1 i ρ (some (.val d)) = ρ := tr rfl
@[simp] theorem frzBS_eq (i : Nat) (f : Es) (ρ : List Sl) : frzBS i f ρ = f (frzB1 i ρ ρ[i]?) := by unfold frzBS; rw [frzB_eq]
@[simp] theorem lendTB_eq (i : Nat) (f : Ev Bool) (ρ : List Sl) : lendTB i f ρ = f (frzB1 i ρ ρ[i]?) := by unfold lendTB; rw [frzB_eq]
@[simp] theorem lendDB_eq (i : Nat) (f : Ev D) (ρ : List Sl) : lendDB i f ρ = (f (frzB1 i ρ ρ[i]?)).bind fun d => if d.flat = true then .ok d else .stuck := by unfold lendDB; rw [frzB_eq]
def bigD : RF → R D
  | .ok (.val d) _ => .ok d
  | .ok (.own d) _ => .ok d
  | .ok (.big o) _ => if o.data = true then .ok o.toD else .stuck
  | .exc x _ => .exc x
  | _ => .stuck
@[simp] theorem bigD_val (d : D) (f : List Sl) : bigD (.ok (.val d) f) = .ok d := tr rfl
@[simp] theorem bigD_big (o : OT) (f : List Sl) : bigD (.ok (.big o) f) = if o.data = true then .ok o.toD else .stuck := tr rfl
@[simp] theorem bigD_exc (x : Exn) (f : List Sl) : bigD (.exc x f) = .exc x := tr rfl
@[simp] theorem eFnB_eq (G : Fn) (fs : Ev (List D)) (ρ : List Sl) : eFnB G fs ρ = (fs ρ).bind fun ds => bigD (G (ds.map .val)) := by
  unfold eFnB
  congr 1
def bigO : RF → R OT
  | .ok (.big o) _ => .ok o
  | .exc x _ => .exc x
  | _ => .stuck
@[simp] theorem bigO_big (o : OT) (f : List Sl) : bigO (.ok (.big o) f) = .ok o := tr rfl
@[simp] theorem bigO_exc (x : Exn) (f : List Sl) : bigO (.exc x f) = .exc x := tr rfl
@[simp] theorem eFnO_eq (G : Fn) (fs : Ev (List D)) (ρ : List Sl) : eFnO G fs ρ = (fs ρ).bind fun ds => bigO (G (ds.map .val)) := by
  unfold eFnO
  congr 1
@[simp] theorem lendO_eq (i : Nat) (f : Ev OT) (ρ : List Sl) : lendO i f ρ = (f (frz1 ρ i ρ[i]?)).bind fun o => if o.flat = true then .ok o else .stuck := tr rfl
@[simp] theorem asgO_eq (i : Nat) (f : Ev OT) (ρ : List Sl) : asgO i f ρ = tryE ρ (f ρ) fun o => .nx (ρ.set i (.big o)) := tr rfl
@[simp] theorem retO_eq (f : Ev OT) (ρ : List Sl) : retO f ρ = tryE ρ (f ρ) fun o => .rt (.big o) ρ := tr rfl
@[simp] theorem tpS_nil (ρ : List Sl) : tpS [] ρ = .ok [] := by rw [tpS]
@[simp] theorem tpS_fz (f : Ev D) (r : List Tp) (ρ : List Sl) : tpS (.fz f :: r) ρ = (f ρ).bind fun d => (tpS r ρ).bind fun l => .ok (.frz d :: l) := by rw [tpS]
def tpM (k : R (List OT)) : Option (List D) → R (List OT)
  | some ds => k.bind fun l => .ok (.lst ds :: l)
  | none => .stuck
@[simp] theorem tpM_some (k : R (List OT)) (ds : List D) : tpM k (some ds) = k.bind fun l => .ok (.lst ds :: l) := tr rfl
@[simp] theorem ownL_own (ds : List D) : ownL (some (.own (.lst ds))) = some ds := tr rfl
@[simp] theorem tpS_mv (j : Nat) (r : List Tp) (ρ : List Sl) : tpS (.mv j :: r) ρ = tpM (tpS r ρ) (ownL ρ[j]?) := by
  rw [tpS]
  cases ownL ρ[j]? <;> rfl
@[simp] theorem tpS_nw (f : Ev D) (r : List Tp) (ρ : List Sl) : tpS (.nw f :: r) ρ = (f ρ).bind fun d => (dL d).bind fun ds => (tpS r ρ).bind fun l => .ok (.lst ds :: l) := by rw [tpS]
@[simp] theorem dL_lst (ds : List D) : dL (.lst ds) = .ok ds := tr rfl
@[simp] theorem mvS_nil (ρ : List Sl) : mvS [] ρ = ρ := by rw [mvS]
@[simp] theorem mvS_fz (f : Ev D) (r : List Tp) (ρ : List Sl) : mvS (.fz f :: r) ρ = mvS r ρ := by rw [mvS]; exact fun _ z => nomatch z
@[simp] theorem mvS_nw (f : Ev D) (r : List Tp) (ρ : List Sl) : mvS (.nw f :: r) ρ = mvS r ρ := by rw [mvS]; exact fun _ z => nomatch z
@[simp] theorem mvS_mv (j : Nat) (r : List Tp) (ρ : List Sl) : mvS (.mv j :: r) ρ = mvS r (ρ.set j .emp) := by rw [mvS]
@[simp] theorem retTB_eq (ps : List Tp) (ρ : List Sl) : retTB ps ρ = tryE ρ (tpS ps ρ) fun l => if l.length ≤ 1000000 then .rt (.big (.node .tup l)) (mvS ps ρ) else .stuck := tr rfl
@[simp] theorem asgTB_eq (i : Nat) (ps : List Tp) (ρ : List Sl) : asgTB i ps ρ = tryE ρ (tpS ps ρ) fun l => if l.length ≤ 1000000 then .nx ((mvS ps ρ).set i (.big (.node .tup l))) else .stuck := tr rfl
def partK (i m : Nat) (g : GL) (fs : Ev (List D)) (k : D → List Sl → RS) (ρ : List Sl) : Option (List OT × List D) → RS
  | some q => tryE ρ (fs ρ) fun args => match g q.2 args with
    | .ok (res, ds') => k res (ρ.set i (.big (.node .tup (q.1.set m (.lst ds')))))
    | _ => .stuck
  | none => .stuck
@[simp] theorem partS_eq (i m : Nat) (g : GL) (fs : Ev (List D)) (k : D → List Sl → RS) (ρ : List Sl) : partS i m g fs k ρ = partK i m g fs k ρ (partOf m ρ[i]?) := by
  unfold partS partK
  cases partOf m ρ[i]? <;> rfl
def partR (i m : Nat) (k : D → List Sl → RS) (ρ : List Sl) (xs : List OT) : R (D × List D) → RS
  | .ok (res, ds') => k res (ρ.set i (.big (.node .tup (xs.set m (.lst ds')))))
  | _ => .stuck
@[simp] theorem partR_ok (i m : Nat) (k : D → List Sl → RS) (ρ : List Sl) (xs : List OT) (res : D) (ds' : List D) : partR i m k ρ xs (.ok (res, ds')) = k res (ρ.set i (.big (.node .tup (xs.set m (.lst ds'))))) := tr rfl
@[simp] theorem partK_some (i m : Nat) (g : GL) (fs : Ev (List D)) (k : D → List Sl → RS) (ρ : List Sl) (q : List OT × List D) : partK i m g fs k ρ (some q) = tryE ρ (fs ρ) fun args => partR i m k ρ q.1 (g q.2 args) := by
  show (tryE ρ (fs ρ) fun args => match g q.2 args with
    | .ok (res, ds') => k res (ρ.set i (.big (.node .tup (q.1.set m (.lst ds')))))
    | _ => .stuck) = _
  congr 1
@[simp] theorem partOf_0 (ds : List D) (xs : List OT) : partOf 0 (some (.big (.node .tup (.lst ds :: xs)))) = some (.lst ds :: xs, ds) := tr rfl
@[simp] theorem partOf_1 (x : OT) (ds : List D) (xs : List OT) : partOf 1 (some (.big (.node .tup (x :: .lst ds :: xs)))) = some (x :: .lst ds :: xs, ds) := tr rfl
def movK (i j : Nat) (ρ : List Sl) : Option Sl → RS
  | some (.own d) => .nx ((ρ.set j .emp).set i (.own d))
  | _ => .stuck
@[simp] theorem movK_own (i j : Nat) (ρ : List Sl) (d : D) : movK i j ρ (some (.own d)) = .nx ((ρ.set j .emp).set i (.own d)) := tr rfl
@[simp] theorem movS_eq (i j : Nat) (ρ : List Sl) : movS i j ρ = movK i j ρ ρ[j]? := tr rfl
end PL
set_option Elab.async false
set_option linter.all false
set_option maxRecDepth 100000
namespace PL
set_option autoImplicit false
open L2
@[simp] theorem gSplit_eq (s c : List Nat) (h : c ≠ [] ∧ s.length + 2 ≤ LIM) : gSplit s (.str c) = .ok (.lst ((splitL s c).map .str)) := if_pos h
@[simp] theorem gStrip_eq (s c : List Nat) (h : s.length ≤ LIM) : gStrip s (.str c) = .ok (.str (stripL s c)) := if_pos h
@[simp] theorem gLstrip_eq (s c : List Nat) (h : s.length ≤ LIM) : gLstrip s (.str c) = .ok (.str (lstripL s c)) := if_pos h
@[simp] theorem gPart_eq (s c : List Nat) (h : c ≠ [] ∧ s.length ≤ LIM) : gPart s (.str c) = .ok (.tup (partL s c)) := if_pos h
@[simp] theorem gStarts_eq (s c : List Nat) : gStarts s (.str c) = .ok (.bl (startsL s c)) := tr rfl
@[simp] theorem gStrI_eq (i : Int) (h : i.natAbs < 2 ^ 1900) : gStrI [.int i] = .ok (.str (strI i)) := if_pos h
def trysK (hs : List (Nat × Es)) : RS → RS
  | .exc x ρ' => pickS hs x ρ'
  | r => r
theorem trysS_eq' (hs : List (Nat × Es)) (fb : Es) (ρ : List Sl) : trysS hs fb ρ = trysK hs (fb ρ) := by unfold trysS; cases fb ρ <;> rfl
@[simp] theorem trysS_eq (hs : List (Nat × Es)) (fb : Es) (ρ : List Sl) : trysS hs fb ρ = trysK hs (fb ρ) := trysS_eq' hs fb ρ
@[simp] theorem trysK_nx (hs : List (Nat × Es)) (ρ : List Sl) : trysK hs (.nx ρ) = .nx ρ := tr rfl
@[simp] theorem trysK_rt (hs : List (Nat × Es)) (v : Sl) (ρ : List Sl) : trysK hs (.rt v ρ) = .rt v ρ := tr rfl
@[simp] theorem trysK_exc (hs : List (Nat × Es)) (x : Exn) (ρ : List Sl) : trysK hs (.exc x ρ) = pickS hs x ρ := tr rfl
@[simp] theorem noXS_nx (ρ : List Sl) : noXS (.nx ρ) = .nx ρ := tr rfl
@[simp] theorem noXS_rt (v : Sl) (ρ : List Sl) : noXS (.rt v ρ) = .rt v ρ := tr rfl
end PL
set_option Elab.async false
set_option linter.all false
set_option maxRecDepth 100000
namespace PL
set_option autoImplicit false
open L2
def lendKK (f : Ev D) (i : Nat) (ρ : List Sl) : Option Sl → R D
  | some (.own (.dic es)) => (f (ρ.set i (.val (.dic es)))).bind fun d => if d.noDic = true then .ok d else .stuck
  | _ => .stuck
@[simp] theorem lendKK_own (f : Ev D) (i : Nat) (ρ : List Sl) (es : List (Kc × D)) : lendKK f i ρ (some (.own (.dic es))) = (f (ρ.set i (.val (.dic es)))).bind fun d => if d.noDic = true then .ok d else .stuck := tr rfl
@[simp] theorem lendK_eq (i : Nat) (f : Ev D) (ρ : List Sl) : lendK i f ρ = lendKK f i ρ ρ[i]? := by
  have h : ∀ s, ρ[i]? = s → lendK i f ρ = lendKK f i ρ s := fun s e => by
    have hf : ∀ es, s = some (.own (.dic es)) → frzAt ρ i = ρ.set i (.val (.dic es)) := fun es z => by unfold frzAt; rw [e, z]
    unfold lendK
    rw [e]
    cases s with
    | none => rfl
    | some s =>
      cases s with
      | own d =>
        cases d with
        | dic es =>
          show (f (frzAt ρ i)).bind _ = (f (ρ.set i (.val (.dic es)))).bind _
          rw [hf es rfl]
        | _ => rfl
      | _ => rfl
  exact h _ rfl
end PL
set_option Elab.async false
set_option linter.all false
set_option maxRecDepth 100000
namespace PL
open PySem PySem.Spec PyProof.Rows L2
@[simp] theorem gTupRev_cons (d : D) (ds : List D) : gTupRev (.tup (d :: ds)) = .ok (.tup (d :: ds).reverse) := rfl
end PL
set_option Elab.async false
set_option linter.all false
set_option maxRecDepth 100000
namespace PL
set_option autoImplicit false
open L2
@[simp] theorem lendNB_eq (i : Nat) (f : Ev D) (ρ : List Sl) : lendNB i f ρ = (f (frzB1 i ρ ρ[i]?)).bind fun d => if d.flatL = true then .ok d else .stuck := by unfold lendNB; rw [frzB_eq]
def retMNK (j : Nat) (f : Ev OT) (ρ : List Sl) (s : Option Sl) : RS := match s with
  | some (.own (.lst ds)) => tryE ρ (f ρ) fun o => .rt (.big (.node .tup [.lst ds, o])) (ρ.set j .emp)
  | _ => .stuck
@[simp] theorem retMNK_own (j : Nat) (f : Ev OT) (ρ : List Sl) (ds : List D) : retMNK j f ρ (some (.own (.lst ds))) = tryE ρ (f ρ) fun o => .rt (.big (.node .tup [.lst ds, o])) (ρ.set j .emp) := tr rfl
@[simp] theorem retMN_eq (j : Nat) (f : Ev OT) (ρ : List Sl) : retMN j f ρ = retMNK j f ρ ρ[j]? := by
  have h : ∀ s, ρ[j]? = s → retMN j f ρ = retMNK j f ρ s := fun s e => by
    unfold retMN
    rw [e]
    cases s with
    | none => rfl
    | some s =>
      cases s with
      | own d => cases d <;> rfl
      | _ => rfl
  exact h _ rfl
@[simp] theorem eTpO_eq (ps : List Tp) (ρ : List Sl) : eTpO ps ρ = (tpS ps ρ).bind fun l => if l.length ≤ 1000000 then .ok (.node .tup l) else .stuck := tr rfl
@[simp] theorem eLcO_eq (vs : List Nat) (fi : Ev (List D)) (ft : D → R (List (Nat × D))) (fc : Ev Bool) (fe : Ev OT) (ρ : List Sl) : eLcO vs fi ft fc fe ρ = (fi ρ).bind fun ds => if ds.length ≤ 1000000 then (noX (lcGoO (wipeS ρ vs) ft fc fe ds)).bind fun ys => .ok (.node .lst ys) else .stuck := tr rfl
end PL
set_option Elab.async false
set_option linter.all false
set_option maxRecDepth 100000
namespace PL
set_option autoImplicit false
open L2
@[simp] theorem lstOf_lst (xs : List OT) : lstOf (some (.big (.node .lst xs))) = some xs := tr rfl
@[simp] theorem ixO_0 (a : OT) (l : List OT) : ixO (a :: l) (.int 0) = some (0, a) := by
  unfold ixO
  have h : ixN (a :: l).length 0 = some 0 := by
    unfold ixN
    simp
  show (ixN (a :: l).length 0).bind _ = _
  rw [h]; rfl
@[simp] theorem ixO_1 (a b : OT) (l : List OT) : ixO (a :: b :: l) (.int 1) = some (1, b) := by
  have h : ixN (a :: b :: l).length 1 = some 1 := by
    unfold ixN
    simp
    omega
  show (ixN (a :: b :: l).length 1).bind _ = _
  rw [h]; rfl
def cpR (j n : Nat) (xs : List OT) (ρ : List Sl) : RF → RS
  | .ok (.val r) (.big o' :: _) => .rt (.val r) (ρ.set j (.big (.node .lst (xs.set n o'))))
  | _ => .stuck
@[simp] theorem cpR_ok (j n : Nat) (xs : List OT) (ρ : List Sl) (r : D) (o' : OT) (l : List Sl) : cpR j n xs ρ (.ok (.val r) (.big o' :: l)) = .rt (.val r) (ρ.set j (.big (.node .lst (xs.set n o')))) := tr rfl
def cpQ (j : Nat) (fs : Ev (List D)) (G : Fn) (ρ : List Sl) (xs : List OT) : Option (Nat × OT) → RS
  | some q => tryE ρ (fs ρ) fun ds => cpR j q.1 xs ρ (G (.big q.2 :: ds.map .val))
  | none => .stuck
@[simp] theorem cpQ_some (j : Nat) (fs : Ev (List D)) (G : Fn) (ρ : List Sl) (xs : List OT) (n : Nat) (o : OT) : cpQ j fs G ρ xs (some (n, o)) = tryE ρ (fs ρ) fun ds => cpR j n xs ρ (G (.big o :: ds.map .val)) := tr rfl
def cpK (j : Nat) (fi : Ev D) (fs : Ev (List D)) (G : Fn) (ρ : List Sl) : Option (List OT) → RS
  | some xs => tryE ρ (fi ρ) fun d => cpQ j fs G ρ xs (ixO xs d)
  | none => .stuck
@[simp] theorem cpK_some (j : Nat) (fi : Ev D) (fs : Ev (List D)) (G : Fn) (ρ : List Sl) (xs : List OT) : cpK j fi fs G ρ (some xs) = tryE ρ (fi ρ) fun d => cpQ j fs G ρ xs (ixO xs d) := tr rfl
@[simp] theorem callPX_eq (j : Nat) (fi : Ev D) (fs : Ev (List D)) (G : Fn) (ρ : List Sl) : callPX j fi fs G ρ = cpK j fi fs G ρ (lstOf ρ[j]?) := by
  unfold callPX cpK
  cases lstOf ρ[j]? with
  | none => rfl
  | some xs =>
    simp only []
    refine congrArg (tryE ρ (fi ρ)) (funext fun d => ?_)
    unfold cpQ
    cases ixO xs d with
    | none => rfl
    | some q =>
      simp only []
      refine congrArg (tryE ρ (fs ρ)) (funext fun ds => ?_)
      unfold cpR
      rfl
@[simp] theorem dropX_eq (f : Es) (ρ : List Sl) : dropX f ρ = dK (f ρ) fun _ ρ' => .nx ρ' := tr rfl
def pmR (G : List Sl → R D) : Option (List D × List D) → R D
  | some l => G [.big (logO l.1 l.2)]
  | none => .stuck
@[simp] theorem pmR_some (G : List Sl → R D) (a b : List D) : pmR G (some (a, b)) = G [.big (logO a b)] := tr rfl
def pmQ (G : List Sl → R D) : Option (Nat × OT) → R D
  | some q => pmR G (logOf (some (.big q.2)))
  | none => .stuck
@[simp] theorem pmQ_some (G : List Sl → R D) (n : Nat) (o : OT) : pmQ G (some (n, o)) = pmR G (logOf (some (.big o))) := tr rfl
def pmPK (fi : Ev D) (G : List Sl → R D) (ρ : List Sl) : Option (List OT) → R D
  | some xs => (fi ρ).bind fun d => pmQ G (ixO xs d)
  | none => .stuck
@[simp] theorem pmPK_some (fi : Ev D) (G : List Sl → R D) (ρ : List Sl) (xs : List OT) : pmPK fi G ρ (some xs) = (fi ρ).bind fun d => pmQ G (ixO xs d) := tr rfl
@[simp] theorem ePmP_eq (j : Nat) (fi : Ev D) (G : List Sl → R D) (ρ : List Sl) : ePmP j fi G ρ = pmPK fi G ρ (lstOf ρ[j]?) := by
  unfold ePmP pmPK
  cases lstOf ρ[j]? with
  | none => rfl
  | some xs =>
    simp only []
    refine congrArg (R.bind (fi ρ)) (funext fun d => ?_)
    unfold pmQ
    cases ixO xs d with
    | none => rfl
    | some q =>
      simp only []
      unfold pmR
      cases logOf (some (.big q.2)) <;> rfl
def mkR : RF → R OT
  | .ok (.val .non) (.big o :: _) => .ok o
  | _ => .stuck
@[simp] theorem mkR_ok (o : OT) (r : List Sl) : mkR (.ok (.val .non) (.big o :: r)) = .ok o := tr rfl
@[simp] theorem eMk_eq (G : Fn) (fs : Ev (List D)) (ρ : List Sl) : eMk G fs ρ = (fs ρ).bind fun ds => mkR (G (.big (.node (.obj []) []) :: ds.map .val)) := by
  unfold eMk
  refine congrArg (R.bind (fs ρ)) (funext fun ds => ?_)
  unfold mkR
  rfl
@[simp] theorem eLst2_eq (f1 f2 : Ev OT) (ρ : List Sl) : eLst2 f1 f2 ρ = (f1 ρ).bind fun o1 => (f2 ρ).bind fun o2 => .ok (.node .lst [o1, o2]) := tr rfl
end PL
set_option Elab.async false
set_option linter.all false
set_option maxRecDepth 100000
namespace PL
set_option autoImplicit false
open L2
end PL
set_option Elab.async false
set_option linter.all false
set_option maxRecDepth 100000
namespace PL
set_option autoImplicit false
open L2
end PL
set_option Elab.async false
set_option linter.all false
set_option maxRecDepth 100000
namespace PL
set_option autoImplicit false
open L2
noncomputable def b_mixed_557a : Es := (retS (e2 gMod (e2 gMul (e2 gMul (e2 gAdd (e2 gMod (eVar 0) (eC (.int (2305843009213693951)))) (eC (.int (1)))) (e2 gAdd (e2 gMul (eVar 1) (eVar 1)) (eC (.int (48271))))) (eC (.int (40692)))) (eC (.int (2147483399)))))
noncomputable def b_names_by_f422 : Es := (seqS (asgS (ftOne 2) (eC (.str [97, 98, 99, 100, 101, 102, 103, 104, 105, 106, 107, 108, 109, 110, 111, 112, 113, 114, 115, 116, 117, 118, 119, 120, 121, 122])))
  (seqS (asgS (ftOne 3) (e2 gMod (e2 gDiv (eVar 0) (eC (.int (5)))) (eC (.int (26)))))
  (seqS (ifS (e2 gEq (e2 gMod (eVar 0) (eC (.int (5)))) (eC (.int (0)))) (retS (eCall gTupleOf (aCons (eLc [7] (iRg gRng1 (aCons (eVar 1) aNil)) (ftOne 7) fcYes (e2 gIx (eVar 2) (e2 gMod (e2 gAdd (eVar 3) (e2 gMul (eC (.int (5))) (eVar 7))) (eC (.int (26)))))) aNil))) skipS)
  (seqS (ifS (e2 gEq (e2 gMod (eVar 0) (eC (.int (5)))) (eC (.int (1)))) (retS (eCall gTupleOf (aCons (eLc [7] (iRg gRng1 (aCons (eVar 1) aNil)) (ftOne 7) fcYes (e2 gMul (e2 gIx (eVar 2) (eVar 3)) (e2 gSub (eVar 1) (eVar 7)))) aNil))) skipS)
  (seqS (asgS (ftOne 4) (e2 gAdd (eC (.int (1))) (e2 gMod (e2 gDiv (eVar 0) (eC (.int (130)))) (eC (.int (7))))))
  (seqS (asgS (ftOne 5) (e2 gMod (e2 gDiv (eVar 0) (eC (.int (910)))) (e2 gAdd (eVar 4) (eC (.int (1))))))
  (seqS (asgS (ftOne 6) (eM1 gJoin (eC (.str [])) (eLc [7] (iRg gRng1 (aCons (eVar 4) aNil)) (ftOne 7) fcYes (e2 gIx (eVar 2) (e2 gMod (e2 gAdd (e2 gDiv (eVar 0) (eC (.int (6370)))) (e2 gMul (eC (.int (3))) (eVar 7))) (eC (.int (26))))))))
  (retS (eCall gTupleOf (aCons (eLc [7] (iRg gRng1 (aCons (eVar 1) aNil)) (ftOne 7) fcYes (e2 gAdd (e2 gAdd (eSl (eVar 6) oNone (oSome (eVar 5))) (e2 gIx (eVar 2) (e2 gMod (e2 gAdd (eVar 3) (e2 gMul (eC (.int (5))) (eVar 7))) (eC (.int (26)))))) (eSl (eVar 6) (oSome (eVar 5)) oNone))) aNil))))))))))
noncomputable def b_tree_by_710f (f__law_tree_by : Fn) : Es := (seqS (asgS (ftOne 3) (e2 gMod (eVar 1) (eC (.int (11)))))
  (seqS (asgS (ftOne 4) (e2 gDiv (eVar 1) (eC (.int (11)))))
  (seqS (ifS (tOo (e2 gEq (eVar 2) (eC (.int (0)))) (e2 (gCmp pLt) (eVar 3) (eC (.int (3))))) (seqS (ifS (e2 gEq (e2 gMod (eVar 4) (eC (.int (12)))) (eC (.int (5)))) (retS (eTup (aCons (eC (.str [121, 101, 115])) aNil))) skipS)
  (seqS (ifS (e2 gEq (e2 gMod (eVar 4) (eC (.int (12)))) (eC (.int (9)))) (retS (eTup (aCons (eC (.str [110, 111])) aNil))) skipS)
  (retS (eTup (aCons (eC (.str [110, 97, 109, 101])) (aCons (e2 gIx (eVar 0) (e2 gMod (e2 gDiv (eVar 4) (eC (.int (12)))) (eCall gLen (aCons (eVar 0) aNil)))) aNil)))))) skipS)
  (seqS (asgS (ftOne 5) (eFn f__law_tree_by (aCons (eFrz 0) (aCons (e2 gMod (e2 gMul (eVar 4) (eC (.int (48271)))) (eC (.int (2147483647)))) (aCons (e2 gSub (eVar 2) (eC (.int (1)))) aNil)))))
  (seqS (ifS (e2 (gCmp pLt) (eVar 3) (eC (.int (5)))) (retS (eTup (aCons (eC (.str [110, 111, 116])) (aCons (eFrz 5) aNil)))) skipS)
  (seqS (asgS (ftOne 6) (e2 gIx (eLst (aCons (eC (.str [97, 110, 100])) (aCons (eC (.str [111, 114])) (aCons (eC (.str [116, 104, 101, 110])) (aCons (eC (.str [115, 97, 109, 101])) (aCons (eC (.str [97, 110, 100])) (aCons (eC (.str [111, 114])) aNil))))))) (e2 gSub (eVar 3) (eC (.int (5))))))
  (retS (eTup (aCons (eFrz 6) (aCons (eFrz 5) (aCons (eFn f__law_tree_by (aCons (eFrz 0) (aCons (e2 gMod (e2 gMul (eVar 4) (eC (.int (69621)))) (eC (.int (2147483629)))) (aCons (e2 gSub (eVar 2) (eC (.int (1)))) aNil)))) aNil)))))))))))
noncomputable def b_table_bf2e (f__law_column f__law_table : Fn) : Es := (seqS (asgS (ftOne 2) (e2 gSub (e2 gShl (eC (.int (1))) (e2 gShl (eC (.int (1))) (eCall gLen (aCons (eVar 0) aNil)))) (eC (.int (1)))))
  (seqS (ifS (e2 gEq (e2 gIx (eVar 1) (eC (.int (0)))) (eC (.str [110, 97, 109, 101]))) (retS (eFn f__law_column (aCons (eCall gLen (aCons (eVar 0) aNil)) (aCons (eIndex (eVar 0) (e2 gIx (eVar 1) (eC (.int (1))))) aNil)))) skipS)
  (seqS (ifS (e2 gEq (e2 gIx (eVar 1) (eC (.int (0)))) (eC (.str [121, 101, 115]))) (retS (eFrz 2)) skipS)
  (seqS (ifS (e2 gEq (e2 gIx (eVar 1) (eC (.int (0)))) (eC (.str [110, 111]))) (retS (eC (.int (0)))) skipS)
  (seqS (asgS (ftOne 3) (eFn f__law_table (aCons (eFrz 0) (aCons (e2 gIx (eVar 1) (eC (.int (1)))) aNil))))
  (seqS (ifS (e2 gEq (e2 gIx (eVar 1) (eC (.int (0)))) (eC (.str [110, 111, 116]))) (retS (e2 gXor (eVar 2) (eVar 3))) skipS)
  (seqS (asgS (ftOne 4) (eFn f__law_table (aCons (eFrz 0) (aCons (e2 gIx (eVar 1) (eC (.int (2)))) aNil))))
  (seqS (ifS (e2 gEq (e2 gIx (eVar 1) (eC (.int (0)))) (eC (.str [97, 110, 100]))) (retS (e2 gAnd (eVar 3) (eVar 4))) skipS)
  (seqS (ifS (e2 gEq (e2 gIx (eVar 1) (eC (.int (0)))) (eC (.str [111, 114]))) (retS (e2 gOr (eVar 3) (eVar 4))) skipS)
  (seqS (ifS (e2 gEq (e2 gIx (eVar 1) (eC (.int (0)))) (eC (.str [116, 104, 101, 110]))) (retS (e2 gOr (e2 gXor (eVar 2) (eVar 3)) (eVar 4))) skipS)
  (retS (e2 gXor (e2 gXor (eVar 2) (eVar 3)) (eVar 4)))))))))))))
noncomputable def b_Log___init__ (f_flat : Fn) : Es := (seqS (asgL 0 false (eLst (aCons (eFn f_flat (aCons (eFrz 1) aNil)) aNil)))
  (asgL 0 true (eLst aNil)))
noncomputable def b_Log_mind : Ev D := (e2 gIx (eFld 0 false) (e1 gNeg (eC (.int (1)))))
noncomputable def b_Log_minds : Ev D := (eCall gListOf (aCons (eFld 0 false) aNil))
noncomputable def b_Log_backs : Ev D := (e2 gSub (eCall gLen (aCons (eFld 0 false) aNil)) (eC (.int (1))))
noncomputable def b_Log_agains : Ev D := (eCall gLen (aCons (eFld 0 true) aNil))
noncomputable def b_Log_lay : Es := (seqS (lgMut 0 false gAppend (aCons (eFrz 1) aNil) kNx)
  (asgL 0 true (eLst aNil)))
noncomputable def b_Log_take (f_taken_on f_Log_lay : Fn) (f_Log_mind : Gn) : Es := (methS 0 [.fz (eFn f_taken_on (aCons (ePm 0 f_Log_mind) (aCons (eFrz 1) (aCons (eFrz 2) aNil))))] f_Log_lay kDrop)
noncomputable def b_Log_give (f_given_up f_Log_lay : Fn) (f_Log_mind : Gn) : Es := (methS 0 [.fz (eFn f_given_up (aCons (ePm 0 f_Log_mind) (aCons (eFrz 1) aNil)))] f_Log_lay kDrop)
noncomputable def b_Log_back : Es := (seqS (ifS (e2 gEq (eCall gLen (aCons (eFld 0 false) aNil)) (eC (.int (1)))) (raiseS 8) skipS)
  (moveL 0 false))
noncomputable def b_Log_again : Es := (seqS (ifS (e2 gEq (eCall gLen (aCons (eFld 0 true) aNil)) (eC (.int (0)))) (raiseS 9) skipS)
  (moveL 0 true))
noncomputable def b_state_5d27 (f_Log_agains f_Log_backs f_Log_minds f_Log_mind : Gn) : Es := (retS (eTup (aCons (ePm 0 f_Log_mind) (aCons (ePm 0 f_Log_minds) (aCons (ePm 0 f_Log_backs) (aCons (ePm 0 f_Log_agains) aNil))))))
noncomputable def b_do_1ec3 (f__law_mixed f_Log_back f_Log_again f__law_tree_by f__law_table f_Log_give f_Log_take : Fn) (f_Log_backs f_Log_agains : Gn) : Es := (seqS (asgS (ftOne 4) (eFn f__law_mixed (aCons (eFrz 2) (aCons (eFrz 3) aNil))))
  (ifS (tAn (e2 gEq (e2 gMod (eVar 4) (eC (.int (4)))) (eC (.int (2)))) (e2 (gCmp pGt) (ePm 0 f_Log_backs) (eC (.int (0))))) (methS 0 [] f_Log_back kDrop) (ifS (tAn (e2 gEq (e2 gMod (eVar 4) (eC (.int (4)))) (eC (.int (3)))) (e2 (gCmp pGt) (ePm 0 f_Log_agains) (eC (.int (0))))) (methS 0 [] f_Log_again kDrop) (seqS (asgS (ftOne 5) (eFn f__law_tree_by (aCons (eFrz 1) (aCons (eFn f__law_mixed (aCons (eFrz 2) (aCons (e2 gAdd (eVar 3) (eC (.int (50)))) aNil))) (aCons (eC (.int (3))) aNil)))))
  (ifS (e2 gEq (eFn f__law_table (aCons (eFrz 1) (aCons (eFrz 5) aNil))) (eC (.int (0)))) (methS 0 [.fz (eFrz 5)] f_Log_give kDrop) (methS 0 [.fz (eFrz 5), .fz (e2 gAdd (eC (.int (1))) (e2 gMod (eVar 2) (e2 gPow (eC (.int (10))) (eC (.int (12))))))] f_Log_take kDrop))))))
end PL
set_option Elab.async false
set_option linter.all false
set_option maxRecDepth 100000
namespace PL
set_option autoImplicit false
open L2
end PL
set_option Elab.async false
set_option linter.all false
set_option maxRecDepth 100000
namespace PL
set_option autoImplicit false
open L2
end PL
set_option Elab.async false
set_option linter.all false
set_option maxRecDepth 100000
namespace PL
set_option autoImplicit false
open L2
end PL
set_option Elab.async false
set_option linter.all false
set_option maxRecDepth 100000
set_option maxHeartbeats 1000000
set_option exponentiation.threshold 20000
namespace PL
set_option autoImplicit false
open PySem L2 PyProof.Rows
end PL
set_option Elab.async false
set_option linter.all false
set_option maxRecDepth 100000
set_option maxHeartbeats 1000000
set_option exponentiation.threshold 20000
namespace PL
set_option autoImplicit false
open PySem L2 PyProof.Rows
end PL
set_option Elab.async false
set_option linter.all false
set_option maxRecDepth 100000
set_option maxHeartbeats 1000000
set_option exponentiation.threshold 20000
namespace PL
set_option autoImplicit false
open PySem L2 PyProof.Rows
end PL
set_option Elab.async false
set_option linter.all false
set_option maxRecDepth 100000
set_option maxHeartbeats 1000000
namespace PL
set_option autoImplicit false
open PySem L2 PyProof.Rows
abbrev lgS (st un : List D) : Sl := .big (logO st un)
def MindLK (G : Gn) : Prop := ∀ (st un : List D) (d : D), st.length ≤ 1000 → G [lgS (st ++ [d]) un] = .ok d
theorem mindL_ok : MindLK (bodyP 1 1 b_Log_mind) := fun st un d hl => by
  have h : L2.atI (st ++ [d]) (-1) = some d := L2.atI_last _ _
  show b_Log_mind [lgS (st ++ [d]) un] = _
  simp (disch := first | assumption | decide | omega | (simp only [List.length_append, List.length_cons, List.length_nil, List.length_map, List.length_reverse, List.length_replicate, List.length_range, List.length_take, List.length_drop, enD_length, rangeD_length]; first | decide | omega) | (simp; done) | fail) [decide_eq_true, decide_eq_false, kAsg, kNx, b_Log_mind, h]
def MindsLK (G : Gn) : Prop := ∀ (st un : List D), G [lgS st un] = .ok (.lst st)
theorem mindsL_ok : MindsLK (bodyP 1 1 b_Log_minds) := fun st un => by
  show b_Log_minds [lgS st un] = _
  simp (disch := first | assumption | decide | omega | (simp only [List.length_append, List.length_cons, List.length_nil, List.length_map, List.length_reverse, List.length_replicate, List.length_range, List.length_take, List.length_drop, enD_length, rangeD_length]; first | decide | omega) | (simp; done) | fail) [decide_eq_true, decide_eq_false, kAsg, kNx, b_Log_minds]
def BacksLK (G : Gn) : Prop := ∀ (st un : List D), st.length ≤ 1000 → G [lgS st un] = .ok (.int ((st.length : Int) - 1))
theorem backsL_ok : BacksLK (bodyP 1 1 b_Log_backs) := fun st un hl => by
  show b_Log_backs [lgS st un] = _
  simp (disch := first | assumption | decide | omega | (simp only [List.length_append, List.length_cons, List.length_nil, List.length_map, List.length_reverse, List.length_replicate, List.length_range, List.length_take, List.length_drop, enD_length, rangeD_length]; first | decide | omega) | (simp; done) | fail) [decide_eq_true, decide_eq_false, kAsg, kNx, b_Log_backs]
def AgainsLK (G : Gn) : Prop := ∀ (st un : List D), un.length ≤ 1000 → G [lgS st un] = .ok (.int (un.length : Int))
theorem againsL_ok : AgainsLK (bodyP 1 1 b_Log_agains) := fun st un hl => by
  show b_Log_agains [lgS st un] = _
  simp (disch := first | assumption | decide | omega | (simp only [List.length_append, List.length_cons, List.length_nil, List.length_map, List.length_reverse, List.length_replicate, List.length_range, List.length_take, List.length_drop, enD_length, rangeD_length]; first | decide | omega) | (simp; done) | fail) [decide_eq_true, decide_eq_false, kAsg, kNx, b_Log_agains]
def LayK (f : Fn) : Prop := ∀ (st un : List D) (d : D), st.length ≤ 1000 → f [lgS st un, .val d] = .ok (.val .non) [lgS (st ++ [d]) [], .val d]
theorem lay_ok : LayK (bodyF 2 2 2 b_Log_lay) := fun st un d hl => by
  have e1 := lgApp (i := 0) (b := false) (fe := eFrz 1) (ρ := [lgS st un, .val d]) (st := st) (un := un) (d := d) rfl rfl (by show st.length < LIM; simp only [LIM]; omega)
  have e2 := lgAsg (i := 0) (fe := eLst aNil) (ρ := [lgS (st ++ [d]) un, .val d]) (st := st ++ [d]) (un := un) (ds := []) rfl rfl
  have e1 : lgMut 0 false gAppend (aCons (eFrz 1) aNil) kNx [lgS st un, .val d] = .nx [lgS (st ++ [d]) un, .val d] := e1
  have e2 : asgL 0 true (eLst aNil) [lgS (st ++ [d]) un, .val d] = .nx [lgS (st ++ [d]) [], .val d] := e2
  have e : b_Log_lay [lgS st un, .val d] = .nx [lgS (st ++ [d]) [], .val d] := by
    show seqS (lgMut 0 false gAppend (aCons (eFrz 1) aNil) kNx) (asgL 0 true (eLst aNil)) _ = _
    unfold seqS
    rw [e1]
    exact e2
  show (match b_Log_lay [lgS st un, .val d] with
    | .rt r ρ => RF.ok r (finOf 2 2 [lgS st un, .val d] ρ)
    | .nx ρ => .ok (.val .non) (finOf 2 2 [lgS st un, .val d] ρ)
    | .exc x ρ => .exc x (finOf 2 2 [lgS st un, .val d] ρ)
    | _ => .stuck) = _
  rw [e]
  rfl
/-- a deed of three: taken on, turned -/
def Deed3K (f ft : Fn) : Prop := ∀ (st un : List D) (m t n : D), st.length ≤ 900 →
  (∀ m', ft [.val m, .val t, .val n] = .ok (.val m') [.val m, .val t, .val n] → f [lgS (st ++ [m]) un, .val t, .val n] = .ok (.val .non) [lgS (st ++ [m] ++ [m']) [], .val t, .val n]) ∧
  ∀ x, ft [.val m, .val t, .val n] = .exc x [.val m, .val t, .val n] → f [lgS (st ++ [m]) un, .val t, .val n] = .exc x [lgS (st ++ [m]) un, .val t, .val n]
theorem takeL_ok {ft fl : Fn} {gm : Gn} (hm : MindLK gm) (hl : LayK fl) : Deed3K (bodyF 3 3 3 (b_Log_take ft fl gm)) ft := fun st un m t n hs => by
  have h1 := hm st un m (by omega)
  refine ⟨fun m' h => ?_, fun x h => ?_⟩
  · have h2 := hl (st ++ [m]) un m' (by simp; omega)
    generalize st ++ [m] = ST at *
    simp (disch := first | assumption | decide | omega | (simp only [List.length_append, List.length_cons, List.length_nil, List.length_map, List.length_reverse, List.length_replicate, List.length_range, List.length_take, List.length_drop, enD_length, rangeD_length]; first | decide | omega) | (simp; done) | fail) [decide_eq_true, decide_eq_false, kAsg, kNx, b_Log_take, h1, h, h2]
  · generalize st ++ [m] = ST at *
    simp (disch := first | assumption | decide | omega | (simp only [List.length_append, List.length_cons, List.length_nil, List.length_map, List.length_reverse, List.length_replicate, List.length_range, List.length_take, List.length_drop, enD_length, rangeD_length]; first | decide | omega) | (simp; done) | fail) [decide_eq_true, decide_eq_false, kAsg, kNx, b_Log_take, h1, h]
def Deed2K (f ft : Fn) : Prop := ∀ (st un : List D) (m t : D), st.length ≤ 900 →
  (∀ m', ft [.val m, .val t] = .ok (.val m') [.val m, .val t] → f [lgS (st ++ [m]) un, .val t] = .ok (.val .non) [lgS (st ++ [m] ++ [m']) [], .val t]) ∧
  ∀ x, ft [.val m, .val t] = .exc x [.val m, .val t] → f [lgS (st ++ [m]) un, .val t] = .exc x [lgS (st ++ [m]) un, .val t]
theorem giveL_ok {ft fl : Fn} {gm : Gn} (hm : MindLK gm) (hl : LayK fl) : Deed2K (bodyF 2 2 2 (b_Log_give ft fl gm)) ft := fun st un m t hs => by
  have h1 := hm st un m (by omega)
  refine ⟨fun m' h => ?_, fun x h => ?_⟩
  · have h2 := hl (st ++ [m]) un m' (by simp; omega)
    generalize st ++ [m] = ST at *
    simp (disch := first | assumption | decide | omega | (simp only [List.length_append, List.length_cons, List.length_nil, List.length_map, List.length_reverse, List.length_replicate, List.length_range, List.length_take, List.length_drop, enD_length, rangeD_length]; first | decide | omega) | (simp; done) | fail) [decide_eq_true, decide_eq_false, kAsg, kNx, b_Log_give, h1, h, h2]
  · generalize st ++ [m] = ST at *
    simp (disch := first | assumption | decide | omega | (simp only [List.length_append, List.length_cons, List.length_nil, List.length_map, List.length_reverse, List.length_replicate, List.length_range, List.length_take, List.length_drop, enD_length, rangeD_length]; first | decide | omega) | (simp; done) | fail) [decide_eq_true, decide_eq_false, kAsg, kNx, b_Log_give, h1, h]
/-- the log's __init__ -/
def InitK (f ff : Fn) : Prop := ∀ (ns m : D), ff [.val ns] = .ok (.val m) [.val ns] → f [.big (.node (.obj []) []), .val ns] = .ok (.val .non) [lgS [m] [], .val ns]
theorem init_ok {ff : Fn} : InitK (bodyF 2 2 2 (b_Log___init__ ff)) ff := fun ns m h => by
  have he : eLst (aCons (eFn ff (aCons (eFrz 1) aNil)) aNil) [.big (.node (.obj []) []), .val ns] = .ok (.lst [m]) := by
    simp (disch := first | assumption | decide | omega | (simp only [List.length_append, List.length_cons, List.length_nil, List.length_map, List.length_reverse, List.length_replicate, List.length_range, List.length_take, List.length_drop, enD_length, rangeD_length]; first | decide | omega) | (simp; done) | fail) [decide_eq_true, decide_eq_false, kAsg, kNx, h]
  have e1 : asgL 0 false (eLst (aCons (eFn ff (aCons (eFrz 1) aNil)) aNil)) [.big (.node (.obj []) []), .val ns] = .nx [.big (.node (.obj ["standing"]) [.lst [m]]), .val ns] := by
    show (match shOf false (some (.big (.node (.obj []) []))) with
      | some f => tryE _ (eLst (aCons (eFn ff (aCons (eFrz 1) aNil)) aNil) [.big (.node (.obj []) []), .val ns]) fun d => match d with
        | .lst ds => RS.nx ([Sl.big (.node (.obj []) []), Sl.val ns].set 0 (.big (f ds)))
        | _ => .stuck
      | none => .stuck) = _
    rw [he]
    rfl
  have e2 : asgL 0 true (eLst aNil) [.big (.node (.obj ["standing"]) [.lst [m]]), .val ns] = .nx [lgS [m] [], .val ns] := rfl
  have e : b_Log___init__ ff [.big (.node (.obj []) []), .val ns] = .nx [lgS [m] [], .val ns] := by
    show seqS (asgL 0 false _) (asgL 0 true (eLst aNil)) _ = _
    unfold seqS
    rw [e1]
    exact e2
  show (match b_Log___init__ ff [.big (.node (.obj []) []), .val ns] with
    | .rt r ρ => RF.ok r (finOf 2 2 [.big (.node (.obj []) []), .val ns] ρ)
    | .nx ρ => .ok (.val .non) (finOf 2 2 [.big (.node (.obj []) []), .val ns] ρ)
    | .exc x ρ => .exc x (finOf 2 2 [.big (.node (.obj []) []), .val ns] ρ)
    | _ => .stuck) = _
  rw [e]
  rfl
end PL
set_option Elab.async false
set_option linter.all false
set_option maxRecDepth 100000
set_option maxHeartbeats 1000000
set_option exponentiation.threshold 20000
namespace PL
set_option autoImplicit false
open PySem L2 PyProof.Rows
theorem ltableD_ok {n : Nat} {fc ft : Fn} (hc : ColOk fc) (ht : TabWOk n ft) : TabWOk (n + 1) (bodyF 5 2 2 (b_table_bf2e fc ft)) := fun ns t h8 hin hd => by
  have q1 : gShl (.int 1) (.int (ns.length : Nat)) = .ok (.int (W2 ns : Nat)) := gShl_p ns.length (by omega)
  obtain ⟨q2, q3⟩ := tabD_full (W2 ns) (by have h' : W2 ns ≤ 256 := W2_le h8; omega)
  generalize hE : 2 ^ (W2 ns) = E at *
  cases t with
  | nm x =>
    obtain ⟨j, j1, j2, j3⟩ := nm_pos hin
    have hcol : fc _ = .ok (.val (tabD (colP j) (W2 ns))) _ := hc ns.length j h8 j2
    have e : (D.tup (ns.map .str)).nms = some ns := nms_map ns j3
    have hr : ttD ns (.nm x) = tabD (colP j) (W2 ns) := by unfold ttD; congr 1; funext w; simp only [T.ev, j1, Option.getD_some]
    rw [hr]
    generalize tabD (colP j) (W2 ns) = R at *
    generalize tabD (fun _ => true) (W2 ns) = Q at *
    generalize W2 ns = N at *
    simp (disch := first | assumption | decide | omega | (simp only [List.length_append, List.length_cons, List.length_nil, List.length_map, List.length_reverse, List.length_replicate, List.length_range, List.length_take, List.length_drop, enD_length, rangeD_length]; first | decide | omega) | (simp; done) | fail) [decide_eq_true, decide_eq_false, kAsg, kNx, b_table_bf2e, nmD, T.toD, q1, q2, q3, hcol, e, j1]
  | yes =>
    have hr : ttD ns .yes = tabD (fun _ => true) (W2 ns) := rfl
    rw [hr]
    generalize tabD (fun _ => true) (W2 ns) = Q at *
    generalize W2 ns = N at *
    simp (disch := first | assumption | decide | omega | (simp only [List.length_append, List.length_cons, List.length_nil, List.length_map, List.length_reverse, List.length_replicate, List.length_range, List.length_take, List.length_drop, enD_length, rangeD_length]; first | decide | omega) | (simp; done) | fail) [decide_eq_true, decide_eq_false, kAsg, kNx, b_table_bf2e, nmD, T.toD, q1, q2, q3]
  | no =>
    have hr : ttD ns .no = .int 0 := (tabD_zero (W2 ns)).symm
    rw [hr]
    generalize tabD (fun _ => true) (W2 ns) = Q at *
    generalize W2 ns = N at *
    simp (disch := first | assumption | decide | omega | (simp only [List.length_append, List.length_cons, List.length_nil, List.length_map, List.length_reverse, List.length_replicate, List.length_range, List.length_take, List.length_drop, enD_length, rangeD_length]; first | decide | omega) | (simp; done) | fail) [decide_eq_true, decide_eq_false, kAsg, kNx, b_table_bf2e, nmD, T.toD, q1, q2, q3]
  | nt t =>
    simp only [T.depth] at hd
    have h1 := ht ns t h8 hin (by omega)
    have hx : gXor (tabD (fun _ => true) (W2 ns)) (ttD ns t) = .ok (ttD ns (.nt t)) := gNot_tab (t.ev ns) (W2 ns)
    simp only [nmD] at h1
    generalize tabD (fun _ => true) (W2 ns) = Q at *
    generalize ttD ns (.nt t) = A at *
    generalize ttD ns t = B at *
    generalize W2 ns = N at *
    simp (disch := first | assumption | decide | omega | (simp only [List.length_append, List.length_cons, List.length_nil, List.length_map, List.length_reverse, List.length_replicate, List.length_range, List.length_take, List.length_drop, enD_length, rangeD_length]; first | decide | omega) | (simp; done) | fail) [decide_eq_true, decide_eq_false, kAsg, kNx, b_table_bf2e, nmD, T.toD, q1, q2, q3, h1, hx]
  | bin k s t =>
    simp only [T.depth] at hd
    have h1 := ht ns s h8 hin.1 (by omega)
    have h2 := ht ns t h8 hin.2 (by omega)
    simp only [nmD] at h1 h2
    have hx1 : gAnd (ttD ns s) (ttD ns t) = .ok (ttD ns (.bin .an s t)) := gAnd_tab (s.ev ns) (t.ev ns) (W2 ns)
    have hx2 : gOr (ttD ns s) (ttD ns t) = .ok (ttD ns (.bin .or s t)) := gOr_tab (s.ev ns) (t.ev ns) (W2 ns)
    have hx3 : gXor (tabD (fun _ => true) (W2 ns)) (ttD ns s) = .ok (ttD ns (.nt s)) := gNot_tab (s.ev ns) (W2 ns)
    have hx4 : gOr (ttD ns (.nt s)) (ttD ns t) = .ok (ttD ns (.bin .th s t)) := gOr_tab (fun w => !s.ev ns w) (t.ev ns) (W2 ns)
    have hx5 : gXor (ttD ns (.nt s)) (ttD ns t) = .ok (ttD ns (.bin .sm s t)) := gSame_tab (s.ev ns) (t.ev ns) (W2 ns)
    generalize tabD (fun _ => true) (W2 ns) = Q at *
    cases k with
    | an =>
      generalize ttD ns (.bin .an s t) = A at *
      generalize ttD ns s = B at *
      generalize ttD ns t = C at *
      generalize W2 ns = N at *
      simp (disch := first | assumption | decide | omega | (simp only [List.length_append, List.length_cons, List.length_nil, List.length_map, List.length_reverse, List.length_replicate, List.length_range, List.length_take, List.length_drop, enD_length, rangeD_length]; first | decide | omega) | (simp; done) | fail) [decide_eq_true, decide_eq_false, kAsg, kNx, b_table_bf2e, nmD, T.toD, K4.code, q1, q2, q3, h1, h2, hx1]
    | or =>
      generalize ttD ns (.bin .or s t) = A at *
      generalize ttD ns s = B at *
      generalize ttD ns t = C at *
      generalize W2 ns = N at *
      simp (disch := first | assumption | decide | omega | (simp only [List.length_append, List.length_cons, List.length_nil, List.length_map, List.length_reverse, List.length_replicate, List.length_range, List.length_take, List.length_drop, enD_length, rangeD_length]; first | decide | omega) | (simp; done) | fail) [decide_eq_true, decide_eq_false, kAsg, kNx, b_table_bf2e, nmD, T.toD, K4.code, q1, q2, q3, h1, h2, hx2]
    | th =>
      generalize ttD ns (.bin .th s t) = A at *
      generalize ttD ns (.nt s) = G at *
      generalize ttD ns s = B at *
      generalize ttD ns t = C at *
      generalize W2 ns = N at *
      simp (disch := first | assumption | decide | omega | (simp only [List.length_append, List.length_cons, List.length_nil, List.length_map, List.length_reverse, List.length_replicate, List.length_range, List.length_take, List.length_drop, enD_length, rangeD_length]; first | decide | omega) | (simp; done) | fail) [decide_eq_true, decide_eq_false, kAsg, kNx, b_table_bf2e, nmD, T.toD, K4.code, q1, q2, q3, h1, h2, hx3, hx4]
    | sm =>
      generalize ttD ns (.bin .sm s t) = A at *
      generalize ttD ns (.nt s) = G at *
      generalize ttD ns s = B at *
      generalize ttD ns t = C at *
      generalize W2 ns = N at *
      simp (disch := first | assumption | decide | omega | (simp only [List.length_append, List.length_cons, List.length_nil, List.length_map, List.length_reverse, List.length_replicate, List.length_range, List.length_take, List.length_drop, enD_length, rangeD_length]; first | decide | omega) | (simp; done) | fail) [decide_eq_true, decide_eq_false, kAsg, kNx, b_table_bf2e, nmD, T.toD, K4.code, q1, q2, q3, h1, h2, hx3, hx5]
def stemD (c : Int) : List Nat := (List.range (1 + c / 130 % 7).toNat).map fun k : Nat => letter (c / 6370 + 3 * k)
def namesD (c : Int) (m : Nat) : List (List Nat) :=
  if c % 5 = 0 then (List.range m).map fun (k : Nat) => [letter (c / 5 % 26 + 5 * k)]
  else if c % 5 = 1 then (List.range m).map fun (k : Nat) => List.replicate (m - k) (letter (c / 5))
  else (List.range m).map fun (k : Nat) => (stemD c).take (c / 910 % (1 + c / 130 % 7 + 1)).toNat ++ letter (c / 5 % 26 + 5 * k) :: (stemD c).drop (c / 910 % (1 + c / 130 % 7 + 1)).toNat
def NamesDOk (f : Fn) : Prop := ∀ (c : Int) (m : Nat), m ≤ 1000 → f [.val (.int c), .val (.int m)] = .ok (.val (nmD (namesD c m))) [.val (.int c), .val (.int m)]
theorem namesDD_ok : NamesDOk (bodyF 8 2 2 b_names_by_f422) := fun c m hm => by
  have ha : (97 :: 98 :: 99 :: 100 :: 101 :: 102 :: 103 :: 104 :: 105 :: 106 :: 107 :: 108 :: 109 :: 110 :: 111 :: 112 :: 113 :: 114 :: 115 :: 116 :: 117 :: 118 :: 119 :: 120 :: 121 :: 122 :: []) = abc := rfl
  have hal : abc.length = 26 := rfl
  have q1 : 0 ≤ c / 910 % (1 + c / 130 % 7 + 1) := Int.emod_nonneg _ (by omega)
  have q2 : c / 910 % (1 + c / 130 % 7 + 1) < 1 + c / 130 % 7 + 1 := Int.emod_lt_of_pos _ (by omega)
  unfold b_names_by_f422
  rw [ha]
  by_cases h0 : c % 5 = 0
  · simp (disch := first | assumption | decide | omega | (simp only [List.length_append, List.length_cons, List.length_nil, List.length_map, List.length_reverse, List.length_replicate, List.length_range, List.length_take, List.length_drop, enD_length, rangeD_length]; first | decide | omega) | (simp; done) | fail) [decide_eq_true, decide_eq_false, kAsg, kNx, hal, h0]
    rw [lc_rngI m (fun k : Nat => .str [letter (c / 5 % 26 + 5 * k)]) (fun k hk => by
      simp (disch := first | assumption | decide | omega | (simp only [List.length_append, List.length_cons, List.length_nil, List.length_map, List.length_reverse, List.length_replicate, List.length_range, List.length_take, List.length_drop, enD_length, rangeD_length]; first | decide | omega) | (simp; done) | fail) [decide_eq_true, decide_eq_false, kAsg, kNx, hal, letter_eq]
      unfold letter; omega)]
    simp (disch := first | assumption | decide | omega | (simp only [List.length_append, List.length_cons, List.length_nil, List.length_map, List.length_reverse, List.length_replicate, List.length_range, List.length_take, List.length_drop, enD_length, rangeD_length]; first | decide | omega) | (simp; done) | fail) [decide_eq_true, decide_eq_false, kAsg, kNx, nmD, namesD, h0, Function.comp_def]
  by_cases h1 : c % 5 = 1
  · simp (disch := first | assumption | decide | omega | (simp only [List.length_append, List.length_cons, List.length_nil, List.length_map, List.length_reverse, List.length_replicate, List.length_range, List.length_take, List.length_drop, enD_length, rangeD_length]; first | decide | omega) | (simp; done) | fail) [decide_eq_true, decide_eq_false, kAsg, kNx, hal, h0, h1]
    rw [lc_rngI m (fun k : Nat => .str (List.replicate (m - k) (letter (c / 5)))) (fun k hk => by
      have hk2 : (m : Int) - (k : Int) = ((m - k : Nat) : Int) := by omega
      simp (disch := first | assumption | decide | omega | (simp only [List.length_append, List.length_cons, List.length_nil, List.length_map, List.length_reverse, List.length_replicate, List.length_range, List.length_take, List.length_drop, enD_length, rangeD_length]; first | decide | omega) | (simp; done) | fail) [decide_eq_true, decide_eq_false, kAsg, kNx, hal, letter_eq, flat_rep, hk2])]
    simp (disch := first | assumption | decide | omega | (simp only [List.length_append, List.length_cons, List.length_nil, List.length_map, List.length_reverse, List.length_replicate, List.length_range, List.length_take, List.length_drop, enD_length, rangeD_length]; first | decide | omega) | (simp; done) | fail) [decide_eq_true, decide_eq_false, kAsg, kNx, nmD, namesD, h0, h1, Function.comp_def]
  · have hst : lcGo [.val (.int c), .val (.int m), .val (.str abc), .val (.int (c / 5 % 26)), .val (.int (1 + c / 130 % 7)), .val (.int (c / 910 % (1 + c / 130 % 7 + 1))), .emp, .emp] (ftOne 7) fcYes (e2 gIx (eVar 2) (e2 gMod (e2 gAdd (e2 gDiv (eVar 0) (eC (.int (6370)))) (e2 gMul (eC (.int (3))) (eVar 7))) (eC (.int (26))))) (rangeD 0 (1 + c / 130 % 7)) = .ok ((List.range (1 + c / 130 % 7).toNat).map fun k : Nat => .str [letter (c / 6370 + 3 * k)]) :=
      lc_rngI (1 + c / 130 % 7) (fun k : Nat => .str [letter (c / 6370 + 3 * k)]) (fun k hk => by simp (disch := first | assumption | decide | omega | (simp only [List.length_append, List.length_cons, List.length_nil, List.length_map, List.length_reverse, List.length_replicate, List.length_range, List.length_take, List.length_drop, enD_length, rangeD_length]; first | decide | omega) | (simp; done) | fail) [decide_eq_true, decide_eq_false, kAsg, kNx, hal, letter_eq])
    have hj : gJoin [] (.lst ((List.range (1 + c / 130 % 7).toNat).map fun k : Nat => .str [letter (c / 6370 + 3 * k)])) = .ok (.str (stemD c)) := gJoin_one (fun k : Nat => letter (c / 6370 + 3 * k)) _ (by simp; omega)
    have hsl : (stemD c).length ≤ 7 := by unfold stemD; simp; omega
    have hsl2 : ((List.range (1 + c / 130 % 7).toNat).map fun k : Nat => D.str [letter (c / 6370 + 3 * k)]).length ≤ 7 := by simp; omega
    generalize hW : ((List.range (1 + c / 130 % 7).toNat).map fun k : Nat => D.str [letter (c / 6370 + 3 * k)]) = WW at *
    have hres : nmD (namesD c m) = .tup ((List.range m).map fun k : Nat => .str ((stemD c).take (c / 910 % (1 + c / 130 % 7 + 1)).toNat ++ letter (c / 5 % 26 + 5 * k) :: (stemD c).drop (c / 910 % (1 + c / 130 % 7 + 1)).toNat)) := by
      unfold nmD namesD
      rw [if_neg h0, if_neg h1, List.map_map]
      rfl
    rw [hres]
    generalize stemD c = ST at *
    generalize hP : c / 910 % (1 + c / 130 % 7 + 1) = P at *
    generalize hZ : 1 + c / 130 % 7 = Z at *
    simp (disch := first | assumption | decide | omega | (simp only [List.length_append, List.length_cons, List.length_nil, List.length_map, List.length_reverse, List.length_replicate, List.length_range, List.length_take, List.length_drop, enD_length, rangeD_length]; first | decide | omega) | (simp; done) | fail) [decide_eq_true, decide_eq_false, kAsg, kNx, hal, h0, h1, hZ, hP, hst, hj]
    rw [lc_rngI m (fun k : Nat => .str (ST.take P.toNat ++ letter (c / 5 % 26 + 5 * k) :: ST.drop P.toNat)) (fun k hk => by
      simp (disch := first | assumption | decide | omega | (simp only [List.length_append, List.length_cons, List.length_nil, List.length_map, List.length_reverse, List.length_replicate, List.length_range, List.length_take, List.length_drop, enD_length, rangeD_length]; first | decide | omega) | (simp; done) | fail) [decide_eq_true, decide_eq_false, kAsg, kNx, hal, letter_eq, cut_to, cut_from]
      unfold letter; omega)]
    simp (disch := first | assumption | decide | omega | (simp only [List.length_append, List.length_cons, List.length_nil, List.length_map, List.length_reverse, List.length_replicate, List.length_range, List.length_take, List.length_drop, enD_length, rangeD_length]; first | decide | omega) | (simp; done) | fail) [decide_eq_true, decide_eq_false, kAsg, kNx, Function.comp_def]
theorem namesD_len (c : Int) (m : Nat) : (namesD c m).length = m := by
  unfold namesD
  split
  · simp
  · split <;> simp
theorem namesD_N {c : Int} {m : Nat} (h1 : 1 ≤ m) (h8 : m ≤ 8) : okN (namesD c m) := by
  refine ⟨?_, by rw [namesD_len]; exact h8, by rw [namesD_len]; exact h1, fun x hx d hd => ?_⟩
  · unfold namesD
    split
    · refine nodup_range _ _ fun i j h hj e => ?_
      simp only [List.cons.injEq] at e
      have := e.1
      unfold letter at this
      omega
    · split
      · refine nodup_range _ _ fun i j h hj e => ?_
        have e2 := congrArg List.length e
        simp only [List.length_replicate] at e2
        omega
      · refine nodup_range _ _ fun i j h hj e => ?_
        have e2 := List.append_cancel_left e
        simp only [List.cons.injEq] at e2
        have := e2.1
        unfold letter at this
        omega
  · have hl : ∀ i : Int, letter i < 1114112 := letter_ok
    have hs : ∀ d ∈ stemD c, d < 1114112 := fun d hd => by
      obtain ⟨k, _, rfl⟩ := List.mem_map.mp hd
      exact hl _
    unfold namesD at hx
    split at hx
    · obtain ⟨k, _, rfl⟩ := List.mem_map.mp hx
      rw [List.mem_singleton.mp hd]; exact hl _
    · split at hx
      · obtain ⟨k, _, rfl⟩ := List.mem_map.mp hx
        rw [(List.mem_replicate.mp hd).2]; exact hl _
      · obtain ⟨k, _, rfl⟩ := List.mem_map.mp hx
        rcases List.mem_append.mp hd with hd | hd
        · exact hs _ (List.mem_of_mem_take hd)
        · rcases List.mem_cons.mp hd with rfl | hd
          · exact hl _
          · exact hs _ (List.mem_of_mem_drop hd)
theorem treeD_ok {d : Nat} {ft : Fn} (ht : ∀ (ns : List (List Nat)) (c : Int) (k : Nat), okN ns → k + 1 ≤ d → ∃ t : T, ft [.val (nmD ns), .val (.int c), .val (.int k)] = .ok (.val t.toD) [.val (nmD ns), .val (.int c), .val (.int k)] ∧ t.nmIn ns ∧ t.depth ≤ k + 1) : TreeCOk d (bodyF 7 3 3 (b_tree_by_710f ft)) := fun ns c k hn hk => by
  obtain ⟨x, hx, ex⟩ := name_at hn (c / 11 / 12)
  have hpos : 0 < (ns.length : Int) := by have := hn.2.2.1; omega
  have hlen : ns.length ≤ 1000 := by have := hn.2.1; omega
  by_cases h1 : k = 0 ∨ c % 11 < 3
  · have leaf : ∀ (b : k = 0 ∨ (k ≠ 0 ∧ c % 11 < 3)), ∃ t : T, bodyF 7 3 3 (b_tree_by_710f ft) [.val (nmD ns), .val (.int c), .val (.int k)] = .ok (.val t.toD) [.val (nmD ns), .val (.int c), .val (.int k)] ∧ t.nmIn ns ∧ t.depth ≤ k + 1 := fun b => by
      by_cases h2 : c / 11 % 12 = 5
      · refine ⟨.yes, ?_, trivial, by simp [T.depth]⟩
        rcases b with b | ⟨b, b2⟩
        · subst b; simp (disch := first | assumption | decide | omega | (simp only [List.length_append, List.length_cons, List.length_nil, List.length_map, List.length_reverse, List.length_replicate, List.length_range, List.length_take, List.length_drop, enD_length, rangeD_length]; first | decide | omega) | (simp; done) | fail) [decide_eq_true, decide_eq_false, kAsg, kNx, b_tree_by_710f, nmD, h2, T.toD]
        · have b' : ¬ (k : Int) = 0 := by omega
          simp (disch := first | assumption | decide | omega | (simp only [List.length_append, List.length_cons, List.length_nil, List.length_map, List.length_reverse, List.length_replicate, List.length_range, List.length_take, List.length_drop, enD_length, rangeD_length]; first | decide | omega) | (simp; done) | fail) [decide_eq_true, decide_eq_false, kAsg, kNx, b_tree_by_710f, nmD, b, b', b2, h2, T.toD]
      by_cases h3 : c / 11 % 12 = 9
      · refine ⟨.no, ?_, trivial, by simp [T.depth]⟩
        rcases b with b | ⟨b, b2⟩
        · subst b; simp (disch := first | assumption | decide | omega | (simp only [List.length_append, List.length_cons, List.length_nil, List.length_map, List.length_reverse, List.length_replicate, List.length_range, List.length_take, List.length_drop, enD_length, rangeD_length]; first | decide | omega) | (simp; done) | fail) [decide_eq_true, decide_eq_false, kAsg, kNx, b_tree_by_710f, nmD, h3, T.toD]
        · have b' : ¬ (k : Int) = 0 := by omega
          simp (disch := first | assumption | decide | omega | (simp only [List.length_append, List.length_cons, List.length_nil, List.length_map, List.length_reverse, List.length_replicate, List.length_range, List.length_take, List.length_drop, enD_length, rangeD_length]; first | decide | omega) | (simp; done) | fail) [decide_eq_true, decide_eq_false, kAsg, kNx, b_tree_by_710f, nmD, b, b', b2, h3, T.toD]
      · refine ⟨.nm x, ?_, hx, by simp [T.depth]⟩
        rcases b with b | ⟨b, b2⟩
        · subst b; simp (disch := first | assumption | decide | omega | (simp only [List.length_append, List.length_cons, List.length_nil, List.length_map, List.length_reverse, List.length_replicate, List.length_range, List.length_take, List.length_drop, enD_length, rangeD_length]; first | decide | omega) | (simp; done) | fail) [decide_eq_true, decide_eq_false, kAsg, kNx, b_tree_by_710f, nmD, h2, h3, ex, T.toD]
        · have b' : ¬ (k : Int) = 0 := by omega
          simp (disch := first | assumption | decide | omega | (simp only [List.length_append, List.length_cons, List.length_nil, List.length_map, List.length_reverse, List.length_replicate, List.length_range, List.length_take, List.length_drop, enD_length, rangeD_length]; first | decide | omega) | (simp; done) | fail) [decide_eq_true, decide_eq_false, kAsg, kNx, b_tree_by_710f, nmD, b, b', b2, h2, h3, ex, T.toD]
    by_cases hk0 : k = 0
    · exact leaf (.inl hk0)
    · exact leaf (.inr ⟨hk0, by rcases h1 with h1 | h1; exact absurd h1 hk0; exact h1⟩)
  · have hk0 : k ≠ 0 := fun e => h1 (.inl e)
    have hw : ¬ c % 11 < 3 := fun e => h1 (.inr e)
    have b' : ¬ (k : Int) = 0 := by omega
    have ek : (k : Int) - 1 = ((k - 1 : Nat) : Int) := by omega
    obtain ⟨t1, e1, n1, d1⟩ := ht ns (c / 11 * 48271 % 2147483647) (k - 1) hn (by omega)
    obtain ⟨t2, e2', n2, d2⟩ := ht ns (c / 11 * 69621 % 2147483629) (k - 1) hn (by omega)
    simp only [nmD] at e1 e2'
    by_cases h4 : c % 11 < 5
    · refine ⟨.nt t1, ?_, n1, by simp only [T.depth]; omega⟩
      simp (disch := first | assumption | decide | omega | (simp only [List.length_append, List.length_cons, List.length_nil, List.length_map, List.length_reverse, List.length_replicate, List.length_range, List.length_take, List.length_drop, enD_length, rangeD_length]; first | decide | omega) | (simp; done) | fail) [decide_eq_true, decide_eq_false, kAsg, kNx, b_tree_by_710f, nmD, hk0, b', hw, ek, e1, h4, T.toD]
    · have q : c % 11 = 5 ∨ c % 11 = 6 ∨ c % 11 = 7 ∨ c % 11 = 8 ∨ c % 11 = 9 ∨ c % 11 = 10 := by omega
      obtain ⟨K, hat⟩ : ∃ K : K4, L2.atI [D.str [97, 110, 100], D.str [111, 114], D.str [116, 104, 101, 110], D.str [115, 97, 109, 101], D.str [97, 110, 100], D.str [111, 114]] (c % 11 - 5) = some (.str K.code) := by
        rcases q with q | q | q | q | q | q
        · exact ⟨.an, by rw [q]; rfl⟩
        · exact ⟨.or, by rw [q]; rfl⟩
        · exact ⟨.th, by rw [q]; rfl⟩
        · exact ⟨.sm, by rw [q]; rfl⟩
        · exact ⟨.an, by rw [q]; rfl⟩
        · exact ⟨.or, by rw [q]; rfl⟩
      refine ⟨.bin K t1 t2, ?_, ⟨n1, n2⟩, by simp only [T.depth]; omega⟩
      clear q
      simp (disch := first | assumption | decide | omega | (simp only [List.length_append, List.length_cons, List.length_nil, List.length_map, List.length_reverse, List.length_replicate, List.length_range, List.length_take, List.length_drop, enD_length, rangeD_length]; first | decide | omega) | (simp; done) | fail) [decide_eq_true, decide_eq_false, kAsg, kNx, b_tree_by_710f, nmD, hk0, b', hw, ek, e1, e2', h4, hat, T.toD]
end PL
set_option Elab.async false
set_option linter.all false
set_option maxRecDepth 100000
set_option maxHeartbeats 1000000
set_option exponentiation.threshold 20000
namespace PL
set_option autoImplicit false
open PySem L2 PyProof.Rows
def mixV (c k : Int) : Int := (c % 2305843009213693951 + 1) * (k * k + 48271) * 40692 % 2147483399
def MixedK (f : Fn) : Prop := ∀ c k : Int, 0 ≤ k → k ≤ 100000 → f [.val (.int c), .val (.int k)] = .ok (.val (.int (mixV c k))) [.val (.int c), .val (.int k)]
theorem mixed_ok : MixedK (bodyF 2 2 2 b_mixed_557a) := fun c k k0 k1 => by
  have h1 : 0 ≤ k * k := Int.mul_nonneg k0 k0
  have h2 : k * k ≤ 100000 * 100000 := Int.mul_le_mul k1 k1 k0 (by decide)
  have e1 : gMulI (.int k) (.int k) = .ok (.int (k * k)) := gMul_l k k (by omega) (by omega)
  unfold mixV
  generalize k * k = K at *
  have e2 : gMulI (.int (c % 2305843009213693951 + 1)) (.int (K + 48271)) = .ok (.int ((c % 2305843009213693951 + 1) * (K + 48271))) := gMul_r _ _ (by omega) (by omega)
  simp (disch := first | assumption | decide | omega | (simp only [List.length_append, List.length_cons, List.length_nil, List.length_map, List.length_reverse, List.length_replicate, List.length_range, List.length_take, List.length_drop, enD_length, rangeD_length]; first | decide | omega) | (simp; done) | fail) [decide_eq_true, decide_eq_false, kAsg, kNx, b_mixed_557a, e1, e2]
theorem mixV_rng (c k : Int) : 0 ≤ mixV c k ∧ mixV c k < 2147483399 := ⟨Int.emod_nonneg _ (by decide), Int.emod_lt_of_pos _ (by decide)⟩
end PL
set_option Elab.async false
set_option linter.all false
set_option maxRecDepth 100000
set_option maxHeartbeats 1000000
set_option exponentiation.threshold 20000
namespace PL
set_option autoImplicit false
open PySem L2 PyProof.Rows
end PL
set_option Elab.async false
set_option linter.all false
set_option maxRecDepth 100000
set_option maxHeartbeats 1000000
set_option exponentiation.threshold 20000
namespace PL
set_option autoImplicit false
open PySem L2 PyProof.Rows
/-- ranks no greater than B -/
def rkB (B : Int) (rs : List Int) : Prop := ∀ r ∈ rs, 0 ≤ r ∧ r ≤ B
theorem rkB.at {B : Int} {rs : List Int} (h : rkB B rs) (hB : 0 ≤ B) (w : Nat) : 0 ≤ rs.getD w 0 ∧ rs.getD w 0 ≤ B := by
  rw [List.getD_eq_getElem?_getD]
  cases e : rs[w]? with
  | none => exact ⟨by simp, by simpa using hB⟩
  | some r => exact h r (List.mem_of_getElem? e)
theorem rkB.le {B C : Int} {rs : List Int} (h : rkB B rs) (hc : B ≤ C) : rkB C rs := fun r hr => ⟨(h r hr).1, by have := (h r hr).2; omega⟩
end PL
set_option Elab.async false
set_option linter.all false
set_option maxRecDepth 100000
set_option maxHeartbeats 2000000
set_option exponentiation.threshold 20000
namespace PL
set_option autoImplicit false
open PySem L2 PyProof.Rows
theorem gNe_of {d e : D} {k : Bool} (h : gEq d e = .ok k) : gNe d e = .ok (!k) := by
  unfold gNe; rw [h]; rfl
end PL
set_option Elab.async false
set_option linter.all false
set_option maxRecDepth 100000
set_option maxHeartbeats 2000000
set_option exponentiation.threshold 20000
namespace PL
set_option autoImplicit false
open PySem L2 PyProof.Rows
theorem zero_at (ns : List (List Nat)) (w : Nat) : (zerosL ns).getD w 0 = 0 := by
  unfold zerosL
  rw [List.getD_eq_getElem?_getD, List.getElem?_replicate]
  split <;> rfl
theorem okQ_zero {ns : List (List Nat)} : okQ ns (zerosL ns) :=
  ⟨zerosL_len ns, fun w _ => by rw [zero_at]; decide, 0, Nat.pow_pos (by decide), zero_at ns 0⟩
theorem move_f {st un : List D} {d : D} (h : un.length ≤ 900) : moveL 0 false [lgS (st ++ [d]) un] = .nx [lgS st (un ++ [d])] :=
  lgMove (i := 0) (b := false) (ρ := [lgS (st ++ [d]) un]) (st := st ++ [d]) (un := un) (xs := st) (d := d) rfl rfl (by show un.length < LIM; simp only [LIM]; omega)
theorem move_t {st un : List D} {d : D} (h : st.length ≤ 900) : moveL 0 true [lgS st (un ++ [d])] = .nx [lgS (st ++ [d]) un] :=
  lgMove (i := 0) (b := true) (ρ := [lgS st (un ++ [d])]) (st := st) (un := un ++ [d]) (xs := un) (d := d) rfl rfl (by show st.length < LIM; simp only [LIM]; omega)
def BackLK (f : Fn) : Prop := ∀ (st un : List D) (d : D), un.length ≤ 900 →
  (st ≠ [] → f [lgS (st ++ [d]) un] = .ok (.val .non) [lgS st (un ++ [d])]) ∧ (st = [] → f [lgS (st ++ [d]) un] = .exc ⟨8, []⟩ [lgS (st ++ [d]) un])
theorem backL_ok : BackLK (bodyF 1 1 1 b_Log_back) := fun st un d hu => by
  have hm := move_f (st := st) (d := d) hu
  refine ⟨fun h => ?_, fun h => ?_⟩
  · have hp : 0 < st.length := List.length_pos_iff.mpr h
    have hl : ¬ (((st ++ [d]).length : Nat) : Int) = 1 := by simp; omega
    generalize st ++ [d] = ST at *
    simp (disch := first | assumption | decide | omega | (simp only [List.length_append, List.length_cons, List.length_nil, List.length_map, List.length_reverse, List.length_replicate, List.length_range, List.length_take, List.length_drop, enD_length, rangeD_length]; first | decide | omega) | (simp; done) | fail) [decide_eq_true, decide_eq_false, kAsg, kNx, b_Log_back, hl, hm]
  · subst h
    simp (disch := first | assumption | decide | omega | (simp only [List.length_append, List.length_cons, List.length_nil, List.length_map, List.length_reverse, List.length_replicate, List.length_range, List.length_take, List.length_drop, enD_length, rangeD_length]; first | decide | omega) | (simp; done) | fail) [decide_eq_true, decide_eq_false, kAsg, kNx, b_Log_back]
def AgainLK (f : Fn) : Prop := ∀ (st un : List D), st.length ≤ 900 →
  (∀ d, f [lgS st (un ++ [d])] = .ok (.val .non) [lgS (st ++ [d]) un]) ∧ f [lgS st []] = .exc ⟨9, []⟩ [lgS st []]
theorem againL_ok : AgainLK (bodyF 1 1 1 b_Log_again) := fun st un hs => by
  refine ⟨fun d => ?_, ?_⟩
  · have hm := move_t (un := un) (d := d) hs
    have hl : ¬ un ++ [d] = [] := by simp
    generalize un ++ [d] = UN at *
    simp (disch := first | assumption | decide | omega | (simp only [List.length_append, List.length_cons, List.length_nil, List.length_map, List.length_reverse, List.length_replicate, List.length_range, List.length_take, List.length_drop, enD_length, rangeD_length]; first | decide | omega) | (simp; done) | fail) [decide_eq_true, decide_eq_false, kAsg, kNx, b_Log_again, hl, hm]
  · simp (disch := first | assumption | decide | omega | (simp only [List.length_append, List.length_cons, List.length_nil, List.length_map, List.length_reverse, List.length_replicate, List.length_range, List.length_take, List.length_drop, enD_length, rangeD_length]; first | decide | omega) | (simp; done) | fail) [decide_eq_true, decide_eq_false, kAsg, kNx, b_Log_again]
def mnd (ns : List (List Nat)) (d : D) : Prop := ∃ rs, d = mindD ns rs ∧ okQ ns rs
def mnds (ns : List (List Nat)) (l : List D) : Prop := ∀ d ∈ l, mnd ns d
theorem mnds.app {ns : List (List Nat)} {l : List D} {d : D} : mnds ns (l ++ [d]) ↔ mnds ns l ∧ mnd ns d := by
  constructor
  · exact fun h => ⟨fun e he => h e (List.mem_append_left _ he), h d (by simp)⟩
  · rintro ⟨h1, h2⟩ e he
    rcases List.mem_append.mp he with he | he
    · exact h1 e he
    · rw [List.mem_singleton.mp he]; exact h2
theorem mnds.nil {ns : List (List Nat)} : mnds ns [] := fun d h => by cases h
end PL
set_option Elab.async false
set_option linter.all false
set_option maxRecDepth 100000
set_option maxHeartbeats 2000000
set_option exponentiation.threshold 20000
namespace PL
set_option autoImplicit false
open PySem L2 PyProof.Rows
end PL
set_option Elab.async false
set_option linter.all false
set_option maxRecDepth 100000
set_option maxHeartbeats 2000000
set_option exponentiation.threshold 20000
namespace PL
set_option autoImplicit false
open PySem L2 PyProof.Rows
def rsOf : D → List Int
  | .tup [_, .tup l] => l.map fun d => match d with
    | .int i => i
    | _ => 0
  | _ => []
theorem rsOf_mind (ns : List (List Nat)) (rs : List Int) : rsOf (mindD ns rs) = rs := by
  show (rs.map D.int).map _ = rs
  rw [List.map_map]
  exact (List.map_congr_left fun _ _ => rfl).trans (List.map_id rs)
theorem mnd.of {ns : List (List Nat)} {d : D} (h : mnd ns d) : d = mindD ns (rsOf d) ∧ okQ ns (rsOf d) := by
  obtain ⟨rs, rfl, hq⟩ := h
  rw [rsOf_mind]
  exact ⟨rfl, hq⟩
end PL
set_option Elab.async false
set_option linter.all false
set_option maxRecDepth 100000
set_option maxHeartbeats 1000000
set_option exponentiation.threshold 20000
namespace PL
set_option autoImplicit false
open PySem L2 PyProof.Rows
def StateLK (f : Fn) : Prop := ∀ (st un : List D) (d : D), st.length ≤ 900 → un.length ≤ 900 → f [lgS (st ++ [d]) un] = .ok (.val (.tup [d, .lst (st ++ [d]), .int (st.length : Nat), .int (un.length : Nat)])) [lgS (st ++ [d]) un]
theorem stateL_ok {ga gb gs gm : Gn} (ha : AgainsLK ga) (hb : BacksLK gb) (hs : MindsLK gs) (hm : MindLK gm) : StateLK (bodyF 1 1 1 (b_state_5d27 ga gb gs gm)) := fun st un d h1 h2 => by
  have a1 := ha (st ++ [d]) un (by omega)
  have a2 := hb (st ++ [d]) un (by simp; omega)
  have a3 := hs (st ++ [d]) un
  have a4 := hm st un d (by omega)
  have e : ((st ++ [d]).length : Int) - 1 = (st.length : Nat) := by simp
  rw [e] at a2
  generalize st ++ [d] = ST at *
  simp (disch := first | assumption | decide | omega | (simp only [List.length_append, List.length_cons, List.length_nil, List.length_map, List.length_reverse, List.length_replicate, List.length_range, List.length_take, List.length_drop, enD_length, rangeD_length]; first | decide | omega) | (simp; done) | fail) [decide_eq_true, decide_eq_false, kAsg, kNx, b_state_5d27, a1, a2, a3, a4]
end PL
set_option Elab.async false
set_option linter.all false
set_option maxRecDepth 100000
set_option maxHeartbeats 1000000
namespace PL
set_option autoImplicit false
open PySem L2 PyProof.Rows
def DoCK (f : Fn) : Prop := ∀ (ns : List (List Nat)) (st un : List D) (d : D) (c k : Int), okN ns → mnds ns (st ++ [d]) → mnds ns un → st.length ≤ 300 → un.length ≤ 300 → 0 ≤ k → k ≤ 1000 →
  ∃ (st' un' : List D) (d' : D), f [lgS (st ++ [d]) un, .val (nmD ns), .val (.int c), .val (.int k)] = .ok (.val .non) [lgS (st' ++ [d']) un', .val (nmD ns), .val (.int c), .val (.int k)] ∧
    mnds ns (st' ++ [d']) ∧ mnds ns un' ∧ st'.length ≤ st.length + 1 ∧ un'.length ≤ un.length + 1
theorem doC_ok {fm fb fa ftr ftb fg ft fgi fta : Fn} {gb ga : Gn} (hm : MixedK fm) (hb : BackLK fb) (ha : AgainLK fa) (htr : TreeCOk 4 ftr) (htb : TabK ftb) (hg : Deed2K fg fgi) (ht : Deed3K ft fta) (hgi : GiveK fgi) (hta : TakeK fta) (htx : TakeXT fta) (hbs : BacksLK gb) (hag : AgainsLK ga) :
    DoCK (bodyF 6 4 4 (b_do_1ec3 fm fb fa ftr ftb fg ft gb ga)) := fun ns st un d c k hn hM hU hs hu k0 k1 => by
  have x1 := hm c k k0 (by omega)
  have x2 := hm c (k + 50) (by omega) (by omega)
  have m0 := mixV_rng c k
  generalize mixV c k = m at x1 m0
  generalize mixV c (k + 50) = m2 at x2
  obtain ⟨w, hw⟩ : ∃ w : Int, m % 4 = w := ⟨_, rfl⟩
  have y1 := hbs (st ++ [d]) un (by simp <;> omega)
  have e1 : (((st ++ [d]).length : Nat) : Int) - 1 = (st.length : Nat) := by simp
  rw [e1] at y1
  have y2 := hag (st ++ [d]) un (by omega)
  by_cases hA : w = 2 ∧ st ≠ []
  · obtain ⟨rfl, hs0⟩ := hA
    obtain ⟨st', d', e'⟩ : ∃ (st' : List D) (d' : D), st = st' ++ [d'] := ⟨st.dropLast, st.getLast hs0, (List.dropLast_concat_getLast hs0).symm⟩
    have f1 := (hb st un d (by omega)).1 hs0
    have hp : (0 : Int) < (st.length : Nat) := by have := List.length_pos_iff.mpr hs0; omega
    have hM' := mnds.app.mp hM
    refine ⟨st', un ++ [d], d', ?_, by rw [← e']; exact hM'.1, mnds.app.mpr ⟨hU, hM'.2⟩, by rw [e']; simp; omega, by simp⟩
    rw [← e']
    clear hM hM' hU e'
    generalize ((st.length : Nat) : Int) = LN at *
    generalize st ++ [d] = ST at *
    generalize nmD ns = ND at *
    simp (disch := first | assumption | decide | omega | (simp only [List.length_append, List.length_cons, List.length_nil, List.length_map, List.length_reverse, List.length_replicate, List.length_range, List.length_take, List.length_drop, enD_length, rangeD_length]; first | decide | omega) | (simp; done) | fail) [decide_eq_true, decide_eq_false, kAsg, kNx, b_do_1ec3, x1, hw, y1, hp, f1]
  by_cases hB : w = 3 ∧ un ≠ []
  · obtain ⟨rfl, hu0⟩ := hB
    obtain ⟨un', d', rfl⟩ : ∃ (st' : List D) (d' : D), un = st' ++ [d'] := ⟨un.dropLast, un.getLast hu0, (List.dropLast_concat_getLast hu0).symm⟩
    have f1 := (ha (st ++ [d]) un' (by simp <;> omega)).1 d'
    have hU' := mnds.app.mp hU
    have hp : (0 : Int) < ((un' ++ [d']).length : Nat) := by simp <;> omega
    refine ⟨st ++ [d], un', d', ?_, mnds.app.mpr ⟨hM, hU'.2⟩, hU'.1, by simp, by simp <;> omega⟩
    clear hM hU hU'
    generalize st ++ [d] = ST at *
    generalize (((un' ++ [d']).length : Nat) : Int) = LN at *
    generalize un' ++ [d'] = UN at *
    generalize nmD ns = ND at *
    simp (disch := first | assumption | decide | omega | (simp only [List.length_append, List.length_cons, List.length_nil, List.length_map, List.length_reverse, List.length_replicate, List.length_range, List.length_take, List.length_drop, enD_length, rangeD_length]; first | decide | omega) | (simp; done) | fail) [decide_eq_true, decide_eq_false, kAsg, kNx, b_do_1ec3, x1, hw, y2, hp, f1]
  · obtain ⟨rs, rfl, hq⟩ := (mnds.app.mp hM).2
    obtain ⟨t, ht', t1, t2⟩ := htr ns m2 3 hn (by decide)
    have ht' : ftr [.val (nmD ns), .val (.int m2), .val (.int 3)] = .ok (.val t.toD) [.val (nmD ns), .val (.int m2), .val (.int 3)] := ht'
    have hT : okT ns t := ⟨t1, by omega⟩
    have hb' := htb ns t hn hT
    have hW := W2_gt hn
    obtain ⟨F, hF, F0⟩ : ∃ F : Int, 1 + c % 1000000000000 = F ∧ 1 ≤ F := ⟨_, rfl, by omega⟩
    have key : ∃ rs', okQ ns rs' ∧ ((gEq (ttD ns t) (.int 0) = .ok true ∧ fg [lgS (st ++ [mindD ns rs]) un, .val t.toD] = .ok (.val .non) [lgS (st ++ [mindD ns rs] ++ [mindD ns rs']) [], .val t.toD]) ∨
        (gEq (ttD ns t) (.int 0) = .ok false ∧ ft [lgS (st ++ [mindD ns rs]) un, .val t.toD, .val (.int F)] = .ok (.val .non) [lgS (st ++ [mindD ns rs] ++ [mindD ns rs']) [], .val t.toD, .val (.int F)])) := by
      rcases tri (ns := ns) (t := t) with ho | ho | ho
      · exact ⟨_, okQ_turn ho hq.1, .inr ⟨(open_ne ho).2.1, (ht st un (mindD ns rs) t.toD (.int F) (by omega)).1 _ (hta ns rs t F hn hq.1 hT ho)⟩⟩
      · exact ⟨rs, hq, .inr ⟨gEq_tabN hW (ho 0 hW), (ht st un (mindD ns rs) t.toD (.int F) (by omega)).1 _ (htx ns rs t F hn hT ho)⟩⟩
      · have hz := least_nv_no hq ho
        have e : ttD ns t = tabD (fun _ => false) (W2 ns) := by unfold ttD tabD; rw [tab_congr (q := fun _ => false) ho]
        have e1 : gEq (ttD ns t) (.int 0) = .ok true := by rw [e, tabD_zero (W2 ns)]; unfold tabD; rw [gEq_ii, decide_eq_true rfl]
        have hg1 : giveL ns t rs = rs := if_pos hz
        have f1 := hgi ns rs t hn hq.1 hT (.inr hz)
        rw [hg1] at f1
        exact ⟨rs, hq, .inl ⟨e1, (hg st un (mindD ns rs) t.toD (by omega)).1 _ f1⟩⟩
    obtain ⟨rs', hq', hk⟩ := key
    have hA2 : w = 2 → st.length = 0 := fun e => by
      by_cases h : st = []
      · rw [h]; rfl
      · exact absurd ⟨e, h⟩ hA
    have hB2 : w = 3 → un.length = 0 := fun e => by
      by_cases h : un = []
      · rw [h]; rfl
      · exact absurd ⟨e, h⟩ hB
    refine ⟨st ++ [mindD ns rs], [], mindD ns rs', ?_, mnds.app.mpr ⟨hM, rs', rfl, hq'⟩, mnds.nil, by simp, by simp⟩
    clear hM hU hq hq' hA hB
    generalize hLS : ((st.length : Nat) : Int) = LS at *
    generalize hLU : ((un.length : Nat) : Int) = LU at *
    have hA2 : w = 2 → LS = 0 := fun e => by have := hA2 e; omega
    have hB2 : w = 3 → LU = 0 := fun e => by have := hB2 e; omega
    clear hLS hLU
    generalize mindD ns rs' = R at *
    generalize st ++ [mindD ns rs] = ST at *
    generalize ttD ns t = TT at *
    generalize t.toD = TD at *
    generalize nmD ns = ND at *
    by_cases w2 : w = 2
    · obtain rfl := hA2 w2
      subst w2
      rcases hk with ⟨k2, k3⟩ | ⟨k2, k3⟩ <;> simp (disch := first | assumption | decide | omega | (simp only [List.length_append, List.length_cons, List.length_nil, List.length_map, List.length_reverse, List.length_replicate, List.length_range, List.length_take, List.length_drop, enD_length, rangeD_length]; first | decide | omega) | (simp; done) | fail) [decide_eq_true, decide_eq_false, kAsg, kNx, b_do_1ec3, x1, x2, hw, y1, ht', hb', hF, k2, k3]
    by_cases w3 : w = 3
    · obtain rfl := hB2 w3
      subst w3
      rcases hk with ⟨k2, k3⟩ | ⟨k2, k3⟩ <;> simp (disch := first | assumption | decide | omega | (simp only [List.length_append, List.length_cons, List.length_nil, List.length_map, List.length_reverse, List.length_replicate, List.length_range, List.length_take, List.length_drop, enD_length, rangeD_length]; first | decide | omega) | (simp; done) | fail) [decide_eq_true, decide_eq_false, kAsg, kNx, b_do_1ec3, x1, x2, hw, y2, ht', hb', hF, k2, k3]
    · rcases hk with ⟨k2, k3⟩ | ⟨k2, k3⟩ <;> simp (disch := first | assumption | decide | omega | (simp only [List.length_append, List.length_cons, List.length_nil, List.length_map, List.length_reverse, List.length_replicate, List.length_range, List.length_take, List.length_drop, enD_length, rangeD_length]; first | decide | omega) | (simp; done) | fail) [decide_eq_true, decide_eq_false, kAsg, kNx, b_do_1ec3, x1, x2, hw, w2, w3, ht', hb', hF, k2, k3]
end PL
set_option Elab.async false
set_option linter.all false
set_option maxRecDepth 100000
set_option maxHeartbeats 4000000
namespace Wk56
open PySem PySem.Spec PyProof.Rows L2 PL
def top (i : Nat) : Stmt := PySem.Challenge.pw_mindchange_k56_lists_held.main.body.getD i (.Pass ⟨0, 0, 0, 0⟩)
abbrev s_parts_of : Stmt := top 9
abbrev s_gather : Stmt := top 10
abbrev s_names_in : Stmt := top 11
abbrev s_look_names : Stmt := top 13
abbrev s_full : Stmt := top 14
abbrev s_column : Stmt := top 15
abbrev s_table_within : Stmt := top 16
abbrev s_table : Stmt := top 17
abbrev s_flat : Stmt := top 19
abbrev s_least_rank : Stmt := top 20
abbrev s_firmness : Stmt := top 21
abbrev s_keeps : Stmt := top 23
abbrev s_turned : Stmt := top 24
abbrev s_given_up : Stmt := top 25
abbrev s_taken_on : Stmt := top 26
abbrev s__law_cell_at : Stmt := top 30
abbrev s__law_mixed : Stmt := top 31
abbrev s__law_names_by : Stmt := top 32
abbrev s__law_tree_by : Stmt := top 33
abbrev s__law_column : Stmt := top 34
abbrev s__law_table : Stmt := top 35
abbrev s__law_do : Stmt := top 36
abbrev s__law_state : Stmt := top 37
abbrev s_law : Stmt := top 38
abbrev s_Log___init__ : Stmt := inCls (top 28) 0
abbrev s_Log_mind : Stmt := inCls (top 28) 1
abbrev s_Log_minds : Stmt := inCls (top 28) 2
abbrev s_Log_backs : Stmt := inCls (top 28) 3
abbrev s_Log_agains : Stmt := inCls (top 28) 4
abbrev s_Log_lay : Stmt := inCls (top 28) 5
abbrev s_Log_take : Stmt := inCls (top 28) 6
abbrev s_Log_give : Stmt := inCls (top 28) 7
abbrev s_Log_back : Stmt := inCls (top 28) 10
abbrev s_Log_again : Stmt := inCls (top 28) 11
abbrev N_parts_of : List Str := ["tree"]
theorem sc_parts_of : FnScope N_parts_of ["tree"] (defScope s_parts_of) := ⟨rfl, rfl, rfl, by decide +kernel, rfl, by decide +kernel, by decide +kernel⟩
abbrev N_gather : List Str := ["tree", "met", "part"]
theorem sc_gather : FnScope N_gather ["tree", "met"] (defScope s_gather) := ⟨rfl, rfl, rfl, by decide +kernel, rfl, by decide +kernel, by decide +kernel⟩
abbrev N_names_in : List Str := ["tree", "met"]
theorem sc_names_in : FnScope N_names_in ["tree"] (defScope s_names_in) := ⟨rfl, rfl, rfl, by decide +kernel, rfl, by decide +kernel, by decide +kernel⟩
abbrev N_look_names : List Str := ["names", "tree", "name"]
theorem sc_look_names : FnScope N_look_names ["names", "tree"] (defScope s_look_names) := ⟨rfl, rfl, rfl, by decide +kernel, rfl, by decide +kernel, by decide +kernel⟩
abbrev N_full : List Str := ["names"]
theorem sc_full : FnScope N_full ["names"] (defScope s_full) := ⟨rfl, rfl, rfl, by decide +kernel, rfl, by decide +kernel, by decide +kernel⟩
abbrev N_column : List Str := ["many", "place", "size", "found"]
theorem sc_column : FnScope N_column ["many", "place"] (defScope s_column) := ⟨rfl, rfl, rfl, by decide +kernel, rfl, by decide +kernel, by decide +kernel⟩
abbrev N_table_within : List Str := ["names", "tree", "kind", "one", "other"]
theorem sc_table_within : FnScope N_table_within ["names", "tree"] (defScope s_table_within) := ⟨rfl, rfl, rfl, by decide +kernel, rfl, by decide +kernel, by decide +kernel⟩
abbrev N_table : List Str := ["names", "tree"]
theorem sc_table : FnScope N_table ["names", "tree"] (defScope s_table) := ⟨rfl, rfl, rfl, by decide +kernel, rfl, by decide +kernel, by decide +kernel⟩
abbrev N_flat : List Str := ["names"]
theorem sc_flat : FnScope N_flat ["names"] (defScope s_flat) := ⟨rfl, rfl, rfl, by decide +kernel, rfl, by decide +kernel, by decide +kernel⟩
abbrev N_least_rank : List Str := ["ranks", "side", "found", "world", "rank"]
theorem sc_least_rank : FnScope N_least_rank ["ranks", "side"] (defScope s_least_rank) := ⟨rfl, rfl, rfl, by decide +kernel, rfl, by decide +kernel, by decide +kernel⟩
abbrev N_firmness : List Str := ["mind", "tree", "names", "ranks"]
theorem sc_firmness : FnScope N_firmness ["mind", "tree"] (defScope s_firmness) := ⟨rfl, rfl, rfl, by decide +kernel, rfl, by decide +kernel, by decide +kernel⟩
abbrev N_keeps : List Str := ["truth", "world"]
theorem sc_keeps : FnScope N_keeps ["truth", "world"] (defScope s_keeps) := ⟨rfl, rfl, rfl, by decide +kernel, rfl, by decide +kernel, by decide +kernel⟩
abbrev N_turned : List Str := ["mind", "tree", "lean", "names", "ranks", "truth", "whole", "keeping", "breaking", "moved", "world", "rank"]
theorem sc_turned : FnScope N_turned ["mind", "tree", "lean"] (defScope s_turned) := ⟨rfl, rfl, rfl, by decide +kernel, rfl, by decide +kernel, by decide +kernel⟩
abbrev N_given_up : List Str := ["mind", "tree", "firm"]
theorem sc_given_up : FnScope N_given_up ["mind", "tree"] (defScope s_given_up) := ⟨rfl, rfl, rfl, by decide +kernel, rfl, by decide +kernel, by decide +kernel⟩
abbrev N_taken_on : List Str := ["mind", "tree", "firm", "names"]
theorem sc_taken_on : FnScope N_taken_on ["mind", "tree", "firm"] (defScope s_taken_on) := ⟨rfl, rfl, rfl, by decide +kernel, rfl, by decide +kernel, by decide +kernel⟩
abbrev N__law_cell_at : List Str := ["_law_script", "_law_k"]
theorem sc__law_cell_at : FnScope N__law_cell_at ["_law_script", "_law_k"] (defScope s__law_cell_at) := ⟨rfl, rfl, rfl, by decide +kernel, rfl, by decide +kernel, by decide +kernel⟩
abbrev N__law_mixed : List Str := ["_law_cell", "_law_k"]
theorem sc__law_mixed : FnScope N__law_mixed ["_law_cell", "_law_k"] (defScope s__law_mixed) := ⟨rfl, rfl, rfl, by decide +kernel, rfl, by decide +kernel, by decide +kernel⟩
abbrev N__law_names_by : List Str := ["_law_cell", "_law_many", "_law_letters", "_law_first", "_law_size", "_law_place", "_law_stem", "_law_k"]
theorem sc__law_names_by : FnScope N__law_names_by ["_law_cell", "_law_many"] (defScope s__law_names_by) := ⟨rfl, rfl, rfl, by decide +kernel, rfl, by decide +kernel, by decide +kernel⟩
abbrev N__law_tree_by : List Str := ["_law_names", "_law_cell", "_law_deep", "_law_sort", "_law_rest", "_law_one", "_law_verb"]
theorem sc__law_tree_by : FnScope N__law_tree_by ["_law_names", "_law_cell", "_law_deep"] (defScope s__law_tree_by) := ⟨rfl, rfl, rfl, by decide +kernel, rfl, by decide +kernel, by decide +kernel⟩
abbrev N__law_column : List Str := ["_law_many", "_law_place", "_law_told", "_law_size"]
theorem sc__law_column : FnScope N__law_column ["_law_many", "_law_place"] (defScope s__law_column) := ⟨rfl, rfl, rfl, by decide +kernel, rfl, by decide +kernel, by decide +kernel⟩
abbrev N__law_table : List Str := ["_law_names", "_law_tree", "_law_every", "_law_one", "_law_other"]
theorem sc__law_table : FnScope N__law_table ["_law_names", "_law_tree"] (defScope s__law_table) := ⟨rfl, rfl, rfl, by decide +kernel, rfl, by decide +kernel, by decide +kernel⟩
abbrev N__law_do : List Str := ["_law_log", "_law_names", "_law_cell", "_law_k", "_law_m", "_law_tree"]
theorem sc__law_do : FnScope N__law_do ["_law_log", "_law_names", "_law_cell", "_law_k"] (defScope s__law_do) := ⟨rfl, rfl, rfl, by decide +kernel, rfl, by decide +kernel, by decide +kernel⟩
abbrev N__law_state : List Str := ["_law_log"]
theorem sc__law_state : FnScope N__law_state ["_law_log"] (defScope s__law_state) := ⟨rfl, rfl, rfl, by decide +kernel, rfl, by decide +kernel, by decide +kernel⟩
abbrev N_law : List Str := ["_law_script", "_law_first", "_law_names", "_law_logs", "_law_alone", "_law_kept", "_law_copies", "_law_k", "_law_cell", "_law_which", "_law_told", "_law_spare"]
theorem sc_law : FnScope N_law ["_law_script"] (defScope s_law) := ⟨rfl, rfl, rfl, by decide +kernel, rfl, by decide +kernel, by decide +kernel⟩
abbrev N_Log___init__ : List Str := ["self", "names"]
theorem sc_Log___init__ : FnScope N_Log___init__ ["self", "names"] (defScope s_Log___init__) := ⟨rfl, rfl, rfl, by decide +kernel, rfl, by decide +kernel, by decide +kernel⟩
abbrev N_Log_mind : List Str := ["self"]
theorem sc_Log_mind : FnScope N_Log_mind ["self"] (defScope s_Log_mind) := ⟨rfl, rfl, rfl, by decide +kernel, rfl, by decide +kernel, by decide +kernel⟩
abbrev N_Log_minds : List Str := ["self"]
theorem sc_Log_minds : FnScope N_Log_minds ["self"] (defScope s_Log_minds) := ⟨rfl, rfl, rfl, by decide +kernel, rfl, by decide +kernel, by decide +kernel⟩
abbrev N_Log_backs : List Str := ["self"]
theorem sc_Log_backs : FnScope N_Log_backs ["self"] (defScope s_Log_backs) := ⟨rfl, rfl, rfl, by decide +kernel, rfl, by decide +kernel, by decide +kernel⟩
abbrev N_Log_agains : List Str := ["self"]
theorem sc_Log_agains : FnScope N_Log_agains ["self"] (defScope s_Log_agains) := ⟨rfl, rfl, rfl, by decide +kernel, rfl, by decide +kernel, by decide +kernel⟩
abbrev N_Log_lay : List Str := ["self", "mind"]
theorem sc_Log_lay : FnScope N_Log_lay ["self", "mind"] (defScope s_Log_lay) := ⟨rfl, rfl, rfl, by decide +kernel, rfl, by decide +kernel, by decide +kernel⟩
abbrev N_Log_take : List Str := ["self", "tree", "firm"]
theorem sc_Log_take : FnScope N_Log_take ["self", "tree", "firm"] (defScope s_Log_take) := ⟨rfl, rfl, rfl, by decide +kernel, rfl, by decide +kernel, by decide +kernel⟩
abbrev N_Log_give : List Str := ["self", "tree"]
theorem sc_Log_give : FnScope N_Log_give ["self", "tree"] (defScope s_Log_give) := ⟨rfl, rfl, rfl, by decide +kernel, rfl, by decide +kernel, by decide +kernel⟩
abbrev N_Log_back : List Str := ["self"]
theorem sc_Log_back : FnScope N_Log_back ["self"] (defScope s_Log_back) := ⟨rfl, rfl, rfl, by decide +kernel, rfl, by decide +kernel, by decide +kernel⟩
abbrev N_Log_again : List Str := ["self"]
theorem sc_Log_again : FnScope N_Log_again ["self"] (defScope s_Log_again) := ⟨rfl, rfl, rfl, by decide +kernel, rfl, by decide +kernel, by decide +kernel⟩
structure Fns where
  parts_of : Fn
  gather : Fn
  names_in : Fn
  look_names : Fn
  full : Fn
  column : Fn
  table_within : Fn
  table : Fn
  flat : Fn
  least_rank : Fn
  firmness : Fn
  keeps : Fn
  turned : Fn
  given_up : Fn
  taken_on : Fn
  _law_cell_at : Fn
  _law_mixed : Fn
  _law_names_by : Fn
  _law_tree_by : Fn
  _law_column : Fn
  _law_table : Fn
  _law_do : Fn
  _law_state : Fn
  law : Fn
  Log___init__ : Fn
  Log_mind : Gn
  Log_minds : Gn
  Log_backs : Gn
  Log_agains : Gn
  Log_lay : Fn
  Log_take : Fn
  Log_give : Fn
  Log_back : Fn
  Log_again : Fn
noncomputable def F0 : Fns := ⟨fun _ => .stuck, fun _ => .stuck, fun _ => .stuck, fun _ => .stuck, fun _ => .stuck, fun _ => .stuck, fun _ => .stuck, fun _ => .stuck, fun _ => .stuck, fun _ => .stuck, fun _ => .stuck, fun _ => .stuck, fun _ => .stuck, fun _ => .stuck, fun _ => .stuck, fun _ => .stuck, fun _ => .stuck, fun _ => .stuck, fun _ => .stuck, fun _ => .stuck, fun _ => .stuck, fun _ => .stuck, fun _ => .stuck, fun _ => .stuck, fun _ => .stuck, fun _ => .stuck, fun _ => .stuck, fun _ => .stuck, fun _ => .stuck, fun _ => .stuck, fun _ => .stuck, fun _ => .stuck, fun _ => .stuck, fun _ => .stuck⟩
noncomputable def b_law_l1 (f__law_cell_at f__law_names_by f_Log___init__ f__law_do f__law_state : Fn) (f_Log_minds : Gn) : Es := (seqS (asgS (ftOne 9) (e2 gMod (eVar 8) (eC (.int (2)))))
  (seqS (dropX (callPX 3 (eVar 9) (aCons (e2 gIx (eVar 2) (eVar 9)) (aCons (eFrz 8) (aCons (eFrz 7) aNil))) f__law_do))
  (seqS (dropX (callPX 4 (eVar 9) (aCons (e2 gIx (eVar 2) (eVar 9)) (aCons (eFrz 8) (aCons (eFrz 7) aNil))) f__law_do))
  (seqS (asgS (ftOne 10) (ePmP 3 (e2 gMod (e2 gDiv (eVar 8) (eC (.int (2)))) (eC (.int (2)))) f_Log_minds))
  (seqS (mutS 5 gAppend (aCons (eFrz 10) aNil) kNx)
  (seqS (mutS 6 gAppend (aCons (eCall gListOf (aCons (eVar 10) aNil)) aNil) kNx)
  (seqS (asgN 11 (ePmP 3 (e2 gMod (e2 gDiv (eVar 8) (eC (.int (4)))) (eC (.int (2)))) f_Log_minds))
  (seqS (mutS 11 gAppend (aCons (e2 gIx (eVar 11) (eC (.int (0)))) aNil) kNx)
  (mutS 11 gInsert (aCons (eC (.int (0))) (aCons (eTup (aCons (eTup (aCons (eC (.str [97])) aNil)) (aCons (eTup (aCons (eC (.int (0))) (aCons (eC (.int (7))) aNil))) aNil))) aNil)) kNx)))))))))
noncomputable def b_law_l2 (f__law_cell_at f__law_names_by f_Log___init__ f__law_do f__law_state : Fn) (f_Log_minds : Gn) : Es := (ifX (cmpX gNe (callPX 3 (eVar 7) aNil f__law_state) (callPX 4 (eVar 7) aNil f__law_state)) (retS (eC (.bl false))) skipS)
noncomputable def b_law (f__law_cell_at f__law_names_by f_Log___init__ f__law_do f__law_state : Fn) (f_Log_minds : Gn) : Es := (seqS (asgS (ftOne 1) (eFn f__law_cell_at (aCons (eFrz 0) (aCons (eC (.int (0))) aNil))))
  (seqS (asgN 2 (eLst (aCons (eFn f__law_names_by (aCons (eFrz 1) (aCons (e2 gAdd (eC (.int (1))) (e2 gMod (e2 gDiv (eVar 1) (eC (.int (3)))) (eC (.int (4))))) aNil))) (aCons (eFn f__law_names_by (aCons (e2 gDiv (eVar 1) (eC (.int (2)))) (aCons (e2 gAdd (eC (.int (1))) (e2 gMod (e2 gDiv (eVar 1) (eC (.int (5)))) (eC (.int (4))))) aNil))) aNil))))
  (seqS (ifS (e2 gEq (e2 gMod (eVar 1) (eC (.int (2)))) (eC (.int (0)))) (setL 2 (eC (.int (1))) (e2 gIx (eVar 2) (eC (.int (0))))) skipS)
  (seqS (asgO 3 (eLst2 (eMk f_Log___init__ (aCons (e2 gIx (eVar 2) (eC (.int (0)))) aNil)) (eMk f_Log___init__ (aCons (e2 gIx (eVar 2) (eC (.int (1)))) aNil))))
  (seqS (asgO 4 (eLst2 (eMk f_Log___init__ (aCons (e2 gIx (eVar 2) (eC (.int (0)))) aNil)) (eMk f_Log___init__ (aCons (e2 gIx (eVar 2) (eC (.int (1)))) aNil))))
  (seqS (asgN 5 (eLst aNil))
  (seqS (asgN 6 (eLst aNil))
  (seqS (forS (iEn (eSl (eVar 0) oNone (oSome (eC (.int (63)))))) (ftTup [7, 8]) (b_law_l1 f__law_cell_at f__law_names_by f_Log___init__ f__law_do f__law_state f_Log_minds))
  (seqS (forS (iRg gRng1 (aCons (eC (.int (2))) aNil)) (ftOne 7) (b_law_l2 f__law_cell_at f__law_names_by f_Log___init__ f__law_do f__law_state f_Log_minds))
  (retS (eBl (e2 gEq (eVar 5) (eVar 6)))))))))))))
noncomputable def FS (g : Fns) : Fns where
  parts_of := bodyF 1 1 1 (b_parts_of)
  gather := bodyF 3 2 2 (b_gather g.parts_of g.gather)
  names_in := bodyF 2 1 1 (b_names_in g.gather)
  look_names := bodyF 3 2 2 (b_look_names g.names_in)
  full := bodyF 1 1 1 (b_full)
  column := bodyF 4 2 2 (b_column)
  table_within := bodyF 5 2 2 (b_table_within g.column g.full g.table_within)
  table := bodyF 2 2 2 (b_table g.look_names g.table_within)
  flat := bodyF 1 1 1 (b_flat)
  least_rank := bodyF 5 2 2 (b_least_rank)
  firmness := bodyF 4 2 2 (b_firmness g.full g.table g.least_rank)
  keeps := bodyF 2 2 2 (b_keeps)
  turned := bodyF 12 3 3 (b_turned g.table g.full g.least_rank g.keeps)
  given_up := bodyF 3 2 2 (b_given_up g.firmness g.turned)
  taken_on := bodyF 4 3 3 (b_taken_on g.table g.full g.turned)
  _law_cell_at := bodyF 2 2 2 (b_cell_at_86d1)
  _law_mixed := bodyF 2 2 2 (b_mixed_557a)
  _law_names_by := bodyF 8 2 2 (b_names_by_f422)
  _law_tree_by := bodyF 7 3 3 (b_tree_by_710f g._law_tree_by)
  _law_column := bodyF 4 2 2 (b_column_9b2c)
  _law_table := bodyF 5 2 2 (b_table_bf2e g._law_column g._law_table)
  _law_do := bodyF 6 4 4 (b_do_1ec3 g._law_mixed g.Log_back g.Log_again g._law_tree_by g._law_table g.Log_give g.Log_take g.Log_backs g.Log_agains)
  _law_state := bodyF 1 1 1 (b_state_5d27 g.Log_agains g.Log_backs g.Log_minds g.Log_mind)
  law := bodyF 12 1 1 (b_law g._law_cell_at g._law_names_by g.Log___init__ g._law_do g._law_state g.Log_minds)
  Log___init__ := bodyF 2 2 2 (b_Log___init__ g.flat)
  Log_mind := bodyP 1 1 (b_Log_mind)
  Log_minds := bodyP 1 1 (b_Log_minds)
  Log_backs := bodyP 1 1 (b_Log_backs)
  Log_agains := bodyP 1 1 (b_Log_agains)
  Log_lay := bodyF 2 2 2 (b_Log_lay)
  Log_take := bodyF 3 3 3 (b_Log_take g.taken_on g.Log_lay g.Log_mind)
  Log_give := bodyF 2 2 2 (b_Log_give g.given_up g.Log_lay g.Log_mind)
  Log_back := bodyF 1 1 1 (b_Log_back)
  Log_again := bodyF 1 1 1 (b_Log_again)
noncomputable def F : Nat → Fns
  | 0 => F0
  | n + 1 => FS (F n)
noncomputable abbrev LL0 (g : Fns) : Es := (b_law g._law_cell_at g._law_names_by g.Log___init__ g._law_do g._law_state g.Log_minds)
noncomputable abbrev LL1 (g : Fns) : Es := (b_law_l1 g._law_cell_at g._law_names_by g.Log___init__ g._law_do g._law_state g.Log_minds)
noncomputable abbrev LL2 (g : Fns) : Es := (b_law_l2 g._law_cell_at g._law_names_by g.Log___init__ g._law_do g._law_state g.Log_minds)
structure Txt (K : PySem.W.Frag) (mg : Str → Option Value) where
  d_parts_of : Fx K mg "parts_of" s_parts_of ["tree"]
  d_gather : Fx K mg "gather" s_gather ["tree", "met"]
  d_names_in : Fx K mg "names_in" s_names_in ["tree"]
  d_look_names : Fx K mg "look_names" s_look_names ["names", "tree"]
  d_full : Fx K mg "full" s_full ["names"]
  d_column : Fx K mg "column" s_column ["many", "place"]
  d_table_within : Fx K mg "table_within" s_table_within ["names", "tree"]
  d_table : Fx K mg "table" s_table ["names", "tree"]
  d_flat : Fx K mg "flat" s_flat ["names"]
  d_least_rank : Fx K mg "least_rank" s_least_rank ["ranks", "side"]
  d_firmness : Fx K mg "firmness" s_firmness ["mind", "tree"]
  d_keeps : Fx K mg "keeps" s_keeps ["truth", "world"]
  d_turned : Fx K mg "turned" s_turned ["mind", "tree", "lean"]
  d_given_up : Fx K mg "given_up" s_given_up ["mind", "tree"]
  d_taken_on : Fx K mg "taken_on" s_taken_on ["mind", "tree", "firm"]
  d__law_cell_at : Fx K mg "_law_cell_at" s__law_cell_at ["_law_script", "_law_k"]
  d__law_mixed : Fx K mg "_law_mixed" s__law_mixed ["_law_cell", "_law_k"]
  d__law_names_by : Fx K mg "_law_names_by" s__law_names_by ["_law_cell", "_law_many"]
  d__law_tree_by : Fx K mg "_law_tree_by" s__law_tree_by ["_law_names", "_law_cell", "_law_deep"]
  d__law_column : Fx K mg "_law_column" s__law_column ["_law_many", "_law_place"]
  d__law_table : Fx K mg "_law_table" s__law_table ["_law_names", "_law_tree"]
  d__law_do : Fx K mg "_law_do" s__law_do ["_law_log", "_law_names", "_law_cell", "_law_k"]
  d__law_state : Fx K mg "_law_state" s__law_state ["_law_log"]
  d_law : Fx K mg "law" s_law ["_law_script"]
  d_Log___init__ : Mx K "__init__" s_Log___init__ ["self", "names"]
  d_Log_mind : Mx K "mind" s_Log_mind ["self"]
  d_Log_minds : Mx K "minds" s_Log_minds ["self"]
  d_Log_backs : Mx K "backs" s_Log_backs ["self"]
  d_Log_agains : Mx K "agains" s_Log_agains ["self"]
  d_Log_lay : Mx K "lay" s_Log_lay ["self", "mind"]
  d_Log_take : Mx K "take" s_Log_take ["self", "tree", "firm"]
  d_Log_give : Mx K "give" s_Log_give ["self", "tree"]
  d_Log_back : Mx K "back" s_Log_back ["self"]
  d_Log_again : Mx K "again" s_Log_again ["self"]
  z_enumerate : mg "enumerate" = none
  z_len : mg "len" = none
  z_list : mg "list" = none
  z_max : mg "max" = none
  z_range : mg "range" = none
  z_sorted : mg "sorted" = none
  z_tuple : mg "tuple" = none
  x_NoName : XHere K mg 3
  x_Always : XHere K mg 4
  x_Never : XHere K mg 5
  x_NoBack : XHere K mg 8
  x_NoAgain : XHere K mg 9
  r_NoName : XRaise K mg 3
  r_Always : XRaise K mg 4
  r_Never : XRaise K mg 5
  r_NoBack : XRaise K mg 8
  r_NoAgain : XRaise K mg 9
  lf : LogF K
  mgLog : mg "Log" = some (.ref (logC K))
  mkLog : Mk K (logC K) d_Log___init__.f
structure All (P : Program) (w : World) {K : PySem.W.Frag} {mg : Str → Option Value} (base : Heap) (T : Txt K mg) (cs : Nat → Addr) (k : Nat) (g : Fns) : Prop where
  parts_of : FnOk P w K mg base (L2.CX P w) k T.d_parts_of.f T.d_parts_of.fd ["tree"] (spG K cs 1 g.parts_of)
  gather : FnOk P w K mg base (L2.CX P w) k T.d_gather.f T.d_gather.fd ["tree", "met"] (spG K cs 2 g.gather)
  names_in : FnOk P w K mg base (L2.CX P w) k T.d_names_in.f T.d_names_in.fd ["tree"] (spG K cs 1 g.names_in)
  look_names : FnOk P w K mg base (L2.CX P w) k T.d_look_names.f T.d_look_names.fd ["names", "tree"] (spG K cs 2 g.look_names)
  full : FnOk P w K mg base (L2.CX P w) k T.d_full.f T.d_full.fd ["names"] (spG K cs 1 g.full)
  column : FnOk P w K mg base (L2.CX P w) k T.d_column.f T.d_column.fd ["many", "place"] (spG K cs 2 g.column)
  table_within : FnOk P w K mg base (L2.CX P w) k T.d_table_within.f T.d_table_within.fd ["names", "tree"] (spG K cs 2 g.table_within)
  table : FnOk P w K mg base (L2.CX P w) k T.d_table.f T.d_table.fd ["names", "tree"] (spG K cs 2 g.table)
  flat : FnOk P w K mg base (L2.CX P w) k T.d_flat.f T.d_flat.fd ["names"] (spG K cs 1 g.flat)
  least_rank : FnOk P w K mg base (L2.CX P w) k T.d_least_rank.f T.d_least_rank.fd ["ranks", "side"] (spG K cs 2 g.least_rank)
  firmness : FnOk P w K mg base (L2.CX P w) k T.d_firmness.f T.d_firmness.fd ["mind", "tree"] (spG K cs 2 g.firmness)
  keeps : FnOk P w K mg base (L2.CX P w) k T.d_keeps.f T.d_keeps.fd ["truth", "world"] (spG K cs 2 g.keeps)
  turned : FnOk P w K mg base (L2.CX P w) k T.d_turned.f T.d_turned.fd ["mind", "tree", "lean"] (spG K cs 3 g.turned)
  given_up : FnOk P w K mg base (L2.CX P w) k T.d_given_up.f T.d_given_up.fd ["mind", "tree"] (spG K cs 2 g.given_up)
  taken_on : FnOk P w K mg base (L2.CX P w) k T.d_taken_on.f T.d_taken_on.fd ["mind", "tree", "firm"] (spG K cs 3 g.taken_on)
  _law_cell_at : FnOk P w K mg base (L2.CX P w) k T.d__law_cell_at.f T.d__law_cell_at.fd ["_law_script", "_law_k"] (spG K cs 2 g._law_cell_at)
  _law_mixed : FnOk P w K mg base (L2.CX P w) k T.d__law_mixed.f T.d__law_mixed.fd ["_law_cell", "_law_k"] (spG K cs 2 g._law_mixed)
  _law_names_by : FnOk P w K mg base (L2.CX P w) k T.d__law_names_by.f T.d__law_names_by.fd ["_law_cell", "_law_many"] (spG K cs 2 g._law_names_by)
  _law_tree_by : FnOk P w K mg base (L2.CX P w) k T.d__law_tree_by.f T.d__law_tree_by.fd ["_law_names", "_law_cell", "_law_deep"] (spG K cs 3 g._law_tree_by)
  _law_column : FnOk P w K mg base (L2.CX P w) k T.d__law_column.f T.d__law_column.fd ["_law_many", "_law_place"] (spG K cs 2 g._law_column)
  _law_table : FnOk P w K mg base (L2.CX P w) k T.d__law_table.f T.d__law_table.fd ["_law_names", "_law_tree"] (spG K cs 2 g._law_table)
  _law_do : FnOk P w K mg base (L2.CX P w) k T.d__law_do.f T.d__law_do.fd ["_law_log", "_law_names", "_law_cell", "_law_k"] (spG K cs 4 g._law_do)
  _law_state : FnOk P w K mg base (L2.CX P w) k T.d__law_state.f T.d__law_state.fd ["_law_log"] (spG K cs 1 g._law_state)
  law : FnOk P w K mg base (L2.CX P w) k T.d_law.f T.d_law.fd ["_law_script"] (spG K cs 1 g.law)
  Log___init__ : FnOk P w K mg base (L2.CX P w) k T.d_Log___init__.f T.d_Log___init__.fd ["self", "names"] (spG K cs 2 g.Log___init__)
  Log_mind : FnOk P w K mg base (L2.CX P w) k T.d_Log_mind.f T.d_Log_mind.fd ["self"] (spPu K cs 1 g.Log_mind)
  Log_minds : FnOk P w K mg base (L2.CX P w) k T.d_Log_minds.f T.d_Log_minds.fd ["self"] (spPN K cs 1 g.Log_minds)
  Log_backs : FnOk P w K mg base (L2.CX P w) k T.d_Log_backs.f T.d_Log_backs.fd ["self"] (spPu K cs 1 g.Log_backs)
  Log_agains : FnOk P w K mg base (L2.CX P w) k T.d_Log_agains.f T.d_Log_agains.fd ["self"] (spPu K cs 1 g.Log_agains)
  Log_lay : FnOk P w K mg base (L2.CX P w) k T.d_Log_lay.f T.d_Log_lay.fd ["self", "mind"] (spG K cs 2 g.Log_lay)
  Log_take : FnOk P w K mg base (L2.CX P w) k T.d_Log_take.f T.d_Log_take.fd ["self", "tree", "firm"] (spG K cs 3 g.Log_take)
  Log_give : FnOk P w K mg base (L2.CX P w) k T.d_Log_give.f T.d_Log_give.fd ["self", "tree"] (spG K cs 2 g.Log_give)
  Log_back : FnOk P w K mg base (L2.CX P w) k T.d_Log_back.f T.d_Log_back.fd ["self"] (spG K cs 1 g.Log_back)
  Log_again : FnOk P w K mg base (L2.CX P w) k T.d_Log_again.f T.d_Log_again.fd ["self"] (spG K cs 1 g.Log_again)
section
variable {P : Program} {w : World} {K : PySem.W.Frag} {mg : Str → Option Value} {base : Heap} {T : Txt K mg} {k : Nat} {g : Fns}
theorem all0 : All P w base T (clsOf K) 0 F0 := ⟨okStuck (clsOf K), okStuck (clsOf K), okStuck (clsOf K), okStuck (clsOf K), okStuck (clsOf K), okStuck (clsOf K), okStuck (clsOf K), okStuck (clsOf K), okStuck (clsOf K), okStuck (clsOf K), okStuck (clsOf K), okStuck (clsOf K), okStuck (clsOf K), okStuck (clsOf K), okStuck (clsOf K), okStuck (clsOf K), okStuck (clsOf K), okStuck (clsOf K), okStuck (clsOf K), okStuck (clsOf K), okStuck (clsOf K), okStuck (clsOf K), okStuck (clsOf K), okStuck (clsOf K), okStuck (clsOf K), okStuckP (clsOf K), okStuckPN (clsOf K), okStuckP (clsOf K), okStuckP (clsOf K), okStuck (clsOf K), okStuck (clsOf K), okStuck (clsOf K), okStuck (clsOf K), okStuck (clsOf K)⟩
theorem ok_parts_of (A : All P w base T (clsOf K) k g) : FnOk P w K mg base (L2.CX P w) (k + 2) T.d_parts_of.f T.d_parts_of.fd ["tree"] (spG K (clsOf K) 1 (bodyF 1 1 1 (b_parts_of))) :=
  okF (k := k + 1) T.d_parts_of.fn sc_parts_of (clsOf K) 1 (b_parts_of) fun cdv A0 outer s H E hr1 => by
  have hr : Room k (cxOf (L2.CX P w) P w K mg base N_parts_of "parts_of" (defScope s_parts_of) T.d_parts_of.f cdv A0 outer s H E).A := hr1.mono (by omega)
  have tk : Takes (cxOf (L2.CX P w) P w K mg base N_parts_of "parts_of" (defScope s_parts_of) T.d_parts_of.f cdv A0 outer s H E) (fun c d _ H => E c d H) := takes_of rfl rfl rfl rfl
  exact (ss_cons (ss_if (st_eq hr.units (SD.sv (sd_ix (sv_var 0) (SD.sv sd_int))) (SD.sv (sd_str (by decide +kernel)))) (ss_one (ss_ret (sd_lst sad_nil))) ss_nil)
  (ss_one (ss_ret (sd_listOf (by rfl) T.z_list (sa_cons (SD.sv (sd_sl (sv_var 0) (so_some (SD.sv sd_int)) so_none)) sa_nil)))))
theorem ok_gather (A : All P w base T (clsOf K) k g) : FnOk P w K mg base (L2.CX P w) (k + 2) T.d_gather.f T.d_gather.fd ["tree", "met"] (spG K (clsOf K) 2 (bodyF 3 2 2 (b_gather g.parts_of g.gather))) :=
  okF (k := k + 1) T.d_gather.fn sc_gather (clsOf K) 2 (b_gather g.parts_of g.gather) fun cdv A0 outer s H E hr1 => by
  have hr : Room k (cxOf (L2.CX P w) P w K mg base N_gather "gather" (defScope s_gather) T.d_gather.f cdv A0 outer s H E).A := hr1.mono (by omega)
  have tk : Takes (cxOf (L2.CX P w) P w K mg base N_gather "gather" (defScope s_gather) T.d_gather.f cdv A0 outer s H E) (fun c d _ H => E c d H) := takes_of rfl rfl rfl rfl
  exact (ss_cons (ss_if (st_eq hr.units (SD.sv (sd_ix (sv_var 0) (SD.sv sd_int))) (SD.sv (sd_str (by decide +kernel)))) (ss_one (ss_setD (hu_of hr) 1 sd_bl (SD.sv (sd_ix (sv_var 0) (SD.sv sd_int))))) ss_nil)
  (ss_one (ss_for (passes_of rfl) rfl (sif_seq (sd_call A.parts_of hr (by rfl) T.d_parts_of.mg T.d_parts_of.fn.kp T.d_parts_of.bd tk (sad_cons (sd_var 0) sad_nil) (aCons_len aNil_len))) (tg_name 2 sc_gather.nd) (ftOne_ge (by decide)) (ss_one (ss_callE A.gather hr (by rfl) T.d_gather.mg T.d_gather.fn.kp T.d_gather.bd tk (sb_fz (sd_var 2) (sb_bw 1 sb_nil)) rfl (show ([1] : List Nat).Nodup by decide))))))
theorem ok_names_in (A : All P w base T (clsOf K) k g) : FnOk P w K mg base (L2.CX P w) (k + 2) T.d_names_in.f T.d_names_in.fd ["tree"] (spG K (clsOf K) 1 (bodyF 2 1 1 (b_names_in g.gather))) :=
  okF (k := k + 1) T.d_names_in.fn sc_names_in (clsOf K) 1 (b_names_in g.gather) fun cdv A0 outer s H E hr1 => by
  have hr : Room k (cxOf (L2.CX P w) P w K mg base N_names_in "names_in" (defScope s_names_in) T.d_names_in.f cdv A0 outer s H E).A := hr1.mono (by omega)
  have tk : Takes (cxOf (L2.CX P w) P w K mg base N_names_in "names_in" (defScope s_names_in) T.d_names_in.f cdv A0 outer s H E) (fun c d _ H => E c d H) := takes_of rfl rfl rfl rfl
  exact (ss_cons (ss_asgN (i := 1) (by decide) sc_names_in.nd sn_dic0)
  (ss_cons (ss_callE A.gather hr (by rfl) T.d_gather.mg T.d_gather.fn.kp T.d_gather.bd tk (sb_fz (sd_var 0) (sb_bw 1 sb_nil)) rfl (show ([1] : List Nat).Nodup by decide))
  (ss_one (ss_ret (SN.sd (sn_sorted (by rfl) T.z_sorted (sa_cons (SD.sv (SN.sd (sn_listA (by rfl) (by rfl) T.z_list (sa_cons (sv_var 1) sa_nil)))) sa_nil)))))))
theorem ok_look_names (A : All P w base T (clsOf K) k g) : FnOk P w K mg base (L2.CX P w) (k + 2) T.d_look_names.f T.d_look_names.fd ["names", "tree"] (spG K (clsOf K) 2 (bodyF 3 2 2 (b_look_names g.names_in))) :=
  okF (k := k + 1) T.d_look_names.fn sc_look_names (clsOf K) 2 (b_look_names g.names_in) fun cdv A0 outer s H E hr1 => by
  have hr : Room k (cxOf (L2.CX P w) P w K mg base N_look_names "look_names" (defScope s_look_names) T.d_look_names.f cdv A0 outer s H E).A := hr1.mono (by omega)
  have tk : Takes (cxOf (L2.CX P w) P w K mg base N_look_names "look_names" (defScope s_look_names) T.d_look_names.f cdv A0 outer s H E) (fun c d _ H => E c d H) := takes_of rfl rfl rfl rfl
  exact (ss_one (ss_for (passes_of rfl) rfl (sif_seq (sd_call A.names_in hr (by rfl) T.d_names_in.mg T.d_names_in.fn.kp T.d_names_in.bd tk (sad_cons (sd_var 1) sad_nil) (aCons_len aNil_len))) (tg_name 2 sc_look_names.nd) (ftOne_ge (by decide)) (ss_one (ss_if (st_ni (hu_of hr) (sv_var 2) (sv_var 0)) (ss_one (ss_raise 3 rfl rfl tk T.r_NoName (by rfl))) ss_nil))))
theorem ok_full (A : All P w base T (clsOf K) k g) : FnOk P w K mg base (L2.CX P w) (k + 2) T.d_full.f T.d_full.fd ["names"] (spG K (clsOf K) 1 (bodyF 1 1 1 (b_full))) :=
  okF (k := k + 1) T.d_full.fn sc_full (clsOf K) 1 (b_full) fun cdv A0 outer s H E hr1 => by
  have hr : Room k (cxOf (L2.CX P w) P w K mg base N_full "full" (defScope s_full) T.d_full.f cdv A0 outer s H E).A := hr1.mono (by omega)
  have tk : Takes (cxOf (L2.CX P w) P w K mg base N_full "full" (defScope s_full) T.d_full.f cdv A0 outer s H E) (fun c d _ H => E c d H) := takes_of rfl rfl rfl rfl
  exact (ss_one (ss_ret (sd_sub (SD.sv (sd_shl (SD.sv sd_int) (SD.sv (sd_shl (SD.sv sd_int) (SD.sv (sd_len (by rfl) T.z_len (sa_cons (sv_var 0) sa_nil))))))) (SD.sv sd_int))))
theorem ok_column (A : All P w base T (clsOf K) k g) : FnOk P w K mg base (L2.CX P w) (k + 2) T.d_column.f T.d_column.fd ["many", "place"] (spG K (clsOf K) 2 (bodyF 4 2 2 (b_column))) :=
  okF (k := k + 1) T.d_column.fn sc_column (clsOf K) 2 (b_column) fun cdv A0 outer s H E hr1 => by
  have hr : Room k (cxOf (L2.CX P w) P w K mg base N_column "column" (defScope s_column) T.d_column.f cdv A0 outer s H E).A := hr1.mono (by omega)
  have tk : Takes (cxOf (L2.CX P w) P w K mg base N_column "column" (defScope s_column) T.d_column.f cdv A0 outer s H E) (fun c d _ H => E c d H) := takes_of rfl rfl rfl rfl
  exact (ss_cons (ss_asg (sd_shl (SD.sv sd_int) (sv_var 1)) (tg_name 2 sc_column.nd) (ftOne_ge (by decide)) (ftOne_nx _))
  (ss_cons (ss_asg (sd_shl (SD.sv (sd_sub (SD.sv (sd_shl (SD.sv sd_int) (sv_var 2))) (SD.sv sd_int))) (sv_var 2)) (tg_name 3 sc_column.nd) (ftOne_ge (by decide)) (ftOne_nx _))
  (ss_cons (ss_asg (sd_mul (SD.sv sd_int) (sv_var 2)) (tg_name 2 sc_column.nd) (ftOne_ge (by decide)) (ftOne_nx _))
  (ss_cons (ss_while 1000000 (passes_of rfl) (st_lt (sv_var 2) (SD.sv (sd_shl (SD.sv sd_int) (sv_var 0)))) (ss_cons (ss_augOr 3 (by decide) sc_column.nd (SD.sv (sd_shl (sv_var 3) (sv_var 2))))
  (ss_one (ss_asg (sd_mul (SD.sv sd_int) (sv_var 2)) (tg_name 2 sc_column.nd) (ftOne_ge (by decide)) (ftOne_nx _)))))
  (ss_one (ss_ret (sd_var 3)))))))
theorem ok_table_within (A : All P w base T (clsOf K) k g) : FnOk P w K mg base (L2.CX P w) (k + 2) T.d_table_within.f T.d_table_within.fd ["names", "tree"] (spG K (clsOf K) 2 (bodyF 5 2 2 (b_table_within g.column g.full g.table_within))) :=
  okF (k := k + 1) T.d_table_within.fn sc_table_within (clsOf K) 2 (b_table_within g.column g.full g.table_within) fun cdv A0 outer s H E hr1 => by
  have hr : Room k (cxOf (L2.CX P w) P w K mg base N_table_within "table_within" (defScope s_table_within) T.d_table_within.f cdv A0 outer s H E).A := hr1.mono (by omega)
  have tk : Takes (cxOf (L2.CX P w) P w K mg base N_table_within "table_within" (defScope s_table_within) T.d_table_within.f cdv A0 outer s H E) (fun c d _ H => E c d H) := takes_of rfl rfl rfl rfl
  exact (ss_cons (ss_asg (sd_ix (sv_var 1) (SD.sv sd_int)) (tg_name 2 sc_table_within.nd) (ftOne_ge (by decide)) (ftOne_nx _))
  (ss_cons (ss_if (st_eq hr.units (sv_var 2) (SD.sv (sd_str (by decide +kernel)))) (ss_one (ss_ret (sd_call A.column hr (by rfl) T.d_column.mg T.d_column.fn.kp T.d_column.bd tk (sad_cons (sd_len (by rfl) T.z_len (sa_cons (sv_var 0) sa_nil)) (sad_cons (sd_index (sv_var 0) (SD.sv (sd_ix (sv_var 1) (SD.sv sd_int)))) sad_nil)) (aCons_len (aCons_len aNil_len))))) ss_nil)
  (ss_cons (ss_if (SW.st (sw_or (st_eq hr.units (sv_var 2) (SD.sv (sd_str (by decide +kernel)))) (sw_or1 (st_eq hr.units (sv_var 2) (SD.sv (sd_str (by decide +kernel))))))) (ss_one (ss_ret (sd_if (st_eq hr.units (sv_var 2) (SD.sv (sd_str (by decide +kernel)))) (sd_call A.full hr (by rfl) T.d_full.mg T.d_full.fn.kp T.d_full.bd tk (sad_cons (sd_var 0) sad_nil) (aCons_len aNil_len)) sd_int))) ss_nil)
  (ss_cons (ss_asg (sd_call A.table_within hr (by rfl) T.d_table_within.mg T.d_table_within.fn.kp T.d_table_within.bd tk (sad_cons (sd_var 0) (sad_cons (sd_ix (sv_var 1) (SD.sv sd_int)) sad_nil)) (aCons_len (aCons_len aNil_len))) (tg_name 3 sc_table_within.nd) (ftOne_ge (by decide)) (ftOne_nx _))
  (ss_cons (ss_if (st_eq hr.units (sv_var 2) (SD.sv (sd_str (by decide +kernel)))) (ss_one (ss_ret (sd_xor (SD.sv (sd_call A.full hr (by rfl) T.d_full.mg T.d_full.fn.kp T.d_full.bd tk (sad_cons (sd_var 0) sad_nil) (aCons_len aNil_len))) (sv_var 3)))) ss_nil)
  (ss_cons (ss_asg (sd_call A.table_within hr (by rfl) T.d_table_within.mg T.d_table_within.fn.kp T.d_table_within.bd tk (sad_cons (sd_var 0) (sad_cons (sd_ix (sv_var 1) (SD.sv sd_int)) sad_nil)) (aCons_len (aCons_len aNil_len))) (tg_name 4 sc_table_within.nd) (ftOne_ge (by decide)) (ftOne_nx _))
  (ss_cons (ss_if (st_eq hr.units (sv_var 2) (SD.sv (sd_str (by decide +kernel)))) (ss_one (ss_ret (sd_and (sv_var 3) (sv_var 4)))) ss_nil)
  (ss_cons (ss_if (st_eq hr.units (sv_var 2) (SD.sv (sd_str (by decide +kernel)))) (ss_one (ss_ret (sd_or (sv_var 3) (sv_var 4)))) ss_nil)
  (ss_cons (ss_if (st_eq hr.units (sv_var 2) (SD.sv (sd_str (by decide +kernel)))) (ss_one (ss_ret (sd_or (SD.sv (sd_xor (SD.sv (sd_call A.full hr (by rfl) T.d_full.mg T.d_full.fn.kp T.d_full.bd tk (sad_cons (sd_var 0) sad_nil) (aCons_len aNil_len))) (sv_var 3))) (sv_var 4)))) ss_nil)
  (ss_one (ss_ret (sd_xor (SD.sv (sd_xor (SD.sv (sd_call A.full hr (by rfl) T.d_full.mg T.d_full.fn.kp T.d_full.bd tk (sad_cons (sd_var 0) sad_nil) (aCons_len aNil_len))) (sv_var 3))) (sv_var 4)))))))))))))
theorem ok_table (A : All P w base T (clsOf K) k g) : FnOk P w K mg base (L2.CX P w) (k + 2) T.d_table.f T.d_table.fd ["names", "tree"] (spG K (clsOf K) 2 (bodyF 2 2 2 (b_table g.look_names g.table_within))) :=
  okF (k := k + 1) T.d_table.fn sc_table (clsOf K) 2 (b_table g.look_names g.table_within) fun cdv A0 outer s H E hr1 => by
  have hr : Room k (cxOf (L2.CX P w) P w K mg base N_table "table" (defScope s_table) T.d_table.f cdv A0 outer s H E).A := hr1.mono (by omega)
  have tk : Takes (cxOf (L2.CX P w) P w K mg base N_table "table" (defScope s_table) T.d_table.f cdv A0 outer s H E) (fun c d _ H => E c d H) := takes_of rfl rfl rfl rfl
  exact (ss_cons (ss_exp (SD.sv (sd_call A.look_names hr (by rfl) T.d_look_names.mg T.d_look_names.fn.kp T.d_look_names.bd tk (sad_cons (sd_var 0) (sad_cons (sd_var 1) sad_nil)) (aCons_len (aCons_len aNil_len)))))
  (ss_one (ss_ret (sd_call A.table_within hr (by rfl) T.d_table_within.mg T.d_table_within.fn.kp T.d_table_within.bd tk (sad_cons (sd_var 0) (sad_cons (sd_var 1) sad_nil)) (aCons_len (aCons_len aNil_len))))))
theorem ok_flat (A : All P w base T (clsOf K) k g) : FnOk P w K mg base (L2.CX P w) (k + 2) T.d_flat.f T.d_flat.fd ["names"] (spG K (clsOf K) 1 (bodyF 1 1 1 (b_flat))) :=
  okF (k := k + 1) T.d_flat.fn sc_flat (clsOf K) 1 (b_flat) fun cdv A0 outer s H E hr1 => by
  have hr : Room k (cxOf (L2.CX P w) P w K mg base N_flat "flat" (defScope s_flat) T.d_flat.f cdv A0 outer s H E).A := hr1.mono (by omega)
  have tk : Takes (cxOf (L2.CX P w) P w K mg base N_flat "flat" (defScope s_flat) T.d_flat.f cdv A0 outer s H E) (fun c d _ H => E c d H) := takes_of rfl rfl rfl rfl
  exact (ss_one (ss_ret (sd_tup (sad_cons (sd_tupleOf (by rfl) T.z_tuple (sa_cons (sv_var 0) sa_nil)) (sad_cons (sd_tupleOf (by rfl) T.z_tuple (sa_cons (SD.sv (SN.sd (sn_rep (SD.sv (sd_lst (sad_cons sd_int sad_nil))) (SD.sv (sd_shl (SD.sv sd_int) (SD.sv (sd_len (by rfl) T.z_len (sa_cons (sv_var 0) sa_nil)))))))) sa_nil)) sad_nil)))))
theorem ok_least_rank (A : All P w base T (clsOf K) k g) : FnOk P w K mg base (L2.CX P w) (k + 2) T.d_least_rank.f T.d_least_rank.fd ["ranks", "side"] (spG K (clsOf K) 2 (bodyF 5 2 2 (b_least_rank))) :=
  okF (k := k + 1) T.d_least_rank.fn sc_least_rank (clsOf K) 2 (b_least_rank) fun cdv A0 outer s H E hr1 => by
  have hr : Room k (cxOf (L2.CX P w) P w K mg base N_least_rank "least_rank" (defScope s_least_rank) T.d_least_rank.f cdv A0 outer s H E).A := hr1.mono (by omega)
  have tk : Takes (cxOf (L2.CX P w) P w K mg base N_least_rank "least_rank" (defScope s_least_rank) T.d_least_rank.f cdv A0 outer s H E) (fun c d _ H => E c d H) := takes_of rfl rfl rfl rfl
  exact (ss_cons (ss_asg sd_non (tg_name 2 sc_least_rank.nd) (ftOne_ge (by decide)) (ftOne_nx _))
  (ss_cons (ss_for (passes_of rfl) rfl (sif_en (by rfl) T.z_enumerate (sd_var 0)) (tg_tup rfl (tgs_cons 3 sc_least_rank.nd (tgs_cons 4 sc_least_rank.nd tgs_nil))) (ftTup_ge (by decide)) (ss_one (ss_if (SW.st (sw_and (st_eq hr.units (SD.sv (sd_and (SD.sv (sd_shr (sv_var 1) (sv_var 3))) (SD.sv sd_int))) (SD.sv sd_int)) (sw_and1 (SW.st (sw_or (st_isN (sv_var 2)) (sw_or1 (st_lt (sv_var 4) (sv_var 2)))))))) (ss_one (ss_asg (sd_var 4) (tg_name 2 sc_least_rank.nd) (ftOne_ge (by decide)) (ftOne_nx _))) ss_nil)))
  (ss_one (ss_ret (sd_var 2)))))
theorem ok_firmness (A : All P w base T (clsOf K) k g) : FnOk P w K mg base (L2.CX P w) (k + 2) T.d_firmness.f T.d_firmness.fd ["mind", "tree"] (spG K (clsOf K) 2 (bodyF 4 2 2 (b_firmness g.full g.table g.least_rank))) :=
  okF (k := k + 1) T.d_firmness.fn sc_firmness (clsOf K) 2 (b_firmness g.full g.table g.least_rank) fun cdv A0 outer s H E hr1 => by
  have hr : Room k (cxOf (L2.CX P w) P w K mg base N_firmness "firmness" (defScope s_firmness) T.d_firmness.f cdv A0 outer s H E).A := hr1.mono (by omega)
  have tk : Takes (cxOf (L2.CX P w) P w K mg base N_firmness "firmness" (defScope s_firmness) T.d_firmness.f cdv A0 outer s H E) (fun c d _ H => E c d H) := takes_of rfl rfl rfl rfl
  exact (ss_cons (ss_asg (sd_var 0) (tg_tup rfl (tgs_cons 2 sc_firmness.nd (tgs_cons 3 sc_firmness.nd tgs_nil))) (ftTup_ge (by decide)) (ftTup_nx _))
  (ss_one (ss_ret (sd_call A.least_rank hr (by rfl) T.d_least_rank.mg T.d_least_rank.fn.kp T.d_least_rank.bd tk (sad_cons (sd_var 3) (sad_cons (sd_xor (SD.sv (sd_call A.full hr (by rfl) T.d_full.mg T.d_full.fn.kp T.d_full.bd tk (sad_cons (sd_var 2) sad_nil) (aCons_len aNil_len))) (SD.sv (sd_call A.table hr (by rfl) T.d_table.mg T.d_table.fn.kp T.d_table.bd tk (sad_cons (sd_var 2) (sad_cons (sd_var 1) sad_nil)) (aCons_len (aCons_len aNil_len))))) sad_nil)) (aCons_len (aCons_len aNil_len))))))
theorem ok_keeps (A : All P w base T (clsOf K) k g) : FnOk P w K mg base (L2.CX P w) (k + 2) T.d_keeps.f T.d_keeps.fd ["truth", "world"] (spG K (clsOf K) 2 (bodyF 2 2 2 (b_keeps))) :=
  okF (k := k + 1) T.d_keeps.fn sc_keeps (clsOf K) 2 (b_keeps) fun cdv A0 outer s H E hr1 => by
  have hr : Room k (cxOf (L2.CX P w) P w K mg base N_keeps "keeps" (defScope s_keeps) T.d_keeps.f cdv A0 outer s H E).A := hr1.mono (by omega)
  have tk : Takes (cxOf (L2.CX P w) P w K mg base N_keeps "keeps" (defScope s_keeps) T.d_keeps.f cdv A0 outer s H E) (fun c d _ H => E c d H) := takes_of rfl rfl rfl rfl
  exact (ss_one (ss_ret (sd_eq hr.units (SD.sv (sd_and (SD.sv (sd_shr (sv_var 0) (sv_var 1))) (SD.sv sd_int))) (SD.sv sd_int))))
theorem ok_turned (A : All P w base T (clsOf K) k g) : FnOk P w K mg base (L2.CX P w) (k + 2) T.d_turned.f T.d_turned.fd ["mind", "tree", "lean"] (spG K (clsOf K) 3 (bodyF 12 3 3 (b_turned g.table g.full g.least_rank g.keeps))) :=
  okF (k := k + 1) T.d_turned.fn sc_turned (clsOf K) 3 (b_turned g.table g.full g.least_rank g.keeps) fun cdv A0 outer s H E hr1 => by
  have hr : Room k (cxOf (L2.CX P w) P w K mg base N_turned "turned" (defScope s_turned) T.d_turned.f cdv A0 outer s H E).A := hr1.mono (by omega)
  have tk : Takes (cxOf (L2.CX P w) P w K mg base N_turned "turned" (defScope s_turned) T.d_turned.f cdv A0 outer s H E) (fun c d _ H => E c d H) := takes_of rfl rfl rfl rfl
  exact (ss_cons (ss_asg (sd_var 0) (tg_tup rfl (tgs_cons 3 sc_turned.nd (tgs_cons 4 sc_turned.nd tgs_nil))) (ftTup_ge (by decide)) (ftTup_nx _))
  (ss_cons (ss_asg (sd_call A.table hr (by rfl) T.d_table.mg T.d_table.fn.kp T.d_table.bd tk (sad_cons (sd_var 3) (sad_cons (sd_var 1) sad_nil)) (aCons_len (aCons_len aNil_len))) (tg_name 5 sc_turned.nd) (ftOne_ge (by decide)) (ftOne_nx _))
  (ss_cons (ss_asg (sd_call A.full hr (by rfl) T.d_full.mg T.d_full.fn.kp T.d_full.bd tk (sad_cons (sd_var 3) sad_nil) (aCons_len aNil_len)) (tg_name 6 sc_turned.nd) (ftOne_ge (by decide)) (ftOne_nx _))
  (ss_cons (ss_if (st_eq hr.units (sv_var 5) (sv_var 6)) (ss_one (ss_raise 4 rfl rfl tk T.r_Always (by rfl))) ss_nil)
  (ss_cons (ss_if (st_eq hr.units (sv_var 5) (SD.sv sd_int)) (ss_one (ss_raise 5 rfl rfl tk T.r_Never (by rfl))) ss_nil)
  (ss_cons (ss_asg (sd_sub (SD.sv (sd_max2 rfl (by rfl) T.z_max (sa_cons (SD.sv sd_int) (sa_cons (SD.sv (sd_neg (sv_var 2))) sa_nil)))) (SD.sv (sd_call A.least_rank hr (by rfl) T.d_least_rank.mg T.d_least_rank.fn.kp T.d_least_rank.bd tk (sad_cons (sd_var 4) (sad_cons (sd_var 5) sad_nil)) (aCons_len (aCons_len aNil_len))))) (tg_name 7 sc_turned.nd) (ftOne_ge (by decide)) (ftOne_nx _))
  (ss_cons (ss_asg (sd_sub (SD.sv (sd_max2 rfl (by rfl) T.z_max (sa_cons (SD.sv sd_int) (sa_cons (sv_var 2) sa_nil)))) (SD.sv (sd_call A.least_rank hr (by rfl) T.d_least_rank.mg T.d_least_rank.fn.kp T.d_least_rank.bd tk (sad_cons (sd_var 4) (sad_cons (sd_xor (sv_var 6) (sv_var 5)) sad_nil)) (aCons_len (aCons_len aNil_len))))) (tg_name 8 sc_turned.nd) (ftOne_ge (by decide)) (ftOne_nx _))
  (ss_cons (ss_asgN (i := 9) (by decide) sc_turned.nd (sn_lst sad_nil))
  (ss_cons (ss_for (passes_of rfl) rfl (sif_en (by rfl) T.z_enumerate (sd_var 4)) (tg_tup rfl (tgs_cons 10 sc_turned.nd (tgs_cons 11 sc_turned.nd tgs_nil))) (ftTup_ge (by decide)) (ss_one (ss_if (st_val (sd_call A.keeps hr (by rfl) T.d_keeps.mg T.d_keeps.fn.kp T.d_keeps.bd tk (sad_cons (sd_var 5) (sad_cons (sd_var 10) sad_nil)) (aCons_len (aCons_len aNil_len)))) (ss_one (ss_mut1 9 mu_append PySem.F.slot_list_append PySem.F.type_list_append mt_append (sad_cons (sd_add (sv_var 11) (sv_var 7)) sad_nil))) (ss_one (ss_mut1 9 mu_append PySem.F.slot_list_append PySem.F.type_list_append mt_append (sad_cons (sd_add (sv_var 11) (sv_var 8)) sad_nil))))))
  (ss_one (ss_ret (sd_tup (sad_cons (sd_var 3) (sad_cons (sd_tupleOf (by rfl) T.z_tuple (sa_cons (sv_var 9) sa_nil)) sad_nil))))))))))))))
theorem ok_given_up (A : All P w base T (clsOf K) k g) : FnOk P w K mg base (L2.CX P w) (k + 2) T.d_given_up.f T.d_given_up.fd ["mind", "tree"] (spG K (clsOf K) 2 (bodyF 3 2 2 (b_given_up g.firmness g.turned))) :=
  okF (k := k + 1) T.d_given_up.fn sc_given_up (clsOf K) 2 (b_given_up g.firmness g.turned) fun cdv A0 outer s H E hr1 => by
  have hr : Room k (cxOf (L2.CX P w) P w K mg base N_given_up "given_up" (defScope s_given_up) T.d_given_up.f cdv A0 outer s H E).A := hr1.mono (by omega)
  have tk : Takes (cxOf (L2.CX P w) P w K mg base N_given_up "given_up" (defScope s_given_up) T.d_given_up.f cdv A0 outer s H E) (fun c d _ H => E c d H) := takes_of rfl rfl rfl rfl
  exact (ss_cons (ss_asg (sd_call A.firmness hr (by rfl) T.d_firmness.mg T.d_firmness.fn.kp T.d_firmness.bd tk (sad_cons (sd_var 0) (sad_cons (sd_var 1) sad_nil)) (aCons_len (aCons_len aNil_len))) (tg_name 2 sc_given_up.nd) (ftOne_ge (by decide)) (ftOne_nx _))
  (ss_cons (ss_if (st_isN (sv_var 2)) (ss_one (ss_raise 4 rfl rfl tk T.r_Always (by rfl))) ss_nil)
  (ss_cons (ss_if (st_eq hr.units (sv_var 2) (SD.sv sd_int)) (ss_one (ss_ret (sd_var 0))) ss_nil)
  (ss_one (ss_ret (sd_call A.turned hr (by rfl) T.d_turned.mg T.d_turned.fn.kp T.d_turned.bd tk (sad_cons (sd_var 0) (sad_cons (sd_var 1) (sad_cons sd_int sad_nil))) (aCons_len (aCons_len (aCons_len aNil_len)))))))))
theorem ok_taken_on (A : All P w base T (clsOf K) k g) : FnOk P w K mg base (L2.CX P w) (k + 2) T.d_taken_on.f T.d_taken_on.fd ["mind", "tree", "firm"] (spG K (clsOf K) 3 (bodyF 4 3 3 (b_taken_on g.table g.full g.turned))) :=
  okF (k := k + 1) T.d_taken_on.fn sc_taken_on (clsOf K) 3 (b_taken_on g.table g.full g.turned) fun cdv A0 outer s H E hr1 => by
  have hr : Room k (cxOf (L2.CX P w) P w K mg base N_taken_on "taken_on" (defScope s_taken_on) T.d_taken_on.f cdv A0 outer s H E).A := hr1.mono (by omega)
  have tk : Takes (cxOf (L2.CX P w) P w K mg base N_taken_on "taken_on" (defScope s_taken_on) T.d_taken_on.f cdv A0 outer s H E) (fun c d _ H => E c d H) := takes_of rfl rfl rfl rfl
  exact (ss_cons (ss_asg (sd_ix (sv_var 0) (SD.sv sd_int)) (tg_name 3 sc_taken_on.nd) (ftOne_ge (by decide)) (ftOne_nx _))
  (ss_cons (ss_if (st_eq hr.units (SD.sv (sd_call A.table hr (by rfl) T.d_table.mg T.d_table.fn.kp T.d_table.bd tk (sad_cons (sd_var 3) (sad_cons (sd_var 1) sad_nil)) (aCons_len (aCons_len aNil_len)))) (SD.sv (sd_call A.full hr (by rfl) T.d_full.mg T.d_full.fn.kp T.d_full.bd tk (sad_cons (sd_var 3) sad_nil) (aCons_len aNil_len)))) (ss_one (ss_ret (sd_var 0))) ss_nil)
  (ss_one (ss_ret (sd_call A.turned hr (by rfl) T.d_turned.mg T.d_turned.fn.kp T.d_turned.bd tk (sad_cons (sd_var 0) (sad_cons (sd_var 1) (sad_cons (sd_var 2) sad_nil))) (aCons_len (aCons_len (aCons_len aNil_len))))))))
theorem ok__law_cell_at (A : All P w base T (clsOf K) k g) : FnOk P w K mg base (L2.CX P w) (k + 2) T.d__law_cell_at.f T.d__law_cell_at.fd ["_law_script", "_law_k"] (spG K (clsOf K) 2 (bodyF 2 2 2 (b_cell_at_86d1))) :=
  okF (k := k + 1) T.d__law_cell_at.fn sc__law_cell_at (clsOf K) 2 (b_cell_at_86d1) fun cdv A0 outer s H E hr1 => by
  have hr : Room k (cxOf (L2.CX P w) P w K mg base N__law_cell_at "_law_cell_at" (defScope s__law_cell_at) T.d__law_cell_at.f cdv A0 outer s H E).A := hr1.mono (by omega)
  have tk : Takes (cxOf (L2.CX P w) P w K mg base N__law_cell_at "_law_cell_at" (defScope s__law_cell_at) T.d__law_cell_at.f cdv A0 outer s H E) (fun c d _ H => E c d H) := takes_of rfl rfl rfl rfl
  exact (ss_cons (ss_if (st_lt (sv_var 1) (SD.sv (sd_len (by rfl) T.z_len (sa_cons (sv_var 0) sa_nil)))) (ss_one (ss_ret (sd_ix (sv_var 0) (sv_var 1)))) ss_nil)
  (ss_one (ss_ret sd_int)))
theorem ok__law_mixed (A : All P w base T (clsOf K) k g) : FnOk P w K mg base (L2.CX P w) (k + 2) T.d__law_mixed.f T.d__law_mixed.fd ["_law_cell", "_law_k"] (spG K (clsOf K) 2 (bodyF 2 2 2 (b_mixed_557a))) :=
  okF (k := k + 1) T.d__law_mixed.fn sc__law_mixed (clsOf K) 2 (b_mixed_557a) fun cdv A0 outer s H E hr1 => by
  have hr : Room k (cxOf (L2.CX P w) P w K mg base N__law_mixed "_law_mixed" (defScope s__law_mixed) T.d__law_mixed.f cdv A0 outer s H E).A := hr1.mono (by omega)
  have tk : Takes (cxOf (L2.CX P w) P w K mg base N__law_mixed "_law_mixed" (defScope s__law_mixed) T.d__law_mixed.f cdv A0 outer s H E) (fun c d _ H => E c d H) := takes_of rfl rfl rfl rfl
  exact (ss_one (ss_ret (sd_mod (SD.sv (sd_mul (SD.sv (sd_mul (SD.sv (sd_add (SD.sv (sd_mod (sv_var 0) (SD.sv sd_int))) (SD.sv sd_int))) (SD.sv (sd_add (SD.sv (sd_mul (sv_var 1) (sv_var 1))) (SD.sv sd_int))))) (SD.sv sd_int))) (SD.sv sd_int))))
theorem ok__law_names_by (A : All P w base T (clsOf K) k g) : FnOk P w K mg base (L2.CX P w) (k + 2) T.d__law_names_by.f T.d__law_names_by.fd ["_law_cell", "_law_many"] (spG K (clsOf K) 2 (bodyF 8 2 2 (b_names_by_f422))) :=
  okF (k := k + 1) T.d__law_names_by.fn sc__law_names_by (clsOf K) 2 (b_names_by_f422) fun cdv A0 outer s H E hr1 => by
  have hr : Room k (cxOf (L2.CX P w) P w K mg base N__law_names_by "_law_names_by" (defScope s__law_names_by) T.d__law_names_by.f cdv A0 outer s H E).A := hr1.mono (by omega)
  have tk : Takes (cxOf (L2.CX P w) P w K mg base N__law_names_by "_law_names_by" (defScope s__law_names_by) T.d__law_names_by.f cdv A0 outer s H E) (fun c d _ H => E c d H) := takes_of rfl rfl rfl rfl
  exact (ss_cons (ss_asg (sd_str (by decide +kernel)) (tg_name 2 sc__law_names_by.nd) (ftOne_ge (by decide)) (ftOne_nx _))
  (ss_cons (ss_asg (sd_mod (SD.sv (sd_div (sv_var 0) (SD.sv sd_int))) (SD.sv sd_int)) (tg_name 3 sc__law_names_by.nd) (ftOne_ge (by decide)) (ftOne_nx _))
  (ss_cons (ss_if (st_eq hr.units (SD.sv (sd_mod (sv_var 0) (SD.sv sd_int))) (SD.sv sd_int)) (ss_one (ss_ret (sd_tupleOf (by rfl) T.z_tuple (sa_cons (SD.sv (SN.sd (sn_lc [("_law_k", 7)] rfl rfl sc__law_names_by.nd (SIF.e (sif_range1 (by rfl) T.z_range (sa_cons (sv_var 1) sa_nil))) (blkOk_by (N := N__law_names_by) (sc := defScope s__law_names_by) (by decide +kernel)) (ftOne_in (by decide)) (fun _ _ _ _ _ => (tg_name 7 sc__law_names_by.nd)) (fun _ _ _ _ _ => sts_nil) (fun _ _ _ _ _ => (sd_ix (sv_var 2) (SD.sv (sd_mod (SD.sv (sd_add (sv_var 3) (SD.sv (sd_mul (SD.sv sd_int) (sv_var 7))))) (SD.sv sd_int)))))))) sa_nil)))) ss_nil)
  (ss_cons (ss_if (st_eq hr.units (SD.sv (sd_mod (sv_var 0) (SD.sv sd_int))) (SD.sv sd_int)) (ss_one (ss_ret (sd_tupleOf (by rfl) T.z_tuple (sa_cons (SD.sv (SN.sd (sn_lc [("_law_k", 7)] rfl rfl sc__law_names_by.nd (SIF.e (sif_range1 (by rfl) T.z_range (sa_cons (sv_var 1) sa_nil))) (blkOk_by (N := N__law_names_by) (sc := defScope s__law_names_by) (by decide +kernel)) (ftOne_in (by decide)) (fun _ _ _ _ _ => (tg_name 7 sc__law_names_by.nd)) (fun _ _ _ _ _ => sts_nil) (fun _ _ _ _ _ => (sd_mul (SD.sv (sd_ix (sv_var 2) (sv_var 3))) (SD.sv (sd_sub (sv_var 1) (sv_var 7)))))))) sa_nil)))) ss_nil)
  (ss_cons (ss_asg (sd_add (SD.sv sd_int) (SD.sv (sd_mod (SD.sv (sd_div (sv_var 0) (SD.sv sd_int))) (SD.sv sd_int)))) (tg_name 4 sc__law_names_by.nd) (ftOne_ge (by decide)) (ftOne_nx _))
  (ss_cons (ss_asg (sd_mod (SD.sv (sd_div (sv_var 0) (SD.sv sd_int))) (SD.sv (sd_add (sv_var 4) (SD.sv sd_int)))) (tg_name 5 sc__law_names_by.nd) (ftOne_ge (by decide)) (ftOne_nx _))
  (ss_cons (ss_asg (sd_join (SD.sv (sd_str (by decide +kernel))) (SD.sv (SN.sd (sn_lc [("_law_k", 7)] rfl rfl sc__law_names_by.nd (SIF.e (sif_range1 (by rfl) T.z_range (sa_cons (sv_var 4) sa_nil))) (blkOk_by (N := N__law_names_by) (sc := defScope s__law_names_by) (by decide +kernel)) (ftOne_in (by decide)) (fun _ _ _ _ _ => (tg_name 7 sc__law_names_by.nd)) (fun _ _ _ _ _ => sts_nil) (fun _ _ _ _ _ => (sd_ix (sv_var 2) (SD.sv (sd_mod (SD.sv (sd_add (SD.sv (sd_div (sv_var 0) (SD.sv sd_int))) (SD.sv (sd_mul (SD.sv sd_int) (sv_var 7))))) (SD.sv sd_int))))))))) (tg_name 6 sc__law_names_by.nd) (ftOne_ge (by decide)) (ftOne_nx _))
  (ss_one (ss_ret (sd_tupleOf (by rfl) T.z_tuple (sa_cons (SD.sv (SN.sd (sn_lc [("_law_k", 7)] rfl rfl sc__law_names_by.nd (SIF.e (sif_range1 (by rfl) T.z_range (sa_cons (sv_var 1) sa_nil))) (blkOk_by (N := N__law_names_by) (sc := defScope s__law_names_by) (by decide +kernel)) (ftOne_in (by decide)) (fun _ _ _ _ _ => (tg_name 7 sc__law_names_by.nd)) (fun _ _ _ _ _ => sts_nil) (fun _ _ _ _ _ => (sd_add (SD.sv (sd_add (SD.sv (sd_sl (sv_var 6) so_none (so_some (sv_var 5)))) (SD.sv (sd_ix (sv_var 2) (SD.sv (sd_mod (SD.sv (sd_add (sv_var 3) (SD.sv (sd_mul (SD.sv sd_int) (sv_var 7))))) (SD.sv sd_int))))))) (SD.sv (sd_sl (sv_var 6) (so_some (sv_var 5)) so_none))))))) sa_nil)))))))))))
theorem ok__law_tree_by (A : All P w base T (clsOf K) k g) : FnOk P w K mg base (L2.CX P w) (k + 2) T.d__law_tree_by.f T.d__law_tree_by.fd ["_law_names", "_law_cell", "_law_deep"] (spG K (clsOf K) 3 (bodyF 7 3 3 (b_tree_by_710f g._law_tree_by))) :=
  okF (k := k + 1) T.d__law_tree_by.fn sc__law_tree_by (clsOf K) 3 (b_tree_by_710f g._law_tree_by) fun cdv A0 outer s H E hr1 => by
  have hr : Room k (cxOf (L2.CX P w) P w K mg base N__law_tree_by "_law_tree_by" (defScope s__law_tree_by) T.d__law_tree_by.f cdv A0 outer s H E).A := hr1.mono (by omega)
  have tk : Takes (cxOf (L2.CX P w) P w K mg base N__law_tree_by "_law_tree_by" (defScope s__law_tree_by) T.d__law_tree_by.f cdv A0 outer s H E) (fun c d _ H => E c d H) := takes_of rfl rfl rfl rfl
  exact (ss_cons (ss_asg (sd_mod (sv_var 1) (SD.sv sd_int)) (tg_name 3 sc__law_tree_by.nd) (ftOne_ge (by decide)) (ftOne_nx _))
  (ss_cons (ss_asg (sd_div (sv_var 1) (SD.sv sd_int)) (tg_name 4 sc__law_tree_by.nd) (ftOne_ge (by decide)) (ftOne_nx _))
  (ss_cons (ss_if (SW.st (sw_or (st_eq hr.units (sv_var 2) (SD.sv sd_int)) (sw_or1 (st_lt (sv_var 3) (SD.sv sd_int))))) (ss_cons (ss_if (st_eq hr.units (SD.sv (sd_mod (sv_var 4) (SD.sv sd_int))) (SD.sv sd_int)) (ss_one (ss_ret (sd_tup (sad_cons (sd_str (by decide +kernel)) sad_nil)))) ss_nil)
  (ss_cons (ss_if (st_eq hr.units (SD.sv (sd_mod (sv_var 4) (SD.sv sd_int))) (SD.sv sd_int)) (ss_one (ss_ret (sd_tup (sad_cons (sd_str (by decide +kernel)) sad_nil)))) ss_nil)
  (ss_one (ss_ret (sd_tup (sad_cons (sd_str (by decide +kernel)) (sad_cons (sd_ix (sv_var 0) (SD.sv (sd_mod (SD.sv (sd_div (sv_var 4) (SD.sv sd_int))) (SD.sv (sd_len (by rfl) T.z_len (sa_cons (sv_var 0) sa_nil)))))) sad_nil))))))) ss_nil)
  (ss_cons (ss_asg (sd_call A._law_tree_by hr (by rfl) T.d__law_tree_by.mg T.d__law_tree_by.fn.kp T.d__law_tree_by.bd tk (sad_cons (sd_var 0) (sad_cons (sd_mod (SD.sv (sd_mul (sv_var 4) (SD.sv sd_int))) (SD.sv sd_int)) (sad_cons (sd_sub (sv_var 2) (SD.sv sd_int)) sad_nil))) (aCons_len (aCons_len (aCons_len aNil_len)))) (tg_name 5 sc__law_tree_by.nd) (ftOne_ge (by decide)) (ftOne_nx _))
  (ss_cons (ss_if (st_lt (sv_var 3) (SD.sv sd_int)) (ss_one (ss_ret (sd_tup (sad_cons (sd_str (by decide +kernel)) (sad_cons (sd_var 5) sad_nil))))) ss_nil)
  (ss_cons (ss_asg (sd_ix (SD.sv (sd_lst (sad_cons (sd_str (by decide +kernel)) (sad_cons (sd_str (by decide +kernel)) (sad_cons (sd_str (by decide +kernel)) (sad_cons (sd_str (by decide +kernel)) (sad_cons (sd_str (by decide +kernel)) (sad_cons (sd_str (by decide +kernel)) sad_nil)))))))) (SD.sv (sd_sub (sv_var 3) (SD.sv sd_int)))) (tg_name 6 sc__law_tree_by.nd) (ftOne_ge (by decide)) (ftOne_nx _))
  (ss_one (ss_ret (sd_tup (sad_cons (sd_var 6) (sad_cons (sd_var 5) (sad_cons (sd_call A._law_tree_by hr (by rfl) T.d__law_tree_by.mg T.d__law_tree_by.fn.kp T.d__law_tree_by.bd tk (sad_cons (sd_var 0) (sad_cons (sd_mod (SD.sv (sd_mul (sv_var 4) (SD.sv sd_int))) (SD.sv sd_int)) (sad_cons (sd_sub (sv_var 2) (SD.sv sd_int)) sad_nil))) (aCons_len (aCons_len (aCons_len aNil_len)))) sad_nil))))))))))))
theorem ok__law_column (A : All P w base T (clsOf K) k g) : FnOk P w K mg base (L2.CX P w) (k + 2) T.d__law_column.f T.d__law_column.fd ["_law_many", "_law_place"] (spG K (clsOf K) 2 (bodyF 4 2 2 (b_column_9b2c))) :=
  okF (k := k + 1) T.d__law_column.fn sc__law_column (clsOf K) 2 (b_column_9b2c) fun cdv A0 outer s H E hr1 => by
  have hr : Room k (cxOf (L2.CX P w) P w K mg base N__law_column "_law_column" (defScope s__law_column) T.d__law_column.f cdv A0 outer s H E).A := hr1.mono (by omega)
  have tk : Takes (cxOf (L2.CX P w) P w K mg base N__law_column "_law_column" (defScope s__law_column) T.d__law_column.f cdv A0 outer s H E) (fun c d _ H => E c d H) := takes_of rfl rfl rfl rfl
  exact (ss_cons (ss_asg (sd_shl (SD.sv (sd_sub (SD.sv (sd_shl (SD.sv sd_int) (SD.sv (sd_shl (SD.sv sd_int) (sv_var 1))))) (SD.sv sd_int))) (SD.sv (sd_shl (SD.sv sd_int) (sv_var 1)))) (tg_name 2 sc__law_column.nd) (ftOne_ge (by decide)) (ftOne_nx _))
  (ss_cons (ss_asg (sd_shl (SD.sv sd_int) (sv_var 1)) (tg_name 3 sc__law_column.nd) (ftOne_ge (by decide)) (ftOne_nx _))
  (ss_cons (ss_while 1000000 (passes_of rfl) (st_lt (sv_var 3) (SD.sv (sd_shl (SD.sv sd_int) (sv_var 0)))) (ss_cons (ss_asg (sd_or (sv_var 2) (SD.sv (sd_shl (sv_var 2) (sv_var 3)))) (tg_name 2 sc__law_column.nd) (ftOne_ge (by decide)) (ftOne_nx _))
  (ss_one (ss_asg (sd_mul (SD.sv sd_int) (sv_var 3)) (tg_name 3 sc__law_column.nd) (ftOne_ge (by decide)) (ftOne_nx _)))))
  (ss_one (ss_ret (sd_var 2))))))
theorem ok__law_table (A : All P w base T (clsOf K) k g) : FnOk P w K mg base (L2.CX P w) (k + 2) T.d__law_table.f T.d__law_table.fd ["_law_names", "_law_tree"] (spG K (clsOf K) 2 (bodyF 5 2 2 (b_table_bf2e g._law_column g._law_table))) :=
  okF (k := k + 1) T.d__law_table.fn sc__law_table (clsOf K) 2 (b_table_bf2e g._law_column g._law_table) fun cdv A0 outer s H E hr1 => by
  have hr : Room k (cxOf (L2.CX P w) P w K mg base N__law_table "_law_table" (defScope s__law_table) T.d__law_table.f cdv A0 outer s H E).A := hr1.mono (by omega)
  have tk : Takes (cxOf (L2.CX P w) P w K mg base N__law_table "_law_table" (defScope s__law_table) T.d__law_table.f cdv A0 outer s H E) (fun c d _ H => E c d H) := takes_of rfl rfl rfl rfl
  exact (ss_cons (ss_asg (sd_sub (SD.sv (sd_shl (SD.sv sd_int) (SD.sv (sd_shl (SD.sv sd_int) (SD.sv (sd_len (by rfl) T.z_len (sa_cons (sv_var 0) sa_nil))))))) (SD.sv sd_int)) (tg_name 2 sc__law_table.nd) (ftOne_ge (by decide)) (ftOne_nx _))
  (ss_cons (ss_if (st_eq hr.units (SD.sv (sd_ix (sv_var 1) (SD.sv sd_int))) (SD.sv (sd_str (by decide +kernel)))) (ss_one (ss_ret (sd_call A._law_column hr (by rfl) T.d__law_column.mg T.d__law_column.fn.kp T.d__law_column.bd tk (sad_cons (sd_len (by rfl) T.z_len (sa_cons (sv_var 0) sa_nil)) (sad_cons (sd_index (sv_var 0) (SD.sv (sd_ix (sv_var 1) (SD.sv sd_int)))) sad_nil)) (aCons_len (aCons_len aNil_len))))) ss_nil)
  (ss_cons (ss_if (st_eq hr.units (SD.sv (sd_ix (sv_var 1) (SD.sv sd_int))) (SD.sv (sd_str (by decide +kernel)))) (ss_one (ss_ret (sd_var 2))) ss_nil)
  (ss_cons (ss_if (st_eq hr.units (SD.sv (sd_ix (sv_var 1) (SD.sv sd_int))) (SD.sv (sd_str (by decide +kernel)))) (ss_one (ss_ret sd_int)) ss_nil)
  (ss_cons (ss_asg (sd_call A._law_table hr (by rfl) T.d__law_table.mg T.d__law_table.fn.kp T.d__law_table.bd tk (sad_cons (sd_var 0) (sad_cons (sd_ix (sv_var 1) (SD.sv sd_int)) sad_nil)) (aCons_len (aCons_len aNil_len))) (tg_name 3 sc__law_table.nd) (ftOne_ge (by decide)) (ftOne_nx _))
  (ss_cons (ss_if (st_eq hr.units (SD.sv (sd_ix (sv_var 1) (SD.sv sd_int))) (SD.sv (sd_str (by decide +kernel)))) (ss_one (ss_ret (sd_xor (sv_var 2) (sv_var 3)))) ss_nil)
  (ss_cons (ss_asg (sd_call A._law_table hr (by rfl) T.d__law_table.mg T.d__law_table.fn.kp T.d__law_table.bd tk (sad_cons (sd_var 0) (sad_cons (sd_ix (sv_var 1) (SD.sv sd_int)) sad_nil)) (aCons_len (aCons_len aNil_len))) (tg_name 4 sc__law_table.nd) (ftOne_ge (by decide)) (ftOne_nx _))
  (ss_cons (ss_if (st_eq hr.units (SD.sv (sd_ix (sv_var 1) (SD.sv sd_int))) (SD.sv (sd_str (by decide +kernel)))) (ss_one (ss_ret (sd_and (sv_var 3) (sv_var 4)))) ss_nil)
  (ss_cons (ss_if (st_eq hr.units (SD.sv (sd_ix (sv_var 1) (SD.sv sd_int))) (SD.sv (sd_str (by decide +kernel)))) (ss_one (ss_ret (sd_or (sv_var 3) (sv_var 4)))) ss_nil)
  (ss_cons (ss_if (st_eq hr.units (SD.sv (sd_ix (sv_var 1) (SD.sv sd_int))) (SD.sv (sd_str (by decide +kernel)))) (ss_one (ss_ret (sd_or (SD.sv (sd_xor (sv_var 2) (sv_var 3))) (sv_var 4)))) ss_nil)
  (ss_one (ss_ret (sd_xor (SD.sv (sd_xor (sv_var 2) (sv_var 3))) (sv_var 4))))))))))))))
theorem ok__law_do (A : All P w base T (clsOf K) k g) : FnOk P w K mg base (L2.CX P w) (k + 2) T.d__law_do.f T.d__law_do.fd ["_law_log", "_law_names", "_law_cell", "_law_k"] (spG K (clsOf K) 4 (bodyF 6 4 4 (b_do_1ec3 g._law_mixed g.Log_back g.Log_again g._law_tree_by g._law_table g.Log_give g.Log_take g.Log_backs g.Log_agains))) :=
  okF (k := k + 1) T.d__law_do.fn sc__law_do (clsOf K) 4 (b_do_1ec3 g._law_mixed g.Log_back g.Log_again g._law_tree_by g._law_table g.Log_give g.Log_take g.Log_backs g.Log_agains) fun cdv A0 outer s H E hr1 => by
  have hr : Room k (cxOf (L2.CX P w) P w K mg base N__law_do "_law_do" (defScope s__law_do) T.d__law_do.f cdv A0 outer s H E).A := hr1.mono (by omega)
  have tk : Takes (cxOf (L2.CX P w) P w K mg base N__law_do "_law_do" (defScope s__law_do) T.d__law_do.f cdv A0 outer s H E) (fun c d _ H => E c d H) := takes_of rfl rfl rfl rfl
  exact (ss_cons (ss_asg (sd_call A._law_mixed hr (by rfl) T.d__law_mixed.mg T.d__law_mixed.fn.kp T.d__law_mixed.bd tk (sad_cons (sd_var 2) (sad_cons (sd_var 3) sad_nil)) (aCons_len (aCons_len aNil_len))) (tg_name 4 sc__law_do.nd) (ftOne_ge (by decide)) (ftOne_nx _))
  (ss_one (ss_if (SW.st (sw_and (st_eq hr.units (SD.sv (sd_mod (sv_var 4) (SD.sv sd_int))) (SD.sv sd_int)) (sw_and1 (st_gt (SD.sv (sd_pm 0 T.lf A.Log_backs hr T.d_Log_backs.mt T.d_Log_backs.bd tk (fun b => by cases b <;> decide))) (SD.sv sd_int))))) (ss_one (ss_methE0 0 T.lf A.Log_back hr T.d_Log_back.mt T.d_Log_back.bd tk (fun b => by cases b <;> decide))) (ss_one (ss_if (SW.st (sw_and (st_eq hr.units (SD.sv (sd_mod (sv_var 4) (SD.sv sd_int))) (SD.sv sd_int)) (sw_and1 (st_gt (SD.sv (sd_pm 0 T.lf A.Log_agains hr T.d_Log_agains.mt T.d_Log_agains.bd tk (fun b => by cases b <;> decide))) (SD.sv sd_int))))) (ss_one (ss_methE0 0 T.lf A.Log_again hr T.d_Log_again.mt T.d_Log_again.bd tk (fun b => by cases b <;> decide))) (ss_cons (ss_asg (sd_call A._law_tree_by hr (by rfl) T.d__law_tree_by.mg T.d__law_tree_by.fn.kp T.d__law_tree_by.bd tk (sad_cons (sd_var 1) (sad_cons (sd_call A._law_mixed hr (by rfl) T.d__law_mixed.mg T.d__law_mixed.fn.kp T.d__law_mixed.bd tk (sad_cons (sd_var 2) (sad_cons (sd_add (sv_var 3) (SD.sv sd_int)) sad_nil)) (aCons_len (aCons_len aNil_len))) (sad_cons sd_int sad_nil))) (aCons_len (aCons_len (aCons_len aNil_len)))) (tg_name 5 sc__law_do.nd) (ftOne_ge (by decide)) (ftOne_nx _))
  (ss_one (ss_if (st_eq hr.units (SD.sv (sd_call A._law_table hr (by rfl) T.d__law_table.mg T.d__law_table.fn.kp T.d__law_table.bd tk (sad_cons (sd_var 1) (sad_cons (sd_var 5) sad_nil)) (aCons_len (aCons_len aNil_len)))) (SD.sv sd_int)) (ss_one (ss_methE 0 T.lf A.Log_give hr T.d_Log_give.mt T.d_Log_give.bd tk (sb_fz (sd_var 5) sb_nil) rfl (show ([0] : List Nat).Nodup by decide) (fun b => by cases b <;> decide))) (ss_one (ss_methE 0 T.lf A.Log_take hr T.d_Log_take.mt T.d_Log_take.bd tk (sb_fz (sd_var 5) (sb_fz (sd_add (SD.sv sd_int) (SD.sv (sd_mod (sv_var 2) (SD.sv (sd_pow (SD.sv sd_int) (SD.sv sd_int)))))) sb_nil)) rfl (show ([0] : List Nat).Nodup by decide) (fun b => by cases b <;> decide)))))))))))
theorem ok__law_state (A : All P w base T (clsOf K) k g) : FnOk P w K mg base (L2.CX P w) (k + 2) T.d__law_state.f T.d__law_state.fd ["_law_log"] (spG K (clsOf K) 1 (bodyF 1 1 1 (b_state_5d27 g.Log_agains g.Log_backs g.Log_minds g.Log_mind))) :=
  okF (k := k + 1) T.d__law_state.fn sc__law_state (clsOf K) 1 (b_state_5d27 g.Log_agains g.Log_backs g.Log_minds g.Log_mind) fun cdv A0 outer s H E hr1 => by
  have hr : Room k (cxOf (L2.CX P w) P w K mg base N__law_state "_law_state" (defScope s__law_state) T.d__law_state.f cdv A0 outer s H E).A := hr1.mono (by omega)
  have tk : Takes (cxOf (L2.CX P w) P w K mg base N__law_state "_law_state" (defScope s__law_state) T.d__law_state.f cdv A0 outer s H E) (fun c d _ H => E c d H) := takes_of rfl rfl rfl rfl
  exact (ss_one (ss_ret (sd_tup (sad_cons (sd_pm 0 T.lf A.Log_mind hr T.d_Log_mind.mt T.d_Log_mind.bd tk (fun b => by cases b <;> decide)) (sad_cons (SN.sd (sn_pm 0 T.lf A.Log_minds hr T.d_Log_minds.mt T.d_Log_minds.bd tk (fun b => by cases b <;> decide))) (sad_cons (sd_pm 0 T.lf A.Log_backs hr T.d_Log_backs.mt T.d_Log_backs.bd tk (fun b => by cases b <;> decide)) (sad_cons (sd_pm 0 T.lf A.Log_agains hr T.d_Log_agains.mt T.d_Log_agains.bd tk (fun b => by cases b <;> decide)) sad_nil)))))))
theorem ok_law (A : All P w base T (clsOf K) k g) : FnOk P w K mg base (L2.CX P w) (k + 2) T.d_law.f T.d_law.fd ["_law_script"] (spG K (clsOf K) 1 (bodyF 12 1 1 (b_law g._law_cell_at g._law_names_by g.Log___init__ g._law_do g._law_state g.Log_minds))) :=
  okF (k := k + 1) T.d_law.fn sc_law (clsOf K) 1 (b_law g._law_cell_at g._law_names_by g.Log___init__ g._law_do g._law_state g.Log_minds) fun cdv A0 outer s H E hr1 => by
  have hr : Room k (cxOf (L2.CX P w) P w K mg base N_law "law" (defScope s_law) T.d_law.f cdv A0 outer s H E).A := hr1.mono (by omega)
  have tk : Takes (cxOf (L2.CX P w) P w K mg base N_law "law" (defScope s_law) T.d_law.f cdv A0 outer s H E) (fun c d _ H => E c d H) := takes_of rfl rfl rfl rfl
  exact (ss_cons (ss_asg (sd_call A._law_cell_at hr (by rfl) T.d__law_cell_at.mg T.d__law_cell_at.fn.kp T.d__law_cell_at.bd tk (sad_cons (sd_var 0) (sad_cons sd_int sad_nil)) (aCons_len (aCons_len aNil_len))) (tg_name 1 sc_law.nd) (ftOne_ge (by decide)) (ftOne_nx _))
  (ss_cons (ss_asgN (i := 2) (by decide) sc_law.nd (sn_lst (sad_cons (sd_call A._law_names_by hr (by rfl) T.d__law_names_by.mg T.d__law_names_by.fn.kp T.d__law_names_by.bd tk (sad_cons (sd_var 1) (sad_cons (sd_add (SD.sv sd_int) (SD.sv (sd_mod (SD.sv (sd_div (sv_var 1) (SD.sv sd_int))) (SD.sv sd_int)))) sad_nil)) (aCons_len (aCons_len aNil_len))) (sad_cons (sd_call A._law_names_by hr (by rfl) T.d__law_names_by.mg T.d__law_names_by.fn.kp T.d__law_names_by.bd tk (sad_cons (sd_div (sv_var 1) (SD.sv sd_int)) (sad_cons (sd_add (SD.sv sd_int) (SD.sv (sd_mod (SD.sv (sd_div (sv_var 1) (SD.sv sd_int))) (SD.sv sd_int)))) sad_nil)) (aCons_len (aCons_len aNil_len))) sad_nil))))
  (ss_cons (ss_if (st_eq hr.units (SD.sv (sd_mod (sv_var 1) (SD.sv sd_int))) (SD.sv sd_int)) (ss_one (ss_setL 2 (sd_ix (sv_var 2) (SD.sv sd_int)) (SD.sv sd_int))) ss_nil)
  (ss_cons (ss_asgO (i := 3) (by decide) sc_law.nd (snb_lst2 (snb_make T.mkLog A.Log___init__ hr1 (by rfl) T.mgLog T.d_Log___init__.bd (sad_cons (sd_ix (sv_var 2) (SD.sv sd_int)) sad_nil) (fun ρ ds h => congrArg (· + 1) ((aCons_len aNil_len) ρ ds h))) (snb_make T.mkLog A.Log___init__ hr1 (by rfl) T.mgLog T.d_Log___init__.bd (sad_cons (sd_ix (sv_var 2) (SD.sv sd_int)) sad_nil) (fun ρ ds h => congrArg (· + 1) ((aCons_len aNil_len) ρ ds h)))))
  (ss_cons (ss_asgO (i := 4) (by decide) sc_law.nd (snb_lst2 (snb_make T.mkLog A.Log___init__ hr1 (by rfl) T.mgLog T.d_Log___init__.bd (sad_cons (sd_ix (sv_var 2) (SD.sv sd_int)) sad_nil) (fun ρ ds h => congrArg (· + 1) ((aCons_len aNil_len) ρ ds h))) (snb_make T.mkLog A.Log___init__ hr1 (by rfl) T.mgLog T.d_Log___init__.bd (sad_cons (sd_ix (sv_var 2) (SD.sv sd_int)) sad_nil) (fun ρ ds h => congrArg (· + 1) ((aCons_len aNil_len) ρ ds h)))))
  (ss_cons (ss_asgN (i := 5) (by decide) sc_law.nd (sn_lst sad_nil))
  (ss_cons (ss_asgN (i := 6) (by decide) sc_law.nd (sn_lst sad_nil))
  (ss_cons (ss_for (passes_of rfl) rfl (sif_en (by rfl) T.z_enumerate (sd_sl (sv_var 0) so_none (so_some (SD.sv sd_int)))) (tg_tup rfl (tgs_cons 7 sc_law.nd (tgs_cons 8 sc_law.nd tgs_nil))) (ftTup_ge (by decide)) (ss_cons (ss_asg (sd_mod (sv_var 8) (SD.sv sd_int)) (tg_name 9 sc_law.nd) (ftOne_ge (by decide)) (ftOne_nx _))
  (ss_cons (ss_dropX (sx_callP 3 A._law_do hr (by rfl) T.d__law_do.mg T.d__law_do.fn.kp T.d__law_do.bd tk (sv_var 9) (sad_cons (sd_ix (sv_var 2) (sv_var 9)) (sad_cons (sd_var 8) (sad_cons (sd_var 7) sad_nil))) (fun ρ ds h => congrArg (· + 1) ((aCons_len (aCons_len (aCons_len aNil_len))) ρ ds h))))
  (ss_cons (ss_dropX (sx_callP 4 A._law_do hr (by rfl) T.d__law_do.mg T.d__law_do.fn.kp T.d__law_do.bd tk (sv_var 9) (sad_cons (sd_ix (sv_var 2) (sv_var 9)) (sad_cons (sd_var 8) (sad_cons (sd_var 7) sad_nil))) (fun ρ ds h => congrArg (· + 1) ((aCons_len (aCons_len (aCons_len aNil_len))) ρ ds h))))
  (ss_cons (ss_asg (SN.sd (sn_pmP 3 T.lf A.Log_minds hr T.d_Log_minds.mt T.d_Log_minds.bd tk (fun b => by cases b <;> decide) (SD.sv (sd_mod (SD.sv (sd_div (sv_var 8) (SD.sv sd_int))) (SD.sv sd_int))))) (tg_name 10 sc_law.nd) (ftOne_ge (by decide)) (ftOne_nx _))
  (ss_cons (ss_mut1 5 mu_append PySem.F.slot_list_append PySem.F.type_list_append mt_append (sad_cons (sd_var 10) sad_nil))
  (ss_cons (ss_mut1 6 mu_append PySem.F.slot_list_append PySem.F.type_list_append mt_append (sad_cons (sd_listOf (by rfl) T.z_list (sa_cons (sv_var 10) sa_nil)) sad_nil))
  (ss_cons (ss_asgN (i := 11) (by decide) sc_law.nd (sn_pmP 3 T.lf A.Log_minds hr T.d_Log_minds.mt T.d_Log_minds.bd tk (fun b => by cases b <;> decide) (SD.sv (sd_mod (SD.sv (sd_div (sv_var 8) (SD.sv sd_int))) (SD.sv sd_int)))))
  (ss_cons (ss_mut1 11 mu_append PySem.F.slot_list_append PySem.F.type_list_append mt_append (sad_cons (sd_ix (sv_var 11) (SD.sv sd_int)) sad_nil))
  (ss_one (ss_mut1 11 mu_insert PySem.F.slot_list_insert PySem.F.type_list_insert mt_insert (sad_cons sd_int (sad_cons (sd_tup (sad_cons (sd_tup (sad_cons (sd_str (by decide +kernel)) sad_nil)) (sad_cons (sd_tup (sad_cons sd_int (sad_cons sd_int sad_nil))) sad_nil))) sad_nil)))))))))))))
  (ss_cons (ss_for (passes_of rfl) rfl (sif_range1 (by rfl) T.z_range (sa_cons (SD.sv sd_int) sa_nil)) (tg_name 7 sc_law.nd) (ftOne_ge (by decide)) (ss_one (ss_ifX (sxt_ne hr.units (sx_callP 3 A._law_state hr (by rfl) T.d__law_state.mg T.d__law_state.fn.kp T.d__law_state.bd tk (sv_var 7) sad_nil (fun ρ ds h => congrArg (· + 1) (aNil_len ρ ds h))) (sx_callP 4 A._law_state hr (by rfl) T.d__law_state.mg T.d__law_state.fn.kp T.d__law_state.bd tk (sv_var 7) sad_nil (fun ρ ds h => congrArg (· + 1) (aNil_len ρ ds h)))) (ss_one (ss_ret sd_bl)) ss_nil)))
  (ss_one (ss_ret (sd_eq hr.units (sv_var 5) (sv_var 6)))))))))))))
theorem ok_Log___init__ (A : All P w base T (clsOf K) k g) : FnOk P w K mg base (L2.CX P w) (k + 2) T.d_Log___init__.f T.d_Log___init__.fd ["self", "names"] (spG K (clsOf K) 2 (bodyF 2 2 2 (b_Log___init__ g.flat))) :=
  okF (k := k + 1) T.d_Log___init__.fn sc_Log___init__ (clsOf K) 2 (b_Log___init__ g.flat) fun cdv A0 outer s H E hr1 => by
  have hr : Room k (cxOf (L2.CX P w) P w K mg base N_Log___init__ "Log.__init__" (defScope s_Log___init__) T.d_Log___init__.f cdv A0 outer s H E).A := hr1.mono (by omega)
  have tk : Takes (cxOf (L2.CX P w) P w K mg base N_Log___init__ "Log.__init__" (defScope s_Log___init__) T.d_Log___init__.f cdv A0 outer s H E) (fun c d _ H => E c d H) := takes_of rfl rfl rfl rfl
  exact (ss_cons (ss_fldN 0 false T.lf (by rfl) (sn_lst (sad_cons (sd_call A.flat hr (by rfl) T.d_flat.mg T.d_flat.fn.kp T.d_flat.bd tk (sad_cons (sd_var 1) sad_nil) (aCons_len aNil_len)) sad_nil)))
  (ss_one (ss_fldN 0 true T.lf (by rfl) (sn_lst sad_nil))))
theorem ok_Log_mind (A : All P w base T (clsOf K) k g) : FnOk P w K mg base (L2.CX P w) (k + 2) T.d_Log_mind.f T.d_Log_mind.fd ["self"] (spPu K (clsOf K) 1 (bodyP 1 1 (b_Log_mind))) :=
  okPu (k := k + 1) T.d_Log_mind.fn sc_Log_mind (clsOf K) (b_Log_mind) fun cdv A0 outer s H E hr1 => by
  have hr : Room k (cxOf (L2.CX P w) P w K mg base N_Log_mind "Log.mind" (defScope s_Log_mind) T.d_Log_mind.f cdv A0 outer s H E).A := hr1.mono (by omega)
  have tk : Takes (cxOf (L2.CX P w) P w K mg base N_Log_mind "Log.mind" (defScope s_Log_mind) T.d_Log_mind.f cdv A0 outer s H E) (fun c d _ H => E c d H) := takes_of rfl rfl rfl rfl
  exact (pr_ret (sd_ix (sv_fld 0 false T.lf (by rfl)) (SD.sv (sd_neg (SD.sv sd_int)))))
theorem ok_Log_minds (A : All P w base T (clsOf K) k g) : FnOk P w K mg base (L2.CX P w) (k + 2) T.d_Log_minds.f T.d_Log_minds.fd ["self"] (spPN K (clsOf K) 1 (bodyP 1 1 (b_Log_minds))) :=
  okPN (k := k + 1) T.d_Log_minds.fn sc_Log_minds (clsOf K) (b_Log_minds) fun cdv A0 outer s H E hr1 => by
  have hr : Room k (cxOf (L2.CX P w) P w K mg base N_Log_minds "Log.minds" (defScope s_Log_minds) T.d_Log_minds.f cdv A0 outer s H E).A := hr1.mono (by omega)
  have tk : Takes (cxOf (L2.CX P w) P w K mg base N_Log_minds "Log.minds" (defScope s_Log_minds) T.d_Log_minds.f cdv A0 outer s H E) (fun c d _ H => E c d H) := takes_of rfl rfl rfl rfl
  exact (pr_ret (sn_listOf (by rfl) T.z_list (sa_cons (sv_fld 0 false T.lf (by rfl)) sa_nil)))
theorem ok_Log_backs (A : All P w base T (clsOf K) k g) : FnOk P w K mg base (L2.CX P w) (k + 2) T.d_Log_backs.f T.d_Log_backs.fd ["self"] (spPu K (clsOf K) 1 (bodyP 1 1 (b_Log_backs))) :=
  okPu (k := k + 1) T.d_Log_backs.fn sc_Log_backs (clsOf K) (b_Log_backs) fun cdv A0 outer s H E hr1 => by
  have hr : Room k (cxOf (L2.CX P w) P w K mg base N_Log_backs "Log.backs" (defScope s_Log_backs) T.d_Log_backs.f cdv A0 outer s H E).A := hr1.mono (by omega)
  have tk : Takes (cxOf (L2.CX P w) P w K mg base N_Log_backs "Log.backs" (defScope s_Log_backs) T.d_Log_backs.f cdv A0 outer s H E) (fun c d _ H => E c d H) := takes_of rfl rfl rfl rfl
  exact (pr_ret (sd_sub (SD.sv (sd_len (by rfl) T.z_len (sa_cons (sv_fld 0 false T.lf (by rfl)) sa_nil))) (SD.sv sd_int)))
theorem ok_Log_agains (A : All P w base T (clsOf K) k g) : FnOk P w K mg base (L2.CX P w) (k + 2) T.d_Log_agains.f T.d_Log_agains.fd ["self"] (spPu K (clsOf K) 1 (bodyP 1 1 (b_Log_agains))) :=
  okPu (k := k + 1) T.d_Log_agains.fn sc_Log_agains (clsOf K) (b_Log_agains) fun cdv A0 outer s H E hr1 => by
  have hr : Room k (cxOf (L2.CX P w) P w K mg base N_Log_agains "Log.agains" (defScope s_Log_agains) T.d_Log_agains.f cdv A0 outer s H E).A := hr1.mono (by omega)
  have tk : Takes (cxOf (L2.CX P w) P w K mg base N_Log_agains "Log.agains" (defScope s_Log_agains) T.d_Log_agains.f cdv A0 outer s H E) (fun c d _ H => E c d H) := takes_of rfl rfl rfl rfl
  exact (pr_ret (sd_len (by rfl) T.z_len (sa_cons (sv_fld 0 true T.lf (by rfl)) sa_nil)))
theorem ok_Log_lay (A : All P w base T (clsOf K) k g) : FnOk P w K mg base (L2.CX P w) (k + 2) T.d_Log_lay.f T.d_Log_lay.fd ["self", "mind"] (spG K (clsOf K) 2 (bodyF 2 2 2 (b_Log_lay))) :=
  okF (k := k + 1) T.d_Log_lay.fn sc_Log_lay (clsOf K) 2 (b_Log_lay) fun cdv A0 outer s H E hr1 => by
  have hr : Room k (cxOf (L2.CX P w) P w K mg base N_Log_lay "Log.lay" (defScope s_Log_lay) T.d_Log_lay.f cdv A0 outer s H E).A := hr1.mono (by omega)
  have tk : Takes (cxOf (L2.CX P w) P w K mg base N_Log_lay "Log.lay" (defScope s_Log_lay) T.d_Log_lay.f cdv A0 outer s H E) (fun c d _ H => E c d H) := takes_of rfl rfl rfl rfl
  exact (ss_cons (ss_lmut1 0 false T.lf (by rfl) mu_append PySem.F.slot_list_append PySem.F.type_list_append mt_append (sad_cons (sd_var 1) sad_nil))
  (ss_one (ss_fldN 0 true T.lf (by rfl) (sn_lst sad_nil))))
theorem ok_Log_take (A : All P w base T (clsOf K) k g) : FnOk P w K mg base (L2.CX P w) (k + 2) T.d_Log_take.f T.d_Log_take.fd ["self", "tree", "firm"] (spG K (clsOf K) 3 (bodyF 3 3 3 (b_Log_take g.taken_on g.Log_lay g.Log_mind))) :=
  okF (k := k + 1) T.d_Log_take.fn sc_Log_take (clsOf K) 3 (b_Log_take g.taken_on g.Log_lay g.Log_mind) fun cdv A0 outer s H E hr1 => by
  have hr : Room k (cxOf (L2.CX P w) P w K mg base N_Log_take "Log.take" (defScope s_Log_take) T.d_Log_take.f cdv A0 outer s H E).A := hr1.mono (by omega)
  have tk : Takes (cxOf (L2.CX P w) P w K mg base N_Log_take "Log.take" (defScope s_Log_take) T.d_Log_take.f cdv A0 outer s H E) (fun c d _ H => E c d H) := takes_of rfl rfl rfl rfl
  exact (ss_one (ss_methE 0 T.lf A.Log_lay hr T.d_Log_lay.mt T.d_Log_lay.bd tk (sb_fz (sd_call A.taken_on hr (by rfl) T.d_taken_on.mg T.d_taken_on.fn.kp T.d_taken_on.bd tk (sad_cons (sd_pm 0 T.lf A.Log_mind hr T.d_Log_mind.mt T.d_Log_mind.bd tk (fun b => by cases b <;> decide)) (sad_cons (sd_var 1) (sad_cons (sd_var 2) sad_nil))) (aCons_len (aCons_len (aCons_len aNil_len)))) sb_nil) rfl (show ([0] : List Nat).Nodup by decide) (fun b => by cases b <;> decide)))
theorem ok_Log_give (A : All P w base T (clsOf K) k g) : FnOk P w K mg base (L2.CX P w) (k + 2) T.d_Log_give.f T.d_Log_give.fd ["self", "tree"] (spG K (clsOf K) 2 (bodyF 2 2 2 (b_Log_give g.given_up g.Log_lay g.Log_mind))) :=
  okF (k := k + 1) T.d_Log_give.fn sc_Log_give (clsOf K) 2 (b_Log_give g.given_up g.Log_lay g.Log_mind) fun cdv A0 outer s H E hr1 => by
  have hr : Room k (cxOf (L2.CX P w) P w K mg base N_Log_give "Log.give" (defScope s_Log_give) T.d_Log_give.f cdv A0 outer s H E).A := hr1.mono (by omega)
  have tk : Takes (cxOf (L2.CX P w) P w K mg base N_Log_give "Log.give" (defScope s_Log_give) T.d_Log_give.f cdv A0 outer s H E) (fun c d _ H => E c d H) := takes_of rfl rfl rfl rfl
  exact (ss_one (ss_methE 0 T.lf A.Log_lay hr T.d_Log_lay.mt T.d_Log_lay.bd tk (sb_fz (sd_call A.given_up hr (by rfl) T.d_given_up.mg T.d_given_up.fn.kp T.d_given_up.bd tk (sad_cons (sd_pm 0 T.lf A.Log_mind hr T.d_Log_mind.mt T.d_Log_mind.bd tk (fun b => by cases b <;> decide)) (sad_cons (sd_var 1) sad_nil)) (aCons_len (aCons_len aNil_len))) sb_nil) rfl (show ([0] : List Nat).Nodup by decide) (fun b => by cases b <;> decide)))
theorem ok_Log_back (A : All P w base T (clsOf K) k g) : FnOk P w K mg base (L2.CX P w) (k + 2) T.d_Log_back.f T.d_Log_back.fd ["self"] (spG K (clsOf K) 1 (bodyF 1 1 1 (b_Log_back))) :=
  okF (k := k + 1) T.d_Log_back.fn sc_Log_back (clsOf K) 1 (b_Log_back) fun cdv A0 outer s H E hr1 => by
  have hr : Room k (cxOf (L2.CX P w) P w K mg base N_Log_back "Log.back" (defScope s_Log_back) T.d_Log_back.f cdv A0 outer s H E).A := hr1.mono (by omega)
  have tk : Takes (cxOf (L2.CX P w) P w K mg base N_Log_back "Log.back" (defScope s_Log_back) T.d_Log_back.f cdv A0 outer s H E) (fun c d _ H => E c d H) := takes_of rfl rfl rfl rfl
  exact (ss_cons (ss_if (st_eq hr.units (SD.sv (sd_len (by rfl) T.z_len (sa_cons (sv_fld 0 false T.lf (by rfl)) sa_nil))) (SD.sv sd_int)) (ss_one (ss_raise 8 rfl rfl tk T.r_NoBack (by rfl))) ss_nil)
  (ss_one (ss_lmove 0 false T.lf (by rfl) (by rfl))))
theorem ok_Log_again (A : All P w base T (clsOf K) k g) : FnOk P w K mg base (L2.CX P w) (k + 2) T.d_Log_again.f T.d_Log_again.fd ["self"] (spG K (clsOf K) 1 (bodyF 1 1 1 (b_Log_again))) :=
  okF (k := k + 1) T.d_Log_again.fn sc_Log_again (clsOf K) 1 (b_Log_again) fun cdv A0 outer s H E hr1 => by
  have hr : Room k (cxOf (L2.CX P w) P w K mg base N_Log_again "Log.again" (defScope s_Log_again) T.d_Log_again.f cdv A0 outer s H E).A := hr1.mono (by omega)
  have tk : Takes (cxOf (L2.CX P w) P w K mg base N_Log_again "Log.again" (defScope s_Log_again) T.d_Log_again.f cdv A0 outer s H E) (fun c d _ H => E c d H) := takes_of rfl rfl rfl rfl
  exact (ss_cons (ss_if (st_eq hr.units (SD.sv (sd_len (by rfl) T.z_len (sa_cons (sv_fld 0 true T.lf (by rfl)) sa_nil))) (SD.sv sd_int)) (ss_one (ss_raise 9 rfl rfl tk T.r_NoAgain (by rfl))) ss_nil)
  (ss_one (ss_lmove 0 true T.lf (by rfl) (by rfl))))
theorem allS (A : All P w base T (clsOf K) k g) : All P w base T (clsOf K) (k + 2) (FS g) := ⟨ok_parts_of A, ok_gather A, ok_names_in A, ok_look_names A, ok_full A, ok_column A, ok_table_within A, ok_table A, ok_flat A, ok_least_rank A, ok_firmness A, ok_keeps A, ok_turned A, ok_given_up A, ok_taken_on A, ok__law_cell_at A, ok__law_mixed A, ok__law_names_by A, ok__law_tree_by A, ok__law_column A, ok__law_table A, ok__law_do A, ok__law_state A, ok_law A, ok_Log___init__ A, ok_Log_mind A, ok_Log_minds A, ok_Log_backs A, ok_Log_agains A, ok_Log_lay A, ok_Log_take A, ok_Log_give A, ok_Log_back A, ok_Log_again A⟩
theorem allF : ∀ n, All P w base T (clsOf K) (2 * n) (F n)
  | 0 => all0
  | n + 1 => allS (allF n)
end
theorem us_1 : ∀ us : List Value, us.length = 1 → ∃ a0, us = [a0]
  | [a0], _ => ⟨a0, rfl⟩
theorem us_2 : ∀ us : List Value, us.length = 2 → ∃ a0 a1, us = [a0, a1]
  | [a0, a1], _ => ⟨a0, a1, rfl⟩
theorem us_3 : ∀ us : List Value, us.length = 3 → ∃ a0 a1 a2, us = [a0, a1, a2]
  | [a0, a1, a2], _ => ⟨a0, a1, a2, rfl⟩
theorem us_4 : ∀ us : List Value, us.length = 4 → ∃ a0 a1 a2 a3, us = [a0, a1, a2, a3]
  | [a0, a1, a2, a3], _ => ⟨a0, a1, a2, a3, rfl⟩
theorem txt_mk {K : PySem.W.Frag} {h : Heap} {mg : Str → Option Value} {fa : Addr} (X : K.In h) (G : h.Ns mainGlobals mg) (hfa : mg "law" = some (.ref fa))
  {f_parts_of : Addr} {oc_parts_of : Value} {od_parts_of an_parts_of : Option Addr} {sl_parts_of : Array (Option Value)} {kV_parts_of dc_parts_of pm_parts_of cd_parts_of ct_parts_of : Value}
  {f_gather : Addr} {oc_gather : Value} {od_gather an_gather : Option Addr} {sl_gather : Array (Option Value)} {kV_gather dc_gather pm_gather cd_gather ct_gather : Value}
  {f_names_in : Addr} {oc_names_in : Value} {od_names_in an_names_in : Option Addr} {sl_names_in : Array (Option Value)} {kV_names_in dc_names_in pm_names_in cd_names_in ct_names_in : Value}
  {f_look_names : Addr} {oc_look_names : Value} {od_look_names an_look_names : Option Addr} {sl_look_names : Array (Option Value)} {kV_look_names dc_look_names pm_look_names cd_look_names ct_look_names : Value}
  {f_full : Addr} {oc_full : Value} {od_full an_full : Option Addr} {sl_full : Array (Option Value)} {kV_full dc_full pm_full cd_full ct_full : Value}
  {f_column : Addr} {oc_column : Value} {od_column an_column : Option Addr} {sl_column : Array (Option Value)} {kV_column dc_column pm_column cd_column ct_column : Value}
  {f_table_within : Addr} {oc_table_within : Value} {od_table_within an_table_within : Option Addr} {sl_table_within : Array (Option Value)} {kV_table_within dc_table_within pm_table_within cd_table_within ct_table_within : Value}
  {f_table : Addr} {oc_table : Value} {od_table an_table : Option Addr} {sl_table : Array (Option Value)} {kV_table dc_table pm_table cd_table ct_table : Value}
  {f_flat : Addr} {oc_flat : Value} {od_flat an_flat : Option Addr} {sl_flat : Array (Option Value)} {kV_flat dc_flat pm_flat cd_flat ct_flat : Value}
  {f_least_rank : Addr} {oc_least_rank : Value} {od_least_rank an_least_rank : Option Addr} {sl_least_rank : Array (Option Value)} {kV_least_rank dc_least_rank pm_least_rank cd_least_rank ct_least_rank : Value}
  {f_firmness : Addr} {oc_firmness : Value} {od_firmness an_firmness : Option Addr} {sl_firmness : Array (Option Value)} {kV_firmness dc_firmness pm_firmness cd_firmness ct_firmness : Value}
  {f_keeps : Addr} {oc_keeps : Value} {od_keeps an_keeps : Option Addr} {sl_keeps : Array (Option Value)} {kV_keeps dc_keeps pm_keeps cd_keeps ct_keeps : Value}
  {f_turned : Addr} {oc_turned : Value} {od_turned an_turned : Option Addr} {sl_turned : Array (Option Value)} {kV_turned dc_turned pm_turned cd_turned ct_turned : Value}
  {f_given_up : Addr} {oc_given_up : Value} {od_given_up an_given_up : Option Addr} {sl_given_up : Array (Option Value)} {kV_given_up dc_given_up pm_given_up cd_given_up ct_given_up : Value}
  {f_taken_on : Addr} {oc_taken_on : Value} {od_taken_on an_taken_on : Option Addr} {sl_taken_on : Array (Option Value)} {kV_taken_on dc_taken_on pm_taken_on cd_taken_on ct_taken_on : Value}
  {f__law_cell_at : Addr} {oc__law_cell_at : Value} {od__law_cell_at an__law_cell_at : Option Addr} {sl__law_cell_at : Array (Option Value)} {kV__law_cell_at dc__law_cell_at pm__law_cell_at cd__law_cell_at ct__law_cell_at : Value}
  {f__law_mixed : Addr} {oc__law_mixed : Value} {od__law_mixed an__law_mixed : Option Addr} {sl__law_mixed : Array (Option Value)} {kV__law_mixed dc__law_mixed pm__law_mixed cd__law_mixed ct__law_mixed : Value}
  {f__law_names_by : Addr} {oc__law_names_by : Value} {od__law_names_by an__law_names_by : Option Addr} {sl__law_names_by : Array (Option Value)} {kV__law_names_by dc__law_names_by pm__law_names_by cd__law_names_by ct__law_names_by : Value}
  {f__law_tree_by : Addr} {oc__law_tree_by : Value} {od__law_tree_by an__law_tree_by : Option Addr} {sl__law_tree_by : Array (Option Value)} {kV__law_tree_by dc__law_tree_by pm__law_tree_by cd__law_tree_by ct__law_tree_by : Value}
  {f__law_column : Addr} {oc__law_column : Value} {od__law_column an__law_column : Option Addr} {sl__law_column : Array (Option Value)} {kV__law_column dc__law_column pm__law_column cd__law_column ct__law_column : Value}
  {f__law_table : Addr} {oc__law_table : Value} {od__law_table an__law_table : Option Addr} {sl__law_table : Array (Option Value)} {kV__law_table dc__law_table pm__law_table cd__law_table ct__law_table : Value}
  {f__law_do : Addr} {oc__law_do : Value} {od__law_do an__law_do : Option Addr} {sl__law_do : Array (Option Value)} {kV__law_do dc__law_do pm__law_do cd__law_do ct__law_do : Value}
  {f__law_state : Addr} {oc__law_state : Value} {od__law_state an__law_state : Option Addr} {sl__law_state : Array (Option Value)} {kV__law_state dc__law_state pm__law_state cd__law_state ct__law_state : Value}
  {f_law : Addr} {oc_law : Value} {od_law an_law : Option Addr} {sl_law : Array (Option Value)} {kV_law dc_law pm_law cd_law ct_law : Value}
  {f_Log___init__ : Addr} {oc_Log___init__ : Value} {od_Log___init__ an_Log___init__ : Option Addr} {sl_Log___init__ : Array (Option Value)} {kV_Log___init__ dc_Log___init__ pm_Log___init__ cd_Log___init__ ct_Log___init__ : Value}
  {f_Log_mind : Addr} {oc_Log_mind : Value} {od_Log_mind an_Log_mind : Option Addr} {sl_Log_mind : Array (Option Value)} {kV_Log_mind dc_Log_mind pm_Log_mind cd_Log_mind ct_Log_mind : Value}
  {f_Log_minds : Addr} {oc_Log_minds : Value} {od_Log_minds an_Log_minds : Option Addr} {sl_Log_minds : Array (Option Value)} {kV_Log_minds dc_Log_minds pm_Log_minds cd_Log_minds ct_Log_minds : Value}
  {f_Log_backs : Addr} {oc_Log_backs : Value} {od_Log_backs an_Log_backs : Option Addr} {sl_Log_backs : Array (Option Value)} {kV_Log_backs dc_Log_backs pm_Log_backs cd_Log_backs ct_Log_backs : Value}
  {f_Log_agains : Addr} {oc_Log_agains : Value} {od_Log_agains an_Log_agains : Option Addr} {sl_Log_agains : Array (Option Value)} {kV_Log_agains dc_Log_agains pm_Log_agains cd_Log_agains ct_Log_agains : Value}
  {f_Log_lay : Addr} {oc_Log_lay : Value} {od_Log_lay an_Log_lay : Option Addr} {sl_Log_lay : Array (Option Value)} {kV_Log_lay dc_Log_lay pm_Log_lay cd_Log_lay ct_Log_lay : Value}
  {f_Log_take : Addr} {oc_Log_take : Value} {od_Log_take an_Log_take : Option Addr} {sl_Log_take : Array (Option Value)} {kV_Log_take dc_Log_take pm_Log_take cd_Log_take ct_Log_take : Value}
  {f_Log_give : Addr} {oc_Log_give : Value} {od_Log_give an_Log_give : Option Addr} {sl_Log_give : Array (Option Value)} {kV_Log_give dc_Log_give pm_Log_give cd_Log_give ct_Log_give : Value}
  {f_Log_back : Addr} {oc_Log_back : Value} {od_Log_back an_Log_back : Option Addr} {sl_Log_back : Array (Option Value)} {kV_Log_back dc_Log_back pm_Log_back cd_Log_back ct_Log_back : Value}
  {f_Log_again : Addr} {oc_Log_again : Value} {od_Log_again an_Log_again : Option Addr} {sl_Log_again : Array (Option Value)} {kV_Log_again dc_Log_again pm_Log_again cd_Log_again ct_Log_again : Value}
  (a_parts_of : PySem.W.nsIn K mainGlobals "parts_of" = some (some (.ref f_parts_of))) (l_parts_of : K.lookup f_parts_of = some ⟨oc_parts_of, od_parts_of, .func (PySem.W.fnOf "parts_of" "parts_of" (defArgs s_parts_of) (defBody s_parts_of) (defScope s_parts_of) .none kV_parts_of dc_parts_of pm_parts_of an_parts_of cd_parts_of ct_parts_of), sl_parts_of⟩) (c_parts_of : PySem.W.codeIn K cd_parts_of "parts_of" = true) (k_parts_of : PySem.W.keepIn K (.ref f_parts_of) = true)
  (a_gather : PySem.W.nsIn K mainGlobals "gather" = some (some (.ref f_gather))) (l_gather : K.lookup f_gather = some ⟨oc_gather, od_gather, .func (PySem.W.fnOf "gather" "gather" (defArgs s_gather) (defBody s_gather) (defScope s_gather) .none kV_gather dc_gather pm_gather an_gather cd_gather ct_gather), sl_gather⟩) (c_gather : PySem.W.codeIn K cd_gather "gather" = true) (k_gather : PySem.W.keepIn K (.ref f_gather) = true)
  (a_names_in : PySem.W.nsIn K mainGlobals "names_in" = some (some (.ref f_names_in))) (l_names_in : K.lookup f_names_in = some ⟨oc_names_in, od_names_in, .func (PySem.W.fnOf "names_in" "names_in" (defArgs s_names_in) (defBody s_names_in) (defScope s_names_in) .none kV_names_in dc_names_in pm_names_in an_names_in cd_names_in ct_names_in), sl_names_in⟩) (c_names_in : PySem.W.codeIn K cd_names_in "names_in" = true) (k_names_in : PySem.W.keepIn K (.ref f_names_in) = true)
  (a_look_names : PySem.W.nsIn K mainGlobals "look_names" = some (some (.ref f_look_names))) (l_look_names : K.lookup f_look_names = some ⟨oc_look_names, od_look_names, .func (PySem.W.fnOf "look_names" "look_names" (defArgs s_look_names) (defBody s_look_names) (defScope s_look_names) .none kV_look_names dc_look_names pm_look_names an_look_names cd_look_names ct_look_names), sl_look_names⟩) (c_look_names : PySem.W.codeIn K cd_look_names "look_names" = true) (k_look_names : PySem.W.keepIn K (.ref f_look_names) = true)
  (a_full : PySem.W.nsIn K mainGlobals "full" = some (some (.ref f_full))) (l_full : K.lookup f_full = some ⟨oc_full, od_full, .func (PySem.W.fnOf "full" "full" (defArgs s_full) (defBody s_full) (defScope s_full) .none kV_full dc_full pm_full an_full cd_full ct_full), sl_full⟩) (c_full : PySem.W.codeIn K cd_full "full" = true) (k_full : PySem.W.keepIn K (.ref f_full) = true)
  (a_column : PySem.W.nsIn K mainGlobals "column" = some (some (.ref f_column))) (l_column : K.lookup f_column = some ⟨oc_column, od_column, .func (PySem.W.fnOf "column" "column" (defArgs s_column) (defBody s_column) (defScope s_column) .none kV_column dc_column pm_column an_column cd_column ct_column), sl_column⟩) (c_column : PySem.W.codeIn K cd_column "column" = true) (k_column : PySem.W.keepIn K (.ref f_column) = true)
  (a_table_within : PySem.W.nsIn K mainGlobals "table_within" = some (some (.ref f_table_within))) (l_table_within : K.lookup f_table_within = some ⟨oc_table_within, od_table_within, .func (PySem.W.fnOf "table_within" "table_within" (defArgs s_table_within) (defBody s_table_within) (defScope s_table_within) .none kV_table_within dc_table_within pm_table_within an_table_within cd_table_within ct_table_within), sl_table_within⟩) (c_table_within : PySem.W.codeIn K cd_table_within "table_within" = true) (k_table_within : PySem.W.keepIn K (.ref f_table_within) = true)
  (a_table : PySem.W.nsIn K mainGlobals "table" = some (some (.ref f_table))) (l_table : K.lookup f_table = some ⟨oc_table, od_table, .func (PySem.W.fnOf "table" "table" (defArgs s_table) (defBody s_table) (defScope s_table) .none kV_table dc_table pm_table an_table cd_table ct_table), sl_table⟩) (c_table : PySem.W.codeIn K cd_table "table" = true) (k_table : PySem.W.keepIn K (.ref f_table) = true)
  (a_flat : PySem.W.nsIn K mainGlobals "flat" = some (some (.ref f_flat))) (l_flat : K.lookup f_flat = some ⟨oc_flat, od_flat, .func (PySem.W.fnOf "flat" "flat" (defArgs s_flat) (defBody s_flat) (defScope s_flat) .none kV_flat dc_flat pm_flat an_flat cd_flat ct_flat), sl_flat⟩) (c_flat : PySem.W.codeIn K cd_flat "flat" = true) (k_flat : PySem.W.keepIn K (.ref f_flat) = true)
  (a_least_rank : PySem.W.nsIn K mainGlobals "least_rank" = some (some (.ref f_least_rank))) (l_least_rank : K.lookup f_least_rank = some ⟨oc_least_rank, od_least_rank, .func (PySem.W.fnOf "least_rank" "least_rank" (defArgs s_least_rank) (defBody s_least_rank) (defScope s_least_rank) .none kV_least_rank dc_least_rank pm_least_rank an_least_rank cd_least_rank ct_least_rank), sl_least_rank⟩) (c_least_rank : PySem.W.codeIn K cd_least_rank "least_rank" = true) (k_least_rank : PySem.W.keepIn K (.ref f_least_rank) = true)
  (a_firmness : PySem.W.nsIn K mainGlobals "firmness" = some (some (.ref f_firmness))) (l_firmness : K.lookup f_firmness = some ⟨oc_firmness, od_firmness, .func (PySem.W.fnOf "firmness" "firmness" (defArgs s_firmness) (defBody s_firmness) (defScope s_firmness) .none kV_firmness dc_firmness pm_firmness an_firmness cd_firmness ct_firmness), sl_firmness⟩) (c_firmness : PySem.W.codeIn K cd_firmness "firmness" = true) (k_firmness : PySem.W.keepIn K (.ref f_firmness) = true)
  (a_keeps : PySem.W.nsIn K mainGlobals "keeps" = some (some (.ref f_keeps))) (l_keeps : K.lookup f_keeps = some ⟨oc_keeps, od_keeps, .func (PySem.W.fnOf "keeps" "keeps" (defArgs s_keeps) (defBody s_keeps) (defScope s_keeps) .none kV_keeps dc_keeps pm_keeps an_keeps cd_keeps ct_keeps), sl_keeps⟩) (c_keeps : PySem.W.codeIn K cd_keeps "keeps" = true) (k_keeps : PySem.W.keepIn K (.ref f_keeps) = true)
  (a_turned : PySem.W.nsIn K mainGlobals "turned" = some (some (.ref f_turned))) (l_turned : K.lookup f_turned = some ⟨oc_turned, od_turned, .func (PySem.W.fnOf "turned" "turned" (defArgs s_turned) (defBody s_turned) (defScope s_turned) .none kV_turned dc_turned pm_turned an_turned cd_turned ct_turned), sl_turned⟩) (c_turned : PySem.W.codeIn K cd_turned "turned" = true) (k_turned : PySem.W.keepIn K (.ref f_turned) = true)
  (a_given_up : PySem.W.nsIn K mainGlobals "given_up" = some (some (.ref f_given_up))) (l_given_up : K.lookup f_given_up = some ⟨oc_given_up, od_given_up, .func (PySem.W.fnOf "given_up" "given_up" (defArgs s_given_up) (defBody s_given_up) (defScope s_given_up) .none kV_given_up dc_given_up pm_given_up an_given_up cd_given_up ct_given_up), sl_given_up⟩) (c_given_up : PySem.W.codeIn K cd_given_up "given_up" = true) (k_given_up : PySem.W.keepIn K (.ref f_given_up) = true)
  (a_taken_on : PySem.W.nsIn K mainGlobals "taken_on" = some (some (.ref f_taken_on))) (l_taken_on : K.lookup f_taken_on = some ⟨oc_taken_on, od_taken_on, .func (PySem.W.fnOf "taken_on" "taken_on" (defArgs s_taken_on) (defBody s_taken_on) (defScope s_taken_on) .none kV_taken_on dc_taken_on pm_taken_on an_taken_on cd_taken_on ct_taken_on), sl_taken_on⟩) (c_taken_on : PySem.W.codeIn K cd_taken_on "taken_on" = true) (k_taken_on : PySem.W.keepIn K (.ref f_taken_on) = true)
  (a__law_cell_at : PySem.W.nsIn K mainGlobals "_law_cell_at" = some (some (.ref f__law_cell_at))) (l__law_cell_at : K.lookup f__law_cell_at = some ⟨oc__law_cell_at, od__law_cell_at, .func (PySem.W.fnOf "_law_cell_at" "_law_cell_at" (defArgs s__law_cell_at) (defBody s__law_cell_at) (defScope s__law_cell_at) .none kV__law_cell_at dc__law_cell_at pm__law_cell_at an__law_cell_at cd__law_cell_at ct__law_cell_at), sl__law_cell_at⟩) (c__law_cell_at : PySem.W.codeIn K cd__law_cell_at "_law_cell_at" = true) (k__law_cell_at : PySem.W.keepIn K (.ref f__law_cell_at) = true)
  (a__law_mixed : PySem.W.nsIn K mainGlobals "_law_mixed" = some (some (.ref f__law_mixed))) (l__law_mixed : K.lookup f__law_mixed = some ⟨oc__law_mixed, od__law_mixed, .func (PySem.W.fnOf "_law_mixed" "_law_mixed" (defArgs s__law_mixed) (defBody s__law_mixed) (defScope s__law_mixed) .none kV__law_mixed dc__law_mixed pm__law_mixed an__law_mixed cd__law_mixed ct__law_mixed), sl__law_mixed⟩) (c__law_mixed : PySem.W.codeIn K cd__law_mixed "_law_mixed" = true) (k__law_mixed : PySem.W.keepIn K (.ref f__law_mixed) = true)
  (a__law_names_by : PySem.W.nsIn K mainGlobals "_law_names_by" = some (some (.ref f__law_names_by))) (l__law_names_by : K.lookup f__law_names_by = some ⟨oc__law_names_by, od__law_names_by, .func (PySem.W.fnOf "_law_names_by" "_law_names_by" (defArgs s__law_names_by) (defBody s__law_names_by) (defScope s__law_names_by) .none kV__law_names_by dc__law_names_by pm__law_names_by an__law_names_by cd__law_names_by ct__law_names_by), sl__law_names_by⟩) (c__law_names_by : PySem.W.codeIn K cd__law_names_by "_law_names_by" = true) (k__law_names_by : PySem.W.keepIn K (.ref f__law_names_by) = true)
  (a__law_tree_by : PySem.W.nsIn K mainGlobals "_law_tree_by" = some (some (.ref f__law_tree_by))) (l__law_tree_by : K.lookup f__law_tree_by = some ⟨oc__law_tree_by, od__law_tree_by, .func (PySem.W.fnOf "_law_tree_by" "_law_tree_by" (defArgs s__law_tree_by) (defBody s__law_tree_by) (defScope s__law_tree_by) .none kV__law_tree_by dc__law_tree_by pm__law_tree_by an__law_tree_by cd__law_tree_by ct__law_tree_by), sl__law_tree_by⟩) (c__law_tree_by : PySem.W.codeIn K cd__law_tree_by "_law_tree_by" = true) (k__law_tree_by : PySem.W.keepIn K (.ref f__law_tree_by) = true)
  (a__law_column : PySem.W.nsIn K mainGlobals "_law_column" = some (some (.ref f__law_column))) (l__law_column : K.lookup f__law_column = some ⟨oc__law_column, od__law_column, .func (PySem.W.fnOf "_law_column" "_law_column" (defArgs s__law_column) (defBody s__law_column) (defScope s__law_column) .none kV__law_column dc__law_column pm__law_column an__law_column cd__law_column ct__law_column), sl__law_column⟩) (c__law_column : PySem.W.codeIn K cd__law_column "_law_column" = true) (k__law_column : PySem.W.keepIn K (.ref f__law_column) = true)
  (a__law_table : PySem.W.nsIn K mainGlobals "_law_table" = some (some (.ref f__law_table))) (l__law_table : K.lookup f__law_table = some ⟨oc__law_table, od__law_table, .func (PySem.W.fnOf "_law_table" "_law_table" (defArgs s__law_table) (defBody s__law_table) (defScope s__law_table) .none kV__law_table dc__law_table pm__law_table an__law_table cd__law_table ct__law_table), sl__law_table⟩) (c__law_table : PySem.W.codeIn K cd__law_table "_law_table" = true) (k__law_table : PySem.W.keepIn K (.ref f__law_table) = true)
  (a__law_do : PySem.W.nsIn K mainGlobals "_law_do" = some (some (.ref f__law_do))) (l__law_do : K.lookup f__law_do = some ⟨oc__law_do, od__law_do, .func (PySem.W.fnOf "_law_do" "_law_do" (defArgs s__law_do) (defBody s__law_do) (defScope s__law_do) .none kV__law_do dc__law_do pm__law_do an__law_do cd__law_do ct__law_do), sl__law_do⟩) (c__law_do : PySem.W.codeIn K cd__law_do "_law_do" = true) (k__law_do : PySem.W.keepIn K (.ref f__law_do) = true)
  (a__law_state : PySem.W.nsIn K mainGlobals "_law_state" = some (some (.ref f__law_state))) (l__law_state : K.lookup f__law_state = some ⟨oc__law_state, od__law_state, .func (PySem.W.fnOf "_law_state" "_law_state" (defArgs s__law_state) (defBody s__law_state) (defScope s__law_state) .none kV__law_state dc__law_state pm__law_state an__law_state cd__law_state ct__law_state), sl__law_state⟩) (c__law_state : PySem.W.codeIn K cd__law_state "_law_state" = true) (k__law_state : PySem.W.keepIn K (.ref f__law_state) = true)
  (a_law : PySem.W.nsIn K mainGlobals "law" = some (some (.ref f_law))) (l_law : K.lookup f_law = some ⟨oc_law, od_law, .func (PySem.W.fnOf "law" "law" (defArgs s_law) (defBody s_law) (defScope s_law) .none kV_law dc_law pm_law an_law cd_law ct_law), sl_law⟩) (c_law : PySem.W.codeIn K cd_law "law" = true) (k_law : PySem.W.keepIn K (.ref f_law) = true)
  {e_Log : Addr} (a_Log : PySem.W.nsIn K mainGlobals "Log" = some (some (.ref e_Log))) (lg1 : PySem.W.plainGet K e_Log Str.empty = true) (lg2 : PySem.W.hasDictIn K e_Log = true) (lg3 : PySem.W.plainOver K e_Log = true) (lg4 : PySem.W.findIn K (.ref e_Log) "__setattr__" = some (some (.builtin "object.__setattr__"))) (lg5 : PySem.W.findIn K (.ref e_Log) "standing" = some none) (lg6 : PySem.W.findIn K (.ref e_Log) "undone" = some none) (lg7 : PySem.W.makesIn K e_Log = true) (lg8 : PySem.W.keepIn K (.ref e_Log) = true)
  (at_Log___init__ : PySem.W.findIn K (.ref e_Log) "__init__" = some (some (.ref f_Log___init__))) (l_Log___init__ : K.lookup f_Log___init__ = some ⟨oc_Log___init__, od_Log___init__, .func (PySem.W.fnOf "__init__" "Log.__init__" (defArgs s_Log___init__) (defBody s_Log___init__) (defScope s_Log___init__) .none kV_Log___init__ dc_Log___init__ pm_Log___init__ an_Log___init__ cd_Log___init__ ct_Log___init__), sl_Log___init__⟩) (c_Log___init__ : PySem.W.codeIn K cd_Log___init__ "Log.__init__" = true) (k_Log___init__ : PySem.W.keepIn K (.ref f_Log___init__) = true) (if_Log___init__ : PySem.W.isFn K (.ref f_Log___init__) = true)
  (at_Log_mind : PySem.W.findIn K (.ref e_Log) "mind" = some (some (.ref f_Log_mind))) (l_Log_mind : K.lookup f_Log_mind = some ⟨oc_Log_mind, od_Log_mind, .func (PySem.W.fnOf "mind" "Log.mind" (defArgs s_Log_mind) (defBody s_Log_mind) (defScope s_Log_mind) .none kV_Log_mind dc_Log_mind pm_Log_mind an_Log_mind cd_Log_mind ct_Log_mind), sl_Log_mind⟩) (c_Log_mind : PySem.W.codeIn K cd_Log_mind "Log.mind" = true) (k_Log_mind : PySem.W.keepIn K (.ref f_Log_mind) = true) (if_Log_mind : PySem.W.isFn K (.ref f_Log_mind) = true)
  (at_Log_minds : PySem.W.findIn K (.ref e_Log) "minds" = some (some (.ref f_Log_minds))) (l_Log_minds : K.lookup f_Log_minds = some ⟨oc_Log_minds, od_Log_minds, .func (PySem.W.fnOf "minds" "Log.minds" (defArgs s_Log_minds) (defBody s_Log_minds) (defScope s_Log_minds) .none kV_Log_minds dc_Log_minds pm_Log_minds an_Log_minds cd_Log_minds ct_Log_minds), sl_Log_minds⟩) (c_Log_minds : PySem.W.codeIn K cd_Log_minds "Log.minds" = true) (k_Log_minds : PySem.W.keepIn K (.ref f_Log_minds) = true) (if_Log_minds : PySem.W.isFn K (.ref f_Log_minds) = true)
  (at_Log_backs : PySem.W.findIn K (.ref e_Log) "backs" = some (some (.ref f_Log_backs))) (l_Log_backs : K.lookup f_Log_backs = some ⟨oc_Log_backs, od_Log_backs, .func (PySem.W.fnOf "backs" "Log.backs" (defArgs s_Log_backs) (defBody s_Log_backs) (defScope s_Log_backs) .none kV_Log_backs dc_Log_backs pm_Log_backs an_Log_backs cd_Log_backs ct_Log_backs), sl_Log_backs⟩) (c_Log_backs : PySem.W.codeIn K cd_Log_backs "Log.backs" = true) (k_Log_backs : PySem.W.keepIn K (.ref f_Log_backs) = true) (if_Log_backs : PySem.W.isFn K (.ref f_Log_backs) = true)
  (at_Log_agains : PySem.W.findIn K (.ref e_Log) "agains" = some (some (.ref f_Log_agains))) (l_Log_agains : K.lookup f_Log_agains = some ⟨oc_Log_agains, od_Log_agains, .func (PySem.W.fnOf "agains" "Log.agains" (defArgs s_Log_agains) (defBody s_Log_agains) (defScope s_Log_agains) .none kV_Log_agains dc_Log_agains pm_Log_agains an_Log_agains cd_Log_agains ct_Log_agains), sl_Log_agains⟩) (c_Log_agains : PySem.W.codeIn K cd_Log_agains "Log.agains" = true) (k_Log_agains : PySem.W.keepIn K (.ref f_Log_agains) = true) (if_Log_agains : PySem.W.isFn K (.ref f_Log_agains) = true)
  (at_Log_lay : PySem.W.findIn K (.ref e_Log) "lay" = some (some (.ref f_Log_lay))) (l_Log_lay : K.lookup f_Log_lay = some ⟨oc_Log_lay, od_Log_lay, .func (PySem.W.fnOf "lay" "Log.lay" (defArgs s_Log_lay) (defBody s_Log_lay) (defScope s_Log_lay) .none kV_Log_lay dc_Log_lay pm_Log_lay an_Log_lay cd_Log_lay ct_Log_lay), sl_Log_lay⟩) (c_Log_lay : PySem.W.codeIn K cd_Log_lay "Log.lay" = true) (k_Log_lay : PySem.W.keepIn K (.ref f_Log_lay) = true) (if_Log_lay : PySem.W.isFn K (.ref f_Log_lay) = true)
  (at_Log_take : PySem.W.findIn K (.ref e_Log) "take" = some (some (.ref f_Log_take))) (l_Log_take : K.lookup f_Log_take = some ⟨oc_Log_take, od_Log_take, .func (PySem.W.fnOf "take" "Log.take" (defArgs s_Log_take) (defBody s_Log_take) (defScope s_Log_take) .none kV_Log_take dc_Log_take pm_Log_take an_Log_take cd_Log_take ct_Log_take), sl_Log_take⟩) (c_Log_take : PySem.W.codeIn K cd_Log_take "Log.take" = true) (k_Log_take : PySem.W.keepIn K (.ref f_Log_take) = true) (if_Log_take : PySem.W.isFn K (.ref f_Log_take) = true)
  (at_Log_give : PySem.W.findIn K (.ref e_Log) "give" = some (some (.ref f_Log_give))) (l_Log_give : K.lookup f_Log_give = some ⟨oc_Log_give, od_Log_give, .func (PySem.W.fnOf "give" "Log.give" (defArgs s_Log_give) (defBody s_Log_give) (defScope s_Log_give) .none kV_Log_give dc_Log_give pm_Log_give an_Log_give cd_Log_give ct_Log_give), sl_Log_give⟩) (c_Log_give : PySem.W.codeIn K cd_Log_give "Log.give" = true) (k_Log_give : PySem.W.keepIn K (.ref f_Log_give) = true) (if_Log_give : PySem.W.isFn K (.ref f_Log_give) = true)
  (at_Log_back : PySem.W.findIn K (.ref e_Log) "back" = some (some (.ref f_Log_back))) (l_Log_back : K.lookup f_Log_back = some ⟨oc_Log_back, od_Log_back, .func (PySem.W.fnOf "back" "Log.back" (defArgs s_Log_back) (defBody s_Log_back) (defScope s_Log_back) .none kV_Log_back dc_Log_back pm_Log_back an_Log_back cd_Log_back ct_Log_back), sl_Log_back⟩) (c_Log_back : PySem.W.codeIn K cd_Log_back "Log.back" = true) (k_Log_back : PySem.W.keepIn K (.ref f_Log_back) = true) (if_Log_back : PySem.W.isFn K (.ref f_Log_back) = true)
  (at_Log_again : PySem.W.findIn K (.ref e_Log) "again" = some (some (.ref f_Log_again))) (l_Log_again : K.lookup f_Log_again = some ⟨oc_Log_again, od_Log_again, .func (PySem.W.fnOf "again" "Log.again" (defArgs s_Log_again) (defBody s_Log_again) (defScope s_Log_again) .none kV_Log_again dc_Log_again pm_Log_again an_Log_again cd_Log_again ct_Log_again), sl_Log_again⟩) (c_Log_again : PySem.W.codeIn K cd_Log_again "Log.again" = true) (k_Log_again : PySem.W.keepIn K (.ref f_Log_again) = true) (if_Log_again : PySem.W.isFn K (.ref f_Log_again) = true)
  (z_enumerate : PySem.W.nsIn K mainGlobals "enumerate" = some none)
  (z_len : PySem.W.nsIn K mainGlobals "len" = some none)
  (z_list : PySem.W.nsIn K mainGlobals "list" = some none)
  (z_max : PySem.W.nsIn K mainGlobals "max" = some none)
  (z_range : PySem.W.nsIn K mainGlobals "range" = some none)
  (z_sorted : PySem.W.nsIn K mainGlobals "sorted" = some none)
  (z_tuple : PySem.W.nsIn K mainGlobals "tuple" = some none)
  {e_NoName : Addr} (a_NoName : PySem.W.nsIn K mainGlobals "NoName" = some (some (.ref e_NoName))) (n_NoName : (e_NoName == 0) = false)
  {e_Always : Addr} (a_Always : PySem.W.nsIn K mainGlobals "Always" = some (some (.ref e_Always))) (n_Always : (e_Always == 0) = false)
  {e_Never : Addr} (a_Never : PySem.W.nsIn K mainGlobals "Never" = some (some (.ref e_Never))) (n_Never : (e_Never == 0) = false)
  {e_NoBack : Addr} (a_NoBack : PySem.W.nsIn K mainGlobals "NoBack" = some (some (.ref e_NoBack))) (n_NoBack : (e_NoBack == 0) = false)
  {e_NoAgain : Addr} (a_NoAgain : PySem.W.nsIn K mainGlobals "NoAgain" = some (some (.ref e_NoAgain))) (n_NoAgain : (e_NoAgain == 0) = false)
  (xk_NoName : PySem.W.keepIn K (.ref e_NoName) = true) (xq_NoName : PySem.W.excIn K e_NoName [.type "ValueError", .type "Exception", .type "BaseException", .type "object"] "ValueError.__new__" = true) (xb_NoName : PySem.W.subIn K (.ref e_NoName) (.type "BaseException") = some true) (xt_NoName : PySem.W.typeIn K (.ref e_NoName) = some (.type "type"))
  (xk_Always : PySem.W.keepIn K (.ref e_Always) = true) (xq_Always : PySem.W.excIn K e_Always [.type "ValueError", .type "Exception", .type "BaseException", .type "object"] "ValueError.__new__" = true) (xb_Always : PySem.W.subIn K (.ref e_Always) (.type "BaseException") = some true) (xt_Always : PySem.W.typeIn K (.ref e_Always) = some (.type "type"))
  (xk_Never : PySem.W.keepIn K (.ref e_Never) = true) (xq_Never : PySem.W.excIn K e_Never [.type "ValueError", .type "Exception", .type "BaseException", .type "object"] "ValueError.__new__" = true) (xb_Never : PySem.W.subIn K (.ref e_Never) (.type "BaseException") = some true) (xt_Never : PySem.W.typeIn K (.ref e_Never) = some (.type "type"))
  (xk_NoBack : PySem.W.keepIn K (.ref e_NoBack) = true) (xq_NoBack : PySem.W.excIn K e_NoBack [.type "ValueError", .type "Exception", .type "BaseException", .type "object"] "ValueError.__new__" = true) (xb_NoBack : PySem.W.subIn K (.ref e_NoBack) (.type "BaseException") = some true) (xt_NoBack : PySem.W.typeIn K (.ref e_NoBack) = some (.type "type"))
  (xk_NoAgain : PySem.W.keepIn K (.ref e_NoAgain) = true) (xq_NoAgain : PySem.W.excIn K e_NoAgain [.type "ValueError", .type "Exception", .type "BaseException", .type "object"] "ValueError.__new__" = true) (xb_NoAgain : PySem.W.subIn K (.ref e_NoAgain) (.type "BaseException") = some true) (xt_NoAgain : PySem.W.typeIn K (.ref e_NoAgain) = some (.type "type"))
  : ∃ T : Txt K mg, T.d_law.f = fa ∧ ∀ (s : Shared) (v : Value), BindsTo s T.d_law.fd ⟨[v], []⟩ [("_law_script", v)] := by
  have e := hfa.symm.trans (PySem.W.mg_of X G a_law)
  cases e
  have F_parts_of := fun_mk (st := s_parts_of) l_parts_of c_parts_of k_parts_of
  have b_parts_of := F_parts_of.binds (ps := ["tree"]) fun _ _ _ _ _ _ us hl => by obtain ⟨_, rfl⟩ := us_1 us hl; rfl
  have F_gather := fun_mk (st := s_gather) l_gather c_gather k_gather
  have b_gather := F_gather.binds (ps := ["tree", "met"]) fun _ _ _ _ _ _ us hl => by obtain ⟨_, _, rfl⟩ := us_2 us hl; rfl
  have F_names_in := fun_mk (st := s_names_in) l_names_in c_names_in k_names_in
  have b_names_in := F_names_in.binds (ps := ["tree"]) fun _ _ _ _ _ _ us hl => by obtain ⟨_, rfl⟩ := us_1 us hl; rfl
  have F_look_names := fun_mk (st := s_look_names) l_look_names c_look_names k_look_names
  have b_look_names := F_look_names.binds (ps := ["names", "tree"]) fun _ _ _ _ _ _ us hl => by obtain ⟨_, _, rfl⟩ := us_2 us hl; rfl
  have F_full := fun_mk (st := s_full) l_full c_full k_full
  have b_full := F_full.binds (ps := ["names"]) fun _ _ _ _ _ _ us hl => by obtain ⟨_, rfl⟩ := us_1 us hl; rfl
  have F_column := fun_mk (st := s_column) l_column c_column k_column
  have b_column := F_column.binds (ps := ["many", "place"]) fun _ _ _ _ _ _ us hl => by obtain ⟨_, _, rfl⟩ := us_2 us hl; rfl
  have F_table_within := fun_mk (st := s_table_within) l_table_within c_table_within k_table_within
  have b_table_within := F_table_within.binds (ps := ["names", "tree"]) fun _ _ _ _ _ _ us hl => by obtain ⟨_, _, rfl⟩ := us_2 us hl; rfl
  have F_table := fun_mk (st := s_table) l_table c_table k_table
  have b_table := F_table.binds (ps := ["names", "tree"]) fun _ _ _ _ _ _ us hl => by obtain ⟨_, _, rfl⟩ := us_2 us hl; rfl
  have F_flat := fun_mk (st := s_flat) l_flat c_flat k_flat
  have b_flat := F_flat.binds (ps := ["names"]) fun _ _ _ _ _ _ us hl => by obtain ⟨_, rfl⟩ := us_1 us hl; rfl
  have F_least_rank := fun_mk (st := s_least_rank) l_least_rank c_least_rank k_least_rank
  have b_least_rank := F_least_rank.binds (ps := ["ranks", "side"]) fun _ _ _ _ _ _ us hl => by obtain ⟨_, _, rfl⟩ := us_2 us hl; rfl
  have F_firmness := fun_mk (st := s_firmness) l_firmness c_firmness k_firmness
  have b_firmness := F_firmness.binds (ps := ["mind", "tree"]) fun _ _ _ _ _ _ us hl => by obtain ⟨_, _, rfl⟩ := us_2 us hl; rfl
  have F_keeps := fun_mk (st := s_keeps) l_keeps c_keeps k_keeps
  have b_keeps := F_keeps.binds (ps := ["truth", "world"]) fun _ _ _ _ _ _ us hl => by obtain ⟨_, _, rfl⟩ := us_2 us hl; rfl
  have F_turned := fun_mk (st := s_turned) l_turned c_turned k_turned
  have b_turned := F_turned.binds (ps := ["mind", "tree", "lean"]) fun _ _ _ _ _ _ us hl => by obtain ⟨_, _, _, rfl⟩ := us_3 us hl; rfl
  have F_given_up := fun_mk (st := s_given_up) l_given_up c_given_up k_given_up
  have b_given_up := F_given_up.binds (ps := ["mind", "tree"]) fun _ _ _ _ _ _ us hl => by obtain ⟨_, _, rfl⟩ := us_2 us hl; rfl
  have F_taken_on := fun_mk (st := s_taken_on) l_taken_on c_taken_on k_taken_on
  have b_taken_on := F_taken_on.binds (ps := ["mind", "tree", "firm"]) fun _ _ _ _ _ _ us hl => by obtain ⟨_, _, _, rfl⟩ := us_3 us hl; rfl
  have F__law_cell_at := fun_mk (st := s__law_cell_at) l__law_cell_at c__law_cell_at k__law_cell_at
  have b__law_cell_at := F__law_cell_at.binds (ps := ["_law_script", "_law_k"]) fun _ _ _ _ _ _ us hl => by obtain ⟨_, _, rfl⟩ := us_2 us hl; rfl
  have F__law_mixed := fun_mk (st := s__law_mixed) l__law_mixed c__law_mixed k__law_mixed
  have b__law_mixed := F__law_mixed.binds (ps := ["_law_cell", "_law_k"]) fun _ _ _ _ _ _ us hl => by obtain ⟨_, _, rfl⟩ := us_2 us hl; rfl
  have F__law_names_by := fun_mk (st := s__law_names_by) l__law_names_by c__law_names_by k__law_names_by
  have b__law_names_by := F__law_names_by.binds (ps := ["_law_cell", "_law_many"]) fun _ _ _ _ _ _ us hl => by obtain ⟨_, _, rfl⟩ := us_2 us hl; rfl
  have F__law_tree_by := fun_mk (st := s__law_tree_by) l__law_tree_by c__law_tree_by k__law_tree_by
  have b__law_tree_by := F__law_tree_by.binds (ps := ["_law_names", "_law_cell", "_law_deep"]) fun _ _ _ _ _ _ us hl => by obtain ⟨_, _, _, rfl⟩ := us_3 us hl; rfl
  have F__law_column := fun_mk (st := s__law_column) l__law_column c__law_column k__law_column
  have b__law_column := F__law_column.binds (ps := ["_law_many", "_law_place"]) fun _ _ _ _ _ _ us hl => by obtain ⟨_, _, rfl⟩ := us_2 us hl; rfl
  have F__law_table := fun_mk (st := s__law_table) l__law_table c__law_table k__law_table
  have b__law_table := F__law_table.binds (ps := ["_law_names", "_law_tree"]) fun _ _ _ _ _ _ us hl => by obtain ⟨_, _, rfl⟩ := us_2 us hl; rfl
  have F__law_do := fun_mk (st := s__law_do) l__law_do c__law_do k__law_do
  have b__law_do := F__law_do.binds (ps := ["_law_log", "_law_names", "_law_cell", "_law_k"]) fun _ _ _ _ _ _ us hl => by obtain ⟨_, _, _, _, rfl⟩ := us_4 us hl; rfl
  have F__law_state := fun_mk (st := s__law_state) l__law_state c__law_state k__law_state
  have b__law_state := F__law_state.binds (ps := ["_law_log"]) fun _ _ _ _ _ _ us hl => by obtain ⟨_, rfl⟩ := us_1 us hl; rfl
  have F_law := fun_mk (st := s_law) l_law c_law k_law
  have b_law := F_law.binds (ps := ["_law_script"]) fun _ _ _ _ _ _ us hl => by obtain ⟨_, rfl⟩ := us_1 us hl; rfl
  have F_Log___init__ := fun_mk (st := s_Log___init__) l_Log___init__ c_Log___init__ k_Log___init__
  have b_Log___init__ := F_Log___init__.binds (ps := ["self", "names"]) fun _ _ _ _ _ _ us hl => by obtain ⟨_, _, rfl⟩ := us_2 us hl; rfl
  have F_Log_mind := fun_mk (st := s_Log_mind) l_Log_mind c_Log_mind k_Log_mind
  have b_Log_mind := F_Log_mind.binds (ps := ["self"]) fun _ _ _ _ _ _ us hl => by obtain ⟨_, rfl⟩ := us_1 us hl; rfl
  have F_Log_minds := fun_mk (st := s_Log_minds) l_Log_minds c_Log_minds k_Log_minds
  have b_Log_minds := F_Log_minds.binds (ps := ["self"]) fun _ _ _ _ _ _ us hl => by obtain ⟨_, rfl⟩ := us_1 us hl; rfl
  have F_Log_backs := fun_mk (st := s_Log_backs) l_Log_backs c_Log_backs k_Log_backs
  have b_Log_backs := F_Log_backs.binds (ps := ["self"]) fun _ _ _ _ _ _ us hl => by obtain ⟨_, rfl⟩ := us_1 us hl; rfl
  have F_Log_agains := fun_mk (st := s_Log_agains) l_Log_agains c_Log_agains k_Log_agains
  have b_Log_agains := F_Log_agains.binds (ps := ["self"]) fun _ _ _ _ _ _ us hl => by obtain ⟨_, rfl⟩ := us_1 us hl; rfl
  have F_Log_lay := fun_mk (st := s_Log_lay) l_Log_lay c_Log_lay k_Log_lay
  have b_Log_lay := F_Log_lay.binds (ps := ["self", "mind"]) fun _ _ _ _ _ _ us hl => by obtain ⟨_, _, rfl⟩ := us_2 us hl; rfl
  have F_Log_take := fun_mk (st := s_Log_take) l_Log_take c_Log_take k_Log_take
  have b_Log_take := F_Log_take.binds (ps := ["self", "tree", "firm"]) fun _ _ _ _ _ _ us hl => by obtain ⟨_, _, _, rfl⟩ := us_3 us hl; rfl
  have F_Log_give := fun_mk (st := s_Log_give) l_Log_give c_Log_give k_Log_give
  have b_Log_give := F_Log_give.binds (ps := ["self", "tree"]) fun _ _ _ _ _ _ us hl => by obtain ⟨_, _, rfl⟩ := us_2 us hl; rfl
  have F_Log_back := fun_mk (st := s_Log_back) l_Log_back c_Log_back k_Log_back
  have b_Log_back := F_Log_back.binds (ps := ["self"]) fun _ _ _ _ _ _ us hl => by obtain ⟨_, rfl⟩ := us_1 us hl; rfl
  have F_Log_again := fun_mk (st := s_Log_again) l_Log_again c_Log_again k_Log_again
  have b_Log_again := F_Log_again.binds (ps := ["self"]) fun _ _ _ _ _ _ us hl => by obtain ⟨_, rfl⟩ := us_1 us hl; rfl
  have hC : logC K = e_Log := by unfold logC; rw [a_Log]
  subst hC
  exact ⟨⟨⟨_, _, F_parts_of, PySem.W.mg_of X G a_parts_of, b_parts_of⟩, ⟨_, _, F_gather, PySem.W.mg_of X G a_gather, b_gather⟩, ⟨_, _, F_names_in, PySem.W.mg_of X G a_names_in, b_names_in⟩, ⟨_, _, F_look_names, PySem.W.mg_of X G a_look_names, b_look_names⟩, ⟨_, _, F_full, PySem.W.mg_of X G a_full, b_full⟩, ⟨_, _, F_column, PySem.W.mg_of X G a_column, b_column⟩, ⟨_, _, F_table_within, PySem.W.mg_of X G a_table_within, b_table_within⟩, ⟨_, _, F_table, PySem.W.mg_of X G a_table, b_table⟩, ⟨_, _, F_flat, PySem.W.mg_of X G a_flat, b_flat⟩, ⟨_, _, F_least_rank, PySem.W.mg_of X G a_least_rank, b_least_rank⟩, ⟨_, _, F_firmness, PySem.W.mg_of X G a_firmness, b_firmness⟩, ⟨_, _, F_keeps, PySem.W.mg_of X G a_keeps, b_keeps⟩, ⟨_, _, F_turned, PySem.W.mg_of X G a_turned, b_turned⟩, ⟨_, _, F_given_up, PySem.W.mg_of X G a_given_up, b_given_up⟩, ⟨_, _, F_taken_on, PySem.W.mg_of X G a_taken_on, b_taken_on⟩, ⟨_, _, F__law_cell_at, PySem.W.mg_of X G a__law_cell_at, b__law_cell_at⟩, ⟨_, _, F__law_mixed, PySem.W.mg_of X G a__law_mixed, b__law_mixed⟩, ⟨_, _, F__law_names_by, PySem.W.mg_of X G a__law_names_by, b__law_names_by⟩, ⟨_, _, F__law_tree_by, PySem.W.mg_of X G a__law_tree_by, b__law_tree_by⟩, ⟨_, _, F__law_column, PySem.W.mg_of X G a__law_column, b__law_column⟩, ⟨_, _, F__law_table, PySem.W.mg_of X G a__law_table, b__law_table⟩, ⟨_, _, F__law_do, PySem.W.mg_of X G a__law_do, b__law_do⟩, ⟨_, _, F__law_state, PySem.W.mg_of X G a__law_state, b__law_state⟩, ⟨_, _, F_law, PySem.W.mg_of X G a_law, b_law⟩, ⟨_, _, F_Log___init__, ⟨at_Log___init__, if_Log___init__, k_Log___init__⟩, b_Log___init__⟩, ⟨_, _, F_Log_mind, ⟨at_Log_mind, if_Log_mind, k_Log_mind⟩, b_Log_mind⟩, ⟨_, _, F_Log_minds, ⟨at_Log_minds, if_Log_minds, k_Log_minds⟩, b_Log_minds⟩, ⟨_, _, F_Log_backs, ⟨at_Log_backs, if_Log_backs, k_Log_backs⟩, b_Log_backs⟩, ⟨_, _, F_Log_agains, ⟨at_Log_agains, if_Log_agains, k_Log_agains⟩, b_Log_agains⟩, ⟨_, _, F_Log_lay, ⟨at_Log_lay, if_Log_lay, k_Log_lay⟩, b_Log_lay⟩, ⟨_, _, F_Log_take, ⟨at_Log_take, if_Log_take, k_Log_take⟩, b_Log_take⟩, ⟨_, _, F_Log_give, ⟨at_Log_give, if_Log_give, k_Log_give⟩, b_Log_give⟩, ⟨_, _, F_Log_back, ⟨at_Log_back, if_Log_back, k_Log_back⟩, b_Log_back⟩, ⟨_, _, F_Log_again, ⟨at_Log_again, if_Log_again, k_Log_again⟩, b_Log_again⟩, PySem.W.mg_none_of X G z_enumerate, PySem.W.mg_none_of X G z_len, PySem.W.mg_none_of X G z_list, PySem.W.mg_none_of X G z_max, PySem.W.mg_none_of X G z_range, PySem.W.mg_none_of X G z_sorted, PySem.W.mg_none_of X G z_tuple, xh_of X G 3 a_NoName n_NoName, xh_of X G 4 a_Always n_Always, xh_of X G 5 a_Never n_Never, xh_of X G 8 a_NoBack n_NoBack, xh_of X G 9 a_NoAgain n_NoAgain, xr_of X G 3 a_NoName n_NoName xk_NoName xq_NoName xb_NoName xt_NoName, xr_of X G 4 a_Always n_Always xk_Always xq_Always xb_Always xt_Always, xr_of X G 5 a_Never n_Never xk_Never xq_Never xb_Never xt_Never, xr_of X G 8 a_NoBack n_NoBack xk_NoBack xq_NoBack xb_NoBack xt_NoBack, xr_of X G 9 a_NoAgain n_NoAgain xk_NoAgain xq_NoAgain xb_NoAgain xt_NoAgain, ⟨⟨lg1, lg2, lg3, lg4⟩, fun b => by cases b; exact lg5; exact lg6⟩, PySem.W.mg_of X G a_Log, ⟨lg7, at_Log___init__, if_Log___init__, lg8⟩⟩, rfl, fun s v => .of_eq rfl⟩
theorem walk {l : PySem.W.OpenLaw} {q : Program} {loose : List Str} {XP : (Str → Option Value) → Heap → Prop} {YP : World → Heap → Prop} {d : DefRec} {K : Params → PySem.W.Frag} (hn : l.most = some 63) (hdf : d.params.defaults = [])
    (main : ∀ ns : List Int, ns.length ≤ 63 → ∃ fin, (F 100).law [.val (.scr ns)] = .ok (.val (.bl true)) fin)
    (hY : ∀ (w : World) (h : Heap), YP w h → (K w.params).In h)
    (TT : ∀ (w : World) (mg : Str → Option Value) (fa : Addr) (h : Heap), (K w.params).In h → h.Ns mainGlobals mg → mg d.name = some (.ref fa) → ∃ T : Txt (K w.params) mg, T.d_law.f = fa ∧ ∀ (s : Shared) (v : Value), BindsTo s T.d_law.fd ⟨[v], []⟩ [("_law_script", v)]) :
    PySem.W.WalkO q loose XP YP l.row.toRowW d [] (fun f vs => PySem.call f vs) :=
  L2.walk_of (n := 63) (k := 200) (x := "_law_script") (CX := fun w => L2.CX l.prog w) (sp := fun w => spG (K w.params) (clsOf (K w.params)) 1 (F 100).law) hn (by decide) hdf ⟨rfl, by decide, by decide⟩ hY
    (fun w mg fa h KX G hmg => by
      obtain ⟨T, rfl, hb⟩ := TT w mg fa h KX G hmg
      exact ⟨T.d_law.fd, hb, fun base _ _ => (allF (P := l.prog) (w := w) (base := base) (T := T) 100).law⟩)
    (fun w H a ns hl _ hS => law_sp (main ns hl) hS) fun w H s e s' => law_cx H s e s'
end Wk56
set_option Elab.async false
set_option linter.all false
set_option maxRecDepth 100000
set_option maxHeartbeats 800000
set_option exponentiation.threshold 20000
namespace Wk56
open PySem PySem.Spec PyProof.Rows L2 PL
theorem cell_K (n : Nat) : CellOk (F (n + 1))._law_cell_at := cell_ok
theorem gather_k : ∀ n : Nat, GatherOk n (F (n + 1)).gather
  | 0 => fun t xs h => absurd (T.depth_pos t) (by omega)
  | n + 1 => gather_ok parts_ok (gather_k n)
theorem nin_k (n : Nat) : NamesInOk n (F (n + 2)).names_in := names_in_ok (gather_k n)
theorem look_k (n : Nat) : LookOk n (F (n + 3)).look_names := look_ok (nin_k n)
theorem tabw_k' : ∀ n : Nat, TabWOk n (F (n + 1)).table_within
  | 0 => fun ns t h1 h2 h3 => absurd (T.depth_pos t) (by omega)
  | n + 1 => tabw_ok col_ok full_ok (tabw_k' n)
theorem table_K (n : Nat) : TabK (F (n + 40)).table := tab_k (n := n + 36) (tab_ok (look_k (n + 36)) fun ns t h1 h2 h3 => tabw_k' (n + 38) ns t h1 h2 (by omega)) (by omega)
theorem full_K (n : Nat) : FullK (F (n + 1)).full := full_k full_ok
theorem least_K (n : Nat) : LeastK (F (n + 1)).least_rank := least_ok
theorem firm_K (n : Nat) : FirmK (F (n + 41)).firmness := firm_ok (full_K (n + 39)) (table_K n) (least_K (n + 39))
theorem turn_K (n : Nat) : TurnK (F (n + 41)).turned := turned_ok (table_K n) (full_K (n + 39)) (least_K (n + 39)) keeps_ok
theorem give_K (n : Nat) : GiveK (F (n + 42)).given_up := give_ok (firm_K n) (turn_K n)
theorem take_K (n : Nat) : TakeK (F (n + 42)).taken_on := take_ok (table_K (n + 1)) (full_K (n + 40)) (turn_K n)
theorem flat_K (n : Nat) : FlatK (F (n + 1)).flat := flat_ok
theorem names_K (n : Nat) : NamesDOk (F (n + 1))._law_names_by := namesDD_ok
theorem init_K (n : Nat) : InitK (F (n + 2)).Log___init__ (F (n + 1)).flat := init_ok
theorem mind_L (n : Nat) : MindLK (F (n + 1)).Log_mind := mindL_ok
theorem minds_L (n : Nat) : MindsLK (F (n + 1)).Log_minds := mindsL_ok
theorem backs_L (n : Nat) : BacksLK (F (n + 1)).Log_backs := backsL_ok
theorem agains_L (n : Nat) : AgainsLK (F (n + 1)).Log_agains := againsL_ok
theorem lay_L (n : Nat) : LayK (F (n + 1)).Log_lay := lay_ok
theorem take_L (n : Nat) : Deed3K (F (n + 2)).Log_take (F (n + 1)).taken_on := takeL_ok (mind_L n) (lay_L n)
theorem give_L (n : Nat) : Deed2K (F (n + 2)).Log_give (F (n + 1)).given_up := giveL_ok (mind_L n) (lay_L n)
theorem back_L (n : Nat) : BackLK (F (n + 1)).Log_back := backL_ok
theorem again_L (n : Nat) : AgainLK (F (n + 1)).Log_again := againL_ok
theorem mixed_K (n : Nat) : MixedK (F (n + 1))._law_mixed := mixed_ok
theorem ltable_k : ∀ n : Nat, TabWOk n (F (n + 1))._law_table
  | 0 => fun ns t h1 h2 h3 => absurd (T.depth_pos t) (by omega)
  | n + 1 => ltableD_ok colL_ok (ltable_k n)
theorem ltable_K (n : Nat) : TabK (F (n + 40))._law_table := tabw_k (n := n + 39) (ltable_k (n + 39)) (by omega)
theorem tree_k (n : Nat) : ∀ d : Nat, TreeCOk d (F (n + d + 1))._law_tree_by
  | 0 => treeD_ok fun ns c k hn hk => absurd hk (by omega)
  | d + 1 => treeD_ok fun ns c k hn hk => tree_k n d ns c k hn (by omega)
theorem takeX_K (n : Nat) : TakeXT (F (n + 42)).taken_on := fun ns rs t firm hn hT ha => takeAll_ok (table_K (n + 1)) (full_K (n + 40)) ns rs t firm hn hT ha
theorem state_K (n : Nat) : StateLK (F (n + 2))._law_state := stateL_ok (agains_L n) (backs_L n) (minds_L n) (mind_L n)
theorem do_K (n : Nat) : DoCK (F (n + 50))._law_do :=
  doC_ok (mixed_K (n + 48)) (back_L (n + 48)) (again_L (n + 48)) (tree_k (n + 44) 4) (ltable_K (n + 9)) (give_L (n + 47)) (take_L (n + 47)) (give_K (n + 6)) (take_K (n + 6)) (takeX_K (n + 6)) (backs_L (n + 48)) (agains_L (n + 48))
abbrev two (a b : OT) : Sl := .big (.node .lst [a, b])
def CI (nsA nsB : List (List Nat)) (a0 a1 : Sl) (i : Nat) (ρ : List Sl) : Prop := ∃ (sA uA sB uB K : List D) (dA dB : D) (x7 x8 x9 x10 x11 : Sl),
  ρ = [a0, a1, .own (.lst [nmD nsA, nmD nsB]), two (logO (sA ++ [dA]) uA) (logO (sB ++ [dB]) uB), two (logO (sA ++ [dA]) uA) (logO (sB ++ [dB]) uB), .own (.lst K), .own (.lst K), x7, x8, x9, x10, x11] ∧
    mnds nsA (sA ++ [dA]) ∧ mnds nsA uA ∧ mnds nsB (sB ++ [dB]) ∧ mnds nsB uB ∧ sA.length ≤ i ∧ uA.length ≤ i ∧ sB.length ≤ i ∧ uB.length ≤ i ∧ K.length = i ∧ ∀ d ∈ K, Okd 3 d
theorem hd_of (l : List D) (d : D) : ∃ x, L2.atI (l ++ [d]) 0 = some x := by
  cases l with
  | nil => exact ⟨d, rfl⟩
  | cons a r => exact ⟨a, by
    have h := atI_of (a :: r ++ [d]) 0 (by simp)
    simpa using h⟩
theorem okd_mnds {ns : List (List Nat)} (hn : okN ns) {l : List D} (h : mnds ns l) : Okd 3 (.lst l) := okd_lst fun y hy => by
  obtain ⟨r, rfl, _⟩ := h y hy
  exact okd_mind hn.2.2.2 r
theorem body (k : Nat) (nsA nsB : List (List Nat)) (hA : okN nsA) (hB : okN nsB) (a0 a1 : Sl) (i : Nat) (hi : i < 63) (c : Int) (ρ : List Sl) (g : CI nsA nsB a0 a1 i ρ) : Nxt (CI nsA nsB a0 a1 (i + 1)) (LL1 (F (k + 59)) (setS ρ [(7, .int (i : Nat)), (8, .int c)])) := by
  obtain ⟨sA, uA, sB, uB, K, dA, dB, x7, x8, x9, x10, x11, rfl, mA, nA, mB, nB, l1, l2, l3, l4, lK, hK⟩ := g
  have hmn : ∀ st un : List D, (F (k + 59)).Log_minds [lgS st un] = .ok (.lst st) := fun st un => minds_L (k + 58) st un
  have q2 : c / 2 % 2 = 0 ∨ c / 2 % 2 = 1 := by omega
  have q4 : c / 4 % 2 = 0 ∨ c / 4 % 2 = 1 := by omega
  have hKL : ∀ l : List D, Okd 3 (.lst l) → ∀ d ∈ K ++ [.lst l], Okd 3 d := fun l hl d hd => by
    rcases List.mem_append.mp hd with hd | hd
    · exact hK d hd
    · rw [List.mem_singleton.mp hd]; exact hl
  by_cases q1 : c % 2 = 0
  · obtain ⟨st', un', d', h1, m1, m2, e1, e2⟩ := do_K (k + 9) nsA sA uA dA c (i : Nat) hA mA nA (by omega) (by omega) (by omega) (by omega)
    have h1 : (F (k + 59))._law_do [lgS (sA ++ [dA]) uA, .val (nmD nsA), .val (.int c), .val (.int (i : Nat))] = _ := h1
    have fin : ∀ (l : List D) (x7 x8 x9 x10 x11 : Sl), Okd 3 (.lst l) → CI nsA nsB a0 a1 (i + 1) [a0, a1, .own (.lst [nmD nsA, nmD nsB]), two (logO (st' ++ [d']) un') (logO (sB ++ [dB]) uB), two (logO (st' ++ [d']) un') (logO (sB ++ [dB]) uB), .own (.lst (K ++ [.lst l])), .own (.lst (K ++ [.lst l])), x7, x8, x9, x10, x11] := fun l x7 x8 x9 x10 x11 hl =>
      ⟨st', un', sB, uB, K ++ [.lst l], d', dB, x7, x8, x9, x10, x11, rfl, m1, m2, mB, nB, by omega, by omega, by omega, by omega, by simp [lK], hKL l hl⟩
    have o1 := okd_mnds hA m1
    have o2 := okd_mnds hB mB
    have f1 : ∀ x7 x8 x9 x10 x11 : Sl, CI nsA nsB a0 a1 (i + 1) [a0, a1, .own (.lst [nmD nsA, nmD nsB]), two (logO (st' ++ [d']) un') (logO (sB ++ [dB]) uB), two (logO (st' ++ [d']) un') (logO (sB ++ [dB]) uB), .own (.lst (K ++ [.lst (st' ++ [d'])])), .own (.lst (K ++ [.lst (st' ++ [d'])])), x7, x8, x9, x10, x11] := fun x7 x8 x9 x10 x11 => fin _ x7 x8 x9 x10 x11 o1
    have f2 : ∀ x7 x8 x9 x10 x11 : Sl, CI nsA nsB a0 a1 (i + 1) [a0, a1, .own (.lst [nmD nsA, nmD nsB]), two (logO (st' ++ [d']) un') (logO (sB ++ [dB]) uB), two (logO (st' ++ [d']) un') (logO (sB ++ [dB]) uB), .own (.lst (K ++ [.lst (sB ++ [dB])])), .own (.lst (K ++ [.lst (sB ++ [dB])])), x7, x8, x9, x10, x11] := fun x7 x8 x9 x10 x11 => fin _ x7 x8 x9 x10 x11 o2
    clear fin hKL mA nA mB nB m1 m2 hK
    obtain ⟨y1, z1⟩ := hd_of st' d'
    obtain ⟨y2, z2⟩ := hd_of sB dB
    have b1 : (st' ++ [d']).length ≤ 100 := by simp; omega
    have b2 : (sB ++ [dB]).length ≤ 100 := by simp; omega
    have bK : K.length < 100 := by omega
    clear o1 o2 hA hB l1 l2 l3 l4 e1 e2 lK
    generalize CI nsA nsB a0 a1 (i + 1) = IP at *
    generalize nmD nsA = NA at *
    generalize nmD nsB = NB at *
    generalize sA ++ [dA] = SA at *
    generalize sB ++ [dB] = SB at *
    generalize st' ++ [d'] = ST at *
    rcases q2 with q2 | q2 <;> rcases q4 with q4 | q4
    · simp (disch := first | assumption | decide | omega | (simp only [List.length_append, List.length_cons, List.length_nil, List.length_map, List.length_reverse, List.length_replicate, List.length_range, List.length_take, List.length_drop, enD_length, rangeD_length]; first | decide | omega) | (simp; done) | fail) [decide_eq_true, decide_eq_false, kAsg, kNx, LL1, b_law_l1, h1, hmn, q1, q2, q4, z1, z2, f1, f2]
    · simp (disch := first | assumption | decide | omega | (simp only [List.length_append, List.length_cons, List.length_nil, List.length_map, List.length_reverse, List.length_replicate, List.length_range, List.length_take, List.length_drop, enD_length, rangeD_length]; first | decide | omega) | (simp; done) | fail) [decide_eq_true, decide_eq_false, kAsg, kNx, LL1, b_law_l1, h1, hmn, q1, q2, q4, z1, z2, f1, f2]
    · simp (disch := first | assumption | decide | omega | (simp only [List.length_append, List.length_cons, List.length_nil, List.length_map, List.length_reverse, List.length_replicate, List.length_range, List.length_take, List.length_drop, enD_length, rangeD_length]; first | decide | omega) | (simp; done) | fail) [decide_eq_true, decide_eq_false, kAsg, kNx, LL1, b_law_l1, h1, hmn, q1, q2, q4, z1, z2, f1, f2]
    · simp (disch := first | assumption | decide | omega | (simp only [List.length_append, List.length_cons, List.length_nil, List.length_map, List.length_reverse, List.length_replicate, List.length_range, List.length_take, List.length_drop, enD_length, rangeD_length]; first | decide | omega) | (simp; done) | fail) [decide_eq_true, decide_eq_false, kAsg, kNx, LL1, b_law_l1, h1, hmn, q1, q2, q4, z1, z2, f1, f2]
  · have q1 : c % 2 = 1 := by omega
    obtain ⟨st', un', d', h1, m1, m2, e1, e2⟩ := do_K (k + 9) nsB sB uB dB c (i : Nat) hB mB nB (by omega) (by omega) (by omega) (by omega)
    have h1 : (F (k + 59))._law_do [lgS (sB ++ [dB]) uB, .val (nmD nsB), .val (.int c), .val (.int (i : Nat))] = _ := h1
    have fin : ∀ (l : List D) (x7 x8 x9 x10 x11 : Sl), Okd 3 (.lst l) → CI nsA nsB a0 a1 (i + 1) [a0, a1, .own (.lst [nmD nsA, nmD nsB]), two (logO (sA ++ [dA]) uA) (logO (st' ++ [d']) un'), two (logO (sA ++ [dA]) uA) (logO (st' ++ [d']) un'), .own (.lst (K ++ [.lst l])), .own (.lst (K ++ [.lst l])), x7, x8, x9, x10, x11] := fun l x7 x8 x9 x10 x11 hl =>
      ⟨sA, uA, st', un', K ++ [.lst l], dA, d', x7, x8, x9, x10, x11, rfl, mA, nA, m1, m2, by omega, by omega, by omega, by omega, by simp [lK], hKL l hl⟩
    have o1 := okd_mnds hB m1
    have o2 := okd_mnds hA mA
    have f1 : ∀ x7 x8 x9 x10 x11 : Sl, CI nsA nsB a0 a1 (i + 1) [a0, a1, .own (.lst [nmD nsA, nmD nsB]), two (logO (sA ++ [dA]) uA) (logO (st' ++ [d']) un'), two (logO (sA ++ [dA]) uA) (logO (st' ++ [d']) un'), .own (.lst (K ++ [.lst (st' ++ [d'])])), .own (.lst (K ++ [.lst (st' ++ [d'])])), x7, x8, x9, x10, x11] := fun x7 x8 x9 x10 x11 => fin _ x7 x8 x9 x10 x11 o1
    have f2 : ∀ x7 x8 x9 x10 x11 : Sl, CI nsA nsB a0 a1 (i + 1) [a0, a1, .own (.lst [nmD nsA, nmD nsB]), two (logO (sA ++ [dA]) uA) (logO (st' ++ [d']) un'), two (logO (sA ++ [dA]) uA) (logO (st' ++ [d']) un'), .own (.lst (K ++ [.lst (sA ++ [dA])])), .own (.lst (K ++ [.lst (sA ++ [dA])])), x7, x8, x9, x10, x11] := fun x7 x8 x9 x10 x11 => fin _ x7 x8 x9 x10 x11 o2
    clear fin hKL mA nA mB nB m1 m2 hK
    obtain ⟨y1, z1⟩ := hd_of st' d'
    obtain ⟨y2, z2⟩ := hd_of sA dA
    have b1 : (st' ++ [d']).length ≤ 100 := by simp; omega
    have b2 : (sA ++ [dA]).length ≤ 100 := by simp; omega
    have bK : K.length < 100 := by omega
    clear o1 o2 hA hB l1 l2 l3 l4 e1 e2 lK
    generalize CI nsA nsB a0 a1 (i + 1) = IP at *
    generalize nmD nsA = NA at *
    generalize nmD nsB = NB at *
    generalize sA ++ [dA] = SA at *
    generalize sB ++ [dB] = SB at *
    generalize st' ++ [d'] = ST at *
    rcases q2 with q2 | q2 <;> rcases q4 with q4 | q4
    · simp (disch := first | assumption | decide | omega | (simp only [List.length_append, List.length_cons, List.length_nil, List.length_map, List.length_reverse, List.length_replicate, List.length_range, List.length_take, List.length_drop, enD_length, rangeD_length]; first | decide | omega) | (simp; done) | fail) [decide_eq_true, decide_eq_false, kAsg, kNx, LL1, b_law_l1, h1, hmn, q1, q2, q4, z1, z2, f1, f2]
    · simp (disch := first | assumption | decide | omega | (simp only [List.length_append, List.length_cons, List.length_nil, List.length_map, List.length_reverse, List.length_replicate, List.length_range, List.length_take, List.length_drop, enD_length, rangeD_length]; first | decide | omega) | (simp; done) | fail) [decide_eq_true, decide_eq_false, kAsg, kNx, LL1, b_law_l1, h1, hmn, q1, q2, q4, z1, z2, f1, f2]
    · simp (disch := first | assumption | decide | omega | (simp only [List.length_append, List.length_cons, List.length_nil, List.length_map, List.length_reverse, List.length_replicate, List.length_range, List.length_take, List.length_drop, enD_length, rangeD_length]; first | decide | omega) | (simp; done) | fail) [decide_eq_true, decide_eq_false, kAsg, kNx, LL1, b_law_l1, h1, hmn, q1, q2, q4, z1, z2, f1, f2]
    · simp (disch := first | assumption | decide | omega | (simp only [List.length_append, List.length_cons, List.length_nil, List.length_map, List.length_reverse, List.length_replicate, List.length_range, List.length_take, List.length_drop, enD_length, rangeD_length]; first | decide | omega) | (simp; done) | fail) [decide_eq_true, decide_eq_false, kAsg, kNx, LL1, b_law_l1, h1, hmn, q1, q2, q4, z1, z2, f1, f2]
theorem st_ne (ns : List (List Nat)) (hN : okN ns) (st un : List D) (d : D) (hM : mnds ns (st ++ [d])) : gNe (.tup [d, .lst (st ++ [d]), .int (st.length : Nat), .int (un.length : Nat)]) (.tup [d, .lst (st ++ [d]), .int (st.length : Nat), .int (un.length : Nat)]) = .ok false := by
  refine gNe_of (gEq_refl (n := 4) (okd_tup fun z hz => ?_) (by decide))
  have hz : z = d ∨ z = .lst (st ++ [d]) ∨ z = .int (st.length : Nat) ∨ z = .int (un.length : Nat) := by simpa using hz
  rcases hz with rfl | rfl | rfl | rfl
  · obtain ⟨r, rfl, _⟩ := (mnds.app.mp hM).2
    exact ⟨(okd_mind hN.2.2.2 r).1, Nat.le_trans (okd_mind hN.2.2.2 r).2 (by omega)⟩
  · exact okd_mnds hN hM
  · exact okd_int _ _
  · exact okd_int _ _
theorem ends (k : Nat) (nsA nsB : List (List Nat)) (hA : okN nsA) (hB : okN nsB) (a0 a1 : Sl) (i : Nat) (hi : i ≤ 63) (ρ : List Sl) (g : CI nsA nsB a0 a1 i ρ) :
    ∃ (ρ' : List Sl) (K : List D), forGo (ftOne 7) (LL2 (F (k + 59))) (rangeD 0 2) ρ = .nx ρ' ∧ ρ'[5]? = some (.own (.lst K)) ∧ ρ'[6]? = some (.own (.lst K)) ∧ gEq (.lst K) (.lst K) = .ok true := by
  obtain ⟨sA, uA, sB, uB, K, dA, dB, x7, x8, x9, x10, x11, rfl, mA, nA, mB, nB, l1, l2, l3, l4, lK, hK⟩ := g
  have s1 : (F (k + 59))._law_state [lgS (sA ++ [dA]) uA] = _ := state_K (k + 57) sA uA dA (by omega) (by omega)
  have s2 : (F (k + 59))._law_state [lgS (sB ++ [dB]) uB] = _ := state_K (k + 57) sB uB dB (by omega) (by omega)
  have t1 := st_ne nsA hA sA uA dA mA
  have t2 := st_ne nsB hB sB uB dB mB
  have hk : gEq (.lst K) (.lst K) = .ok true := gEq_refl (n := 4) (okd_lst hK) (by decide)
  clear hK mA nA mB nB
  generalize D.tup [dA, .lst (sA ++ [dA]), .int (sA.length : Nat), .int (uA.length : Nat)] = TA at *
  generalize D.tup [dB, .lst (sB ++ [dB]), .int (sB.length : Nat), .int (uB.length : Nat)] = TB at *
  generalize sA ++ [dA] = SA at *
  generalize sB ++ [dB] = SB at *
  obtain ⟨ρ', e1, y7, rfl⟩ := forGo_nxt (ft := ftOne 7) (fb := LL2 (F (k + 59))) (rangeD 0 2) (fun _ ρ => ∃ y7 : Sl, ρ = [a0, a1, .own (.lst [nmD nsA, nmD nsB]), two (logO SA uA) (logO SB uB), two (logO SA uA) (logO SB uB), .own (.lst K), .own (.lst K), y7, x8, x9, x10, x11]) [a0, a1, .own (.lst [nmD nsA, nmD nsB]), two (logO SA uA) (logO SB uB), two (logO SA uA) (logO SB uB), .own (.lst K), .own (.lst K), x7, x8, x9, x10, x11] ⟨_, rfl⟩ (fun i d ρ hd ⟨y7, e⟩ => by
    subst e
    obtain ⟨hi, rfl⟩ := rangeD_get hd
    refine ⟨_, rfl, ?_⟩
    have hi : i < 2 := by simpa using hi
    have hi2 : ((i : Nat) : Int) = 0 ∨ ((i : Nat) : Int) = 1 := by omega
    rcases hi2 with e | e
    · rw [e]; simp (disch := first | assumption | decide | omega | (simp only [List.length_append, List.length_cons, List.length_nil, List.length_map, List.length_reverse, List.length_replicate, List.length_range, List.length_take, List.length_drop, enD_length, rangeD_length]; first | decide | omega) | (simp; done) | fail) [decide_eq_true, decide_eq_false, kAsg, kNx, LL2, b_law_l2, s1, t1]
    · rw [e]; simp (disch := first | assumption | decide | omega | (simp only [List.length_append, List.length_cons, List.length_nil, List.length_map, List.length_reverse, List.length_replicate, List.length_range, List.length_take, List.length_drop, enD_length, rangeD_length]; first | decide | omega) | (simp; done) | fail) [decide_eq_true, decide_eq_false, kAsg, kNx, LL2, b_law_l2, s2, t2])
  exact ⟨_, K, e1, rfl, rfl, hk⟩
theorem main' (k : Nat) (s : List Int) (hs : s.length ≤ 63) : ∃ fin, (F (k + 60)).law [.val (.scr s)] = .ok (.val (.bl true)) fin := by
  have c0 : (F (k + 59))._law_cell_at [.val (.scr s), .val (.int 0)] = _ := cell_K (k + 58) s 0 (by omega)
  generalize s.getD 0 0 = C0 at *
  obtain ⟨m, hm, m1, m4⟩ : ∃ m : Nat, 1 + C0 / 3 % 4 = (m : Int) ∧ 1 ≤ m ∧ m ≤ 4 := ⟨(1 + C0 / 3 % 4).toNat, by omega, by omega, by omega⟩
  obtain ⟨m', hm', m1', m4'⟩ : ∃ m : Nat, 1 + C0 / 5 % 4 = (m : Int) ∧ 1 ≤ m ∧ m ≤ 4 := ⟨(1 + C0 / 5 % 4).toNat, by omega, by omega, by omega⟩
  have hA : okN (namesD C0 m) := namesD_N (by omega) (by omega)
  have n1 : (F (k + 59))._law_names_by [.val (.int C0), .val (.int m)] = _ := names_K (k + 58) C0 m (by omega)
  have hB : okN (namesD (C0 / 2) m') := namesD_N (by omega) (by omega)
  have n2 : (F (k + 59))._law_names_by [.val (.int (C0 / 2)), .val (.int m')] = _ := names_K (k + 58) (C0 / 2) m' (by omega)
  generalize namesD C0 m = nsA at *
  generalize namesD (C0 / 2) m' = nsB at *
  have hcut : cutL s none (some 63) = s := by rw [cut_to _ _ (by decide)]; exact List.take_of_length_le hs
  have hini : ∀ ns, okN ns → (F (k + 59)).Log___init__ [.big (.node (.obj []) []), .val (nmD ns)] = .ok (.val .non) [lgS [mindD ns (zerosL ns)] [], .val (nmD ns)] := fun ns hN => init_K (k + 57) _ _ (flat_K (k + 57) ns hN)
  have hz : ∀ ns : List (List Nat), mnds ns [mindD ns (zerosL ns)] := fun ns d hd => by rw [List.mem_singleton.mp hd]; exact ⟨_, rfl, okQ_zero⟩
  have loop : ∀ nsA nsB, okN nsA → okN nsB → ∃ ρ', forGo (ftTup [7, 8]) (LL1 (F (k + 59))) (enD 0 (s.map .int)) [.val (.scr s), .val (.int C0), .own (.lst [nmD nsA, nmD nsB]), two (logO [mindD nsA (zerosL nsA)] []) (logO [mindD nsB (zerosL nsB)] []), two (logO [mindD nsA (zerosL nsA)] []) (logO [mindD nsB (zerosL nsB)] []), .own (.lst []), .own (.lst []), .emp, .emp, .emp, .emp, .emp] = .nx ρ' ∧
      ∃ (ρ'' : List Sl) (K : List D), forGo (ftOne 7) (LL2 (F (k + 59))) (rangeD 0 2) ρ' = .nx ρ'' ∧ ρ''[5]? = some (.own (.lst K)) ∧ ρ''[6]? = some (.own (.lst K)) ∧ gEq (.lst K) (.lst K) = .ok true := fun nsA nsB hA hB => by
    obtain ⟨ρ', e1, g1⟩ := forGo_nxt (ft := ftTup [7, 8]) (fb := LL1 (F (k + 59))) (enD 0 (s.map .int)) (fun i ρ => CI nsA nsB (.val (.scr s)) (.val (.int C0)) i ρ) [.val (.scr s), .val (.int C0), .own (.lst [nmD nsA, nmD nsB]), two (logO [mindD nsA (zerosL nsA)] []) (logO [mindD nsB (zerosL nsB)] []), two (logO [mindD nsA (zerosL nsA)] []) (logO [mindD nsB (zerosL nsB)] []), .own (.lst []), .own (.lst []), .emp, .emp, .emp, .emp, .emp]
      ⟨[], [], [], [], [], _, _, .emp, .emp, .emp, .emp, .emp, rfl, hz nsA, mnds.nil, hz nsB, mnds.nil, by simp, by simp, by simp, by simp, rfl, fun d h => by cases h⟩ (fun i d ρ hd g => by
        rw [enD_get] at hd
        have hi : i < s.length := by
          cases e : (s.map D.int)[i]? with
          | none => rw [e] at hd; cases hd
          | some z => have := (List.getElem?_eq_some_iff.mp e).1; simpa using this
        rw [List.getElem?_map, List.getElem?_eq_getElem hi] at hd
        cases hd
        refine ⟨_, rfl, ?_⟩
        have h := body k nsA nsB hA hB (.val (.scr s)) (.val (.int C0)) i (by omega) s[i] ρ g
        simpa using h)
    rw [enD_length, List.length_map] at g1
    exact ⟨ρ', e1, ends k nsA nsB hA hB _ _ s.length hs ρ' g1⟩
  have i1 := hini nsA hA
  have i2 := hini nsB hB
  show ∃ fin, bodyF 12 1 1 (LL0 (F (k + 59))) [.val (.scr s)] = .ok (.val (.bl true)) fin
  unfold LL0 b_law
  by_cases h2 : C0 % 2 = 0
  · obtain ⟨ρ', lp, ρ'', K, lq, r5, r6, hk⟩ := loop nsA nsA hA hA
    clear loop hini hz hA hB
    generalize mindD nsA (zerosL nsA) = MA at *
    generalize mindD nsB (zerosL nsB) = MB at *
    generalize nmD nsA = NA at *
    generalize nmD nsB = NB at *
    simp (disch := first | assumption | decide | omega | (simp only [List.length_append, List.length_cons, List.length_nil, List.length_map, List.length_reverse, List.length_replicate, List.length_range, List.length_take, List.length_drop, enD_length, rangeD_length]; first | decide | omega) | (simp; done) | fail) [decide_eq_true, decide_eq_false, kAsg, kNx, c0, hm, hm', n1, n2, h2, i1, i2, hcut, lp, lq, r5, r6, hk]
  · obtain ⟨ρ', lp, ρ'', K, lq, r5, r6, hk⟩ := loop nsA nsB hA hB
    clear loop hini hz hA hB
    generalize mindD nsA (zerosL nsA) = MA at *
    generalize mindD nsB (zerosL nsB) = MB at *
    generalize nmD nsA = NA at *
    generalize nmD nsB = NB at *
    simp (disch := first | assumption | decide | omega | (simp only [List.length_append, List.length_cons, List.length_nil, List.length_map, List.length_reverse, List.length_replicate, List.length_range, List.length_take, List.length_drop, enD_length, rangeD_length]; first | decide | omega) | (simp; done) | fail) [decide_eq_true, decide_eq_false, kAsg, kNx, c0, hm, hm', n1, n2, h2, i1, i2, hcut, lp, lq, r5, r6, hk]
theorem main (ns : List Int) (h : ns.length ≤ 63) : ∃ fin, (F 100).law [.val (.scr ns)] = .ok (.val (.bl true)) fin := main' 40 ns h
end Wk56
set_option Elab.async false
set_option linter.all false
open PySem PySem.W PyProof.Rows
set_option maxRecDepth 100000 in
set_option maxHeartbeats 0 in
theorem PySem.Challenge.cw_mindchange_k56_lists_held_holds : PySem.Challenge.rw_mindchange_k56_lists_held.Holds := by
  w_on; o_law; k_head; (case hw => w_witness2)
  k_fill
  refine Wk56.walk (l := PySem.Challenge.rw_mindchange_k56_lists_held) rfl rfl Wk56.main (fun w h Y => PySem.W.kIn_of Y) ?F
  case F =>
    intro w mg fa h KX G hmg
    refine' Wk56.txt_mk KX G hmg ?a_parts_of ?l_parts_of ?c_parts_of ?k_parts_of ?a_gather ?l_gather ?c_gather ?k_gather ?a_names_in ?l_names_in ?c_names_in ?k_names_in ?a_look_names ?l_look_names ?c_look_names ?k_look_names ?a_full ?l_full ?c_full ?k_full ?a_column ?l_column ?c_column ?k_column ?a_table_within ?l_table_within ?c_table_within ?k_table_within ?a_table ?l_table ?c_table ?k_table ?a_flat ?l_flat ?c_flat ?k_flat ?a_least_rank ?l_least_rank ?c_least_rank ?k_least_rank ?a_firmness ?l_firmness ?c_firmness ?k_firmness ?a_keeps ?l_keeps ?c_keeps ?k_keeps ?a_turned ?l_turned ?c_turned ?k_turned ?a_given_up ?l_given_up ?c_given_up ?k_given_up ?a_taken_on ?l_taken_on ?c_taken_on ?k_taken_on ?a__law_cell_at ?l__law_cell_at ?c__law_cell_at ?k__law_cell_at ?a__law_mixed ?l__law_mixed ?c__law_mixed ?k__law_mixed ?a__law_names_by ?l__law_names_by ?c__law_names_by ?k__law_names_by ?a__law_tree_by ?l__law_tree_by ?c__law_tree_by ?k__law_tree_by ?a__law_column ?l__law_column ?c__law_column ?k__law_column ?a__law_table ?l__law_table ?c__law_table ?k__law_table ?a__law_do ?l__law_do ?c__law_do ?k__law_do ?a__law_state ?l__law_state ?c__law_state ?k__law_state ?a_law ?l_law ?c_law ?k_law ?a_Log ?lg1 ?lg2 ?lg3 ?lg4 ?lg5 ?lg6 ?lg7 ?lg8 ?at_Log___init__ ?l_Log___init__ ?c_Log___init__ ?k_Log___init__ ?if_Log___init__ ?at_Log_mind ?l_Log_mind ?c_Log_mind ?k_Log_mind ?if_Log_mind ?at_Log_minds ?l_Log_minds ?c_Log_minds ?k_Log_minds ?if_Log_minds ?at_Log_backs ?l_Log_backs ?c_Log_backs ?k_Log_backs ?if_Log_backs ?at_Log_agains ?l_Log_agains ?c_Log_agains ?k_Log_agains ?if_Log_agains ?at_Log_lay ?l_Log_lay ?c_Log_lay ?k_Log_lay ?if_Log_lay ?at_Log_take ?l_Log_take ?c_Log_take ?k_Log_take ?if_Log_take ?at_Log_give ?l_Log_give ?c_Log_give ?k_Log_give ?if_Log_give ?at_Log_back ?l_Log_back ?c_Log_back ?k_Log_back ?if_Log_back ?at_Log_again ?l_Log_again ?c_Log_again ?k_Log_again ?if_Log_again ?z_enumerate ?z_len ?z_list ?z_max ?z_range ?z_sorted ?z_tuple ?a_NoName ?n_NoName ?a_Always ?n_Always ?a_Never ?n_Never ?a_NoBack ?n_NoBack ?a_NoAgain ?n_NoAgain ?xk_NoName ?xq_NoName ?xb_NoName ?xt_NoName ?xk_Always ?xq_Always ?xb_Always ?xt_Always ?xk_Never ?xq_Never ?xb_Never ?xt_Never ?xk_NoBack ?xq_NoBack ?xb_NoBack ?xt_NoBack ?xk_NoAgain ?xq_NoAgain ?xb_NoAgain ?xt_NoAgain
    (case a_parts_of => k_is)
    (case l_parts_of => k_is)
    (case c_parts_of => k_is)
    (case k_parts_of => k_is)
    (case a_gather => k_is)
    (case l_gather => k_is)
    (case c_gather => k_is)
    (case k_gather => k_is)
    (case a_names_in => k_is)
    (case l_names_in => k_is)
    (case c_names_in => k_is)
    (case k_names_in => k_is)
    (case a_look_names => k_is)
    (case l_look_names => k_is)
    (case c_look_names => k_is)
    (case k_look_names => k_is)
    (case a_full => k_is)
    (case l_full => k_is)
    (case c_full => k_is)
    (case k_full => k_is)
    (case a_column => k_is)
    (case l_column => k_is)
    (case c_column => k_is)
    (case k_column => k_is)
    (case a_table_within => k_is)
    (case l_table_within => k_is)
    (case c_table_within => k_is)
    (case k_table_within => k_is)
    (case a_table => k_is)
    (case l_table => k_is)
    (case c_table => k_is)
    (case k_table => k_is)
    (case a_flat => k_is)
    (case l_flat => k_is)
    (case c_flat => k_is)
    (case k_flat => k_is)
    (case a_least_rank => k_is)
    (case l_least_rank => k_is)
    (case c_least_rank => k_is)
    (case k_least_rank => k_is)
    (case a_firmness => k_is)
    (case l_firmness => k_is)
    (case c_firmness => k_is)
    (case k_firmness => k_is)
    (case a_keeps => k_is)
    (case l_keeps => k_is)
    (case c_keeps => k_is)
    (case k_keeps => k_is)
    (case a_turned => k_is)
    (case l_turned => k_is)
    (case c_turned => k_is)
    (case k_turned => k_is)
    (case a_given_up => k_is)
    (case l_given_up => k_is)
    (case c_given_up => k_is)
    (case k_given_up => k_is)
    (case a_taken_on => k_is)
    (case l_taken_on => k_is)
    (case c_taken_on => k_is)
    (case k_taken_on => k_is)
    (case a__law_cell_at => k_is)
    (case l__law_cell_at => k_is)
    (case c__law_cell_at => k_is)
    (case k__law_cell_at => k_is)
    (case a__law_mixed => k_is)
    (case l__law_mixed => k_is)
    (case c__law_mixed => k_is)
    (case k__law_mixed => k_is)
    (case a__law_names_by => k_is)
    (case l__law_names_by => k_is)
    (case c__law_names_by => k_is)
    (case k__law_names_by => k_is)
    (case a__law_tree_by => k_is)
    (case l__law_tree_by => k_is)
    (case c__law_tree_by => k_is)
    (case k__law_tree_by => k_is)
    (case a__law_column => k_is)
    (case l__law_column => k_is)
    (case c__law_column => k_is)
    (case k__law_column => k_is)
    (case a__law_table => k_is)
    (case l__law_table => k_is)
    (case c__law_table => k_is)
    (case k__law_table => k_is)
    (case a__law_do => k_is)
    (case l__law_do => k_is)
    (case c__law_do => k_is)
    (case k__law_do => k_is)
    (case a__law_state => k_is)
    (case l__law_state => k_is)
    (case c__law_state => k_is)
    (case k__law_state => k_is)
    (case a_law => k_is)
    (case l_law => k_is)
    (case c_law => k_is)
    (case k_law => k_is)
    (case a_Log => k_is)
    (case lg1 => k_is)
    (case lg2 => k_is)
    (case lg3 => k_is)
    (case lg4 => k_is)
    (case lg5 => k_is)
    (case lg6 => k_is)
    (case lg7 => k_is)
    (case lg8 => k_is)
    (case at_Log___init__ => k_is)
    (case l_Log___init__ => k_is)
    (case c_Log___init__ => k_is)
    (case k_Log___init__ => k_is)
    (case if_Log___init__ => k_is)
    (case at_Log_mind => k_is)
    (case l_Log_mind => k_is)
    (case c_Log_mind => k_is)
    (case k_Log_mind => k_is)
    (case if_Log_mind => k_is)
    (case at_Log_minds => k_is)
    (case l_Log_minds => k_is)
    (case c_Log_minds => k_is)
    (case k_Log_minds => k_is)
    (case if_Log_minds => k_is)
    (case at_Log_backs => k_is)
    (case l_Log_backs => k_is)
    (case c_Log_backs => k_is)
    (case k_Log_backs => k_is)
    (case if_Log_backs => k_is)
    (case at_Log_agains => k_is)
    (case l_Log_agains => k_is)
    (case c_Log_agains => k_is)
    (case k_Log_agains => k_is)
    (case if_Log_agains => k_is)
    (case at_Log_lay => k_is)
    (case l_Log_lay => k_is)
    (case c_Log_lay => k_is)
    (case k_Log_lay => k_is)
    (case if_Log_lay => k_is)
    (case at_Log_take => k_is)
    (case l_Log_take => k_is)
    (case c_Log_take => k_is)
    (case k_Log_take => k_is)
    (case if_Log_take => k_is)
    (case at_Log_give => k_is)
    (case l_Log_give => k_is)
    (case c_Log_give => k_is)
    (case k_Log_give => k_is)
    (case if_Log_give => k_is)
    (case at_Log_back => k_is)
    (case l_Log_back => k_is)
    (case c_Log_back => k_is)
    (case k_Log_back => k_is)
    (case if_Log_back => k_is)
    (case at_Log_again => k_is)
    (case l_Log_again => k_is)
    (case c_Log_again => k_is)
    (case k_Log_again => k_is)
    (case if_Log_again => k_is)
    (case z_enumerate => k_is)
    (case z_len => k_is)
    (case z_list => k_is)
    (case z_max => k_is)
    (case z_range => k_is)
    (case z_sorted => k_is)
    (case z_tuple => k_is)
    (case a_NoName => k_is)
    (case n_NoName => rfl)
    (case a_Always => k_is)
    (case n_Always => rfl)
    (case a_Never => k_is)
    (case n_Never => rfl)
    (case a_NoBack => k_is)
    (case n_NoBack => rfl)
    (case a_NoAgain => k_is)
    (case n_NoAgain => rfl)
    (case xk_NoName => k_is)
    (case xq_NoName => k_exc)
    (case xb_NoName => k_is)
    (case xt_NoName => k_is)
    (case xk_Always => k_is)
    (case xq_Always => k_exc)
    (case xb_Always => k_is)
    (case xt_Always => k_is)
    (case xk_Never => k_is)
    (case xq_Never => k_exc)
    (case xb_Never => k_is)
    (case xt_Never => k_is)
    (case xk_NoBack => k_is)
    (case xq_NoBack => k_exc)
    (case xb_NoBack => k_is)
    (case xt_NoBack => k_is)
    (case xk_NoAgain => k_is)
    (case xq_NoAgain => k_exc)
    (case xb_NoAgain => k_is)
    (case xt_NoAgain => k_is)
