import PyProof.Rows.All
import Wide.All
import OpenK.AllK
import Wide.FinOn
import HandS.ForMost
import HandS.Evl
import HandS.ExcInit
import HandS.ExcField
import HandS.ForExc
import HandS.Wide
import KE.DataCmp
import KE.DataEq
import KE.DataFind
import KE.DataAny
import HandS.TupMul
import PyProof.StrBlock2
import HandS.Text
import HandS.TupAny
import HandS.Style
import HandS.Defaults
import HandS.Iter
import HandS.Walk
import KE.SortData
import KE.DataMinMax
import KE.DataIsa
import HandS.IsInst
import HandS.Small
import KE.KExcInit
import PyProof.ReprRoads
import HandS.Dict
import HandS.WordsExc
import HandS.Ends
import HandS.Codes
import PyProof.StrLawsIn
import PyProof.ReprLen
import PySem.Challenge.RW_patternwright_k70_whole_forms_of_bands_a
set_option Elab.async false
set_option linter.all false
set_option maxRecDepth 100000
set_option maxHeartbeats 2000000
/-! Plain data over the hand layer: what an expression, a statement, a def is worth, as a function on data. -/
namespace DL
open PySem L2

/-- plain data; ptr: an object that is handed about and not looked into -/
inductive D where
  | non | bl (b : Bool) | int (i : Int) | str (s : Str) | tup (ds : List D) | lst (ds : List D) | ptr (a : Addr) | dct (kd : Nat) (kvs : List (D × D)) | scr (ns : List Int)
  | exc (C : Addr) (tl : List Value) (f g : Str) (d : D)

/-- an exception whose args lie at t1 -/
def exoT (e C : Addr) (d : Option Addr) (t1 : Addr) : HO := .ext fun h => h.get? e = some ({ cls := .ref C, dict := d, data := .fields #[.ref t1, .none, .none, .none, .bool false, .none] } : Obj)
/-- what is read of an exception's class: C, then tl -/
structure ExK (K : PySem.W.Frag) (C : Addr) (tl : List Value) : Prop where
  cls : ∃ cd, PySem.W.clsIn K C = some cd ∧ cd.mro = .ref C :: tl
  xf : XfC K C
  hs : PySem.W.findIn K (.ref C) "__str__" = some (some (.builtin "BaseException.__str__"))
  hc : PySem.W.findIn K (.ref C) "__class__" = some (some (.builtin "object.__class__"))
  hn : PySem.W.specialIn K (.builtin "object.__class__") "__get__" = some (some (.builtin "getset_descriptor.__get__"))
  ht : PySem.W.takesIn K (.builtin "object.__class__") = some true
  hm : PySem.W.mroIn K C (.type "object") = some true
/-- a key of a dict -/
def keyD : Key → D
  | .inl i => .int i
  | .inr s => .str s

mutual
inductive Rep (K : PySem.W.Frag) (H : Hp) : V → D → Prop
  | non : Rep K H .non .non
  | bl (b : Bool) : Rep K H (.bl b) (.bl b)
  | int (i : Int) : Rep K H (.int i) (.int i)
  | str (s : Str) : Rep K H (.str s) (.str s)
  | tup {a : Addr} {xs : List V} {ds : List D} : SqT K H a xs → Reps K H xs ds → Rep K H (.ref a) (.tup ds)
  | lst {a : Addr} {xs : List V} {ds : List D} : H a = some (.lst xs) → Reps K H xs ds → Rep K H (.ref a) (.lst ds)
  | scr {a : Addr} {ns : List Int} : SqL K H a (ns.map V.int) → Rep K H (.ref a) (.scr ns)
  | ptr (a : Addr) : Rep K H (.ref a) (.ptr a)
  | exc {a C dx t1 : Addr} {tl : List Value} {f g : Str} {v : V} {d : D} : ExK K C tl → PySem.W.findIn K (.ref C) f = some none → H a = some (exoT a C (some dx) t1) → H t1 = some (.tup [.str g]) → H dx = some (exd dx [(f, v)]) → Rep K H v d → Rep K H (.ref a) (.exc C tl f g d)
  | dK {a : Addr} {kvs : List (Key × V)} {ds : List (D × D)} : Rd H a (.dK kvs) → KReps K H kvs ds → Rep K H (.ref a) (.dct 0 ds)
inductive KReps (K : PySem.W.Frag) (H : Hp) : List (Key × V) → List (D × D) → Prop
  | nil : KReps K H [] []
  | cons {k : Key} {v : V} {kvs : List (Key × V)} {d : D} {ds : List (D × D)} : Rep K H v d → KReps K H kvs ds → KReps K H ((k, v) :: kvs) ((keyD k, d) :: ds)
inductive Reps (K : PySem.W.Frag) (H : Hp) : List V → List D → Prop
  | nil : Reps K H [] []
  | cons {v : V} {vs : List V} {d : D} {ds : List D} : Rep K H v d → Reps K H vs ds → Reps K H (v :: vs) (d :: ds)
end

abbrev Ex := Evl.Ex
section
variable {K : PySem.W.Frag} {H H' : Hp}
mutual
theorem Rep.mono (e : Ex H H') : ∀ {v : V} {d : D}, Rep K H v d → Rep K H' v d
  | _, _, .non => .non
  | _, _, .bl b => .bl b
  | _, _, .int i => .int i
  | _, _, .str s => .str s
  | _, _, .tup h r => .tup (Evl.ex_t e h) (Reps.mono e r)
  | _, _, .lst h r => .lst (e _ _ h) (Reps.mono e r)
  | _, _, .scr h => .scr (Evl.ex_l e h)
  | _, _, .ptr a => .ptr a
  | _, _, .exc k n h1 h2 h3 r => .exc k n (e _ _ h1) (e _ _ h2) (e _ _ h3) (Rep.mono e r)
  | _, _, .dK h r => .dK (Evl.ex_rd e h) (KReps.mono e r)
theorem KReps.mono (e : Ex H H') : ∀ {vs : List (Key × V)} {ds : List (D × D)}, KReps K H vs ds → KReps K H' vs ds
  | _, _, .nil => .nil
  | _, _, .cons h r => .cons (Rep.mono e h) (KReps.mono e r)
theorem Reps.mono (e : Ex H H') : ∀ {vs : List V} {ds : List D}, Reps K H vs ds → Reps K H' vs ds
  | _, _, .nil => .nil
  | _, _, .cons h r => .cons (Rep.mono e h) (Reps.mono e r)
end
theorem Reps.length : ∀ {vs : List V} {ds : List D}, Reps K H vs ds → vs.length = ds.length
  | _, _, .nil => rfl
  | _, _, .cons _ r => congrArg (· + 1) (Reps.length r)
theorem Reps.get : ∀ {vs : List V} {ds : List D} {i : Nat} {d : D}, Reps K H vs ds → ds[i]? = some d → ∃ v, vs[i]? = some v ∧ Rep K H v d
  | _, _, 0, _, .cons h _, e => by simp at e; subst e; exact ⟨_, rfl, h⟩
  | _, _, i + 1, _, .cons _ r, e => by
    obtain ⟨v, h1, h2⟩ := Reps.get (i := i) r (by simpa using e)
    exact ⟨v, by simpa using h1, h2⟩
  | _, _, _, _, .nil, e => by simp at e
theorem Reps.get' : ∀ {vs : List V} {ds : List D} {i : Nat} {v : V}, Reps K H vs ds → vs[i]? = some v → ∃ d, ds[i]? = some d ∧ Rep K H v d
  | _, _, 0, _, .cons h _, e => by simp at e; subst e; exact ⟨_, rfl, h⟩
  | _, _, i + 1, _, .cons _ r, e => by
    obtain ⟨v, h1, h2⟩ := Reps.get' (i := i) r (by simpa using e)
    exact ⟨v, by simpa using h1, h2⟩
  | _, _, _, _, .nil, e => by simp at e
theorem Reps.append : ∀ {vs ws : List V} {ds es : List D}, Reps K H vs ds → Reps K H ws es → Reps K H (vs ++ ws) (ds ++ es)
  | _, _, _, _, .nil, h => h
  | _, _, _, _, .cons h r, q => .cons h (Reps.append r q)
theorem Reps.drop : ∀ {vs : List V} {ds : List D} (n : Nat), Reps K H vs ds → Reps K H (vs.drop n) (ds.drop n)
  | _, _, 0, h => h
  | _, _, _ + 1, .nil => .nil
  | _, _, n + 1, .cons _ r => Reps.drop n r
theorem Reps.take : ∀ {vs : List V} {ds : List D} (n : Nat), Reps K H vs ds → Reps K H (vs.take n) (ds.take n)
  | _, _, 0, _ => .nil
  | _, _, _ + 1, .nil => .nil
  | _, _, n + 1, .cons h r => .cons h (Reps.take n r)
theorem Reps.set : ∀ {vs : List V} {ds : List D} {v : V} {d : D} (n : Nat), Reps K H vs ds → Rep K H v d → Reps K H (vs.set n v) (ds.set n d)
  | _, _, _, _, _, .nil, _ => .nil
  | _, _, _, _, 0, .cons _ r, q => .cons q r
  | _, _, _, _, n + 1, .cons h r, q => .cons h (Reps.set n r q)
theorem Reps.dropLast : ∀ {vs : List V} {ds : List D}, Reps K H vs ds → Reps K H vs.dropLast ds.dropLast := fun {vs ds} h => by
  rw [List.dropLast_eq_take, List.dropLast_eq_take, h.length]
  exact h.take _
theorem Reps.cons' {vs : List V} {d : D} {ds : List D} (h : Reps K H vs (d :: ds)) : ∃ v vs', vs = v :: vs' ∧ Rep K H v d ∧ Reps K H vs' ds := by
  cases h with
  | cons a b => exact ⟨_, _, rfl, a, b⟩
theorem Reps.nil' {vs : List V} (h : Reps K H vs []) : vs = [] := by cases h; rfl
theorem Reps.ints : ∀ {vs : List V} {ns : List Int}, Reps K H vs (ns.map D.int) → vs = ns.map V.int
  | _, [], h => by rw [List.map_nil] at h; exact h.nil'
  | _, n :: ns, h => by
    rw [List.map_cons] at h
    obtain ⟨v, vs', rfl, a, b⟩ := h.cons'
    cases a
    rw [Reps.ints b, List.map_cons]
theorem Reps.strs : ∀ {vs : List V} {ns : List Str}, Reps K H vs (ns.map D.str) → vs = ns.map V.str
  | _, [], h => by rw [List.map_nil] at h; exact h.nil'
  | _, n :: ns, h => by
    rw [List.map_cons] at h
    obtain ⟨v, vs', rfl, a, b⟩ := h.cons'
    cases a
    rw [Reps.strs b, List.map_cons]
theorem Reps.bls : ∀ {vs : List V} {ns : List Bool}, Reps K H vs (ns.map D.bl) → vs = ns.map V.bl
  | _, [], h => by rw [List.map_nil] at h; exact h.nil'
  | _, n :: ns, h => by
    rw [List.map_cons] at h
    obtain ⟨v, vs', rfl, a, b⟩ := h.cons'
    cases a
    rw [Reps.bls b, List.map_cons]
theorem Reps.of_ints : ∀ ns : List Int, Reps K H (ns.map V.int) (ns.map D.int)
  | [] => .nil
  | n :: ns => .cons (.int n) (Reps.of_ints ns)
theorem Reps.of_strs : ∀ ns : List Str, Reps K H (ns.map V.str) (ns.map D.str)
  | [] => .nil
  | n :: ns => .cons (.str n) (Reps.of_strs ns)
end

/-! ### hiding: the objects that somebody may still change -/
open Classical in
noncomputable def hid (O : Addr → Prop) (H : Hp) : Hp := fun a => if O a then none else H a
section
variable {O O' : Addr → Prop} {H H' : Hp} {a p : Addr} {o : HO}
theorem hid_some : hid O H a = some o ↔ ¬ O a ∧ H a = some o := by
  unfold hid
  by_cases h : O a
  · rw [if_pos h]; exact ⟨fun e => (nomatch e), fun e => absurd h e.1⟩
  · rw [if_neg h]; exact ⟨fun e => ⟨h, e⟩, fun e => e.2⟩
theorem hid_ex : Ex (hid O H) H := fun _ _ h => (hid_some.mp h).2
theorem hid_le (h : ∀ a, O' a → O a) : Ex (hid O H) (hid O' H) := fun a _ e => hid_some.mpr ⟨fun q => (hid_some.mp e).1 (h a q), (hid_some.mp e).2⟩
theorem hid_of (e : Ex H H') : Ex (hid O H) (hid O H') := fun a o h => hid_some.mpr ⟨(hid_some.mp h).1, e a o (hid_some.mp h).2⟩
/-- what is hidden may change -/
theorem hid_upd (h : O p) : hid O (upd H p o) = hid O H := by
  funext a
  unfold hid
  by_cases q : O a
  · rw [if_pos q, if_pos q]
  · rw [if_neg q, if_neg q, upd_ne (fun z => q (by rw [z]; exact h))]
end

/-! ### slots, environments -/
inductive Sl where
  | no | sh (d : D) | ow (d : D) | io (d : D)
abbrev SEnv := List Sl
/-- a slot's object that may be changed: by this def alone (ow), or handed in (io) -/
def Sl.own : Sl → Option D
  | .ow d => some d
  | .io d => some d
  | _ => none
def OwnA (Γ : SEnv) (σ : L2.St) (a : Addr) : Prop := ∃ (i : Nat) (s : Sl) (d : D), Γ[i]? = some s ∧ s.own = some d ∧ σ[i]? = some (some (.ref a))
/-- what is hidden -/
def Hd (xo : Addr → Prop) (Γ : SEnv) (σ : L2.St) (a : Addr) : Prop := xo a ∨ OwnA Γ σ a
noncomputable abbrev vw (xo : Addr → Prop) (Γ : SEnv) (σ : L2.St) (H : Hp) : Hp := hid (Hd xo Γ σ) H

/-- the object at p holds d, its parts are seen in S -/
inductive Cell (K : PySem.W.Frag) (S H : Hp) (p : Addr) : D → Prop
  | lst {xs : List V} {ds : List D} : H p = some (.lst xs) → Reps K S xs ds → Cell K S H p (.lst ds)
  | dK {kvs : List (Key × V)} {ds : List (D × D)} : H p = some (.dK kvs) → KReps K S kvs ds → Cell K S H p (.dct 0 ds)
inductive SlOk (K : PySem.W.Frag) (S H : Hp) : Sl → Option V → Prop
  | no {o : Option V} : SlOk K S H .no o
  | sh {v : V} {d : D} : Rep K S v d → SlOk K S H (.sh d) (some v)
  | ow {p : Addr} {d : D} : Cell K S H p d → SlOk K S H (.ow d) (some (.ref p))
  | io {p : Addr} {d : D} : Cell K S H p d → SlOk K S H (.io d) (some (.ref p))
section
variable {K : PySem.W.Frag} {S S' H H' : Hp} {p : Addr} {d : D} {s : Sl} {o : Option V}
theorem Cell.mono (e : Ex S S') (eh : H' p = H p) : Cell K S H p d → Cell K S' H' p d
  | .lst h r => .lst (eh.trans h) (r.mono e)
  | .dK h r => .dK (eh.trans h) (r.mono e)
theorem Cell.there (c : Cell K S H p d) : ∃ o, H p = some o := by
  cases c with
  | lst h _ => exact ⟨_, h⟩
  | dK h _ => exact ⟨_, h⟩
/-- a cell that nobody changes any more is a value -/
theorem Cell.rep (e : Ex S S') (h : S' p = H p) (c : Cell K S H p d) : Rep K S' (.ref p) d := by
  cases c with
  | lst h1 r => exact .lst (h.trans h1) (r.mono e)
  | dK h1 r => exact .dK (.inl (h.trans h1)) (r.mono e)
end

/-! ### the state of a def's body, over data -/
structure OkS (K : PySem.W.Frag) (xo : Addr → Prop) (Γ : SEnv) (σ : L2.St) (H : Hp) : Prop where
  len : Γ.length = σ.length
  ok : ∀ (i : Nat) (s : Sl), Γ[i]? = some s → SlOk K (vw xo Γ σ H) H s (σ.getD i none)
  dj : ∀ (i j : Nat) (s t : Sl) (d e : D) (p : Addr), Γ[i]? = some s → s.own = some d → Γ[j]? = some t → t.own = some e → σ[i]? = some (some (.ref p)) → σ[j]? = some (some (.ref p)) → i = j
  xd : ∀ (i : Nat) (s : Sl) (d : D) (p : Addr), Γ[i]? = some s → s.own = some d → σ[i]? = some (some (.ref p)) → ¬ xo p
  xt : ∀ a, xo a → ∃ o, H a = some o
structure Step (xo : Addr → Prop) (Γ : SEnv) (σ : L2.St) (H : Hp) (Γ' : SEnv) (σ' : L2.St) (H' : Hp) : Prop where
  sh : Ex (vw xo Γ σ H) (vw xo Γ' σ' H')
  xk : ∀ a o, xo a → H a = some o → H' a = some o
  io : ∀ (i : Nat) (d : D), Γ[i]? = some (.io d) → σ'[i]? = σ[i]? ∧ ∃ d', Γ'[i]? = some (.io d')
  len : Γ'.length = Γ.length
section
variable {K : PySem.W.Frag} {xo : Addr → Prop} {Γ Γ' Γ1 Γ2 : SEnv} {σ σ' σ1 σ2 : L2.St} {H H' H1 H2 : Hp} {i j : Nat} {s t : Sl} {d e : D} {p : Addr} {v : V}
theorem Step.refl : Step xo Γ σ H Γ σ H := ⟨fun _ _ h => h, fun _ _ _ h => h, fun _ d h => ⟨rfl, d, h⟩, rfl⟩
theorem Step.trans (a : Step xo Γ σ H Γ1 σ1 H1) (b : Step xo Γ1 σ1 H1 Γ2 σ2 H2) : Step xo Γ σ H Γ2 σ2 H2 :=
  ⟨fun x o h => b.sh x o (a.sh x o h), fun x o q h => b.xk x o q (a.xk x o q h), fun i d h => by
    obtain ⟨e1, d1, h1⟩ := a.io i d h
    obtain ⟨e2, d2, h2⟩ := b.io i d1 h1
    exact ⟨e2.trans e1, d2, h2⟩, b.len.trans a.len⟩
theorem Step.rep (a : Step xo Γ σ H Γ1 σ1 H1) (r : Rep K (vw xo Γ σ H) v d) : Rep K (vw xo Γ1 σ1 H1) v d := r.mono a.sh
theorem Step.reps {vs : List V} {ds : List D} (a : Step xo Γ σ H Γ1 σ1 H1) (r : Reps K (vw xo Γ σ H) vs ds) : Reps K (vw xo Γ1 σ1 H1) vs ds := r.mono a.sh

theorem OkS.own_at (k : OkS K xo Γ σ H) (h : Γ[i]? = some s) (ho : s.own = some d) : ∃ p, σ[i]? = some (some (.ref p)) ∧ Cell K (vw xo Γ σ H) H p d := by
  have q := k.ok i s h
  have hi : i < σ.length := by rw [← k.len]; exact (List.getElem?_eq_some_iff.mp h).1
  have e : σ[i]? = some (σ.getD i none) := by rw [List.getD_eq_getElem?_getD, List.getElem?_eq_getElem hi]; rfl
  rw [e]
  generalize σ.getD i none = o at q
  cases q with
  | no => cases ho
  | sh r => cases ho
  | ow c => cases ho; exact ⟨_, rfl, c⟩
  | io c => cases ho; exact ⟨_, rfl, c⟩
theorem OkS.sh_at (k : OkS K xo Γ σ H) (h : Γ[i]? = some (.sh d)) : ∃ v, σ[i]? = some (some v) ∧ Rep K (vw xo Γ σ H) v d := by
  have q := k.ok i _ h
  have hi : i < σ.length := by rw [← k.len]; exact (List.getElem?_eq_some_iff.mp h).1
  have e : σ[i]? = some (σ.getD i none) := by rw [List.getD_eq_getElem?_getD, List.getElem?_eq_getElem hi]; rfl
  rw [e]
  generalize σ.getD i none = o at q
  cases q with
  | sh r => exact ⟨_, rfl, r⟩
theorem OkS.hd_there (k : OkS K xo Γ σ H) {a : Addr} (h : Hd xo Γ σ a) : ∃ o, H a = some o := by
  rcases h with h | ⟨i, s, d, h1, h2, h3⟩
  · exact k.xt a h
  · obtain ⟨q, e, c⟩ := k.own_at h1 h2
    rw [h3] at e
    cases e
    exact c.there
theorem OkS.new (k : OkS K xo Γ σ H) (h : H p = none) : ¬ Hd xo Γ σ p := fun q => by
  obtain ⟨o, e⟩ := k.hd_there q
  rw [h] at e
  cases e
/-- the heap grows -/
theorem OkS.ext (k : OkS K xo Γ σ H) (e : Ex H H') : OkS K xo Γ σ H' where
  len := k.len
  ok := fun i s h => by
    have q := k.ok i s h
    generalize σ.getD i none = o at q
    have es : Ex (vw xo Γ σ H) (vw xo Γ σ H') := hid_of e
    cases q with
    | no => exact .no
    | sh r => exact .sh (r.mono es)
    | ow c => obtain ⟨u, hu⟩ := c.there; exact .ow (c.mono es ((e _ _ hu).trans hu.symm))
    | io c => obtain ⟨u, hu⟩ := c.there; exact .io (c.mono es ((e _ _ hu).trans hu.symm))
  dj := k.dj
  xd := k.xd
  xt := fun a h => let ⟨o, q⟩ := k.xt a h; ⟨o, e a o q⟩
theorem Step.ext (e : Ex H H') : Step xo Γ σ H Γ σ H' := ⟨hid_of e, fun a o _ h => e a o h, fun _ d h => ⟨rfl, d, h⟩, rfl⟩

/-! what is owned behind a change of a slot -/
theorem ownA_set (h : ∀ a, OwnA Γ' σ' a → OwnA Γ σ a) : ∀ a, Hd xo Γ' σ' a → Hd xo Γ σ a := fun a q => q.elim .inl fun z => .inr (h a z)
theorem get_set {α : Type} {l : List α} {i j : Nat} {x y : α} (h : (l.set i x)[j]? = some y) : (j = i ∧ y = x ∧ i < l.length) ∨ (j ≠ i ∧ l[j]? = some y) := by
  by_cases e : i = j
  · subst e
    have hl : i < l.length := by
      have := (List.getElem?_eq_some_iff.mp h).1
      simpa using this
    rw [List.getElem?_set_self hl] at h
    cases h
    exact .inl ⟨rfl, rfl, hl⟩
  · rw [List.getElem?_set_ne e] at h
    exact .inr ⟨fun z => e z.symm, h⟩
theorem getD_set_ne {α : Type} {l : List α} {i j : Nat} {x z : α} (h : j ≠ i) : (l.set i x).getD j z = l.getD j z := by
  rw [List.getD_eq_getElem?_getD, List.getD_eq_getElem?_getD, List.getElem?_set_ne (fun q => h q.symm)]
theorem getD_set_self {α : Type} {l : List α} {i : Nat} {x z : α} (h : i < l.length) : (l.set i x).getD i z = x := by
  rw [List.getD_eq_getElem?_getD, List.getElem?_set_self h]
  rfl
/-- a slot is given a value that nobody changes -/
theorem OkS.setSh (k : OkS K xo Γ σ H) (hi : ∀ d, Γ[i]? ≠ some (.io d)) (r : Rep K (vw xo Γ σ H) v d) :
    OkS K xo (Γ.set i (.sh d)) (σ.set i (some v)) H ∧ Step xo Γ σ H (Γ.set i (.sh d)) (σ.set i (some v)) H := by
  have sub : ∀ a, OwnA (Γ.set i (.sh d)) (σ.set i (some v)) a → OwnA Γ σ a := by
    rintro a ⟨j, s, e, h1, h2, h3⟩
    rcases get_set h1 with ⟨rfl, rfl, _⟩ | ⟨ne, h1⟩
    · cases h2
    · rw [List.getElem?_set_ne (fun q => ne q.symm)] at h3
      exact ⟨j, s, e, h1, h2, h3⟩
  have es : Ex (vw xo Γ σ H) (vw xo (Γ.set i (.sh d)) (σ.set i (some v)) H) := hid_le (ownA_set sub)
  refine ⟨⟨by rw [List.length_set, List.length_set]; exact k.len, fun j s h => ?_, ?_, ?_, k.xt⟩, ⟨es, fun _ _ _ h => h, fun j e h => ?_, List.length_set⟩⟩
  · rcases get_set h with ⟨rfl, rfl, hl⟩ | ⟨ne, h⟩
    · rw [getD_set_self (by rw [← k.len]; exact hl)]
      exact .sh (r.mono es)
    · rw [getD_set_ne ne]
      have q := k.ok j s h
      generalize σ.getD j none = o at q
      cases q with
      | no => exact .no
      | sh r => exact .sh (r.mono es)
      | ow c => exact .ow (c.mono es rfl)
      | io c => exact .io (c.mono es rfl)
  · intro a b s t d' e' p h1 h2 h3 h4 h5 h6
    rcases get_set h1 with ⟨rfl, rfl, _⟩ | ⟨ne, h1⟩
    · cases h2
    · rcases get_set h3 with ⟨rfl, rfl, _⟩ | ⟨ne', h3⟩
      · cases h4
      · rw [List.getElem?_set_ne (fun q => ne q.symm)] at h5
        rw [List.getElem?_set_ne (fun q => ne' q.symm)] at h6
        exact k.dj a b s t d' e' p h1 h2 h3 h4 h5 h6
  · intro a s d' p h1 h2 h3
    rcases get_set h1 with ⟨rfl, rfl, _⟩ | ⟨ne, h1⟩
    · cases h2
    · rw [List.getElem?_set_ne (fun q => ne q.symm)] at h3
      exact k.xd a s d' p h1 h2 h3
  · have ne : i ≠ j := fun q => hi e (q ▸ h)
    rw [List.getElem?_set_ne ne, List.getElem?_set_ne ne]
    exact ⟨rfl, e, h⟩
/-- an owned slot's object is handed out: nobody changes it any more -/
theorem OkS.freeze (k : OkS K xo Γ σ H) (h : Γ[i]? = some (.ow d)) :
    OkS K xo (Γ.set i (.sh d)) σ H ∧ Step xo Γ σ H (Γ.set i (.sh d)) σ H ∧ ∃ p, σ[i]? = some (some (.ref p)) ∧ Rep K (vw xo (Γ.set i (.sh d)) σ H) (.ref p) d := by
  obtain ⟨p, hp, c⟩ := k.own_at h rfl
  have hl : i < Γ.length := (List.getElem?_eq_some_iff.mp h).1
  have sub : ∀ a, OwnA (Γ.set i (.sh d)) σ a → OwnA Γ σ a := by
    rintro a ⟨j, s, e, h1, h2, h3⟩
    rcases get_set h1 with ⟨rfl, rfl, _⟩ | ⟨ne, h1⟩
    · cases h2
    · exact ⟨j, s, e, h1, h2, h3⟩
  have es : Ex (vw xo Γ σ H) (vw xo (Γ.set i (.sh d)) σ H) := hid_le (ownA_set sub)
  have np : ¬ Hd xo (Γ.set i (.sh d)) σ p := by
    rintro (q | ⟨j, s, e, h1, h2, h3⟩)
    · exact k.xd i _ d p h rfl hp q
    · rcases get_set h1 with ⟨rfl, rfl, _⟩ | ⟨ne, h1⟩
      · cases h2
      · exact ne (k.dj j i s _ e d p h1 h2 h rfl h3 hp)
  have hv : vw xo (Γ.set i (.sh d)) σ H p = H p := by
    unfold vw hid
    rw [if_neg np]
  have rp : Rep K (vw xo (Γ.set i (.sh d)) σ H) (.ref p) d := c.rep es hv
  refine ⟨⟨by rw [List.length_set]; exact k.len, fun j s h' => ?_, ?_, ?_, k.xt⟩, ⟨es, fun _ _ _ h => h, fun j e h' => ?_, List.length_set⟩, p, hp, rp⟩
  · rcases get_set h' with ⟨rfl, rfl, hl⟩ | ⟨ne, h'⟩
    · rw [List.getD_eq_getElem?_getD, hp]
      exact .sh rp
    · have q := k.ok j s h'
      generalize σ.getD j none = o at q
      cases q with
      | no => exact .no
      | sh r => exact .sh (r.mono es)
      | ow c => exact .ow (c.mono es rfl)
      | io c => exact .io (c.mono es rfl)
  · intro a b s t d' e' p h1 h2 h3 h4 h5 h6
    rcases get_set h1 with ⟨rfl, rfl, _⟩ | ⟨ne, h1⟩
    · cases h2
    · rcases get_set h3 with ⟨rfl, rfl, _⟩ | ⟨ne', h3⟩
      · cases h4
      · exact k.dj a b s t d' e' p h1 h2 h3 h4 h5 h6
  · intro a s d' p h1 h2 h3
    rcases get_set h1 with ⟨rfl, rfl, _⟩ | ⟨ne, h1⟩
    · cases h2
    · exact k.xd a s d' p h1 h2 h3
  · have ne : i ≠ j := fun q => by
      subst q
      rw [h] at h'
      cases h'
    rw [List.getElem?_set_ne ne]
    exact ⟨rfl, e, h'⟩
/-- one more hidden object: a new one -/
abbrev xo1 (xo : Addr → Prop) (p : Addr) : Addr → Prop := fun a => xo a ∨ a = p
theorem vw_new {o : HO} (h : H p = none) : vw (xo1 xo p) Γ σ (upd H p o) = vw xo Γ σ H := by
  funext a
  unfold vw hid
  by_cases e : a = p
  · subst e
    rw [if_pos (show Hd (xo1 xo a) Γ σ a from .inl (.inr rfl)), h, ite_self]
  · rw [upd_ne e]
    by_cases q : Hd xo Γ σ a
    · rw [if_pos q, if_pos (show Hd (xo1 xo p) Γ σ a from q.elim (fun z => .inl (.inl z)) .inr)]
    · rw [if_neg q, if_neg (show ¬ Hd (xo1 xo p) Γ σ a from fun z => z.elim (fun y => y.elim (fun x => q (.inl x)) e) fun y => q (.inr y))]
theorem OkS.fresh {o : HO} (k : OkS K xo Γ σ H) (h : H p = none) : OkS K (xo1 xo p) Γ σ (upd H p o) where
  len := k.len
  ok := fun i s q => by
    rw [vw_new h]
    have r := k.ok i s q
    generalize σ.getD i none = u at r
    cases r with
    | no => exact .no
    | sh r => exact .sh r
    | ow c => obtain ⟨u, hu⟩ := c.there; exact .ow (c.mono (fun _ _ z => z) (upd_ne (ne_of_none hu h)))
    | io c => obtain ⟨u, hu⟩ := c.there; exact .io (c.mono (fun _ _ z => z) (upd_ne (ne_of_none hu h)))
  dj := k.dj
  xd := fun i s d q h1 h2 h3 h4 => by
    rcases h4 with h4 | h4
    · exact k.xd i s d q h1 h2 h3 h4
    · subst h4
      exact k.new h (.inr ⟨i, s, d, h1, h2, h3⟩)
  xt := fun a q => by
    rcases q with q | q
    · obtain ⟨u, hu⟩ := k.xt a q
      exact ⟨u, by rw [upd_ne (ne_of_none hu h)]; exact hu⟩
    · subst q
      exact ⟨_, upd_same⟩
/-- fewer hidden ones -/
theorem OkS.less {xo' : Addr → Prop} (k : OkS K xo' Γ σ H) (h : ∀ a, xo a → xo' a) : OkS K xo Γ σ H where
  len := k.len
  ok := fun i s q => by
    have es : Ex (vw xo' Γ σ H) (vw xo Γ σ H) := hid_le fun a z => z.elim (fun y => .inl (h a y)) .inr
    have r := k.ok i s q
    generalize σ.getD i none = u at r
    cases r with
    | no => exact .no
    | sh r => exact .sh (r.mono es)
    | ow c => exact .ow (c.mono es rfl)
    | io c => exact .io (c.mono es rfl)
  dj := k.dj
  xd := fun i s d p h1 h2 h3 h4 => k.xd i s d p h1 h2 h3 (h p h4)
  xt := fun a q => k.xt a (h a q)
end
end DL
set_option Elab.async false
set_option linter.all false
set_option maxRecDepth 100000
set_option maxHeartbeats 2000000
namespace DL
open PySem L2
section
variable {K : PySem.W.Frag} {xo : Addr → Prop} {Γ Γ' Γ1 Γ2 : SEnv} {σ σ' σ1 σ2 : L2.St} {H H' H1 H2 : Hp} {i j : Nat} {s t : Sl} {d e : D} {p : Addr} {v : V}
/-- the same kind of slot with another content -/
def Sl.put : Sl → D → Sl
  | .ow _, e => .ow e
  | .io _, e => .io e
  | s, _ => s
theorem Sl.put_own (h : s.own = some d) : (s.put e).own = some e := by
  cases s <;> first | rfl | cases h
theorem OwnA.put (h : Γ[i]? = some s) (ho : s.own = some d) {a : Addr} : OwnA (Γ.set i (s.put e)) σ a ↔ OwnA Γ σ a := by
  have hl : i < Γ.length := (List.getElem?_eq_some_iff.mp h).1
  constructor
  · rintro ⟨j, u, x, h1, h2, h3⟩
    rcases get_set h1 with ⟨rfl, rfl, _⟩ | ⟨ne, h1⟩
    · exact ⟨j, s, d, h, ho, h3⟩
    · exact ⟨j, u, x, h1, h2, h3⟩
  · rintro ⟨j, u, x, h1, h2, h3⟩
    by_cases q : i = j
    · subst q
      exact ⟨i, s.put e, e, by rw [List.getElem?_set_self hl], Sl.put_own ho, h3⟩
    · exact ⟨j, u, x, by rw [List.getElem?_set_ne q]; exact h1, h2, h3⟩
theorem vw_put (h : Γ[i]? = some s) (ho : s.own = some d) : vw xo (Γ.set i (s.put e)) σ H = vw xo Γ σ H := by
  have q : Hd xo (Γ.set i (s.put e)) σ = Hd xo Γ σ := by
    funext a
    exact propext ⟨fun z => z.elim .inl fun y => .inr ((OwnA.put h ho).mp y), fun z => z.elim .inl fun y => .inr ((OwnA.put h ho).mpr y)⟩
  unfold vw
  rw [q]
/-- an owned object is changed, the shared heap grows, the other hidden ones stay -/
theorem OkS.chg2 (k : OkS K xo Γ σ H) (h : Γ[i]? = some s) (ho : s.own = some d) (hp : σ[i]? = some (some (.ref p))) (es : Ex (vw xo Γ σ H) (vw xo Γ σ H'))
    (hk : ∀ a o, a ≠ p → Hd xo Γ σ a → H a = some o → H' a = some o) (c : Cell K (vw xo Γ σ H') H' p e) :
    OkS K xo (Γ.set i (s.put e)) σ H' ∧ Step xo Γ σ H (Γ.set i (s.put e)) σ H' := by
  have hd : Hd xo Γ σ p := .inr ⟨i, s, d, h, ho, hp⟩
  have ev : vw xo (Γ.set i (s.put e)) σ H' = vw xo Γ σ H' := vw_put h ho
  have hl : i < Γ.length := (List.getElem?_eq_some_iff.mp h).1
  have nx : ∀ a, xo a → a ≠ p := fun a q z => k.xd i s d p h ho hp (z ▸ q)
  refine ⟨⟨by rw [List.length_set]; exact k.len, fun j u h' => ?_, ?_, ?_, fun a q => ?_⟩, ⟨by rw [ev]; exact es, fun a u q hq => hk a u (nx a q) (.inl q) hq, fun j x h' => ?_, List.length_set⟩⟩
  · rw [ev]
    rcases get_set h' with ⟨rfl, rfl, _⟩ | ⟨ne, h'⟩
    · rw [List.getD_eq_getElem?_getD, hp]
      cases s with
      | no => cases ho
      | sh _ => cases ho
      | ow _ => exact .ow c
      | io _ => exact .io c
    · have r := k.ok j u h'
      have same : ∀ x, u.own = some x → ∀ q o, σ.getD j none = some (.ref q) → H q = some o → H' q = H q := fun x hx q o hq hh => by
        have hj : j < σ.length := by rw [← k.len]; exact (List.getElem?_eq_some_iff.mp h').1
        have e' : σ[j]? = some (some (.ref q)) := by
          rw [List.getElem?_eq_getElem hj]
          rw [List.getD_eq_getElem?_getD, List.getElem?_eq_getElem hj] at hq
          exact congrArg some hq
        have nq : q ≠ p := fun z => by
          subst z
          exact ne (k.dj j i u s x d q h' hx h ho e' hp)
        exact (hk q o nq (.inr ⟨j, u, x, h', hx, e'⟩) hh).trans hh.symm
      generalize σ.getD j none = w at r same
      cases r with
      | no => exact .no
      | sh r => exact .sh (r.mono es)
      | ow c => obtain ⟨o, hh⟩ := c.there; exact .ow (c.mono es (same _ rfl _ o rfl hh))
      | io c => obtain ⟨o, hh⟩ := c.there; exact .io (c.mono es (same _ rfl _ o rfl hh))
  · intro a b u t x y q h1 h2 h3 h4 h5 h6
    have back : ∀ {a : Nat} {u : Sl} {x : D}, (Γ.set i (s.put e))[a]? = some u → u.own = some x → ∃ (u' : Sl) (x' : D), Γ[a]? = some u' ∧ u'.own = some x' := fun {a u x} g1 g2 => by
      rcases get_set g1 with ⟨rfl, rfl, _⟩ | ⟨ne, g1⟩
      · exact ⟨s, d, h, ho⟩
      · exact ⟨u, x, g1, g2⟩
    obtain ⟨u', x', g1, g2⟩ := back h1 h2
    obtain ⟨t', y', g3, g4⟩ := back h3 h4
    exact k.dj a b u' t' x' y' q g1 g2 g3 g4 h5 h6
  · intro a u x q h1 h2 h3
    rcases get_set h1 with ⟨rfl, rfl, _⟩ | ⟨ne, h1⟩
    · exact k.xd a s d q h ho h3
    · exact k.xd a u x q h1 h2 h3
  · obtain ⟨u, hu⟩ := k.xt a q
    exact ⟨u, hk a u (nx a q) (.inl q) hu⟩
  · by_cases z : i = j
    · subst z
      rw [h] at h'
      cases h'
      exact ⟨rfl, e, by rw [List.getElem?_set_self hl]; rfl⟩
    · rw [List.getElem?_set_ne z]
      exact ⟨rfl, x, h'⟩
/-- .. the object alone -/
theorem OkS.chg {o : HO} (k : OkS K xo Γ σ H) (h : Γ[i]? = some s) (ho : s.own = some d) (hp : σ[i]? = some (some (.ref p))) (c : Cell K (vw xo Γ σ H) (upd H p o) p e) :
    OkS K xo (Γ.set i (s.put e)) σ (upd H p o) ∧ Step xo Γ σ H (Γ.set i (s.put e)) σ (upd H p o) := by
  have ev : vw xo Γ σ (upd H p o) = vw xo Γ σ H := hid_upd (.inr ⟨i, s, d, h, ho, hp⟩)
  exact k.chg2 h ho hp (by rw [ev]; exact fun _ _ z => z) (fun a u ne _ hu => by rw [upd_ne ne]; exact hu) (by rw [ev]; exact c)
/-- a step that made a new object at p, hidden still -/
structure StepF (xo : Addr → Prop) (Γ : SEnv) (σ : L2.St) (H : Hp) (p : Addr) (Γ' : SEnv) (σ' : L2.St) (H' : Hp) : Prop where
  sh : Ex (vw xo Γ σ H) (vw (xo1 xo p) Γ' σ' H')
  xk : ∀ a o, xo a → H a = some o → H' a = some o
  io : ∀ (i : Nat) (d : D), Γ[i]? = some (.io d) → σ'[i]? = σ[i]? ∧ ∃ d', Γ'[i]? = some (.io d')
  len : Γ'.length = Γ.length
  nx : ¬ Hd xo Γ' σ' p
theorem StepF.step (a : StepF xo Γ σ H p Γ1 σ1 H1) : Step xo Γ σ H Γ1 σ1 H1 :=
  ⟨fun x o h => hid_le (O := Hd (xo1 xo p) Γ1 σ1) (O' := Hd xo Γ1 σ1) (fun _ z => z.elim (fun y => .inl (.inl y)) .inr) x o (a.sh x o h), a.xk, a.io, a.len⟩
theorem Step.fresh {o : HO} (a : Step xo Γ σ H Γ1 σ1 H1) (k : OkS K xo Γ1 σ1 H1) (h : H1 p = none) : StepF xo Γ σ H p Γ1 σ1 (upd H1 p o) :=
  ⟨by rw [vw_new h]; exact a.sh, fun x u q hq => by
    have z := a.xk x u q hq
    rw [upd_ne (ne_of_none z h)]
    exact z, a.io, a.len, k.new h⟩
/-- a slot is given a new object of its own -/
theorem OkS.setOw (k : OkS K (xo1 xo p) Γ σ H) (hn : ¬ Hd xo Γ σ p) (hi : ∀ d, Γ[i]? ≠ some (.io d)) (hl : i < Γ.length) (c : Cell K (vw (xo1 xo p) Γ σ H) H p d) :
    OkS K xo (Γ.set i (.ow d)) (σ.set i (some (.ref p))) H ∧ Ex (vw (xo1 xo p) Γ σ H) (vw xo (Γ.set i (.ow d)) (σ.set i (some (.ref p))) H) := by
  have hs : i < σ.length := by rw [← k.len]; exact hl
  have sub : ∀ a, Hd xo (Γ.set i (.ow d)) (σ.set i (some (.ref p))) a → Hd (xo1 xo p) Γ σ a := by
    rintro a (q | ⟨j, s, e, h1, h2, h3⟩)
    · exact .inl (.inl q)
    · rcases get_set h1 with ⟨rfl, rfl, _⟩ | ⟨ne, h1⟩
      · rw [List.getElem?_set_self hs] at h3
        cases h3
        exact .inl (.inr rfl)
      · rw [List.getElem?_set_ne (fun q => ne q.symm)] at h3
        exact .inr ⟨j, s, e, h1, h2, h3⟩
  have es : Ex (vw (xo1 xo p) Γ σ H) (vw xo (Γ.set i (.ow d)) (σ.set i (some (.ref p))) H) := hid_le sub
  refine ⟨⟨by rw [List.length_set, List.length_set]; exact k.len, fun j s h => ?_, ?_, ?_, fun a q => k.xt a (.inl q)⟩, es⟩
  · rcases get_set h with ⟨rfl, rfl, _⟩ | ⟨ne, h⟩
    · rw [getD_set_self hs]
      exact .ow (c.mono es rfl)
    · rw [getD_set_ne ne]
      have q := k.ok j s h
      generalize σ.getD j none = o at q
      cases q with
      | no => exact .no
      | sh r => exact .sh (r.mono es)
      | ow c => exact .ow (c.mono es rfl)
      | io c => exact .io (c.mono es rfl)
  · intro a b u t x y q h1 h2 h3 h4 h5 h6
    rcases get_set h1 with ⟨rfl, rfl, _⟩ | ⟨ne, g1⟩
    · rw [List.getElem?_set_self hs] at h5
      cases h5
      rcases get_set h3 with ⟨rfl, rfl, _⟩ | ⟨ne', h3⟩
      · rfl
      · rw [List.getElem?_set_ne (fun q => ne' q.symm)] at h6
        exact absurd (.inr ⟨b, t, y, h3, h4, h6⟩) hn
    · rw [List.getElem?_set_ne (fun q => ne q.symm)] at h5
      rcases get_set h3 with ⟨rfl, rfl, _⟩ | ⟨ne', h3⟩
      · rw [List.getElem?_set_self hs] at h6
        cases h6
        exact absurd (.inr ⟨a, u, x, g1, h2, h5⟩) hn
      · rw [List.getElem?_set_ne (fun q => ne' q.symm)] at h6
        exact k.dj a b u t x y q g1 h2 h3 h4 h5 h6
  · intro a u x q h1 h2 h3 h4
    rcases get_set h1 with ⟨rfl, rfl, _⟩ | ⟨ne, h1⟩
    · rw [List.getElem?_set_self hs] at h3
      cases h3
      exact hn (.inl h4)
    · rw [List.getElem?_set_ne (fun q => ne q.symm)] at h3
      exact k.xd a u x q h1 h2 h3 (.inl h4)
end
end DL
set_option Elab.async false
set_option linter.all false
set_option maxRecDepth 100000
set_option maxHeartbeats 2000000
set_option autoImplicit false
namespace DL
open PySem L2

/-! ### what a piece of a program is worth -/
structure Exn where
  cls : Str
  fld : Str
  pl : D
inductive Res (α : Type) where
  | ok (a : α) (Γ : SEnv) | er (x : Exn) (Γ : SEnv) | no
abbrev M (α : Type) := SEnv → Res α
def ret {α : Type} (a : α) : M α := fun Γ => .ok a Γ
def bnd {α β : Type} (m : M α) (f : α → M β) : M β := fun Γ => match m Γ with
  | .ok a Γ' => f a Γ'
  | .er x Γ' => .er x Γ'
  | .no => .no
def opt {α : Type} (o : Option α) : M α := fun Γ => match o with
  | some a => .ok a Γ
  | none => .no

/-- how an exception lies -/
def XRep (K : PySem.W.Frag) (mg : Str → Option Value) (S : Hp) (cls : Value) (dx : Option Addr) (x : Exn) : Prop :=
  ∃ (C d : Addr) (v : V), mg x.cls = some (.ref C) ∧ cls = .ref C ∧ dx = some d ∧ S d = some (.xd [(x.fld, v)]) ∧ Rep K S v x.pl
/-- what must hold of a result -/
def Ans {α : Type} (X : Cx) (W : WX) (xo : Addr → Prop) (Γ : SEnv) (σ : L2.St) (H : Hp) (r : Res α) (Q : α → SEnv → Hp → Prop) : Prop :=
  match r with
  | .ok a Γ' => ∀ H', OkS X.K xo Γ' σ H' → Step xo Γ σ H Γ' σ H' → Q a Γ' H'
  | .er x Γ' => ∀ (cls : Value) (dx : Option Addr) (H' : Hp), OkS X.K xo Γ' σ H' → Step xo Γ σ H Γ' σ H' → XRep X.K X.mg (vw xo Γ' σ H') cls dx x → W cls dx σ H'
  | .no => False
section
variable {X : Cx} {W : WX} {xo : Addr → Prop} {Γ Γ' Γ1 : SEnv} {σ : L2.St} {H H' H1 : Hp} {α β : Type} {r : Res α} {Q Q' : α → SEnv → Hp → Prop}
theorem Ans.imp (a : Ans X W xo Γ σ H r Q) (h : ∀ x Γ' H', OkS X.K xo Γ' σ H' → Step xo Γ σ H Γ' σ H' → Q x Γ' H' → Q' x Γ' H') : Ans X W xo Γ σ H r Q' := by
  cases r with
  | ok x Γ' => exact fun H' k st => h x Γ' H' k st (a H' k st)
  | er x Γ' => exact a
  | no => exact a
theorem Ans.from (st : Step xo Γ σ H Γ1 σ H1) (a : Ans X W xo Γ σ H r Q) : Ans X W xo Γ1 σ H1 r Q := by
  cases r with
  | ok x Γ' => exact fun H' k s2 => a H' k (st.trans s2)
  | er x Γ' => exact fun cls dx H' k s2 q => a cls dx H' k (st.trans s2) q
  | no => exact a
theorem Ans.bind {m : M α} {f : α → M β} {Q : β → SEnv → Hp → Prop} (a : Ans X W xo Γ σ H (bnd m f Γ) Q) : Ans X W xo Γ σ H (m Γ) (fun x Γ1 H1 => Ans X W xo Γ1 σ H1 (f x Γ1) Q) := by
  unfold bnd at a
  cases e : m Γ with
  | ok x Γ' =>
    rw [e] at a
    exact fun H' k st => Ans.from st a
  | er x Γ' =>
    rw [e] at a
    exact a
  | no =>
    rw [e] at a
    exact a
theorem Ans.ret {x : α} (k : OkS X.K xo Γ σ H) (a : Ans X W xo Γ σ H (ret x Γ) Q) : Q x Γ H := a H k .refl
theorem Ans.opt {o : Option α} (a : Ans X W xo Γ σ H (opt o Γ) Q) : ∃ x, o = some x ∧ Ans X W xo Γ σ H (.ok x Γ) Q := by
  cases o with
  | some x => exact ⟨x, rfl, a⟩
  | none => exact False.elim a
/-- a result that is there, in a grown heap -/
theorem Ans.grown {x : α} (k : OkS X.K xo Γ σ H) (a : Ans X W xo Γ σ H (.ok x Γ) Q) (e : Ex H H') : Q x Γ H' := a H' (k.ext e) (.ext e)
end

/-! ### the judgements -/
def VAns (X : Cx) (W : WX) (xo : Addr → Prop) (Γ : SEnv) (σ : L2.St) (H : Hp) (r : Res D) (Q : VK) : Prop :=
  Ans X W xo Γ σ H r fun d Γ' H' => ∀ v, Rep X.K (vw xo Γ' σ H') v d → Q v H'
structure DE (X : Cx) (W : WX) (e : Expr) (m : M D) : Prop where
  ex : ∃ t : TE, PE X e t ∧ ∀ (xo : Addr → Prop) (Γ : SEnv) (σ : L2.St) (H : Hp) (Q : VK), OkS X.K xo Γ σ H → VAns X W xo Γ σ H (m Γ) Q → t σ H Q
/-- a test -/
structure DT (X : Cx) (W : WX) (e : Expr) (m : M Bool) : Prop where
  ex : ∃ t : TT, PT X e t ∧ ∀ (xo : Addr → Prop) (Γ : SEnv) (σ : L2.St) (H : Hp) (Q : Bool → Hp → Prop), OkS X.K xo Γ σ H → Ans X W xo Γ σ H (m Γ) (fun b _ H' => Q b H') → t σ H Q
structure DW (X : Cx) (W : WX) (e : Expr) (m : M Bool) : Prop where
  ex : ∃ t : TT, PW X e t ∧ ∀ (xo : Addr → Prop) (Γ : SEnv) (σ : L2.St) (H : Hp) (Q : Bool → Hp → Prop), OkS X.K xo Γ σ H → Ans X W xo Γ σ H (m Γ) (fun b _ H' => Q b H') → t σ H Q
/-- arguments -/
structure DA (X : Cx) (W : WX) (es : List Expr) (m : M (List D)) : Prop where
  ex : ∃ t : TA, PA X es t ∧ ∀ (xo : Addr → Prop) (Γ : SEnv) (σ : L2.St) (H : Hp) (Q : List V → Hp → Prop), OkS X.K xo Γ σ H →
    Ans X W xo Γ σ H (m Γ) (fun ds Γ' H' => ∀ vs, Reps X.K (vw xo Γ' σ H') vs ds → Q vs H') → t σ H Q

/-! ### names, constants -/
def vr (i : Nat) : M D := fun Γ => match Γ[i]? with
  | some (.sh d) => .ok d Γ
  | some (.ow d) => .ok d (Γ.set i (.sh d))
  | _ => .no
section
variable {X : Cx} {W : WX} {e a b c : Expr} {pos p2 : Pos} {ma mb mc m : M D}
theorem de_var {i : Nat} {x : Str} (hp : PE X (.Name x pos) (tVar i)) : DE X W (.Name x pos) (vr i) := by
  refine ⟨tVar i, hp, fun xo Γ σ H Q k h => ?_⟩
  unfold vr at h
  cases e : Γ[i]? with
  | none => rw [e] at h; exact False.elim h
  | some s =>
    rw [e] at h
    cases s with
    | no => exact False.elim h
    | io d => exact False.elim h
    | sh d =>
      obtain ⟨v, hv, r⟩ := k.sh_at e
      exact ⟨v, hv, h H k .refl v r⟩
    | ow d =>
      obtain ⟨k', st, p, hp, r⟩ := k.freeze e
      exact ⟨_, hp, h H k' st _ r⟩
theorem de_const {v : V} {d : D} (hp : PE X e (tC v)) (r : ∀ H, Rep X.K H v d) : DE X W e (ret d) :=
  ⟨tC v, hp, fun xo Γ σ H Q k h => Ans.ret k h v (r _)⟩
theorem de_int {i j} : DE X W (.Constant (.int i) j pos) (ret (.int i)) := de_const pe_int fun _ => .int i
theorem de_bl {i j} : DE X W (.Constant (.bool i) j pos) (ret (.bl i)) := de_const pe_bl fun _ => .bl i
theorem de_non {j} : DE X W (.Constant .none j pos) (ret .non) := de_const pe_non fun _ => .non
theorem de_str {x j} : DE X W (.Constant (.str x) j pos) (ret (.str x)) := de_const pe_str fun _ => .str x
/-- a module's constant -/
theorem de_glob {x : Str} {v : V} {u : Value} {d : D} (hg : Gl X x) (hm : X.mg x = some u) (r : RelV v u) (rd : ∀ H, Rep X.K H v d) (hd : (x == ("__debug__" : Str)) = false := by decide) : DE X W (.Name x pos) (ret d) :=
  de_const (pe_glob hg hm r hd) rd

/-! ### operations on two values -/
def OpD (X : Cx) (f : Value → Value → Sem Value) (g : D → D → Option D) : Prop :=
  ∃ r : R2, OpR X f r ∧ ∀ (O : Addr → Prop) (H : Hp) (x y : V) (dx dy dz : D) (Q : VK), (∀ a, O a → ∃ o, H a = some o) → Rep X.K (hid O H) x dx → Rep X.K (hid O H) y dy → g dx dy = some dz →
    (∀ v H', Ex H H' → Rep X.K (hid O H') v dz → Q v H') → r x y H Q
def bin (g : D → D → Option D) (ma mb : M D) : M D := bnd ma fun a => bnd mb fun b => opt (g a b)
theorem run2 {ta tb : TE} {f : D → D → M D} (ha : ∀ (xo : Addr → Prop) (Γ : SEnv) (σ : L2.St) (H : Hp) (Q : VK), OkS X.K xo Γ σ H → VAns X W xo Γ σ H (ma Γ) Q → ta σ H Q)
    (hb : ∀ (xo : Addr → Prop) (Γ : SEnv) (σ : L2.St) (H : Hp) (Q : VK), OkS X.K xo Γ σ H → VAns X W xo Γ σ H (mb Γ) Q → tb σ H Q)
    {xo : Addr → Prop} {Γ : SEnv} {σ : L2.St} {H : Hp} {R : V → V → Hp → Prop} {Q : D → SEnv → Hp → Prop} (k : OkS X.K xo Γ σ H) (h : Ans X W xo Γ σ H ((bnd ma fun a => bnd mb fun b => f a b) Γ) Q)
    (hr : ∀ x y a b Γ2 H2, OkS X.K xo Γ2 σ H2 → Rep X.K (vw xo Γ2 σ H2) x a → Rep X.K (vw xo Γ2 σ H2) y b → Ans X W xo Γ2 σ H2 (f a b Γ2) Q → R x y H2) :
    ta σ H fun x H1 => tb σ H1 fun y H2 => R x y H2 := by
  refine ha xo Γ σ H _ k (h.bind.imp fun a Γ1 H1 k1 s1 h1 x rx => ?_)
  refine hb xo Γ1 σ H1 _ k1 (h1.bind.imp fun b Γ2 H2 k2 s2 h2 y ry => ?_)
  exact hr x y a b Γ2 H2 k2 (s2.rep rx) ry h2
theorem de_op {op : Operator} {g : D → D → Option D} (ho : OpD X (binaryOp op) g) (ha : DE X W a ma) (hb : DE X W b mb) : DE X W (.BinOp a op b pos) (bin g ma mb) := by
  obtain ⟨r, hr, hq⟩ := ho
  obtain ⟨ta, pa, ga⟩ := ha.ex
  obtain ⟨tb, pb, gb⟩ := hb.ex
  refine ⟨_, pe_op hr pa pb, fun xo Γ σ H Q k h => ?_⟩
  refine run2 ga gb k h fun x y a b Γ2 H2 k2 rx ry h2 => ?_
  obtain ⟨dz, e, h3⟩ := h2.opt
  exact hq _ _ _ _ _ _ _ _ (fun _ q => k2.hd_there q) rx ry e fun v H' ex rv => Ans.grown k2 h3 ex v rv
theorem de_cmp {op : CmpOp} {g : D → D → Option D} (ho : OpD X (compareOp op) g) (ha : DE X W a ma) (hb : DE X W b mb) (hm : behindInMarks op b = false) : DE X W (.Compare a [op] [b] pos) (bin g ma mb) := by
  obtain ⟨r, hr, hq⟩ := ho
  obtain ⟨ta, pa, ga⟩ := ha.ex
  obtain ⟨tb, pb, gb⟩ := hb.ex
  refine ⟨_, pe_cmpR hr pa pb hm, fun xo Γ σ H Q k h => ?_⟩
  refine run2 ga gb k h fun x y a b Γ2 H2 k2 rx ry h2 => ?_
  obtain ⟨dz, e, h3⟩ := h2.opt
  exact hq _ _ _ _ _ _ _ _ (fun _ q => k2.hd_there q) rx ry e fun v H' ex rv => Ans.grown k2 h3 ex v rv
/-- a truth value -/
def asB (m : M D) : M Bool := bnd m fun d => match d with
  | .bl b => ret b
  | _ => fun _ => .no
theorem Ans.asB {xo : Addr → Prop} {Γ : SEnv} {σ : L2.St} {H : Hp} {Q : Bool → SEnv → Hp → Prop} (h : Ans X W xo Γ σ H (asB m Γ) Q) :
    Ans X W xo Γ σ H (m Γ) fun d Γ' H' => ∃ b, d = .bl b ∧ Q b Γ' H' := by
  refine (Ans.bind h).imp fun d Γ' H' k st q => ?_
  cases d with
  | bl b => exact ⟨b, rfl, Ans.ret k q⟩
  | _ => exact False.elim q
theorem dt_cmp {op : CmpOp} {g : D → D → Option D} (ho : OpD X (compareOp op) g) (ha : DE X W a ma) (hb : DE X W b mb) (hm : behindInMarks op b = false) : DT X W (.Compare a [op] [b] pos) (asB (bin g ma mb)) := by
  obtain ⟨r, hr, hq⟩ := ho
  obtain ⟨ta, pa, ga⟩ := ha.ex
  obtain ⟨tb, pb, gb⟩ := hb.ex
  refine ⟨_, pt_cmpR hr pa pb hm, fun xo Γ σ H Q k h => ?_⟩
  refine run2 ga gb k (Ans.asB h) fun x y a b Γ2 H2 k2 rx ry h2 => ?_
  obtain ⟨dz, e, h3⟩ := h2.opt
  refine hq _ _ _ _ _ _ _ _ (fun _ q => k2.hd_there q) rx ry e fun v H' ex rv => ?_
  obtain ⟨bb, e2, q⟩ := Ans.grown k2 h3 ex
  subst e2
  cases rv
  exact ⟨bb, rfl, q⟩
/-- an expression that gives a truth value, as a test -/
theorem dt_val (h : DE X W e m) (he : ∀ whole, isTrue e X.env whole = (do let v ← whole; standAt e.pos; holding [v] (truthy v)) := by intro _; rfl) : DT X W e (asB m) := by
  obtain ⟨t, p, g⟩ := h.ex
  refine ⟨_, pt_val p he, fun xo Γ σ H Q k h => ?_⟩
  refine g xo Γ σ H _ k ((Ans.asB h).imp fun d Γ' H' k' st q v rv => ?_)
  obtain ⟨b, rfl, q⟩ := q
  cases rv
  exact ⟨b, rfl, q⟩
/-! ### and, or, not -/
def andM (x y : M Bool) : M Bool := bnd x fun b => if b = true then y else ret false
def orM (x y : M Bool) : M Bool := bnd x fun b => if b = true then ret true else y
def notM (x : M Bool) : M Bool := bnd x fun b => ret (!b)
variable {ta tb : M Bool} {rest : List Expr}
theorem dw_pt (h : DW X W e ta) : DT X W e ta := let ⟨t, p, g⟩ := h.ex; ⟨t, p.pt, g⟩
theorem dw_and1 (h : DT X W a ta) : DW X W (.BoolOp .And [a] pos) ta := let ⟨t, p, g⟩ := h.ex; ⟨t, pw_and1 p, g⟩
theorem dw_or1 (h : DT X W a ta) : DW X W (.BoolOp .Or [a] pos) ta := let ⟨t, p, g⟩ := h.ex; ⟨t, pw_or1 p, g⟩
theorem dw_and (ha : DT X W a ta) (hb : DW X W (.BoolOp .And (b :: rest) pos) tb) : DW X W (.BoolOp .And (a :: b :: rest) pos) (andM ta tb) := by
  obtain ⟨t, p, g⟩ := ha.ex
  obtain ⟨u, q, f⟩ := hb.ex
  refine ⟨_, pw_and p q, fun xo Γ σ H Q k h => ?_⟩
  refine g xo Γ σ H _ k (h.bind.imp fun b Γ' H' k' st h' => ?_)
  cases b with
  | true => exact iteT (f xo Γ' σ H' _ k' h')
  | false => exact iteF (Ans.ret k' h')
theorem dw_or (ha : DT X W a ta) (hb : DW X W (.BoolOp .Or (b :: rest) pos) tb) : DW X W (.BoolOp .Or (a :: b :: rest) pos) (orM ta tb) := by
  obtain ⟨t, p, g⟩ := ha.ex
  obtain ⟨u, q, f⟩ := hb.ex
  refine ⟨_, pw_or p q, fun xo Γ σ H Q k h => ?_⟩
  refine g xo Γ σ H _ k (h.bind.imp fun b Γ' H' k' st h' => ?_)
  cases b with
  | true => exact iteT (Ans.ret k' h')
  | false => exact iteF (f xo Γ' σ H' _ k' h')
theorem dt_not (ha : DT X W a ta) : DT X W (.UnaryOp .Not a pos) (notM ta) := by
  obtain ⟨t, p, g⟩ := ha.ex
  refine ⟨_, pt_not p, fun xo Γ σ H Q k h => ?_⟩
  exact g xo Γ σ H _ k (h.bind.imp fun b Γ' H' k' st h' => Ans.ret k' h')
def blM (m : M Bool) : M D := bnd m fun b => ret (.bl b)
/-- .. as values -/
def andV (x y : M D) : M D := bnd (asB x) fun b => if b = true then y else ret (.bl false)
def orV (x y : M D) : M D := bnd (asB x) fun b => if b = true then ret (.bl true) else y
def notV (x : M D) : M D := bnd (asB x) fun b => ret (.bl (!b))
theorem de_one {op} (h : DE X W a m) : DE X W (.BoolOp op [a] pos) m := let ⟨t, p, g⟩ := h.ex; ⟨t, pe_one p, g⟩
theorem de_and (ha : DE X W a ma) (hb : DE X W (.BoolOp .And (b :: rest) pos) mb) : DE X W (.BoolOp .And (a :: b :: rest) pos) (andV ma mb) := by
  obtain ⟨t, p, g⟩ := ha.ex
  obtain ⟨u, q, f⟩ := hb.ex
  refine ⟨_, pe_and p q, fun xo Γ σ H Q k h => ?_⟩
  refine g xo Γ σ H _ k ((Ans.asB (Ans.bind h)).imp fun d Γ' H' k' st h' v rv => ?_)
  obtain ⟨b, rfl, h'⟩ := h'
  cases rv
  refine ⟨b, rfl, ?_⟩
  cases b with
  | true => exact iteT (f xo Γ' σ H' _ k' h')
  | false => exact iteF (Ans.ret k' h' _ (.bl false))
theorem de_or (ha : DE X W a ma) (hb : DE X W (.BoolOp .Or (b :: rest) pos) mb) : DE X W (.BoolOp .Or (a :: b :: rest) pos) (orV ma mb) := by
  obtain ⟨t, p, g⟩ := ha.ex
  obtain ⟨u, q, f⟩ := hb.ex
  refine ⟨_, pe_or p q, fun xo Γ σ H Q k h => ?_⟩
  refine g xo Γ σ H _ k ((Ans.asB (Ans.bind h)).imp fun d Γ' H' k' st h' v rv => ?_)
  obtain ⟨b, rfl, h'⟩ := h'
  cases rv
  refine ⟨b, rfl, ?_⟩
  cases b with
  | true => exact iteT (Ans.ret k' h' _ (.bl true))
  | false => exact iteF (f xo Γ' σ H' _ k' h')
theorem de_not (ha : DE X W a ma) : DE X W (.UnaryOp .Not a pos) (notV ma) := by
  obtain ⟨t, p, g⟩ := ha.ex
  refine ⟨_, pe_not p, fun xo Γ σ H Q k h => ?_⟩
  refine g xo Γ σ H _ k ((Ans.asB (Ans.bind h)).imp fun d Γ' H' k' st h' v rv => ?_)
  obtain ⟨b, rfl, h'⟩ := h'
  cases rv
  exact ⟨b, rfl, Ans.ret k' h' _ (.bl _)⟩
def ifM {α : Type} (c : M Bool) (x y : M α) : M α := bnd c fun b => if b = true then x else y
theorem de_if (hc : DT X W c ta) (ha : DE X W a ma) (hb : DE X W b mb) : DE X W (.IfExp c a b pos) (ifM ta ma mb) := by
  obtain ⟨t, p, g⟩ := hc.ex
  obtain ⟨u, q, f⟩ := ha.ex
  obtain ⟨u', q', f'⟩ := hb.ex
  refine ⟨_, pe_ifExp p q q', fun xo Γ σ H Q k h => ?_⟩
  refine g xo Γ σ H _ k (h.bind.imp fun b Γ' H' k' st h' => ?_)
  cases b with
  | true => exact iteT (f xo Γ' σ H' _ k' h')
  | false => exact iteF (f' xo Γ' σ H' _ k' h')
/-! ### arguments, displays -/
def nilA : M (List D) := ret []
def consA (m : M D) (r : M (List D)) : M (List D) := bnd m fun d => bnd r fun ds => ret (d :: ds)
variable {es : List Expr} {mr : M (List D)}
theorem da_nil : DA X W [] nilA := ⟨_, pa_nil, fun xo Γ σ H Q k h => Ans.ret k h _ .nil⟩
theorem da_cons (ha : DE X W a ma) (hr : DA X W es mr) (hs : starEach (a :: es) X.env = (false, eval a X.env) :: starEach es X.env := by rfl) : DA X W (a :: es) (consA ma mr) := by
  obtain ⟨t, p, g⟩ := ha.ex
  obtain ⟨u, q, f⟩ := hr.ex
  refine ⟨_, pa_cons p q hs, fun xo Γ σ H Q k h => ?_⟩
  refine g xo Γ σ H _ k (h.bind.imp fun d Γ' H' k' st h' v rv => ?_)
  refine f xo Γ' σ H' _ k' (h'.bind.imp fun ds Γ2 H2 k2 s2 h2 vs rvs => ?_)
  exact Ans.ret k2 h2 _ (.cons (s2.rep rv) rvs)
def sizeOk (n : Nat) : Bool := decide (n ≤ sizeLine)
def tupM (m : M (List D)) : M D := bnd m fun ds => if sizeOk ds.length = true then ret (.tup ds) else fun _ => .no
theorem de_tup {x1} (h : DA X W es mr) : DE X W (.Tuple es x1 pos) (tupM mr) := by
  obtain ⟨t, p, g⟩ := h.ex
  refine ⟨_, pe_tup p, fun xo Γ σ H Q k h => ?_⟩
  refine g xo Γ σ H _ k ((Ans.bind h).imp fun ds Γ' H' k' st h' vs rvs => ?_)
  by_cases hz : sizeOk ds.length = true
  · rw [if_pos hz] at h'
    refine ⟨by rw [rvs.length]; exact of_decide_eq_true hz, fun p hp => ?_⟩
    have ex : Ex H' (upd H' p (.tup vs)) := Evl.Ex.new hp
    exact Ans.grown k' h' ex _ (.tup (.inl (.inl (hid_some.mpr ⟨k'.new hp, upd_same⟩))) (rvs.mono (hid_of ex)))
  · rw [if_neg hz] at h'
    exact False.elim h'
def lstM (m : M (List D)) : M D := bnd m fun ds => if sizeOk ds.length = true then ret (.lst ds) else fun _ => .no
theorem de_lst (h : DA X W es mr) : DE X W (.List es pos) (lstM mr) := by
  obtain ⟨t, p, g⟩ := h.ex
  refine ⟨_, pe_lst p, fun xo Γ σ H Q k h => ?_⟩
  refine g xo Γ σ H _ k ((Ans.bind h).imp fun ds Γ' H' k' st h' vs rvs => ?_)
  by_cases hz : sizeOk ds.length = true
  · rw [if_pos hz] at h'
    refine ⟨by rw [rvs.length]; exact of_decide_eq_true hz, fun p hp => ?_⟩
    have ex : Ex H' (upd H' p (.lst vs)) := Evl.Ex.new hp
    exact Ans.grown k' h' ex _ (.lst (hid_some.mpr ⟨k'.new hp, upd_same⟩) (rvs.mono (hid_of ex)))
  · rw [if_neg hz] at h'
    exact False.elim h'
end
end DL
set_option Elab.async false
set_option linter.all false
set_option maxRecDepth 100000
set_option maxHeartbeats 2000000
set_option autoImplicit false
namespace DL
open PySem L2

/-! ### data as the library's data -/
mutual
def D.py : D → PyData
  | .non => .none
  | .bl b => .bool b
  | .int i => .int i
  | .str s => .str s
  | .tup ds => .tuple (D.pys ds)
  | .lst ds => .list (D.pys ds)
  | .ptr _ => .dict []
  | .dct _ _ => .dict []
  | .exc _ _ _ _ _ => .dict []
  | .scr ns => .list (ns.map PyData.int)
def D.pys : List D → List PyData
  | [] => []
  | d :: ds => d.py :: D.pys ds
end
mutual
/-- no pointers, no dicts in it -/
def D.pl : D → Bool
  | .tup ds => D.pls ds
  | .lst ds => D.pls ds
  | .ptr _ => false
  | .dct _ _ => false
  | .exc _ _ _ _ _ => false
  | .scr _ => false
  | _ => true
def D.pls : List D → Bool
  | [] => true
  | d :: ds => d.pl && D.pls ds
end
theorem pys_map : ∀ ds : List D, D.pys ds = ds.map D.py
  | [] => rfl
  | d :: ds => by rw [D.pys, pys_map ds, List.map_cons]
theorem pls_all : ∀ {ds : List D}, D.pls ds = true → ∀ d ∈ ds, d.pl = true
  | [], _ => fun x hx => nomatch hx
  | d :: ds, h => by
    rw [D.pls, Bool.and_eq_true] at h
    intro x hx
    rcases List.mem_cons.mp hx with rfl | hx
    · exact h.1
    · exact pls_all h.2 x hx
theorem plain_ints : ∀ ns : List Int, PyData.plainAll (ns.map PyData.int) = true
  | [] => rfl
  | n :: ns => by rw [List.map_cons, PyData.plainAll, plain_ints ns]; rfl
mutual
theorem D.py_plain : ∀ d : D, d.pl = true → d.py.plain = true
  | .non, _ => rfl
  | .bl _, _ => rfl
  | .int _, _ => rfl
  | .str _, _ => rfl
  | .tup ds, h => by rw [D.py, PyData.plain]; exact D.pys_plain ds h
  | .lst ds, h => by rw [D.py, PyData.plain]; exact D.pys_plain ds h
  | .ptr _, h => by simp [D.pl] at h
  | .dct _ _, h => by simp [D.pl] at h
  | .exc _ _ _ _ _, h => by simp [D.pl] at h
  | .scr ns, h => by simp [D.pl] at h
theorem D.pys_plain : ∀ ds : List D, D.pls ds = true → PyData.plainAll (D.pys ds) = true
  | [], _ => rfl
  | d :: ds, h => by
    rw [D.pls, Bool.and_eq_true] at h
    rw [D.pys, PyData.plainAll, D.py_plain d h.1, D.pys_plain ds h.2]
    rfl
end
section
variable {K : PySem.W.Frag} {H : Hp}
theorem dp_ints : ∀ ns : List Int, DpAll K H (ns.map V.int) (ns.map PyData.int)
  | [] => .nil
  | n :: ns => .cons (.int n) (dp_ints ns)
mutual
theorem Rep.dp : ∀ {v : V} {d : D}, Rep K H v d → d.pl = true → Dp K H v d.py
  | _, _, .non, _ => .non
  | _, _, .bl b, _ => .bl b
  | _, _, .int i, _ => .int i
  | _, _, .str s, _ => .str s
  | _, _, .tup q r, h => .tup q (Reps.dp r h)
  | _, _, .lst q r, h => .lst (SqL.of q) (Reps.dp r h)
  | _, _, .scr q, _ => .lst q (dp_ints _)
  | _, _, .ptr a, h => by simp [D.pl] at h
  | _, _, .dK _ _, h => by simp [D.pl] at h
  | _, _, .exc _ _ _ _ _ _, h => by simp [D.pl] at h
theorem Reps.dp : ∀ {vs : List V} {ds : List D}, Reps K H vs ds → D.pls ds = true → DpAll K H vs (D.pys ds)
  | _, _, .nil, _ => .nil
  | _, _, .cons q r, h => by
    rw [D.pls, Bool.and_eq_true] at h
    exact .cons (Rep.dp q h.1) (Reps.dp r h.2)
end
end
def deepOk (d : D) : Bool := d.pl && decide (d.py.depth ≤ 90)
theorem deepOk_iff {d : D} : deepOk d = true ↔ d.pl = true ∧ d.py.depth ≤ 90 := by
  unfold deepOk
  rw [Bool.and_eq_true, decide_eq_true_eq]
section
variable {X : Cx}
theorem Rep.reads {pins : List (Addr × Obj)} {s : Shared} {σ : L2.St} {H : Hp} {v : V} {u : Value} {d : D} (I : Inv X pins σ H s) (h : d.pl = true) (r : Rep X.K H v d) (rv : RelV v u) : ∃ as, Reads s.heap u d.py as :=
  Dp.reads I _ _ _ (r.dp h) rv

/-! ### operators -/
theorem OpD.of {f : Value → Value → Sem Value} {g : D → D → Option D} {r : R2} (hr : OpR X f r)
    (h : ∀ (O : Addr → Prop) (H : Hp) (x y : V) (dx dy dz : D) (Q : VK), (∀ a, O a → ∃ o, H a = some o) → Rep X.K (hid O H) x dx → Rep X.K (hid O H) y dy → g dx dy = some dz →
      (∀ v H', Ex H H' → Rep X.K (hid O H') v dz → Q v H') → r x y H Q) : OpD X f g := ⟨r, hr, h⟩
theorem SqL.un {K : PySem.W.Frag} {O : Addr → Prop} {H : Hp} {a : Addr} {xs : List V} (h : SqL K (hid O H) a xs) : SqL K H a xs := Evl.ex_l hid_ex h
theorem hid_un {O : Addr → Prop} {H : Hp} {a : Addr} {o : HO} (h : hid O H a = some o) : H a = some o := (hid_some.mp h).2
theorem SqT.un {K : PySem.W.Frag} {O : Addr → Prop} {H : Hp} {a : Addr} {xs : List V} (h : SqT K (hid O H) a xs) : SqT K H a xs := Evl.ex_t hid_ex h
/-- a new object, seen -/
theorem hid_new {O : Addr → Prop} {H : Hp} {p : Addr} {o : HO} (hO : ∀ a, O a → ∃ o, H a = some o) (hp : H p = none) : hid O (upd H p o) p = some o :=
  hid_some.mpr ⟨fun q => (let ⟨u, e⟩ := hO p q; by rw [hp] at e; cases e), upd_same⟩

/-- lists that are read, tuples: a + b -/
def rCatLL (K : PySem.W.Frag) : R2 := fun x y H Q => ∃ l b xs zs, x = .ref l ∧ y = .ref b ∧ SqL K H l xs ∧ SqL K H b zs ∧ xs.length + zs.length ≤ sizeLine ∧ ∀ p, H p = none → Q (.ref p) (upd H p (.lst (xs ++ zs)))
theorem op_catLL : OpR X (binaryOp .Add) (rCatLL X.K) := by
  intro pins s σ H x y v u Q I rx ry h
  obtain ⟨l, b, xs, zs, rfl, rfl, hl, hb, hz, q⟩ := h
  cases rx
  cases ry
  obtain ⟨its, r, pl, _⟩ := I.list hl
  obtain ⟨its2, r2, pl2, _⟩ := I.list hb
  obtain ⟨⟨cls, dd, data, sl⟩, ho, hc, n, hd⟩ := id pl.isList
  obtain ⟨⟨cls2, dd2, data2, sl2⟩, ho2, hc2, n2, hd2⟩ := id pl2.isList
  simp only at hc hd hc2 hd2
  subst hc hd hc2 hd2
  have e : its.toArray ++ its2.toArray = (its ++ its2).toArray := by simp
  have z1 := r.length
  have z2 := r2.length
  refine concat_meets ⟨_, ho, rfl⟩ ⟨_, ho2, rfl⟩ noFill_list_add seq_list_add PySem.F.slot_list_add PySem.F.entry_list_add (PySem.F.args_list_add_2 _ _)
    (PyProof.Rows.list_addW l b its.toArray its2.toArray n n2 dd dd2 sl sl2 (by rw [List.size_toArray, List.size_toArray]; omega)) ⟨ho, ho2, ?_⟩
  rw [e]
  exact ⟨.ref _, _, I.lnew (t' := s.toks) (r.append r2) (by rw [List.length_append]; omega), rfl, q _ I.fresh⟩
def rCatTT (K : PySem.W.Frag) : R2 := fun x y H Q => ∃ l b xs zs, x = .ref l ∧ y = .ref b ∧ SqT K H l xs ∧ SqT K H b zs ∧ xs.length + zs.length ≤ sizeLine ∧
  (xs = [] → Q (.ref b) H) ∧ (zs = [] → Q (.ref l) H) ∧ ∀ p, H p = none → Q (.ref p) (upd H p (.tup (xs ++ zs)))
theorem op_catTT : OpR X (binaryOp .Add) (rCatTT X.K) := by
  intro pins s σ H x y v u Q I rx ry h
  obtain ⟨t, b, xs, zs, rfl, rfl, hl, hb, hz, q1, q2, q⟩ := h
  cases rx
  cases ry
  obtain ⟨vs, r, ht, _⟩ := I.tuple hl
  obtain ⟨ws, r2, hb', _⟩ := I.tuple hb
  obtain ⟨⟨cls, dd, data, sl⟩, ho, hc, n, hd⟩ := id ht
  obtain ⟨⟨cls2, dd2, data2, sl2⟩, ho2, hc2, n2, hd2⟩ := id hb'
  simp only at hc hd hc2 hd2
  subst hc hd hc2 hd2
  have z1 := r.length
  have z2 := r2.length
  by_cases hv : vs = []
  · refine concat_meets ⟨_, ho, rfl⟩ ⟨_, ho2, rfl⟩ noFill_tuple_add seq_tuple_add PySem.F.slot_tuple_add PySem.F.entry_tuple_add (PySem.F.args_tuple_add_2 _ _)
      (PyProof.Rows.tuple_addW0 t b vs.toArray ws.toArray n n2 dd dd2 sl sl2 (by simp [hv])) ⟨ho, ho2, ?_⟩
    exact ⟨.ref b, H, I, rfl, q1 (by rw [hv] at z1; exact List.length_eq_zero_iff.mp z1)⟩
  · refine HT.cat_tup ht hb' hv (fun hw => ⟨.ref t, H, I, rfl, q2 (by rw [hw] at z2; exact List.length_eq_zero_iff.mp z2)⟩) (fun hw => ?_) (by omega)
    exact ⟨.ref _, upd H s.heap.objs.size (.tup (xs ++ zs)), I.laid (t' := s.toks) (fun _ _ e => Heap.get?_push_of_some _ e) (Nat.le_refl _) ⟨by rw [List.length_append]; exact hz, vs ++ ws, r.append r2, ⟨_, Heap.get?_push_size _ rfl, rfl, _, rfl⟩⟩, rfl, q _ I.fresh⟩
def D.add : D → D → Option D
  | .int i, .int j => some (.int (i + j))
  | .str a, .str b => if sizeOk (a.length + b.length) = true then some (.str (a ++ b)) else none
  | .lst a, .lst b => if sizeOk (a.length + b.length) = true then some (.lst (a ++ b)) else none
  | .tup a, .tup b => if sizeOk (a.length + b.length) = true then some (.tup (a ++ b)) else none
  | _, _ => none
theorem od_add : OpD X (binaryOp .Add) D.add := by
  refine OpD.of (OpR.or op_add (OpR.or op_add_str (OpR.or op_catLL op_catTT))) fun O H x y dx dy dz Q hO rx ry e q => ?_
  unfold D.add at e
  split at e
  · cases e; cases rx; cases ry
    exact .inl ⟨_, _, rfl, rfl, q _ H (fun _ _ h => h) (.int _)⟩
  · cases rx; cases ry
    split at e
    · rename_i hz
      cases e
      exact .inr (.inl ⟨_, _, rfl, rfl, of_decide_eq_true hz, q _ H (fun _ _ h => h) (.str _)⟩)
    · cases e
  · cases rx with
    | lst h1 r1 =>
      cases ry with
      | lst h2 r2 =>
        split at e
        · rename_i hz
          cases e
          refine .inr (.inr (.inl ⟨_, _, _, _, rfl, rfl, SqL.of (hid_un h1), SqL.of (hid_un h2), by rw [r1.length, r2.length]; exact of_decide_eq_true hz, fun p hp => ?_⟩))
          exact q _ _ (Evl.Ex.new hp) (.lst (hid_new hO hp) ((r1.append r2).mono (hid_of (Evl.Ex.new hp))))
        · cases e
  · cases rx with
    | tup h1 r1 =>
      cases ry with
      | tup h2 r2 =>
        split at e
        · rename_i hz
          cases e
          refine .inr (.inr (.inr ⟨_, _, _, _, rfl, rfl, SqT.un h1, SqT.un h2, by rw [r1.length, r2.length]; exact of_decide_eq_true hz, fun h0 => ?_, fun h0 => ?_, fun p hp => ?_⟩))
          · refine q _ H (fun _ _ h => h) ?_
            subst h0
            cases r1
            exact .tup h2 r2
          · refine q _ H (fun _ _ h => h) ?_
            subst h0
            cases r2
            rw [List.append_nil]
            exact .tup h1 r1
          · exact q _ _ (Evl.Ex.new hp) (.tup (.inl (.inl (hid_new hO hp))) ((r1.append r2).mono (hid_of (Evl.Ex.new hp))))
        · cases e
  · cases e
def D.int2 (C : Int → Int → Bool) (f : Int → Int → Int) : D → D → Option D
  | .int i, .int j => if C i j = true then some (.int (f i j)) else none
  | _, _ => none
theorem od_int2 {f : Value → Value → Sem Value} {C : Int → Int → Bool} {P : Int → Int → Prop} {g : Int → Int → Int} (hr : OpR X f (rI P fun i j => .int (g i j))) (hC : ∀ i j, C i j = true → P i j) : OpD X f (D.int2 C g) := by
  refine OpD.of hr fun O H x y dx dy dz Q hO rx ry e q => ?_
  unfold D.int2 at e
  split at e
  · split at e
    · rename_i hc
      cases e; cases rx; cases ry
      exact ⟨_, _, rfl, rfl, hC _ _ hc, q _ H (fun _ _ h => h) (.int _)⟩
    · cases e
  · cases e
theorem OpR.wk {f : Value → Value → Sem Value} {g : Int → Int → V} (h : OpR X f (rI0 g)) : OpR X f (rI (fun _ _ => True) g) := fun pins s σ H x y v u Q I rx ry q => by
  obtain ⟨i, j, e1, e2, _, q⟩ := q
  exact h pins s σ H x y v u Q I rx ry ⟨i, j, e1, e2, q⟩
abbrev D.sub : D → D → Option D := D.int2 (fun _ _ => true) (fun i j => i - j)
theorem od_sub : OpD X (binaryOp .Sub) D.sub := od_int2 (OpR.wk op_sub) fun _ _ _ => trivial
abbrev D.fdiv : D → D → Option D := D.int2 (fun _ j => decide (j ≠ 0 ∧ j.natAbs < 1073741824)) (fun i j => i.fdiv j)
theorem od_fdiv : OpD X (binaryOp .FloorDiv) D.fdiv := od_int2 op_fdivN fun i j h => (of_decide_eq_true h : j ≠ 0 ∧ j.natAbs < 1073741824)
abbrev D.mod : D → D → Option D := D.int2 (fun _ j => decide (j ≠ 0)) (fun i j => i.fmod j)
theorem od_mod : OpD X (binaryOp .Mod) D.mod := od_int2 op_modN fun _ _ h => of_decide_eq_true h
abbrev D.pow : D → D → Option D := D.int2 (fun i j => decide (0 ≤ j ∧ j ≤ 1000000 ∧ i.natAbs < 2 ^ 64)) (fun i j => i ^ j.toNat)
theorem od_pow : OpD X (binaryOp .Pow) D.pow := od_int2 op_pow fun i j h => (of_decide_eq_true h : 0 ≤ j ∧ j ≤ 1000000 ∧ i.natAbs < 2 ^ 64)
abbrev D.xor : D → D → Option D := D.int2 (fun _ _ => true) Builtin.bitXor
theorem od_xor : OpD X (binaryOp .BitXor) D.xor := od_int2 (OpR.wk op_xor) fun _ _ _ => trivial

end
end DL
set_option Elab.async false
set_option linter.all false
set_option maxRecDepth 100000
set_option maxHeartbeats 2000000
set_option autoImplicit false
namespace DL
open PySem L2 PyProof.Rows
section
variable {X : Cx}
def rMulS : R2 := fun x y H Q => ∃ a k, x = .str a ∧ y = .int k ∧ MulOk a k ∧ Q (.str (Txt.mul a k)) H
theorem op_mulS : OpR X (binaryOp .Mult) rMulS := by
  intro pins s σ H x y v u Q I rx ry h
  obtain ⟨a, k, rfl, rfl, hm, q⟩ := h
  obtain ⟨t, rfl⟩ := rx
  obtain ⟨t', rfl⟩ := ry
  exact SB.mul hm fun t2 k2 => ⟨.str _, H, I.tok _, ⟨_, rfl⟩, q⟩
theorem mulOk_of {a : Str} {k : Int} (h1 : -(2 ^ 40) < k) (h2 : k < 2 ^ 40) (h : a.length * k.toNat ≤ sizeLine) : MulOk a k := by
  refine ⟨by rw [decide_eq_false (by omega), decide_eq_false (by omega)]; rfl, fun h3 _ => ?_, fun h3 _ => ?_⟩
  · have h4 : (0 : Int) < k := by omega
    have h5 : (a.length : Int) * k ≤ sizeLine := by
      have e : (k.toNat : Int) = k := Int.toNat_of_nonneg (by omega)
      have h9 : ((a.length * k.toNat : Nat) : Int) ≤ ((sizeLine : Nat) : Int) := Int.ofNat_le.mpr h
      rw [Int.natCast_mul, e] at h9
      exact h9
    intro hc
    have h6 : (2 ^ 63 - 1) / k < a.length := hc
    rw [Int.ediv_lt_iff_lt_mul h4] at h6
    have : ((sizeLine : Nat) : Int) = 16777216 := by rw [sizeLine_eq]; rfl
    omega
  · unfold Builtin.Str.tooLong
    exact decide_eq_false (by omega)
def rRepTT (K : PySem.W.Frag) : R2 := fun x y H Q => ∃ l k xs, x = .ref l ∧ y = .int k ∧ SqT K H l xs ∧ xs ≠ [] ∧ 2 ≤ k ∧ k ≤ 1000000 ∧ xs.length * k.toNat ≤ 1000000 ∧ ∀ p, H p = none → Q (.ref p) (upd H p (.tup (List.replicate k.toNat xs).flatten))
theorem op_repTT : OpR X (binaryOp .Mult) (rRepTT X.K) := by
  intro pins s σ H x y v u Q I rx ry h
  obtain ⟨l, k, xs, rfl, rfl, hT, hne, h1, h2, hz, q⟩ := h
  cases rx
  obtain ⟨t, rfl⟩ := ry
  obtain ⟨its, r, ⟨⟨cls, dd, data, sl⟩, ho, hc, n, hd⟩, hs⟩ := I.tuple hT
  simp only at hc hd
  subst hc hd
  have hle : its.length = xs.length := r.length.symm
  have hn : its ≠ [] := fun e => hne (by
    rw [e] at hle
    exact List.eq_nil_of_length_eq_zero hle.symm)
  have hi : its.toArray.isEmpty = false := by
    cases its with
    | nil => exact absurd rfl hn
    | cons a b => rfl
  have hsz0 : its.toArray.size = xs.length := by rw [List.size_toArray, hle]
  have hm : ((its.toArray.size : Nat) : Int) * k ≤ 1000000 := by
    rw [hsz0]
    have e : (k.toNat : Int) = k := Int.toNat_of_nonneg (by omega)
    have h9 : ((xs.length * k.toNat : Nat) : Int) ≤ ((1000000 : Nat) : Int) := Int.ofNat_le.mpr hz
    rw [Int.natCast_mul, e] at h9
    exact h9
  have flen : (List.replicate k.toNat its).flatten.length ≤ sizeLine := by
    rw [PyProof.Rows.lm_len_rep_flat, hle, sizeLine_eq, Nat.mul_comm]
    omega
  have c0 : (decide (k < -(2 ^ 63)) || decide (k ≥ 2 ^ 63)) = false := by
    rw [decide_eq_false (by omega), decide_eq_false (by omega)] <;> rfl
  have c1 : (its.toArray.isEmpty || k == 1) = false := by
    rw [hi, Bool.false_or]
    exact beq_eq_false_iff_ne.mpr (by omega)
  have c2 : (decide (k ≤ 0) || its.toArray.isEmpty) = false := by
    rw [hi, Bool.or_false]
    exact decide_eq_false (by omega)
  have c4 : Builtin.Tuple.tupleTooMany (((its.toArray.size : Nat) : Int) * k) = false := by
    unfold Builtin.Tuple.tupleTooMany
    rw [sizeLine_eq]
    exact decide_eq_false (by omega)
  refine wpAny_binaryOp_repeat_ref (T := "tuple") (U := "int") (by decide) ⟨_, ho, rfl⟩ (fun s' => typeIs_int s' k t) noFill_tuple_mul F.fills_int_mul F.slot_int_rmul repeat_tuple F.slot_int_index.lookup
    (call_meets F.slot_int_rmul (typeIs_int s k t) F.entry_int_rmul (F.args_int_rmul_2 _ _) (int_rmul_tuple k t l its.toArray n dd sl)
      ⟨ho, rfl, ⟨_, ho, rfl⟩, call_meets F.slot_tuple_mul ⟨_, ho, rfl⟩ F.entry_tuple_mul (F.args_tuple_mul_2 _ _) (tuple_mulW l its.toArray n dd sl k t c0 c1 c2 (by omega) c4 (by rw [size_rep, List.size_toArray]; exact flen)) ⟨ho, ?_⟩⟩)
  rw [size_rep]
  refine ⟨.ref s.heap.objs.size, _, I.laid (t' := s.toks) (o := .tup (List.replicate k.toNat xs).flatten) (fun b ob q => Heap.get?_push_of_some _ q) (Nat.le_refl _) ?_, rfl, q _ (I.hok.fresh (Nat.le_refl _))⟩
  exact ⟨by rw [PyProof.Rows.lm_len_rep_flat, sizeLine_eq, Nat.mul_comm]; omega, _, r.rep k.toNat, IsTup.new _ _⟩

theorem Reps.rep {K : PySem.W.Frag} {H : Hp} {xs : List V} {ds : List D} (h : Reps K H xs ds) : ∀ k : Nat, Reps K H (List.replicate k xs).flatten (List.replicate k ds).flatten
  | 0 => .nil
  | k + 1 => by
    rw [List.replicate_succ, List.replicate_succ, List.flatten_cons, List.flatten_cons]
    exact h.append (Reps.rep h k)
def D.mul : D → D → Option D
  | .int i, .int j => if decide (i.natAbs.log2 + j.natAbs.log2 < 1000000) = true then some (.int (i * j)) else none
  | .str a, .int k => if decide (-(2 ^ 40) < k ∧ k < 2 ^ 40 ∧ a.length * k.toNat ≤ sizeLine) = true then some (.str (Txt.mul a k)) else none
  | .lst a, .int k => if decide (-(2 ^ 63) ≤ k ∧ k < 2 ^ 63 ∧ a.length * k.toNat ≤ sizeLine) = true then some (.lst (List.replicate k.toNat a).flatten) else none
  | .tup a, .int k => if decide (a ≠ []) = true then if decide (2 ≤ k ∧ k ≤ 1000000 ∧ a.length * k.toNat ≤ 1000000) = true then some (.tup (List.replicate k.toNat a).flatten) else none else none
  | _, _ => none
theorem od_mul : OpD X (binaryOp .Mult) D.mul := by
  refine OpD.of (OpR.or op_mulW (OpR.or op_mulS (OpR.or op_rep op_repTT))) fun O H x y dx dy dz Q hO rx ry e q => ?_
  unfold D.mul at e
  split at e
  · cases rx; cases ry
    split at e
    · rename_i hz
      cases e
      have hc := of_decide_eq_true hz
      exact .inl ⟨_, _, rfl, rfl, hc, q _ H (fun _ _ h => h) (.int _)⟩
    · cases e
  · cases rx; cases ry
    split at e
    · rename_i hz
      cases e
      obtain ⟨h1, h2, h3⟩ := of_decide_eq_true hz
      exact .inr (.inl ⟨_, _, rfl, rfl, mulOk_of h1 h2 h3, q _ H (fun _ _ h => h) (.str _)⟩)
    · cases e
  · cases rx with
    | lst h1 r1 =>
      cases ry
      split at e
      · rename_i hz
        cases e
        obtain ⟨g1, g2, g3⟩ := of_decide_eq_true hz
        refine .inr (.inr (.inl ⟨_, _, _, rfl, rfl, hid_un h1, g1, g2, by rw [r1.length]; exact g3, fun p hp => ?_⟩))
        exact q _ _ (Evl.Ex.new hp) (.lst (hid_new hO hp) ((r1.rep _).mono (hid_of (Evl.Ex.new hp))))
      · cases e
  · cases rx with
    | tup h1 r1 =>
      cases ry
      split at e
      · rename_i ha
        split at e
        · rename_i hz
          cases e
          obtain ⟨g1, g2, g3⟩ := of_decide_eq_true hz
          refine .inr (.inr (.inr ⟨_, _, _, rfl, rfl, SqT.un h1, fun z => ?_, g1, g2, by rw [r1.length]; exact g3, fun p hp => ?_⟩))
          · subst z
            have := r1.length
            exact (of_decide_eq_true ha) (List.length_eq_zero_iff.mp this.symm)
          · exact q _ _ (Evl.Ex.new hp) (.tup (.inl (.inl (hid_new hO hp))) ((r1.rep _).mono (hid_of (Evl.Ex.new hp))))
        · cases e
      · cases e
  · cases e

/-! ### comparisons of data -/
def D.eqv (a b : D) : Bool := PyData.eqv a.py b.py
def D.cmpG (C : D → D → Bool) (f : D → D → Bool) : D → D → Option D := fun a b => if (deepOk a && deepOk b && C a b) = true then some (.bl (f a b)) else none
theorem hidI {pins : List (Addr × Obj)} {s : Shared} {σ : L2.St} {H : Hp} {O : Addr → Prop} {v : V} {u : Value} {d : D} (I : Inv X pins σ H s) (h : deepOk d = true) (r : Rep X.K (hid O H) v d) (rv : RelV v u) : ∃ as, Reads s.heap u d.py as :=
  (r.mono hid_ex).reads I (deepOk_iff.mp h).1 rv
/-- a comparison by a rule on data -/
theorem od_data {f : Value → Value → Sem Value} {C g : D → D → Bool}
    (rule : ∀ (s : Shared) (u v : Value) (a b : D) (as bs : List Addr) (Q : Value → Shared → Prop), deepOk a = true → deepOk b = true → C a b = true → Reads s.heap u a.py as → Reads s.heap v b.py bs → Q (.bool (g a b)) s → wpAny (model X.prog X.w) X.A (f u v) Q X.xe s) :
    OpD X f (D.cmpG C g) := by
  refine OpD.of (r := fun x y H Q => ∃ a b, deepOk a = true ∧ deepOk b = true ∧ C a b = true ∧ Rep X.K H x a ∧ Rep X.K H y b ∧ Q (.bl (g a b)) H) ?_ fun O H x y dx dy dz Q hO rx ry e q => ?_
  · intro pins s σ H x y v u Q I rx ry h
    obtain ⟨a, b, ha, hb, hc, ra, rb, q⟩ := h
    obtain ⟨as, r1⟩ := ra.reads I (deepOk_iff.mp ha).1 rx
    obtain ⟨bs, r2⟩ := rb.reads I (deepOk_iff.mp hb).1 ry
    exact rule s v u a b as bs _ ha hb hc r1 r2 ⟨.bl _, H, I, rfl, q⟩
  · unfold D.cmpG at e
    split at e
    · rename_i hz
      cases e
      rw [Bool.and_eq_true, Bool.and_eq_true] at hz
      exact ⟨dx, dy, hz.1.1, hz.1.2, hz.2, rx.mono hid_ex, ry.mono hid_ex, q _ H (fun _ _ h => h) (.bl _)⟩
    · cases e
def D.eq : D → D → Option D := D.cmpG (fun _ _ => true) D.eqv
def D.ne : D → D → Option D := D.cmpG (fun _ _ => true) fun a b => !D.eqv a b
theorem dmin {a b : Nat} {n : Nat} (h : n + 150 < cLine) (ha : a ≤ 90) : n + min a b < cLine := by omega
theorem od_eq (hu : X.A.units + 150 < cLine) : OpD X (compareOp .Eq) D.eq :=
  od_data fun s u v a b as bs Q ha hb _ r1 r2 q => PySem.SeqAt.eq_plain r1 r2 (D.py_plain _ (deepOk_iff.mp ha).1) (D.py_plain _ (deepOk_iff.mp hb).1) (dmin hu (deepOk_iff.mp ha).2) q
theorem od_ne (hu : X.A.units + 150 < cLine) : OpD X (compareOp .NotEq) D.ne :=
  od_data fun s u v a b as bs Q ha hb _ r1 r2 q => PySem.SeqAt.ne_plain r1 r2 (D.py_plain _ (deepOk_iff.mp ha).1) (D.py_plain _ (deepOk_iff.mp hb).1) (dmin hu (deepOk_iff.mp ha).2) q
def D.isNon : D → Bool
  | .non => true
  | _ => false
def D.like (a b : D) : Bool := PySem.W.alike a.py b.py && !a.isNon
theorem like_ne {a b : D} (h : D.like a b = true) (ha : deepOk a = true) : PySem.W.alike a.py b.py = true ∧ a.py ≠ .none := by
  unfold D.like at h
  rw [Bool.and_eq_true] at h
  refine ⟨h.1, fun e => ?_⟩
  cases a with
  | non => simp [D.isNon] at h
  | _ => simp [D.py] at e
def D.ltv (a b : D) : Bool := PySem.W.dataLt a.py b.py
def D.lt : D → D → Option D := D.cmpG D.like D.ltv
def D.gt : D → D → Option D := D.cmpG D.like fun a b => D.ltv b a
def D.le : D → D → Option D := D.cmpG D.like fun a b => !D.ltv b a
def D.ge : D → D → Option D := D.cmpG D.like fun a b => !D.ltv a b
theorem od_lt (hu : X.A.units + 150 < cLine) : OpD X (compareOp .Lt) D.lt :=
  od_data fun s u v a b as bs Q ha hb hc r1 r2 q => PySem.W.lt_data r1 r2 (like_ne hc ha).1 (like_ne hc ha).2 (dmin hu (deepOk_iff.mp ha).2) q
theorem od_gt (hu : X.A.units + 150 < cLine) : OpD X (compareOp .Gt) D.gt :=
  od_data fun s u v a b as bs Q ha hb hc r1 r2 q => PySem.W.gt_data r1 r2 (like_ne hc ha).1 (like_ne hc ha).2 (dmin hu (deepOk_iff.mp ha).2) q
theorem od_le (hu : X.A.units + 150 < cLine) : OpD X (compareOp .LtE) D.le :=
  od_data fun s u v a b as bs Q ha hb hc r1 r2 q => PySem.W.le_data r1 r2 (like_ne hc ha).1 (like_ne hc ha).2 (dmin hu (deepOk_iff.mp ha).2) q
theorem od_ge (hu : X.A.units + 150 < cLine) : OpD X (compareOp .GtE) D.ge :=
  od_data fun s u v a b as bs Q ha hb hc r1 r2 q => PySem.W.ge_data r1 r2 (like_ne hc ha).1 (like_ne hc ha).2 (dmin hu (deepOk_iff.mp ha).2) q

/-! is None -/
def D.isN : D → D → Option D
  | a, .non => some (.bl a.isNon)
  | _, _ => none
def D.isntN : D → D → Option D
  | a, .non => some (.bl !a.isNon)
  | _, _ => none
theorem isNon_dec {K : PySem.W.Frag} {H : Hp} {v : V} {d : D} (r : Rep K H v d) : decide (v = .non) = d.isNon := by
  cases r <;> rfl
theorem od_isN : OpD X (compareOp .Is) D.isN := by
  refine OpD.of op_isN fun O H x y dx dy dz Q hO rx ry e q => ?_
  unfold D.isN at e
  split at e
  · cases e; cases ry
    exact ⟨rfl, by rw [isNon_dec rx]; exact q _ H (fun _ _ h => h) (.bl _)⟩
  · cases e
theorem od_isntN : OpD X (compareOp .IsNot) D.isntN := by
  refine OpD.of op_notN fun O H x y dx dy dz Q hO rx ry e q => ?_
  unfold D.isntN at e
  split at e
  · cases e; cases ry
    exact ⟨rfl, by rw [isNon_dec rx]; exact q _ H (fun _ _ h => h) (.bl _)⟩
  · cases e

/-! in, not in -/
def D.items : D → Option (List D)
  | .lst ds => some ds
  | .tup ds => some ds
  | .scr ns => some (ns.map D.int)
  | _ => none
def D.mem (x : D) (ds : List D) : Bool := ds.any fun y => D.eqv y x
theorem any_py (x : D) (ds : List D) : ((D.pys ds).any fun y => PyData.eqv y x.py) = D.mem x ds := by
  rw [pys_map, List.any_map]
  rfl
def strIn (a b : Str) : Bool := !(Builtin.Str.occurrences b a 0 b.length 1).isEmpty
def D.inG (neg : Bool) : D → D → Option D
  | x, .lst ds => if (deepOk x && deepOk (.lst ds)) = true then some (.bl (if neg = true then !D.mem x ds else D.mem x ds)) else none
  | x, .tup ds => if (deepOk x && deepOk (.tup ds)) = true then some (.bl (if neg = true then !D.mem x ds else D.mem x ds)) else none
  | .str a, .str b => some (.bl (if neg = true then !strIn a b else strIn a b))
  | _, _ => none
abbrev D.isin : D → D → Option D := D.inG false
abbrev D.notin : D → D → Option D := D.inG true
def rInD (K : PySem.W.Frag) (neg : Bool) : R2 := fun x y H Q => ∃ (a b : D) (ds : List D), deepOk a = true ∧ deepOk b = true ∧ (b = .lst ds ∨ b = .tup ds) ∧ Rep K H x a ∧ Rep K H y b ∧ Q (.bl (if neg = true then !D.mem a ds else D.mem a ds)) H
theorem in_depth {n a b : Nat} (h : n + 150 < cLine) (hb : b ≤ 90) : n + 1 + min a b < cLine := by omega
theorem pls_of_lst {ds : List D} (h : deepOk (.lst ds) = true) : PyData.plainAll (D.pys ds) = true := D.pys_plain ds (by have := (deepOk_iff.mp h).1; rw [D.pl] at this; exact this)
theorem pls_of_tup {ds : List D} (h : deepOk (.tup ds) = true) : PyData.plainAll (D.pys ds) = true := D.pys_plain ds (by have := (deepOk_iff.mp h).1; rw [D.pl] at this; exact this)
theorem op_inD (hu : X.A.units + 150 < cLine) : OpR X (compareOp .In) (rInD X.K false) := by
  intro pins s σ H x y v u Q I rx ry h
  obtain ⟨a, b, ds, ha, hb, hor, ra, rb, q⟩ := h
  obtain ⟨as, r1⟩ := ra.reads I (deepOk_iff.mp ha).1 rx
  obtain ⟨bs, r2⟩ := rb.reads I (deepOk_iff.mp hb).1 ry
  have e : EP X pins σ Q (.bool ((D.pys ds).any fun y => PyData.eqv y a.py)) s := by
    rw [any_py]
    exact ⟨.bl _, H, I, rfl, q⟩
  rcases hor with rfl | rfl
  · exact PySem.SeqAt.in_list_data r2 r1 (pls_of_lst hb) (D.py_plain _ (deepOk_iff.mp ha).1) (in_depth hu (deepOk_iff.mp ha).2) e
  · exact PySem.SeqAt.in_tuple_data r2 r1 (pls_of_tup hb) (D.py_plain _ (deepOk_iff.mp ha).1) (in_depth hu (deepOk_iff.mp ha).2) e
theorem op_notinD (hu : X.A.units + 150 < cLine) : OpR X (compareOp .NotIn) (rInD X.K true) := by
  intro pins s σ H x y v u Q I rx ry h
  obtain ⟨a, b, ds, ha, hb, hor, ra, rb, q⟩ := h
  obtain ⟨as, r1⟩ := ra.reads I (deepOk_iff.mp ha).1 rx
  obtain ⟨bs, r2⟩ := rb.reads I (deepOk_iff.mp hb).1 ry
  have e : EP X pins σ Q (.bool (!(D.pys ds).any fun y => PyData.eqv y a.py)) s := by
    rw [any_py]
    exact ⟨.bl _, H, I, rfl, q⟩
  rcases hor with rfl | rfl
  · exact PySem.SeqAt.notIn_list_data r2 r1 (pls_of_lst hb) (D.py_plain _ (deepOk_iff.mp ha).1) (in_depth hu (deepOk_iff.mp ha).2) e
  · exact PySem.SeqAt.notIn_tuple_data r2 r1 (pls_of_tup hb) (D.py_plain _ (deepOk_iff.mp ha).1) (in_depth hu (deepOk_iff.mp ha).2) e
theorem od_in_aux {neg : Bool} {op : CmpOp} (h1 : OpR X (compareOp op) (rInD X.K neg)) (h2 : OpR X (compareOp op) (fun x y H Q => ∃ i j, x = .str i ∧ y = .str j ∧ Q (.bl (if neg = true then !strIn i j else strIn i j)) H)) : OpD X (compareOp op) (D.inG neg) := by
  refine OpD.of (OpR.or h1 h2) fun O H x y dx dy dz Q hO rx ry e q => ?_
  unfold D.inG at e
  split at e
  · split at e
    · rename_i hz
      cases e
      rw [Bool.and_eq_true] at hz
      exact .inl ⟨_, _, _, hz.1, hz.2, .inl rfl, rx.mono hid_ex, ry.mono hid_ex, q _ H (fun _ _ h => h) (.bl _)⟩
    · cases e
  · split at e
    · rename_i hz
      cases e
      rw [Bool.and_eq_true] at hz
      exact .inl ⟨_, _, _, hz.1, hz.2, .inr rfl, rx.mono hid_ex, ry.mono hid_ex, q _ H (fun _ _ h => h) (.bl _)⟩
    · cases e
  · cases e; cases rx; cases ry
    exact .inr ⟨_, _, rfl, rfl, q _ H (fun _ _ h => h) (.bl _)⟩
  · cases e
theorem od_in (hu : X.A.units + 150 < cLine) : OpD X (compareOp .In) D.isin := od_in_aux (op_inD hu) op_in_str
theorem od_notin (hu : X.A.units + 150 < cLine) : OpD X (compareOp .NotIn) D.notin := od_in_aux (op_notinD hu) op_notIn_str
end
end DL
set_option Elab.async false
set_option linter.all false
set_option maxRecDepth 100000
set_option maxHeartbeats 2000000
set_option autoImplicit false
namespace DL
open PySem L2 PyProof.Rows
section
variable {X : Cx} {W : WX}
/-! ### items of dicts -/
mutual
def D.kq : D → D → Bool
  | .int i, .int j => i == j
  | .str a, .str b => a == b
  | .tup as, .tup bs => D.kqs as bs
  | _, _ => false
def D.kqs : List D → List D → Bool
  | [], [] => true
  | a :: as, b :: bs => D.kq a b && D.kqs as bs
  | _, _ => false
end
theorem kq_key (a b : Key) : D.kq (keyD a) (keyD b) = decide (a = b) := by
  cases a <;> cases b <;> simp [keyD, D.kq]
  · rename_i i j
    by_cases h : i = j <;> simp [h]
  · rename_i i j
    by_cases h : i = j <;> simp [h]
theorem kqs_key : ∀ a b : List Key, D.kqs (a.map keyD) (b.map keyD) = decide (a = b)
  | [], [] => rfl
  | [], _ :: _ => rfl
  | _ :: _, [] => rfl
  | a :: as, b :: bs => by
    rw [List.map_cons, List.map_cons, D.kqs, kq_key, kqs_key as bs, ← Bool.decide_and]
    exact decide_eq_decide.mpr (by rw [List.cons.injEq])
/-- a key of kind 0, 1 -/
def D.key0 : D → Option Key
  | .int i => some (.inl i)
  | .str s => some (.inr s)
  | _ => none
def D.keys : List D → Option (List Key)
  | [] => some []
  | d :: ds => match d.key0, D.keys ds with
    | some k, some ks => some (k :: ks)
    | _, _ => none
def D.key1 : D → Option (List Key)
  | .tup ds => D.keys ds
  | _ => none
theorem key0_eq {d : D} {k : Key} (h : d.key0 = some k) : d = keyD k := by
  unfold D.key0 at h
  split at h <;> cases h <;> rfl
theorem keys_eq : ∀ {ds : List D} {ks : List Key}, D.keys ds = some ks → ds = ks.map keyD
  | [], ks, h => by rw [D.keys] at h; cases h; rfl
  | d :: ds, ks, h => by
    rw [D.keys] at h
    split at h
    · rename_i k ks' e1 e2
      cases h
      rw [key0_eq e1, keys_eq e2, List.map_cons]
    · cases h
theorem key1_eq {d : D} {k : List Key} (h : d.key1 = some k) : d = .tup (k.map keyD) := by
  unfold D.key1 at h
  split at h
  · rw [keys_eq h]
  · cases h
def D.keyOk (kd : Nat) (k : D) : Bool := if kd = 0 then k.key0.isSome else if kd = 1 then k.key1.isSome else false
def dval (kvs : List (D × D)) (k : D) : Option D := (kvs.find? fun p => D.kq p.1 k).map (·.2)
theorem rep_key {K : PySem.W.Frag} {H : Hp} {v : V} {k : Key} (r : Rep K H v (keyD k)) : v = kV k := by
  cases k <;> cases r <;> rfl
theorem reps_key {K : PySem.W.Frag} {H : Hp} : ∀ {vs : List V} {ks : List Key}, Reps K H vs (ks.map keyD) → vs = ks.map kV
  | _, [], r => by rw [List.map_nil] at r; exact r.nil'
  | _, k :: ks, r => by
    rw [List.map_cons] at r
    obtain ⟨v, vs', rfl, r1, r2⟩ := r.cons'
    rw [rep_key r1, reps_key r2, List.map_cons]
theorem kreps_val {K : PySem.W.Frag} {H : Hp} (k : Key) : ∀ {kvs : List (Key × V)} {ds : List (D × D)}, KReps K H kvs ds →
    (∀ d, dval ds (keyD k) = some d → ∃ v, valV kvs k = some v ∧ Rep K H v d) ∧ (dval ds (keyD k) = none → valV kvs k = none)
  | _, _, .nil => ⟨fun d h => (nomatch h), fun _ => rfl⟩
  | (k', v) :: kvs, _ :: ds, .cons r t => by
    have ih := kreps_val k t
    unfold dval valV
    rw [List.find?_cons, List.find?_cons]
    show (∀ d, Option.map Prod.snd (match D.kq (keyD k') (keyD k) with | true => _ | false => _) = some d → _) ∧ _
    rw [kq_key]
    by_cases h : k' = k
    · rw [decide_eq_true h]
      exact ⟨fun d e => by cases e; exact ⟨v, rfl, r⟩, fun e => by cases e⟩
    · rw [decide_eq_false h]
      exact ih

/-! ### items -/
def D.ix : D → D → Option D
  | .lst ds, .int i => atI ds i
  | .tup ds, .int i => atI ds i
  | .scr ns, .int i => (atI ns i).map D.int
  | .str z, .int i => if sizeOk z.length = true then (atI z.cps.toList i).map fun c => .str ⟨#[c]⟩ else none
  | .dct 0 kvs, k => if k.key0.isSome = true then dval kvs k else none
  | _, _ => none
def rIxD : R2 := fun x y H Q => ∃ a v, x = .ref a ∧ DGet H a y (some v) ∧ Q v H
theorem ix_dict (hu : X.A.units + 150 < cLine) : IxR X rIxD := by
  intro value slice pins s σ H x y v u Q I rx ry h hs
  obtain ⟨a, z, rfl, g, q⟩ := h
  cases rx
  exact PyProof.Rows.tail_any (dict_typeIs I g) PySem.F.slot_dict_getitem.lookup (d_getItem (by omega) I g ry fun w' s3 I3 rw' => ⟨z, H, I3, rw', q⟩) hs
theorem reps_at {K : PySem.W.Frag} {H : Hp} {xs : List V} {ds : List D} {i : Int} {d : D} (r : Reps K H xs ds) (h : atI ds i = some d) : ∃ v, atI xs i = some v ∧ Rep K H v d := by
  unfold atI at h ⊢
  rw [r.length]
  cases e : ixN ds.length i with
  | none => rw [e] at h; cases h
  | some j =>
    rw [e] at h
    exact r.get h
theorem at_map {α β : Type} {f : α → β} {xs : List α} {i : Int} {a : α} (h : atI xs i = some a) : atI (xs.map f) i = some (f a) := by
  unfold atI at h ⊢
  rw [List.length_map]
  cases e : ixN xs.length i with
  | none => rw [e] at h; cases h
  | some j =>
    rw [e] at h
    show (xs.map f)[j]? = _
    rw [List.getElem?_map]
    show Option.map f xs[j]? = _
    rw [show xs[j]? = some a from h]
    rfl
variable {a b : Expr} {pos p2 : Pos} {ma mb : M D}
theorem de_ix (hu : X.A.units + 150 < cLine) (ha : DE X W a ma) (hb : DE X W b mb) (hs : PlainIx b) : DE X W (.Subscript a b pos) (bin D.ix ma mb) := by
  obtain ⟨ta, pa, ga⟩ := ha.ex
  obtain ⟨tb, pb, gb⟩ := hb.ex
  refine ⟨_, pe_ix (IxR.or ix_seq (ix_dict hu)) pa pb hs, fun xo Γ σ H Q k h => ?_⟩
  refine run2 ga gb k h fun x y da db Γ2 H2 k2 rx ry h2 => ?_
  obtain ⟨dz, e, h3⟩ := h2.opt
  have fin : ∀ v, Rep X.K (vw xo Γ2 σ H2) v dz → Q v H2 := fun v rv => Ans.grown k2 h3 (fun _ _ h => h) v rv
  unfold D.ix at e
  split at e
  · cases rx with
    | lst h1 r1 =>
      cases ry
      obtain ⟨v, hv, rv⟩ := reps_at r1 e
      exact .inl (.inl ⟨_, _, _, _, rfl, rfl, SqL.of (hid_un h1), hv, fin v rv⟩)
  · cases rx with
    | tup h1 r1 =>
      cases ry
      obtain ⟨v, hv, rv⟩ := reps_at r1 e
      exact .inl (.inr (.inl ⟨_, _, _, _, rfl, rfl, SqT.un h1, hv, fin v rv⟩))
  · cases rx with
    | scr h1 =>
      cases ry
      rw [Option.map_eq_some_iff] at e
      obtain ⟨n, e1, rfl⟩ := e
      exact .inl (.inl ⟨_, _, _, _, rfl, rfl, SqL.un h1, at_map e1, fin _ (.int n)⟩)
  · cases rx; cases ry
    split at e
    · rename_i hz
      rw [Option.map_eq_some_iff] at e
      obtain ⟨c, e1, rfl⟩ := e
      exact .inl (.inr (.inr ⟨_, _, _, rfl, rfl, of_decide_eq_true hz, e1, fin _ (.str _)⟩))
    · cases e
  · split at e
    · rename_i hk
      cases rx with
      | dK h1 r1 =>
        obtain ⟨kk, ek⟩ := Option.isSome_iff_exists.mp hk
        have ed := key0_eq ek
        subst ed
        obtain ⟨v, hv, rv⟩ := (kreps_val kk r1).1 _ e
        have ev := rep_key ry
        subst ev
        exact .inr ⟨_, v, rfl, .inl ⟨_, kk, Evl.ex_rd hid_ex h1, rfl, hv.symm⟩, fin v rv⟩
    · cases e
  · cases e

/-! ### slices -/
structure DO (X : Cx) (W : WX) (e : Option Expr) (m : M (Option Int)) : Prop where
  ex : ∃ t : TO, PO X e t ∧ ∀ (xo : Addr → Prop) (Γ : SEnv) (σ : L2.St) (H : Hp) (Q : Option Int → Hp → Prop), OkS X.K xo Γ σ H → Ans X W xo Γ σ H (m Γ) (fun o _ H' => Q o H') → t σ H Q
def someI (m : M D) : M (Option Int) := bnd m fun d => match d with
  | .int i => ret (some i)
  | _ => fun _ => .no
theorem do_none : DO X W none (ret none) := ⟨_, po_none, fun xo Γ σ H Q k h => Ans.ret k h⟩
theorem do_some (ha : DE X W a ma) : DO X W (some a) (someI ma) := by
  obtain ⟨t, p, g⟩ := ha.ex
  refine ⟨_, po_some p, fun xo Γ σ H Q k h => ?_⟩
  refine g xo Γ σ H _ k ((Ans.bind h).imp fun d Γ' H' k' st h' v rv => ?_)
  cases d with
  | int i => cases rv; exact ⟨i, rfl, Ans.ret k' h'⟩
  | _ => exact False.elim h'
def cutD {α : Type} (ds : List α) (lo hi : Option Int) : List α := (ds.drop (HT.sIx ds.length 0 lo)).take (HT.sIx ds.length ds.length hi - HT.sIx ds.length 0 lo)
theorem reps_cut {K : PySem.W.Frag} {H : Hp} {xs : List V} {ds : List D} {lo hi : Option Int} (r : Reps K H xs ds) : Reps K H (cutV xs lo hi) (cutD ds lo hi) := by
  unfold cutV cutD
  rw [r.length]
  exact (r.drop _).take _
theorem cut_all {α : Type} {ds : List α} {lo hi : Option Int} (h : HT.sIx ds.length 0 lo = 0 ∧ HT.sIx ds.length ds.length hi = ds.length) : cutD ds lo hi = ds := by
  unfold cutD
  rw [h.1, h.2, List.drop_zero, Nat.sub_zero, List.take_length]
theorem cut_map {α β : Type} {f : α → β} {ds : List α} {lo hi : Option Int} : cutD (ds.map f) lo hi = (cutD ds lo hi).map f := by
  unfold cutD
  rw [List.length_map, List.map_take, List.map_drop]
def D.slice (lo hi : Option Int) : D → Option D
  | .lst ds => some (.lst (cutD ds lo hi))
  | .tup ds => some (.tup (cutD ds lo hi))
  | .scr ns => some (.lst ((cutD ns lo hi).map D.int))
  | .str z => if sizeOk z.length = true then some (.str (cutS z lo hi)) else none
  | _ => none
def sliceM (m : M D) (ml mh : M (Option Int)) : M D := bnd m fun d => bnd ml fun lo => bnd mh fun hi => opt (d.slice lo hi)
variable {lo hi : Option Expr} {ml mh : M (Option Int)}
theorem de_slice (ha : DE X W a ma) (hl : DO X W lo ml) (hh : DO X W hi mh) : DE X W (.Subscript a (.Slice lo hi none p2) pos) (sliceM ma ml mh) := by
  obtain ⟨t, p, g⟩ := ha.ex
  obtain ⟨tl, pl, gl⟩ := hl.ex
  obtain ⟨th, ph, gh⟩ := hh.ex
  refine ⟨_, pe_slice (SlR.or sl_list (SlR.or sl_tupA sl_str)) p pl ph, fun xo Γ σ H Q k h => ?_⟩
  refine g xo Γ σ H _ k (h.bind.imp fun d Γ1 H1 k1 s1 h1 v rv => ?_)
  refine gl xo Γ1 σ H1 _ k1 (h1.bind.imp fun o Γ2 H2 k2 s2 h2 => ?_)
  refine gh xo Γ2 σ H2 _ k2 (h2.bind.imp fun o' Γ3 H3 k3 s3 h3 => ?_)
  obtain ⟨dz, e, h4⟩ := h3.opt
  have rv := (s2.trans s3).rep rv
  have hO : ∀ a, Hd xo Γ3 σ a → ∃ o, H3 a = some o := fun a q => k3.hd_there q
  unfold D.slice at e
  split at e
  · cases e
    cases rv with
    | lst q1 r1 => exact .inl ⟨_, _, rfl, SqL.of (hid_un q1), fun p hp => Ans.grown k3 h4 (Evl.Ex.new hp) _ (.lst (hid_new hO hp) ((reps_cut r1).mono (hid_of (Evl.Ex.new hp))))⟩
  · cases e
    cases rv with
    | tup q1 r1 =>
      refine .inr (.inl ⟨_, _, rfl, SqT.un q1, fun w => ?_, fun _ p hp => Ans.grown k3 h4 (Evl.Ex.new hp) _ (.tup (.inl (.inl (hid_new hO hp))) ((reps_cut r1).mono (hid_of (Evl.Ex.new hp))))⟩)
      refine Ans.grown k3 h4 (fun _ _ h => h) _ ?_
      rw [cut_all (by rw [← r1.length]; exact w)]
      exact .tup q1 r1
  · cases e
    cases rv with
    | scr q1 =>
      refine .inl ⟨_, _, rfl, SqL.un q1, fun p hp => Ans.grown k3 h4 (Evl.Ex.new hp) _ (.lst (hid_new hO hp) ?_)⟩
      show Reps _ _ (cutD (List.map V.int _) _ _) _
      rw [cut_map]
      exact Reps.of_ints _
  · split at e
    · rename_i hz
      cases e
      cases rv
      exact .inr (.inr ⟨_, rfl, of_decide_eq_true hz, Ans.grown k3 h4 (fun _ _ h => h) _ (.str _)⟩)
    · cases e
  · cases e
end
end DL
set_option Elab.async false
set_option linter.all false
set_option maxRecDepth 100000
set_option maxHeartbeats 2000000
set_option autoImplicit false
namespace DL
open PySem L2
/-! ### a def's promise over data -/
inductive Flow where
  | nx | rt (d : D) | bk | ct
/-- what a call leaves of what was handed in -/
def mrg : SEnv → SEnv → SEnv
  | .io d :: Γ, .io e :: Δ => .io e :: mrg Γ Δ
  | s :: Γ, _ :: Δ => s :: mrg Γ Δ
  | Γ, [] => Γ
  | [], _ => []
def fnM (N : Nat) (body : M Flow) : M D := fun Γ => match body (Γ ++ List.replicate (N - Γ.length) .no) with
  | .ok (.rt d) Δ => .ok d (mrg Γ Δ)
  | .ok .nx Δ => .ok .non (mrg Γ Δ)
  | .ok _ _ => .no
  | .er x Δ => .er x (mrg Γ Δ)
  | .no => .no
theorem mrg_length : ∀ Γ Δ : SEnv, (mrg Γ Δ).length = Γ.length
  | [], Δ => by cases Δ <;> rfl
  | s :: Γ, [] => by cases s <;> rfl
  | s :: Γ, t :: Δ => by cases s <;> cases t <;> exact congrArg (· + 1) (mrg_length Γ Δ)
theorem mrg_io {e : D} : ∀ {Γ Δ : SEnv} {i : Nat} {d : D}, Γ[i]? = some (.io d) → Δ[i]? = some (.io e) → (mrg Γ Δ)[i]? = some (.io e)
  | s :: Γ, t :: Δ, 0, d, h, h' => by
    have h1 : s = .io d := by simpa using h
    have h2 : t = .io e := by simpa using h'
    subst h1 h2
    rfl
  | s :: Γ, t :: Δ, i + 1, d, h, h' => by
    have ih := mrg_io (Γ := Γ) (Δ := Δ) (i := i) (d := d) (e := e) (by simpa using h) (by simpa using h')
    cases s <;> cases t <;> simpa [mrg] using ih
  | [], _, _, _, h, _ => by simp at h
  | _ :: _, [], _, _, _, h' => by simp at h'
theorem mrg_no : ∀ {Γ Δ : SEnv} {i : Nat} {s : Sl}, Γ[i]? = some s → (∀ d, s ≠ .io d) → (mrg Γ Δ)[i]? = some s
  | s :: Γ, [], i, t, h, _ => by cases s <;> exact h
  | s :: Γ, t :: Δ, 0, u, h, hn => by
    have h1 : s = u := by simpa using h
    subst h1
    cases s with
    | io d => exact absurd rfl (hn d)
    | _ => rfl
  | s :: Γ, t :: Δ, i + 1, u, h, hn => by
    have ih := mrg_no (Γ := Γ) (Δ := Δ) (i := i) (s := u) (by simpa using h) hn
    cases s <;> cases t <;> simpa [mrg] using ih
  | [], _, _, _, h, _ => by simp at h
/-- what is asked behind a call -/
def FAns (K : PySem.W.Frag) (mg : Str → Option Value) (xo : Addr → Prop) (Γ : SEnv) (σ : L2.St) (H : Hp) (r : Res D) (Q : VK) (E : XK) : Prop :=
  match r with
  | .ok d Γ' => ∀ v H', OkS K xo Γ' σ H' → Step xo Γ σ H Γ' σ H' → Rep K (vw xo Γ' σ H') v d → Q v H'
  | .er x Γ' => ∀ cls dx H', OkS K xo Γ' σ H' → Step xo Γ σ H Γ' σ H' → XRep K mg (vw xo Γ' σ H') cls dx x → E cls dx H'
  | .no => False
def spF (K : PySem.W.Frag) (mg : Str → Option Value) (n : Nat) (m : M D) : Sp := fun vs H Q E =>
  ∃ (xo : Addr → Prop) (Γ : SEnv), vs.length = n ∧ (∀ (i : Nat) (d : D), Γ[i]? ≠ some (Sl.ow d)) ∧ OkS K xo Γ (vs.map some) H ∧ FAns K mg xo Γ (vs.map some) H (m Γ) Q E
theorem spF_len {K : PySem.W.Frag} {mg : Str → Option Value} {n : Nat} {m : M D} {vs : List V} {H : Hp} {Q : VK} {E : XK} (h : spF K mg n m vs H Q E) : vs.length = n := let ⟨_, _, h, _⟩ := h; h

/-! ### statements -/
def SAns (X : Cx) (W : WX) (xo : Addr → Prop) (Γ : SEnv) (σ : L2.St) (H : Hp) (r : Res Flow) (B : Ends) : Prop :=
  match r with
  | .ok .nx Γ' => ∀ σ' H', OkS X.K xo Γ' σ' H' → Step xo Γ σ H Γ' σ' H' → B.nx σ' H'
  | .ok .bk Γ' => ∀ σ' H', OkS X.K xo Γ' σ' H' → Step xo Γ σ H Γ' σ' H' → B.bk σ' H'
  | .ok .ct Γ' => ∀ σ' H', OkS X.K xo Γ' σ' H' → Step xo Γ σ H Γ' σ' H' → B.ct σ' H'
  | .ok (.rt d) Γ' => ∀ v σ' H', OkS X.K xo Γ' σ' H' → Step xo Γ σ H Γ' σ' H' → Rep X.K (vw xo Γ' σ' H') v d → B.rt v H'
  | .er x Γ' => ∀ cls dx σ' H', OkS X.K xo Γ' σ' H' → Step xo Γ σ H Γ' σ' H' → XRep X.K X.mg (vw xo Γ' σ' H') cls dx x → W cls dx σ' H'
  | .no => False
structure DS (X : Cx) (W : WX) (st : Stmt) (m : M Flow) : Prop where
  ex : ∃ t : TS, PS X st t ∧ ∀ (xo : Addr → Prop) (Γ : SEnv) (σ : L2.St) (H : Hp) (B : Ends), OkS X.K xo Γ σ H → SAns X W xo Γ σ H (m Γ) B → t B σ H
structure DSs (X : Cx) (W : WX) (st : List Stmt) (m : M Flow) : Prop where
  ex : ∃ t : TS, PSs X st t ∧ ∀ (xo : Addr → Prop) (Γ : SEnv) (σ : L2.St) (H : Hp) (B : Ends), OkS X.K xo Γ σ H → SAns X W xo Γ σ H (m Γ) B → t B σ H

/-! ### a def -/
theorem start_get {N : List Str} {vs : List V} {i : Nat} : (start N vs)[i]? = if i < vs.length then (vs[i]?).map some else if i < vs.length + (N.length - vs.length) then some none else none := by
  unfold L2.start
  by_cases h : i < vs.length
  · rw [if_pos h, List.getElem?_append_left (by simpa using h), List.getElem?_map]
  · rw [if_neg h, List.getElem?_append_right (by simpa using h), List.length_map, List.getElem?_replicate]
    by_cases h2 : i < vs.length + (N.length - vs.length)
    · rw [if_pos h2, if_pos (by omega)]
    · rw [if_neg h2, if_neg (by omega)]
section
variable {K : PySem.W.Frag} {mg : Str → Option Value} {xo : Addr → Prop} {Γ Δ : SEnv} {σ σ' : L2.St} {H H' : Hp} {vs : List V} {N : List Str} {a : Addr} {k : Nat}
theorem pad_get {i : Nat} {s : Sl} (h : (Γ ++ List.replicate k Sl.no)[i]? = some s) : (i < Γ.length ∧ Γ[i]? = some s) ∨ (Γ.length ≤ i ∧ s = .no) := by
  by_cases hi : i < Γ.length
  · rw [List.getElem?_append_left hi] at h
    exact .inl ⟨hi, h⟩
  · rw [List.getElem?_append_right (by omega), List.getElem?_replicate] at h
    split at h
    · cases h; exact .inr ⟨by omega, rfl⟩
    · cases h
theorem own_pad (hl : Γ.length = vs.length) : OwnA (Γ ++ List.replicate k .no) (start N vs) a ↔ OwnA Γ (vs.map some) a := by
  constructor
  · rintro ⟨i, s, d, h1, h2, h3⟩
    rcases pad_get h1 with ⟨hi, h1⟩ | ⟨_, rfl⟩
    · refine ⟨i, s, d, h1, h2, ?_⟩
      rw [start_get, if_pos (by omega)] at h3
      rw [List.getElem?_map]
      exact h3
    · cases h2
  · rintro ⟨i, s, d, h1, h2, h3⟩
    have hi : i < Γ.length := (List.getElem?_eq_some_iff.mp h1).1
    refine ⟨i, s, d, by rw [List.getElem?_append_left hi]; exact h1, h2, ?_⟩
    rw [start_get, if_pos (by omega)]
    rw [List.getElem?_map] at h3
    exact h3
theorem vw_pad (hl : Γ.length = vs.length) : vw xo (Γ ++ List.replicate k .no) (start N vs) H = vw xo Γ (vs.map some) H := by
  have e : Hd xo (Γ ++ List.replicate k .no) (start N vs) = Hd xo Γ (vs.map some) := by
    funext a
    exact propext ⟨fun z => z.elim .inl fun y => .inr ((own_pad hl).mp y), fun z => z.elim .inl fun y => .inr ((own_pad hl).mpr y)⟩
  unfold vw
  rw [e]
/-- a def's body begins -/
theorem OkS.begin (h : OkS K xo Γ (vs.map some) H) (hk : vs.length + k = N.length) : OkS K xo (Γ ++ List.replicate k .no) (start N vs) H := by
  have hl : Γ.length = vs.length := by have := h.len; rwa [List.length_map] at this
  refine ⟨?_, fun i s q => ?_, fun i j s t d e p h1 h2 h3 h4 h5 h6 => ?_, fun i s d p h1 h2 h3 => ?_, h.xt⟩
  · unfold L2.start
    rw [List.length_append, List.length_append, List.length_replicate, List.length_replicate, List.length_map]
    omega
  · rw [vw_pad hl]
    rcases pad_get q with ⟨hi, q⟩ | ⟨_, rfl⟩
    · have r := h.ok i s q
      rw [List.getD_eq_getElem?_getD, start_get, if_pos (by omega)]
      rw [List.getD_eq_getElem?_getD, List.getElem?_map] at r
      exact r
    · exact .no
  · rcases pad_get h1 with ⟨hi, h1⟩ | ⟨_, rfl⟩
    · rcases pad_get h3 with ⟨hj, h3⟩ | ⟨_, rfl⟩
      · rw [start_get, if_pos (by omega)] at h5 h6
        exact h.dj i j s t d e p h1 h2 h3 h4 (by rw [List.getElem?_map]; exact h5) (by rw [List.getElem?_map]; exact h6)
      · cases h4
    · cases h2
  · rcases pad_get h1 with ⟨hi, h1⟩ | ⟨_, rfl⟩
    · rw [start_get, if_pos (by omega)] at h3
      exact h.xd i s d p h1 h2 (by rw [List.getElem?_map]; exact h3)
    · cases h2
/-- .. and ends -/
theorem OkS.finish (h : OkS K xo Γ (vs.map some) H) (ho : ∀ (i : Nat) (d : D), Γ[i]? ≠ some (Sl.ow d)) (h' : OkS K xo Δ σ' H') (st : Step xo (Γ ++ List.replicate k .no) (start N vs) H Δ σ' H') :
    OkS K xo (mrg Γ Δ) (vs.map some) H' ∧ Step xo Γ (vs.map some) H (mrg Γ Δ) (vs.map some) H' ∧ Ex (vw xo Δ σ' H') (vw xo (mrg Γ Δ) (vs.map some) H') := by
  have hl : Γ.length = vs.length := by have := h.len; rwa [List.length_map] at this
  -- a slot handed in
  have io : ∀ (i : Nat) (d : D), Γ[i]? = some (.io d) → ∃ e, Δ[i]? = some (.io e) ∧ (mrg Γ Δ)[i]? = some (.io e) ∧ σ'[i]? = (vs.map some)[i]? := fun i d q => by
    have hi : i < Γ.length := (List.getElem?_eq_some_iff.mp q).1
    obtain ⟨e1, e, he⟩ := st.io i d (by rw [List.getElem?_append_left hi]; exact q)
    refine ⟨e, he, mrg_io q he, ?_⟩
    rw [e1, start_get, if_pos (by omega), List.getElem?_map]
  -- what it is before
  have back : ∀ (i : Nat) (s : Sl) (e : D), (mrg Γ Δ)[i]? = some s → s.own = some e → ∃ d, Γ[i]? = some (.io d) ∧ s = .io e ∧ Δ[i]? = some (.io e) := fun i s e q hs => by
    have hi : i < Γ.length := by rw [← mrg_length Γ Δ]; exact (List.getElem?_eq_some_iff.mp q).1
    have hg := List.getElem?_eq_getElem hi
    cases hc : Γ[i] with
    | io d =>
      rw [hc] at hg
      obtain ⟨e', h1, h2, _⟩ := io i d hg
      rw [q] at h2
      cases h2
      cases hs
      exact ⟨d, hg, rfl, h1⟩
    | ow d => rw [hc] at hg; exact absurd hg (ho i d)
    | no =>
      rw [hc] at hg
      have z := mrg_no (Δ := Δ) hg (fun d z => by cases z)
      rw [q] at z
      cases z
      cases hs
    | sh d =>
      rw [hc] at hg
      have z := mrg_no (Δ := Δ) hg (fun d z => by cases z)
      rw [q] at z
      cases z
      cases hs
  have sub : ∀ a, OwnA (mrg Γ Δ) (vs.map some) a → OwnA Δ σ' a := by
    rintro a ⟨i, s, e, h1, h2, h3⟩
    obtain ⟨d, g1, rfl, g3⟩ := back i s e h1 h2
    obtain ⟨_, _, _, e4⟩ := io i d g1
    exact ⟨i, .io e, e, g3, rfl, by rw [e4]; exact h3⟩
  have es : Ex (vw xo Δ σ' H') (vw xo (mrg Γ Δ) (vs.map some) H') := hid_le (ownA_set sub)
  have e0 : Ex (vw xo Γ (vs.map some) H) (vw xo (mrg Γ Δ) (vs.map some) H') := fun a o q => es a o (st.sh a o (by rw [vw_pad hl]; exact q))
  refine ⟨⟨by rw [mrg_length]; exact h.len, fun i s q => ?_, fun i j s t d e p h1 h2 h3 h4 h5 h6 => ?_, fun i s d p h1 h2 h3 => ?_, h'.xt⟩, ⟨e0, st.xk, fun i d q => ?_, mrg_length _ _⟩, es⟩
  · have hi : i < Γ.length := by rw [← mrg_length Γ Δ]; exact (List.getElem?_eq_some_iff.mp q).1
    have hg := List.getElem?_eq_getElem hi
    cases hc : Γ[i] with
    | io d =>
      rw [hc] at hg
      obtain ⟨e, h1, h2, h3⟩ := io i d hg
      rw [q] at h2
      cases h2
      obtain ⟨p, hp, c⟩ := h'.own_at h1 rfl
      rw [List.getD_eq_getElem?_getD, ← h3, hp]
      exact .io (c.mono es rfl)
    | ow d => rw [hc] at hg; exact absurd hg (ho i d)
    | no =>
      rw [hc] at hg
      have z := mrg_no (Δ := Δ) hg (fun d z => by cases z)
      rw [q] at z
      cases z
      exact .no
    | sh d =>
      rw [hc] at hg
      have z := mrg_no (Δ := Δ) hg (fun d z => by cases z)
      rw [q] at z
      cases z
      have r := h.ok i _ hg
      generalize (vs.map some).getD i none = u at r
      cases r with
      | sh r => exact .sh (r.mono e0)
  · obtain ⟨d1, g1, rfl, _⟩ := back i s d h1 h2
    obtain ⟨d2, g2, rfl, _⟩ := back j t e h3 h4
    exact h.dj i j _ _ _ _ p g1 rfl g2 rfl h5 h6
  · obtain ⟨d1, g1, rfl, _⟩ := back i s d h1 h2
    exact h.xd i _ _ p g1 rfl h3
  · obtain ⟨e, _, h2, _⟩ := io i d q
    exact ⟨rfl, e, h2⟩
end
end DL
set_option Elab.async false
set_option linter.all false
set_option maxRecDepth 100000
set_option maxHeartbeats 2000000
set_option autoImplicit false
namespace DL
open PySem PySem.Spec PyProof.Rows L2
section
variable {P : Program} {w : World} {K : PySem.W.Frag} {mg : Str → Option Value} {base : Heap}
abbrev WF (E : XK) : WX := fun cls d _ H => E cls d H
/-- from the promise to the body's reading -/
theorem body_of {X : Cx} {N : List Str} {n : Nat} {vs : List V} {H : Hp} {Q : VK} {E : XK} {sts : List Stmt} {m : M Flow} (hK : X.K = K) (hmg : X.mg = mg) (hn : n ≤ N.length) (b : DSs X (WF E) sts m) (h : spF K mg n (fnM N.length m) vs H Q E) :
    ∃ t, PSs X sts t ∧ t { nx := fun _ H' => Q .non H', rt := Q } (L2.start N vs) H := by
  subst hK hmg
  obtain ⟨xo, Γ, hl, ho, k, a⟩ := h
  obtain ⟨t, p, g⟩ := b.ex
  refine ⟨t, p, g xo (Γ ++ List.replicate (N.length - Γ.length) .no) (L2.start N vs) H _ ?_ ?_⟩
  · exact k.begin (by have := k.len; rw [List.length_map] at this; omega)
  · unfold fnM at a
    cases e : m (Γ ++ List.replicate (N.length - Γ.length) .no) with
    | no => rw [e] at a; exact False.elim a
    | er x Δ =>
      rw [e] at a
      intro cls dx σ' H' k' st xr
      obtain ⟨f1, f2, f3⟩ := k.finish ho k' st
      obtain ⟨C, d, v, h1, h2, h3, h4, h5⟩ := xr
      exact a cls dx H' f1 f2 ⟨C, d, v, h1, h2, h3, f3 _ _ h4, h5.mono f3⟩
    | ok f Δ =>
      rw [e] at a
      cases f with
      | nx =>
        intro σ' H' k' st
        obtain ⟨f1, f2, f3⟩ := k.finish ho k' st
        exact a .non H' f1 f2 .non
      | rt d =>
        intro v σ' H' k' st r
        obtain ⟨f1, f2, f3⟩ := k.finish ho k' st
        exact a v H' f1 f2 (r.mono f3)
      | bk => exact False.elim a
      | ct => exact False.elim a
/-- a def's contract where no guard of repr is up -/
structure FnG (P : Program) (w : World) (K : PySem.W.Frag) (mg : Str → Option Value) (base : Heap) (k : Nat) (f : Addr) (fd : FuncData) (ps : List Str) (sp : Sp) : Prop where
  len : ∀ vs H Q E, sp vs H Q E → vs.length = ps.length
  run : ∀ (A : Around) (outer : List PySem.Env) (s : Shared) (H : Hp) (args : Args) (us : List Value) (vs : List V) (Q : VK) (E : XK), A.guards = some [] → Room k A → Env0 P w K mg base A outer s H → BindsTo s fd args (ps.zip us) → Vals vs us → sp vs H Q E →
    codeAny (model P w) A (.call (.ref f) args) (CR (L2.CX P w) outer P w H s Q E) s
theorem FnG.mono {k j : Nat} {f : Addr} {fd : FuncData} {ps : List Str} {sp : Sp} (F : FnG P w K mg base j f fd ps sp) (h : j ≤ k) : FnG P w K mg base k f fd ps sp :=
  ⟨F.len, fun A outer s H args us vs Q E hg hr => F.run A outer s H args us vs Q E hg (hr.mono h)⟩
theorem fn_G {k : Nat} {f : Addr} {name qual : Str} {params : Arguments} {body : List Stmt} {scope : Scope} {dV kV doc pm cdv ct oc : Value} {an od : Option Addr} {osl : Array (Option Value)} {N ps : List Str} {sp : Sp}
    (lk : K.lookup f = some ⟨oc, od, .func (PySem.W.fnOf name qual params body scope dV kV doc pm an cdv ct), osl⟩) (hcd : PySem.W.codeIn K cdv qual = true) (S : FnScope N ps scope) (len : ∀ vs H Q E, sp vs H Q E → vs.length = ps.length)
    (hbody : ∀ (A : Around) (outer : List PySem.Env) (s : Shared) (H : Hp) (vs : List V) (Q : VK) (E : XK), A.guards = some [] → Room k (A.deeper (PyProof.Rows.envOfC qual scope s.heap.objs.size f cdv)) → sp vs H Q E →
      ∃ t, PSs (cxOf (L2.CX P w) P w K mg base N qual scope f cdv A outer s H E) body t ∧ t { nx := fun _ H' => Q .non H', rt := Q } (L2.start N vs) H) :
    FnG P w K mg base (k + 1) f (PySem.W.fnOf name qual params body scope dV kV doc pm an cdv ct) ps sp := by
  refine ⟨len, fun A outer s H args us vs Q E hgu hr e0 hb r hsp => ?_⟩
  have KX : K.In s.heap := e0.mod.kin.keeps fun b o e => (e0.bs b o e).1
  have lim : s.heap.NoLimit := e0.mod.nolimit.keeps fun b o e => (e0.bs b o e).1
  refine codeAny_call_function hr.depth (KX _ _ lk) rfl S.co S.gen rfl (PySem.W.codeRec_of KX hcd) (hb _ _ _ _ ?_)
  refine wpAny_newFunctionEnv_cells S.kind (fun ⟨n, v⟩ hy => ?_) fun env he s1 x => ?_
  · rcases S.par n (List.of_mem_zip hy).1 with q | q
    · exact .inl q
    · exact .inr ⟨q, PySem.W.cellsFrom_some _ _ _ (.inl q)⟩
  · subst he
    refine ⟨lim.keeps x.toInCall.keep, codeAny_func ?_⟩
    obtain ⟨t, ht, hq⟩ := hbody A outer s H vs Q E hgu (hr.deeper _) hsp
    have I : Inv (cxOf (L2.CX P w) P w K mg base N qual scope f cdv A outer s H E) [] (L2.start N vs) H s1 := inv_start S hr.hd e0 (len _ _ _ _ hsp) r x
    refine wpAny_mono (ht.run [] s1 (L2.start N vs) H _ I hq) (fun fl s' hs => ?_) fun e s' hs => hs
    cases fl with
    | ret u =>
      obtain ⟨v, σ', H', J, rv, q⟩ := hs
      exact ⟨v, H', J.os, J.bare, J.base, J.hok, rv, q⟩
    | next =>
      obtain ⟨σ', H', J, q⟩ := hs
      exact ⟨.non, H', J.os, J.bare, J.base, J.hok, rfl, q⟩
    | brk => exact False.elim hs.choose_spec.choose_spec.2
    | cont => exact False.elim hs.choose_spec.choose_spec.2
/-- THE RULE for a def -/
theorem fn_ok {x qual : Str} {params : Arguments} {body : List Stmt} {scope : Scope} {dvs : List V} {kws : List (Str × V)} {f : Addr} {fd : FuncData} {N ps : List Str} {k : Nat} {m : M Flow} (F : FunD K x qual params body scope dvs kws f fd) (S : FnScope N ps scope) (hn : ps.length ≤ N.length)
    (hb : ∀ (cdv : Value) (A : Around) (outer : List PySem.Env) (s : Shared) (H : Hp) (E : XK), A.guards = some [] → Room k (A.deeper (PyProof.Rows.envOfC qual scope s.heap.objs.size f cdv)) →
      DSs (cxOf (L2.CX P w) P w K mg base N qual scope f cdv A outer s H E) (WF E) body m) :
    FnG P w K mg base (k + 1) f fd ps (spF K mg ps.length (fnM N.length m)) := by
  obtain ⟨oc, od, dV, kV, doc, pm, an, cdv, ct, osl, rfl, lk, hcd, _, _⟩ := F.ex
  exact fn_G lk hcd S (fun _ _ _ _ h => spF_len h) fun A outer s H vs Q E hgu hr h => body_of rfl rfl hn (hb cdv A outer s H E hgu hr) h
end

/-! ### calls -/
section
variable {X : Cx} {W : WX}
theorem tk_pass {E : XK} {k : Nat} (tk : Takes X W) (hE : ∀ cls d H σ, E cls d H → W cls d σ H) : Passes (L2.CX X.prog X.w) X E := fun pins σ H s e s' I c => passes_call tk (fun cls d σ H h => hE cls d H σ h) pins σ H s e s' I c
/-- values handed in -/
theorem ok_vals {xo : Addr → Prop} {Γ : SEnv} {σ : L2.St} {H : Hp} {vs : List V} {ds : List D} (k : OkS X.K xo Γ σ H) (r : Reps X.K (vw xo Γ σ H) vs ds) :
    OkS X.K (Hd xo Γ σ) (ds.map .sh) (vs.map some) H ∧ vw (Hd xo Γ σ) (ds.map .sh) (vs.map some) H = vw xo Γ σ H := by
  have no : ∀ (i : Nat) (s : Sl) (d : D), (ds.map Sl.sh)[i]? = some s → s.own = some d → False := fun i s d h1 h2 => by
    rw [List.getElem?_map, Option.map_eq_some_iff] at h1
    obtain ⟨_, _, rfl⟩ := h1
    cases h2
  have ev : vw (Hd xo Γ σ) (ds.map .sh) (vs.map some) H = vw xo Γ σ H := by
    have e : Hd (Hd xo Γ σ) (ds.map Sl.sh) (vs.map some) = Hd xo Γ σ := by
      funext a
      exact propext ⟨fun z => z.elim id fun ⟨i, s, d, h1, h2, _⟩ => (no i s d h1 h2).elim, .inl⟩
    unfold vw
    rw [e]
  refine ⟨⟨by rw [List.length_map, List.length_map]; exact r.length.symm, fun i s h => ?_, fun i j s t d e p h1 h2 => (no i s d h1 h2).elim, fun i s d p h1 h2 => (no i s d h1 h2).elim, fun a h => k.hd_there h⟩, ev⟩
  rw [ev]
  rw [List.getElem?_map, Option.map_eq_some_iff] at h
  obtain ⟨d, hd, rfl⟩ := h
  obtain ⟨v, hv, rv⟩ := r.get hd
  rw [List.getD_eq_getElem?_getD, List.getElem?_map, hv]
  exact .sh rv
/-- a call that is handed values -/
def callM (m : M D) (ma : M (List D)) : M D := bnd ma fun ds Γ => match m (ds.map .sh) with
  | .ok d _ => .ok d Γ
  | .er x _ => .er x Γ
  | .no => .no
theorem call_reads {xo : Addr → Prop} {Γ : SEnv} {σ : L2.St} {H : Hp} {vs : List V} {ds : List D} {m : M D} {Q : VK} {n : Nat} (k : OkS X.K xo Γ σ H) (r : Reps X.K (vw xo Γ σ H) vs ds) (hn : ds.length = n)
    (a : VAns X W xo Γ σ H (match m (ds.map .sh) with | .ok d _ => .ok d Γ | .er x _ => .er x Γ | .no => .no) Q) :
    spF X.K X.mg n m vs H Q (WE W σ) := by
  obtain ⟨k', ev⟩ := ok_vals k r
  have up : ∀ {H' : Hp} {Γ' : SEnv}, Step (Hd xo Γ σ) (ds.map .sh) (vs.map some) H Γ' (vs.map some) H' → OkS X.K (Hd xo Γ σ) Γ' (vs.map some) H' → Ex H H' ∧ Ex (vw (Hd xo Γ σ) Γ' (vs.map some) H') (vw xo Γ σ H') := fun {H' Γ'} st k2 => by
    refine ⟨fun a o h => ?_, hid_le fun a q => .inl q⟩
    by_cases q : Hd xo Γ σ a
    · exact st.xk a o q h
    · exact (hid_some.mp (st.sh a o (by rw [ev]; exact hid_some.mpr ⟨q, h⟩))).2
  refine ⟨Hd xo Γ σ, ds.map .sh, by rw [r.length]; exact hn, fun i d h => ?_, k', ?_⟩
  · rw [List.getElem?_map, Option.map_eq_some_iff] at h
    obtain ⟨_, _, h⟩ := h
    cases h
  · cases e : m (ds.map .sh) with
    | no => rw [e] at a; exact False.elim a
    | ok d Γ' =>
      rw [e] at a
      intro v H' k2 st rv
      obtain ⟨u1, u2⟩ := up st k2
      exact a H' (k.ext u1) (.ext u1) v (rv.mono u2)
    | er x Γ' =>
      rw [e] at a
      intro cls dx H' k2 st xr
      obtain ⟨u1, u2⟩ := up st k2
      obtain ⟨C, d, v, h1, h2, h3, h4, h5⟩ := xr
      exact a cls dx H' (k.ext u1) (.ext u1) ⟨C, d, v, h1, h2, h3, u2 _ _ h4, h5.mono u2⟩
variable {f : Addr} {fd : FuncData} {ps ks : List Str} {k n : Nat} {sp : Sp} {m : M D} {ma : M (List D)} {x : Str} {e : Expr} {es : List Expr} {kws : List Keyword} {p pos : Pos} {t : TA} {E : L2.St → XK}
theorem run_G {pins : List (Addr × Obj)} {σ : L2.St} {H : Hp} {s : Shared} {Q : VK} {args : List Value} {kv : List (Str × Value)} {us : List Value} {vs : List V} (F : FnG X.prog X.w X.K X.mg X.base k f fd ps sp) (hgu : X.A.guards = some []) (hr : Room k X.A) (hx : PassesAt (L2.CX X.prog X.w) X σ (E σ))
    (I : Inv X pins σ H s) (hb : BindsTo s fd ⟨args, kv⟩ (ps.zip us)) (r : Vals vs us) (h : sp vs H Q (E σ)) : wpAny (model X.prog X.w) X.A (call (.ref f) args kv) (EP X pins σ Q) X.xe s := by
  refine wpAny_call (codeAny_mono (F.run X.A X.stack s H ⟨args, kv⟩ us vs Q (E σ) hgu hr I.env0 hb r h) fun r s' hq => ?_)
  cases r with
  | error e => exact hx pins H s e s' I hq
  | ok fl =>
    cases fl with
    | ret u => exact I.after hq
    | next => exact False.elim hq
    | brk => exact False.elim hq
    | cont => exact False.elim hq
theorem pe_G (F : FnG X.prog X.w X.K X.mg X.base k f fd ps sp) (hgu : X.A.guards = some []) (hr : Room k X.A) (hg : Gl X x) (hm : X.mg x = some (.ref f)) (hk : PySem.W.keepIn X.K (.ref f) = true) (hb : Binds X.K fd ps []) (hx : ∀ σ, PassesAt (L2.CX X.prog X.w) X σ (E σ))
    (ha : PA X (e :: es) t) (hdb : (x == ("__debug__" : Str)) = false := by decide) (he : starEach (e :: es) X.env = (false, eval e X.env) :: starEach es X.env := by rfl) (hpl : (backTo pos (starEach es X.env)).any (·.1) = false := by rfl) :
    PE X (.Call (.Name x p) (e :: es) [] pos) (tCallS sp E t) := by
  refine ⟨fun pins s σ H Q I h => ?_⟩
  refine wpAny_Call_Name_kw (ld_glob I hg hm ?_ hdb)
  refine PySem.W.callWith_K (h₀ := X.base) I.ok.mod.kin hk (thn (ha.run pos pins s σ H _ I h) fun us s1 ⟨vs, H1, I1, r, q⟩ => ⟨I1.kIn, ?_⟩) he hpl
  refine run_G F hgu hr (hx σ) I1 ?_ r q
  have := hb s1 us I1.kIn (by rw [List.append_nil, ← r.length]; exact F.len _ _ _ _ q)
  rwa [List.append_nil] at this
/-- f(k = v, ..), by names alone -/
theorem pe_GK {g : List Value → List Value → List Value} {gV : List V → List V → List V} {tk : TA} (F : FnG X.prog X.w X.K X.mg X.base k f fd ps sp) (hgu : X.A.guards = some []) (hr : Room k X.A) (hg : Gl X x) (hm : X.mg x = some (.ref f)) (hk : PySem.W.keepIn X.K (.ref f) = true) (hb : KBinds X.K fd ps ks g gV) (hx : ∀ σ, PassesAt (L2.CX X.prog X.w) X σ (E σ))
    (hkw : PK X kws tk) (hall : (backToKw pos (keywordEach kws X.env)).all (·.1.isSome) = true := by rfl) (hks : (backToKw pos (keywordEach kws X.env)).filterMap (·.1) = ks := by rfl) (hdb : (x == ("__debug__" : Str)) = false := by decide)
    (hpl : ((backTo pos (starEach [] X.env)).any (·.1) || (backToKw pos (keywordEach kws X.env)).any (·.1.isNone)) = false := by rfl) : PE X (.Call (.Name x p) [] kws pos) (fun σ H Q => tk σ H fun zs H2 => sp (gV [] zs) H2 Q (E σ)) := by
  refine ⟨fun pins s σ H Q I h => ?_⟩
  refine wpAny_Call_Name_kw (ld_glob I hg hm ?_ hdb)
  refine PySem.W.callWith_KW0 (h₀ := X.base) I.ok.mod.kin hk hall (thn (hkw.run pos pins s σ H _ I h) fun ws s2 ⟨zs, H2, I2, rz, q2⟩ => ⟨I2.kIn, ?_⟩) hpl
  rw [hks]
  have r2 : Vals (gV [] zs) (g [] ws) := hb.rel .nil rz
  refine run_G F hgu hr (hx σ) I2 (hb.to _ [] ws I2.kIn ?_) r2 q2
  rw [← r2.length]
  exact F.len _ _ _ _ q2
/-- a local name that holds a def: which one, the slot says -/
theorem pe_GL {i : Nat} (hgu : X.A.guards = some []) (hN : X.N[i]? = some x) (hv : Vis X.env.scope x) (hx : ∀ σ, PassesAt (L2.CX X.prog X.w) X σ (E σ)) (ha : PA X (e :: es) t)
    (hdb : (x == ("__debug__" : Str)) = false := by decide) (hcd : (x == ("__classdict__" : Str)) = false := by decide)
    (he : starEach (e :: es) X.env = (false, eval e X.env) :: starEach es X.env := by rfl) (hpl : (backTo pos (starEach es X.env)).any (·.1) = false := by rfl) :
    PE X (.Call (.Name x p) (e :: es) [] pos) (fun σ H Q => ∃ (f : Addr) (k : Nat) (fd : FuncData) (ps : List Str) (sp : Sp), FnG X.prog X.w X.K X.mg X.base k f fd ps sp ∧ Room k X.A ∧ PySem.W.keepIn X.K (.ref f) = true ∧ Binds X.K fd ps [] ∧ σ[i]? = some (some (.ref f)) ∧ t σ H fun vs H1 => sp vs H1 Q (E σ)) := by
  refine ⟨fun pins s σ H Q I h => ?_⟩
  obtain ⟨f, k, fd, ps, sp, F, hr, hk, hb, hs, ht⟩ := h
  refine wpAny_Call_Name_kw (thn ((pe_var (pos := p) hN hv hdb hcd).run pins s σ H (fun v H1 => v = .ref f ∧ H1 = H) I ⟨.ref f, hs, rfl, rfl⟩) fun u s1 ⟨v, H1, I1, r1, q1⟩ => ?_)
  obtain ⟨rfl, rfl⟩ := q1
  cases r1
  refine PySem.W.callWith_K (h₀ := X.base) I.ok.mod.kin hk (thn (ha.run pos pins s1 σ _ _ I1 ht) fun us s2 ⟨vs, H2, I2, r, q⟩ => ⟨I2.kIn, ?_⟩) he hpl
  refine run_G F hgu hr (hx σ) I2 ?_ r q
  have := hb s2 us I2.kIn (by rw [List.append_nil, ← r.length]; exact F.len _ _ _ _ q)
  rwa [List.append_nil] at this
theorem callM_reads {m : M D} {ma : M (List D)} {t : TA} (g : ∀ (xo : Addr → Prop) (Γ : SEnv) (σ : L2.St) (H : Hp) (Q : List V → Hp → Prop), OkS X.K xo Γ σ H →
    Ans X W xo Γ σ H (ma Γ) (fun ds Γ' H' => ∀ vs, Reps X.K (vw xo Γ' σ H') vs ds → Q vs H') → t σ H Q) (hn : ∀ Γ ds Γ', ma Γ = .ok ds Γ' → ds.length = n)
    (xo : Addr → Prop) (Γ : SEnv) (σ : L2.St) (H : Hp) (Q : VK) (k : OkS X.K xo Γ σ H) (h : VAns X W xo Γ σ H (callM m ma Γ) Q) : t σ H fun vs H1 => spF X.K X.mg n m vs H1 Q (WE W σ) := by
  refine g xo Γ σ H _ k ?_
  unfold callM at h
  have h2 := Ans.bind h
  cases e1 : ma Γ with
  | no => rw [e1] at h2; exact h2
  | er x Γ' => rw [e1] at h2; exact h2
  | ok ds Γ' =>
    rw [e1] at h2
    exact fun H' k' st vs r => call_reads k' r (hn Γ ds Γ' e1) (h2 H' k' st)
theorem de_call (F : FnG X.prog X.w X.K X.mg X.base k f fd ps (spF X.K X.mg n m)) (hgu : X.A.guards = some []) (hr : Room k X.A) (hg : Gl X x) (hm : X.mg x = some (.ref f)) (hk : PySem.W.keepIn X.K (.ref f) = true) (hb : Binds X.K fd ps []) (tk : Takes X W)
    (ha : DA X W (e :: es) ma) (hn : ∀ Γ ds Γ', ma Γ = .ok ds Γ' → ds.length = n) (hdb : (x == ("__debug__" : Str)) = false := by decide) (he : starEach (e :: es) X.env = (false, eval e X.env) :: starEach es X.env := by rfl) (hpl : (backTo pos (starEach es X.env)).any (·.1) = false := by rfl) :
    DE X W (.Call (.Name x p) (e :: es) [] pos) (callM m ma) := by
  obtain ⟨t, q, g⟩ := ha.ex
  exact ⟨_, pe_G F hgu hr hg hm hk hb (E := WE W) (fun σ => passAt tk σ) q hdb he hpl, callM_reads g hn⟩
/-! .. by names -/
structure DK (X : Cx) (W : WX) (es : List Keyword) (m : M (List D)) : Prop where
  ex : ∃ t : TA, PK X es t ∧ ∀ (xo : Addr → Prop) (Γ : SEnv) (σ : L2.St) (H : Hp) (Q : List V → Hp → Prop), OkS X.K xo Γ σ H →
    Ans X W xo Γ σ H (m Γ) (fun ds Γ' H' => ∀ vs, Reps X.K (vw xo Γ' σ H') vs ds → Q vs H') → t σ H Q
theorem dk_nil : DK X W [] nilA := ⟨_, pk_nil, fun xo Γ σ H Q k h => Ans.ret k h _ .nil⟩
theorem dk_cons {a : Expr} {m : M D} {mr : M (List D)} {nm : Option Str} {kpos : Pos} (ha : DE X W a m) (hr : DK X W kws mr) : DK X W (⟨nm, a, kpos⟩ :: kws) (consA m mr) := by
  obtain ⟨t, p, g⟩ := ha.ex
  obtain ⟨u, q, f⟩ := hr.ex
  refine ⟨_, pk_cons p q, fun xo Γ σ H Q k h => ?_⟩
  refine g xo Γ σ H _ k (h.bind.imp fun d Γ' H' k' st h' v rv => ?_)
  refine f xo Γ' σ H' _ k' (h'.bind.imp fun ds Γ2 H2 k2 s2 h2 vs rvs => ?_)
  exact Ans.ret k2 h2 _ (.cons (s2.rep rv) rvs)
/-- the values of the names in the parameters' order -/
def permA (g : List D → List D) (m : M (List D)) : M (List D) := bnd m fun ds => ret (g ds)
theorem de_callK {g : List Value → List Value → List Value} {gV : List V → List V → List V} {gD : List D → List D} (F : FnG X.prog X.w X.K X.mg X.base k f fd ps (spF X.K X.mg n m)) (hgu : X.A.guards = some []) (hr : Room k X.A) (hg : Gl X x) (hm : X.mg x = some (.ref f)) (hk : PySem.W.keepIn X.K (.ref f) = true) (hb : KBinds X.K fd ps ks g gV) (tk : Takes X W)
    (hp : ∀ (S : Hp) vs ds, Reps X.K S vs ds → Reps X.K S (gV [] vs) (gD ds)) (ha : DK X W kws ma) (hn : ∀ Γ ds Γ', ma Γ = .ok ds Γ' → (gD ds).length = n)
    (hall : (backToKw pos (keywordEach kws X.env)).all (·.1.isSome) = true := by rfl) (hks : (backToKw pos (keywordEach kws X.env)).filterMap (·.1) = ks := by rfl) (hdb : (x == ("__debug__" : Str)) = false := by decide)
    (hpl : ((backTo pos (starEach [] X.env)).any (·.1) || (backToKw pos (keywordEach kws X.env)).any (·.1.isNone)) = false := by rfl) :
    DE X W (.Call (.Name x p) [] kws pos) (callM m (permA gD ma)) := by
  obtain ⟨t, q, gg⟩ := ha.ex
  refine ⟨_, pe_GK F hgu hr hg hm hk hb (E := WE W) (fun σ => passAt tk σ) q hall hks hdb hpl, fun xo Γ σ H Q k h => ?_⟩
  refine gg xo Γ σ H _ k ?_
  unfold callM permA at h
  have h2 := Ans.bind h
  unfold bnd at h2
  cases e1 : ma Γ with
  | no => rw [e1] at h2; exact h2
  | er x Γ' => rw [e1] at h2; exact h2
  | ok ds Γ' =>
    rw [e1] at h2
    exact fun H' k' st vs r => call_reads k' (hp _ _ _ r) (hn Γ ds Γ' e1) (h2 H' k' st)
/-! .. of a local name -/
def callL (i : Nat) (tab : Addr → Option (M D)) (ma : M (List D)) : M D := fun Γ => match Γ[i]? with
  | some (.sh (.ptr f)) => match tab f with
    | some m => callM m ma Γ
    | none => .no
  | _ => .no
theorem de_callL {i : Nat} {tab : Addr → Option (M D)} (hgu : X.A.guards = some []) (hN : X.N[i]? = some x) (hv : Vis X.env.scope x)
    (hT : ∀ f m, tab f = some m → ∃ (k : Nat) (fd : FuncData) (ps : List Str), FnG X.prog X.w X.K X.mg X.base k f fd ps (spF X.K X.mg n m) ∧ Room k X.A ∧ PySem.W.keepIn X.K (.ref f) = true ∧ Binds X.K fd ps []) (tk : Takes X W)
    (ha : DA X W (e :: es) ma) (hn : ∀ Γ ds Γ', ma Γ = .ok ds Γ' → ds.length = n) (hdb : (x == ("__debug__" : Str)) = false := by decide) (hcd : (x == ("__classdict__" : Str)) = false := by decide)
    (he : starEach (e :: es) X.env = (false, eval e X.env) :: starEach es X.env := by rfl) (hpl : (backTo pos (starEach es X.env)).any (·.1) = false := by rfl) :
    DE X W (.Call (.Name x p) (e :: es) [] pos) (callL i tab ma) := by
  obtain ⟨t, q, g⟩ := ha.ex
  refine ⟨_, pe_GL (E := WE W) hgu hN hv (fun σ => passAt tk σ) q hdb hcd he hpl, fun xo Γ σ H Q k h => ?_⟩
  unfold callL at h
  split at h
  · rename_i f e1
    split at h
    · rename_i m e2
      obtain ⟨kk, fd, ps, F, hr, hk, hb⟩ := hT f m e2
      obtain ⟨v, hs, rv⟩ := k.sh_at e1
      cases rv
      exact ⟨f, kk, fd, ps, _, F, hr, hk, hb, hs, callM_reads g hn xo Γ σ H Q k h⟩
    · exact False.elim h
  · exact False.elim h
end
end DL
set_option Elab.async false
set_option linter.all false
set_option maxRecDepth 100000
set_option maxHeartbeats 2000000
set_option autoImplicit false
namespace DL
open PySem L2
section
variable {X : Cx} {W : WX}
/-! ### a call that is handed an object that it may change, and values -/
/-- the slot holds an object of its own -/
def gdM (i : Nat) : M Unit := fun Γ => match Γ[i]? with
  | some s => match s.own with
    | some _ => .ok () Γ
    | none => .no
  | none => .no
def callIo (i : Nat) (m : M D) (ma : M (List D)) : M D := bnd (gdM i) fun _ => bnd ma fun ds Γ => match Γ[i]? with
  | some s => match s.own with
    | some c => match m (.io c :: ds.map .sh) with
      | .ok d (.io c' :: _) => .ok d (Γ.set i (s.put c'))
      | .er x (.io c' :: _) => .er x (Γ.set i (s.put c'))
      | _ => .no
    | none => .no
  | none => .no
variable {xo : Addr → Prop} {Γ Γ' : SEnv} {σ : L2.St} {H H' : Hp} {vs : List V} {ds : List D} {i : Nat} {s : Sl} {c c' : D} {p : Addr}
theorem hd_io (h : Γ[i]? = some s) (ho : s.own = some c) (hp : σ[i]? = some (some (.ref p))) : Hd (fun a => Hd xo Γ σ a ∧ a ≠ p) (.io c :: ds.map .sh) ((V.ref p :: vs).map some) = Hd xo Γ σ := by
  have hd : Hd xo Γ σ p := .inr ⟨i, s, c, h, ho, hp⟩
  funext a
  refine propext ⟨fun z => ?_, fun z => ?_⟩
  · rcases z with z | ⟨j, u, d, h1, h2, h3⟩
    · exact z.1
    · cases j with
      | zero =>
        simp at h3
        rw [← h3]
        exact hd
      | succ j =>
        rw [List.getElem?_cons_succ, List.getElem?_map, Option.map_eq_some_iff] at h1
        obtain ⟨_, _, rfl⟩ := h1
        cases h2
  · by_cases q : a = p
    · subst q
      exact .inr ⟨0, .io c, c, rfl, rfl, rfl⟩
    · exact .inl ⟨z, q⟩
theorem ok_io (k : OkS X.K xo Γ σ H) (h : Γ[i]? = some s) (ho : s.own = some c) (hp : σ[i]? = some (some (.ref p))) (r : Reps X.K (vw xo Γ σ H) vs ds) :
    OkS X.K (fun a => Hd xo Γ σ a ∧ a ≠ p) (.io c :: ds.map .sh) ((V.ref p :: vs).map some) H := by
  have ev : vw (fun a => Hd xo Γ σ a ∧ a ≠ p) (.io c :: ds.map .sh) ((V.ref p :: vs).map some) H = vw xo Γ σ H := by
    unfold vw
    rw [hd_io h ho hp]
  have only : ∀ (j : Nat) (u : Sl) (d : D), (Sl.io c :: ds.map Sl.sh)[j]? = some u → u.own = some d → j = 0 := fun j u d h1 h2 => by
    cases j with
    | zero => rfl
    | succ j =>
      rw [List.getElem?_cons_succ, List.getElem?_map, Option.map_eq_some_iff] at h1
      obtain ⟨_, _, rfl⟩ := h1
      cases h2
  refine ⟨by simp [r.length], fun j u q => ?_, fun a b u t d e q h1 h2 h3 h4 _ _ => (only a u d h1 h2).trans (only b t e h3 h4).symm, fun j u d q h1 h2 h3 h4 => ?_, fun a q => k.hd_there q.1⟩
  · rw [ev]
    cases j with
    | zero =>
      simp at q
      subst q
      obtain ⟨p', hp', cl⟩ := k.own_at h ho
      rw [hp] at hp'
      cases hp'
      exact .io cl
    | succ j =>
      rw [List.getElem?_cons_succ, List.getElem?_map, Option.map_eq_some_iff] at q
      obtain ⟨d, hd, rfl⟩ := q
      obtain ⟨v, hv, rv⟩ := r.get hd
      rw [List.getD_eq_getElem?_getD, List.map_cons, List.getElem?_cons_succ, List.getElem?_map, hv]
      exact .sh rv
  · have z := only j u d h1 h2
    subst z
    simp at h3
    exact h4.2 h3.symm
theorem io_back (k : OkS X.K xo Γ σ H) (h : Γ[i]? = some s) (ho : s.own = some c) (hp : σ[i]? = some (some (.ref p))) {Δ : SEnv}
    (k' : OkS X.K (fun a => Hd xo Γ σ a ∧ a ≠ p) (.io c' :: Δ) ((V.ref p :: vs).map some) H') (st : Step (fun a => Hd xo Γ σ a ∧ a ≠ p) (.io c :: ds.map .sh) ((V.ref p :: vs).map some) H (.io c' :: Δ) ((V.ref p :: vs).map some) H') :
    OkS X.K xo (Γ.set i (s.put c')) σ H' ∧ Step xo Γ σ H (Γ.set i (s.put c')) σ H' ∧ Ex (vw (fun a => Hd xo Γ σ a ∧ a ≠ p) (.io c' :: Δ) ((V.ref p :: vs).map some) H') (vw xo (Γ.set i (s.put c')) σ H') := by
  have e1 : Ex (vw (fun a => Hd xo Γ σ a ∧ a ≠ p) (.io c' :: Δ) ((V.ref p :: vs).map some) H') (vw xo Γ σ H') := hid_le fun a z => by
    by_cases q : a = p
    · subst q
      exact .inr ⟨0, .io c', c', rfl, rfl, rfl⟩
    · exact .inl ⟨z, q⟩
  have e0 : Ex (vw xo Γ σ H) (vw xo Γ σ H') := fun a o q => e1 a o (st.sh a o (by unfold vw; rw [hd_io h ho hp]; exact q))
  obtain ⟨p', hp', cl⟩ := k'.own_at (i := 0) (s := .io c') rfl rfl
  have hp'' : p = p' := by simpa using hp'
  subst hp''
  obtain ⟨k2, s2⟩ := k.chg2 h ho hp e0 (fun a o ne q hh => st.xk a o ⟨q, ne⟩ hh) (cl.mono e1 rfl)
  refine ⟨k2, s2, fun a o q => ?_⟩
  rw [vw_put h ho]
  exact e1 a o q
theorem callIo_reads {m : M D} {Q : VK} {n : Nat} (k : OkS X.K xo Γ σ H) (h : Γ[i]? = some s) (ho : s.own = some c) (hp : σ[i]? = some (some (.ref p))) (r : Reps X.K (vw xo Γ σ H) vs ds) (hn : ds.length + 1 = n)
    (a : VAns X W xo Γ σ H (match m (.io c :: ds.map .sh) with | .ok d (.io c' :: _) => .ok d (Γ.set i (s.put c')) | .er x (.io c' :: _) => .er x (Γ.set i (s.put c')) | _ => .no) Q) :
    spF X.K X.mg n m (.ref p :: vs) H Q (WE W σ) := by
  refine ⟨fun a => Hd xo Γ σ a ∧ a ≠ p, .io c :: ds.map .sh, by rw [List.length_cons, r.length]; exact hn, fun j d q => ?_, ok_io k h ho hp r, ?_⟩
  · cases j with
    | zero => cases q
    | succ j =>
      rw [List.getElem?_cons_succ, List.getElem?_map, Option.map_eq_some_iff] at q
      obtain ⟨_, _, q⟩ := q
      cases q
  · cases e : m (.io c :: ds.map .sh) with
    | no => rw [e] at a; exact False.elim a
    | ok d Δ =>
      rw [e] at a
      cases Δ with
      | nil => exact False.elim a
      | cons u Δ =>
        cases u with
        | io c' =>
          intro v H' k2 st rv
          obtain ⟨f1, f2, f3⟩ := io_back k h ho hp k2 st
          exact a H' f1 f2 v (rv.mono f3)
        | _ => exact False.elim a
    | er x Δ =>
      rw [e] at a
      cases Δ with
      | nil => exact False.elim a
      | cons u Δ =>
        cases u with
        | io c' =>
          intro cls dx H' k2 st xr
          obtain ⟨f1, f2, f3⟩ := io_back k h ho hp k2 st
          obtain ⟨C, d, v, h1, h2, h3, h4, h5⟩ := xr
          exact a cls dx H' f1 f2 ⟨C, d, v, h1, h2, h3, f3 _ _ h4, h5.mono f3⟩
        | _ => exact False.elim a
theorem gd_some {α : Type} {f : M α} {Q : α → SEnv → Hp → Prop} (k : OkS X.K xo Γ σ H) (h : Ans X W xo Γ σ H (bnd (gdM i) (fun _ => f) Γ) Q) : (∃ v, σ[i]? = some (some v)) ∧ Ans X W xo Γ σ H (f Γ) Q := by
  unfold bnd gdM at h
  cases e : Γ[i]? with
  | none => simp only [e] at h; exact False.elim h
  | some s =>
    simp only [e] at h
    cases e2 : s.own with
    | none => simp only [e2] at h; exact False.elim h
    | some c =>
      simp only [e2] at h
      obtain ⟨p, hp, _⟩ := k.own_at e e2
      exact ⟨⟨_, hp⟩, h⟩
variable {f : Addr} {fd : FuncData} {ps : List Str} {k n : Nat} {m : M D} {ma : M (List D)} {x y : Str} {es : List Expr} {p0 p1 pos : Pos}
theorem de_callIo (F : FnG X.prog X.w X.K X.mg X.base k f fd ps (spF X.K X.mg n m)) (hgu : X.A.guards = some []) (hr : Room k X.A) (hg : Gl X x) (hm : X.mg x = some (.ref f)) (hk : PySem.W.keepIn X.K (.ref f) = true) (hb : Binds X.K fd ps []) (tk : Takes X W)
    (hi : PE X (.Name y p1) (tVar i)) (ha : DA X W es ma) (hn : ∀ Γ ds Γ', ma Γ = .ok ds Γ' → ds.length + 1 = n) (hdb : (x == ("__debug__" : Str)) = false := by decide)
    (he : starEach (.Name y p1 :: es) X.env = (false, eval (.Name y p1) X.env) :: starEach es X.env := by rfl) (hpl : (backTo pos (starEach es X.env)).any (·.1) = false := by rfl) :
    DE X W (.Call (.Name x p0) (.Name y p1 :: es) [] pos) (callIo i m ma) := by
  obtain ⟨t, q, g⟩ := ha.ex
  refine ⟨_, pe_G F hgu hr hg hm hk hb (E := WE W) (fun σ => passAt tk σ) (pa_cons hi q he) hdb he hpl, fun xo Γ σ H Q k h => ?_⟩
  unfold callIo at h
  obtain ⟨⟨v, hv⟩, h⟩ := gd_some k h
  refine ⟨v, hv, g xo Γ σ H _ k ?_⟩
  have h2 := Ans.bind h
  cases e1 : ma Γ with
  | no => rw [e1] at h2; exact h2
  | er x Γ' => rw [e1] at h2; exact h2
  | ok ds Γ' =>
    rw [e1] at h2
    intro H' k' st vs r
    have h3 := h2 H' k' st
    cases e2 : Γ'[i]? with
    | none => simp only [e2] at h3; exact False.elim h3
    | some s =>
      simp only [e2] at h3
      cases e3 : s.own with
      | none => simp only [e3] at h3; exact False.elim h3
      | some c =>
        simp only [e3] at h3
        obtain ⟨p, hp, _⟩ := k'.own_at e2 e3
        rw [hv] at hp
        cases hp
        exact callIo_reads k' e2 e3 hv r (hn Γ ds Γ' e1) h3
end
end DL
set_option Elab.async false
set_option linter.all false
set_option maxRecDepth 100000
set_option maxHeartbeats 2000000
set_option autoImplicit false
namespace DL
open PySem L2
section
variable {X : Cx} {W : WX}
/-! ### expressions that make a new object -/
def NAns (X : Cx) (W : WX) (xo : Addr → Prop) (Γ : SEnv) (σ : L2.St) (H : Hp) (r : Res D) (Q : VK) : Prop :=
  match r with
  | .ok d Γ' => ∀ p H', OkS X.K (xo1 xo p) Γ' σ H' → StepF xo Γ σ H p Γ' σ H' → Cell X.K (vw (xo1 xo p) Γ' σ H') H' p d → Q (.ref p) H'
  | .er x Γ' => ∀ (cls : Value) (dx : Option Addr) (H' : Hp), OkS X.K xo Γ' σ H' → Step xo Γ σ H Γ' σ H' → XRep X.K X.mg (vw xo Γ' σ H') cls dx x → W cls dx σ H'
  | .no => False
structure DF (X : Cx) (W : WX) (e : Expr) (m : M D) : Prop where
  ex : ∃ t : TE, PE X e t ∧ ∀ (xo : Addr → Prop) (Γ : SEnv) (σ : L2.St) (H : Hp) (Q : VK), OkS X.K xo Γ σ H → NAns X W xo Γ σ H (m Γ) Q → t σ H Q
variable {xo : Addr → Prop} {Γ Γ' Γ1 : SEnv} {σ : L2.St} {H H' H1 : Hp} {p : Addr} {d : D} {r : Res D} {Q : VK}
theorem nans_of (a : VAns X W xo Γ σ H r Q) : NAns X W xo Γ σ H r Q := by
  cases r with
  | no => exact a
  | er x Γ' => exact a
  | ok d Γ' =>
    intro p H' k st c
    have hv : vw xo Γ' σ H' p = H' p := by
      unfold vw hid
      rw [if_neg st.nx]
    exact a H' (k.less fun _ => .inl) st.step _ (c.rep (hid_le fun _ z => z.elim (fun y => .inl (.inl y)) .inr) hv)
theorem df_de {e : Expr} {m : M D} (h : DF X W e m) : DE X W e m := by
  obtain ⟨t, p, g⟩ := h.ex
  exact ⟨t, p, fun xo Γ σ H Q k a => g xo Γ σ H Q k (nans_of a)⟩
/-- a new object is laid -/
theorem NAns.new {o : HO} (k : OkS X.K xo Γ1 σ H1) (st : Step xo Γ σ H Γ1 σ H1) (hp : H1 p = none) (a : NAns X W xo Γ σ H (.ok d Γ1) Q) (c : ∀ H2 : Hp, H2 p = some o → Cell X.K (vw xo Γ1 σ H1) H2 p d) : Q (.ref p) (upd H1 p o) :=
  a p (upd H1 p o) (k.fresh hp) (st.fresh k hp) (by rw [vw_new hp]; exact c _ upd_same)
theorem NAns.bind {α : Type} {m : M α} {f : α → M D} (a : NAns X W xo Γ σ H (bnd m f Γ) Q) : Ans X W xo Γ σ H (m Γ) (fun x Γ1 H1 => ∀ H', OkS X.K xo Γ1 σ H' → Step xo Γ1 σ H1 Γ1 σ H' → NAns X W xo Γ1 σ H' (f x Γ1) Q) := by
  unfold bnd at a
  cases e : m Γ with
  | no => rw [e] at a; exact False.elim a
  | er x Γ' => rw [e] at a; exact a
  | ok x Γ' =>
    rw [e] at a
    intro H1 k st H' k' st'
    cases e2 : f x Γ' with
    | no => simp only [e2] at a; exact False.elim a
    | er y Γ2 =>
      simp only [e2] at a
      exact fun cls dx H2 k2 s2 => a cls dx H2 k2 ((st.trans st').trans s2)
    | ok d Γ2 =>
      simp only [e2] at a
      intro p H2 k2 s2 c
      have s0 := st.trans st'
      exact a p H2 k2 ⟨fun x o h => s2.sh x o (s0.sh x o h), fun x o q h => s2.xk x o q (s0.xk x o q h), fun i d h => by
        obtain ⟨e1, d1, h1⟩ := s0.io i d h
        obtain ⟨e2, d2, h2⟩ := s2.io i d1 h1
        exact ⟨e2.trans e1, d2, h2⟩, s2.len.trans s0.len, s2.nx⟩ c
variable {a b e : Expr} {es : List Expr} {pos p2 : Pos} {ma mb m : M D} {mr : M (List D)}
theorem df_lst (h : DA X W es mr) : DF X W (.List es pos) (lstM mr) := by
  obtain ⟨t, p, g⟩ := h.ex
  refine ⟨_, pe_lst p, fun xo Γ σ H Q k h => ?_⟩
  refine g xo Γ σ H _ k ((NAns.bind h).imp fun ds Γ' H' k' st h' vs rvs => ?_)
  have h' := h' H' k' .refl
  by_cases hz : sizeOk ds.length = true
  · rw [if_pos hz] at h'
    refine ⟨by rw [rvs.length]; exact of_decide_eq_true hz, fun p hp => ?_⟩
    exact NAns.new k' .refl hp h' fun H2 e2 => .lst e2 rvs
  · rw [if_neg hz] at h'
    exact False.elim h'
/-- [..] * n -/
def D.lmul : D → D → Option D
  | .lst a, .int k => if decide (-(2 ^ 63) ≤ k ∧ k < 2 ^ 63 ∧ a.length * k.toNat ≤ sizeLine) = true then some (.lst (List.replicate k.toNat a).flatten) else none
  | _, _ => none
theorem run2N {ta tb : TE} {f : D → D → M D} (ha : ∀ (xo : Addr → Prop) (Γ : SEnv) (σ : L2.St) (H : Hp) (Q : VK), OkS X.K xo Γ σ H → VAns X W xo Γ σ H (ma Γ) Q → ta σ H Q)
    (hb : ∀ (xo : Addr → Prop) (Γ : SEnv) (σ : L2.St) (H : Hp) (Q : VK), OkS X.K xo Γ σ H → VAns X W xo Γ σ H (mb Γ) Q → tb σ H Q)
    {R : V → V → Hp → Prop} (k : OkS X.K xo Γ σ H) (h : NAns X W xo Γ σ H ((bnd ma fun a => bnd mb fun b => f a b) Γ) Q)
    (hr : ∀ x y a b Γ2 H2, OkS X.K xo Γ2 σ H2 → Rep X.K (vw xo Γ2 σ H2) x a → Rep X.K (vw xo Γ2 σ H2) y b → NAns X W xo Γ2 σ H2 (f a b Γ2) Q → R x y H2) :
    ta σ H fun x H1 => tb σ H1 fun y H2 => R x y H2 := by
  refine ha xo Γ σ H _ k (h.bind.imp fun a Γ1 H1 k1 s1 h1 x rx => ?_)
  refine hb xo Γ1 σ H1 _ k1 ((h1 H1 k1 .refl).bind.imp fun b Γ2 H2 k2 s2 h2 y ry => ?_)
  exact hr x y a b Γ2 H2 k2 (s2.rep rx) ry (h2 H2 k2 .refl)
theorem NAns.opt {o : Option D} (a : NAns X W xo Γ σ H (opt o Γ) Q) : ∃ x, o = some x ∧ NAns X W xo Γ σ H (.ok x Γ) Q := by
  cases o with
  | some x => exact ⟨x, rfl, a⟩
  | none => exact False.elim a
theorem df_lmul (ha : DE X W a ma) (hb : DE X W b mb) : DF X W (.BinOp a .Mult b pos) (bin D.lmul ma mb) := by
  obtain ⟨ta, pa, ga⟩ := ha.ex
  obtain ⟨tb, pb, gb⟩ := hb.ex
  refine ⟨_, pe_op op_rep pa pb, fun xo Γ σ H Q k h => ?_⟩
  refine run2N ga gb k h fun x y a b Γ2 H2 k2 rx ry h2 => ?_
  obtain ⟨dz, e, h3⟩ := h2.opt
  unfold D.lmul at e
  split at e
  · split at e
    · rename_i hz
      cases e
      obtain ⟨g1, g2, g3⟩ := of_decide_eq_true hz
      cases ry
      cases rx with
      | lst q1 r1 => exact ⟨_, _, _, rfl, rfl, hid_un q1, g1, g2, by rw [r1.length]; exact g3, fun p hp => NAns.new k2 .refl hp h3 fun H3 e3 => .lst e3 (r1.rep _)⟩
    · cases e
  · cases e
/-- xs[..], a new list -/
def D.lslice (lo hi : Option Int) : D → Option D
  | .lst ds => some (.lst (cutD ds lo hi))
  | .scr ns => some (.lst ((cutD ns lo hi).map D.int))
  | _ => none

/-! ### statements -/
variable {st : Stmt} {sts rest : List Stmt} {f g : M Flow}
def sq (f g : M Flow) : M Flow := bnd f fun x => match x with
  | .nx => g
  | y => ret y
theorem SAns.from {r : Res Flow} {B : Ends} {σ' : L2.St} (st : Step xo Γ σ H Γ1 σ' H1) (a : SAns X W xo Γ σ H r B) : SAns X W xo Γ1 σ' H1 r B := by
  cases r with
  | no => exact a
  | er x Γ' => exact fun cls dx σ2 H2 k s2 => a cls dx σ2 H2 k (st.trans s2)
  | ok fl Γ' =>
    cases fl with
    | nx => exact fun σ2 H2 k s2 => a σ2 H2 k (st.trans s2)
    | bk => exact fun σ2 H2 k s2 => a σ2 H2 k (st.trans s2)
    | ct => exact fun σ2 H2 k s2 => a σ2 H2 k (st.trans s2)
    | rt d => exact fun v σ2 H2 k s2 => a v σ2 H2 k (st.trans s2)
theorem SAns.bind {α : Type} {m : M α} {f : α → M Flow} {B : Ends} (a : SAns X W xo Γ σ H (bnd m f Γ) B) : Ans X W xo Γ σ H (m Γ) (fun x Γ1 H1 => SAns X W xo Γ1 σ H1 (f x Γ1) B) := by
  unfold bnd at a
  cases e : m Γ with
  | no => rw [e] at a; exact False.elim a
  | er x Γ' => rw [e] at a; exact fun cls dx H' k st q => a cls dx σ H' k st q
  | ok x Γ' => rw [e] at a; exact fun H' k st => SAns.from st a
theorem dss_nil : DSs X W [] (ret .nx) := ⟨_, pss_nil, fun xo Γ σ H B k h => h σ H k .refl⟩
theorem dss_cons (h1 : DS X W st f) (h2 : DSs X W rest g) : DSs X W (st :: rest) (sq f g) := by
  obtain ⟨t, p, a⟩ := h1.ex
  obtain ⟨u, q, b⟩ := h2.ex
  refine ⟨_, pss_cons p q, fun xo Γ σ H B k h => ?_⟩
  refine a xo Γ σ H _ k ?_
  unfold sq bnd at h
  cases e : f Γ with
  | no => rw [e] at h; exact h
  | er x Γ' => rw [e] at h; exact h
  | ok fl Γ' =>
    rw [e] at h
    cases fl with
    | nx => exact fun σ' H' k' st => b xo Γ' σ' H' B k' (SAns.from st h)
    | bk => exact h
    | ct => exact h
    | rt d => exact h
theorem dss_one (h1 : DS X W st f) : DSs X W [st] f := let ⟨t, p, a⟩ := h1.ex; ⟨t, pss_one p, a⟩
theorem ds_pass : DS X W (.Pass pos) (ret .nx) := ⟨_, ps_pass, fun xo Γ σ H B k h => h σ H k .refl⟩
theorem ds_break : DS X W (.Break pos) (ret .bk) := ⟨_, ps_break, fun xo Γ σ H B k h => h σ H k .refl⟩
theorem ds_continue : DS X W (.Continue pos) (ret .ct) := ⟨_, ps_continue, fun xo Γ σ H B k h => h σ H k .refl⟩
def rtM (m : M D) : M Flow := bnd m fun d => ret (.rt d)
theorem ds_ret (h : DE X W e m) : DS X W (.Return (some e) pos) (rtM m) := by
  obtain ⟨t, p, g⟩ := h.ex
  refine ⟨_, ps_ret p, fun xo Γ σ H B k h => ?_⟩
  exact g xo Γ σ H _ k (h.bind.imp fun d Γ' H' k' st h' v rv => h' v σ H' k' .refl rv)
theorem ds_retN : DS X W (.Return none pos) (ret (.rt .non)) := ⟨_, ps_retN, fun xo Γ σ H B k h => h .non σ H k .refl .non⟩
def dropM (m : M D) : M Flow := bnd m fun _ => ret .nx
theorem ds_expr (h : DE X W e m) (hs : swapsWith e none pos.line X.env = pure false := by rfl) : DS X W (.Expr e pos) (dropM m) := by
  obtain ⟨t, p, g⟩ := h.ex
  refine ⟨_, ps_expr p hs, fun xo Γ σ H B k h => ?_⟩
  exact g xo Γ σ H _ k (h.bind.imp fun d Γ' H' k' st h' v rv => h' σ H' k' .refl)
theorem ds_doc {x j p3} : DS X W (.Expr (.Constant (.str x) j pos) p3) (ret .nx) := ⟨_, ps_doc, fun xo Γ σ H B k h => h σ H k .refl⟩
theorem ds_if {c : Expr} {A B : List Stmt} {mc : M Bool} (hc : DT X W c mc) (ha : DSs X W A f) (hb : DSs X W B g) : DS X W (.If c A B pos) (ifM mc f g) := by
  obtain ⟨t, p, a⟩ := hc.ex
  obtain ⟨u, q, b⟩ := ha.ex
  obtain ⟨u', q', b'⟩ := hb.ex
  refine ⟨_, ps_if p q q', fun xo Γ σ H B k h => ?_⟩
  refine a xo Γ σ H _ k (h.bind.imp fun c Γ' H' k' st h' => ?_)
  cases c with
  | true => exact iteT (b xo Γ' σ H' _ k' h')
  | false => exact iteF (b' xo Γ' σ H' _ k' h')
/-! names given -/
def stS (i : Nat) (d : D) : M Unit := fun Γ => match Γ[i]? with
  | some (.io _) => .no
  | some _ => .ok () (Γ.set i (.sh d))
  | none => .no
def stO (i : Nat) (d : D) : M Unit := fun Γ => match Γ[i]? with
  | some (.io _) => .no
  | some _ => .ok () (Γ.set i (.ow d))
  | none => .no
/-- a target -/
structure DG (X : Cx) (tg : Expr) (g : D → M Unit) (is : List Nat) : Prop where
  ex : ∃ t : TG, PG X tg t ∧ ∀ (xo : Addr → Prop) (Γ : SEnv) (σ : L2.St) (H : Hp) (v : V) (d : D) (Γ' : SEnv) (Q : L2.St → Hp → Prop), OkS X.K xo Γ σ H → Rep X.K (vw xo Γ σ H) v d → g d Γ = .ok () Γ' →
    (∀ σ', OkS X.K xo Γ' σ' H → Step xo Γ σ H Γ' σ' H → (∀ j, j ∉ is → σ'[j]? = σ[j]?) → Q σ' H) → t v σ H Q
structure DGs (X : Cx) (tgs : List Expr) (g : List D → M Unit) (is : List Nat) : Prop where
  ex : ∃ t : TGs, PGs X tgs t ∧ ∀ (xo : Addr → Prop) (Γ : SEnv) (σ : L2.St) (H : Hp) (vs : List V) (ds : List D) (Γ' : SEnv) (Q : L2.St → Hp → Prop), OkS X.K xo Γ σ H → Reps X.K (vw xo Γ σ H) vs ds → g ds Γ = .ok () Γ' →
    (∀ σ', OkS X.K xo Γ' σ' H → Step xo Γ σ H Γ' σ' H → (∀ j, j ∉ is → σ'[j]? = σ[j]?) → Q σ' H) → t vs σ H Q
theorem stS_ok {i : Nat} {u : Unit} (h : stS i d Γ = .ok u Γ') : (∀ e, Γ[i]? ≠ some (.io e)) ∧ Γ' = Γ.set i (.sh d) := by
  unfold stS at h
  cases e : Γ[i]? with
  | none => rw [e] at h; cases h
  | some s =>
    rw [e] at h
    cases s with
    | io x => cases h
    | _ => cases h; exact ⟨fun y z => (nomatch z), rfl⟩
theorem dg_name {i : Nat} {x : Str} (hp : PG X (.Name x pos) (gName i)) : DG X (.Name x pos) (stS i) [i] := by
  refine ⟨_, hp, fun xo Γ σ H v d Γ' Q k r h hq => ?_⟩
  obtain ⟨h1, rfl⟩ := stS_ok h
  obtain ⟨k', st⟩ := k.setSh h1 r
  exact hq _ k' st fun j hj => List.getElem?_set_ne fun z => hj (by rw [z]; exact List.mem_singleton.mpr rfl)
def unp0 : List D → M Unit := fun ds => match ds with
  | [] => ret ()
  | _ => fun _ => .no
def unp1 (g : D → M Unit) (r : List D → M Unit) : List D → M Unit := fun ds => match ds with
  | [] => fun _ => .no
  | d :: ds => bnd (g d) fun _ => r ds
theorem bnd_ok {α β : Type} {m : M α} {f : α → M β} {b : β} (h : bnd m f Γ = .ok b Γ') : ∃ a Γ1, m Γ = .ok a Γ1 ∧ f a Γ1 = .ok b Γ' := by
  unfold bnd at h
  cases e : m Γ with
  | no => rw [e] at h; cases h
  | er x Γ' => rw [e] at h; cases h
  | ok a Γ1 => rw [e] at h; exact ⟨a, Γ1, rfl, h⟩
theorem dgs_nil : DGs X [] unp0 [] := by
  refine ⟨_, pgs_nil, fun xo Γ σ H vs ds Γ' Q k r h hq => ?_⟩
  cases r with
  | nil => cases h; exact ⟨rfl, hq σ k .refl fun _ _ => rfl⟩
  | cons _ _ => cases h
theorem dgs_cons {tg : Expr} {tgs : List Expr} {g : D → M Unit} {r : List D → M Unit} {is js : List Nat} (h1 : DG X tg g is) (h2 : DGs X tgs r js) (hs : (assignEach (tg :: tgs) X.env).map (·.2) = assign tg X.env :: (assignEach tgs X.env).map (·.2) := by rfl) : DGs X (tg :: tgs) (unp1 g r) (is ++ js) := by
  obtain ⟨t, p, a⟩ := h1.ex
  obtain ⟨u, q, b⟩ := h2.ex
  refine ⟨_, pgs_cons p q hs, fun xo Γ σ H vs ds Γ' Q k rv h hq => ?_⟩
  cases rv with
  | nil => cases h
  | cons r1 r2 =>
    obtain ⟨_, Γ1, e1, e2⟩ := bnd_ok h
    refine ⟨_, _, rfl, a xo Γ σ H _ _ Γ1 _ k r1 e1 fun σ1 k1 s1 f1 => ?_⟩
    exact b xo Γ1 σ1 H _ _ Γ' _ k1 (r2.mono s1.sh) e2 fun σ2 k2 s2 f2 => hq σ2 k2 (s1.trans s2) fun j hj => (f2 j fun z => hj (List.mem_append_right _ z)).trans (f1 j fun z => hj (List.mem_append_left _ z))
def gtM (n : Nat) (r : List D → M Unit) : D → M Unit := fun d => match d with
  | .tup ds => if ds.length = n then r ds else fun _ => .no
  | _ => fun _ => .no
theorem dg_tup {tgs : List Expr} {r : List D → M Unit} {is : List Nat} {j n : Nat} (hc : X.calm = true) (h : DGs X tgs r is) (hn : (assignEach tgs X.env).length = n := by rfl) (hst : (assignEach tgs X.env).findIdx? (·.1) = none := by rfl) : DG X (.Tuple tgs j pos) (gtM n r) is := by
  obtain ⟨t, p, a⟩ := h.ex
  refine ⟨_, pg_tup hc p hn hst, fun xo Γ σ H v d Γ' Q k rv h hq => ?_⟩
  unfold gtM at h
  split at h
  · split at h
    · rename_i hl
      cases rv with
      | tup q1 r1 => exact ⟨_, _, rfl, SqT.un q1, r1.length.trans hl, a xo Γ σ H _ _ Γ' Q k r1 h hq⟩
    · cases h
  · cases h
def asgM (m : M D) (g : D → M Unit) : M Flow := bnd m fun d => bnd (g d) fun _ => ret .nx
theorem asg_end {g : D → M Unit} {t : TG} {is : List Nat} (a : ∀ (xo : Addr → Prop) (Γ : SEnv) (σ : L2.St) (H : Hp) (v : V) (d : D) (Γ' : SEnv) (Q : L2.St → Hp → Prop), OkS X.K xo Γ σ H → Rep X.K (vw xo Γ σ H) v d → g d Γ = .ok () Γ' →
    (∀ σ', OkS X.K xo Γ' σ' H → Step xo Γ σ H Γ' σ' H → (∀ j, j ∉ is → σ'[j]? = σ[j]?) → Q σ' H) → t v σ H Q) {v : V} {B : Ends} (hg : ∀ d Γ x Γ', g d Γ ≠ .er x Γ') (k : OkS X.K xo Γ σ H) (rv : Rep X.K (vw xo Γ σ H) v d)
    (h : SAns X W xo Γ σ H (bnd (g d) (fun _ => ret .nx) Γ) B) : t v σ H B.nx := by
  unfold bnd at h
  cases e : g d Γ with
  | no => rw [e] at h; exact False.elim h
  | er x Γ' => exact absurd e (hg d Γ x Γ')
  | ok u Γ' =>
    rw [e] at h
    exact a xo Γ σ H v d Γ' _ k rv e fun σ' k' st _ => h σ' H k' st
theorem stS_er {i : Nat} : ∀ (d : D) (Γ : SEnv) (x : Exn) (Γ' : SEnv), stS i d Γ ≠ .er x Γ' := fun d Γ x Γ' h => by
  unfold stS at h
  split at h <;> cases h
theorem unp0_er : ∀ (ds : List D) (Γ : SEnv) (x : Exn) (Γ' : SEnv), unp0 ds Γ ≠ .er x Γ' := fun ds Γ x Γ' h => by
  cases ds <;> cases h
theorem unp1_er {g : D → M Unit} {r : List D → M Unit} (h1 : ∀ d Γ x Γ', g d Γ ≠ .er x Γ') (h2 : ∀ ds Γ x Γ', r ds Γ ≠ .er x Γ') : ∀ (ds : List D) (Γ : SEnv) (x : Exn) (Γ' : SEnv), unp1 g r ds Γ ≠ .er x Γ' := fun ds Γ x Γ' h => by
  cases ds with
  | nil => cases h
  | cons d ds =>
    unfold unp1 bnd at h
    cases e : g d Γ with
    | no => simp only [e] at h; cases h
    | er x Γ' => exact h1 _ _ _ _ e
    | ok u Γ1 => simp only [e] at h; exact h2 _ _ _ _ h
theorem gtM_er {n : Nat} {r : List D → M Unit} (h2 : ∀ ds Γ x Γ', r ds Γ ≠ .er x Γ') : ∀ (d : D) (Γ : SEnv) (x : Exn) (Γ' : SEnv), gtM n r d Γ ≠ .er x Γ' := fun d Γ x Γ' h => by
  unfold gtM at h
  split at h
  · split at h
    · exact h2 _ _ _ _ h
    · cases h
  · cases h
theorem set_end {i : Nat} {t : TE} (ps : PS X st (tAsg t (gName i))) (g : ∀ (xo : Addr → Prop) (Γ : SEnv) (σ : L2.St) (H : Hp) (Q : VK), OkS X.K xo Γ σ H → VAns X W xo Γ σ H (m Γ) Q → t σ H Q) : DS X W st (asgM m (stS i)) := by
  refine ⟨_, ps, fun xo Γ σ H B k h => ?_⟩
  refine g xo Γ σ H _ k (h.bind.imp fun d Γ' H' k' st h' v rv => ?_)
  exact asg_end (t := gName i) (is := [i]) (fun xo Γ σ H v d Γ' Q k r h hq => by
    obtain ⟨h1, rfl⟩ := stS_ok h
    obtain ⟨k', st⟩ := k.setSh h1 r
    exact hq _ k' st fun j hj => List.getElem?_set_ne fun z => hj (by rw [z]; exact List.mem_singleton.mpr rfl)) stS_er k' rv h'
theorem ds_set {i : Nat} {x : Str} {p3 : Pos} (he : DE X W e m) (hp : ∀ t, PE X e t → PS X (.Assign [.Name x p3] e pos) (tAsg t (gName i))) : DS X W (.Assign [.Name x p3] e pos) (asgM m (stS i)) := by
  obtain ⟨t, p, g⟩ := he.ex
  exact set_end (hp t p) g
theorem ds_asg {tg : Expr} {g : D → M Unit} {is : List Nat} (he : DE X W e m) (hg : DG X tg g is) (her : ∀ d Γ x Γ', g d Γ ≠ .er x Γ') (hs : swapsWithSole [tg] e pos.line X.env = pure false := by rfl) (hw : swappedStores [tg] e X.env = pure none := by rfl)
    (h1 : (assignEach [tg] X.env).map (·.2) = [assign tg X.env] := by rfl) : DS X W (.Assign [tg] e pos) (asgM m g) := by
  obtain ⟨t, p, a⟩ := he.ex
  obtain ⟨u, q, b⟩ := hg.ex
  refine ⟨_, ps_asg p q hs hw h1, fun xo Γ σ H B k h => ?_⟩
  exact a xo Γ σ H _ k (h.bind.imp fun d Γ' H' k' st h' v rv => asg_end b her k' rv h')
/-- a new object, kept by the name alone -/
theorem own_end {i : Nat} {t : TE} (ps : PS X st (tAsg t (gName i))) (g : ∀ (xo : Addr → Prop) (Γ : SEnv) (σ : L2.St) (H : Hp) (Q : VK), OkS X.K xo Γ σ H → NAns X W xo Γ σ H (m Γ) Q → t σ H Q) : DS X W st (asgM m (stO i)) := by
  refine ⟨_, ps, fun xo Γ σ H B k h => ?_⟩
  refine g xo Γ σ H _ k ?_
  unfold asgM bnd at h
  cases e : m Γ with
  | no => rw [e] at h; exact False.elim h
  | er x Γ' => rw [e] at h; exact fun cls dx H' k st q => h cls dx σ H' k st q
  | ok d Γ' =>
    rw [e] at h
    intro p H' k' st c
    simp only at h
    cases e2 : Γ'[i]? with
    | none => unfold stO at h; rw [e2] at h; exact False.elim h
    | some s =>
      have hio : (∀ y, Γ'[i]? ≠ some (.io y)) ∧ stO i d Γ' = .ok () (Γ'.set i (.ow d)) := by
        unfold stO at h ⊢
        rw [e2] at h ⊢
        cases s with
        | io y => exact False.elim h
        | _ => exact ⟨fun y z => (nomatch z), rfl⟩
      rw [hio.2] at h
      obtain ⟨k2, ex⟩ := k'.setOw st.nx hio.1 (List.getElem?_eq_some_iff.mp e2).1 c
      refine h _ H' k2 ⟨fun a o q => ex a o (st.sh a o q), st.xk, fun j y q => ?_, by rw [List.length_set]; exact st.len⟩
      obtain ⟨g1, y', g2⟩ := st.io j y q
      have ne : i ≠ j := fun z => hio.1 y' (z ▸ g2)
      rw [List.getElem?_set_ne ne, List.getElem?_set_ne ne]
      exact ⟨g1, y', g2⟩
theorem ds_own {i : Nat} {x : Str} {p3 : Pos} (he : DF X W e m) (hp : ∀ t, PE X e t → PS X (.Assign [.Name x p3] e pos) (tAsg t (gName i))) : DS X W (.Assign [.Name x p3] e pos) (asgM m (stO i)) := by
  obtain ⟨t, p, g⟩ := he.ex
  exact own_end (hp t p) g
end
end DL
set_option Elab.async false
set_option linter.all false
set_option maxRecDepth 100000
set_option maxHeartbeats 2000000
set_option autoImplicit false
namespace DL
open PySem L2
section
variable {X : Cx} {W : WX}
/-! ### a value (false) or a new object (true), both in one -/
def xoM (md : Bool) (xo : Addr → Prop) (v : V) : Addr → Prop := fun a => xo a ∨ (md = true ∧ v = .ref a)
def Evd (K : PySem.W.Frag) (S H : Hp) (md : Bool) (v : V) (d : D) : Prop := if md = true then ∃ p, v = .ref p ∧ Cell K S H p d else Rep K S v d
structure StepM (md : Bool) (xo : Addr → Prop) (Γ : SEnv) (σ : L2.St) (H : Hp) (v : V) (Γ' : SEnv) (H' : Hp) : Prop where
  sh : Ex (vw xo Γ σ H) (vw (xoM md xo v) Γ' σ H')
  xk : ∀ a o, xo a → H a = some o → H' a = some o
  io : ∀ (i : Nat) (d : D), Γ[i]? = some (.io d) → ∃ d', Γ'[i]? = some (.io d')
  len : Γ'.length = Γ.length
  nx : md = true → ∀ p, v = .ref p → ¬ Hd xo Γ' σ p
def MAns (X : Cx) (W : WX) (md : Bool) (xo : Addr → Prop) (Γ : SEnv) (σ : L2.St) (H : Hp) (r : Res D) (Q : VK) : Prop :=
  match r with
  | .ok d Γ' => ∀ v H', OkS X.K (xoM md xo v) Γ' σ H' → StepM md xo Γ σ H v Γ' H' → Evd X.K (vw (xoM md xo v) Γ' σ H') H' md v d → Q v H'
  | .er x Γ' => ∀ (cls : Value) (dx : Option Addr) (H' : Hp), OkS X.K xo Γ' σ H' → Step xo Γ σ H Γ' σ H' → XRep X.K X.mg (vw xo Γ' σ H') cls dx x → W cls dx σ H'
  | .no => False
structure DX (X : Cx) (W : WX) (md : Bool) (e : Expr) (m : M D) : Prop where
  ex : ∃ t : TE, PE X e t ∧ ∀ (xo : Addr → Prop) (Γ : SEnv) (σ : L2.St) (H : Hp) (Q : VK), OkS X.K xo Γ σ H → MAns X W md xo Γ σ H (m Γ) Q → t σ H Q
theorem xoM_false {xo : Addr → Prop} {v : V} : xoM false xo v = xo := by
  funext a
  exact propext ⟨fun z => z.elim id fun y => absurd y.1 Bool.false_ne_true, .inl⟩
theorem xoM_true {xo : Addr → Prop} {p : Addr} : xoM true xo (.ref p) = xo1 xo p := by
  funext a
  refine propext ⟨fun z => z.elim .inl fun y => .inr ?_, fun z => z.elim .inl fun y => .inr ⟨rfl, by rw [y]⟩⟩
  have := y.2
  injection this with q
  exact q.symm
variable {e a b c : Expr} {m ma mb mc : M D} {pos p1 p2 p3 : Pos}
theorem dx_sh (h : DE X W e m) : DX X W false e m := by
  obtain ⟨t, p, g⟩ := h.ex
  refine ⟨t, p, fun xo Γ σ H Q k h => g xo Γ σ H Q k ?_⟩
  cases e1 : m Γ with
  | no => rw [e1] at h; exact h
  | er x Γ' => rw [e1] at h; exact h
  | ok d Γ' =>
    rw [e1] at h
    intro H' k' st v rv
    have h := h v H'
    rw [xoM_false] at h
    exact h k' ⟨by rw [xoM_false]; exact st.sh, st.xk, fun i d q => (st.io i d q).2, st.len, fun z => absurd z Bool.false_ne_true⟩ rv
theorem dx_ow (h : DF X W e m) : DX X W true e m := by
  obtain ⟨t, p, g⟩ := h.ex
  refine ⟨t, p, fun xo Γ σ H Q k h => g xo Γ σ H Q k ?_⟩
  cases e1 : m Γ with
  | no => rw [e1] at h; exact h
  | er x Γ' => rw [e1] at h; exact h
  | ok d Γ' =>
    rw [e1] at h
    intro p H' k' st c
    have h := h (.ref p) H'
    rw [xoM_true] at h
    exact h k' ⟨by rw [xoM_true]; exact st.sh, st.xk, fun i d q => (st.io i d q).2, st.len, fun _ q e => by cases e; exact st.nx⟩ ⟨p, rfl, c⟩
def mkS (md : Bool) (d : D) : Sl := if md = true then .ow d else .sh d
def stM (md : Bool) (i : Nat) (d : D) : M Unit := fun Γ => match Γ[i]? with
  | some (.io _) => .no
  | some _ => .ok () (Γ.set i (mkS md d))
  | none => .no
theorem stM_ok {md : Bool} {i : Nat} {d : D} {u : Unit} {Γ Γ' : SEnv} (h : stM md i d Γ = .ok u Γ') : (∀ e, Γ[i]? ≠ some (.io e)) ∧ i < Γ.length ∧ Γ' = Γ.set i (mkS md d) := by
  unfold stM at h
  cases e : Γ[i]? with
  | none => rw [e] at h; cases h
  | some s =>
    have hl := (List.getElem?_eq_some_iff.mp e).1
    rw [e] at h
    cases s with
    | io x => cases h
    | _ => cases h; exact ⟨fun y z => (nomatch z), hl, rfl⟩
variable {xo : Addr → Prop} {Γ Γ' Γ1 Γ2 : SEnv} {σ σ' : L2.St} {H H' H1 H2 : Hp} {v w : V} {d : D} {md : Bool} {i : Nat}
theorem OkS.give (k : OkS X.K (xoM md xo v) Γ σ H) (hn : md = true → ∀ p, v = .ref p → ¬ Hd xo Γ σ p) (hi : ∀ d, Γ[i]? ≠ some (.io d)) (hl : i < Γ.length) (ev : Evd X.K (vw (xoM md xo v) Γ σ H) H md v d) :
    OkS X.K xo (Γ.set i (mkS md d)) (σ.set i (some v)) H ∧ Ex (vw (xoM md xo v) Γ σ H) (vw xo (Γ.set i (mkS md d)) (σ.set i (some v)) H) := by
  cases md with
  | false =>
    rw [xoM_false] at k ev ⊢
    obtain ⟨k', st⟩ := k.setSh hi ev
    exact ⟨k', st.sh⟩
  | true =>
    obtain ⟨p, rfl, c⟩ := ev
    rw [xoM_true] at k c ⊢
    exact k.setOw (hn rfl p rfl) hi hl c
/-- what was reckoned stays so -/
theorem Evd.on {K : PySem.W.Frag} {S S' : Hp} (ev : Evd K S H md v d) (es : Ex S S') (hk : md = true → ∀ p o, v = .ref p → H p = some o → H' p = some o) : Evd K S' H' md v d := by
  cases md with
  | false => exact Rep.mono es ev
  | true =>
    obtain ⟨p, rfl, c⟩ := ev
    obtain ⟨o, ho⟩ := c.there
    exact ⟨p, rfl, c.mono es ((hk rfl p o rfl ho).trans ho.symm)⟩
theorem MAns.bind {f : D → M Flow} {B : Ends} {md : Bool} (a : SAns X W xo Γ σ H (bnd m f Γ) B) :
    MAns X W md xo Γ σ H (m Γ) (fun v H1 => ∃ d Γ1, OkS X.K (xoM md xo v) Γ1 σ H1 ∧ StepM md xo Γ σ H v Γ1 H1 ∧ Evd X.K (vw (xoM md xo v) Γ1 σ H1) H1 md v d ∧ m Γ = .ok d Γ1) := by
  unfold bnd at a
  cases e : m Γ with
  | no => rw [e] at a; exact False.elim a
  | er x Γ' => rw [e] at a; exact fun cls dx H' k st q => a cls dx σ H' k st q
  | ok d Γ' => exact fun v H' k st ev => ⟨d, Γ', k, st, ev, rfl⟩
/-! two names, three names at once -/
def par2 (n1 n2 : Bool) (i j : Nat) (ma mb : M D) : M Flow := bnd ma fun a => bnd mb fun b => bnd (stM n2 j b) fun _ => bnd (stM n1 i a) fun _ => ret .nx
theorem io_keep {md : Bool} {i : Nat} {d : D} (h : ∀ (j : Nat) (d : D), Γ[j]? = some (.io d) → ∃ d', Γ'[j]? = some (.io d')) (hi : ∀ e, Γ'[i]? ≠ some (.io e)) : ∀ (j : Nat) (x : D), Γ[j]? = some (.io x) → ∃ d', (Γ'.set i (mkS md d))[j]? = some (.io d') ∧ i ≠ j := fun j x q => by
  obtain ⟨d', h'⟩ := h j x q
  have ne : i ≠ j := fun z => hi d' (z ▸ h')
  exact ⟨d', by rw [List.getElem?_set_ne ne]; exact h', ne⟩
theorem ds_par2 {n1 n2 : Bool} {i j : Nat} {tgs : List Expr} {ve : Expr} (ha : DX X W n1 a ma) (hb : DX X W n2 b mb)
    (hp : ∀ ta tb, PE X a ta → PE X b tb → PS X (.Assign tgs ve pos) (tPar i j (tCons ta (tCons tb tNil)))) (hij : i ≠ j) : DS X W (.Assign tgs ve pos) (par2 n1 n2 i j ma mb) := by
  obtain ⟨ta, pa, ga⟩ := ha.ex
  obtain ⟨tb, pb, gb⟩ := hb.ex
  refine ⟨_, hp ta tb pa pb, fun xo Γ σ H B k h => ?_⟩
  have hA := MAns.bind (md := n1) h
  refine ga xo Γ σ H _ k ?_
  cases e1 : ma Γ with
  | no => rw [e1] at hA; exact hA
  | er x Γ' => rw [e1] at hA; exact hA
  | ok da Γ1 =>
    intro v H1 k1 s1 ev1
    refine gb (xoM n1 xo v) Γ1 σ H1 _ k1 ?_
    have h1 : SAns X W xo Γ σ H ((bnd mb fun b => bnd (stM n2 j b) fun _ => bnd (stM n1 i da) fun _ => ret Flow.nx) Γ1) B := by
      unfold par2 at h
      unfold bnd at h
      rw [e1] at h
      exact h
    unfold bnd at h1
    cases e2 : mb Γ1 with
    | no => rw [e2] at h1; exact h1
    | er x Γ' =>
      rw [e2] at h1
      intro cls dx H' k' st xr
      refine h1 cls dx σ H' (k'.less fun a => .inl) ⟨fun a o q => hid_le (fun a z => z.elim (fun y => .inl (.inl y)) .inr) a o (st.sh a o (s1.sh a o q)), fun a o q hq => st.xk a o (.inl q) (s1.xk a o q hq), fun j d q => ?_, st.len.trans s1.len⟩ ?_
      · obtain ⟨d', q'⟩ := s1.io j d q
        exact st.io j d' q'
      · obtain ⟨C, d, v', g1, g2, g3, g4, g5⟩ := xr
        have es : Ex (vw (xoM n1 xo v) Γ' σ H') (vw xo Γ' σ H') := hid_le fun a z => z.elim (fun y => .inl (.inl y)) .inr
        exact ⟨C, d, v', g1, g2, g3, es _ _ g4, g5.mono es⟩
    | ok db Γ2 =>
      rw [e2] at h1
      intro w H2 k2 s2 ev2
      simp only at h1
      cases e3 : stM n2 j db Γ2 with
      | no => simp only [e3] at h1; exact False.elim h1
      | er x Γ' => unfold stM at e3; split at e3 <;> cases e3
      | ok u Γ3 =>
        simp only [e3] at h1
        obtain ⟨i3, l3, rfl⟩ := stM_ok e3
        cases e4 : stM n1 i da (Γ2.set j (mkS n2 db)) with
        | no => simp only [e4] at h1; exact False.elim h1
        | er x Γ' => unfold stM at e4; split at e4 <;> cases e4
        | ok u Γ4 =>
          simp only [e4] at h1
          obtain ⟨i4, l4, rfl⟩ := stM_ok e4
          obtain ⟨k3, x3⟩ := k2.give s2.nx i3 l3 ev2
          have ev1' := ev1.on s2.sh fun z p o hv ho => s2.xk p o (.inr ⟨z, hv⟩) ho
          have ev1'' := Evd.on (H' := H2) ev1' x3 fun _ p o _ ho => ho
          have n4 : n1 = true → ∀ p, v = .ref p → ¬ Hd xo (Γ2.set j (mkS n2 db)) (σ.set j (some w)) p := fun z p hv q => by
            rcases q with q | ⟨l, s, d, q1, q2, q3⟩
            · exact s1.nx z p hv (.inl q)
            · exact k3.xd l s d p q1 q2 q3 (.inr ⟨z, hv⟩)
          obtain ⟨k4, x4⟩ := k3.give n4 i4 l4 ev1''
          refine ⟨v, w, rfl, ?_⟩
          rw [List.set_comm _ _ hij]
          refine h1 _ H2 k4 ⟨fun a o q => x4 a o (x3 a o (s2.sh a o (s1.sh a o q))), fun a o q hq => s2.xk a o (.inl q) (s1.xk a o q hq), fun l x q => ?_, by rw [List.length_set, List.length_set]; exact s2.len.trans s1.len⟩
          obtain ⟨x1, q1⟩ := s1.io l x q
          obtain ⟨x2, q2, ne2⟩ := io_keep (md := n2) (d := db) s2.io i3 l x1 q1
          obtain ⟨x3, q3, ne3⟩ := io_keep (Γ := Γ2.set j (mkS n2 db)) (Γ' := Γ2.set j (mkS n2 db)) (md := n1) (d := da) (fun _ d q => ⟨d, q⟩) i4 l x2 q2
          exact ⟨by rw [List.getElem?_set_ne ne3, List.getElem?_set_ne ne2], x3, q3⟩
end
end DL
set_option Elab.async false
set_option linter.all false
set_option maxRecDepth 100000
set_option maxHeartbeats 2000000
set_option autoImplicit false
namespace DL
open PySem L2
section
variable {X : Cx} {W : WX}
/-! ### what is walked -/
structure ItR (K : PySem.W.Frag) (S : Hp) (J : It) (ds : List D) : Prop where
  go : ∀ (O : Addr → Prop) (H : Hp), (∀ a, O a → ∃ o, H a = some o) → Ex S (hid O H) → ∀ i d, ds[i]? = some d → J.go i H ∧ ∀ x H2, J.yld i H x H2 → Ex H H2 ∧ Rep K (hid O H2) x d
  stop : ∀ (O : Addr → Prop) (H : Hp), Ex S (hid O H) → ∀ i, ds.length ≤ i → J.stop i H
structure DI (X : Cx) (W : WX) (tg iter : Expr) (m : M (List D)) : Prop where
  ex : ∃ wi : TI, PI X tg iter wi ∧ ∀ (xo : Addr → Prop) (Γ : SEnv) (σ : L2.St) (H : Hp) (R : It → Hp → Prop), OkS X.K xo Γ σ H →
    Ans X W xo Γ σ H (m Γ) (fun ds Γ' H' => ∀ J, ItR X.K (vw xo Γ' σ H') J ds → R J H') → wi σ H R
theorem pi_or {tg iter : Expr} {w1 w2 : TI} (h1 : PI X tg iter w1) (h2 : PI X tg iter w2) : PI X tg iter (fun σ H R => w1 σ H R ∨ w2 σ H R) :=
  ⟨fun pins s σ H R I h => h.elim (h1.run pins s σ H R I) (h2.run pins s σ H R I)⟩
def strDs (z : Str) : List D := z.cps.toList.map fun c => .str ⟨#[c]⟩
def D.seqs : D → Option (List D)
  | .lst ds => some ds
  | .tup ds => some ds
  | .scr ns => some (ns.map D.int)
  | .str z => some (strDs z)
  | _ => none
def seqM (m : M D) : M (List D) := bnd m fun d => opt d.seqs
variable {e a b c tg : Expr} {m ma mb mc : M D} {pos p p2 : Pos}
theorem itr_list {K : PySem.W.Frag} {S : Hp} {a : Addr} {xs : List V} {ds : List D} (h : SqL K S a xs) (r : Reps K S xs ds) : ItR K S (Itl K a) ds where
  go := fun O H hO e i d hd => by
    have q : SqL K H a xs := SqL.un (Evl.ex_l e h)
    obtain ⟨v, hv, rv⟩ := r.get hd
    exact ⟨⟨xs, v, q, hv⟩, fun x H2 ⟨e2, y⟩ => by
      subst e2
      have z := y xs q
      rw [hv] at z
      cases z
      exact ⟨fun _ _ h => h, rv.mono e⟩⟩
  stop := fun O H e i hi => ⟨xs, SqL.un (Evl.ex_l e h), by rw [r.length]; exact hi⟩
theorem itr_tup {K : PySem.W.Frag} {S : Hp} {a : Addr} {xs : List V} {ds : List D} (h : SqT K S a xs) (r : Reps K S xs ds) : ItR K S (Itt K a) ds where
  go := fun O H hO e i d hd => by
    have q : SqT K H a xs := SqT.un (Evl.ex_t e h)
    obtain ⟨v, hv, rv⟩ := r.get hd
    exact ⟨⟨xs, v, q, hv⟩, fun x H2 ⟨e2, y⟩ => by
      subst e2
      have z := y xs q
      rw [hv] at z
      cases z
      exact ⟨fun _ _ h => h, rv.mono e⟩⟩
  stop := fun O H e i hi => ⟨xs, SqT.un (Evl.ex_t e h), by rw [r.length]; exact hi⟩
theorem itr_str {K : PySem.W.Frag} {S : Hp} {z : Str} : ItR K S (Its z) (strDs z) where
  go := fun O H hO e i d hd => by
    unfold strDs at hd
    rw [List.getElem?_map, Option.map_eq_some_iff] at hd
    obtain ⟨c, hc, rfl⟩ := hd
    have hi : i < z.cps.size := by simpa using (List.getElem?_eq_some_iff.mp hc).1
    exact ⟨hi, fun x H2 ⟨e2, c', h1, h2⟩ => by
      subst e2 h2
      have : z.cps[i]? = some c := by simpa using hc
      rw [this] at h1
      cases h1
      exact ⟨fun _ _ h => h, .str _⟩⟩
  stop := fun O H e i hi => by
    show z.cps.size ≤ i
    simpa [strDs] using hi
theorem di_seq (h : DE X W e m) : DI X W tg e (seqM m) := by
  obtain ⟨t, q, g⟩ := h.ex
  refine ⟨_, pi_or (pi_list q) (pi_or (pi_tup q) (pi_str q)), fun xo Γ σ H R k a => ?_⟩
  have b := Ans.bind a
  cases e1 : m Γ with
  | no => rw [e1] at b; exact False.elim b
  | er x Γ' => exact .inl (g xo Γ σ H _ k (by rw [e1] at b; unfold VAns; rw [e1]; exact b))
  | ok d Γ' =>
    rw [e1] at b
    have hs : ∃ ds, d.seqs = some ds := by
      unfold seqM bnd at a
      rw [e1] at a
      cases z : d.seqs with
      | none => simp only [z] at a; exact False.elim a
      | some ds => exact ⟨ds, rfl⟩
    obtain ⟨ds, hs⟩ := hs
    have fin : ∀ H', OkS X.K xo Γ' σ H' → Step xo Γ σ H Γ' σ H' → ∀ J, ItR X.K (vw xo Γ' σ H') J ds → R J H' := fun H' k' st J hJ => by
      obtain ⟨es, he, b2⟩ := Ans.opt (b H' k' st)
      rw [hs] at he
      cases he
      exact b2 H' k' .refl J hJ
    have hs0 := hs
    unfold D.seqs at hs
    split at hs
    · cases hs
      refine .inl (g xo Γ σ H _ k ?_)
      rw [e1]
      intro H' k' st v rv
      cases rv with
      | lst q1 r1 => exact ⟨_, rfl, ⟨_, SqL.of (hid_un q1)⟩, fin H' k' st _ (itr_list (SqL.of q1) r1)⟩
    · cases hs
      refine .inr (.inl (g xo Γ σ H _ k ?_))
      rw [e1]
      intro H' k' st v rv
      cases rv with
      | tup q1 r1 => exact ⟨_, rfl, ⟨_, SqT.un q1⟩, fin H' k' st _ (itr_tup q1 r1)⟩
    · cases hs
      refine .inl (g xo Γ σ H _ k ?_)
      rw [e1]
      intro H' k' st v rv
      cases rv with
      | scr q1 => exact ⟨_, rfl, ⟨_, SqL.un q1⟩, fin H' k' st _ (itr_list q1 (Reps.of_ints _))⟩
    · cases hs
      refine .inr (.inr (g xo Γ σ H _ k ?_))
      rw [e1]
      intro H' k' st v rv
      cases rv
      exact ⟨_, rfl, fin H' k' st _ itr_str⟩
    · cases hs
/-! ranges -/
def rng (lo c : Int) (n : Nat) : List D := (List.range n).map fun (i : Nat) => D.int (lo + (i : Int) * c)
theorem rng_get {lo c : Int} {n i : Nat} {d : D} (h : (rng lo c n)[i]? = some d) : i < n ∧ d = .int (lo + (i : Int) * c) := by
  unfold rng at h
  rw [List.getElem?_map, Option.map_eq_some_iff] at h
  obtain ⟨j, hj, rfl⟩ := h
  have hl := (List.getElem?_eq_some_iff.mp hj).1
  rw [List.length_range] at hl
  rw [List.getElem?_range hl] at hj
  cases hj
  exact ⟨hl, rfl⟩
theorem rng_len {lo c : Int} {n : Nat} : (rng lo c n).length = n := by unfold rng; rw [List.length_map, List.length_range]
theorem itr_range {K : PySem.W.Frag} {S : Hp} {lo : Int} {n : Nat} : ItR K S (Itr lo n) (rng lo 1 n) where
  go := fun O H hO e i d hd => by
    obtain ⟨hi, rfl⟩ := rng_get hd
    exact ⟨hi, fun x H2 ⟨e2, h⟩ => by subst e2 h; rw [Int.mul_one]; exact ⟨fun _ _ h => h, .int _⟩⟩
  stop := fun O H e i hi => by rw [rng_len] at hi; exact hi
theorem itr_rangeC {K : PySem.W.Frag} {S : Hp} {lo c : Int} {n : Nat} : ItR K S (Itc lo c n) (rng lo c n) where
  go := fun O H hO e i d hd => by
    obtain ⟨hi, rfl⟩ := rng_get hd
    exact ⟨hi, fun x H2 ⟨e2, h⟩ => by subst e2 h; exact ⟨fun _ _ h => h, .int _⟩⟩
  stop := fun O H e i hi => by rw [rng_len] at hi; exact hi
def small62 (i : Int) : Bool := decide (-(2 ^ 62) ≤ i ∧ i < 2 ^ 62)
/-- range(..): its ints -/
def D.rangeOf : List D → Option (List D)
  | [.int j] => if small62 j = true then some (rng 0 1 j.toNat) else none
  | [.int i, .int j] => if (small62 i && small62 j) = true then some (rng i 1 (j - i).toNat) else none
  | [.int i, .int j, .int c] => if (small62 i && small62 j && decide (c ≠ 0 ∧ c.natAbs < 1073741824)) = true then
      if (Builtin.Range.small i j c && decide (0 ≤ Builtin.Range.rangeSize i j c)) = true then some (rng i c (Builtin.Range.rangeSize i j c).toNat) else none else none
  | _ => none
def rangeM (ma : M (List D)) : M (List D) := bnd ma fun ds => opt (D.rangeOf ds)
theorem small_of {i : Int} (h : small62 i = true) : -(2 ^ 62) ≤ i ∧ i < 2 ^ 62 := of_decide_eq_true h
variable {mr : M (List D)}
theorem di_range1 (hg : Gl X "range") (hm : X.mg "range" = none) (h : DA X W [a] mr) (hs : starEach [a] X.env = [(false, eval a X.env)] := by rfl) (hl : ∀ Γ ds Γ', mr Γ = .ok ds Γ' → ds.length = 1) : DI X W tg (.Call (.Name "range" p) [a] [] pos) (rangeM mr) := by
  obtain ⟨t, q, g⟩ := h.ex
  refine ⟨_, pi_range1 hg hm q hs, fun xo Γ σ H R k h => ?_⟩
  have b := Ans.bind h
  refine g xo Γ σ H _ k ?_
  cases e1 : mr Γ with
  | no => rw [e1] at b; exact b
  | er x Γ' => rw [e1] at b; exact b
  | ok ds Γ' =>
    rw [e1] at b
    intro H' k' st vs r
    obtain ⟨es, he, b2⟩ := Ans.opt (b H' k' st)
    have hl := hl Γ ds Γ' e1
    match ds, hl, r with
    | [d], _, r =>
      unfold D.rangeOf at he
      split at he
      · rename_i heq
        cases heq
        split at he
        · rename_i hz
          cases he
          cases r with
          | cons r1 r2 =>
            cases r1
            cases r2
            exact ⟨_, rfl, (small_of hz).1, (small_of hz).2, b2 H' k' .refl _ itr_range⟩
        · cases he
      · rename_i heq; cases heq
      · rename_i heq; cases heq
      · cases he
theorem di_range2 (hg : Gl X "range") (hm : X.mg "range" = none) (h : DA X W [a, b] mr) (hl : ∀ Γ ds Γ', mr Γ = .ok ds Γ' → ds.length = 2) (hs : starEach [a, b] X.env = [(false, eval a X.env), (false, eval b X.env)] := by rfl) (hs2 : starEach [b] X.env = [(false, eval b X.env)] := by rfl) : DI X W tg (.Call (.Name "range" p) [a, b] [] pos) (rangeM mr) := by
  obtain ⟨t, q, g⟩ := h.ex
  refine ⟨_, pi_range2 hg hm q hs hs2, fun xo Γ σ H R k h => ?_⟩
  have b := Ans.bind h
  refine g xo Γ σ H _ k ?_
  cases e1 : mr Γ with
  | no => rw [e1] at b; exact b
  | er x Γ' => rw [e1] at b; exact b
  | ok ds Γ' =>
    rw [e1] at b
    intro H' k' st vs r
    obtain ⟨es, he, b2⟩ := Ans.opt (b H' k' st)
    have hl := hl Γ ds Γ' e1
    match ds, hl, r with
    | [d1, d2], _, r =>
      unfold D.rangeOf at he
      split at he
      · rename_i heq; cases heq
      · rename_i heq
        cases heq
        split at he
        · rename_i hz
          rw [Bool.and_eq_true] at hz
          cases he
          cases r with
          | cons r1 r2 =>
            cases r1
            cases r2 with
            | cons r2 r3 =>
              cases r2
              cases r3
              exact ⟨_, _, rfl, ⟨(small_of hz.1).1, (small_of hz.1).2, (small_of hz.2).1, (small_of hz.2).2⟩, b2 H' k' .refl _ itr_range⟩
        · cases he
      · rename_i heq; cases heq
      · cases he
theorem di_range3 (hg : Gl X "range") (hm : X.mg "range" = none) (h : DA X W [a, b, c] mr) (hl : ∀ Γ ds Γ', mr Γ = .ok ds Γ' → ds.length = 3) (hs : starEach [a, b, c] X.env = (false, eval a X.env) :: starEach [b, c] X.env := by rfl) (hpl : (backTo pos (starEach [b, c] X.env)).any (·.1) = false := by rfl) : DI X W tg (.Call (.Name "range" p) [a, b, c] [] pos) (rangeM mr) := by
  obtain ⟨t, q, g⟩ := h.ex
  refine ⟨_, pi_range3 hg hm q hs hpl, fun xo Γ σ H R k h => ?_⟩
  have b := Ans.bind h
  refine g xo Γ σ H _ k ?_
  cases e1 : mr Γ with
  | no => rw [e1] at b; exact b
  | er x Γ' => rw [e1] at b; exact b
  | ok ds Γ' =>
    rw [e1] at b
    intro H' k' st vs r
    obtain ⟨es, he, b2⟩ := Ans.opt (b H' k' st)
    have hl := hl Γ ds Γ' e1
    match ds, hl, r with
    | [d1, d2, d3], _, r =>
      unfold D.rangeOf at he
      split at he
      · rename_i heq; cases heq
      · rename_i heq; cases heq
      · rename_i heq
        cases heq
        split at he
        · rename_i hz
          split at he
          · rename_i hy
            rw [Bool.and_eq_true, Bool.and_eq_true] at hz
            rw [Bool.and_eq_true] at hy
            cases he
            cases r with
            | cons r1 r2 =>
              cases r1
              cases r2 with
              | cons r2 r3 =>
                cases r2
                cases r3 with
                | cons r3 r4 =>
                  cases r3
                  cases r4
                  have hc := of_decide_eq_true hz.2
                  exact ⟨_, _, _, _, rfl, ⟨hc.1, hc.2, hy.1, (Int.toNat_of_nonneg (of_decide_eq_true hy.2)).symm⟩, b2 H' k' .refl _ itr_rangeC⟩
          · cases he
        · cases he
      · cases he
end
end DL
set_option Elab.async false
set_option linter.all false
set_option maxRecDepth 100000
set_option maxHeartbeats 2000000
set_option autoImplicit false
namespace DL
open PySem L2
section
variable {X : Cx} {W : WX}
/-! ### for -/
def forL (g : D → M Unit) (body : M Flow) : List D → M Flow
  | [] => ret .nx
  | d :: ds => bnd (g d) fun _ => bnd body fun f => match f with
    | .nx => forL g body ds
    | .ct => forL g body ds
    | .bk => ret .nx
    | .rt d => ret (.rt d)
def forM (mi : M (List D)) (g : D → M Unit) (body : M Flow) : M Flow := bnd mi fun ds => forL g body ds
variable {e a b c tg iter : Expr} {body : List Stmt} {mi : M (List D)} {g : D → M Unit} {is : List Nat} {mb : M Flow} {pos : Pos} {xo : Addr → Prop} {Γ Γ' Γ1 Γ2 : SEnv} {σ σ' σ1 σ2 : L2.St} {H H' H1 H2 : Hp}
theorem drop_of {α : Type} {ds : List α} {i : Nat} {d : α} (h : ds[i]? = some d) : ds.drop i = d :: ds.drop (i + 1) := by
  obtain ⟨hl, e⟩ := List.getElem?_eq_some_iff.mp h
  rw [List.drop_eq_getElem_cons hl, e]
theorem ds_for (hp : PassesOwn (model X.prog X.w) X.A X.env X.xe) (hc : X.calm = true) (hi : DI X W tg iter mi) (hg : DG X tg g is) (her : ∀ d Γ x Γ', g d Γ ≠ .er x Γ') (hb : DSs X W body mb) (hs : ∀ x, foldedSetIterable iter X.env x = pure x := by intro _; rfl) :
    DS X W (.For tg iter body [] pos) (forM mi g mb) := by
  obtain ⟨wi, pw, gi⟩ := hi.ex
  obtain ⟨tg', pg, gg⟩ := hg.ex
  obtain ⟨tb, pb, gb⟩ := hb.ex
  refine ⟨_, ps_for hp hc pw pg pb hs, fun xo Γ σ H B k h => ?_⟩
  refine gi xo Γ σ H _ k (h.bind.imp fun ds Γ1 H1 k1 s1 h1 J hJ => ?_)
  refine ⟨fun i m σ2 H2 => m = ds.length - i ∧ i ≤ ds.length ∧ ∃ Γ2, OkS X.K xo Γ2 σ2 H2 ∧ Step xo Γ1 σ H1 Γ2 σ2 H2 ∧ SAns X W xo Γ2 σ2 H2 (forL g mb (ds.drop i) Γ2) B, ⟨ds.length, rfl, Nat.zero_le _, Γ1, k1, .refl, h1⟩, ?_⟩
  rintro i m σ2 H2 ⟨rfl, hi, Γ2, k2, s2, h2⟩
  by_cases hlt : i < ds.length
  · have hd : ds[i]? = some ds[i] := List.getElem?_eq_getElem hlt
    rw [drop_of hd] at h2
    obtain ⟨go, yl⟩ := hJ.go (Hd xo Γ2 σ2) H2 (fun a q => k2.hd_there q) s2.sh i _ hd
    refine .inr ⟨go, fun σ3 H3 => (∃ Γ3, OkS X.K xo Γ3 σ3 H3 ∧ Step xo Γ1 σ H1 Γ3 σ3 H3 ∧ SAns X W xo Γ3 σ3 H3 (forL g mb (ds.drop (i + 1)) Γ3) B), fun σ3 H3 q => ⟨ds.length - (i + 1), by omega, rfl, hlt, q⟩, fun x H' y => ?_⟩
    obtain ⟨ex, rx⟩ := yl x H' y
    have k2' := k2.ext ex
    have st' : Step xo Γ2 σ2 H2 Γ2 σ2 H' := .ext ex
    have h2' := SAns.from st' h2
    unfold forL bnd at h2'
    cases e1 : g ds[i] Γ2 with
    | no => rw [e1] at h2'; exact False.elim h2'
    | er x Γ' => exact absurd e1 (her _ _ _ _)
    | ok u Γ3 =>
      rw [e1] at h2'
      refine gg xo Γ2 σ2 H' x _ Γ3 _ k2' rx e1 fun σ3 k3 s3 _ => ?_
      have h3 := SAns.from s3 h2'
      refine gb xo Γ3 σ3 H' _ k3 ?_
      have sA : Step xo Γ1 σ H1 Γ3 σ3 H' := (s2.trans st').trans s3
      cases e2 : mb Γ3 with
      | no => simp only [e2] at h3; exact False.elim h3
      | er x Γ' => simp only [e2] at h3; exact h3
      | ok f Γ4 =>
        simp only [e2] at h3
        cases f with
        | nx => exact fun σ4 H4 k4 s4 => ⟨Γ4, k4, sA.trans s4, SAns.from s4 h3⟩
        | ct => exact fun σ4 H4 k4 s4 => ⟨Γ4, k4, sA.trans s4, SAns.from s4 h3⟩
        | bk => exact fun σ4 H4 k4 s4 => h3 σ4 H4 k4 s4
        | rt d => exact h3
  · have hi' : i = ds.length := by omega
    subst hi'
    rw [List.drop_length] at h2
    exact .inl ⟨hJ.stop (Hd xo Γ2 σ2) H2 s2.sh _ (Nat.le_refl _), h2 σ2 H2 k2 .refl⟩

/-! ### while, by a number of turns that suffices -/
def whlL (c : M Bool) (body : M Flow) : Nat → M Flow
  | 0 => fun _ => .no
  | n + 1 => bnd c fun b => if b = true then bnd body fun f => match f with
    | .nx => whlL c body n
    | .ct => whlL c body n
    | .bk => ret .nx
    | .rt d => ret (.rt d)
    else ret .nx
def whlM (n : SEnv → Nat) (c : M Bool) (body : M Flow) : M Flow := fun Γ => whlL c body (n Γ) Γ
theorem ds_while {n : SEnv → Nat} {mc : M Bool} (hp : PassesOwn (model X.prog X.w) X.A X.env X.xe) (hc : DT X W c mc) (hb : DSs X W body mb) : DS X W (.While c body [] pos) (whlM n mc mb) := by
  obtain ⟨tc, pc, gc⟩ := hc.ex
  obtain ⟨tb, pb, gb⟩ := hb.ex
  refine ⟨_, ps_while hp pc pb, fun xo Γ σ H B k h => ?_⟩
  refine ⟨fun m σ2 H2 => ∃ Γ2, OkS X.K xo Γ2 σ2 H2 ∧ SAns X W xo Γ2 σ2 H2 (whlL mc mb m Γ2) B, ⟨n Γ, Γ, k, h⟩, ?_⟩
  rintro m σ2 H2 ⟨Γ2, k2, h2⟩
  cases m with
  | zero => exact False.elim h2
  | succ m =>
    refine gc xo Γ2 σ2 H2 _ k2 ((SAns.bind h2).imp fun t Γ3 H3 k3 s3 h3 => ?_)
    cases t with
    | false => exact iteF (h3 σ2 H3 k3 .refl)
    | true =>
      refine iteT ⟨fun σ' H' => ∃ Γ2, OkS X.K xo Γ2 σ' H' ∧ SAns X W xo Γ2 σ' H' (whlL mc mb m Γ2) B, fun σ' H' q => ⟨m, Nat.lt_succ_self m, q⟩, ?_⟩
      rw [if_pos rfl] at h3
      refine gb xo Γ3 σ2 H3 _ k3 ?_
      unfold bnd at h3
      cases e2 : mb Γ3 with
      | no => rw [e2] at h3; exact False.elim h3
      | er x Γ' => rw [e2] at h3; exact h3
      | ok f Γ4 =>
        rw [e2] at h3
        cases f with
        | nx => exact fun σ4 H4 k4 s4 => ⟨Γ4, k4, SAns.from s4 h3⟩
        | ct => exact fun σ4 H4 k4 s4 => ⟨Γ4, k4, SAns.from s4 h3⟩
        | bk => exact fun σ4 H4 k4 s4 => h3 σ4 H4 k4 s4
        | rt d => exact h3

/-! ### [elt for tg in iter if ..] -/
def wipeG (Γ : SEnv) : List Nat → SEnv
  | [] => Γ
  | v :: vs => (wipeG Γ vs).set v .no
def isIo : Sl → Bool
  | .io _ => true
  | _ => false
def wipM (vs : List Nat) : M Unit := fun Γ => if (vs.all fun i => match Γ[i]? with | some s => !isIo s | none => true) = true then .ok () (wipeG Γ vs) else .no
theorem wipeG_get : ∀ {vs : List Nat} {i : Nat} {s : Sl}, (wipeG Γ vs)[i]? = some s → (i ∈ vs ∧ s = .no) ∨ (i ∉ vs ∧ Γ[i]? = some s)
  | [], i, s, h => .inr ⟨by simp, h⟩
  | v :: vs, i, s, h => by
    unfold wipeG at h
    rcases get_set h with ⟨rfl, rfl, _⟩ | ⟨ne, h⟩
    · exact .inl ⟨by simp, rfl⟩
    · rcases wipeG_get h with ⟨h1, h2⟩ | ⟨h1, h2⟩
      · exact .inl ⟨by simp [h1], h2⟩
      · exact .inr ⟨by simp [h1, ne], h2⟩
theorem wipeG_len : ∀ vs : List Nat, (wipeG Γ vs).length = Γ.length
  | [] => rfl
  | v :: vs => by unfold wipeG; rw [List.length_set]; exact wipeG_len vs
theorem wipeG_ne : ∀ {vs : List Nat} {i : Nat}, i ∉ vs → (wipeG Γ vs)[i]? = Γ[i]?
  | [], i, _ => rfl
  | v :: vs, i, h => by
    unfold wipeG
    rw [List.getElem?_set_ne (fun z => h (by simp [z]))]
    exact wipeG_ne fun z => h (by simp [z])
theorem wipe_ne : ∀ {vs : List Nat} {i : Nat}, i ∉ vs → (wipe σ vs)[i]? = σ[i]?
  | [], i, _ => rfl
  | v :: vs, i, h => by
    unfold wipe
    rw [List.getElem?_set_ne (fun z => h (by simp [z]))]
    exact wipe_ne fun z => h (by simp [z])
theorem wipe_in : ∀ {vs : List Nat} {i : Nat}, i ∈ vs → i < σ.length → (wipe σ vs)[i]? = some none
  | v :: vs, i, h, hl => by
    unfold wipe
    by_cases e : v = i
    · subst e
      rw [List.getElem?_set_self (by rw [wipe_length]; exact hl)]
    · rw [List.getElem?_set_ne e]
      exact wipe_in (by rcases List.mem_cons.mp h with z | z; exact absurd z.symm e; exact z) hl
theorem wipe_eq {vs : List Nat} (hl : σ'.length = σ.length) (h : ∀ j, j ∉ vs → σ'[j]? = σ[j]?) : wipe σ' vs = wipe σ vs := by
  apply List.ext_getElem?
  intro i
  by_cases hi : i ∈ vs
  · by_cases hl2 : i < σ.length
    · rw [wipe_in hi hl2, wipe_in hi (by omega)]
    · rw [List.getElem?_eq_none (by rw [wipe_length]; omega), List.getElem?_eq_none (by rw [wipe_length]; omega)]
  · rw [wipe_ne hi, wipe_ne hi, h i hi]
theorem wipe_wipe {vs : List Nat} : wipe (wipe σ vs) vs = wipe σ vs := wipe_eq (wipe_length σ vs) fun j h => wipe_ne h
/-- slots forgotten -/
theorem OkS.wipe {K : PySem.W.Frag} {vs : List Nat} (k : OkS K xo Γ σ H) (hv : ∀ i ∈ vs, ∀ d, Γ[i]? ≠ some (.io d)) :
    OkS K xo (wipeG Γ vs) (L2.wipe σ vs) H ∧ Step xo Γ σ H (wipeG Γ vs) (L2.wipe σ vs) H := by
  have sub : ∀ a, OwnA (wipeG Γ vs) (L2.wipe σ vs) a → OwnA Γ σ a := by
    rintro a ⟨i, s, d, h1, h2, h3⟩
    rcases wipeG_get h1 with ⟨_, rfl⟩ | ⟨hn, h1⟩
    · cases h2
    · rw [wipe_ne hn] at h3
      exact ⟨i, s, d, h1, h2, h3⟩
  have es : Ex (vw xo Γ σ H) (vw xo (wipeG Γ vs) (L2.wipe σ vs) H) := hid_le (ownA_set sub)
  refine ⟨⟨by rw [wipeG_len, wipe_length]; exact k.len, fun i s h => ?_, fun i j s t d e p h1 h2 h3 h4 h5 h6 => ?_, fun i s d p h1 h2 h3 => ?_, k.xt⟩, ⟨es, fun _ _ _ h => h, fun i d h => ?_, wipeG_len _⟩⟩
  · rcases wipeG_get h with ⟨_, rfl⟩ | ⟨hn, h⟩
    · exact .no
    · have q := k.ok i s h
      rw [List.getD_eq_getElem?_getD, wipe_ne hn, ← List.getD_eq_getElem?_getD]
      generalize σ.getD i none = o at q
      cases q with
      | no => exact .no
      | sh r => exact .sh (r.mono es)
      | ow c => exact .ow (c.mono es rfl)
      | io c => exact .io (c.mono es rfl)
  · rcases wipeG_get h1 with ⟨_, rfl⟩ | ⟨hn, h1⟩
    · cases h2
    · rcases wipeG_get h3 with ⟨_, rfl⟩ | ⟨hn', h3⟩
      · cases h4
      · rw [wipe_ne hn] at h5
        rw [wipe_ne hn'] at h6
        exact k.dj i j s t d e p h1 h2 h3 h4 h5 h6
  · rcases wipeG_get h1 with ⟨_, rfl⟩ | ⟨hn, h1⟩
    · cases h2
    · rw [wipe_ne hn] at h3
      exact k.xd i s d p h1 h2 h3
  · have hn : i ∉ vs := fun z => hv i z d h
    exact ⟨wipe_ne hn, d, by rw [wipeG_ne hn]; exact h⟩
theorem wipM_ok {vs : List Nat} {u : Unit} (h : wipM vs Γ = .ok u Γ') : Γ' = wipeG Γ vs ∧ ∀ i ∈ vs, ∀ d, Γ[i]? ≠ some (.io d) := by
  unfold wipM at h
  split at h
  · rename_i hz
    cases h
    refine ⟨rfl, fun i hi d hd => ?_⟩
    have := List.all_eq_true.mp hz i hi
    rw [hd] at this
    cases this
  · cases h
end
end DL
set_option Elab.async false
set_option linter.all false
set_option maxRecDepth 100000
set_option maxHeartbeats 2000000
set_option autoImplicit false
namespace DL
open PySem L2
section
variable {X : Cx} {W : WX}
abbrev WN : WX := fun _ _ _ _ => False
def noEr {α : Type} (m : M α) : M α := fun Γ => match m Γ with
  | .ok a Γ' => .ok a Γ'
  | _ => .no
structure DTs (X : Cx) (W : WX) (ifs : List Expr) (m : M Bool) : Prop where
  ex : ∃ t : TT, PTs X ifs t ∧ ∀ (xo : Addr → Prop) (Γ : SEnv) (σ : L2.St) (H : Hp) (Q : Bool → Hp → Prop), OkS X.K xo Γ σ H → Ans X W xo Γ σ H (m Γ) (fun b _ H' => Q b H') → t σ H Q
theorem dts_nil : DTs X W [] (ret true) := ⟨_, pts_nil, fun xo Γ σ H Q k h => Ans.ret k h⟩
theorem dts_one {c : Expr} {m : M Bool} (h : DT X W c m) : DTs X W [c] m := let ⟨t, p, g⟩ := h.ex; ⟨t, pts_one p, g⟩
/-- the slots of a comprehension's own names, as they were -/
def savM (vs : List Nat) : M SEnv := fun Γ => if (vs.all fun i => match Γ[i]? with | some s => s.own.isNone | none => true) = true then .ok Γ Γ else .no
def rstG (Γ0 Γ : SEnv) : List Nat → SEnv
  | [] => Γ
  | v :: vs => (rstG Γ0 Γ vs).set v (Γ0.getD v .no)
def rstM (vs : List Nat) (Γ0 : SEnv) : M Unit := fun Γ => .ok () (rstG Γ0 Γ vs)
def lcL (vs : List Nat) (g : D → M Unit) (t : M Bool) (e : M D) : List D → List D → M (List D)
  | [], acc => ret acc
  | d :: ds, acc => bnd (g d) fun _ => bnd (noEr t) fun b => if b = true then bnd (noEr e) fun y => if sizeOk (acc.length + 1) = true then bnd (wipM vs) fun _ => lcL vs g t e ds (acc ++ [y]) else fun _ => .no
    else bnd (wipM vs) fun _ => lcL vs g t e ds acc
def lcM (vs : List Nat) (mi : M (List D)) (g : D → M Unit) (t : M Bool) (e : M D) : M D :=
  bnd mi fun ds => bnd (savM vs) fun Γ0 => bnd (wipM vs) fun _ => bnd (lcL vs g t e ds []) fun acc => bnd (rstM vs Γ0) fun _ => ret (.lst acc)
theorem rstG_len {Γ0 Γ : SEnv} : ∀ vs : List Nat, (rstG Γ0 Γ vs).length = Γ.length
  | [] => rfl
  | v :: vs => by unfold rstG; rw [List.length_set]; exact rstG_len vs
theorem rstG_get {Γ0 Γ : SEnv} : ∀ {vs : List Nat} {i : Nat} {s : Sl}, (rstG Γ0 Γ vs)[i]? = some s → (i ∈ vs ∧ s = Γ0.getD i .no) ∨ (i ∉ vs ∧ Γ[i]? = some s)
  | [], i, s, h => .inr ⟨by simp, h⟩
  | v :: vs, i, s, h => by
    unfold rstG at h
    rcases get_set h with ⟨rfl, rfl, _⟩ | ⟨ne, h⟩
    · exact .inl ⟨by simp, rfl⟩
    · rcases rstG_get h with ⟨h1, h2⟩ | ⟨h1, h2⟩
      · exact .inl ⟨by simp [h1], h2⟩
      · exact .inr ⟨by simp [h1, ne], h2⟩
theorem rstG_ne {Γ0 Γ : SEnv} : ∀ {vs : List Nat} {i : Nat}, i ∉ vs → (rstG Γ0 Γ vs)[i]? = Γ[i]?
  | [], i, _ => rfl
  | v :: vs, i, h => by
    unfold rstG
    rw [List.getElem?_set_ne (fun z => h (by simp [z]))]
    exact rstG_ne fun z => h (by simp [z])
variable {xo : Addr → Prop} {Γ Γ0 Γ1 Γ2 : SEnv} {σ : L2.St} {H H0 H1 H2 : Hp} {vs : List Nat}
/-- the block is left: the names of its own are what they were -/
theorem OkS.back {K : PySem.W.Frag} (k0 : OkS K xo Γ0 σ H0) (hv : ∀ i ∈ vs, ∀ s, Γ0[i]? = some s → s.own = none) (k : OkS K xo Γ (L2.wipe σ vs) H) (sh : Ex (vw xo Γ0 σ H0) (vw xo Γ (L2.wipe σ vs) H))
    (sio : ∀ (i : Nat) (d : D), Γ0[i]? = some (.io d) → ∃ d', Γ[i]? = some (.io d')) (len : Γ.length = Γ0.length) :
    OkS K xo (rstG Γ0 Γ vs) σ H ∧ Ex (vw xo Γ (L2.wipe σ vs) H) (vw xo (rstG Γ0 Γ vs) σ H) ∧ ∀ (i : Nat) (d : D), Γ0[i]? = some (.io d) → ∃ d', (rstG Γ0 Γ vs)[i]? = some (.io d') := by
  have old : ∀ {i : Nat} {s : Sl}, i ∈ vs → s = Γ0.getD i .no → s.own = none := fun {i s} hi e => by
    rw [List.getD_eq_getElem?_getD] at e
    cases q : Γ0[i]? with
    | none => rw [q] at e; rw [e]; rfl
    | some t => rw [q] at e; rw [e]; exact hv i hi t q
  have sub : ∀ a, OwnA (rstG Γ0 Γ vs) σ a → OwnA Γ (L2.wipe σ vs) a := by
    rintro a ⟨i, s, d, h1, h2, h3⟩
    rcases rstG_get h1 with ⟨hi, e⟩ | ⟨hn, h1⟩
    · rw [old hi e] at h2; cases h2
    · exact ⟨i, s, d, h1, h2, by rw [wipe_ne hn]; exact h3⟩
  have es : Ex (vw xo Γ (L2.wipe σ vs) H) (vw xo (rstG Γ0 Γ vs) σ H) := hid_le (ownA_set sub)
  have e0 : Ex (vw xo Γ0 σ H0) (vw xo (rstG Γ0 Γ vs) σ H) := fun a o q => es a o (sh a o q)
  refine ⟨⟨by rw [rstG_len, len]; exact k0.len, fun i s h => ?_, fun i j s t d e p h1 h2 h3 h4 h5 h6 => ?_, fun i s d p h1 h2 h3 => ?_, k.xt⟩, es, fun i d h => ?_⟩
  · rcases rstG_get h with ⟨hi, e⟩ | ⟨hn, h⟩
    · have hl : i < Γ0.length := by
        have := (List.getElem?_eq_some_iff.mp h).1
        rwa [rstG_len, len] at this
      have q := List.getElem?_eq_getElem hl
      have e' : s = Γ0[i] := by rw [e, List.getD_eq_getElem?_getD, q]; rfl
      have r := k0.ok i _ q
      have ho := hv i hi _ q
      rw [e']
      generalize Γ0[i] = s' at r ho
      generalize σ.getD i none = o at r
      cases r with
      | no => exact .no
      | sh r => exact .sh (r.mono e0)
      | ow c => cases ho
      | io c => cases ho
    · have q := k.ok i s h
      rw [List.getD_eq_getElem?_getD, wipe_ne hn, ← List.getD_eq_getElem?_getD] at q
      generalize σ.getD i none = o at q
      cases q with
      | no => exact .no
      | sh r => exact .sh (r.mono es)
      | ow c => exact .ow (c.mono es rfl)
      | io c => exact .io (c.mono es rfl)
  · rcases rstG_get h1 with ⟨hi, e⟩ | ⟨hn, h1⟩
    · rw [old hi e] at h2; cases h2
    · rcases rstG_get h3 with ⟨hi, e⟩ | ⟨hn', h3⟩
      · rw [old hi e] at h4; cases h4
      · exact k.dj i j s t d _ p h1 h2 h3 h4 (by rw [wipe_ne hn]; exact h5) (by rw [wipe_ne hn']; exact h6)
  · rcases rstG_get h1 with ⟨hi, e⟩ | ⟨hn, h1⟩
    · rw [old hi e] at h2; cases h2
    · exact k.xd i s d p h1 h2 (by rw [wipe_ne hn]; exact h3)
  · have hn : i ∉ vs := fun z => by
      have := hv i z _ h
      cases this
    obtain ⟨d', h2⟩ := sio i d h
    exact ⟨d', by rw [rstG_ne hn]; exact h2⟩
/-- a family of contexts, one reading -/
theorem pe_inf {ι : Type} {F : ι → Cx} {e : Expr} {t : ι → TE} (h : ∀ i, PE (F i) e (t i)) (i : ι) : PE (F i) e (fun σ H Q => ∀ j, t j σ H Q) := ⟨fun pins s σ H Q I q => (h i).run pins s σ H Q I (q i)⟩
theorem pts_inf {ι : Type} {F : ι → Cx} {e : List Expr} {t : ι → TT} (h : ∀ i, PTs (F i) e (t i)) (i : ι) : PTs (F i) e (fun σ H Q => ∀ j, t j σ H Q) := ⟨fun pins s σ H Q I q => (h i).run pins s σ H Q I (q i)⟩
theorem pg_inf {ι : Type} {F : ι → Cx} {e : Expr} {t : ι → TG} (h : ∀ i, PG (F i) e (t i)) (i : ι) : PG (F i) e (fun v σ H Q => ∀ j, t j v σ H Q) := ⟨fun pins s σ H v u Q I r q => (h i).run pins s σ H v u Q I r (q i)⟩
theorem noEr_ok {α : Type} {m : M α} {a : α} {Γ Γ' : SEnv} (h : noEr m Γ = .ok a Γ') : m Γ = .ok a Γ' := by
  unfold noEr at h
  split at h
  · rename_i e
    rw [e]
    exact h
  · cases h
theorem noEr_er {α : Type} {m : M α} {x : Exn} {Γ Γ' : SEnv} (h : noEr m Γ = .er x Γ') : False := by
  unfold noEr at h
  split at h <;> cases h
/-- a step, the list at p aside -/
structure StepL (xo : Addr → Prop) (p : Addr) (Γ : SEnv) (σ : L2.St) (H : Hp) (Γ' : SEnv) (σ' : L2.St) (H' : Hp) : Prop where
  sh : Ex (vw (xo1 xo p) Γ σ H) (vw (xo1 xo p) Γ' σ' H')
  xk : ∀ a o, xo a → H a = some o → H' a = some o
  io : ∀ (i : Nat) (d : D), Γ[i]? = some (.io d) → σ'[i]? = σ[i]? ∧ ∃ d', Γ'[i]? = some (.io d')
  len : Γ'.length = Γ.length
theorem StepL.trans {p : Addr} {σ1 σ2 : L2.St} (a : StepL xo p Γ σ H Γ1 σ1 H1) (b : StepL xo p Γ1 σ1 H1 Γ2 σ2 H2) : StepL xo p Γ σ H Γ2 σ2 H2 :=
  ⟨fun x o h => b.sh x o (a.sh x o h), fun x o q h => b.xk x o q (a.xk x o q h), fun i d h => by
    obtain ⟨e1, d1, h1⟩ := a.io i d h
    obtain ⟨e2, d2, h2⟩ := b.io i d1 h1
    exact ⟨e2.trans e1, d2, h2⟩, b.len.trans a.len⟩
theorem Step.toL {p : Addr} {σ1 : L2.St} (a : Step (xo1 xo p) Γ σ H Γ1 σ1 H1) : StepL xo p Γ σ H Γ1 σ1 H1 := ⟨a.sh, fun x o q h => a.xk x o (.inl q) h, a.io, a.len⟩
/-- the turns of a comprehension -/
theorem lc_turns {J : It} {ds : List D} {g : D → M Unit} {t : M Bool} {e : M D} {tg : TG} {tt : TT} {te : TE} {is : List Nat} {Q : VK} {p : Addr} {Γ1 : SEnv}
    (gg : ∀ (xo : Addr → Prop) (Γ : SEnv) (σ : L2.St) (H : Hp) (v : V) (d : D) (Γ' : SEnv) (Q : L2.St → Hp → Prop), OkS X.K xo Γ σ H → Rep X.K (vw xo Γ σ H) v d → g d Γ = .ok () Γ' →
      (∀ σ', OkS X.K xo Γ' σ' H → Step xo Γ σ H Γ' σ' H → (∀ j, j ∉ is → σ'[j]? = σ[j]?) → Q σ' H) → tg v σ H Q)
    (gt : ∀ (xo : Addr → Prop) (Γ : SEnv) (σ : L2.St) (H : Hp) (Q : Bool → Hp → Prop), OkS X.K xo Γ σ H → Ans X WN xo Γ σ H (t Γ) (fun b _ H' => Q b H') → tt σ H Q)
    (ge : ∀ (xo : Addr → Prop) (Γ : SEnv) (σ : L2.St) (H : Hp) (Q : VK), OkS X.K xo Γ σ H → VAns X WN xo Γ σ H (e Γ) Q → te σ H Q)
    (his : ∀ j ∈ is, j ∈ vs) (her : ∀ d Γ x Γ', g d Γ ≠ .er x Γ')
    (hJ : ItR X.K (vw xo Γ1 σ H1) J ds) (np : H1 p = none) (k1 : OkS X.K xo Γ1 σ H1) (hvs : ∀ i ∈ vs, ∀ d, Γ1[i]? ≠ some (.io d))
    (fin : ∀ acc Γ' H', OkS X.K (xo1 xo p) Γ' (L2.wipe σ vs) H' → StepL xo p (wipeG Γ1 vs) (L2.wipe σ vs) (upd H1 p (.lst [])) Γ' (L2.wipe σ vs) H' → Cell X.K (vw (xo1 xo p) Γ' (L2.wipe σ vs) H') H' p (.lst acc) → lcL vs g t e ds [] (wipeG Γ1 vs) = .ok acc Γ' → Q (.ref p) H')
    (ok : ∃ acc Γ', lcL vs g t e ds [] (wipeG Γ1 vs) = .ok acc Γ') :
    ∃ W : Nat → Nat → Hp → Prop, (∃ m, W 0 m (upd H1 p (.lst []))) ∧ ∀ i m H, W i m H →
      (J.stop i H ∧ Q (.ref p) H) ∨ (J.go i H ∧ ∃ Nx : Hp → Prop, (∀ H', Nx H' → ∃ m', m' < m ∧ W (i + 1) m' H') ∧ ∀ x H', J.yld i H x H' → tg x (L2.wipe σ vs) H' fun σ2 H2 => L2.wipe σ2 vs = L2.wipe σ vs ∧ tt σ2 H2 fun b H3 =>
        if b = true then te σ2 H3 fun y H4 => ∃ acc, H4 p = some (.lst acc) ∧ acc.length < sizeLine ∧ Nx (upd H4 p (.lst (acc ++ [y]))) else Nx H3) := by
  obtain ⟨kw, sw⟩ := OkS.wipe (vs := vs) k1 hvs
  have k2 : OkS X.K (xo1 xo p) (wipeG Γ1 vs) (L2.wipe σ vs) (upd H1 p (.lst [])) := kw.fresh np
  -- what holds ahead of turn i
  let Inv : Nat → Hp → Prop := fun i H => ∃ (Γ' : SEnv) (acc : List D) (xs : List V), OkS X.K (xo1 xo p) Γ' (L2.wipe σ vs) H ∧ StepL xo p (wipeG Γ1 vs) (L2.wipe σ vs) (upd H1 p (.lst [])) Γ' (L2.wipe σ vs) H ∧
    H p = some (.lst xs) ∧ Reps X.K (vw (xo1 xo p) Γ' (L2.wipe σ vs) H) xs acc ∧ lcL vs g t e (ds.drop i) acc Γ' = lcL vs g t e ds [] (wipeG Γ1 vs)
  refine ⟨fun i m H => m = ds.length - i ∧ i ≤ ds.length ∧ Inv i H, ⟨ds.length, rfl, Nat.zero_le _, wipeG Γ1 vs, [], [], k2, Step.toL .refl, upd_same, .nil, rfl⟩, ?_⟩
  rintro i m H ⟨rfl, hi, Γ', acc, xs, k, st, hp, rs, eq⟩
  have up : Ex (vw xo Γ1 σ H1) (vw (xo1 xo p) Γ' (L2.wipe σ vs) H) := fun a o q => st.sh a o (by rw [vw_new np]; exact sw.sh a o q)
  by_cases hlt : i < ds.length
  · have hd : ds[i]? = some ds[i] := List.getElem?_eq_getElem hlt
    obtain ⟨acc0, Γ0', e0⟩ := ok
    rw [drop_of hd, e0] at eq
    unfold lcL at eq
    obtain ⟨_, Γ2, q1, eq⟩ := bnd_ok eq
    obtain ⟨b, Γ3, q2, eq⟩ := bnd_ok eq
    obtain ⟨go, yl⟩ := hJ.go (Hd (xo1 xo p) Γ' (L2.wipe σ vs)) H (fun a q => k.hd_there q) up i _ hd
    refine .inr ⟨go, Inv (i + 1), fun H' q => ⟨ds.length - (i + 1), by omega, rfl, hlt, q⟩, fun x H' y => ?_⟩
    obtain ⟨ex, rx⟩ := yl x H' y
    have k' := k.ext ex
    have s1 : Step (xo1 xo p) Γ' (L2.wipe σ vs) H Γ' (L2.wipe σ vs) H' := .ext ex
    refine gg (xo1 xo p) Γ' (L2.wipe σ vs) H' x _ Γ2 _ k' rx q1 fun σ2 k2 s2 f2 => ?_
    have ew : L2.wipe σ2 vs = L2.wipe σ vs := by
      rw [wipe_eq (σ := L2.wipe σ vs) (by rw [← k2.len, s2.len, k'.len]) fun j hj => f2 j fun z => hj (his j z), wipe_wipe]
    refine ⟨ew, ?_⟩
    refine gt (xo1 xo p) Γ2 σ2 H' _ k2 ?_
    rw [noEr_ok q2]
    intro H3 k3 s3
    have s123 := (s1.trans s2).trans s3
    cases b with
    | false =>
      refine iteF ?_
      rw [if_neg Bool.false_ne_true] at eq
      obtain ⟨_, Γ4, q3, eq⟩ := bnd_ok eq
      obtain ⟨rfl, hno⟩ := wipM_ok q3
      obtain ⟨k4, s4⟩ := OkS.wipe (vs := vs) k3 hno
      rw [ew] at k4 s4
      have s14 := s123.trans s4
      exact ⟨_, acc, xs, k4, st.trans s14.toL, s14.xk p _ (.inr rfl) hp, rs.mono s14.sh, by rw [eq, e0]⟩
    | true =>
      refine iteT ?_
      rw [if_pos rfl] at eq
      obtain ⟨y, Γ4, q3, eq⟩ := bnd_ok eq
      refine ge (xo1 xo p) Γ3 σ2 H3 _ k3 ?_
      rw [noEr_ok q3]
      intro H4 k4 s4 v rv
      by_cases hz : sizeOk (acc.length + 1) = true
      · rw [if_pos hz] at eq
        obtain ⟨_, Γ5, q4, eq⟩ := bnd_ok eq
        obtain ⟨rfl, hno⟩ := wipM_ok q4
        have s14 := s123.trans s4
        have hp4 : H4 p = some (.lst xs) := s14.xk p _ (.inr rfl) hp
        have hl : xs.length < sizeLine := by
          have := of_decide_eq_true hz
          rw [rs.length]
          omega
        refine ⟨xs, hp4, hl, ?_⟩
        -- the list grows: it is hidden
        have hid : Hd (xo1 xo p) Γ4 σ2 p := .inl (.inr rfl)
        have ev : vw (xo1 xo p) Γ4 σ2 (upd H4 p (.lst (xs ++ [v]))) = vw (xo1 xo p) Γ4 σ2 H4 := hid_upd hid
        have k5 : OkS X.K (xo1 xo p) Γ4 σ2 (upd H4 p (.lst (xs ++ [v]))) := by
          refine ⟨k4.len, fun i s h => ?_, k4.dj, k4.xd, fun a q => ?_⟩
          · rw [ev]
            have r := k4.ok i s h
            have ne : ∀ x, s.own = some x → ∀ q, σ2.getD i none = some (.ref q) → q ≠ p := fun x hx q hq z => by
              subst z
              have hj : i < σ2.length := by rw [← k4.len]; exact (List.getElem?_eq_some_iff.mp h).1
              refine k4.xd i s x q h hx ?_ (.inr rfl)
              rw [List.getElem?_eq_getElem hj]
              rw [List.getD_eq_getElem?_getD, List.getElem?_eq_getElem hj] at hq
              exact congrArg some hq
            generalize σ2.getD i none = w at r ne
            cases r with
            | no => exact .no
            | sh r => exact .sh r
            | ow c => exact .ow (c.mono (fun _ _ z => z) (upd_ne (ne _ rfl _ rfl)))
            | io c => exact .io (c.mono (fun _ _ z => z) (upd_ne (ne _ rfl _ rfl)))
          · obtain ⟨o, ho⟩ := k4.xt a q
            by_cases z : a = p
            · subst z; exact ⟨_, upd_same⟩
            · exact ⟨o, by rw [upd_ne z]; exact ho⟩
        obtain ⟨k6, s6⟩ := OkS.wipe (vs := vs) k5 hno
        rw [ew] at k6 s6
        have e6 : Ex (vw (xo1 xo p) Γ4 σ2 H4) (vw (xo1 xo p) (wipeG Γ4 vs) (L2.wipe σ vs) (upd H4 p (.lst (xs ++ [v])))) := fun a o q => s6.sh a o (by rw [ev]; exact q)
        refine ⟨_, acc ++ [y], xs ++ [v], k6, ⟨fun a o q => e6 a o (s14.sh a o (st.sh a o q)), fun a o q hq => ?_, fun j d q => ?_, ?_⟩, upd_same, ?_, by rw [eq, e0]⟩
        · have z := s14.xk a o (.inl q) (st.xk a o q hq)
          have ne : a ≠ p := fun z => by
            obtain ⟨u, hu⟩ := k1.xt a q
            rw [z, np] at hu
            cases hu
          rw [upd_ne ne]
          exact z
        · obtain ⟨g1, d1, h1⟩ := (st.trans s14.toL).io j d q
          obtain ⟨g2, d2, h2⟩ := s6.io j d1 h1
          exact ⟨g2.trans g1, d2, h2⟩
        · exact s6.len.trans (s14.len.trans st.len)
        · refine Reps.append ((rs.mono s14.sh).mono e6) (.cons (rv.mono e6) .nil)
      · rw [if_neg hz] at eq
        cases eq
  · have hi' : i = ds.length := by omega
    subst hi'
    rw [List.drop_length] at eq
    refine .inl ⟨hJ.stop (Hd (xo1 xo p) Γ' (L2.wipe σ vs)) H up _ (Nat.le_refl _), ?_⟩
    exact fin acc Γ' H k st (.lst hp rs) eq.symm
end
end DL
set_option Elab.async false
set_option linter.all false
set_option maxRecDepth 100000
set_option maxHeartbeats 2000000
set_option autoImplicit false
namespace DL
open PySem L2
section
variable {X : Cx} {W : WX}
theorem bnd_er {α β : Type} {m : M α} {f : α → M β} {x : Exn} {Γ Γ' : SEnv} (h : bnd m f Γ = .er x Γ') : m Γ = .er x Γ' ∨ ∃ a Γ1, m Γ = .ok a Γ1 ∧ f a Γ1 = .er x Γ' := by
  unfold bnd at h
  cases e : m Γ with
  | no => rw [e] at h; cases h
  | er y Γ1 => rw [e] at h; cases h; exact .inl rfl
  | ok a Γ1 => rw [e] at h; exact .inr ⟨a, Γ1, rfl, h⟩
theorem lcL_er {vs : List Nat} {g : D → M Unit} {t : M Bool} {e : M D} (her : ∀ d Γ x Γ', g d Γ ≠ .er x Γ') : ∀ (ds acc : List D) (Γ : SEnv) (x : Exn) (Γ' : SEnv), lcL vs g t e ds acc Γ ≠ .er x Γ'
  | [], acc, Γ, x, Γ', h => by cases h
  | d :: ds, acc, Γ, x, Γ', h => by
    unfold lcL at h
    rcases bnd_er h with h | ⟨_, Γ1, _, h⟩
    · exact her _ _ _ _ h
    rcases bnd_er h with h | ⟨b, Γ2, _, h⟩
    · exact noEr_er h
    split at h
    · rcases bnd_er h with h | ⟨y, Γ3, _, h⟩
      · exact noEr_er h
      split at h
      · rcases bnd_er h with h | ⟨_, Γ4, _, h⟩
        · unfold wipM at h; split at h <;> cases h
        · exact lcL_er her _ _ _ _ _ h
      · cases h
    · rcases bnd_er h with h | ⟨_, Γ4, _, h⟩
      · unfold wipM at h; split at h <;> cases h
      · exact lcL_er her _ _ _ _ _ h
theorem savM_ok {vs : List Nat} {Γ Γ0 Γ' : SEnv} (h : savM vs Γ = .ok Γ0 Γ') : Γ0 = Γ ∧ Γ' = Γ ∧ ∀ i ∈ vs, ∀ s, Γ[i]? = some s → s.own = none := by
  unfold savM at h
  split at h
  · rename_i hz
    cases h
    refine ⟨rfl, rfl, fun i hi s hs => ?_⟩
    have := List.all_eq_true.mp hz i hi
    rw [hs] at this
    exact Option.isNone_iff_eq_none.mp this
  · cases h
theorem lc_reads {tg iter elt : Expr} {ifs : List Expr} {scope : Scope} {own : List (Str × Nat)} {mi : M (List D)} {g : D → M Unit} {t : M Bool} {e : M D} {is : List Nat}
    (hi : DI X W tg iter mi) (hg : ∀ (s : Shared) (H : Hp) (C : Addr) (cl : List (Str × Addr)) (fp : List Addr), DG (X.blk s H scope (compEnvC scope cl C X.env) fp) tg g is) (her : ∀ d Γ x Γ', g d Γ ≠ .er x Γ') (his : ∀ j ∈ is, j ∈ own.map (·.2))
    (ht : ∀ (s : Shared) (H : Hp) (C : Addr) (cl : List (Str × Addr)) (fp : List Addr), DTs (X.blk s H scope (compEnvC scope cl C X.env) fp) WN ifs t)
    (he : ∀ (s : Shared) (H : Hp) (C : Addr) (cl : List (Str × Addr)) (fp : List Addr), DE (X.blk s H scope (compEnvC scope cl C X.env) fp) WN elt e) :
    ∃ (wi : TI) (g' : TG) (tt : TT) (te : TE), PI X tg iter wi ∧ (∀ (s : Shared) (H : Hp) (C : Addr) (cl : List (Str × Addr)) (fp : List Addr), PG (X.blk s H scope (compEnvC scope cl C X.env) fp) tg g') ∧
      (∀ (s : Shared) (H : Hp) (C : Addr) (cl : List (Str × Addr)) (fp : List Addr), PTs (X.blk s H scope (compEnvC scope cl C X.env) fp) ifs tt) ∧ (∀ (s : Shared) (H : Hp) (C : Addr) (cl : List (Str × Addr)) (fp : List Addr), PE (X.blk s H scope (compEnvC scope cl C X.env) fp) elt te) ∧
      ∀ (xo : Addr → Prop) (Γ : SEnv) (σ : L2.St) (H : Hp) (Q : VK), OkS X.K xo Γ σ H → NAns X W xo Γ σ H (lcM (own.map (·.2)) mi g t e Γ) Q → tLc wi g' tt te (own.map (·.2)) σ H Q := by
  obtain ⟨wi, pw, gi⟩ := hi.ex
  let ι := Shared × Hp × Addr × List (Str × Addr) × List Addr
  let F : ι → Cx := fun j => X.blk j.1 j.2.1 scope (compEnvC scope j.2.2.2.1 j.2.2.1 X.env) j.2.2.2.2
  have hg' : ∀ j : ι, ∃ t : TG, PG (F j) tg t ∧ _ := fun j => (hg j.1 j.2.1 j.2.2.1 j.2.2.2.1 j.2.2.2.2).ex
  have ht' : ∀ j : ι, ∃ t : TT, PTs (F j) ifs t ∧ _ := fun j => (ht j.1 j.2.1 j.2.2.1 j.2.2.2.1 j.2.2.2.2).ex
  have he' : ∀ j : ι, ∃ t : TE, PE (F j) elt t ∧ _ := fun j => (he j.1 j.2.1 j.2.2.1 j.2.2.2.1 j.2.2.2.2).ex
  refine ⟨wi, fun v σ H Q => ∀ j, (hg' j).choose v σ H Q, fun σ H Q => ∀ j, (ht' j).choose σ H Q, fun σ H Q => ∀ j, (he' j).choose σ H Q, pw,
    fun s H C cl fp => pg_inf (F := F) (fun j => (hg' j).choose_spec.1) (s, H, C, cl, fp), fun s H C cl fp => pts_inf (F := F) (fun j => (ht' j).choose_spec.1) (s, H, C, cl, fp), fun s H C cl fp => pe_inf (F := F) (fun j => (he' j).choose_spec.1) (s, H, C, cl, fp), ?_⟩
  intro xo Γ σ H Q k h
  have h0 := NAns.bind h
  refine gi xo Γ σ H _ k (h0.imp fun ds Γ1 H1 k1 s1 h1 J hJ p np => ?_)
  have h2 := h1 H1 k1 .refl
  -- the slots kept, wiped; the turns
  cases e1 : savM (own.map (·.2)) Γ1 with
  | no => unfold bnd at h2; rw [e1] at h2; exact False.elim h2
  | er x Γ' => unfold savM at e1; split at e1 <;> cases e1
  | ok Γ0 Γ2 =>
    obtain ⟨rfl, rfl, hno⟩ := savM_ok e1
    cases e2 : wipM (own.map (·.2)) Γ2 with
    | no => unfold bnd at h2; rw [e1] at h2; simp only [e2] at h2; exact False.elim h2
    | er x Γ' => unfold wipM at e2; split at e2 <;> cases e2
    | ok u Γ3 =>
      obtain ⟨rfl, hio⟩ := wipM_ok e2
      cases e3 : lcL (own.map (·.2)) g t e ds [] (wipeG Γ2 (own.map (·.2))) with
      | no => unfold bnd at h2; rw [e1] at h2; simp only [e2, e3] at h2; exact False.elim h2
      | er x Γ' => exact absurd e3 (lcL_er her _ _ _ _ _)
      | ok acc Γ4 =>
        have h3 : NAns X W xo Γ2 σ H1 (.ok (.lst acc) (rstG Γ2 Γ4 (own.map (·.2)))) Q := by
          unfold bnd at h2
          rw [e1] at h2
          simp only [e2, e3] at h2
          exact h2
        refine lc_turns (Γ1 := Γ2) (tg := fun v σ H Q => ∀ j, (hg' j).choose v σ H Q) (is := is) (g := g) (t := t) (e := e) (fun xo Γ σ H v d Γ' Q k r q hq j => (hg' j).choose_spec.2 xo Γ σ H v d Γ' Q k r q hq) (fun xo Γ σ H Q k a j => (ht' j).choose_spec.2 xo Γ σ H Q k a) (fun xo Γ σ H Q k a j => (he' j).choose_spec.2 xo Γ σ H Q k a) his her hJ np k1 hio ?_ ⟨acc, Γ4, e3⟩
        intro acc' Γ' H' k' st c e4
        rw [e3] at e4
        cases e4
        have kf : OkS X.K (xo1 xo p) Γ2 σ (upd H1 p (.lst [])) := k1.fresh np
        obtain ⟨kw, sw⟩ := OkS.wipe (vs := own.map (·.2)) kf hio
        obtain ⟨b1, b2, b3⟩ := OkS.back kf hno k' (fun a o q => st.sh a o (sw.sh a o q)) (fun i d q => by
          obtain ⟨_, d1, q1⟩ := sw.io i d q
          exact (st.io i d1 q1).2) (st.len.trans (wipeG_len _))
        refine h3 p H' b1 ⟨fun a o q => b2 a o (st.sh a o (sw.sh a o (by rw [vw_new np]; exact q))), fun a o q hq => st.xk a o q (by
          have ne : a ≠ p := fun z => by rw [z, np] at hq; cases hq
          rw [upd_ne ne]; exact hq), fun i d q => ⟨rfl, b3 i d q⟩, by rw [rstG_len]; exact st.len.trans (wipeG_len _), fun q => ?_⟩ (c.mono b2 rfl)
        rcases q with q | ⟨i, s, d, q1, q2, q3⟩
        · exact k1.new np (.inl q)
        · exact b1.xd i s d p q1 q2 q3 (.inr rfl)
theorem df_lc {tg iter elt : Expr} {ifs : List Expr} {scope : Scope} {own : List (Str × Nat)} {mi : M (List D)} {g : D → M Unit} {t : M Bool} {e : M D} {is : List Nat} {pos : Pos} (hc : X.calm = true) (hN : X.N.Nodup) (ok : BlkOk X.N X.env.scope scope own)
    (hi : DI X W tg iter mi) (hg : ∀ (s : Shared) (H : Hp) (C : Addr) (cl : List (Str × Addr)) (fp : List Addr), DG (X.blk s H scope (compEnvC scope cl C X.env) fp) tg g is) (her : ∀ d Γ x Γ', g d Γ ≠ .er x Γ') (his : ∀ j ∈ is, j ∈ own.map (·.2))
    (ht : ∀ (s : Shared) (H : Hp) (C : Addr) (cl : List (Str × Addr)) (fp : List Addr), DTs (X.blk s H scope (compEnvC scope cl C X.env) fp) WN ifs t)
    (he : ∀ (s : Shared) (H : Hp) (C : Addr) (cl : List (Str × Addr)) (fp : List Addr), DE (X.blk s H scope (compEnvC scope cl C X.env) fp) WN elt e) (hs : ∀ x, foldedSetIterable iter X.env x = pure x := by intro _; rfl) :
    DF X W (.ListComp elt [⟨tg, iter, ifs, 0⟩] scope pos) (lcM (own.map (·.2)) mi g t e) := by
  obtain ⟨wi, g', tt, te, p1, p2, p3, p4, sem⟩ := lc_reads hi hg her his ht he
  exact ⟨_, pe_lc hc hN p1 ok p2 p3 p4 hs, sem⟩
/-- y = [..] -/
theorem ds_lc_sh {tg iter elt : Expr} {ifs : List Expr} {scope : Scope} {own : List (Str × Nat)} {mi : M (List D)} {g : D → M Unit} {t : M Bool} {e : M D} {is : List Nat} {pos spos py : Pos} {i : Nat} {y : Str} (md : Bool) (hc : X.calm = true) (hN : X.N.Nodup)
    (hy : X.N[i]? = some y) (hyl : X.env.scope.names.lookup y = some .local) (hsw : swapsWith (.ListComp elt [⟨tg, iter, ifs, 0⟩] scope pos) (some (.Name y py)) spos.line X.env = pure true) (ok : BlkOk X.N X.env.scope scope own)
    (hi : DI X W tg iter mi) (hg : ∀ (s : Shared) (H : Hp) (C : Addr) (cl : List (Str × Addr)) (fp : List Addr), DG (X.blk s H scope (compEnvC scope cl C X.env) fp) tg g is) (her : ∀ d Γ x Γ', g d Γ ≠ .er x Γ') (his : ∀ j ∈ is, j ∈ own.map (·.2))
    (ht : ∀ (s : Shared) (H : Hp) (C : Addr) (cl : List (Str × Addr)) (fp : List Addr), DTs (X.blk s H scope (compEnvC scope cl C X.env) fp) WN ifs t)
    (he : ∀ (s : Shared) (H : Hp) (C : Addr) (cl : List (Str × Addr)) (fp : List Addr), DE (X.blk s H scope (compEnvC scope cl C X.env) fp) WN elt e) (hs : ∀ x, foldedSetIterable iter X.env x = pure x := by intro _; rfl) :
    DS X W (.Assign [.Name y py] (.ListComp elt [⟨tg, iter, ifs, 0⟩] scope pos) spos) (asgM (lcM (own.map (·.2)) mi g t e) (if md = true then stO i else stS i)) := by
  obtain ⟨wi, g', tt, te, p1, p2, p3, p4, sem⟩ := lc_reads hi hg her his ht he
  have ps := ps_setLc (spos := spos) (pos := pos) (py := py) hc hN hy hyl hsw p1 ok p2 p3 p4 hs
  cases md with
  | true =>
    rw [if_pos rfl]
    exact own_end ps sem
  | false =>
    rw [if_neg Bool.false_ne_true]
    exact set_end ps fun xo Γ σ H Q k a => sem xo Γ σ H Q k (nans_of a)
end
end DL
set_option Elab.async false
set_option linter.all false
set_option maxRecDepth 100000
set_option maxHeartbeats 2000000
set_option autoImplicit false
namespace DL
open PySem L2
section
variable {X : Cx} {W : WX}
/-! ### built-in functions -/
def CallD (X : Cx) (f : Value) (g : List D → Option D) : Prop :=
  ∃ r : List V → Hp → VK → Prop, CallR X f r ∧ ∀ (O : Addr → Prop) (H : Hp) (xs : List V) (ds : List D) (dz : D) (Q : VK), (∀ a, O a → ∃ o, H a = some o) → Reps X.K (hid O H) xs ds → g ds = some dz →
    (∀ v H', Ex H H' → Rep X.K (hid O H') v dz → Q v H') → r xs H Q
/-- .. that make a new object -/
def CallF (X : Cx) (f : Value) (g : List D → Option D) : Prop :=
  ∃ r : List V → Hp → VK → Prop, CallR X f r ∧ ∀ (O : Addr → Prop) (H : Hp) (xs : List V) (ds : List D) (dz : D) (Q : VK), (∀ a, O a → ∃ o, H a = some o) → Reps X.K (hid O H) xs ds → g ds = some dz →
    (∀ p o, H p = none → (∀ H2 : Hp, H2 p = some o → Cell X.K (hid O H) H2 p dz) → Q (.ref p) (upd H p o)) → r xs H Q
theorem CallF.d {f : Value} {g : List D → Option D} (h : CallF X f g) : CallD X f g := by
  obtain ⟨r, hr, hq⟩ := h
  refine ⟨r, hr, fun O H xs ds dz Q hO rs e q => hq O H xs ds dz Q hO rs e fun p o hp c => ?_⟩
  refine q _ _ (Evl.Ex.new hp) (Cell.rep (hid_of (Evl.Ex.new hp)) ?_ (c (upd H p o) upd_same))
  rw [hid_new hO hp, upd_same]
def appM (g : List D → Option D) (ma : M (List D)) : M D := bnd ma fun ds => opt (g ds)
variable {x : Str} {e : Expr} {es : List Expr} {p pos : Pos} {ma : M (List D)} {id T : String} {g : List D → Option D}
theorem app_reads {f : Value} {r : List V → Hp → VK → Prop} {t : TA} (hq : ∀ (O : Addr → Prop) (H : Hp) (xs : List V) (ds : List D) (dz : D) (Q : VK), (∀ a, O a → ∃ o, H a = some o) → Reps X.K (hid O H) xs ds → g ds = some dz →
    (∀ v H', Ex H H' → Rep X.K (hid O H') v dz → Q v H') → r xs H Q)
    (ga : ∀ (xo : Addr → Prop) (Γ : SEnv) (σ : L2.St) (H : Hp) (Q : List V → Hp → Prop), OkS X.K xo Γ σ H → Ans X W xo Γ σ H (ma Γ) (fun ds Γ' H' => ∀ vs, Reps X.K (vw xo Γ' σ H') vs ds → Q vs H') → t σ H Q)
    (xo : Addr → Prop) (Γ : SEnv) (σ : L2.St) (H : Hp) (Q : VK) (k : OkS X.K xo Γ σ H) (h : VAns X W xo Γ σ H (appM g ma Γ) Q) : tCB r t σ H Q := by
  refine ga xo Γ σ H _ k ((Ans.bind h).imp fun ds Γ' H' k' st h' vs rvs => ?_)
  obtain ⟨dz, e, h3⟩ := h'.opt
  exact hq _ _ _ _ _ _ (fun _ q => k'.hd_there q) rvs e fun v H2 ex rv => Ans.grown k' h3 ex v rv
theorem de_callB (hc : CallD X (.builtin id) g) (hg : Gl X x) (hm : X.mg x = none) (hv : bootBuiltins x = some (.builtin id)) (ha : DA X W (e :: es) ma) (hn : x ≠ "__name__" := by decide) (hdb : (x == ("__debug__" : Str)) = false := by decide)
    (he : starEach (e :: es) X.env = (false, eval e X.env) :: starEach es X.env := by rfl) (hpl : (backTo pos (starEach es X.env)).any (·.1) = false := by rfl) : DE X W (.Call (.Name x p) (e :: es) [] pos) (appM g ma) := by
  obtain ⟨r, hr, hq⟩ := hc
  obtain ⟨t, q, ga⟩ := ha.ex
  exact ⟨_, pe_callB hr hg hm hv q hn hdb he hpl, app_reads (f := .builtin id) hq ga⟩
theorem de_callTy (hc : CallD X (.type T) g) (hg : Gl X x) (hm : X.mg x = none) (hv : bootBuiltins x = some (.type T)) (ha : DA X W (e :: es) ma) (hn : x ≠ "__name__" := by decide) (hdb : (x == ("__debug__" : Str)) = false := by decide)
    (he : starEach (e :: es) X.env = (false, eval e X.env) :: starEach es X.env := by rfl) (hpl : (backTo pos (starEach es X.env)).any (·.1) = false := by rfl) : DE X W (.Call (.Name x p) (e :: es) [] pos) (appM g ma) := by
  obtain ⟨r, hr, hq⟩ := hc
  obtain ⟨t, q, ga⟩ := ha.ex
  exact ⟨_, pe_callTy hr hg hm hv q hn hdb he hpl, app_reads (f := .type T) hq ga⟩
theorem app_readsF {r : List V → Hp → VK → Prop} {t : TA} (hq : ∀ (O : Addr → Prop) (H : Hp) (xs : List V) (ds : List D) (dz : D) (Q : VK), (∀ a, O a → ∃ o, H a = some o) → Reps X.K (hid O H) xs ds → g ds = some dz →
    (∀ p o, H p = none → (∀ H2 : Hp, H2 p = some o → Cell X.K (hid O H) H2 p dz) → Q (.ref p) (upd H p o)) → r xs H Q)
    (ga : ∀ (xo : Addr → Prop) (Γ : SEnv) (σ : L2.St) (H : Hp) (Q : List V → Hp → Prop), OkS X.K xo Γ σ H → Ans X W xo Γ σ H (ma Γ) (fun ds Γ' H' => ∀ vs, Reps X.K (vw xo Γ' σ H') vs ds → Q vs H') → t σ H Q)
    (xo : Addr → Prop) (Γ : SEnv) (σ : L2.St) (H : Hp) (Q : VK) (k : OkS X.K xo Γ σ H) (h : NAns X W xo Γ σ H (appM g ma Γ) Q) : tCB r t σ H Q := by
  refine ga xo Γ σ H _ k ((NAns.bind h).imp fun ds Γ' H' k' st h' vs rvs => ?_)
  obtain ⟨dz, e, h3⟩ := (h' H' k' .refl).opt
  exact hq _ _ _ _ _ _ (fun _ q => k'.hd_there q) rvs e fun p o hp c => NAns.new k' .refl hp h3 c
theorem df_callB (hc : CallF X (.builtin id) g) (hg : Gl X x) (hm : X.mg x = none) (hv : bootBuiltins x = some (.builtin id)) (ha : DA X W (e :: es) ma) (hn : x ≠ "__name__" := by decide) (hdb : (x == ("__debug__" : Str)) = false := by decide)
    (he : starEach (e :: es) X.env = (false, eval e X.env) :: starEach es X.env := by rfl) (hpl : (backTo pos (starEach es X.env)).any (·.1) = false := by rfl) : DF X W (.Call (.Name x p) (e :: es) [] pos) (appM g ma) := by
  obtain ⟨r, hr, hq⟩ := hc
  obtain ⟨t, q, ga⟩ := ha.ex
  exact ⟨_, pe_callB hr hg hm hv q hn hdb he hpl, app_readsF hq ga⟩
theorem df_callTy (hc : CallF X (.type T) g) (hg : Gl X x) (hm : X.mg x = none) (hv : bootBuiltins x = some (.type T)) (ha : DA X W (e :: es) ma) (hn : x ≠ "__name__" := by decide) (hdb : (x == ("__debug__" : Str)) = false := by decide)
    (he : starEach (e :: es) X.env = (false, eval e X.env) :: starEach es X.env := by rfl) (hpl : (backTo pos (starEach es X.env)).any (·.1) = false := by rfl) : DF X W (.Call (.Name x p) (e :: es) [] pos) (appM g ma) := by
  obtain ⟨r, hr, hq⟩ := hc
  obtain ⟨t, q, ga⟩ := ha.ex
  exact ⟨_, pe_callTy hr hg hm hv q hn hdb he hpl, app_readsF hq ga⟩
/-! len -/
def D.len : List D → Option D
  | [.lst ds] => some (.int ds.length)
  | [.tup ds] => some (.int ds.length)
  | [.scr ns] => some (.int ns.length)
  | [.str z] => if sizeOk z.length = true then some (.int z.length) else none
  | _ => none
theorem cd_len : CallD X (.builtin "len") D.len := by
  refine ⟨_, CallR.or call_len_seq call_len_str, fun O H xs ds dz Q hO rs e q => ?_⟩
  have fin : ∀ n : Nat, dz = .int n → Q (.int n) H := fun n hn => by subst hn; exact q _ H (fun _ _ h => h) (.int _)
  unfold D.len at e
  split at e
  · cases e
    cases rs with
    | cons r1 r2 =>
      cases r2
      cases r1 with
      | lst h1 r1 => exact .inl ⟨_, _, rfl, .inl (SqL.of (hid_un h1)), by rw [r1.length]; exact fin _ rfl⟩
  · cases e
    cases rs with
    | cons r1 r2 =>
      cases r2
      cases r1 with
      | tup h1 r1 => exact .inl ⟨_, _, rfl, .inr (SqT.un h1), by rw [r1.length]; exact fin _ rfl⟩
  · cases e
    cases rs with
    | cons r1 r2 =>
      cases r2
      cases r1 with
      | scr h1 => exact .inl ⟨_, _, rfl, .inl (SqL.un h1), by rw [List.length_map]; exact fin _ rfl⟩
  · split at e
    · rename_i hz
      cases e
      cases rs with
      | cons r1 r2 =>
        cases r2
        cases r1
        exact .inr ⟨_, rfl, of_decide_eq_true hz, fin _ rfl⟩
    · cases e
  · cases e
/-! sum, any, all of lists -/
def D.ints : List D → Option (List Int)
  | [] => some []
  | .int i :: r => (D.ints r).map (i :: ·)
  | _ => none
def D.bools : List D → Option (List Bool)
  | [] => some []
  | .bl i :: r => (D.bools r).map (i :: ·)
  | _ => none
def D.texts : List D → Option (List Str)
  | [] => some []
  | .str i :: r => (D.texts r).map (i :: ·)
  | _ => none
theorem ints_eq : ∀ {ds : List D} {ns : List Int}, D.ints ds = some ns → ds = ns.map D.int
  | [], ns, h => by cases h; rfl
  | d :: ds, ns, h => by
    cases d with
    | int i =>
      rw [D.ints, Option.map_eq_some_iff] at h
      obtain ⟨ms, h1, rfl⟩ := h
      rw [ints_eq h1, List.map_cons]
    | _ => cases h
theorem bools_eq : ∀ {ds : List D} {ns : List Bool}, D.bools ds = some ns → ds = ns.map D.bl
  | [], ns, h => by cases h; rfl
  | d :: ds, ns, h => by
    cases d with
    | bl i =>
      rw [D.bools, Option.map_eq_some_iff] at h
      obtain ⟨ms, h1, rfl⟩ := h
      rw [bools_eq h1, List.map_cons]
    | _ => cases h
theorem texts_eq : ∀ {ds : List D} {ns : List Str}, D.texts ds = some ns → ds = ns.map D.str
  | [], ns, h => by cases h; rfl
  | d :: ds, ns, h => by
    cases d with
    | str i =>
      rw [D.texts, Option.map_eq_some_iff] at h
      obtain ⟨ms, h1, rfl⟩ := h
      rw [texts_eq h1, List.map_cons]
    | _ => cases h
def D.sum : List D → Option D
  | [.lst ds] => (D.ints ds).map fun ns => .int ns.sum
  | [.scr ns] => some (.int ns.sum)
  | _ => none
theorem cd_sum (hc : X.calm = true) : CallD X (.builtin "sum") D.sum := by
  refine ⟨_, cr_sum hc, fun O H xs ds dz Q hO rs e q => ?_⟩
  unfold D.sum at e
  split at e
  · rw [Option.map_eq_some_iff] at e
    obtain ⟨ns, e1, rfl⟩ := e
    cases rs with
    | cons r1 r2 =>
      cases r2
      cases r1 with
      | lst h1 r1 =>
        rw [ints_eq e1] at r1
        exact ⟨_, ns, rfl, by rw [← r1.ints]; exact SqL.of (hid_un h1), q _ H (fun _ _ h => h) (.int _)⟩
  · cases e
    cases rs with
    | cons r1 r2 =>
      cases r2
      cases r1 with
      | scr h1 => exact ⟨_, _, rfl, SqL.un h1, q _ H (fun _ _ h => h) (.int _)⟩
  · cases e
def D.all : List D → Option D
  | [.lst ds] => (D.bools ds).map fun ns => .bl (ns.all _root_.id)
  | _ => none
def D.any : List D → Option D
  | [.lst ds] => (D.bools ds).map fun ns => .bl (ns.any _root_.id)
  | _ => none
theorem cd_all (hc : X.calm = true) : CallD X (.builtin "all") D.all := by
  refine ⟨_, cr_all hc, fun O H xs ds dz Q hO rs e q => ?_⟩
  unfold D.all at e
  split at e
  · rw [Option.map_eq_some_iff] at e
    obtain ⟨ns, e1, rfl⟩ := e
    cases rs with
    | cons r1 r2 =>
      cases r2
      cases r1 with
      | lst h1 r1 =>
        rw [bools_eq e1] at r1
        exact ⟨_, ns, rfl, by rw [← r1.bls]; exact SqL.of (hid_un h1), q _ H (fun _ _ h => h) (.bl _)⟩
  · cases e
theorem cd_any (hc : X.calm = true) : CallD X (.builtin "any") D.any := by
  refine ⟨_, cr_any hc, fun O H xs ds dz Q hO rs e q => ?_⟩
  unfold D.any at e
  split at e
  · rw [Option.map_eq_some_iff] at e
    obtain ⟨ns, e1, rfl⟩ := e
    cases rs with
    | cons r1 r2 =>
      cases r2
      cases r1 with
      | lst h1 r1 =>
        rw [bools_eq e1] at r1
        exact ⟨_, ns, rfl, by rw [← r1.bls]; exact SqL.of (hid_un h1), q _ H (fun _ _ h => h) (.bl _)⟩
  · cases e
def D.abs : List D → Option D
  | [.int i] => some (.int (if i < 0 then -i else i))
  | _ => none
theorem cd_abs : CallD X (.builtin "abs") D.abs := by
  refine ⟨_, call_abs, fun O H xs ds dz Q hO rs e q => ?_⟩
  unfold D.abs at e
  split at e
  · cases e
    cases rs with
    | cons r1 r2 => cases r2; cases r1; exact ⟨_, rfl, q _ H (fun _ _ h => h) (.int _)⟩
  · cases e
/-! str(n), list(..), tuple(..) -/
def D.strInt : List D → Option D
  | [.int i] => if decide (i.natAbs.log2 < 1920) = true then some (.str (toString i)) else none
  | _ => none
theorem cd_str : CallD X (.type "str") D.strInt := by
  refine ⟨_, call_str_int, fun O H xs ds dz Q hO rs e q => ?_⟩
  unfold D.strInt at e
  split at e
  · split at e
    · rename_i hz
      cases e
      cases rs with
      | cons r1 r2 => cases r2; cases r1; exact ⟨_, rfl, of_decide_eq_true hz, q _ H (fun _ _ h => h) (.str _)⟩
    · cases e
  · cases e
def D.toList : List D → Option D
  | [.lst ds] => some (.lst ds)
  | [.tup ds] => some (.lst ds)
  | [.scr ns] => some (.lst (ns.map D.int))
  | _ => none
theorem cf_list : CallF X (.type "list") D.toList := by
  refine ⟨_, call_list_of, fun O H xs ds dz Q hO rs e q => ?_⟩
  unfold D.toList at e
  split at e
  · cases e
    cases rs with
    | cons r1 r2 =>
      cases r2
      cases r1 with
      | lst h1 r1 => exact ⟨_, _, rfl, .inl (SqL.of (hid_un h1)), fun p hp => q p _ hp fun H2 e2 => .lst e2 r1⟩
  · cases e
    cases rs with
    | cons r1 r2 =>
      cases r2
      cases r1 with
      | tup h1 r1 => exact ⟨_, _, rfl, .inr (SqT.un h1), fun p hp => q p _ hp fun H2 e2 => .lst e2 r1⟩
  · cases e
    cases rs with
    | cons r1 r2 =>
      cases r2
      cases r1 with
      | scr h1 => exact ⟨_, _, rfl, .inl (SqL.un h1), fun p hp => q p _ hp fun H2 e2 => .lst e2 (Reps.of_ints _)⟩
  · cases e
def D.toTup : List D → Option D
  | [.lst ds] => some (.tup ds)
  | [.tup ds] => some (.tup ds)
  | [.scr ns] => some (.tup (ns.map D.int))
  | _ => none
theorem cd_tuple : CallD X (.type "tuple") D.toTup := by
  refine ⟨_, call_tuple_of, fun O H xs ds dz Q hO rs e q => ?_⟩
  unfold D.toTup at e
  split at e
  · cases e
    cases rs with
    | cons r1 r2 =>
      cases r2
      cases r1 with
      | lst h1 r1 => exact ⟨_, _, rfl, .inl ⟨SqL.of (hid_un h1), fun p hp => q _ _ (Evl.Ex.new hp) (.tup (.inl (.inl (hid_new hO hp))) (r1.mono (hid_of (Evl.Ex.new hp))))⟩⟩
  · cases e
    cases rs with
    | cons r1 r2 =>
      cases r2
      cases r1 with
      | tup h1 r1 => exact ⟨_, _, rfl, .inr ⟨SqT.un h1, q _ H (fun _ _ h => h) (.tup h1 r1)⟩⟩
  · cases e
    cases rs with
    | cons r1 r2 =>
      cases r2
      cases r1 with
      | scr h1 => exact ⟨_, _, rfl, .inl ⟨SqL.un h1, fun p hp => q _ _ (Evl.Ex.new hp) (.tup (.inl (.inl (hid_new hO hp))) (Reps.of_ints _))⟩⟩
  · cases e
end
end DL
set_option Elab.async false
set_option linter.all false
set_option maxRecDepth 100000
set_option maxHeartbeats 2000000
set_option autoImplicit false
namespace DL
open PySem L2
section
variable {X : Cx} {W : WX}
/-! ### sorted -/
def likeAll (ds : List D) : Bool := ds.all fun a => ds.all fun b => PySem.W.alike a.py b.py
def isTupN : D → Bool
  | .tup (_ :: _) => true
  | _ => false
def isOth : D → Bool
  | .non => false
  | .tup _ => false
  | .ptr _ => false
  | .dct _ _ => false
  | _ => true
def sortOk (ds : List D) : Bool := ds.all deepOk && likeAll ds && (ds.all isTupN || ds.all isOth) && sizeOk ds.length
def D.sort (ds : List D) : List D := ds.mergeSort (PySem.W.dataLe false D.py)
def D.sorted : List D → Option D
  | [.lst ds] => if sortOk ds = true then some (.lst (D.sort ds)) else none
  | _ => none
def RepU (K : PySem.W.Frag) (H : Hp) (u : Value) (d : D) : Prop := ∃ v, RelV v u ∧ Rep K H v d
theorem each_of {K : PySem.W.Frag} {H : Hp} : ∀ {xs : List V} {us : List Value} {ds : List D}, Vals xs us → Reps K H xs ds → PySem.W.EachIs (RepU K H) us ds
  | _, _, _, .nil, .nil => .nil
  | _, _, _, .cons a r, .cons b q => .cons ⟨_, a, b⟩ (each_of r q)
theorem of_each {K : PySem.W.Frag} {H : Hp} : ∀ {us : List Value} {ds : List D}, PySem.W.EachIs (RepU K H) us ds → ∃ xs, Vals xs us ∧ Reps K H xs ds
  | _, _, .nil => ⟨[], .nil, .nil⟩
  | _, _, .cons ⟨v, a, b⟩ r => let ⟨xs, q1, q2⟩ := of_each r; ⟨v :: xs, .cons a q1, .cons b q2⟩
theorem each_reads {pins : List (Addr × Obj)} {s : Shared} {σ : L2.St} {H : Hp} (I : Inv X pins σ H s) : ∀ {us : List Value} {ds : List D}, (∀ d ∈ ds, deepOk d = true) → PySem.W.EachIs (RepU X.K H) us ds → PySem.W.EachIs (fun v b => ∃ as, Reads s.heap v (D.py b) as) us ds
  | _, _, _, .nil => .nil
  | _, _, h, .cons ⟨v, a, b⟩ r => .cons (b.reads I (deepOk_iff.mp (h _ List.mem_cons_self)).1 a) (each_reads I (fun d hd => h d (List.mem_cons_of_mem _ hd)) r)
theorem alike_all {ds : List D} (h : likeAll ds = true) : PySem.W.AllAlike (ds.map D.py) := by
  intro a ha b hb
  obtain ⟨x, hx, rfl⟩ := List.mem_map.mp ha
  obtain ⟨y, hy, rfl⟩ := List.mem_map.mp hb
  exact List.all_eq_true.mp (List.all_eq_true.mp h x hx) y hy
theorem sortable_of {ds : List D} (h : (ds.all isTupN || ds.all isOth) = true) : PySem.W.Sortable (ds.map D.py) := by
  rw [Bool.or_eq_true] at h
  rcases h with h | h
  · refine .inl fun d hd => ?_
    obtain ⟨x, hx, rfl⟩ := List.mem_map.mp hd
    have := List.all_eq_true.mp h x hx
    cases x with
    | tup l =>
      cases l with
      | nil => cases this
      | cons a r => exact ⟨_, _, by rw [D.py, D.pys]⟩
    | _ => cases this
  · refine .inr fun d hd => ?_
    obtain ⟨x, hx, rfl⟩ := List.mem_map.mp hd
    have := List.all_eq_true.mp h x hx
    cases x with
    | non => cases this
    | tup _ => cases this
    | ptr _ => cases this
    | dct _ _ => cases this
    | _ => exact ⟨fun e => by simp [D.py] at e, fun xs e => by simp [D.py] at e⟩
theorem cf_sorted (hu : X.A.units + 150 < cLine) : CallF X (.builtin "sorted") D.sorted := by
  refine ⟨fun xs H Q => ∃ (a : Addr) (ys : List V) (ds : List D), xs = [.ref a] ∧ H a = some (.lst ys) ∧ sortOk ds = true ∧ ∃ O : Addr → Prop, (∀ a, O a → ∃ o, H a = some o) ∧ Reps X.K (hid O H) ys ds ∧ ∀ zs p, H p = none → Reps X.K (hid O H) zs (D.sort ds) → Q (.ref p) (upd H p (.lst zs)), ?_, fun O H xs ds dz Q hO rs e q => ?_⟩
  · intro pins s σ H vs us Q I r h
    obtain ⟨a, ys, ds, rfl, ha, hk, O, hO, rs, q⟩ := h
    unfold sortOk at hk
    rw [Bool.and_eq_true, Bool.and_eq_true, Bool.and_eq_true] at hk
    obtain ⟨⟨⟨h1, h2⟩, h3⟩, h4⟩ := hk
    obtain ⟨its, rv, hl, hz⟩ := I.list (SqL.of ha)
    rw [Vals.ref1 r]
    have ev := each_of rv rs
    have er := each_of rv (rs.mono hid_ex)
    have deep : ∀ d ∈ ds, deepOk d = true := fun d hd => List.all_eq_true.mp h1 d hd
    refine PySem.W.sorted_data hl.isList ev (each_reads I deep er) (alike_all h2) (sortable_of h3) (of_decide_eq_true h4) (fun b hb => ?_) fun out hlen eo => ?_
    · have := (deepOk_iff.mp (deep b hb)).2
      omega
    · obtain ⟨zs, q1, q2⟩ := of_each eo
      obtain ⟨ep, he'⟩ := PyProof.Rows.sortedAll_at s.heap its out.toArray
      have hzs : zs.length ≤ sizeLine := by rw [q1.length, hlen]; exact of_decide_eq_true h4
      exact ⟨.ref _, upd H (s.heap.objs.size + 1) (.lst zs), I.laid (t' := s.toks) (fun _ _ => PyProof.Rows.sortedAll_old) (Nat.le_succ _) ⟨hzs, out, ep, q1, he'⟩, rfl, q zs _ (I.hok.fresh (Nat.le_succ _)) q2⟩
  · unfold D.sorted at e
    split at e
    · split at e
      · rename_i hk
        cases e
        cases rs with
        | cons r1 r2 =>
          cases r2
          cases r1 with
          | lst h1 r1 => exact ⟨_, _, _, rfl, hid_un h1, hk, O, hO, r1, fun zs p hp rz => q p _ hp fun H2 e2 => .lst e2 rz⟩
      · cases e
    · cases e

/-! ### min, max of a list, a tuple; of two -/
mutual
theorem py_injA : ∀ (a b : D), a.pl = true → b.pl = true → a.py = b.py → a = b
  | .non, b, _, hb, h => by cases b <;> simp_all [D.py, D.pl]
  | .bl _, b, _, hb, h => by cases b <;> simp_all [D.py, D.pl]
  | .int _, b, _, hb, h => by cases b <;> simp_all [D.py, D.pl]
  | .str _, b, _, hb, h => by cases b <;> simp_all [D.py, D.pl]
  | .tup as, b, ha, hb, h => by
    cases b with
    | tup bs => rw [D.py, D.py] at h; rw [D.pl] at ha hb; exact congrArg D.tup (py_injs as bs ha hb (by injection h))
    | _ => simp_all [D.py, D.pl]
  | .lst as, b, ha, hb, h => by
    cases b with
    | lst bs => rw [D.py, D.py] at h; rw [D.pl] at ha hb; exact congrArg D.lst (py_injs as bs ha hb (by injection h))
    | _ => simp_all [D.py, D.pl]
  | .ptr _, _, ha, _, _ => by simp [D.pl] at ha
  | .dct _ _, _, ha, _, _ => by simp [D.pl] at ha
  | .exc _ _ _ _ _, _, ha, _, _ => by simp [D.pl] at ha
  | .scr _, _, ha, _, _ => by simp [D.pl] at ha
theorem py_injs : ∀ (a b : List D), D.pls a = true → D.pls b = true → D.pys a = D.pys b → a = b
  | [], [], _, _, _ => rfl
  | [], _ :: _, _, _, h => by simp [D.pys] at h
  | _ :: _, [], _, _, h => by simp [D.pys] at h
  | a :: as, b :: bs, ha, hb, h => by
    rw [D.pls, Bool.and_eq_true] at ha hb
    rw [D.pys, D.pys] at h
    injection h with h1 h2
    rw [py_injA a b ha.1 hb.1 h1, py_injs as bs ha.2 hb.2 h2]
end
theorem py_inj {a b : D} (ha : a.pl = true) (hb : b.pl = true) (h : a.py = b.py) : a = b := py_injA a b ha hb h
def minOk (ds : List D) : Bool := ds.all deepOk && likeAll ds && ds.all fun d => !d.isNon
def D.minD (d : D) (ds : List D) : D := ds.foldl (fun a y => if D.ltv y a = true then y else a) d
def D.maxD (d : D) (ds : List D) : D := ds.foldl (fun a y => if D.ltv a y = true then y else a) d
theorem min_py : ∀ (ds : List D) (d : D), PySem.W.minD d.py (D.pys ds) = (D.minD d ds).py
  | [], d => rfl
  | e :: ds, d => by
    unfold PySem.W.minD D.minD
    rw [D.pys, List.foldl_cons, List.foldl_cons]
    have ih := min_py ds (if D.ltv e d = true then e else d)
    unfold PySem.W.minD D.minD at ih
    rw [← ih]
    unfold D.ltv
    split <;> rfl
theorem max_py : ∀ (ds : List D) (d : D), PySem.W.maxD d.py (D.pys ds) = (D.maxD d ds).py
  | [], d => rfl
  | e :: ds, d => by
    unfold PySem.W.maxD D.maxD
    rw [D.pys, List.foldl_cons, List.foldl_cons]
    have ih := max_py ds (if D.ltv d e = true then e else d)
    unfold PySem.W.maxD D.maxD at ih
    rw [← ih]
    unfold D.ltv
    split <;> rfl
theorem minD_mem : ∀ (ds : List D) (d : D), D.minD d ds ∈ d :: ds
  | [], d => List.mem_cons_self
  | e :: ds, d => by
    unfold D.minD
    rw [List.foldl_cons]
    have ih := minD_mem ds (if D.ltv e d = true then e else d)
    unfold D.minD at ih
    rcases List.mem_cons.mp ih with h | h
    · rw [h]
      split
      · exact List.mem_cons_of_mem _ List.mem_cons_self
      · exact List.mem_cons_self
    · exact List.mem_cons_of_mem _ (List.mem_cons_of_mem _ h)
theorem maxD_mem : ∀ (ds : List D) (d : D), D.maxD d ds ∈ d :: ds
  | [], d => List.mem_cons_self
  | e :: ds, d => by
    unfold D.maxD
    rw [List.foldl_cons]
    have ih := maxD_mem ds (if D.ltv d e = true then e else d)
    unfold D.maxD at ih
    rcases List.mem_cons.mp ih with h | h
    · rw [h]
      split
      · exact List.mem_cons_of_mem _ List.mem_cons_self
      · exact List.mem_cons_self
    · exact List.mem_cons_of_mem _ (List.mem_cons_of_mem _ h)
def D.min : List D → Option D
  | [.lst (d :: ds)] => if minOk (d :: ds) = true then some (D.minD d ds) else none
  | [.tup (d :: ds)] => if minOk (d :: ds) = true then some (D.minD d ds) else none
  | [.int i, .int j] => some (.int (if j < i then j else i))
  | _ => none
def D.max : List D → Option D
  | [.lst (d :: ds)] => if minOk (d :: ds) = true then some (D.maxD d ds) else none
  | [.tup (d :: ds)] => if minOk (d :: ds) = true then some (D.maxD d ds) else none
  | [.int i, .int j] => some (.int (if j > i then j else i))
  | _ => none
theorem minOk_iff {ds : List D} (h : minOk ds = true) : (∀ d ∈ ds, deepOk d = true) ∧ PySem.W.AlikeAll (D.pys ds) ∧ D.pls ds = true ∧ ∀ n, n + 150 < cLine → n + 1 + PyData.depthAll (D.pys ds) < cLine := by
  unfold minOk at h
  rw [Bool.and_eq_true, Bool.and_eq_true] at h
  obtain ⟨⟨h1, h2⟩, h3⟩ := h
  have deep : ∀ d ∈ ds, deepOk d = true := fun d hd => List.all_eq_true.mp h1 d hd
  have al := alike_all h2
  refine ⟨deep, ⟨fun x hx y hy => ?_, fun x hx e => ?_⟩, ?_, fun n hn => ?_⟩
  · rw [pys_map] at hx hy
    exact al x hx y hy
  · rw [pys_map] at hx
    obtain ⟨d, hd, rfl⟩ := List.mem_map.mp hx
    have := List.all_eq_true.mp h3 d hd
    cases d <;> simp_all [D.py, D.isNon]
  · clear al h2 h3 h1
    induction ds with
    | nil => rfl
    | cons d ds ih =>
      rw [D.pls, (deepOk_iff.mp (deep d List.mem_cons_self)).1, ih fun x hx => deep x (List.mem_cons_of_mem _ hx)]
      rfl
  · have : PyData.depthAll (D.pys ds) ≤ 90 := by
      clear al h2 h3 h1
      induction ds with
      | nil => exact Nat.zero_le _
      | cons d ds ih =>
        rw [D.pys, PyData.depthAll]
        exact Nat.max_le.mpr ⟨(deepOk_iff.mp (deep d List.mem_cons_self)).2, ih fun x hx => deep x (List.mem_cons_of_mem _ hx)⟩
    omega
theorem pls_mem {ds : List D} {d : D} (h : D.pls ds = true) (hd : d ∈ ds) : d.pl = true := pls_all h d hd
/-- the item that was found is the one told -/
theorem found_rep {K : PySem.W.Frag} {H : Hp} {h' : Heap} {ys : List V} {its : List Value} {ds : List D} {z : D} {i : Nat} {v : Value} {bs : List Addr} (hpl : D.pls ds = true) (hz : z ∈ ds) (rv : Vals ys its) (rs : Reps K H ys ds) (hi : its.toArray[i]? = some v) (rd : Reads h' v z.py bs)
    (hr : ∀ d u, d ∈ ds → Rep K H u d → RelV u v → ∃ as, Reads h' v d.py as) : ∃ u, RelV u v ∧ Rep K H u z := by
  have hi' : its[i]? = some v := by simpa using hi
  have hl : i < ys.length := by rw [rv.length]; exact (List.getElem?_eq_some_iff.mp hi').1
  obtain ⟨w, hw, rw'⟩ := rv.get (List.getElem?_eq_getElem hl)
  rw [hi'] at hw
  cases hw
  obtain ⟨d, hd, rd'⟩ := rs.get' (List.getElem?_eq_getElem hl)
  have hm := List.mem_of_getElem? hd
  obtain ⟨as, q⟩ := hr d _ hm rd' rw'
  have e := PySem.SeqAt.plain_unique _ _ _ _ _ (D.py_plain _ (pls_mem hpl hm)) q rd
  have e2 := py_inj (pls_mem hpl hm) (pls_mem hpl hz) e
  subst e2
  exact ⟨_, rw', rd'⟩
/-- what both ask of the heap -/
def rMM (K : PySem.W.Frag) (f : D → List D → D) : List V → Hp → VK → Prop := fun xs H Q => ∃ (a : Addr) (ys : List V) (d : D) (ds : List D), xs = [.ref a] ∧ (SqL K H a ys ∨ SqT K H a ys) ∧ minOk (d :: ds) = true ∧ ∃ O : Addr → Prop, Reps K (hid O H) ys (d :: ds) ∧ ∀ u, Rep K (hid O H) u (f d ds) → Q u H
theorem cr_mm {id : String} {f : D → List D → D} {fp : PyData → List PyData → PyData} (hf : ∀ ds d, fp d.py (D.pys ds) = (f d ds).py) (hm : ∀ ds d, f d ds ∈ d :: ds) (hc : X.calm = true) (hu : X.A.units + 150 < cLine)
    (r1 : ∀ {s : Shared} {l : Addr} {vs : Array Value} {x : PyData} {xs : List PyData} {as : List Addr} {Q : Value → Shared → Prop}, X.A.handled = none → s.heap.IsList l vs → ReadsAll s.heap vs.toList (x :: xs) as → PySem.W.AlikeAll (x :: xs) → X.A.units + 1 + PyData.depthAll (x :: xs) < cLine →
      (∀ (i : Nat) v h' tk bs, vs[i]? = some v → Reads h' v (fp x xs) bs → (∀ b o, s.heap.get? b = some o → h'.get? b = some o) → Q v { s with heap := h', toks := tk }) → wpAny (model X.prog X.w) X.A (call (.builtin id) [.ref l]) Q X.xe s)
    (r2 : ∀ {s : Shared} {l : Addr} {vs : Array Value} {x : PyData} {xs : List PyData} {as : List Addr} {Q : Value → Shared → Prop}, X.A.handled = none → s.heap.IsTuple l vs → ReadsAll s.heap vs.toList (x :: xs) as → PySem.W.AlikeAll (x :: xs) → X.A.units + 1 + PyData.depthAll (x :: xs) < cLine →
      (∀ (i : Nat) v h' tk bs, vs[i]? = some v → Reads h' v (fp x xs) bs → (∀ b o, s.heap.get? b = some o → h'.get? b = some o) → Q v { s with heap := h', toks := tk }) → wpAny (model X.prog X.w) X.A (call (.builtin id) [.ref l]) Q X.xe s) :
    CallR X (.builtin id) (rMM X.K f) := by
  intro pins s σ H vs us Q I r h
  obtain ⟨a, ys, d, ds, rfl, hor, hk, O, rs, q⟩ := h
  obtain ⟨deep, al, hpl, dep⟩ := minOk_iff hk
  rw [Vals.ref1 r]
  have al' : PySem.W.AlikeAll (d.py :: D.pys ds) := al
  have dp' := dep _ hu
  have hr : ∀ {h' : Heap} {tk : Nat}, (∀ b o, s.heap.get? b = some o → h'.get? b = some o) → ∀ (e : D) (u : V) (v : Value), e ∈ d :: ds → Rep X.K (hid O H) u e → RelV u v → ∃ as, Reads h' v e.py as := fun {h' tk} k e u v he re ru =>
    (re.mono hid_ex).reads (I.kept (h' := h') (t' := tk) k) (pls_mem hpl he) ru
  have end_ : ∀ {its : List Value}, Vals ys its → ∀ (i : Nat) v h' tk bs, its.toArray[i]? = some v → Reads h' v (fp d.py (D.pys ds)) bs → (∀ b o, s.heap.get? b = some o → h'.get? b = some o) → EP X pins σ Q v { s with heap := h', toks := tk } := fun {its} rv i v h' tk bs hi rd k => by
    rw [hf] at rd
    obtain ⟨u, ru, rp⟩ := found_rep hpl (hm ds d) rv rs hi rd fun e u he re ru => hr (tk := tk) k e u v he re ru
    exact ⟨u, H, I.kept k, ru, q u rp⟩
  rcases hor with hl | ht
  · obtain ⟨its, rv, hl', _⟩ := I.list hl
    obtain ⟨as, rA⟩ := Dp.readsAll I _ _ _ ((rs.mono hid_ex).dp hpl) rv
    exact r1 (I.ok.hd hc) hl'.isList (by simpa [D.pys] using rA) al' dp' (end_ rv)
  · obtain ⟨its, rv, ht', _⟩ := I.tuple ht
    obtain ⟨as, rA⟩ := Dp.readsAll I _ _ _ ((rs.mono hid_ex).dp hpl) rv
    exact r2 (I.ok.hd hc) ht' (by simpa [D.pys] using rA) al' dp' (end_ rv)
theorem cd_min (hc : X.calm = true) (hu : X.A.units + 150 < cLine) : CallD X (.builtin "min") D.min := by
  refine ⟨_, CallR.or (cr_mm (f := D.minD) min_py minD_mem hc hu (fun a b c d e f => PySem.W.min_list_data a b c d e f) (fun a b c d e f => PySem.W.min_tuple_data a b c d e f)) (call_min2 hc), fun O H xs ds dz Q hO rs e q => ?_⟩
  unfold D.min at e
  split at e
  · split at e
    · rename_i hk
      cases e
      cases rs with
      | cons r1 r2 =>
        cases r2
        cases r1 with
        | lst h1 r1 => exact .inl ⟨_, _, _, _, rfl, .inl (SqL.of (hid_un h1)), hk, O, r1, fun u ru => q u H (fun _ _ h => h) ru⟩
    · cases e
  · split at e
    · rename_i hk
      cases e
      cases rs with
      | cons r1 r2 =>
        cases r2
        cases r1 with
        | tup h1 r1 => exact .inl ⟨_, _, _, _, rfl, .inr (SqT.un h1), hk, O, r1, fun u ru => q u H (fun _ _ h => h) ru⟩
    · cases e
  · cases e
    cases rs with
    | cons r1 r2 =>
      cases r1
      cases r2 with
      | cons r2 r3 =>
        cases r2
        cases r3
        exact .inr ⟨_, _, rfl, q _ H (fun _ _ h => h) (.int _)⟩
  · cases e
theorem cd_max (hc : X.calm = true) (hu : X.A.units + 150 < cLine) : CallD X (.builtin "max") D.max := by
  refine ⟨_, CallR.or (cr_mm (f := D.maxD) max_py maxD_mem hc hu (fun a b c d e f => PySem.W.max_list_data a b c d e f) (fun a b c d e f => PySem.W.max_tuple_data a b c d e f)) (call_max2 hc), fun O H xs ds dz Q hO rs e q => ?_⟩
  unfold D.max at e
  split at e
  · split at e
    · rename_i hk
      cases e
      cases rs with
      | cons r1 r2 =>
        cases r2
        cases r1 with
        | lst h1 r1 => exact .inl ⟨_, _, _, _, rfl, .inl (SqL.of (hid_un h1)), hk, O, r1, fun u ru => q u H (fun _ _ h => h) ru⟩
    · cases e
  · split at e
    · rename_i hk
      cases e
      cases rs with
      | cons r1 r2 =>
        cases r2
        cases r1 with
        | tup h1 r1 => exact .inl ⟨_, _, _, _, rfl, .inr (SqT.un h1), hk, O, r1, fun u ru => q u H (fun _ _ h => h) ru⟩
    · cases e
  · cases e
    cases rs with
    | cons r1 r2 =>
      cases r1
      cases r2 with
      | cons r2 r3 =>
        cases r2
        cases r3
        exact .inr ⟨_, _, rfl, q _ H (fun _ _ h => h) (.int _)⟩
  · cases e
end
end DL
set_option Elab.async false
set_option linter.all false
set_option maxRecDepth 100000
set_option maxHeartbeats 2000000
set_option autoImplicit false
namespace DL
open PySem L2
section
variable {X : Cx} {W : WX}
variable {xo : Addr → Prop} {Γ Γ' Γ1 Γ2 : SEnv} {σ : L2.St} {H H' H1 H2 : Hp} {p : Addr} {d : D} {i : Nat} {s : Sl}
/-! ### looking into an object that is still to be changed -/
def pkM (i : Nat) : M D := fun Γ => match Γ[i]? with
  | some s => match s.own with
    | some d => .ok d Γ
    | none => .no
  | none => .no
def D.flat : D → Bool
  | .non => true
  | .bl _ => true
  | .int _ => true
  | .str _ => true
  | _ => false
def flatO : Option D → Option D
  | some d => if d.flat = true then some d else none
  | none => none
theorem flatO_some {o : Option D} {d : D} (h : flatO o = some d) : o = some d ∧ d.flat = true := by
  cases o with
  | none => cases h
  | some e =>
    unfold flatO at h
    simp only at h
    split at h
    · rename_i q; cases h; exact ⟨rfl, q⟩
    · cases h
theorem Rep.fl {K : PySem.W.Frag} {S S' : Hp} {v : V} {d : D} (h : d.flat = true) (r : Rep K S v d) : Rep K S' v d := by
  cases r with
  | non => exact .non
  | bl b => exact .bl b
  | int i => exact .int i
  | str s => exact .str s
  | _ => cases h
theorem pk_some {Q : D → SEnv → Hp → Prop} (h : Ans X W xo Γ σ H (pkM i Γ) Q) : ∃ s d, Γ[i]? = some s ∧ s.own = some d ∧ Ans X W xo Γ σ H (.ok d Γ) Q := by
  unfold pkM at h
  cases e : Γ[i]? with
  | none => simp only [e] at h; exact False.elim h
  | some s =>
    simp only [e] at h
    cases e2 : s.own with
    | none => simp only [e2] at h; exact False.elim h
    | some d => simp only [e2] at h; exact ⟨s, d, rfl, e2, h⟩
/-- the hidden ones but p -/
abbrev Hb (xo : Addr → Prop) (Γ : SEnv) (σ : L2.St) (p : Addr) : Addr → Prop := fun a => Hd xo Γ σ a ∧ a ≠ p
theorem hb_le : Ex (vw xo Γ σ H) (hid (Hb xo Γ σ p) H) := hid_le fun _ z => z.1
theorem hb_rep (c : Cell X.K (vw xo Γ σ H) H p d) : Rep X.K (hid (Hb xo Γ σ p) H) (.ref p) d :=
  c.rep hb_le (by unfold hid; rw [if_neg fun z => z.2 rfl])
def pk2 (i : Nat) (g : D → D → Option D) (mb : M D) : M D := bnd (gdM i) fun _ => bnd mb fun b => bnd (pkM i) fun a => opt (flatO (g a b))
variable {a b c e : Expr} {es : List Expr} {x : Str} {px pos p2 : Pos} {ma mb mc m : M D}
theorem pk2_reads {r : R2} {g : D → D → Option D} {tb : TE} (hq : ∀ (O : Addr → Prop) (H : Hp) (x y : V) (dx dy dz : D) (Q : VK), (∀ a, O a → ∃ o, H a = some o) → Rep X.K (hid O H) x dx → Rep X.K (hid O H) y dy → g dx dy = some dz →
    (∀ v H', Ex H H' → Rep X.K (hid O H') v dz → Q v H') → r x y H Q)
    (gb : ∀ (xo : Addr → Prop) (Γ : SEnv) (σ : L2.St) (H : Hp) (Q : VK), OkS X.K xo Γ σ H → VAns X W xo Γ σ H (mb Γ) Q → tb σ H Q)
    (xo : Addr → Prop) (Γ : SEnv) (σ : L2.St) (H : Hp) (Q : VK) (k : OkS X.K xo Γ σ H) (h : VAns X W xo Γ σ H (pk2 i g mb Γ) Q) :
    tVar i σ H fun x H1 => tb σ H1 fun y H2 => r x y H2 Q := by
  obtain ⟨⟨v, hv⟩, h⟩ := gd_some k h
  refine ⟨v, hv, gb xo Γ σ H _ k ((Ans.bind h).imp fun b Γ2 H2 k2 s2 h2 y ry => ?_)⟩
  obtain ⟨s, d, e1, e2, h3⟩ := pk_some (Ans.bind h2)
  obtain ⟨p, hp, cl⟩ := k2.own_at e1 e2
  rw [hv] at hp
  cases hp
  obtain ⟨dz, e3, h4⟩ := (h3 H2 k2 .refl).opt
  obtain ⟨e4, fl⟩ := flatO_some e3
  exact hq (Hb xo Γ2 σ p) H2 _ _ _ _ _ _ (fun _ z => k2.hd_there z.1) (hb_rep cl) (ry.mono hb_le) e4 fun w H' ex rw' => Ans.grown k2 h4 ex w (rw'.fl fl)
theorem de_pk2 {op : Operator} {g : D → D → Option D} (ho : OpD X (binaryOp op) g) (ha : PE X (.Name x px) (tVar i)) (hb : DE X W b mb) : DE X W (.BinOp (.Name x px) op b pos) (pk2 i g mb) := by
  obtain ⟨r, hr, hq⟩ := ho
  obtain ⟨tb, pb, gb⟩ := hb.ex
  exact ⟨_, pe_op hr ha pb, pk2_reads hq gb⟩
theorem de_pkc {op : CmpOp} {g : D → D → Option D} (ho : OpD X (compareOp op) g) (ha : PE X (.Name x px) (tVar i)) (hb : DE X W b mb) (hm : behindInMarks op b = false) : DE X W (.Compare (.Name x px) [op] [b] pos) (pk2 i g mb) := by
  obtain ⟨r, hr, hq⟩ := ho
  obtain ⟨tb, pb, gb⟩ := hb.ex
  exact ⟨_, pe_cmpR hr ha pb hm, pk2_reads hq gb⟩
theorem dt_pkc {op : CmpOp} {g : D → D → Option D} (ho : OpD X (compareOp op) g) (ha : PE X (.Name x px) (tVar i)) (hb : DE X W b mb) (hm : behindInMarks op b = false) : DT X W (.Compare (.Name x px) [op] [b] pos) (asB (pk2 i g mb)) := by
  obtain ⟨r, hr, hq⟩ := ho
  obtain ⟨tb, pb, gb⟩ := hb.ex
  refine ⟨_, pt_cmpR hr ha pb hm, fun xo Γ σ H Q k h => ?_⟩
  refine pk2_reads hq gb xo Γ σ H _ k ((Ans.asB h).imp fun d Γ' H' k' st q v rv => ?_)
  obtain ⟨bb, rfl, q⟩ := q
  cases rv
  exact ⟨bb, rfl, q⟩
/-- e op name, the name's object still to be changed -/
def pk2r (i : Nat) (g : D → D → Option D) (mb : M D) : M D := bnd mb fun b => bnd (pkM i) fun a => opt (flatO (g b a))
theorem pk2r_reads {r : R2} {g : D → D → Option D} {tb : TE} (hq : ∀ (O : Addr → Prop) (H : Hp) (x y : V) (dx dy dz : D) (Q : VK), (∀ a, O a → ∃ o, H a = some o) → Rep X.K (hid O H) x dx → Rep X.K (hid O H) y dy → g dx dy = some dz →
    (∀ v H', Ex H H' → Rep X.K (hid O H') v dz → Q v H') → r x y H Q)
    (gb : ∀ (xo : Addr → Prop) (Γ : SEnv) (σ : L2.St) (H : Hp) (Q : VK), OkS X.K xo Γ σ H → VAns X W xo Γ σ H (mb Γ) Q → tb σ H Q)
    (xo : Addr → Prop) (Γ : SEnv) (σ : L2.St) (H : Hp) (Q : VK) (k : OkS X.K xo Γ σ H) (h : VAns X W xo Γ σ H (pk2r i g mb Γ) Q) :
    tb σ H fun y H1 => tVar i σ H1 fun x H2 => r y x H2 Q := by
  refine gb xo Γ σ H _ k ((Ans.bind h).imp fun b Γ2 H2 k2 s2 h2 y ry => ?_)
  obtain ⟨s, d, e1, e2, h3⟩ := pk_some (Ans.bind h2)
  obtain ⟨p, hp, cl⟩ := k2.own_at e1 e2
  obtain ⟨dz, e3, h4⟩ := (h3 H2 k2 .refl).opt
  obtain ⟨e4, fl⟩ := flatO_some e3
  exact ⟨_, hp, hq (Hb xo Γ2 σ p) H2 _ _ _ _ _ _ (fun _ z => k2.hd_there z.1) (ry.mono hb_le) (hb_rep cl) e4 fun w H' ex rw' => Ans.grown k2 h4 ex w (rw'.fl fl)⟩
theorem de_pkr {op : CmpOp} {g : D → D → Option D} (ho : OpD X (compareOp op) g) (ha : PE X (.Name x px) (tVar i)) (hb : DE X W b mb) (hm : behindInMarks op (.Name x px) = false) : DE X W (.Compare b [op] [.Name x px] pos) (pk2r i g mb) := by
  obtain ⟨r, hr, hq⟩ := ho
  obtain ⟨tb, pb, gb⟩ := hb.ex
  exact ⟨_, pe_cmpR hr pb ha hm, pk2r_reads hq gb⟩
theorem dt_pkr {op : CmpOp} {g : D → D → Option D} (ho : OpD X (compareOp op) g) (ha : PE X (.Name x px) (tVar i)) (hb : DE X W b mb) (hm : behindInMarks op (.Name x px) = false) : DT X W (.Compare b [op] [.Name x px] pos) (asB (pk2r i g mb)) := by
  obtain ⟨r, hr, hq⟩ := ho
  obtain ⟨tb, pb, gb⟩ := hb.ex
  refine ⟨_, pt_cmpR hr pb ha hm, fun xo Γ σ H Q k h => ?_⟩
  refine pk2r_reads hq gb xo Γ σ H _ k ((Ans.asB h).imp fun d Γ' H' k' st q v rv => ?_)
  obtain ⟨bb, rfl, q⟩ := q
  cases rv
  exact ⟨bb, rfl, q⟩
/-- name[e] -/
def pixM (i : Nat) (mb : M D) : M D := bnd (gdM i) fun _ => bnd mb fun b => bnd (pkM i) fun a => opt (D.ix a b)
theorem de_pix (hu : X.A.units + 150 < cLine) (ha : PE X (.Name x px) (tVar i)) (hb : DE X W b mb) (hs : PlainIx b) : DE X W (.Subscript (.Name x px) b pos) (pixM i mb) := by
  obtain ⟨tb, pb, gb⟩ := hb.ex
  refine ⟨_, pe_ix (IxR.or ix_seq (ix_dict hu)) ha pb hs, fun xo Γ σ H Q k h => ?_⟩
  obtain ⟨⟨v, hv⟩, h⟩ := gd_some k h
  refine ⟨v, hv, gb xo Γ σ H _ k ((Ans.bind h).imp fun b Γ2 H2 k2 s2 h2 y ry => ?_)⟩
  obtain ⟨s, d, e1, e2, h3⟩ := pk_some (Ans.bind h2)
  obtain ⟨p, hp, cl⟩ := k2.own_at e1 e2
  rw [hv] at hp
  cases hp
  obtain ⟨dz, e, h4⟩ := (h3 H2 k2 .refl).opt
  have fin : ∀ v, Rep X.K (vw xo Γ2 σ H2) v dz → Q v H2 := fun v rv => Ans.grown k2 h4 (fun _ _ h => h) v rv
  cases cl with
  | lst h1 r1 =>
    cases b with
    | int j =>
      change atI _ j = some dz at e
      cases ry
      obtain ⟨v, hv, rv⟩ := reps_at r1 e
      exact .inl (.inl ⟨_, _, _, _, rfl, rfl, SqL.of h1, hv, fin v rv⟩)
    | _ => cases e
  | @dK kvs ds h1 r1 =>
    have e' : (if (b.keyOk 0) = true then dval ds b else none) = some dz := by
      cases b <;> exact e
    split at e'
    · rename_i hk
      have hk' : b.key0.isSome = true := hk
      obtain ⟨kk, ek⟩ := Option.isSome_iff_exists.mp hk'
      have ed := key0_eq ek
      subst ed
      obtain ⟨v, hv, rv⟩ := (kreps_val kk r1).1 _ e'
      have ev := rep_key ry
      subst ev
      exact .inr ⟨_, v, rfl, .inl ⟨_, kk, .inl h1, rfl, hv.symm⟩, fin v rv⟩
    · cases e'
/-- f(name) -/
def pk1 (i : Nat) (g : List D → Option D) : M D := bnd (pkM i) fun a => opt (flatO (g [a]))
theorem pk1_reads {r : List V → Hp → VK → Prop} {g : List D → Option D} (hq : ∀ (O : Addr → Prop) (H : Hp) (xs : List V) (ds : List D) (dz : D) (Q : VK), (∀ a, O a → ∃ o, H a = some o) → Reps X.K (hid O H) xs ds → g ds = some dz →
    (∀ v H', Ex H H' → Rep X.K (hid O H') v dz → Q v H') → r xs H Q)
    (xo : Addr → Prop) (Γ : SEnv) (σ : L2.St) (H : Hp) (Q : VK) (k : OkS X.K xo Γ σ H) (h : VAns X W xo Γ σ H (pk1 i g Γ) Q) : tVar i σ H fun x H1 => r [x] H1 Q := by
  obtain ⟨s, d, e1, e2, h3⟩ := pk_some (Ans.bind h)
  obtain ⟨p, hp, cl⟩ := k.own_at e1 e2
  obtain ⟨dz, e3, h4⟩ := (h3 H k .refl).opt
  obtain ⟨e4, fl⟩ := flatO_some e3
  exact ⟨_, hp, hq (Hb xo Γ σ p) H _ _ _ _ (fun _ z => k.hd_there z.1) (.cons (hb_rep cl) .nil) e4 fun w H' ex rw' => Ans.grown k h4 ex w (rw'.fl fl)⟩
theorem de_pk1B {f : Str} {id : String} {g : List D → Option D} {pf : Pos} (hc : CallD X (.builtin id) g) (hg : Gl X f) (hm : X.mg f = none) (hv : bootBuiltins f = some (.builtin id)) (ha : PE X (.Name x px) (tVar i)) (hn : f ≠ "__name__" := by decide) (hdb : (f == ("__debug__" : Str)) = false := by decide)
    (he : starEach [.Name x px] X.env = [(false, eval (.Name x px) X.env)] := by rfl) (hpl : (backTo pos (starEach [] X.env)).any (·.1) = false := by rfl) : DE X W (.Call (.Name f pf) [.Name x px] [] pos) (pk1 i g) := by
  obtain ⟨r, hr, hq⟩ := hc
  exact ⟨_, pe_callB hr hg hm hv (pa_cons ha pa_nil he) hn hdb he hpl, pk1_reads hq⟩
/-! ### name.append(e); name[e] = v -/
def putM (i : Nat) (f : D → Option D) : M Unit := fun Γ => match Γ[i]? with
  | some s => match s.own with
    | some d => match f d with
      | some d' => .ok () (Γ.set i (s.put d'))
      | none => .no
    | none => .no
  | none => .no
def D.app (v : D) : D → Option D
  | .lst ds => if decide (ds.length < sizeLine) = true then some (.lst (ds ++ [v])) else none
  | _ => none
def kput (kvs : List (D × D)) (k v : D) : List (D × D) :=
  if (kvs.any fun kv => D.kq kv.1 k) = true then kvs.map (fun kv => if D.kq kv.1 k = true then (kv.1, v) else kv) else kvs ++ [(k, v)]
def D.setAt (k v : D) : D → Option D
  | .lst ds => match k with
    | .int j => (ixN ds.length j).map fun n => .lst (ds.set n v)
    | _ => none
  | .dct 0 kvs => if k.key0.isSome = true ∧ kvs.length < sizeLine then some (.dct 0 (kput kvs k v)) else none
  | _ => none
def D.isL : D → Bool
  | .lst _ => true
  | _ => false
def appS (i : Nat) (m : M D) : M Flow := bnd (pkM i) fun c => if c.isL = true then bnd m fun v => bnd (putM i (D.app v)) fun _ => ret .nx else fun _ => .no
def subS (i : Nat) (m mk : M D) : M Flow := bnd m fun v => bnd (gdM i) fun _ => bnd mk fun k => bnd (putM i (D.setAt k v)) fun _ => ret .nx
theorem put_some {f : D → Option D} {B : Ends} (h : SAns X W xo Γ σ H (bnd (putM i f) (fun _ => ret .nx) Γ) B) : ∃ s d d', Γ[i]? = some s ∧ s.own = some d ∧ f d = some d' ∧ SAns X W xo Γ σ H (.ok .nx (Γ.set i (s.put d'))) B := by
  unfold bnd putM at h
  cases e : Γ[i]? with
  | none => simp only [e] at h; exact False.elim h
  | some s =>
    simp only [e] at h
    cases e2 : s.own with
    | none => simp only [e2] at h; exact False.elim h
    | some d =>
      simp only [e2] at h
      cases e3 : f d with
      | none => simp only [e3] at h; exact False.elim h
      | some d' => simp only [e3] at h; exact ⟨s, d, d', rfl, e2, e3, h⟩
theorem kany {K : PySem.W.Frag} {S : Hp} (k : Key) : ∀ {kvs : List (Key × V)} {ds : List (D × D)}, KReps K S kvs ds → (ds.any fun kv => D.kq kv.1 (keyD k)) = kvs.any fun kv => decide (kv.1 = k)
  | [], _, .nil => rfl
  | (k', v') :: kvs, _, .cons r1 r2 => by
    rw [List.any_cons, List.any_cons, kany k r2]
    show (D.kq (keyD k') (keyD k) || _) = _
    rw [kq_key]
theorem kmap {K : PySem.W.Frag} {S : Hp} (k : Key) {v : V} {d : D} (r : Rep K S v d) : ∀ {kvs : List (Key × V)} {ds : List (D × D)}, KReps K S kvs ds →
    KReps K S (kvs.map (fun kv => if kv.1 = k then (kv.1, v) else kv)) (ds.map (fun kv => if D.kq kv.1 (keyD k) = true then (kv.1, d) else kv))
  | [], _, .nil => .nil
  | (k', v') :: kvs, _, .cons r1 r2 => by
    rw [List.map_cons, List.map_cons]
    show KReps K S ((if k' = k then (k', v) else (k', v')) :: _) ((if D.kq (keyD k') (keyD k) = true then (keyD k', d) else (keyD k', _)) :: _)
    rw [kq_key]
    by_cases h : k' = k
    · rw [if_pos h, if_pos (by simpa using h)]
      exact .cons r (kmap k r r2)
    · rw [if_neg h, if_neg (by simpa using h)]
      exact .cons r1 (kmap k r r2)
theorem kapp {K : PySem.W.Frag} {S : Hp} (k : Key) {v : V} {d : D} (r : Rep K S v d) : ∀ {kvs : List (Key × V)} {ds : List (D × D)}, KReps K S kvs ds → KReps K S (kvs ++ [(k, v)]) (ds ++ [(keyD k, d)])
  | [], _, .nil => .cons r .nil
  | (k', v') :: kvs, _, .cons r1 r2 => .cons r1 (kapp k r r2)
theorem kput_key {K : PySem.W.Frag} {S : Hp} (k : Key) {v : V} {d : D} (r : Rep K S v d) {kvs : List (Key × V)} {ds : List (D × D)} (h : KReps K S kvs ds) : KReps K S (putK kvs k v) (kput ds (keyD k) d) := by
  unfold putK kput
  rw [kany k h]
  split
  · exact kmap k r h
  · exact kapp k r h
theorem KReps.length {K : PySem.W.Frag} {S : Hp} : ∀ {kvs : List (Key × V)} {ds : List (D × D)}, KReps K S kvs ds → kvs.length = ds.length
  | _, _, .nil => rfl
  | _, _, .cons _ r => congrArg (· + 1) (KReps.length r)
theorem pk_s {f : D → M Flow} {B : Ends} (h : SAns X W xo Γ σ H (bnd (pkM i) f Γ) B) : ∃ s d, Γ[i]? = some s ∧ s.own = some d ∧ SAns X W xo Γ σ H (f d Γ) B := by
  unfold bnd pkM at h
  cases e : Γ[i]? with
  | none => simp only [e] at h; exact False.elim h
  | some s =>
    simp only [e] at h
    cases e2 : s.own with
    | none => simp only [e2] at h; exact False.elim h
    | some d => simp only [e2] at h; exact ⟨s, d, rfl, e2, h⟩
theorem gd_s {α : Type} {f : M Flow} {B : Ends} (k : OkS X.K xo Γ σ H) (h : SAns X W xo Γ σ H (bnd (gdM i) (fun _ => f) Γ) B) : (∃ v, σ[i]? = some (some v)) ∧ SAns X W xo Γ σ H (f Γ) B := by
  unfold bnd gdM at h
  cases e : Γ[i]? with
  | none => simp only [e] at h; exact False.elim h
  | some s =>
    simp only [e] at h
    cases e2 : s.own with
    | none => simp only [e2] at h; exact False.elim h
    | some c =>
      simp only [e2] at h
      obtain ⟨p, hp, _⟩ := k.own_at e e2
      exact ⟨⟨_, hp⟩, h⟩
theorem ds_append {apos cpos : Pos} (ha : PE X (.Name x px) (tVar i)) (he : DE X W e m) (hbase : attributeBase (.Name x px) "append" X.env (eval (.Name x px) X.env) = eval (.Name x px) X.env := by rfl)
    (hfew : ((backTo cpos (starEach [e] X.env)).all (fun x => !x.1) && (backToKw cpos (keywordEach [] X.env)).all (fun x => x.1.isSome) && decide ([e].length + ([] : List Keyword).length + (if ([] : List Keyword).isEmpty then 0 else 1) < 30)) = true := by rfl)
    (hline : (apos.endLine == cpos.line) = true := by rfl) (hs : starEach [e] X.env = [(false, eval e X.env)] := by rfl) (hplain : (backTo cpos (starEach [] X.env)).any (·.1) = false := by rfl)
    (hw : swapsWith (.Call (.Attribute (.Name x px) "append" apos) [e] [] cpos) none pos.line X.env = pure false := by rfl) : DS X W (.Expr (.Call (.Attribute (.Name x px) "append" apos) [e] [] cpos) pos) (appS i m) := by
  obtain ⟨t, q, g⟩ := he.ex
  refine ⟨_, ps_expr (pe_bm PySem.F.plainAttrs_list PySem.F.slot_list_append PySem.F.type_list_append mt_append ha (pa_cons q pa_nil hs) hbase hfew hline hs hplain) hw, fun xo Γ σ H B k h => ?_⟩
  obtain ⟨s0, c0, e1, e2, h⟩ := pk_s h
  obtain ⟨p, hv, cl⟩ := k.own_at e1 e2
  cases cl with
  | dK _ _ => exact False.elim h
  | @lst xs0 ds0 hh0 rr0 =>
    refine ⟨_, hv, .inl ⟨rfl, _, SqL.of hh0⟩, ?_⟩
    refine g xo Γ σ H _ k ((SAns.bind h).imp fun v Γ2 H2 k2 s2 h2 y ry => ?_)
    obtain ⟨s, d, d', e3, e4, e5, h3⟩ := put_some h2
    obtain ⟨p2, hp2, c2⟩ := k2.own_at e3 e4
    rw [hv] at hp2
    cases hp2
    cases c2 with
    | dK _ _ => cases e5
    | @lst xs ds hh rr =>
      unfold D.app at e5
      simp only at e5
      split at e5
      · rename_i hl
        cases e5
        obtain ⟨k3, s3⟩ := k2.chg e3 e4 hv (o := .lst (xs ++ [y])) (.lst upd_same (rr.append (.cons ry .nil)))
        exact ⟨_, _, _, rfl, rfl, hh, by rw [rr.length]; exact of_decide_eq_true hl, h3 σ _ k3 s3⟩
      · cases e5
theorem ds_sub (hu : X.A.units + 1 < cLine) (ha : PE X (.Name x px) (tVar i)) (he : DE X W e m) (hk : DE X W b mb)
    (hag : ∀ v, assign (.Subscript (.Name x px) b p2) X.env v = (do
      let ov ← holding [v] (eval (.Name x px) X.env)
      let iv ← holding [v, ov] (eval b X.env)
      standAt p2
      holding [v, ov, iv] (setItem ov iv v)
      release [v, ov, iv] []) := by intro _; rfl) (hs : swapsWithSole [.Subscript (.Name x px) b p2] e pos.line X.env = pure false := by rfl) (hw : swappedStores [.Subscript (.Name x px) b p2] e X.env = pure none := by rfl)
    (h1 : (assignEach [.Subscript (.Name x px) b p2] X.env).map (·.2) = [assign (.Subscript (.Name x px) b p2) X.env] := by rfl) : DS X W (.Assign [.Subscript (.Name x px) b p2] e pos) (subS i m mb) := by
  obtain ⟨t, q, g⟩ := he.ex
  obtain ⟨u, r, f⟩ := hk.ex
  have PS0 : PSet X (fun o i v H Q => rSetL o i v H Q ∨ rSetD o i v H Q) := fun pins s σ H o i v ov iv u Q I r1 r2 r3 z => z.elim (set_list pins s σ H o i v ov iv u Q I r1 r2 r3) (set_dict hu pins s σ H o i v ov iv u Q I r1 r2 r3)
  refine ⟨_, ps_asg q (pg_sub ha r PS0 hag) hs hw h1, fun xo Γ σ H B k h => ?_⟩
  refine g xo Γ σ H _ k ((SAns.bind h).imp fun v Γ1 H1 k1 s1 h1 y ry => ?_)
  obtain ⟨⟨w, hv⟩, h1⟩ := gd_s (α := Unit) k1 h1
  refine ⟨w, hv, f xo Γ1 σ H1 _ k1 ((SAns.bind h1).imp fun kk Γ2 H2 k2 s2 h2 z rz => ?_)⟩
  obtain ⟨s, d, d', e3, e4, e5, h3⟩ := put_some h2
  obtain ⟨p, hp2, c2⟩ := k2.own_at e3 e4
  rw [hv] at hp2
  cases hp2
  have ry2 := s2.rep ry
  cases c2 with
  | @lst xs ds hh rr =>
    cases kk with
    | int j =>
      change (ixN ds.length j).map _ = some d' at e5
      rw [Option.map_eq_some_iff] at e5
      obtain ⟨n, en, rfl⟩ := e5
      cases rz
      obtain ⟨k3, s3⟩ := k2.chg e3 e4 hv (o := .lst (xs.set n y)) (.lst upd_same (rr.set n ry2))
      exact .inl ⟨_, _, _, n, rfl, rfl, hh, by rw [rr.length]; exact en, h3 σ _ k3 s3⟩
    | _ => cases e5
  | @dK kvs ds hh rr =>
    change (if kk.key0.isSome = true ∧ ds.length < sizeLine then some (D.dct 0 (kput ds kk v)) else none) = some d' at e5
    split at e5
    · rename_i hc
      cases e5
      obtain ⟨k0, ek⟩ := Option.isSome_iff_exists.mp hc.1
      have ed := key0_eq ek
      subst ed
      have ev := rep_key rz
      subst ev
      obtain ⟨k3, s3⟩ := k2.chg e3 e4 hv (o := .dK (putK kvs k0 y)) (.dK upd_same (kput_key k0 ry2 rr))
      exact .inr ⟨_, _, rfl, .inl ⟨kvs, k0, hh, rfl, by rw [rr.length]; exact hc.2, rfl⟩, h3 σ _ k3 s3⟩
    · cases e5
end
end DL
set_option Elab.async false
set_option linter.all false
set_option maxRecDepth 100000
set_option maxHeartbeats 2000000
set_option autoImplicit false
namespace DL
open PySem L2
section
variable {X : Cx} {W : WX}
variable {xo : Addr → Prop} {Γ Γ0 Γ1 Γ2 : SEnv} {σ : L2.St} {H H0 H1 H2 : Hp} {vs : List Nat}
/-- the turns of a comprehension -/
theorem lc_turnsG {J : It} {ds : List D} {g : D → M Unit} {t : M Bool} {e : M D} {tg : TG} {tt : TT} {te : TE} {is : List Nat} {R : Hp → Prop} {p : Addr}
    (gg : ∀ (xo : Addr → Prop) (Γ : SEnv) (σ : L2.St) (H : Hp) (v : V) (d : D) (Γ' : SEnv) (Q : L2.St → Hp → Prop), OkS X.K xo Γ σ H → Rep X.K (vw xo Γ σ H) v d → g d Γ = .ok () Γ' →
      (∀ σ', OkS X.K xo Γ' σ' H → Step xo Γ σ H Γ' σ' H → (∀ j, j ∉ is → σ'[j]? = σ[j]?) → Q σ' H) → tg v σ H Q)
    (gt : ∀ (xo : Addr → Prop) (Γ : SEnv) (σ : L2.St) (H : Hp) (Q : Bool → Hp → Prop), OkS X.K xo Γ σ H → Ans X WN xo Γ σ H (t Γ) (fun b _ H' => Q b H') → tt σ H Q)
    (ge : ∀ (xo : Addr → Prop) (Γ : SEnv) (σ : L2.St) (H : Hp) (Q : VK), OkS X.K xo Γ σ H → VAns X WN xo Γ σ H (e Γ) Q → te σ H Q)
    (his : ∀ j ∈ is, j ∈ vs) (her : ∀ d Γ x Γ', g d Γ ≠ .er x Γ')
    {S0 : Hp} {Γs : SEnv} {Hs : Hp} {xs0 : List V} {acc0 : List D} (hJ : ItR X.K S0 J ds) (hS : Ex S0 (vw (xo1 xo p) Γs (L2.wipe σ vs) Hs)) (npx : ¬ xo p) (ks : OkS X.K (xo1 xo p) Γs (L2.wipe σ vs) Hs) (hp0 : Hs p = some (.lst xs0)) (rs0 : Reps X.K (vw (xo1 xo p) Γs (L2.wipe σ vs) Hs) xs0 acc0)
    (fin : ∀ acc Γ' H' xs, OkS X.K (xo1 xo p) Γ' (L2.wipe σ vs) H' → StepL xo p Γs (L2.wipe σ vs) Hs Γ' (L2.wipe σ vs) H' → H' p = some (.lst xs) → Reps X.K (vw (xo1 xo p) Γ' (L2.wipe σ vs) H') xs acc → lcL vs g t e ds acc0 Γs = .ok acc Γ' → R H')
    (ok : ∃ acc Γ', lcL vs g t e ds acc0 Γs = .ok acc Γ') :
    ∃ W : Nat → Nat → Hp → Prop, (∃ m, W 0 m Hs) ∧ ∀ i m H, W i m H →
      (J.stop i H ∧ R H) ∨ (J.go i H ∧ ∃ Nx : Hp → Prop, (∀ H', Nx H' → ∃ m', m' < m ∧ W (i + 1) m' H') ∧ ∀ x H', J.yld i H x H' → tg x (L2.wipe σ vs) H' fun σ2 H2 => L2.wipe σ2 vs = L2.wipe σ vs ∧ tt σ2 H2 fun b H3 =>
        if b = true then te σ2 H3 fun y H4 => ∃ acc, H4 p = some (.lst acc) ∧ acc.length < sizeLine ∧ Nx (upd H4 p (.lst (acc ++ [y]))) else Nx H3) := by
  -- what holds ahead of turn i
  let Inv : Nat → Hp → Prop := fun i H => ∃ (Γ' : SEnv) (acc : List D) (xs : List V), OkS X.K (xo1 xo p) Γ' (L2.wipe σ vs) H ∧ StepL xo p Γs (L2.wipe σ vs) Hs Γ' (L2.wipe σ vs) H ∧
    H p = some (.lst xs) ∧ Reps X.K (vw (xo1 xo p) Γ' (L2.wipe σ vs) H) xs acc ∧ lcL vs g t e (ds.drop i) acc Γ' = lcL vs g t e ds acc0 Γs
  refine ⟨fun i m H => m = ds.length - i ∧ i ≤ ds.length ∧ Inv i H, ⟨ds.length, rfl, Nat.zero_le _, Γs, acc0, xs0, ks, Step.toL .refl, hp0, rs0, rfl⟩, ?_⟩
  rintro i m H ⟨rfl, hi, Γ', acc, xs, k, st, hp, rs, eq⟩
  have up : Ex S0 (vw (xo1 xo p) Γ' (L2.wipe σ vs) H) := fun a o q => st.sh a o (hS a o q)
  by_cases hlt : i < ds.length
  · have hd : ds[i]? = some ds[i] := List.getElem?_eq_getElem hlt
    obtain ⟨acc0, Γ0', e0⟩ := ok
    rw [drop_of hd, e0] at eq
    unfold lcL at eq
    obtain ⟨_, Γ2, q1, eq⟩ := bnd_ok eq
    obtain ⟨b, Γ3, q2, eq⟩ := bnd_ok eq
    obtain ⟨go, yl⟩ := hJ.go (Hd (xo1 xo p) Γ' (L2.wipe σ vs)) H (fun a q => k.hd_there q) up i _ hd
    refine .inr ⟨go, Inv (i + 1), fun H' q => ⟨ds.length - (i + 1), by omega, rfl, hlt, q⟩, fun x H' y => ?_⟩
    obtain ⟨ex, rx⟩ := yl x H' y
    have k' := k.ext ex
    have s1 : Step (xo1 xo p) Γ' (L2.wipe σ vs) H Γ' (L2.wipe σ vs) H' := .ext ex
    refine gg (xo1 xo p) Γ' (L2.wipe σ vs) H' x _ Γ2 _ k' rx q1 fun σ2 k2 s2 f2 => ?_
    have ew : L2.wipe σ2 vs = L2.wipe σ vs := by
      rw [wipe_eq (σ := L2.wipe σ vs) (by rw [← k2.len, s2.len, k'.len]) fun j hj => f2 j fun z => hj (his j z), wipe_wipe]
    refine ⟨ew, ?_⟩
    refine gt (xo1 xo p) Γ2 σ2 H' _ k2 ?_
    rw [noEr_ok q2]
    intro H3 k3 s3
    have s123 := (s1.trans s2).trans s3
    cases b with
    | false =>
      refine iteF ?_
      rw [if_neg Bool.false_ne_true] at eq
      obtain ⟨_, Γ4, q3, eq⟩ := bnd_ok eq
      obtain ⟨rfl, hno⟩ := wipM_ok q3
      obtain ⟨k4, s4⟩ := OkS.wipe (vs := vs) k3 hno
      rw [ew] at k4 s4
      have s14 := s123.trans s4
      exact ⟨_, acc, xs, k4, st.trans s14.toL, s14.xk p _ (.inr rfl) hp, rs.mono s14.sh, by rw [eq, e0]⟩
    | true =>
      refine iteT ?_
      rw [if_pos rfl] at eq
      obtain ⟨y, Γ4, q3, eq⟩ := bnd_ok eq
      refine ge (xo1 xo p) Γ3 σ2 H3 _ k3 ?_
      rw [noEr_ok q3]
      intro H4 k4 s4 v rv
      by_cases hz : sizeOk (acc.length + 1) = true
      · rw [if_pos hz] at eq
        obtain ⟨_, Γ5, q4, eq⟩ := bnd_ok eq
        obtain ⟨rfl, hno⟩ := wipM_ok q4
        have s14 := s123.trans s4
        have hp4 : H4 p = some (.lst xs) := s14.xk p _ (.inr rfl) hp
        have hl : xs.length < sizeLine := by
          have := of_decide_eq_true hz
          rw [rs.length]
          omega
        refine ⟨xs, hp4, hl, ?_⟩
        -- the list grows: it is hidden
        have hid : Hd (xo1 xo p) Γ4 σ2 p := .inl (.inr rfl)
        have ev : vw (xo1 xo p) Γ4 σ2 (upd H4 p (.lst (xs ++ [v]))) = vw (xo1 xo p) Γ4 σ2 H4 := hid_upd hid
        have k5 : OkS X.K (xo1 xo p) Γ4 σ2 (upd H4 p (.lst (xs ++ [v]))) := by
          refine ⟨k4.len, fun i s h => ?_, k4.dj, k4.xd, fun a q => ?_⟩
          · rw [ev]
            have r := k4.ok i s h
            have ne : ∀ x, s.own = some x → ∀ q, σ2.getD i none = some (.ref q) → q ≠ p := fun x hx q hq z => by
              subst z
              have hj : i < σ2.length := by rw [← k4.len]; exact (List.getElem?_eq_some_iff.mp h).1
              refine k4.xd i s x q h hx ?_ (.inr rfl)
              rw [List.getElem?_eq_getElem hj]
              rw [List.getD_eq_getElem?_getD, List.getElem?_eq_getElem hj] at hq
              exact congrArg some hq
            generalize σ2.getD i none = w at r ne
            cases r with
            | no => exact .no
            | sh r => exact .sh r
            | ow c => exact .ow (c.mono (fun _ _ z => z) (upd_ne (ne _ rfl _ rfl)))
            | io c => exact .io (c.mono (fun _ _ z => z) (upd_ne (ne _ rfl _ rfl)))
          · obtain ⟨o, ho⟩ := k4.xt a q
            by_cases z : a = p
            · subst z; exact ⟨_, upd_same⟩
            · exact ⟨o, by rw [upd_ne z]; exact ho⟩
        obtain ⟨k6, s6⟩ := OkS.wipe (vs := vs) k5 hno
        rw [ew] at k6 s6
        have e6 : Ex (vw (xo1 xo p) Γ4 σ2 H4) (vw (xo1 xo p) (wipeG Γ4 vs) (L2.wipe σ vs) (upd H4 p (.lst (xs ++ [v])))) := fun a o q => s6.sh a o (by rw [ev]; exact q)
        refine ⟨_, acc ++ [y], xs ++ [v], k6, ⟨fun a o q => e6 a o (s14.sh a o (st.sh a o q)), fun a o q hq => ?_, fun j d q => ?_, ?_⟩, upd_same, ?_, by rw [eq, e0]⟩
        · have z := s14.xk a o (.inl q) (st.xk a o q hq)
          have ne : a ≠ p := fun z => npx (z ▸ q)
          rw [upd_ne ne]
          exact z
        · obtain ⟨g1, d1, h1⟩ := (st.trans s14.toL).io j d q
          obtain ⟨g2, d2, h2⟩ := s6.io j d1 h1
          exact ⟨g2.trans g1, d2, h2⟩
        · exact s6.len.trans (s14.len.trans st.len)
        · refine Reps.append ((rs.mono s14.sh).mono e6) (.cons (rv.mono e6) .nil)
      · rw [if_neg hz] at eq
        cases eq
  · have hi' : i = ds.length := by omega
    subst hi'
    rw [List.drop_length] at eq
    refine .inl ⟨hJ.stop (Hd (xo1 xo p) Γ' (L2.wipe σ vs)) H up _ (Nat.le_refl _), ?_⟩
    exact fin acc Γ' H xs k st hp rs eq.symm
/-! ### two fors -/
def lc2L (vs vs1 : List Nat) (g : D → M Unit) (t : M Bool) (mi1 : M (List D)) (g1 : D → M Unit) (t1 : M Bool) (e : M D) : List D → List D → M (List D)
  | [], acc => ret acc
  | d :: ds, acc => bnd (g d) fun _ => bnd (noEr t) fun b => if b = true then bnd (noEr mi1) fun ds1 => bnd (wipM vs1) fun _ => bnd (lcL vs1 g1 t1 e ds1 acc) fun acc' => bnd (wipM vs) fun _ => lc2L vs vs1 g t mi1 g1 t1 e ds acc'
    else bnd (wipM vs) fun _ => lc2L vs vs1 g t mi1 g1 t1 e ds acc
def lc2M (vs vs1 : List Nat) (mi : M (List D)) (g : D → M Unit) (t : M Bool) (mi1 : M (List D)) (g1 : D → M Unit) (t1 : M Bool) (e : M D) : M D :=
  bnd mi fun ds => bnd (savM vs) fun Γ0 => bnd (wipM vs) fun _ => bnd (lc2L vs vs1 g t mi1 g1 t1 e ds []) fun acc => bnd (rstM vs Γ0) fun _ => ret (.lst acc)
theorem wipM_er {vs : List Nat} {x : Exn} {Γ Γ' : SEnv} (h : wipM vs Γ = .er x Γ') : False := by unfold wipM at h; split at h <;> cases h
theorem lc2L_er {vs vs1 : List Nat} {g g1 : D → M Unit} {t t1 : M Bool} {mi1 : M (List D)} {e : M D} (her : ∀ d Γ x Γ', g d Γ ≠ .er x Γ') (her1 : ∀ d Γ x Γ', g1 d Γ ≠ .er x Γ') : ∀ (ds acc : List D) (Γ : SEnv) (x : Exn) (Γ' : SEnv), lc2L vs vs1 g t mi1 g1 t1 e ds acc Γ ≠ .er x Γ'
  | [], acc, Γ, x, Γ', h => by cases h
  | d :: ds, acc, Γ, x, Γ', h => by
    unfold lc2L at h
    rcases bnd_er h with h | ⟨_, Γ1, _, h⟩
    · exact her _ _ _ _ h
    rcases bnd_er h with h | ⟨b, Γ2, _, h⟩
    · exact noEr_er h
    split at h
    · rcases bnd_er h with h | ⟨y, Γ3, _, h⟩
      · exact noEr_er h
      rcases bnd_er h with h | ⟨_, Γ4, _, h⟩
      · exact wipM_er h
      rcases bnd_er h with h | ⟨_, Γ5, _, h⟩
      · exact lcL_er her1 _ _ _ _ _ h
      rcases bnd_er h with h | ⟨_, Γ6, _, h⟩
      · exact wipM_er h
      · exact lc2L_er her her1 _ _ _ _ _ h
    · rcases bnd_er h with h | ⟨_, Γ4, _, h⟩
      · exact wipM_er h
      · exact lc2L_er her her1 _ _ _ _ _ h
theorem lc2_turns {J : It} {ds : List D} {g g1 : D → M Unit} {t t1 : M Bool} {mi1 : M (List D)} {e : M D} {tg tg1 : TG} {tt tt1 : TT} {wi1 : TI} {te : TE} {is is1 vs1 : List Nat} {Q : VK} {p : Addr} {Γ1 : SEnv}
    (gg : ∀ (xo : Addr → Prop) (Γ : SEnv) (σ : L2.St) (H : Hp) (v : V) (d : D) (Γ' : SEnv) (Q : L2.St → Hp → Prop), OkS X.K xo Γ σ H → Rep X.K (vw xo Γ σ H) v d → g d Γ = .ok () Γ' →
      (∀ σ', OkS X.K xo Γ' σ' H → Step xo Γ σ H Γ' σ' H → (∀ j, j ∉ is → σ'[j]? = σ[j]?) → Q σ' H) → tg v σ H Q)
    (gt : ∀ (xo : Addr → Prop) (Γ : SEnv) (σ : L2.St) (H : Hp) (Q : Bool → Hp → Prop), OkS X.K xo Γ σ H → Ans X WN xo Γ σ H (t Γ) (fun b _ H' => Q b H') → tt σ H Q)
    (gi1 : ∀ (xo : Addr → Prop) (Γ : SEnv) (σ : L2.St) (H : Hp) (R : It → Hp → Prop), OkS X.K xo Γ σ H → Ans X WN xo Γ σ H (mi1 Γ) (fun ds Γ' H' => ∀ J, ItR X.K (vw xo Γ' σ H') J ds → R J H') → wi1 σ H R)
    (gg1 : ∀ (xo : Addr → Prop) (Γ : SEnv) (σ : L2.St) (H : Hp) (v : V) (d : D) (Γ' : SEnv) (Q : L2.St → Hp → Prop), OkS X.K xo Γ σ H → Rep X.K (vw xo Γ σ H) v d → g1 d Γ = .ok () Γ' →
      (∀ σ', OkS X.K xo Γ' σ' H → Step xo Γ σ H Γ' σ' H → (∀ j, j ∉ is1 → σ'[j]? = σ[j]?) → Q σ' H) → tg1 v σ H Q)
    (gt1 : ∀ (xo : Addr → Prop) (Γ : SEnv) (σ : L2.St) (H : Hp) (Q : Bool → Hp → Prop), OkS X.K xo Γ σ H → Ans X WN xo Γ σ H (t1 Γ) (fun b _ H' => Q b H') → tt1 σ H Q)
    (ge : ∀ (xo : Addr → Prop) (Γ : SEnv) (σ : L2.St) (H : Hp) (Q : VK), OkS X.K xo Γ σ H → VAns X WN xo Γ σ H (e Γ) Q → te σ H Q)
    (his : ∀ j ∈ is, j ∈ vs) (his1 : ∀ j ∈ is1, j ∈ vs1) (h1s : ∀ j ∈ vs1, j ∈ vs) (her : ∀ d Γ x Γ', g d Γ ≠ .er x Γ') (her1 : ∀ d Γ x Γ', g1 d Γ ≠ .er x Γ')
    (hJ : ItR X.K (vw xo Γ1 σ H1) J ds) (np : H1 p = none) (k1 : OkS X.K xo Γ1 σ H1) (hvs : ∀ i ∈ vs, ∀ d, Γ1[i]? ≠ some (.io d))
    (fin : ∀ acc Γ' H', OkS X.K (xo1 xo p) Γ' (L2.wipe σ vs) H' → StepL xo p (wipeG Γ1 vs) (L2.wipe σ vs) (upd H1 p (.lst [])) Γ' (L2.wipe σ vs) H' → Cell X.K (vw (xo1 xo p) Γ' (L2.wipe σ vs) H') H' p (.lst acc) → lc2L vs vs1 g t mi1 g1 t1 e ds [] (wipeG Γ1 vs) = .ok acc Γ' → Q (.ref p) H')
    (ok : ∃ acc Γ', lc2L vs vs1 g t mi1 g1 t1 e ds [] (wipeG Γ1 vs) = .ok acc Γ') :
    ∃ W : Nat → Nat → Hp → Prop, (∃ m, W 0 m (upd H1 p (.lst []))) ∧ ∀ i m H, W i m H →
      (J.stop i H ∧ Q (.ref p) H) ∨ (J.go i H ∧ ∃ Nx : Hp → Prop, (∀ H', Nx H' → ∃ m', m' < m ∧ W (i + 1) m' H') ∧ ∀ x H', J.yld i H x H' → tg x (L2.wipe σ vs) H' fun σ2 H2 => L2.wipe σ2 vs = L2.wipe σ vs ∧ tt σ2 H2 fun b H3 =>
        if b = true then wi1 σ2 H3 fun J1 H4 => ∃ W1 : Nat → Nat → Hp → Prop, (∃ m, W1 0 m H4) ∧ ∀ j k H, W1 j k H →
          (J1.stop j H ∧ Nx H) ∨ (J1.go j H ∧ ∃ Nx1 : Hp → Prop, (∀ H', Nx1 H' → ∃ k', k' < k ∧ W1 (j + 1) k' H') ∧ ∀ x H', J1.yld j H x H' → tg1 x (L2.wipe σ2 vs1) H' fun σ3 H5 => L2.wipe σ3 vs1 = L2.wipe σ2 vs1 ∧ tt1 σ3 H5 fun b H6 =>
            if b = true then te σ3 H6 fun y H7 => ∃ acc, H7 p = some (.lst acc) ∧ acc.length < sizeLine ∧ Nx1 (upd H7 p (.lst (acc ++ [y]))) else Nx1 H6)
        else Nx H3) := by
  obtain ⟨kw, sw⟩ := OkS.wipe (vs := vs) k1 hvs
  have k2 : OkS X.K (xo1 xo p) (wipeG Γ1 vs) (L2.wipe σ vs) (upd H1 p (.lst [])) := kw.fresh np
  have npx : ¬ xo p := fun q => by
    obtain ⟨u, hu⟩ := k1.xt p q
    rw [np] at hu
    cases hu
  let Inv : Nat → Hp → Prop := fun i H => ∃ (Γ' : SEnv) (acc : List D) (xs : List V), OkS X.K (xo1 xo p) Γ' (L2.wipe σ vs) H ∧ StepL xo p (wipeG Γ1 vs) (L2.wipe σ vs) (upd H1 p (.lst [])) Γ' (L2.wipe σ vs) H ∧
    H p = some (.lst xs) ∧ Reps X.K (vw (xo1 xo p) Γ' (L2.wipe σ vs) H) xs acc ∧ lc2L vs vs1 g t mi1 g1 t1 e (ds.drop i) acc Γ' = lc2L vs vs1 g t mi1 g1 t1 e ds [] (wipeG Γ1 vs)
  refine ⟨fun i m H => m = ds.length - i ∧ i ≤ ds.length ∧ Inv i H, ⟨ds.length, rfl, Nat.zero_le _, wipeG Γ1 vs, [], [], k2, Step.toL .refl, upd_same, .nil, rfl⟩, ?_⟩
  rintro i m H ⟨rfl, hi, Γ', acc, xs, k, st, hp, rs, eq⟩
  have up : Ex (vw xo Γ1 σ H1) (vw (xo1 xo p) Γ' (L2.wipe σ vs) H) := fun a o q => st.sh a o (by rw [vw_new np]; exact sw.sh a o q)
  by_cases hlt : i < ds.length
  · have hd : ds[i]? = some ds[i] := List.getElem?_eq_getElem hlt
    obtain ⟨acc0, Γ0', e0⟩ := ok
    rw [drop_of hd, e0] at eq
    unfold lc2L at eq
    obtain ⟨_, Γ2, q1, eq⟩ := bnd_ok eq
    obtain ⟨b, Γ3, q2, eq⟩ := bnd_ok eq
    obtain ⟨go, yl⟩ := hJ.go (Hd (xo1 xo p) Γ' (L2.wipe σ vs)) H (fun a q => k.hd_there q) up i _ hd
    refine .inr ⟨go, Inv (i + 1), fun H' q => ⟨ds.length - (i + 1), by omega, rfl, hlt, q⟩, fun x H' y => ?_⟩
    obtain ⟨ex, rx⟩ := yl x H' y
    have k' := k.ext ex
    have s1 : Step (xo1 xo p) Γ' (L2.wipe σ vs) H Γ' (L2.wipe σ vs) H' := .ext ex
    refine gg (xo1 xo p) Γ' (L2.wipe σ vs) H' x _ Γ2 _ k' rx q1 fun σ2 k2 s2 f2 => ?_
    have ew : L2.wipe σ2 vs = L2.wipe σ vs := by
      rw [wipe_eq (σ := L2.wipe σ vs) (by rw [← k2.len, s2.len, k'.len]) fun j hj => f2 j fun z => hj (his j z), wipe_wipe]
    refine ⟨ew, ?_⟩
    refine gt (xo1 xo p) Γ2 σ2 H' _ k2 ?_
    rw [noEr_ok q2]
    intro H3 k3 s3
    have s123 := (s1.trans s2).trans s3
    cases b with
    | false =>
      refine iteF ?_
      rw [if_neg Bool.false_ne_true] at eq
      obtain ⟨_, Γ4, q3, eq⟩ := bnd_ok eq
      obtain ⟨rfl, hno⟩ := wipM_ok q3
      obtain ⟨k4, s4⟩ := OkS.wipe (vs := vs) k3 hno
      rw [ew] at k4 s4
      have s14 := s123.trans s4
      exact ⟨_, acc, xs, k4, st.trans s14.toL, s14.xk p _ (.inr rfl) hp, rs.mono s14.sh, by rw [eq, e0]⟩
    | true =>
      refine iteT ?_
      rw [if_pos rfl] at eq
      obtain ⟨ds1, Γ4, q3, eq⟩ := bnd_ok eq
      obtain ⟨_, Γ5, q4, eq⟩ := bnd_ok eq
      obtain ⟨acc1, Γ6, q5, eq⟩ := bnd_ok eq
      obtain ⟨_, Γ7, q6, eq⟩ := bnd_ok eq
      obtain ⟨rfl, hno1⟩ := wipM_ok q4
      obtain ⟨rfl, hno⟩ := wipM_ok q6
      refine gi1 (xo1 xo p) Γ3 σ2 H3 _ k3 ?_
      rw [noEr_ok q3]
      intro H4 k4 s4 J1 hJ1
      obtain ⟨k5, s5⟩ := OkS.wipe (vs := vs1) k4 hno1
      have s15 := (s123.trans s4).trans s5
      have hp5 := s15.xk p _ (.inr rfl) hp
      refine lc_turnsG (vs := vs1) (σ := σ2) (g := g1) (t := t1) (e := e) (is := is1) gg1 gt1 ge his1 her1 hJ1 (fun a o q => s5.sh a o q) npx k5 hp5 (rs.mono s15.sh) ?_ ⟨acc1, Γ6, q5⟩
      intro acc2 Γ8 H8 xs8 k8 st8 hp8 rs8 e8
      rw [q5] at e8
      cases e8
      obtain ⟨k9, s9⟩ := OkS.wipe (vs := vs) k8 hno
      have ew2 : L2.wipe (L2.wipe σ2 vs1) vs = L2.wipe σ vs := by
        rw [wipe_eq (σ := σ2) (wipe_length σ2 vs1) fun j hj => wipe_ne fun z => hj (h1s j z), ew]
      rw [ew2] at k9 s9
      have hp9 : H8 p = some (.lst xs8) := hp8
      exact ⟨_, acc1, xs8, k9, (st.trans s15.toL).trans (st8.trans s9.toL), hp9, rs8.mono s9.sh, by rw [eq, e0]⟩
  · have hi' : i = ds.length := by omega
    subst hi'
    rw [List.drop_length] at eq
    refine .inl ⟨hJ.stop (Hd (xo1 xo p) Γ' (L2.wipe σ vs)) H up _ (Nat.le_refl _), ?_⟩
    exact fin acc Γ' H k st (.lst hp rs) eq.symm
theorem pi_inf {ι : Type} {F : ι → Cx} {tg e : Expr} {t : ι → TI} (h : ∀ i, PI (F i) tg e (t i)) (i : ι) : PI (F i) tg e (fun σ H Q => ∀ j, t j σ H Q) := ⟨fun pins s σ H Q I q => (h i).run pins s σ H Q I (q i)⟩
end
end DL
set_option Elab.async false
set_option linter.all false
set_option maxRecDepth 100000
set_option maxHeartbeats 2000000
set_option autoImplicit false
namespace DL
open PySem L2
section
variable {X : Cx} {W : WX}
theorem lc2_reads {tg iter tg1 iter1 elt : Expr} {ifs ifs1 : List Expr} {scope : Scope} {own : List (Str × Nat)} {mi mi1 : M (List D)} {g g1 : D → M Unit} {t t1 : M Bool} {e : M D} {is is1 vs1 : List Nat}
    (hi : DI X W tg iter mi) (hg : ∀ (s : Shared) (H : Hp) (C : Addr) (cl : List (Str × Addr)) (fp : List Addr), DG (X.blk s H scope (compEnvC scope cl C X.env) fp) tg g is) (her : ∀ d Γ x Γ', g d Γ ≠ .er x Γ') (his : ∀ j ∈ is, j ∈ own.map (·.2))
    (hi1 : ∀ (s : Shared) (H : Hp) (C : Addr) (cl : List (Str × Addr)) (fp : List Addr), DI (X.blk s H scope (compEnvC scope cl C X.env) fp) WN tg1 iter1 mi1)
    (hg1 : ∀ (s : Shared) (H : Hp) (C : Addr) (cl : List (Str × Addr)) (fp : List Addr), DG (X.blk s H scope (compEnvC scope cl C X.env) fp) tg1 g1 is1) (her1 : ∀ d Γ x Γ', g1 d Γ ≠ .er x Γ') (his1 : ∀ j ∈ is1, j ∈ vs1) (h1s : ∀ j ∈ vs1, j ∈ own.map (·.2))
    (ht1 : ∀ (s : Shared) (H : Hp) (C : Addr) (cl : List (Str × Addr)) (fp : List Addr), DTs (X.blk s H scope (compEnvC scope cl C X.env) fp) WN ifs1 t1)
    (ht : ∀ (s : Shared) (H : Hp) (C : Addr) (cl : List (Str × Addr)) (fp : List Addr), DTs (X.blk s H scope (compEnvC scope cl C X.env) fp) WN ifs t)
    (he : ∀ (s : Shared) (H : Hp) (C : Addr) (cl : List (Str × Addr)) (fp : List Addr), DE (X.blk s H scope (compEnvC scope cl C X.env) fp) WN elt e) :
    ∃ (wi wi1 : TI) (g' g1' : TG) (tt tt1 : TT) (te : TE), PI X tg iter wi ∧ (∀ (s : Shared) (H : Hp) (C : Addr) (cl : List (Str × Addr)) (fp : List Addr), PI (X.blk s H scope (compEnvC scope cl C X.env) fp) tg1 iter1 wi1) ∧ (∀ (s : Shared) (H : Hp) (C : Addr) (cl : List (Str × Addr)) (fp : List Addr), PG (X.blk s H scope (compEnvC scope cl C X.env) fp) tg1 g1') ∧
      (∀ (s : Shared) (H : Hp) (C : Addr) (cl : List (Str × Addr)) (fp : List Addr), PTs (X.blk s H scope (compEnvC scope cl C X.env) fp) ifs1 tt1) ∧ (∀ (s : Shared) (H : Hp) (C : Addr) (cl : List (Str × Addr)) (fp : List Addr), PG (X.blk s H scope (compEnvC scope cl C X.env) fp) tg g') ∧
      (∀ (s : Shared) (H : Hp) (C : Addr) (cl : List (Str × Addr)) (fp : List Addr), PTs (X.blk s H scope (compEnvC scope cl C X.env) fp) ifs tt) ∧ (∀ (s : Shared) (H : Hp) (C : Addr) (cl : List (Str × Addr)) (fp : List Addr), PE (X.blk s H scope (compEnvC scope cl C X.env) fp) elt te) ∧
      ∀ (xo : Addr → Prop) (Γ : SEnv) (σ : L2.St) (H : Hp) (Q : VK), OkS X.K xo Γ σ H → NAns X W xo Γ σ H (lc2M (own.map (·.2)) vs1 mi g t mi1 g1 t1 e Γ) Q → tLc2 wi g' tt wi1 g1' tt1 te (own.map (·.2)) vs1 σ H Q := by
  obtain ⟨wi, pw, gi⟩ := hi.ex
  let ι := Shared × Hp × Addr × List (Str × Addr) × List Addr
  let F : ι → Cx := fun j => X.blk j.1 j.2.1 scope (compEnvC scope j.2.2.2.1 j.2.2.1 X.env) j.2.2.2.2
  have hg' : ∀ j : ι, ∃ t : TG, PG (F j) tg t ∧ _ := fun j => (hg j.1 j.2.1 j.2.2.1 j.2.2.2.1 j.2.2.2.2).ex
  have ht' : ∀ j : ι, ∃ t : TT, PTs (F j) ifs t ∧ _ := fun j => (ht j.1 j.2.1 j.2.2.1 j.2.2.2.1 j.2.2.2.2).ex
  have he' : ∀ j : ι, ∃ t : TE, PE (F j) elt t ∧ _ := fun j => (he j.1 j.2.1 j.2.2.1 j.2.2.2.1 j.2.2.2.2).ex
  have hi1' : ∀ j : ι, ∃ t : TI, PI (F j) tg1 iter1 t ∧ _ := fun j => (hi1 j.1 j.2.1 j.2.2.1 j.2.2.2.1 j.2.2.2.2).ex
  have hg1' : ∀ j : ι, ∃ t : TG, PG (F j) tg1 t ∧ _ := fun j => (hg1 j.1 j.2.1 j.2.2.1 j.2.2.2.1 j.2.2.2.2).ex
  have ht1' : ∀ j : ι, ∃ t : TT, PTs (F j) ifs1 t ∧ _ := fun j => (ht1 j.1 j.2.1 j.2.2.1 j.2.2.2.1 j.2.2.2.2).ex
  refine ⟨wi, fun σ H Q => ∀ j, (hi1' j).choose σ H Q, fun v σ H Q => ∀ j, (hg' j).choose v σ H Q, fun v σ H Q => ∀ j, (hg1' j).choose v σ H Q, fun σ H Q => ∀ j, (ht' j).choose σ H Q, fun σ H Q => ∀ j, (ht1' j).choose σ H Q, fun σ H Q => ∀ j, (he' j).choose σ H Q, pw,
    fun s H C cl fp => pi_inf (F := F) (fun j => (hi1' j).choose_spec.1) (s, H, C, cl, fp), fun s H C cl fp => pg_inf (F := F) (fun j => (hg1' j).choose_spec.1) (s, H, C, cl, fp), fun s H C cl fp => pts_inf (F := F) (fun j => (ht1' j).choose_spec.1) (s, H, C, cl, fp),
    fun s H C cl fp => pg_inf (F := F) (fun j => (hg' j).choose_spec.1) (s, H, C, cl, fp), fun s H C cl fp => pts_inf (F := F) (fun j => (ht' j).choose_spec.1) (s, H, C, cl, fp), fun s H C cl fp => pe_inf (F := F) (fun j => (he' j).choose_spec.1) (s, H, C, cl, fp), ?_⟩
  intro xo Γ σ H Q k h
  have h0 := NAns.bind h
  refine gi xo Γ σ H _ k (h0.imp fun ds Γ1 H1 k1 s1 h1 J hJ p np => ?_)
  have h2 := h1 H1 k1 .refl
  -- the slots kept, wiped; the turns
  cases e1 : savM (own.map (·.2)) Γ1 with
  | no => unfold bnd at h2; rw [e1] at h2; exact False.elim h2
  | er x Γ' => unfold savM at e1; split at e1 <;> cases e1
  | ok Γ0 Γ2 =>
    obtain ⟨rfl, rfl, hno⟩ := savM_ok e1
    cases e2 : wipM (own.map (·.2)) Γ2 with
    | no => unfold bnd at h2; rw [e1] at h2; simp only [e2] at h2; exact False.elim h2
    | er x Γ' => unfold wipM at e2; split at e2 <;> cases e2
    | ok u Γ3 =>
      obtain ⟨rfl, hio⟩ := wipM_ok e2
      cases e3 : lc2L (own.map (·.2)) vs1 g t mi1 g1 t1 e ds [] (wipeG Γ2 (own.map (·.2))) with
      | no => unfold bnd at h2; rw [e1] at h2; simp only [e2, e3] at h2; exact False.elim h2
      | er x Γ' => exact absurd e3 (lc2L_er her her1 _ _ _ _ _)
      | ok acc Γ4 =>
        have h3 : NAns X W xo Γ2 σ H1 (.ok (.lst acc) (rstG Γ2 Γ4 (own.map (·.2)))) Q := by
          unfold bnd at h2
          rw [e1] at h2
          simp only [e2, e3] at h2
          exact h2
        refine lc2_turns (Γ1 := Γ2) (tg := fun v σ H Q => ∀ j, (hg' j).choose v σ H Q) (tg1 := fun v σ H Q => ∀ j, (hg1' j).choose v σ H Q) (is := is) (is1 := is1) (g := g) (t := t) (mi1 := mi1) (g1 := g1) (t1 := t1) (e := e) (fun xo Γ σ H v d Γ' Q k r q hq j => (hg' j).choose_spec.2 xo Γ σ H v d Γ' Q k r q hq) (fun xo Γ σ H Q k a j => (ht' j).choose_spec.2 xo Γ σ H Q k a)
          (fun xo Γ σ H Q k a j => (hi1' j).choose_spec.2 xo Γ σ H Q k a) (fun xo Γ σ H v d Γ' Q k r q hq j => (hg1' j).choose_spec.2 xo Γ σ H v d Γ' Q k r q hq) (fun xo Γ σ H Q k a j => (ht1' j).choose_spec.2 xo Γ σ H Q k a) (fun xo Γ σ H Q k a j => (he' j).choose_spec.2 xo Γ σ H Q k a) his his1 h1s her her1 hJ np k1 hio ?_ ⟨acc, Γ4, e3⟩
        intro acc' Γ' H' k' st c e4
        rw [e3] at e4
        cases e4
        have kf : OkS X.K (xo1 xo p) Γ2 σ (upd H1 p (.lst [])) := k1.fresh np
        obtain ⟨kw, sw⟩ := OkS.wipe (vs := own.map (·.2)) kf hio
        obtain ⟨b1, b2, b3⟩ := OkS.back kf hno k' (fun a o q => st.sh a o (sw.sh a o q)) (fun i d q => by
          obtain ⟨_, d1, q1⟩ := sw.io i d q
          exact (st.io i d1 q1).2) (st.len.trans (wipeG_len _))
        refine h3 p H' b1 ⟨fun a o q => b2 a o (st.sh a o (sw.sh a o (by rw [vw_new np]; exact q))), fun a o q hq => st.xk a o q (by
          have ne : a ≠ p := fun z => by rw [z, np] at hq; cases hq
          rw [upd_ne ne]; exact hq), fun i d q => ⟨rfl, b3 i d q⟩, by rw [rstG_len]; exact st.len.trans (wipeG_len _), fun q => ?_⟩ (c.mono b2 rfl)
        rcases q with q | ⟨i, s, d, q1, q2, q3⟩
        · exact k1.new np (.inl q)
        · exact b1.xd i s d p q1 q2 q3 (.inr rfl)
theorem df_lc2 {tg iter tg1 iter1 elt : Expr} {ifs ifs1 : List Expr} {scope : Scope} {own : List (Str × Nat)} {mi mi1 : M (List D)} {g g1 : D → M Unit} {t t1 : M Bool} {e : M D} {is is1 vs1 : List Nat} {pos : Pos} (hc : X.calm = true) (hN : X.N.Nodup) (ok : BlkOk X.N X.env.scope scope own)
    (hi : DI X W tg iter mi) (hg : ∀ (s : Shared) (H : Hp) (C : Addr) (cl : List (Str × Addr)) (fp : List Addr), DG (X.blk s H scope (compEnvC scope cl C X.env) fp) tg g is) (her : ∀ d Γ x Γ', g d Γ ≠ .er x Γ') (his : ∀ j ∈ is, j ∈ own.map (·.2))
    (hi1 : ∀ (s : Shared) (H : Hp) (C : Addr) (cl : List (Str × Addr)) (fp : List Addr), DI (X.blk s H scope (compEnvC scope cl C X.env) fp) WN tg1 iter1 mi1)
    (hg1 : ∀ (s : Shared) (H : Hp) (C : Addr) (cl : List (Str × Addr)) (fp : List Addr), DG (X.blk s H scope (compEnvC scope cl C X.env) fp) tg1 g1 is1) (her1 : ∀ d Γ x Γ', g1 d Γ ≠ .er x Γ') (his1 : ∀ j ∈ is1, j ∈ vs1) (h1s : ∀ j ∈ vs1, j ∈ own.map (·.2))
    (ht1 : ∀ (s : Shared) (H : Hp) (C : Addr) (cl : List (Str × Addr)) (fp : List Addr), DTs (X.blk s H scope (compEnvC scope cl C X.env) fp) WN ifs1 t1)
    (ht : ∀ (s : Shared) (H : Hp) (C : Addr) (cl : List (Str × Addr)) (fp : List Addr), DTs (X.blk s H scope (compEnvC scope cl C X.env) fp) WN ifs t)
    (he : ∀ (s : Shared) (H : Hp) (C : Addr) (cl : List (Str × Addr)) (fp : List Addr), DE (X.blk s H scope (compEnvC scope cl C X.env) fp) WN elt e) (hs : ∀ x, foldedSetIterable iter X.env x = pure x := by intro _; rfl) (hs1 : ∀ env x, foldedSetIterable iter1 env x = pure x := by intro _ _; rfl) :
    DF X W (.ListComp elt [⟨tg, iter, ifs, 0⟩, ⟨tg1, iter1, ifs1, 0⟩] scope pos) (lc2M (own.map (·.2)) vs1 mi g t mi1 g1 t1 e) := by
  obtain ⟨wi, wi1, g', g1', tt, tt1, te, p1, q1, q2, q3, p2, p3, p4, sem⟩ := lc2_reads hi hg her his hi1 hg1 her1 his1 h1s ht1 ht he
  exact ⟨_, pe_lc2 hc hN p1 ok h1s p2 p3 q1 q2 q3 p4 hs hs1, sem⟩
/-- y = [..] -/
theorem ds_lc2_sh {tg iter tg1 iter1 elt : Expr} {ifs ifs1 : List Expr} {scope : Scope} {own : List (Str × Nat)} {mi mi1 : M (List D)} {g g1 : D → M Unit} {t t1 : M Bool} {e : M D} {is is1 vs1 : List Nat} {pos spos py : Pos} {i : Nat} {y : Str} (md : Bool) (hc : X.calm = true) (hN : X.N.Nodup)
    (hy : X.N[i]? = some y) (hyl : X.env.scope.names.lookup y = some .local) (hsw : swapsWith (.ListComp elt [⟨tg, iter, ifs, 0⟩, ⟨tg1, iter1, ifs1, 0⟩] scope pos) (some (.Name y py)) spos.line X.env = pure true) (ok : BlkOk X.N X.env.scope scope own)
    (hi : DI X W tg iter mi) (hg : ∀ (s : Shared) (H : Hp) (C : Addr) (cl : List (Str × Addr)) (fp : List Addr), DG (X.blk s H scope (compEnvC scope cl C X.env) fp) tg g is) (her : ∀ d Γ x Γ', g d Γ ≠ .er x Γ') (his : ∀ j ∈ is, j ∈ own.map (·.2))
    (hi1 : ∀ (s : Shared) (H : Hp) (C : Addr) (cl : List (Str × Addr)) (fp : List Addr), DI (X.blk s H scope (compEnvC scope cl C X.env) fp) WN tg1 iter1 mi1)
    (hg1 : ∀ (s : Shared) (H : Hp) (C : Addr) (cl : List (Str × Addr)) (fp : List Addr), DG (X.blk s H scope (compEnvC scope cl C X.env) fp) tg1 g1 is1) (her1 : ∀ d Γ x Γ', g1 d Γ ≠ .er x Γ') (his1 : ∀ j ∈ is1, j ∈ vs1) (h1s : ∀ j ∈ vs1, j ∈ own.map (·.2))
    (ht1 : ∀ (s : Shared) (H : Hp) (C : Addr) (cl : List (Str × Addr)) (fp : List Addr), DTs (X.blk s H scope (compEnvC scope cl C X.env) fp) WN ifs1 t1)
    (ht : ∀ (s : Shared) (H : Hp) (C : Addr) (cl : List (Str × Addr)) (fp : List Addr), DTs (X.blk s H scope (compEnvC scope cl C X.env) fp) WN ifs t)
    (he : ∀ (s : Shared) (H : Hp) (C : Addr) (cl : List (Str × Addr)) (fp : List Addr), DE (X.blk s H scope (compEnvC scope cl C X.env) fp) WN elt e) (hs : ∀ x, foldedSetIterable iter X.env x = pure x := by intro _; rfl) (hs1 : ∀ env x, foldedSetIterable iter1 env x = pure x := by intro _ _; rfl) :
    DS X W (.Assign [.Name y py] (.ListComp elt [⟨tg, iter, ifs, 0⟩, ⟨tg1, iter1, ifs1, 0⟩] scope pos) spos) (asgM (lc2M (own.map (·.2)) vs1 mi g t mi1 g1 t1 e) (if md = true then stO i else stS i)) := by
  obtain ⟨wi, wi1, g', g1', tt, tt1, te, p1, q1, q2, q3, p2, p3, p4, sem⟩ := lc2_reads hi hg her his hi1 hg1 her1 his1 h1s ht1 ht he
  have ps := ps_setLc2 (spos := spos) (pos := pos) (py := py) hc hN hy hyl hsw p1 ok h1s p2 p3 q1 q2 q3 p4 hs hs1
  cases md with
  | true =>
    rw [if_pos rfl]
    exact own_end ps sem
  | false =>
    rw [if_neg Bool.false_ne_true]
    exact set_end ps fun xo Γ σ H Q k a => sem xo Γ σ H Q k (nans_of a)
end
end DL
set_option Elab.async false
set_option linter.all false
set_option maxRecDepth 100000
set_option maxHeartbeats 2000000
set_option autoImplicit false
namespace DL
open PySem L2
section
variable {X : Cx} {W : WX}
variable {xo : Addr → Prop} {Γ Γ' Γ1 Γ2 : SEnv} {σ : L2.St} {H H' H1 H2 : Hp} {p : Addr} {d : D}
variable {a b c e tg : Expr} {es : List Expr} {x : Str} {px pos p0 p2 : Pos} {ma mb mc m : M D}
/-! ### a op b op' c -/
def opB (o : Option D) : M Bool := match o with
  | some (.bl b) => ret b
  | _ => fun _ => .no
def chainM (g g' : D → D → Option D) (ma mb mc : M D) : M D := bnd ma fun a => bnd mb fun b => bnd (opB (g a b)) fun t => if t = true then bnd mc fun c => opt (g' b c) else ret (.bl false)
theorem Ans.opB {o : Option D} {Q : Bool → SEnv → Hp → Prop} (h : Ans X W xo Γ σ H (opB o Γ) Q) : ∃ b, o = some (.bl b) ∧ Ans X W xo Γ σ H (.ok b Γ) Q := by
  cases o with
  | none => exact False.elim h
  | some d => cases d with
    | bl b => exact ⟨b, rfl, h⟩
    | _ => exact False.elim h
theorem chain_reads {r r' : R2} {g g' : D → D → Option D} {ta tb tc : TE}
    (hq : ∀ (O : Addr → Prop) (H : Hp) (x y : V) (dx dy dz : D) (Q : VK), (∀ a, O a → ∃ o, H a = some o) → Rep X.K (hid O H) x dx → Rep X.K (hid O H) y dy → g dx dy = some dz → (∀ v H', Ex H H' → Rep X.K (hid O H') v dz → Q v H') → r x y H Q)
    (hq' : ∀ (O : Addr → Prop) (H : Hp) (x y : V) (dx dy dz : D) (Q : VK), (∀ a, O a → ∃ o, H a = some o) → Rep X.K (hid O H) x dx → Rep X.K (hid O H) y dy → g' dx dy = some dz → (∀ v H', Ex H H' → Rep X.K (hid O H') v dz → Q v H') → r' x y H Q)
    (ga : ∀ (xo : Addr → Prop) (Γ : SEnv) (σ : L2.St) (H : Hp) (Q : VK), OkS X.K xo Γ σ H → VAns X W xo Γ σ H (ma Γ) Q → ta σ H Q)
    (gb : ∀ (xo : Addr → Prop) (Γ : SEnv) (σ : L2.St) (H : Hp) (Q : VK), OkS X.K xo Γ σ H → VAns X W xo Γ σ H (mb Γ) Q → tb σ H Q)
    (gc : ∀ (xo : Addr → Prop) (Γ : SEnv) (σ : L2.St) (H : Hp) (Q : VK), OkS X.K xo Γ σ H → VAns X W xo Γ σ H (mc Γ) Q → tc σ H Q)
    (xo : Addr → Prop) (Γ : SEnv) (σ : L2.St) (H : Hp) (Q : VK) (k : OkS X.K xo Γ σ H) (h : VAns X W xo Γ σ H (chainM g g' ma mb mc Γ) Q) : tChain r r' ta tb tc σ H Q := by
  refine run2 ga gb k h fun x y da db Γ2 H2 k2 rx ry h2 => ?_
  obtain ⟨t, e, h3⟩ := Ans.opB (Ans.bind h2)
  refine hq _ _ _ _ _ _ _ _ (fun _ q => k2.hd_there q) rx ry e fun v H' ex rv => ?_
  have h4 := Ans.grown k2 h3 ex
  have k3 := k2.ext ex
  cases rv
  refine ⟨t, rfl, ?_⟩
  cases t with
  | false =>
    refine iteF ?_
    exact Ans.ret k3 h4 _ (.bl false)
  | true =>
    refine iteT ?_
    refine gc _ _ _ _ _ k3 ((Ans.bind h4).imp fun cc Γ4 H4 k4 s4 h5 w rw' => ?_)
    obtain ⟨dz, e2, h6⟩ := h5.opt
    exact hq' _ _ _ _ _ _ _ _ (fun _ q => k4.hd_there q) (s4.rep (ry.mono (hid_of ex))) rw' e2 fun v H5 ex5 rv => Ans.grown k4 h6 ex5 v rv
theorem de_chain {op op' : CmpOp} {g g' : D → D → Option D} (ho : OpD X (compareOp op) g) (ho' : OpD X (compareOp op') g') (ha : DE X W a ma) (hb : DE X W b mb) (hc : DE X W c mc) (hm : lastMarks [op, op'] [b, c] = false := by with_unfolding_all rfl) :
    DE X W (.Compare a [op, op'] [b, c] pos) (chainM g g' ma mb mc) := by
  obtain ⟨r, hr, hq⟩ := ho
  obtain ⟨r', hr', hq'⟩ := ho'
  obtain ⟨ta, pa, ga⟩ := ha.ex
  obtain ⟨tb, pb, gb⟩ := hb.ex
  obtain ⟨tc, pc, gc⟩ := hc.ex
  exact ⟨_, pe_chain hr hr' pa pb pc hm, chain_reads hq hq' ga gb gc⟩
theorem dt_chain {op op' : CmpOp} {g g' : D → D → Option D} (ho : OpD X (compareOp op) g) (ho' : OpD X (compareOp op') g') (ha : DE X W a ma) (hb : DE X W b mb) (hc : DE X W c mc) (hm : lastMarks [op, op'] [b, c] = false := by with_unfolding_all rfl) :
    DT X W (.Compare a [op, op'] [b, c] pos) (asB (chainM g g' ma mb mc)) := by
  obtain ⟨r, hr, hq⟩ := ho
  obtain ⟨r', hr', hq'⟩ := ho'
  obtain ⟨ta, pa, ga⟩ := ha.ex
  obtain ⟨tb, pb, gb⟩ := hb.ex
  obtain ⟨tc, pc, gc⟩ := hc.ex
  refine ⟨_, pt_chain hr hr' pa pb pc hm, fun xo Γ σ H Q k h => ?_⟩
  refine chain_reads hq hq' ga gb gc xo Γ σ H _ k ((Ans.asB h).imp fun d Γ' H' k' st q v rv => ?_)
  obtain ⟨bb, rfl, q⟩ := q
  cases rv
  exact ⟨bb, rfl, q⟩
/-! ### isinstance(x, T) -/
def D.tyN : D → Option String
  | .non => some "NoneType"
  | .bl _ => some "bool"
  | .int _ => some "int"
  | .str _ => some "str"
  | .tup _ => some "tuple"
  | .lst _ => some "list"
  | .scr _ => some "list"
  | .dct 0 _ => some "dict"
  | _ => none
def isiO (T : String) (d : D) : Option D := (d.tyN.bind fun n => kitB n T).map .bl
theorem tyx_of {K : PySem.W.Frag} {S : Hp} {v : V} {d : D} {n : String} (r : Rep K S v d) (h : d.tyN = some n) : TyX K S v (.type n) := by
  cases r with
  | non => cases h; exact .base .non
  | bl b => cases h; exact .base (.bl b)
  | int i => cases h; exact .base (.int i)
  | str s => cases h; exact .base (.str s)
  | tup q r =>
    cases h
    rcases q with (q | ⟨o, q⟩) | ⟨o, its, n, q1, q2, _⟩
    · exact .base (.tup q)
    · exact .fTuple q
    · exact .kTuple q1 q2
  | lst q r => cases h; exact .base (.lst q)
  | scr q =>
    cases h
    rcases q with (q | ⟨o, q⟩) | ⟨o, its, n, q1, q2, _⟩
    · exact .base (.lst q)
    · exact .base (.frz q)
    · exact .kList q1 q2
  | ptr a => cases h
  | exc _ _ _ _ _ _ => cases h
  | dK q r =>
    cases h
    rcases q with q | ⟨o, q⟩
    · exact .base (.dK q)
    · exact .fDict q
theorem tyx_mono {K : PySem.W.Frag} {O : Addr → Prop} {H : Hp} {v : V} {d : D} {n : String} (r : Rep K (hid O H) v d) (h : d.tyN = some n) : TyX K H v (.type n) := tyx_of (r.mono hid_ex) h
def isiM (T : String) (m : M D) : M D := bnd m fun d => opt (isiO T d)
theorem de_isi {T : String} {t : Str} {pt pf : Pos} (hg : Gl X "isinstance") (hm : X.mg "isinstance" = none) (hgt : Gl X t) (hmt : X.mg t = none) (hv : bootBuiltins t = some (.type T)) (ha : DE X W e m) (hb : bootBuiltins "isinstance" = some (.builtin "isinstance") := by rfl)
    (hn : t ≠ "__name__" := by decide) (hd : (t == ("__debug__" : Str)) = false := by decide)
    (h1 : starEach [.Name t pt] X.env = [(false, eval (.Name t pt) X.env)] := by rfl) (he : starEach [e, .Name t pt] X.env = (false, eval e X.env) :: starEach [.Name t pt] X.env := by rfl) (hpl : (backTo pos (starEach [.Name t pt] X.env)).any (·.1) = false := by rfl) :
    DE X W (.Call (.Name "isinstance" pf) [e, .Name t pt] [] pos) (isiM T m) := by
  obtain ⟨u, q, g⟩ := ha.ex
  refine ⟨_, pe_callB call_isi hg hm hb (pa_cons q (pa_cons (pe_bltn (v := .ty T) hgt hmt hv rfl hn hd) pa_nil h1) he) (by decide) (by decide) he hpl, fun xo Γ σ H Q k h => ?_⟩
  refine g xo Γ σ H _ k ((Ans.bind h).imp fun d Γ' H' k' st h' v rv => ?_)
  obtain ⟨dz, e1, h3⟩ := h'.opt
  unfold isiO at e1
  rw [Option.map_eq_some_iff] at e1
  obtain ⟨b, e2, rfl⟩ := e1
  rw [Option.bind_eq_some_iff] at e2
  obtain ⟨n, e3, e4⟩ := e2
  exact ⟨v, .ty T, .type n, .type T, b, rfl, .ty T, tyx_mono rv e3, kit_ty e4, h3 H' k' .refl _ (.bl b)⟩
/-! ### text methods -/
def D.join (z : Str) : D → Option D
  | .lst ds => (D.texts ds).bind fun ys => if decide ((ys.map (·.length)).sum + ys.length * z.length ≤ 16777216) = true then some (.str (Txt.join z ys)) else none
  | .tup ds => (D.texts ds).bind fun ys => if decide ((ys.map (·.length)).sum + ys.length * z.length ≤ 16777216) = true then some (.str (Txt.join z ys)) else none
  | _ => none
def D.split (z : Str) : D → Option D
  | .str b => if decide ((b.length == 0) = false ∧ z.length + 2 ≤ sizeLine) = true then some (.lst ((Txt.split z b).map .str)) else none
  | _ => none
def strM (g : Str → D → Option D) (ma mb : M D) : M D := bnd ma fun a => match a with
  | .str z => bnd mb fun b => opt (g z b)
  | _ => fun _ => .no
theorem str_reads {r : V → List V → Hp → VK → Prop} {g : Str → D → Option D} {to te : TE}
    (hq : ∀ (O : Addr → Prop) (H : Hp) (z : Str) (y : V) (dy dz : D) (Q : VK), (∀ a, O a → ∃ o, H a = some o) → Rep X.K (hid O H) y dy → g z dy = some dz → (∀ v H', Ex H H' → Rep X.K (hid O H') v dz → Q v H') → r (.str z) [y] H Q)
    (ga : ∀ (xo : Addr → Prop) (Γ : SEnv) (σ : L2.St) (H : Hp) (Q : VK), OkS X.K xo Γ σ H → VAns X W xo Γ σ H (ma Γ) Q → to σ H Q)
    (gb : ∀ (xo : Addr → Prop) (Γ : SEnv) (σ : L2.St) (H : Hp) (Q : VK), OkS X.K xo Γ σ H → VAns X W xo Γ σ H (mb Γ) Q → te σ H Q)
    (xo : Addr → Prop) (Γ : SEnv) (σ : L2.St) (H : Hp) (Q : VK) (k : OkS X.K xo Γ σ H) (h : VAns X W xo Γ σ H (strM g ma mb Γ) Q) : tM1 r to te σ H Q := by
  refine ga xo Γ σ H _ k ((Ans.bind h).imp fun d Γ1 H1 k1 s1 h1 v rv => ?_)
  cases d with
  | str z =>
    cases rv
    refine ⟨⟨z, rfl⟩, gb _ _ _ _ _ k1 ((Ans.bind h1).imp fun b Γ2 H2 k2 s2 h2 y ry => ?_)⟩
    obtain ⟨dz, e, h3⟩ := h2.opt
    exact hq _ _ _ _ _ _ _ (fun _ q => k2.hd_there q) ry e fun v H' ex rv => Ans.grown k2 h3 ex v rv
  | _ => exact False.elim h1
theorem de_join {apos : Pos} (ha : DE X W a ma) (hb : DE X W b mb) (hs : starEach [b] X.env = [(false, eval b X.env)] := by rfl) (hbase : attributeBase a "join" X.env (eval a X.env) = eval a X.env := by rfl) (hline : (apos.endLine == pos.line) = true := by rfl) :
    DE X W (.Call (.Attribute a "join" apos) [b] [] pos) (strM D.join ma mb) := by
  obtain ⟨ta, pa, ga⟩ := ha.ex
  obtain ⟨tb, pb, gb⟩ := hb.ex
  refine ⟨_, pe_join pa pb hs hbase hline, str_reads (fun O H z y dy dz Q hO ry e q => ?_) ga gb⟩
  unfold D.join at e
  split at e
  · rename_i ds
    rw [Option.bind_eq_some_iff] at e
    obtain ⟨ys, e1, e2⟩ := e
    split at e2
    · rename_i hz
      cases e2
      have := texts_eq e1
      subst this
      cases ry with
      | lst q1 r1 =>
        have := r1.strs
        subst this
        exact ⟨z, _, ys, rfl, rfl, .inl (SqL.of (hid_un q1)), of_decide_eq_true hz, q _ H (fun _ _ h => h) (.str _)⟩
    · cases e2
  · rename_i ds
    rw [Option.bind_eq_some_iff] at e
    obtain ⟨ys, e1, e2⟩ := e
    split at e2
    · rename_i hz
      cases e2
      have := texts_eq e1
      subst this
      cases ry with
      | tup q1 r1 =>
        have := r1.strs
        subst this
        exact ⟨z, _, ys, rfl, rfl, .inr (SqT.un q1), of_decide_eq_true hz, q _ H (fun _ _ h => h) (.str _)⟩
    · cases e2
  · cases e
theorem de_split {apos : Pos} (ha : DE X W a ma) (hb : DE X W b mb) (hs : starEach [b] X.env = [(false, eval b X.env)] := by rfl) (hbase : attributeBase a "split" X.env (eval a X.env) = eval a X.env := by rfl) (hline : (apos.endLine == pos.line) = true := by rfl) :
    DE X W (.Call (.Attribute a "split" apos) [b] [] pos) (strM D.split ma mb) := by
  obtain ⟨ta, pa, ga⟩ := ha.ex
  obtain ⟨tb, pb, gb⟩ := hb.ex
  refine ⟨_, pe_split pa pb hs hbase hline, str_reads (fun O H z y dy dz Q hO ry e q => ?_) ga gb⟩
  unfold D.split at e
  split at e
  · split at e
    · rename_i hz
      cases e
      cases ry
      obtain ⟨h1, h2⟩ := of_decide_eq_true hz
      refine ⟨z, _, rfl, rfl, h1, h2, fun p hp => q _ _ (Evl.Ex.new hp) (.lst ?_ (Reps.of_strs _))⟩
      rw [hid_new hO hp]
    · cases e
  · cases e
/-! ### enumerate(a list) -/
def numD : Nat → List D → List D
  | _, [] => []
  | i, d :: ds => .tup [.int (i : Nat), d] :: numD (i + 1) ds
theorem numD_get : ∀ {ds : List D} {k i : Nat} {z : D}, (numD k ds)[i]? = some z → ∃ d, ds[i]? = some d ∧ z = .tup [.int ((k + i : Nat) : Int), d]
  | [], k, i, z, h => by simp [numD] at h
  | d :: ds, k, 0, z, h => by simp [numD] at h; exact ⟨d, rfl, by rw [← h]; rfl⟩
  | d :: ds, k, i + 1, z, h => by
    have h' : (numD (k + 1) ds)[i]? = some z := by simpa [numD] using h
    obtain ⟨d', h1, h2⟩ := numD_get h'
    exact ⟨d', by simpa using h1, by rw [h2]; simp; omega⟩
theorem numD_len : ∀ {ds : List D} {k : Nat}, (numD k ds).length = ds.length
  | [], _ => rfl
  | d :: ds, k => congrArg (· + 1) numD_len
theorem itr_enum {K : PySem.W.Frag} {S : Hp} {a : Addr} {xs : List V} {ds : List D} (h : SqL K S a xs) (r : Reps K S xs ds) : ItR K S (Ite K a) (numD 0 ds) where
  go := fun O H hO e i z hz => by
    obtain ⟨d, hd, rfl⟩ := numD_get hz
    have q : SqL K H a xs := SqL.un (Evl.ex_l e h)
    obtain ⟨v, hv, rv⟩ := r.get hd
    refine ⟨⟨xs, v, q, hv⟩, fun x H2 ⟨T, x', e1, e2, e3, y⟩ => ?_⟩
    subst e1 e3
    have z := y xs q
    rw [hv] at z
    cases z
    have ex : Ex H (upd H T (.tup [.int (i : Nat), v])) := Evl.Ex.new e2
    refine ⟨ex, .tup (.inl (.inl (hid_new hO e2))) ?_⟩
    rw [Nat.zero_add]
    exact .cons (.int _) (.cons ((rv.mono e).mono (hid_of ex)) .nil)
  stop := fun O H e i hi => ⟨xs, SqL.un (Evl.ex_l e h), by rw [numD_len] at hi; rw [r.length]; exact hi⟩
def enumM (m : M D) : M (List D) := bnd m fun d => opt (match d with
  | .lst ds => some (numD 0 ds)
  | _ => none)
theorem di_enum {elts : List Expr} {kk : Nat} {tpos pf : Pos} (hg : Gl X "enumerate") (hm : X.mg "enumerate" = none) (ha : DE X W e m) (hs : starEach [e] X.env = [(false, eval e X.env)] := by rfl) :
    DI X W (.Tuple elts kk tpos) (.Call (.Name "enumerate" pf) [e] [] pos) (enumM m) := by
  obtain ⟨t, q, g⟩ := ha.ex
  refine ⟨_, pi_enum hg hm (pa_cons q pa_nil hs) hs, fun xo Γ σ H R k h => ?_⟩
  refine g xo Γ σ H _ k ((Ans.bind h).imp fun d Γ' H' k' st h' v rv => ?_)
  obtain ⟨ds, e1, h3⟩ := h'.opt
  cases d with
  | lst ys =>
    cases e1
    cases rv with
    | lst q1 r1 => exact ⟨_, _, rfl, SqL.of (hid_un q1), h3 H' k' .refl _ (itr_enum (SqL.of q1) r1)⟩
  | _ => cases e1
/-! ### xs[::-1] -/
def D.revL : D → Option D
  | .lst ds => some (.lst ds.reverse)
  | _ => none
theorem Reps.reverse {K : PySem.W.Frag} {S : Hp} : ∀ {vs : List V} {ds : List D}, Reps K S vs ds → Reps K S vs.reverse ds.reverse
  | _, _, .nil => .nil
  | _, _, .cons h r => by rw [List.reverse_cons, List.reverse_cons]; exact r.reverse.append (.cons h .nil)
def revM (g : D → Option D) (m : M D) : M D := bnd m fun d => opt (g d)
theorem de_revL {k : Nat} {p1 p2 p3 : Pos} (ha : DE X W e m) : DE X W (.Subscript e (.Slice none none (some (.UnaryOp .USub (.Constant (.int 1) k p1) p2)) p3) pos) (revM D.revL m) := by
  obtain ⟨t, q, g⟩ := ha.ex
  refine ⟨_, pe_revL q, fun xo Γ σ H Q k h => ?_⟩
  refine g xo Γ σ H _ k ((Ans.bind h).imp fun d Γ' H' k' st h' v rv => ?_)
  obtain ⟨dz, e1, h3⟩ := h'.opt
  cases d with
  | lst ys =>
    cases e1
    cases rv with
    | lst q1 r1 => exact ⟨_, _, rfl, SqL.of (hid_un q1), fun p hp => Ans.grown k' h3 (Evl.Ex.new hp) _ (.lst (hid_new (fun _ q => k'.hd_there q) hp) (r1.reverse.mono (hid_of (Evl.Ex.new hp))))⟩
  | _ => cases e1
end
end DL
set_option Elab.async false
set_option linter.all false
set_option maxRecDepth 100000
set_option maxHeartbeats 2000000
set_option autoImplicit false
namespace DL
open PySem PySem.Spec PyProof.Rows L2
section
variable {X : Cx} {W : WX}
variable {e : Expr} {pos p2 : Pos} {m : M D}
/-! ### z[::-1] -/
def revStr (z : Str) : Str := ⟨((Builtin.Str.strSliceIndices none none (-1) z.length).filterMap (z.cps[·]?)).toArray⟩
def tRevS (te : TE) : TE := fun σ H Q => te σ H fun x H1 => ∃ z, x = .str z ∧ (revStr z).length ≤ sizeLine ∧ Q (.str (revStr z)) H1
theorem pe_revS {e : Expr} {te : TE} {k : Nat} {p1 p2 p3 pos : Pos} (he : PE X e te) : PE X (.Subscript e (.Slice none none (some (.UnaryOp .USub (.Constant (.int 1) k p1) p2)) p3) pos) (tRevS te) := by
  refine ⟨fun pins s σ H Q I h => ?_⟩
  refine Subscript_ (thn (he.run pins s σ H _ I h) fun v s1 ⟨x, H1, I1, r1, q1⟩ => ?_)
  obtain ⟨z, ex, hz, q⟩ := q1
  subst ex
  obtain ⟨t, rfl⟩ := r1
  have hst : PO X (some (.UnaryOp .USub (.Constant (.int 1) k p1) p2)) (tPart (tUn (rU fun i => .int (-i)) (tC (.int 1)))) := po_some (pe_un un_neg pe_int)
  refine wpAny_Slice (thn (po_none.run pins s1 σ H1 (fun o H2 => o = none ∧ H2 = H1) I1 ⟨rfl, rfl⟩) fun vl s2 ⟨l, H2, I2, pl, el, e2⟩ => ?_)
  subst el e2
  refine thn (po_none.run pins s2 σ H2 (fun o H3 => o = none ∧ H3 = H2) I2 ⟨rfl, rfl⟩) fun vu s3 ⟨u, H3, I3, pu, eu, e3⟩ => ?_
  subst eu e3
  refine thn (hst.run pins s3 σ H3 (fun o H4 => o = some (-1) ∧ H4 = H3) I3 ⟨1, rfl, -1, rfl, rfl, rfl⟩) fun vs s4 ⟨o, H4, I4, ps, eo, e4⟩ => ?_
  subst eo e4
  cases pl
  cases pu
  cases ps with
  | int _ ts =>
  have I5 : Inv X pins σ H4 { s4 with heap := s4.heap.push { cls := .type "slice", data := .fields #[.none, .none, .int (-1) ts] } } := I4.kept (t' := s4.toks) fun b ob q => Heap.get?_push_of_some _ q
  show wpAny (model X.prog X.w) X.A (subscriptTail e (.Slice none none (some (.UnaryOp .USub (.Constant (.int 1) k p1) p2)) p3) (.str z t) (.ref s4.heap.objs.size)) (EP X pins σ Q) X.xe { s4 with heap := s4.heap.push { cls := .type "slice", data := .fields #[.none, .none, .int (-1) ts] } }
  refine tail_any (ops := [.str z t, .ref s4.heap.objs.size]) (typeIs_str _ _ _) (F.slot_str_getitem.lookup) ?_ (by with_unfolding_all rfl)
  refine wpAny_getItem_str_slice (l := none) (u := none) (st := some (-1, ts)) ⟨_, Heap.get?_push_size _ rfl, rfl, rfl⟩ rfl ?_
  exact ⟨hz, .str _, _, I5.tok _, ⟨_, rfl⟩, q⟩
def D.revS : D → Option D
  | .str z => if sizeOk (revStr z).length = true then some (.str (revStr z)) else none
  | _ => none
theorem de_revS {k : Nat} {p1 p2 p3 : Pos} (ha : DE X W e m) : DE X W (.Subscript e (.Slice none none (some (.UnaryOp .USub (.Constant (.int 1) k p1) p2)) p3) pos) (revM D.revS m) := by
  obtain ⟨t, q, g⟩ := ha.ex
  refine ⟨_, pe_revS q, fun xo Γ σ H Q k h => ?_⟩
  refine g xo Γ σ H _ k ((Ans.bind h).imp fun d Γ' H' k' st h' v rv => ?_)
  obtain ⟨dz, e1, h3⟩ := h'.opt
  cases d with
  | str z =>
    cases rv
    change (if sizeOk (revStr z).length = true then some (D.str (revStr z)) else none) = some dz at e1
    split at e1
    · rename_i hz
      cases e1
      exact ⟨z, rfl, of_decide_eq_true hz, h3 H' k' .refl _ (.str _)⟩
    · cases e1
  | _ => cases e1
end
end DL
set_option Elab.async false
set_option linter.all false
set_option maxRecDepth 100000
set_option maxHeartbeats 4000000
set_option autoImplicit false
namespace DL
open PySem PySem.Spec PyProof.Rows L2
/-! ### own exception classes over any built-in one -/
/-- facts of the built-in base -/
structure EB (B newId initId : String) (tl : List Value) : Prop where
  F : ExcBaseFacts B newId initId tl
  S : StoreFacts B tl "object.__setattr__" "object"
theorem eb_VE : EB "ValueError" "ValueError.__new__" "ValueError.__init__" [.type "ValueError", .type "Exception", .type "BaseException", .type "object"] := ⟨F.excBase_ValueError, F.store_ValueError⟩
theorem eb_LE : EB "LookupError" "LookupError.__new__" "LookupError.__init__" [.type "LookupError", .type "Exception", .type "BaseException", .type "object"] := ⟨F.excBase_LookupError, F.store_LookupError⟩
theorem eb_OE : EB "OverflowError" "OverflowError.__new__" "OverflowError.__init__" [.type "OverflowError", .type "ArithmeticError", .type "Exception", .type "BaseException", .type "object"] := ⟨F.excBase_OverflowError, F.store_OverflowError⟩
/-- what the written part says of such a class -/
structure OexG (K : PySem.W.Frag) (newId : String) (tl : List Value) (C : Addr) : Prop where
  cls : ∃ nm q N bs bm sn sub ab col dd k0 k1 k2 k3 k5, K.lookup C = some (excClassObj nm q C N bs bm true sn sub ab col dd k0 k1 k2 k3 k5 newId) ∧ PySem.W.excTail tl bm = true
  sa : PySem.W.findIn K (.ref C) "__setattr__" = some (some (.builtin "object.__setattr__"))
  exC : PySem.W.subIn K (.ref C) (.type "BaseException") = some true
  tyC : PySem.W.typeIn K (.ref C) = some (.type "type")
  kC : PySem.W.keepIn K (.ref C) = true
section
variable {B newId initId : String} {tl : List Value}
theorem OexG.over {K : PySem.W.Frag} {C : Addr} (T : OexG K newId tl C) : PySem.W.excOver K C tl = true ∧ ∃ cd, PySem.W.clsIn K C = some cd ∧ cd.hasDict = true := by
  obtain ⟨nm, q, N, bs, bm, sn, sub, ab, col, dd, k0, k1, k2, k3, k5, hC, hbm⟩ := T.cls
  have hcl : PySem.W.clsIn K C = some { name := nm, bases := bs, mro := .ref C :: bm, ns := N, qualname := q, hasDict := true, slotNames := sn, subclasses := sub, abstract := ab, collection := col, hasDel := false } := by unfold PySem.W.clsIn; rw [hC] <;> rfl
  refine ⟨?_, _, hcl, rfl⟩
  unfold PySem.W.excOver
  rw [hcl]
  simp [hbm]
open Builtin Builtin.ObjectAttr in
/-- self.name = v, no dict as yet -/
theorem osa_newG {prog : Program} {w : World} {A : Around} {R : Result → Shared → Prop} {hp : Heap} {g : Array GenState} {d : Drawn} {t : Nat} {os : OsState} {K : PySem.W.Frag} {name : Str} {tk : Tok} {v : Value} {x C : Addr} {fv : Array Value} (b : EB B newId initId tl) (T : OexG K newId tl C)
    (X : K.In hp) (hx : hp.get? x = some { cls := .ref C, data := .fields fv }) (ha : PySem.W.findIn K (.ref C) name = some none)
    (hq : ∀ h' tk' dx, (∀ b o, b ≠ x → hp.get? b = some o → h'.get? b = some o) → hp.objs.size ≤ dx → dx ≠ x → h'.get? x = some { cls := .ref C, dict := some dx, data := .fields fv } →
      h'.Ns1 dx (fun y => if y = name then some v else none) → R (.ok (.ret .none)) ⟨h', g, d, tk', os⟩) :
    codeAny (model prog w) A (.call (.builtin "object.__setattr__") ⟨[.ref x, .str name tk, v], []⟩) R ⟨hp, g, d, t, os⟩ := by
  obtain ⟨ho, cd, hcd, hh⟩ := T.over
  have hxs : x ≠ hp.objs.size := Nat.ne_of_lt (Heap.lt_size hx)
  have hcls : PySem.W.Looks (model prog w) hp (classData C) cd := PySem.W.looks_clsIn X hcd
  refine PySem.W.osa_openX (s := ⟨hp, g, d, t, os⟩) (ox := { cls := .ref C, data := .fields fv }) (od := none) (r := none) b.S X ⟨hx, rfl, rfl, trivial⟩ ho (by unfold PySem.W.takerIn; rw [ha]; rfl) fun bb => ?_
  show wpAny _ _ (storeInOwnDict (.ref x) (.ref C) (.str name tk) name v bb) _ _ _
  obtain ⟨nm, bs, mro, ns, qn, hd, sn, sb, ab, col, del⟩ := cd
  dsimp only at hh
  subst hh
  unfold storeInOwnDict ownDictForStores
  repeat (first | with_reducible refine HandSPX.store_in_new ?_ ?_ | with_reducible refine wpAny_loadPart_at hx ?_ | with_reducible refine hcls.at ?_ | wp_step)
  · exact ⟨_, #[], _, (Heap.get?_update_ne _ _ _ _ hxs.symm).trans (Heap.get?_push_at rfl rfl), rfl, fun e he => absurd he (by simp), fun _ => rfl⟩
  · intro h' tk' hn' hs
    have hx₁ : (hp.push { cls := .type "dict", data := .dict #[] }).get? x = some { cls := .ref C, data := .fields fv } := Heap.get?_push_of_some _ hx
    refine hq h' tk' hp.objs.size (fun b o hb ho => ?_) (Nat.le_refl _) hxs.symm ?_ hn'
    · exact (hs.2 b (Nat.ne_of_lt (Heap.lt_size ho))).trans ((Heap.get?_update_ne _ _ _ _ hb).trans (Heap.get?_push_of_some _ ho))
    · exact (hs.2 x hxs).trans (Heap.get?_update_self _ hx₁ rfl)
end
section
variable {B newId initId : String} {tl : List Value} {X : Cx} {pins : List (Addr × Obj)} {σ : L2.St} {H : Hp} {s : Shared} {a C dx : Addr} {f : Str} {y : V} {u : Value}
theorem ost_newG {Q : Unit → Shared → Prop} {E : Value → Shared → Prop} (b : EB B newId initId tl) (T : OexG X.K newId tl C) (I : Inv X pins σ H s) (e : H a = some (exo a C none)) (hno : PySem.W.findIn X.K (.ref C) f = some none) (ry : RelV y u)
    (h : ∀ dx s', H dx = none → dx ≠ a → Inv X pins σ (upd (upd H dx (exd dx [(f, y)])) a (exo a C (some dx))) s' → Q () s') : wpAny (model X.prog X.w) X.A (setAttr (.ref a) f u) Q E s := by
  obtain ⟨t1, ho⟩ := exo_at I.hok e
  obtain ⟨hp, g, d, t, os⟩ := s
  refine PySem.W.set_plain I.kIn (ox := { cls := .ref C, dict := none, data := .fields #[.ref t1, .none, .none, .none, .bool false, .none] }) (od := none) ⟨ho, rfl, rfl, trivial⟩ T.sa ?_
  refine osa_newG b T I.kIn ho hno (fun h' tk' dx k dn dne hx hn => ?_)
  have hnd : H dx = none := I.hok.fresh dn
  have nd : ∀ {b : Addr} {o : Obj}, hp.get? b = some o → b ≠ dx := fun {b o} q => Nat.ne_of_lt (Nat.lt_of_lt_of_le (Heap.lt_size q) dn)
  have na : ∀ {b : Addr}, H b = none → b ≠ a := fun {b} n z => by
    rw [z, e] at n
    cases n
  have Un1 : Un X.fs [] H (upd (upd H dx (exd dx [(f, y)])) a (exo a C (some dx))) hp h' := {
    keep := fun b o q n _ _ => k b o (na n) q
    slot := fun b o q n _ _ => ⟨o.slots, k b o (na n) q⟩
    free := fun b o q n _ => by rw [upd_ne (na n), upd_ne (nd q)]; exact n
    there := fun b o q _ => by
      by_cases hb : b = a
      · exact ⟨_, by rw [hb]; exact hx⟩
      · exact ⟨o, k b o hb q⟩
    tups := fun b xs q => by rw [upd_ne (at_ne e q exo_tup), upd_ne (ne_of_none q hnd)]; exact q
    frzs := fun b o v q => by rw [upd_ne (at_ne e q exo_frz), upd_ne (ne_of_none q hnd)]; exact q
    tbls := fun b ps q => ⟨#[], by rw [upd_ne (at_ne e q exo_tbl), upd_ne (ne_of_none q hnd), q]; simp⟩ }
  refine h dx _ hnd dne (I.un (t' := tk') Un1 fun b o q => ?_)
  by_cases hb : b = a
  · subst hb
    rw [upd_same] at q
    cases q
    exact exo_ok hx
  · rw [upd_ne hb] at q
    by_cases hd : b = dx
    · subst hd
      rw [upd_same] at q
      cases q
      exact exd_ok hn (relO_put (fs := []) ry fun g => True.intro)
    · rw [upd_ne hd] at q
      exact (I.hok b o q).stay (fun c v hc z => k c v (by
          rcases hc with hc | hc
          · rw [hc]
            exact hb
          · exact at_ne e hc exo_own) z)
        (fun c hc => by rw [upd_ne (at_ne e hc exo_own), upd_ne (ne_of_none hc hnd)]; exact hc) (fun c xs hc => by rw [upd_ne (at_ne e hc exo_tup), upd_ne (ne_of_none hc hnd)]; exact hc)
/-- the base's __init__: nothing of it is told -/
theorem init_okG {us : List Value} {Q : Value → Shared → Prop} {E : Value → Shared → Prop} (b : EB B newId initId tl) (T : OexG X.K newId tl C) (I : Inv X pins σ H s) (e : H a = some (exo a C none)) (hl : us.length ≤ sizeLine) (h : ∀ s', Inv X pins σ H s' → Q .none s') :
    wpAny (model X.prog X.w) X.A (call (.builtin initId) (.ref a :: us)) Q E s := by
  obtain ⟨nm, q, N, bs, bm, sn, sub, ab, col, dd, k0, k1, k2, k3, k5, hC, hbm⟩ := T.cls
  obtain ⟨t1, ho⟩ := exo_at I.hok e
  obtain ⟨hp, g, d, t, os⟩ := s
  refine wpAny_call (PySem.HandSPX.init_base b.F (fun Y => PySem.W.excTail_contains Y bm hbm) (I.kIn _ _ hC) ho hl fun h' t2 k hx => ?_)
  have J := I.write (t' := t) (x := a) (e := a) (o := exo a C none) (by rw [e]; exact True.intro) (.inl rfl) k ⟨_, hx⟩ (exo_ok hx)
  have eu : upd H a (exo a C none) = H := by
    funext b
    by_cases hb : b = a
    · rw [hb, upd_same, e]
    · rw [upd_ne hb]
  rw [eu] at J
  exact h _ J
end
end DL
set_option Elab.async false
set_option linter.all false
set_option maxRecDepth 100000
set_option maxHeartbeats 4000000
set_option autoImplicit false
namespace DL
open PySem PySem.Spec PyProof.Rows L2
section
variable {B newId initId : String} {tl : List Value}
/-! ### Base.__init__(self, ..) -/
def tInitG (K : PySem.W.Frag) (newId : String) (tl : List Value) (ta : TA) : TE := fun σ H Q => ta σ H fun vs H1 => ∃ (a C : Addr) (ws : List V), vs = .ref a :: ws ∧ ws.length ≤ 1000 ∧ OexG K newId tl C ∧ H1 a = some (exo a C none) ∧ Q .non H1
variable {X : Cx} {e : Expr} {es : List Expr} {ta : TA} {p1 p2 pos : Pos} {x : Str}
theorem init_args {pins : List (Addr × Obj)} {σ : L2.St} {H : Hp} {s : Shared} {Q : VK} (b : EB B newId initId tl) (ha : PA X (e :: es) ta) (I : Inv X pins σ H s) (h : tInitG X.K newId tl ta σ H Q)
    (he : starEach (e :: es) X.env = (false, eval e X.env) :: starEach es X.env) (hpl : (backTo pos (starEach es X.env)).any (·.1) = false) :
    wpAny (model X.prog X.w) X.A (callWith pos (Value.builtin initId) [] (backTo pos (starEach (e :: es) X.env)) []) (EP X pins σ Q) X.xe s := by
  refine PyProof.Rows.callWith_method1 (thn (ha.run pos pins _ σ H _ I h) fun us s1 ⟨vs, H1, I1, r1, a, C, ws, ev, hl, T, ea, q⟩ => ?_) he hpl
  subst ev
  cases r1 with
  | @cons _ u0 _ ur ra rw' =>
    obtain rfl : u0 = Value.ref a := ra
    have hlen : ur.length ≤ sizeLine := by
      rw [← Paired.length rw', sizeLine_eq]
      omega
    exact init_okG b T I1 ea hlen fun s' J => ⟨.non, H1, J, rfl, q⟩
/-- .. the base an own class -/
theorem pe_initO {C0 : Addr} {mc : Value} {pl : Sem Bool} (b : EB B newId initId tl) (hg : Gl X x) (hm : X.mg x = some (.ref C0)) (hr : PySem.W.readsIn X.K C0 mc = true) (hga : PySem.W.specialIn X.K (.ref C0) "__getattribute__" = some (some (.builtin "type.__getattribute__")))
    (hf : PySem.W.findCls X.K (.ref C0) mc "__init__" = some (.val (.builtin initId))) (hh : PySem.W.handedIn (.builtin initId) = true) (ha : PA X (e :: es) ta)
    (hc : eval (.Call (.Attribute (.Name x p1) "__init__" p2) (e :: es) [] pos) X.env = (do
      let ov ← eval (.Name x p1) X.env
      standAt p2.atName
      let (f, first) ← holding [ov] (getMethod ov "__init__" pl)
      callWith pos f first (backTo pos (starEach (e :: es) X.env)) (backToKw pos (keywordEach [] X.env))) := by rfl)
    (hdb : (x == ("__debug__" : Str)) = false := by decide) (he : starEach (e :: es) X.env = (false, eval e X.env) :: starEach es X.env := by rfl) (hpl : (backTo pos (starEach es X.env)).any (·.1) = false := by rfl) :
    PE X (.Call (.Attribute (.Name x p1) "__init__" p2) (e :: es) [] pos) (tInitG X.K newId tl ta) := by
  refine ⟨fun pins s σ H Q I h => ?_⟩
  refine PySem.W.methodCall_KW (ld_glob I hg hm ?_ hdb) hc
  refine PySem.W.method_cls I.kIn hga (PySem.W.cls_value I.kIn hr hf hh ?_)
  exact init_args b ha (I.tok _) h he hpl
/-- .. a built-in one -/
theorem pe_initB {pl : Sem Bool} (b : EB B newId initId tl) (hg : Gl X x) (hm : X.mg x = none) (hv : bootBuiltins x = some (.type B)) (hty : typeOf (.type B) = pure (.type "type")) (hst : Manifest.isStub B = false)
    (vV : PySem.W.findCls X.K (.type B) (.type "type") "__init__" = some (.val (.builtin initId))) (hh : PySem.W.handedIn (.builtin initId) = true) (ha : PA X (e :: es) ta) (hn : x ≠ "__name__" := by decide) (hdb : (x == ("__debug__" : Str)) = false := by decide)
    (hc : eval (.Call (.Attribute (.Name x p1) "__init__" p2) (e :: es) [] pos) X.env = (do
      let ov ← eval (.Name x p1) X.env
      standAt p2.atName
      let (f, first) ← holding [ov] (getMethod ov "__init__" pl)
      callWith pos f first (backTo pos (starEach (e :: es) X.env)) (backToKw pos (keywordEach [] X.env))) := by rfl)
    (he : starEach (e :: es) X.env = (false, eval e X.env) :: starEach es X.env := by rfl) (hpl : (backTo pos (starEach es X.env)).any (·.1) = false := by rfl) :
    PE X (.Call (.Attribute (.Name x p1) "__init__" p2) (e :: es) [] pos) (tInitG X.K newId tl ta) := by
  refine ⟨fun pins s σ H Q I h => ?_⟩
  refine PySem.W.methodCall_KW (ld_blt I hg hm hv ?_ hn hdb) hc
  obtain ⟨m, fr⟩ := I.fr
  refine PySem.W.method_type fr I.ok.mod.kin hty hst vV hh ?_
  exact init_args b ha (I.tok _) h he hpl
/-! ### self.f = e, the first one -/
def tOstG (K : PySem.W.Frag) (newId : String) (tl : List Value) (f : Str) (to te : TE) : TS := fun D σ H => te σ H fun y H1 => to σ H1 fun x H2 => ∃ a C : Addr, x = .ref a ∧ OexG K newId tl C ∧ PySem.W.findIn K (.ref C) f = some none ∧
  H2 a = some (exo a C none) ∧ ∀ dx, H2 dx = none → dx ≠ a → D.nx σ (upd (upd H2 dx (exd dx [(f, y)])) a (exo a C (some dx)))
theorem ps_ostG {o : Expr} {to te : TE} {f : Str} {p' : Pos} (b : EB B newId initId tl) (ho : PE X o to) (he : PE X e te) (hs : swapsWith e (some (.Attribute o f p')) pos.line X.env = pure false := by rfl) : PS X (.Assign [.Attribute o f p'] e pos) (tOstG X.K newId tl f to te) := by
  refine ⟨fun pins s σ H D I h => ?_⟩
  refine plainObj_wpAny_Assign_Attribute (thn (he.run pins s σ H _ I h) fun v s1 ⟨y, H1, I1, r1, q1⟩ => thn (ho.run pins s1 σ H1 _ I1 q1) fun u s2 ⟨x, H2, I2, r2, a, C, ex, T, hno, ea, q⟩ => ?_) hs
  subst ex
  obtain rfl : u = Value.ref a := r2
  exact ost_newG b T I2 ea hno r1 fun dx s' n ne J => ⟨σ, _, J, q dx n ne⟩
/-! ### C's own __init__(self, f): the base's __init__, then self.f = f -/
/-- what it promises -/
def spE (K : PySem.W.Frag) (newId : String) (tl : List Value) (f : Str) : Sp := fun vs H Q _ => ∃ (a C : Addr) (v : V), vs = [.ref a, v] ∧ OexG K newId tl C ∧ PySem.W.findIn K (.ref C) f = some none ∧ H a = some (exo a C none) ∧
  ∀ d, H d = none → d ≠ a → Q .non (upd (upd H d (exd d [(f, v)])) a (exo a C (some d)))
end
section
variable {P : Program} {w : World} {K : PySem.W.Frag} {mg : Str → Option Value} {base : Heap} {B newId initId : String} {tl : List Value}
theorem init_fn {qual f : Str} {params : Arguments} {sc : Scope} {dvs : List V} {kws : List (Str × V)} {fI : Addr} {fd : FuncData} {e0 : Expr} {msg : Str} {p6 q1 q2 q3 q4 : Pos}
    (F : FunD K "__init__" qual params [.Expr e0 p6, .Assign [.Attribute (.Name "self" q1) f q2] (.Name f q3) q4] sc dvs kws fI fd) (S : FnScope ["self", f] ["self", f] sc) (b : EB B newId initId tl)
    (hdb : (f == ("__debug__" : Str)) = false) (hcd : (f == ("__classdict__" : Str)) = false)
    (hi : ∀ (cdv : Value) (A : Around) (outer : List PySem.Env) (s : Shared) (H : Hp) (E : XK), (∀ p, PE (cxOf (L2.CX P w) P w K mg base ["self", f] qual sc fI cdv A outer s H E) (.Name "self" p) (tVar 0)) →
      PE (cxOf (L2.CX P w) P w K mg base ["self", f] qual sc fI cdv A outer s H E) e0 (tInitG K newId tl (tCons (tVar 0) (tCons (tC (.str msg)) tNil))))
    (hs1 : ∀ env, swapsWith e0 none p6.line env = pure false) (hs2 : ∀ env, swapsWith (.Name f q3) (some (.Attribute (.Name "self" q1) f q2)) q4.line env = pure false) :
    FnOk P w K mg base (L2.CX P w) 1 fI fd ["self", f] (spE K newId tl f) := by
  refine F.ok S (fun _ _ _ _ h => by obtain ⟨_, _, _, rfl, _⟩ := h; rfl) fun cdv A outer s H vs Q E hr h => ?_
  have vis : ∀ x ∈ [(Str.ofString "self"), f], Vis sc x := fun x hx => by
    rcases S.par x hx with z | z
    · exact .inl z
    · exact .inr (.inl z)
  have v0 : ∀ p, PE (cxOf (L2.CX P w) P w K mg base ["self", f] qual sc fI cdv A outer s H E) (.Name "self" p) (tVar 0) := fun p => pe_var rfl (vis _ (by simp))
  have v1 : PE (cxOf (L2.CX P w) P w K mg base ["self", f] qual sc fI cdv A outer s H E) (.Name f q3) (tVar 1) := pe_var rfl (vis _ (by simp)) hdb hcd
  have Pi := hi cdv A outer s H E v0
  refine ⟨_, pss_cons (ps_expr Pi (hs1 _)) (pss_one (ps_ostG b (v0 _) v1 (hs2 _))), ?_⟩
  obtain ⟨a, C, v, rfl, T, hno, ea, q⟩ := h
  refine ⟨.ref a, rfl, a, C, [.str msg], rfl, by simp, T, ea, ?_⟩
  exact ⟨v, rfl, .ref a, rfl, a, C, rfl, T, hno, ea, fun dx n ne => q dx n ne⟩
/-! ### C(e), raised -/
/-- C(e, ..), its own __init__ as above -/
theorem pmk_G {X : Cx} {x f : Str} {C fI : Addr} {fd : FuncData} {ds : List Value} {dvs : List V} {e : Expr} {es : List Expr} {ta : TA} {p pos : Pos} (b : EB B newId initId tl) (T : OexG X.K newId tl C) (iC : PySem.W.findIn X.K (.ref C) "__init__" = some (some (.ref fI))) (tI : PySem.W.typeIn X.K (.ref fI) = some (.type "function"))
    (F1 : FnOk X.prog X.w X.K X.mg X.base (L2.CX X.prog X.w) 1 fI fd ["self", f] (spE X.K newId tl f)) (hr : Room 2 X.A) (hb : Binds X.K fd ["self", f] ds) (hd : Vals dvs ds) (tk : Takes X (fun _ _ _ _ => False)) (hg : Gl X x) (hm : X.mg x = some (.ref C)) (ha : PA X (e :: es) ta)
    (hdb : (x == ("__debug__" : Str)) = false := by decide) (he : starEach (e :: es) X.env = (false, eval e X.env) :: starEach es X.env := by rfl) (hpl : (backTo pos (starEach es X.env)).any (·.1) = false := by rfl) :
    PMk X (.Call (.Name x p) (e :: es) [] pos) (tMkO C (spE X.K newId tl f) dvs ta) := by
  intro pins s σ H Q I h
  obtain ⟨nm, q, N, bs, bm, sn, sub, ab, col, dd, k0, k1, k2, k3, k5, hC, hbm⟩ := T.cls
  refine wpAny_Call_Name_kw (ld_glob I hg hm ?_ hdb)
  refine PySem.W.callWith_K (h₀ := X.base) I.ok.mod.kin T.kC (thn (ha.run pos pins s σ H _ I h) fun us s1 ⟨vs, H1, I1, r1, hz, q1⟩ => ⟨I1.kIn, ?_⟩) he hpl
  show wpAny _ _ (call (.ref C) us) _ _ _
  obtain ⟨hp, g, dr, tk', os⟩ := s1
  have hsz : hp.objs.size ≤ hp.objs.size + 1 := Nat.le_succ _
  have hn : H1 (hp.objs.size + 1) = none := I1.hok.fresh hsz
  have hq := q1 (hp.objs.size + 1) hn
  have kk : ∀ b o, hp.get? b = some o → ((hp.push (PySem.W.kdv_tup us)).push (PySem.HandSPX.excO C hp.objs.size)).get? b = some o := fun b o e => Heap.get?_push_of_some _ (Heap.get?_push_of_some _ e)
  have hget : ((hp.push (PySem.W.kdv_tup us)).push (PySem.HandSPX.excO C hp.objs.size)).get? (hp.objs.size + 1) = some (PySem.HandSPX.excO C hp.objs.size) := by heap_get
  have I2 : Inv X pins σ (upd H1 (hp.objs.size + 1) (exo (hp.objs.size + 1) C none)) ⟨(hp.push (PySem.W.kdv_tup us)).push (PySem.HandSPX.excO C hp.objs.size), g, dr, tk', os⟩ :=
    I1.laid (t' := tk') (a := hp.objs.size + 1) (o := exo (hp.objs.size + 1) C none) (h' := (hp.push (PySem.W.kdv_tup us)).push (PySem.HandSPX.excO C hp.objs.size)) kk hsz (exo_ok hget)
  have r2 : Vals (V.ref (hp.objs.size + 1) :: (vs ++ dvs)) (Value.ref (hp.objs.size + 1) :: (us ++ ds)) := .cons rfl (r1.append hd)
  have hl : (Value.ref (hp.objs.size + 1) :: us ++ ds).length = [Str.ofString "self", f].length := by
    have e := r2.length
    rw [F1.len _ _ _ _ hq] at e
    exact e.symm
  have hus : us.length ≤ sizeLine := by
    rw [← Paired.length r1, sizeLine_eq]
    omega
  refine wpAny_call (PySem.HandSPX.call_own b.F (fun Y => PySem.W.excTail_contains Y bm hbm) (I1.kIn _ _ hC) (PySem.W.looks_findIn I1.kIn iC) (fun self => PySem.W.bind_fn I1.kIn self tI) hus
    (codeAny_mono (F1.run _ X.stack _ _ ⟨Value.ref (hp.objs.size + 1) :: us, []⟩ (Value.ref (hp.objs.size + 1) :: (us ++ ds)) _ _ (fun _ _ _ => False) (hr.make C us []) (I2.env0.make C us []) (hb _ (Value.ref (hp.objs.size + 1) :: us) I2.kIn hl) r2 hq) fun r s' hq' => ?_))
  cases r with
  | error er => exact (passes_call tk (fun cls d σ H h => h) pins σ _ _ er s' I2 hq')
  | ok fl =>
    cases fl with
    | ret u =>
      obtain ⟨v, H2, os2, bare2, un2, hok2, rv, ev, d, fs, ea, ed, hd1, q2⟩ := hq'
      subst ev
      obtain ⟨h2, g2, d2, t2, os'⟩ := s'
      exact ⟨rv, mk_end (raises_own T.exC T.tyC) I1 hsz kk un2 hok2 os2 bare2 ea ed hd1 q2⟩
    | next => exact False.elim hq'
    | brk => exact False.elim hq'
    | cont => exact False.elim hq'
end
end DL
set_option Elab.async false
set_option linter.all false
set_option maxRecDepth 100000
set_option maxHeartbeats 4000000
set_option autoImplicit false
namespace DL
open PySem L2
section
variable {X : Cx} {W : WX}
/-! ### raise C(e) -/
def raiseM (c f : Str) (m : M D) : M Flow := bnd m fun d Γ => .er ⟨c, f, d⟩ Γ
theorem del_back {H : Hp} {a d : Addr} {o1 o2 o3 : HO} {o4 : HO} (ha : H a = none) (ne : d ≠ a) : upd (del (upd (upd (upd H a o1) d o2) a o3) a) d o4 = upd H d o4 := by
  funext b
  by_cases hd : b = d
  · rw [hd, upd_same, upd_same]
  · rw [upd_ne hd, upd_ne hd]
    by_cases hb : b = a
    · rw [hb, del_same, ha]
    · rw [del_ne hb, upd_ne hb, upd_ne hd, upd_ne hb]
theorem ds_raise {B newId initId : String} {tl : List Value} {x f : Str} {C fI : Addr} {fd : FuncData} {e : Expr} {m : M D} {p pos pos' : Pos} (hc : X.calm = true) (b : EB B newId initId tl) (T : OexG X.K newId tl C) (iC : PySem.W.findIn X.K (.ref C) "__init__" = some (some (.ref fI))) (tI : PySem.W.typeIn X.K (.ref fI) = some (.type "function"))
    (hno : PySem.W.findIn X.K (.ref C) f = some none) (F1 : FnOk X.prog X.w X.K X.mg X.base (L2.CX X.prog X.w) 1 fI fd ["self", f] (spE X.K newId tl f)) (hr : Room 2 X.A) (hb : Binds X.K fd ["self", f] []) (tk : Takes X W) (hg : Gl X x) (hm : X.mg x = some (.ref C)) (ha : DE X W e m)
    (hdb : (x == ("__debug__" : Str)) = false := by decide) (he : starEach [e] X.env = [(false, eval e X.env)] := by rfl) (hpl : (backTo pos (starEach [] X.env)).any (·.1) = false := by rfl) :
    DS X W (.Raise (some (.Call (.Name x p) [e] [] pos)) none pos') (raiseM x f m) := by
  obtain ⟨t, q, g⟩ := ha.ex
  have tk0 : Takes X (fun _ _ _ _ => False) := fun _ _ z => by
    obtain ⟨_, _, _, _, _, _, _, _, _, _, _, _, _, _, _, _, z⟩ := z
    exact z.elim
  refine ⟨_, ps_raise hc tk (pmk_G b T iC tI F1 hr hb .nil tk0 hg hm (pa_cons q pa_nil he) hdb he hpl), fun xo Γ σ H B k h => ?_⟩
  refine g xo Γ σ H _ k ((SAns.bind h).imp fun d Γ' H' k' st h' v rv => ?_)
  refine ⟨by simp, fun a hn => ⟨a, C, v, rfl, T, hno, upd_same, fun dd hd ne => ?_⟩⟩
  have hd' : H' dd = none := by rw [upd_ne ne] at hd; exact hd
  refine ⟨rfl, dd, _, upd_same, by rw [upd_ne ne, upd_same], hd', ?_⟩
  rw [del_back hn ne]
  have ex : Ex H' (upd H' dd (.xd [(f, v)])) := Evl.Ex.new hd'
  exact h' _ _ σ _ (k'.ext ex) (.ext ex) ⟨C, dd, v, hm, rfl, rfl, hid_some.mpr ⟨k'.new hd', upd_same⟩, rv.mono (hid_of ex)⟩
/-! ### try: body, except C as n: suite -/
/-- what is known in the suite -/
structure Fx (X : Cx) (i : Nat) (a : Addr) (cls : Value) (d : Option Addr) (x : Exn) (xo : Addr → Prop) (Γ : SEnv) (σ : L2.St) (H : Hp) : Prop where
  at_ : σ[i]? = some (some (.ref a))
  xr : XRep X.K X.mg (vw xo Γ σ H) cls d x
structure DEx (X : Cx) (W : WX) (i : Nat) (a : Addr) (cls : Value) (d : Option Addr) (x : Exn) (e : Expr) (m : M D) : Prop where
  ex : ∃ t : TE, PE X e t ∧ ∀ (xo : Addr → Prop) (Γ : SEnv) (σ : L2.St) (H : Hp) (Q : VK), OkS X.K xo Γ σ H → Fx X i a cls d x xo Γ σ H → VAns X W xo Γ σ H (m Γ) Q → t σ H Q
structure DSx (X : Cx) (W : WX) (i : Nat) (a : Addr) (cls : Value) (d : Option Addr) (x : Exn) (st : List Stmt) (m : M Flow) : Prop where
  ex : ∃ t : TS, PSs X st t ∧ ∀ (xo : Addr → Prop) (Γ : SEnv) (σ : L2.St) (H : Hp) (B : Ends), OkS X.K xo Γ σ H → Fx X i a cls d x xo Γ σ H → SAns X W xo Γ σ H (m Γ) B → t B σ H
variable {i : Nat} {a : Addr} {cls : Value} {d : Option Addr} {x : Exn} {xo : Addr → Prop} {Γ Γ' : SEnv} {σ σ' : L2.St} {H H' : Hp}
theorem Fx.step (f : Fx X i a cls d x xo Γ σ H) (st : Step xo Γ σ H Γ' σ H') : Fx X i a cls d x xo Γ' σ H' := by
  obtain ⟨h1, C, dd, w, h2, h3, h4, h5, h6⟩ := f
  exact ⟨h1, C, dd, w, h2, h3, h4, st.sh _ _ h5, h6.mono st.sh⟩
theorem dex_de {e : Expr} {m : M D} (h : DE X W e m) : DEx X W i a cls d x e m := let ⟨t, p, g⟩ := h.ex; ⟨t, p, fun xo Γ σ H Q k _ => g xo Γ σ H Q k⟩
theorem dsx_dss {e : List Stmt} {m : M Flow} (h : DSs X W e m) : DSx X W i a cls d x e m := let ⟨t, p, g⟩ := h.ex; ⟨t, p, fun xo Γ σ H Q k _ => g xo Γ σ H Q k⟩
/-- n.f -/
def attM (c f : Str) (x : Exn) : M D := if x.cls = c ∧ x.fld = f then ret x.pl else fun _ => .no
theorem dex_att {X0 : Cx} {oe : Obj} {pn : List (Addr × Obj)} {C : Addr} {c f n : Str} {p1 pos : Pos} (T : XfC X0.K C) (hno : PySem.W.findIn X0.K (.ref C) f = some none) (hm : X0.mg c = some (.ref C)) (hz : Zc cls d oe) (hf : ∃ vs, oe.data = .fields vs)
    (he : PE (X0.suite a ((a, oe) :: pn)) (.Name n p1) (tVar i)) (hb : attributeBase (.Name n p1) f X0.env (eval (.Name n p1) X0.env) = eval (.Name n p1) X0.env := by rfl) : DEx (X0.suite a ((a, oe) :: pn)) W i a cls d x (.Attribute (.Name n p1) f pos) (attM c f x) := by
  refine ⟨_, pe_xf T hno hz hf he hb, fun xo Γ σ H Q k fx h => ?_⟩
  unfold attM at h
  split at h
  · rename_i hh
    obtain ⟨h1, C', dd, w, h2, h3, h4, h5, h6⟩ := fx
    have h2' : X0.mg x.cls = some (.ref C') := h2
    rw [hh.1, hm] at h2'
    cases h2'
    refine ⟨_, h1, rfl, h3, dd, _, w, h4, (hid_some.mp h5).2, ?_, Ans.ret k h _ h6⟩
    rw [hh.2]
    simp [List.lookup]
  · exact False.elim h
theorem dex_tup2 {e1 e2 : Expr} {m1 m2 : M D} {j : _} {pos : Pos} (h1 : DE X W e1 m1) (h2 : DEx X W i a cls d x e2 m2) (hs : starEach [e1, e2] X.env = (false, eval e1 X.env) :: starEach [e2] X.env := by rfl) (hs2 : starEach [e2] X.env = [(false, eval e2 X.env)] := by rfl) :
    DEx X W i a cls d x (.Tuple [e1, e2] j pos) (tupM (consA m1 (consA m2 nilA))) := by
  obtain ⟨t1, p1, g1⟩ := h1.ex
  obtain ⟨t2, p2, g2⟩ := h2.ex
  refine ⟨_, pe_tup (pa_cons p1 (pa_cons p2 pa_nil hs2) hs), fun xo Γ σ H Q k fx h => ?_⟩
  have h0 := Ans.bind (Ans.bind h)
  refine g1 xo Γ σ H _ k (h0.imp fun d1 Γ1 H1 k1 s1 h1 v rv => ?_)
  have h1' := Ans.bind (Ans.bind h1)
  refine g2 xo Γ1 σ H1 _ k1 (fx.step s1) (h1'.imp fun d2 Γ2 H2 k2 s2 h2 u ru => ?_)
  have h3 := Ans.ret k2 (Ans.ret k2 h2)
  have hz : sizeOk [d1, d2].length = true := by show sizeOk 2 = true; decide
  simp only [hz, if_true] at h3
  have rvs : Reps X.K (vw xo Γ2 σ H2) [v, u] [d1, d2] := .cons (s2.rep rv) (.cons ru .nil)
  refine ⟨by show 2 ≤ sizeLine; decide, fun p hp => ?_⟩
  have ex : Ex H2 (upd H2 p (.tup [v, u])) := Evl.Ex.new hp
  exact Ans.grown k2 h3 ex _ (.tup (.inl (.inl (hid_some.mpr ⟨k2.new hp, upd_same⟩))) (rvs.mono (hid_of ex)))
theorem dsx_set {e : Expr} {m : M D} {jn : Nat} {y : Str} {p3 pos : Pos} (he : DEx X W i a cls d x e m) (hp : ∀ t, PE X e t → PS X (.Assign [.Name y p3] e pos) (tAsg t (gName jn))) : DSx X W i a cls d x [.Assign [.Name y p3] e pos] (asgM m (stS jn)) := by
  obtain ⟨t, p, g⟩ := he.ex
  refine ⟨_, pss_one (hp t p), fun xo Γ σ H B k fx h => ?_⟩
  refine g xo Γ σ H _ k fx ((SAns.bind h).imp fun dd Γ' H' k' st h' v rv => ?_)
  exact asg_end (t := gName jn) (is := [jn]) (fun xo Γ σ H v d Γ' Q k r h hq => by
    obtain ⟨h1, rfl⟩ := stS_ok h
    obtain ⟨k', st⟩ := k.setSh h1 r
    exact hq _ k' st fun j hj => List.getElem?_set_ne fun z => hj (by rw [z]; exact List.mem_singleton.mpr rfl)) stS_er k' rv h'
theorem dsx_ret {e : Expr} {m : M D} {pos : Pos} (he : DEx X W i a cls d x e m) : DSx X W i a cls d x [.Return (some e) pos] (rtM m) := by
  obtain ⟨t, p, g⟩ := he.ex
  refine ⟨_, pss_one (ps_ret p), fun xo Γ σ H B k fx h => ?_⟩
  exact g xo Γ σ H _ k fx ((SAns.bind h).imp fun d Γ' H' k' st h' v rv => h' v σ H' k' .refl rv)
theorem dsx_append {e : Expr} {m : M D} {jn : Nat} {y : Str} {py apos cpos pos : Pos} (ha : PE X (.Name y py) (tVar jn)) (he : DEx X W i a cls d x e m) (hbase : attributeBase (.Name y py) "append" X.env (eval (.Name y py) X.env) = eval (.Name y py) X.env := by rfl)
    (hfew : ((backTo cpos (starEach [e] X.env)).all (fun x => !x.1) && (backToKw cpos (keywordEach [] X.env)).all (fun x => x.1.isSome) && decide ([e].length + ([] : List Keyword).length + (if ([] : List Keyword).isEmpty then 0 else 1) < 30)) = true := by rfl)
    (hline : (apos.endLine == cpos.line) = true := by rfl) (hs : starEach [e] X.env = [(false, eval e X.env)] := by rfl) (hplain : (backTo cpos (starEach [] X.env)).any (·.1) = false := by rfl)
    (hw : swapsWith (.Call (.Attribute (.Name y py) "append" apos) [e] [] cpos) none pos.line X.env = pure false := by rfl) : DSx X W i a cls d x [.Expr (.Call (.Attribute (.Name y py) "append" apos) [e] [] cpos) pos] (appS jn m) := by
  obtain ⟨t, q, g⟩ := he.ex
  refine ⟨_, pss_one (ps_expr (pe_bm PySem.F.plainAttrs_list PySem.F.slot_list_append PySem.F.type_list_append mt_append ha (pa_cons q pa_nil hs) hbase hfew hline hs hplain) hw), fun xo Γ σ H B k fx h => ?_⟩
  unfold appS at h
  obtain ⟨s0, c0, e1, e2, h⟩ := pk_s h
  obtain ⟨p, hv, cl⟩ := k.own_at e1 e2
  cases cl with
  | dK _ _ => exact False.elim h
  | @lst xs0 ds0 hh0 rr0 =>
    refine ⟨_, hv, .inl ⟨rfl, _, SqL.of hh0⟩, ?_⟩
    refine g xo Γ σ H _ k fx ((SAns.bind h).imp fun v Γ2 H2 k2 s2 h2 y ry => ?_)
    obtain ⟨s, d, d', e3, e4, e5, h3⟩ := put_some h2
    obtain ⟨p2, hp2, c2⟩ := k2.own_at e3 e4
    rw [hv] at hp2
    cases hp2
    cases c2 with
    | dK _ _ => cases e5
    | @lst xs ds hh rr =>
      unfold D.app at e5
      simp only at e5
      split at e5
      · rename_i hl
        cases e5
        obtain ⟨k3, s3⟩ := k2.chg e3 e4 hv (o := .lst (xs ++ [y])) (.lst upd_same (rr.append (.cons ry .nil)))
        exact ⟨_, _, _, rfl, rfl, hh, by rw [rr.length]; exact of_decide_eq_true hl, h3 σ _ k3 s3⟩
      · cases e5
def isNo (o : Option Sl) : Bool := match o with
  | some .no => true
  | _ => false
theorem isNo_eq {o : Option Sl} (h : isNo o = true) : o = some .no := by
  cases o with
  | none => cases h
  | some s => cases s with
    | no => rfl
    | _ => cases h
/-- cl: which classes the clause takes -/
def tryM (i : Nat) (cl : Str → Option Bool) (body : M Flow) (suite : Exn → M Flow) : M Flow := fun Γ => match body Γ with
  | .ok f Γ' => .ok f Γ'
  | .no => .no
  | .er x Γ' => match cl x.cls with
    | some false => .er x Γ'
    | none => .no
    | some true => if isNo Γ'[i]? = true then match suite x Γ' with
      | .ok f Γ2 => if isNo Γ2[i]? = true then .ok f Γ2 else .no
      | _ => .no else .no
/-- a slot of which nothing is known -/
theorem OkS.any {K : PySem.W.Frag} (k : OkS K xo Γ σ H) (h : Γ[i]? = some .no) (o : Option V) : OkS K xo Γ (σ.set i o) H ∧ Step xo Γ σ H Γ (σ.set i o) H ∧ vw xo Γ (σ.set i o) H = vw xo Γ σ H := by
  have own : ∀ a, OwnA Γ (σ.set i o) a ↔ OwnA Γ σ a := fun a => by
    constructor
    · rintro ⟨j, s, d, h1, h2, h3⟩
      have ne : i ≠ j := fun z => by subst z; rw [h] at h1; cases h1; cases h2
      exact ⟨j, s, d, h1, h2, by rw [List.getElem?_set_ne ne] at h3; exact h3⟩
    · rintro ⟨j, s, d, h1, h2, h3⟩
      have ne : i ≠ j := fun z => by subst z; rw [h] at h1; cases h1; cases h2
      exact ⟨j, s, d, h1, h2, by rw [List.getElem?_set_ne ne]; exact h3⟩
  have ev : vw xo Γ (σ.set i o) H = vw xo Γ σ H := by
    have e : Hd xo Γ (σ.set i o) = Hd xo Γ σ := by
      funext a
      exact propext ⟨fun z => z.elim .inl fun y => .inr ((own a).mp y), fun z => z.elim .inl fun y => .inr ((own a).mpr y)⟩
    unfold vw
    rw [e]
  have ne : ∀ {j : Nat} {s : Sl} {d : D}, Γ[j]? = some s → s.own = some d → i ≠ j := fun {j s d} h1 h2 z => by subst z; rw [h] at h1; cases h1; cases h2
  refine ⟨⟨by rw [List.length_set]; exact k.len, fun j s hj => ?_, fun a b u t x y q h1 h2 h3 h4 h5 h6 => ?_, fun j s d p h1 h2 h3 => ?_, k.xt⟩, ⟨by rw [ev]; exact fun _ _ z => z, fun _ _ _ z => z, fun j d hj => ⟨?_, d, hj⟩, rfl⟩, ev⟩
  · rw [ev]
    by_cases z : i = j
    · subst z
      rw [h] at hj
      cases hj
      exact .no
    · rw [List.getD_eq_getElem?_getD, List.getElem?_set_ne z, ← List.getD_eq_getElem?_getD]
      exact k.ok j s hj
  · rw [List.getElem?_set_ne (ne h1 h2)] at h5
    rw [List.getElem?_set_ne (ne h3 h4)] at h6
    exact k.dj a b u t x y q h1 h2 h3 h4 h5 h6
  · rw [List.getElem?_set_ne (ne h1 h2)] at h3
    exact k.xd j s d p h1 h2 h3
  · have : i ≠ j := fun z => by subst z; rw [h] at hj; cases hj
    rw [List.getElem?_set_ne this]
theorem ds_try {n c : Str} {cv : Value} {body suite : List Stmt} {b0 : Stmt} {np pos pos' : Pos} {cl : Str → Option Bool} {mb : M Flow} {ms : Exn → M Flow} (hs : X.stack = X.env :: X.outer) (hf : X.env.frame = some X.env.locals) (hN : X.N.Nodup) (hi : X.N[i]? = some n) (hln : X.env.kindOf n = some .local) (hc : Names X c cv) (tk : Takes X W)
    (hcl : ∀ y b C, cl y = some b → X.mg y = some (.ref C) → PySem.W.exmOne X.K (.ref C) cv = some b)
    (hb : ∀ (W' : WX) (pn : List (Addr × Obj)) (xe : Value → Shared → Prop), Takes (X.tr pn xe) W' → PassesOwn (model X.prog X.w) X.A X.env xe → DSs (X.tr pn xe) W' body mb)
    (hsu : ∀ (x : Exn) (a : Addr) (oe : Obj) (cls : Value) (d : Option Addr) (pn : List (Addr × Obj)), Zc cls d oe → (∃ vs, oe.data = .fields vs) → DSx (X.suite a ((a, oe) :: pn)) WN i a cls d x (b0 :: suite) (ms x)) :
    DS X W (.Try body [.ExceptHandler (some (.Name c np)) (some n) (b0 :: suite) pos'] [] [] pos) (tryM i cl mb ms) := by
  refine ⟨_, ps_try_as (i := i) (tb := fun W' D σ H => ∃ xo Γ, OkS X.K xo Γ σ H ∧ SAns X W' xo Γ σ H (mb Γ) D) (ts := fun a cls d D σ H => ∃ x xo Γ, OkS X.K xo Γ σ H ∧ Fx X i a cls d x xo Γ σ H ∧ SAns X WN xo Γ σ H (ms x Γ) D) hs hf hN hi hln hc tk
    (fun W' pn xe h1 h2 => ?_) (fun a oe cls d pn hz hfz => ?_), fun xo Γ σ H B k h => ?_⟩
  · obtain ⟨t, p, g⟩ := (hb W' pn xe h1 h2).ex
    exact ⟨fun pins s σ H D I ⟨xo, Γ, k, q⟩ => p.run pins s σ H D I (g xo Γ σ H D k q)⟩
  · refine ⟨fun pins s σ H D I ⟨x, xo, Γ, k, fx, q⟩ => ?_⟩
    obtain ⟨t, p, g⟩ := (hsu x a oe cls d pn hz hfz).ex
    exact p.run pins s σ H D I (g xo Γ σ H D k ⟨fx.1, fx.2⟩ q)
  · refine ⟨xo, Γ, k, ?_⟩
    unfold tryM at h
    cases e : mb Γ with
    | no => rw [e] at h; exact h
    | ok f Γ' =>
      rw [e] at h
      cases f with
      | nx => exact h
      | bk => exact h
      | ct => exact h
      | rt d => exact h
    | er x Γ' =>
      rw [e] at h
      simp only at h
      intro cls dx σ' H' k' st xr
      have xr0 := xr
      obtain ⟨C, dd, w, h2, h3, h4, h5, h6⟩ := xr
      cases e2 : cl x.cls with
      | none => rw [e2] at h; exact False.elim h
      | some b =>
        rw [e2] at h
        refine ⟨b, by rw [h3]; exact hcl _ _ _ e2 h2, fun eb a ha => ?_, fun eb => ?_⟩
        · subst eb
          simp only at h
          split at h
          · rename_i hno
            have hn := isNo_eq hno
            obtain ⟨k1, s1, ev⟩ := k'.any hn (some (V.ref a))
            have hl : i < σ'.length := by rw [← k'.len]; exact (List.getElem?_eq_some_iff.mp hn).1
            refine ⟨x, xo, Γ', k1, ⟨List.getElem?_set_self hl, C, dd, w, h2, h3, h4, by rw [ev]; exact h5, by rw [ev]; exact h6⟩, ?_⟩
            have st1 := st.trans s1
            cases e3 : ms x Γ' with
            | no => rw [e3] at h; exact False.elim h
            | er y Γ2 => rw [e3] at h; exact False.elim h
            | ok f Γ2 =>
              rw [e3] at h
              simp only at h
              split at h
              · rename_i hno2
                have hn2 := isNo_eq hno2
                cases f with
                | nx =>
                  intro σ2 H2 k2 s2
                  obtain ⟨k3, s3, _⟩ := k2.any hn2 none
                  exact h _ _ k3 ((st1.trans s2).trans s3)
                | bk =>
                  intro σ2 H2 k2 s2
                  obtain ⟨k3, s3, _⟩ := k2.any hn2 none
                  exact h _ _ k3 ((st1.trans s2).trans s3)
                | ct =>
                  intro σ2 H2 k2 s2
                  obtain ⟨k3, s3, _⟩ := k2.any hn2 none
                  exact h _ _ k3 ((st1.trans s2).trans s3)
                | rt d =>
                  intro v σ2 H2 k2 s2 rv
                  exact h v _ _ k2 (st1.trans s2) rv
              · exact False.elim h
          · exact False.elim h
        · subst eb
          exact h cls dx σ' H' k' st xr0
end
end DL
set_option Elab.async false
set_option linter.all false
set_option maxRecDepth 100000
set_option maxHeartbeats 4000000
set_option autoImplicit false
namespace DL
open PySem PySem.Spec PyProof.Rows L2
section
variable {X : Cx} {W : WX}
variable {xo : Addr → Prop} {Γ Γ' Γ1 Γ2 : SEnv} {σ : L2.St} {H H' H1 H2 : Hp} {p : Addr} {d : D}
/-! ### repr -/
def D.repr : List D → Option D
  | [d] => if (deepOk d && d.py.showable && !d.py.hasDict && sizeOk d.py.shown.length) = true then some (.str d.py.shown) else none
  | _ => none
def rRepr (K : PySem.W.Frag) : List V → Hp → VK → Prop := fun xs H Q => ∃ (v : V) (d : D), xs = [v] ∧ d.pl = true ∧ d.py.depth ≤ 90 ∧ d.py.showable = true ∧ d.py.hasDict = false ∧ d.py.shown.length ≤ sizeLine ∧ Rep K H v d ∧ Q (.str d.py.shown) H
theorem call_reprD (hgu : X.A.guards = some []) (hu : X.A.units + 150 < cLine) : CallR X (.builtin "repr") (rRepr X.K) := by
  intro pins s σ H xs us Q I r h
  obtain ⟨v, d, rfl, h1, h2, h3, h4, h5, rd, q⟩ := h
  cases r with
  | cons r1 r2 =>
    cases r2
    obtain ⟨as, rr⟩ := rd.reads I h1 r1
    cases rd with
    | non => cases r1; exact PySem.P.repr_of_none ⟨.str _, H, I.tok _, ⟨_, rfl⟩, q⟩
    | bl b => cases r1; exact PySem.P.repr_of_bool ⟨.str _, H, I.tok _, ⟨_, rfl⟩, q⟩
    | int i =>
      obtain ⟨t, rfl⟩ := r1
      exact PySem.P.repr_of_int (of_decide_eq_true h3) ⟨.str _, H, I.tok _, ⟨_, rfl⟩, q⟩
    | str z =>
      obtain ⟨t, rfl⟩ := r1
      exact PySem.P.repr_of_str ⟨.str _, H, I.tok _, ⟨_, rfl⟩, q⟩ h5
    | ptr a => cases h1
    | scr _ => cases h1
    | dK _ _ => cases h1
    | exc _ _ _ _ _ _ => cases h1
    | lst _ _ =>
      cases r1
      exact repr_of_reads' rr h3 (PySem.PyData.noDict_hsm h4) hgu (by omega) (fun _ _ z => z) (fun h' u tk k => ⟨.str _, H, I.kept k, ⟨_, rfl⟩, q⟩) h5
    | tup _ _ =>
      cases r1
      exact repr_of_reads' rr h3 (PySem.PyData.noDict_hsm h4) hgu (by omega) (fun _ _ z => z) (fun h' u tk k => ⟨.str _, H, I.kept k, ⟨_, rfl⟩, q⟩) h5
theorem cd_repr (hgu : X.A.guards = some []) (hu : X.A.units + 150 < cLine) : CallD X (.builtin "repr") D.repr := by
  refine ⟨_, call_reprD hgu hu, fun O H xs ds dz Q hO rs e q => ?_⟩
  unfold D.repr at e
  split at e
  · split at e
    · rename_i hk
      cases e
      rw [Bool.and_eq_true, Bool.and_eq_true, Bool.and_eq_true] at hk
      obtain ⟨⟨⟨k1, k2⟩, k3⟩, k4⟩ := hk
      cases rs with
      | cons r1 r2 =>
        cases r2
        exact ⟨_, _, rfl, (deepOk_iff.mp k1).1, (deepOk_iff.mp k1).2, k2, by simpa using k3, of_decide_eq_true k4, r1.mono hid_ex, q _ H (fun _ _ h => h) (.str _)⟩
    · cases e
  · cases e
/-! ### {'k': v, ..} -/
inductive PReps (K : PySem.W.Frag) (S : Hp) : List (V × V) → List (D × D) → Prop
  | nil : PReps K S [] []
  | cons {k v : V} {vs : List (V × V)} {a b : D} {ds : List (D × D)} : Rep K S k a → Rep K S v b → PReps K S vs ds → PReps K S ((k, v) :: vs) ((a, b) :: ds)
theorem PReps.mono {K : PySem.W.Frag} {S S' : Hp} (e : Ex S S') : ∀ {vs : List (V × V)} {ds : List (D × D)}, PReps K S vs ds → PReps K S' vs ds
  | _, _, .nil => .nil
  | _, _, .cons a b r => .cons (a.mono e) (b.mono e) (r.mono e)
structure DPs (X : Cx) (W : WX) (pos : Pos) (keys : List (Option Expr)) (values : List Expr) (m : M (List (D × D))) : Prop where
  ex : ∃ t : List (TE × TE), PPs X pos keys values t ∧ ∀ (xo : Addr → Prop) (Γ : SEnv) (σ : L2.St) (H : Hp) (Q : List (V × V) → Hp → Prop), OkS X.K xo Γ σ H →
    Ans X W xo Γ σ H (m Γ) (fun ds Γ' H' => ∀ vs, PReps X.K (vw xo Γ' σ H') vs ds → Q vs H') → tPairs t σ H Q
theorem dps_nil {pos : Pos} : DPs X W pos [] [] (ret []) := ⟨_, pps_nil, fun xo Γ σ H Q k h => Ans.ret k h _ .nil⟩
def pairA (mk mv : M D) (r : M (List (D × D))) : M (List (D × D)) := bnd mk fun k => bnd mv fun v => bnd r fun ds => ret ((k, v) :: ds)
theorem dps_cons {pos : Pos} {ke ve : Expr} {ks : List (Option Expr)} {vs : List Expr} {mk mv : M D} {mr : M (List (D × D))} (hk : DE X W ke mk) (hv : DE X W ve mv) (hr : DPs X W pos ks vs mr) : DPs X W pos (some ke :: ks) (ve :: vs) (pairA mk mv mr) := by
  obtain ⟨t1, p1, g1⟩ := hk.ex
  obtain ⟨t2, p2, g2⟩ := hv.ex
  obtain ⟨t3, p3, g3⟩ := hr.ex
  refine ⟨_, pps_cons p1 p2 p3, fun xo Γ σ H Q k h => ?_⟩
  refine g1 xo Γ σ H _ k (h.bind.imp fun a Γ1 H1 k1 s1 h1 x rx => ?_)
  refine g2 xo Γ1 σ H1 _ k1 (h1.bind.imp fun b Γ2 H2 k2 s2 h2 y ry => ?_)
  refine g3 xo Γ2 σ H2 _ k2 (h2.bind.imp fun ds Γ3 H3 k3 s3 h3 vs rvs => ?_)
  exact Ans.ret k3 h3 _ (.cons (s3.rep (s2.rep rx)) (s3.rep ry) rvs)
/-- the hidden new object may be anything -/
theorem OkS.hidUpd {K : PySem.W.Frag} {o : HO} (k : OkS K (xo1 xo p) Γ σ H) : OkS K (xo1 xo p) Γ σ (upd H p o) := by
  have hid : Hd (xo1 xo p) Γ σ p := .inl (.inr rfl)
  have ev : vw (xo1 xo p) Γ σ (upd H p o) = vw (xo1 xo p) Γ σ H := hid_upd hid
  refine ⟨k.len, fun i s h => ?_, k.dj, k.xd, fun a q => ?_⟩
  · rw [ev]
    have r := k.ok i s h
    have ne : ∀ x, s.own = some x → ∀ q, σ.getD i none = some (.ref q) → q ≠ p := fun x hx q hq z => by
      subst z
      have hj : i < σ.length := by rw [← k.len]; exact (List.getElem?_eq_some_iff.mp h).1
      refine k.xd i s x q h hx ?_ (.inr rfl)
      rw [List.getElem?_eq_getElem hj]
      rw [List.getD_eq_getElem?_getD, List.getElem?_eq_getElem hj] at hq
      exact congrArg some hq
    generalize σ.getD i none = w at r ne
    cases r with
    | no => exact .no
    | sh r => exact .sh r
    | ow c => exact .ow (c.mono (fun _ _ z => z) (upd_ne (ne _ rfl _ rfl)))
    | io c => exact .io (c.mono (fun _ _ z => z) (upd_ne (ne _ rfl _ rfl)))
  · obtain ⟨u, hu⟩ := k.xt a q
    by_cases z : a = p
    · subst z; exact ⟨_, upd_same⟩
    · exact ⟨u, by rw [upd_ne z]; exact hu⟩
def dictOk (ps : List (D × D)) : Bool := ps.all (fun p => p.1.key0.isSome) && decide (ps.length ≤ 15)
def dictM (m : M (List (D × D))) : M D := bnd (noEr m) fun ps => if dictOk ps = true then ret (.dct 0 (ps.foldl (fun acc kv => kput acc kv.1 kv.2) [])) else fun _ => .no
theorem keyed {K : PySem.W.Frag} {S : Hp} : ∀ {vs : List (V × V)} {ds : List (D × D)}, PReps K S vs ds → ds.all (fun p => p.1.key0.isSome) = true → ∃ kvs : List (Key × V), vs = kvs.map (fun kv => (kV kv.1, kv.2)) ∧ KReps K S kvs ds
  | _, _, .nil, _ => ⟨[], rfl, .nil⟩
  | _, _, .cons (a := a) ra rb r, h => by
    rw [List.all_cons, Bool.and_eq_true] at h
    obtain ⟨kvs, e, q⟩ := keyed r h.2
    obtain ⟨k, ek⟩ := Option.isSome_iff_exists.mp h.1
    have ed := key0_eq ek
    simp only at ed
    subst ed
    have ev := rep_key ra
    subst ev
    exact ⟨(k, _) :: kvs, by rw [e]; rfl, .cons rb q⟩
theorem merged_rep {K : PySem.W.Frag} {S : Hp} : ∀ {kvs : List (Key × V)} {ds : List (D × D)} {acc : List (Key × V)} {ad : List (D × D)}, KReps K S kvs ds → KReps K S acc ad →
    KReps K S (kvs.foldl (fun acc kv => putK acc kv.1 kv.2) acc) (ds.foldl (fun acc kv => kput acc kv.1 kv.2) ad)
  | _, _, _, _, .nil, h => h
  | _, _, _, _, .cons r q, h => by
    rw [List.foldl_cons, List.foldl_cons]
    exact merged_rep q (kput_key _ r h)
theorem df_dict {pos : Pos} {keys : List (Option Expr)} {values : List Expr} {m : M (List (D × D))} (h : DPs X WN pos keys values m) (hall : keys.all (·.isSome) = true := by rfl) (hl : keys.length = values.length := by rfl) (h0 : keys ≠ [] := by simp)
    (h15 : keys.length ≤ 15 := by decide) : DF X W (.Dict keys values pos) (dictM m) := by
  obtain ⟨t, q, g⟩ := h.ex
  refine ⟨_, pe_disp q hall hl h0 h15, fun xo Γ σ H Q k a => fun p hp => ?_⟩
  have kf : OkS X.K (xo1 xo p) Γ σ (upd H p (.dK [])) := k.fresh hp
  refine g (xo1 xo p) Γ σ _ _ kf ?_
  cases e : m Γ with
  | no => unfold dictM bnd noEr at a; rw [e] at a; exact False.elim a
  | er x Γ' => unfold dictM bnd noEr at a; rw [e] at a; exact False.elim a
  | ok ds Γ' =>
    unfold dictM bnd noEr at a
    rw [e] at a
    simp only at a
    intro H' k' st vs rvs
    split at a
    · rename_i hd
      unfold dictOk at hd
      rw [Bool.and_eq_true] at hd
      obtain ⟨kvs, ev, kr⟩ := keyed rvs hd.1
      have hp' : H' p = some (.dK []) := st.xk p _ (.inr rfl) upd_same
      have hlen : kvs.length ≤ 15 := by rw [kr.length]; exact of_decide_eq_true hd.2
      refine ⟨hp', kvs, ev, hlen, ?_⟩
      have evw : vw (xo1 xo p) Γ' σ (upd H' p (.dK (mergeK [] kvs))) = vw (xo1 xo p) Γ' σ H' := hid_upd (.inl (.inr rfl))
      refine a p _ k'.hidUpd ⟨fun x o z => ?_, fun x o z hz => ?_, st.io, st.len, fun z => ?_⟩ (.dK upd_same ?_)
      · rw [evw]
        exact st.sh x o (by rw [vw_new hp]; exact z)
      · have ne : x ≠ p := fun z => by rw [z, hp] at hz; cases hz
        rw [upd_ne ne]
        exact st.xk x o (.inl z) (by rw [upd_ne ne]; exact hz)
      · rcases z with z | ⟨i, s, d, q1, q2, q3⟩
        · exact k.new hp (.inl z)
        · exact k'.xd i s d p q1 q2 q3 (.inr rfl)
      · rw [evw]
        exact merged_rep kr .nil
    · exact False.elim a
end
/-! ### a def that gives a new object -/
section
variable {P : Program} {w : World} {K : PySem.W.Frag} {mg : Str → Option Value} {base : Heap}
def spN (K : PySem.W.Frag) (n : Nat) (m : M D) : Sp := fun vs H Q _ => ∃ (S : Addr → Prop) (ds : List D), vs.length = n ∧ (∀ a, S a → ∃ o, H a = some o) ∧ Reps K (hid S H) vs ds ∧
  ∃ d Γ', m (ds.map .sh) = .ok d Γ' ∧ ∀ p H', Ex H H' → H p = none → Cell K (hid (fun a => S a ∨ a = p) H') H' p d → Q (.ref p) H'
theorem ok_sh {S : Addr → Prop} {H : Hp} {vs : List V} {ds : List D} (hS : ∀ a, S a → ∃ o, H a = some o) (r : Reps K (hid S H) vs ds) : OkS K S (ds.map .sh) (vs.map some) H ∧ vw S (ds.map .sh) (vs.map some) H = hid S H := by
  have no : ∀ (i : Nat) (s : Sl) (d : D), (ds.map Sl.sh)[i]? = some s → s.own = some d → False := fun i s d h1 h2 => by
    rw [List.getElem?_map, Option.map_eq_some_iff] at h1
    obtain ⟨_, _, rfl⟩ := h1
    cases h2
  have ev : vw S (ds.map .sh) (vs.map some) H = hid S H := by
    have e : Hd S (ds.map Sl.sh) (vs.map some) = S := by
      funext a
      exact propext ⟨fun z => z.elim id fun ⟨i, s, d, h1, h2, _⟩ => (no i s d h1 h2).elim, .inl⟩
    unfold vw
    rw [e]
  refine ⟨⟨by rw [List.length_map, List.length_map]; exact r.length.symm, fun i s h => ?_, fun i j s t d e p h1 h2 => (no i s d h1 h2).elim, fun i s d p h1 h2 => (no i s d h1 h2).elim, hS⟩, ev⟩
  rw [ev]
  rw [List.getElem?_map, Option.map_eq_some_iff] at h
  obtain ⟨d, hd, rfl⟩ := h
  obtain ⟨v, hv, rv⟩ := r.get hd
  rw [List.getD_eq_getElem?_getD, List.getElem?_map, hv]
  exact .sh rv
def fnN (N : Nat) (m : M D) : M D := fun Γ => m (Γ ++ List.replicate (N - Γ.length) .no)
theorem fn_okN {x qual : Str} {params : Arguments} {e : Expr} {pos : Pos} {scope : Scope} {dvs : List V} {kws : List (Str × V)} {f : Addr} {fd : FuncData} {N ps : List Str} {k : Nat} {m : M D} (F : FunD K x qual params [.Return (some e) pos] scope dvs kws f fd) (S : FnScope N ps scope) (hn : ps.length ≤ N.length)
    (hb : ∀ (cdv : Value) (A : Around) (outer : List PySem.Env) (s : Shared) (H : Hp) (E : XK), A.guards = some [] → Room k (A.deeper (PyProof.Rows.envOfC qual scope s.heap.objs.size f cdv)) →
      DF (cxOf (L2.CX P w) P w K mg base N qual scope f cdv A outer s H E) (WF E) e m) :
    FnG P w K mg base (k + 1) f fd ps (spN K ps.length (fnN N.length m)) := by
  obtain ⟨oc, od, dV, kV, doc, pm, an, cdv, ct, osl, rfl, lk, hcd, _, _⟩ := F.ex
  refine fn_G lk hcd S (fun _ _ _ _ h => by obtain ⟨_, _, h, _⟩ := h; exact h) fun A outer s H vs Q E hgu hr h => ?_
  obtain ⟨Sx, ds, hl, hS, rs, d, Γ', em, q⟩ := h
  obtain ⟨t, p, g⟩ := (hb cdv A outer s H E hgu hr).ex
  obtain ⟨k0, ev⟩ := ok_sh hS rs
  refine ⟨_, pss_one (ps_ret p), ?_⟩
  have hpad : vs.length + (N.length - (ds.map Sl.sh).length) = N.length := by rw [List.length_map, ← rs.length]; omega
  refine g Sx (ds.map Sl.sh ++ List.replicate (N.length - (ds.map Sl.sh).length) Sl.no) (L2.start N vs) H _ (k0.begin hpad) ?_
  unfold fnN at em
  rw [em]
  have ev2 : vw Sx (ds.map .sh ++ List.replicate (N.length - (ds.map Sl.sh).length) .no) (L2.start N vs) H = hid Sx H := by
    rw [vw_pad (by rw [List.length_map]; exact rs.length.symm), ev]
  intro p H' k' st c
  refine q p H' (fun a o h => ?_) ?_ (c.mono (hid_le fun a z => .inl z) rfl)
  · by_cases z : Sx a
    · exact st.xk a o z h
    · exact (hid_some.mp (st.sh a o (by rw [ev2]; exact hid_some.mpr ⟨z, h⟩))).2
  · cases e : H p with
    | none => rfl
    | some o =>
      have nS : ¬ Sx p := fun z => st.nx (.inl z)
      have := st.sh p o (by rw [ev2]; exact hid_some.mpr ⟨nS, e⟩)
      exact absurd (.inl (.inr rfl)) (hid_some.mp this).1
end
section
variable {X : Cx} {W : WX} {xo : Addr → Prop} {Γ : SEnv} {σ : L2.St} {H H' : Hp} {p : Addr}
theorem OkS.grow {K : PySem.W.Frag} {o : HO} (k : OkS K xo Γ σ H) (ex : Ex H H') (hp : H p = none) (hp' : H' p = some o) : OkS K (xo1 xo p) Γ σ H' ∧ StepF xo Γ σ H p Γ σ H' := by
  have es : Ex (vw xo Γ σ H) (vw (xo1 xo p) Γ σ H') := fun a u h => by
    obtain ⟨h1, h2⟩ := hid_some.mp h
    refine hid_some.mpr ⟨fun z => ?_, ex _ _ h2⟩
    rcases z with (z | z) | z
    · exact h1 (.inl z)
    · rw [z, hp] at h2; cases h2
    · exact h1 (.inr z)
  refine ⟨⟨k.len, fun i s h => ?_, k.dj, fun i s d q h1 h2 h3 h4 => ?_, fun a q => ?_⟩, ⟨es, fun a u _ h => ex _ _ h, fun i d h => ⟨rfl, d, h⟩, rfl, k.new hp⟩⟩
  · have r := k.ok i s h
    generalize σ.getD i none = w at r
    cases r with
    | no => exact .no
    | sh r => exact .sh (r.mono es)
    | ow c => obtain ⟨u, hu⟩ := c.there; exact .ow (c.mono es ((ex _ _ hu).trans hu.symm))
    | io c => obtain ⟨u, hu⟩ := c.there; exact .io (c.mono es ((ex _ _ hu).trans hu.symm))
  · rcases h4 with h4 | h4
    · exact k.xd i s d q h1 h2 h3 h4
    · subst h4
      obtain ⟨p', e', c⟩ := k.own_at h1 h2
      rw [h3] at e'
      cases e'
      obtain ⟨u, hu⟩ := c.there
      rw [hp] at hu
      cases hu
  · rcases q with q | q
    · obtain ⟨u, hu⟩ := k.xt a q
      exact ⟨u, ex _ _ hu⟩
    · subst q
      exact ⟨o, hp'⟩
def callN (m : M D) (ma : M (List D)) : M D := bnd ma fun ds Γ => match m (ds.map .sh) with
  | .ok d _ => .ok d Γ
  | _ => .no
variable {f : Addr} {fd : FuncData} {ps : List Str} {k n : Nat} {m : M D} {ma : M (List D)} {x : Str} {e : Expr} {es : List Expr} {pp pos : Pos}
theorem df_callN (F : FnG X.prog X.w X.K X.mg X.base k f fd ps (spN X.K n m)) (hgu : X.A.guards = some []) (hr : Room k X.A) (hg : Gl X x) (hm : X.mg x = some (.ref f)) (hk : PySem.W.keepIn X.K (.ref f) = true) (hb : Binds X.K fd ps []) (tk : Takes X W)
    (ha : DA X W (e :: es) ma) (hn : ∀ Γ ds Γ', ma Γ = .ok ds Γ' → ds.length = n) (hdb : (x == ("__debug__" : Str)) = false := by decide) (he : starEach (e :: es) X.env = (false, eval e X.env) :: starEach es X.env := by rfl) (hpl : (backTo pos (starEach es X.env)).any (·.1) = false := by rfl) :
    DF X W (.Call (.Name x pp) (e :: es) [] pos) (callN m ma) := by
  obtain ⟨t, q, g⟩ := ha.ex
  refine ⟨_, pe_G F hgu hr hg hm hk hb (E := WE W) (fun σ => passAt tk σ) q hdb he hpl, fun xo Γ σ H Q k h => ?_⟩
  refine g xo Γ σ H _ k ?_
  have h2 := NAns.bind h
  cases e1 : ma Γ with
  | no => rw [e1] at h2; exact h2
  | er x Γ' => rw [e1] at h2; exact h2
  | ok ds Γ' =>
    rw [e1] at h2
    intro H' k' st vs r
    have h3 := h2 H' k' st H' k' .refl
    refine ⟨Hd xo Γ' σ, ds, by rw [r.length]; exact hn Γ ds Γ' e1, fun a z => k'.hd_there z, r, ?_⟩
    cases e2 : m (ds.map .sh) with
    | no => simp only [e2] at h3; exact False.elim h3
    | er x Δ => simp only [e2] at h3; exact False.elim h3
    | ok d Δ =>
      simp only [e2] at h3
      refine ⟨d, Δ, rfl, fun p H2 ex hp c => ?_⟩
      obtain ⟨o, ho⟩ := c.there
      obtain ⟨k2, s2⟩ := k'.grow ex hp ho
      refine h3 p H2 k2 s2 (c.mono (hid_le fun a z => ?_) rfl)
      rcases z with (z | z) | z
      · exact .inl (.inl z)
      · exact .inr z
      · exact .inl (.inr z)
end
end DL
set_option Elab.async false
set_option linter.all false
set_option maxRecDepth 100000
set_option maxHeartbeats 4000000
set_option autoImplicit false
namespace DL
open PySem PySem.Spec PyProof.Rows L2
/-! ### -e, a def's name as a value -/
section
variable {X : Cx} {W : WX} {e : Expr} {m : M D} {pos : Pos}
def D.neg : D → Option D
  | .int i => some (.int (-i))
  | _ => none
theorem de_neg (h : DE X W e m) : DE X W (.UnaryOp .USub e pos) (revM D.neg m) := by
  obtain ⟨t, p, g⟩ := h.ex
  refine ⟨_, pe_un un_neg p, fun xo Γ σ H Q k h => ?_⟩
  refine g xo Γ σ H _ k ((Ans.bind h).imp fun d Γ' H' k' st h' v rv => ?_)
  obtain ⟨dz, e1, h3⟩ := h'.opt
  cases d with
  | int i =>
    cases e1
    cases rv
    exact ⟨i, rfl, h3 H' k' .refl _ (.int _)⟩
  | _ => cases e1
/-- the address of a def of the module -/
def adr (mg : Str → Option Value) (x : Str) : Addr := match mg x with
  | some (.ref a) => a
  | _ => 0
theorem adr_of {mg : Str → Option Value} {x : Str} {a : Addr} (h : mg x = some (.ref a)) : adr mg x = a := by unfold adr; rw [h]
theorem de_fn {x : Str} {a : Addr} (hm : X.mg x = some (.ref a)) (hg : Gl X x) (hd : (x == ("__debug__" : Str)) = false := by decide) : DE X W (.Name x pos) (ret (.ptr (adr X.mg x))) := by
  rw [adr_of hm]
  exact de_glob (v := .ref a) hg hm rfl (fun _ => .ptr a) hd
end
/-! ### defs under their names -/
/-- what the written part says of a def -/
structure Df (K : PySem.W.Frag) (mg : Str → Option Value) (x : Str) (st : Stmt) : Prop where
  ex : ∃ (a : Addr) (fd : FuncData), mg x = some (.ref a) ∧ FunD K x x (defArgs st) (defBody st) (defScope st) [] [] a fd
structure Ok (P : Program) (w : World) (K : PySem.W.Frag) (mg : Str → Option Value) (base : Heap) (k : Nat) (x : Str) (st : Stmt) (ps : List Str) (sp : Sp) : Prop where
  ex : ∃ (a : Addr) (fd : FuncData), mg x = some (.ref a) ∧ FnG P w K mg base k a fd ps sp ∧ FunD K x x (defArgs st) (defBody st) (defScope st) [] [] a fd ∧ Binds K fd ps []
/-- the values of the names, in the parameters' order -/
def permI {α : Type} (is : List Nat) (xs : List α) : List α := is.filterMap fun i => xs[i]?
def ggI {α : Type} (is : List Nat) (n : Nat) (us ws : List α) : List α := match us with
  | [] => if ws.length = n then permI is ws else []
  | _ => []
theorem permI_paired {α β : Type} {R : α → β → Prop} {xs : List α} {ys : List β} (hl : xs.length = ys.length) (h : ∀ (i : Nat) (x : α) (y : β), xs[i]? = some x → ys[i]? = some y → R x y) : ∀ is : List Nat, Paired R (permI is xs) (permI is ys)
  | [] => .nil
  | i :: is => by
    have ih := permI_paired hl h is
    unfold permI at ih ⊢
    rw [List.filterMap_cons, List.filterMap_cons]
    by_cases hi : i < xs.length
    · have hj : i < ys.length := by omega
      rw [List.getElem?_eq_getElem hi, List.getElem?_eq_getElem hj]
      exact .cons (h i _ _ (List.getElem?_eq_getElem hi) (List.getElem?_eq_getElem hj)) ih
    · rw [List.getElem?_eq_none (by omega), List.getElem?_eq_none (by omega)]
      exact ih
theorem reps_of_paired {K : PySem.W.Frag} {S : Hp} : ∀ {vs : List V} {ds : List D}, Paired (Rep K S) vs ds → Reps K S vs ds
  | _, _, .nil => .nil
  | _, _, .cons a b => .cons a (reps_of_paired b)
theorem reps_permI {K : PySem.W.Frag} {S : Hp} {vs : List V} {ds : List D} (r : Reps K S vs ds) (is : List Nat) : Reps K S (permI is vs) (permI is ds) := by
  have := permI_paired (R := Rep K S) r.length (fun i x y h1 h2 => by
    obtain ⟨v, h3, h4⟩ := r.get h2
    rw [h1] at h3
    cases h3
    exact h4) is
  exact reps_of_paired this
theorem vals_permI {vs : List V} {us : List Value} (r : Vals vs us) (is : List Nat) : Vals (permI is vs) (permI is us) :=
  permI_paired r.length (fun i x y h1 h2 => by
    obtain ⟨u, h3, h4⟩ := r.get h1
    rw [h2] at h3
    cases h3
    exact h4) is
theorem kb_of {K : PySem.W.Frag} {x qual : Str} {params : Arguments} {body : List Stmt} {scope : Scope} {kws : List (Str × V)} {f : Addr} {fd : FuncData} {ps ks : List Str} (F : FunD K x qual params body scope [] kws f fd) (is : List Nat) (n : Nat) (hp : ps ≠ [])
    (h : ∀ (kV doc pm : Value) (an : Option Addr) (cdv ct : Value) (ws : List Value), ws.length = n → bindArgs (PySem.W.fnOf x qual params body scope .none kV doc pm an cdv ct) ⟨[], ks.zip ws⟩ = pure (ps.zip (permI is ws))) : KBinds K fd ps ks (ggI is n) (ggI is n) := by
  obtain ⟨oc, od, dV, kV, doc, pm, an, cdv, ct, osl, rfl, lk, hcd, hD, hK⟩ := F.ex
  rcases hD with ⟨_, rfl⟩ | ⟨e, _⟩
  · refine ⟨fun s us ws X hl => ?_, fun {vs us zs ws} r1 r2 => ?_⟩
    · have hps : 0 < ps.length := List.length_pos_iff.mpr hp
      unfold ggI at hl ⊢
      cases us with
      | cons u us => simp only [List.length_nil] at hl; omega
      | nil =>
        simp only at hl ⊢
        by_cases hw : ws.length = n
        · rw [if_pos hw]
          exact .of_eq (h kV doc pm an cdv ct ws hw)
        · rw [if_neg hw] at hl
          simp only [List.length_nil] at hl; omega
    · unfold ggI
      cases r1 with
      | cons _ _ => exact .nil
      | nil =>
        simp only
        rw [r2.length]
        split
        · exact vals_permI r2 is
        · exact .nil
  · exact absurd rfl e
section
variable {P : Program} {w : World} {K : PySem.W.Frag} {mg : Str → Option Value} {base : Heap}
theorem ok_fn {x : Str} {st : Stmt} {N ps : List Str} {k : Nat} {m : M Flow} (F : Df K mg x st) (S : FnScope N ps (defScope st)) (hn : ps.length ≤ N.length)
    (hbi : ∀ (kV doc pm : Value) (an : Option Addr) (cdv ct : Value) (us : List Value), us.length = ps.length → bindArgs (PySem.W.fnOf x x (defArgs st) (defBody st) (defScope st) .none kV doc pm an cdv ct) ⟨us, []⟩ = pure (ps.zip us))
    (hb : ∀ (f : Addr) (cdv : Value) (A : Around) (outer : List PySem.Env) (s : Shared) (H : Hp) (E : XK), A.guards = some [] → Room k (A.deeper (PyProof.Rows.envOfC x (defScope st) s.heap.objs.size f cdv)) →
      DSs (cxOf (L2.CX P w) P w K mg base N x (defScope st) f cdv A outer s H E) (WF E) (defBody st) m) :
    Ok P w K mg base (k + 1) x st ps (spF K mg ps.length (fnM N.length m)) := by
  obtain ⟨a, fd, hm, F⟩ := F.ex
  exact ⟨a, fd, hm, fn_ok F S hn (fun cdv => hb a cdv), F, F.bindsN hbi⟩
theorem ok_fnN {x : Str} {st : Stmt} {N ps : List Str} {k : Nat} {e : Expr} {pos : Pos} {m : M D} (F : Df K mg x st) (S : FnScope N ps (defScope st)) (hn : ps.length ≤ N.length) (hbo : defBody st = [.Return (some e) pos])
    (hbi : ∀ (kV doc pm : Value) (an : Option Addr) (cdv ct : Value) (us : List Value), us.length = ps.length → bindArgs (PySem.W.fnOf x x (defArgs st) (defBody st) (defScope st) .none kV doc pm an cdv ct) ⟨us, []⟩ = pure (ps.zip us))
    (hb : ∀ (f : Addr) (cdv : Value) (A : Around) (outer : List PySem.Env) (s : Shared) (H : Hp) (E : XK), A.guards = some [] → Room k (A.deeper (PyProof.Rows.envOfC x (defScope st) s.heap.objs.size f cdv)) →
      DF (cxOf (L2.CX P w) P w K mg base N x (defScope st) f cdv A outer s H E) (WF E) e m) :
    Ok P w K mg base (k + 1) x st ps (spN K ps.length (fnN N.length m)) := by
  obtain ⟨a, fd, hm, F⟩ := F.ex
  have bi := F.bindsN hbi
  have F2 := F
  rw [hbo] at F2
  exact ⟨a, fd, hm, fn_okN F2 S hn (fun cdv => hb a cdv), F, bi⟩
end
section
variable {X : Cx} {W : WX} {k n : Nat} {x : Str} {st : Stmt} {ps ks : List Str} {m : M D} {ma : M (List D)} {e : Expr} {es : List Expr} {kws : List Keyword} {p pos p0 p1 : Pos}
theorem dcall (O : Ok X.prog X.w X.K X.mg X.base k x st ps (spF X.K X.mg n m)) (hgu : X.A.guards = some []) (hr : Room k X.A) (hg : Gl X x) (tk : Takes X W)
    (ha : DA X W (e :: es) ma) (hn : ∀ Γ ds Γ', ma Γ = .ok ds Γ' → ds.length = n) (hdb : (x == ("__debug__" : Str)) = false := by decide) (he : starEach (e :: es) X.env = (false, eval e X.env) :: starEach es X.env := by rfl) (hpl : (backTo pos (starEach es X.env)).any (·.1) = false := by rfl) :
    DE X W (.Call (.Name x p) (e :: es) [] pos) (callM m ma) := by
  obtain ⟨a, fd, h1, h2, h3, h4⟩ := O.ex
  exact de_call h2 hgu hr hg h1 h3.kp h4 tk ha hn hdb he hpl
theorem dcallN (O : Ok X.prog X.w X.K X.mg X.base k x st ps (spN X.K n m)) (hgu : X.A.guards = some []) (hr : Room k X.A) (hg : Gl X x) (tk : Takes X W)
    (ha : DA X W (e :: es) ma) (hn : ∀ Γ ds Γ', ma Γ = .ok ds Γ' → ds.length = n) (hdb : (x == ("__debug__" : Str)) = false := by decide) (he : starEach (e :: es) X.env = (false, eval e X.env) :: starEach es X.env := by rfl) (hpl : (backTo pos (starEach es X.env)).any (·.1) = false := by rfl) :
    DF X W (.Call (.Name x p) (e :: es) [] pos) (callN m ma) := by
  obtain ⟨a, fd, h1, h2, h3, h4⟩ := O.ex
  exact df_callN h2 hgu hr hg h1 h3.kp h4 tk ha hn hdb he hpl
theorem dcallIo {i : Nat} {y : Str} (O : Ok X.prog X.w X.K X.mg X.base k x st ps (spF X.K X.mg n m)) (hgu : X.A.guards = some []) (hr : Room k X.A) (hg : Gl X x) (tk : Takes X W)
    (hi : PE X (.Name y p1) (tVar i)) (ha : DA X W es ma) (hn : ∀ Γ ds Γ', ma Γ = .ok ds Γ' → ds.length + 1 = n) (hdb : (x == ("__debug__" : Str)) = false := by decide)
    (he : starEach (.Name y p1 :: es) X.env = (false, eval (.Name y p1) X.env) :: starEach es X.env := by rfl) (hpl : (backTo pos (starEach es X.env)).any (·.1) = false := by rfl) :
    DE X W (.Call (.Name x p0) (.Name y p1 :: es) [] pos) (callIo i m ma) := by
  obtain ⟨a, fd, h1, h2, h3, h4⟩ := O.ex
  exact de_callIo h2 hgu hr hg h1 h3.kp h4 tk hi ha hn hdb he hpl
theorem dcallK (is : List Nat) (O : Ok X.prog X.w X.K X.mg X.base k x st ps (spF X.K X.mg n m)) (hps : ps ≠ [])
    (hbk : ∀ (kV doc pm : Value) (an : Option Addr) (cdv ct : Value) (ws : List Value), ws.length = ks.length → bindArgs (PySem.W.fnOf x x (defArgs st) (defBody st) (defScope st) .none kV doc pm an cdv ct) ⟨[], ks.zip ws⟩ = pure (ps.zip (permI is ws))) (hgu : X.A.guards = some []) (hr : Room k X.A) (hg : Gl X x) (tk : Takes X W)
    (ha : DK X W kws ma) (hn : ∀ Γ ds Γ', ma Γ = .ok ds Γ' → ds.length = ks.length) (hni : ∀ ds : List D, ds.length = ks.length → (permI is ds).length = n)
    (hall : (backToKw pos (keywordEach kws X.env)).all (·.1.isSome) = true := by rfl) (hks : (backToKw pos (keywordEach kws X.env)).filterMap (·.1) = ks := by rfl) (hdb : (x == ("__debug__" : Str)) = false := by decide)
    (hpl : ((backTo pos (starEach [] X.env)).any (·.1) || (backToKw pos (keywordEach kws X.env)).any (·.1.isNone)) = false := by rfl) :
    DE X W (.Call (.Name x p) [] kws pos) (callM m (permA (permI is) ma)) := by
  obtain ⟨a, fd, h1, h2, h3, h4⟩ := O.ex
  obtain ⟨t, q, gg⟩ := ha.ex
  refine ⟨_, pe_GK h2 hgu hr hg h1 h3.kp (kb_of h3 is ks.length hps hbk) (E := WE W) (fun σ => passAt tk σ) q hall hks hdb hpl, fun xo Γ σ H Q k h => ?_⟩
  refine gg xo Γ σ H _ k ?_
  unfold callM permA at h
  have h2 := Ans.bind h
  unfold bnd at h2
  cases e1 : ma Γ with
  | no => rw [e1] at h2; exact h2
  | er x Γ' => rw [e1] at h2; exact h2
  | ok ds Γ' =>
    rw [e1] at h2
    have hl := hn Γ ds Γ' e1
    intro H' k' st vs r
    have e : ggI is ks.length [] vs = permI is vs := if_pos (by rw [r.length]; exact hl)
    rw [e]
    exact call_reads k' (reps_permI r is) (hni ds hl) (h2 H' k' st)
theorem dcallL {i : Nat} {tab : Addr → Option (M D)} (hgu : X.A.guards = some []) (hN : X.N[i]? = some x) (hv : Vis X.env.scope x)
    (hT : ∀ f m, tab f = some m → ∃ (k : Nat) (y : Str) (st : Stmt) (ps : List Str), f = adr X.mg y ∧ Ok X.prog X.w X.K X.mg X.base k y st ps (spF X.K X.mg n m) ∧ Room k X.A) (tk : Takes X W)
    (ha : DA X W (e :: es) ma) (hn : ∀ Γ ds Γ', ma Γ = .ok ds Γ' → ds.length = n) (hdb : (x == ("__debug__" : Str)) = false := by decide) (hcd : (x == ("__classdict__" : Str)) = false := by decide)
    (he : starEach (e :: es) X.env = (false, eval e X.env) :: starEach es X.env := by rfl) (hpl : (backTo pos (starEach es X.env)).any (·.1) = false := by rfl) :
    DE X W (.Call (.Name x p) (e :: es) [] pos) (callL i tab ma) :=
  de_callL hgu hN hv (fun f m hm => by
    obtain ⟨k, y, st, ps, rfl, O, hr⟩ := hT f m hm
    obtain ⟨a, fd, h1, h2, h3, h4⟩ := O.ex
    rw [adr_of h1]
    exact ⟨k, fd, ps, h2, hr, h3.kp, h4⟩) tk ha hn hdb hcd he hpl
theorem dfn {sp : Sp} {b : Str} (O : Ok X.prog X.w X.K X.mg X.base k b st ps sp) (hg : Gl X b) (hd : (b == ("__debug__" : Str)) = false := by decide) : DE X W (.Name b pos) (ret (.ptr (adr X.mg b))) := by
  obtain ⟨a, fd, h1, _⟩ := O.ex
  exact de_fn h1 hg hd
/-- lengths of argument lists -/
def lenIs (m : M (List D)) (n : Nat) : Prop := ∀ Γ ds Γ', m Γ = .ok ds Γ' → ds.length = n
theorem len_nil : lenIs nilA 0 := fun Γ ds Γ' h => by cases h; rfl
theorem len_cons {m : M D} {r : M (List D)} {n : Nat} (h : lenIs r n) : lenIs (consA m r) (n + 1) := fun Γ ds Γ' e => by
  obtain ⟨d, Γ1, _, e2⟩ := bnd_ok e
  obtain ⟨ds', Γ2, e3, e4⟩ := bnd_ok e2
  cases e4
  exact congrArg (· + 1) (h _ _ _ e3)
end
/-! ### the law -/
/-- from a heap in which nothing but the script may be tracked -/
theorem law_core {P : Program} {w : World} {K : PySem.W.Frag} {mg mb : Str → Option Value} {k : Nat} {fa a : Addr} {fd : FuncData} {x : Str} {m : M D} {s₁ : Shared} {vs : List Value} {ns : List Int} {H : Hp}
    (KX : K.In s₁.heap) (hns : s₁.heap.Ns mainGlobals mg) (hb : s₁.heap.Ns builtinsNs mb) (hbb : ∀ x : Str, x ≠ "__name__" → mb x = bootBuiltins x) (hlim : s₁.heap.NoLimit) (hg : s₁.gens = #[])
    (ha : s₁.heap.get? a = some { cls := .type "list", data := .seq vs.toArray }) (hr : Room k PySem.callerA)
    (F : ∀ base : Heap, K.In base → base.Ns mainGlobals mg → FnG P w K mg base k fa fd [x] (spF K mg 1 m)) (hbind : ∀ (s : Shared) (u : Value), BindsTo s fd ⟨[u], []⟩ [(x, u)])
    (hm : ∃ Γ, m [.sh (.scr ns)] = .ok (.bl true) Γ) (hO : Only H) (hS : SqL K H a (ns.map V.int)) (hok : HOk P w H s₁.heap) (hA : ∀ b, H b ≠ none → b = a) (hK : H a ≠ none → K.lookup a = none) :
    codeAny (model P w) PySem.callerA (.call (.ref fa) ⟨[.ref a], []⟩) (fun r s' => r = .ok (.ret (.bool true)) ∧ OldK s₁.heap s'.heap ∧ s'.os = s₁.os ∧ AllBare s'.gens) s₁ := by
  have noA : ∀ {b : Addr} {o : Obj} {es : Array DictEntry} {ep : Nat}, s₁.heap.get? b = some o → o.data = .dict es ep → H b = none := fun {b o es ep} e d => by
    cases q : H b with
    | none => rfl
    | some u =>
      have e' : b = a := hA b (by rw [q]; simp)
      subst e'
      rw [ha] at e; cases e
      have d' : Data.seq vs.toArray _ = Data.dict es ep := d
      cases d'
  have nsK : ∀ {b : Addr} {m : Str → Option Value}, s₁.heap.Ns b m → (hidT s₁.heap H).Ns b m := fun {b m} ⟨o, es, ep, e, d, r⟩ => ⟨o, es, ep, hidT_get e (noA e d), d, r⟩
  have hKb : K.In (hidT s₁.heap H) := fun b o e => hidT_get (KX b o e) (by
    cases q : H b with
    | none => rfl
    | some u =>
      have e' : b = a := hA b (by rw [q]; simp)
      subst e'
      rw [hK (by rw [q]; simp)] at e; cases e)
  have hM : Mod K mg (hidT s₁.heap H) := ⟨hKb, nsK hns, ⟨mb, nsK hb, hbb⟩, let ⟨mc, h1, h2⟩ := hlim; ⟨mc, nsK h1, h2⟩⟩
  have e0 : Env0 P w K mg (hidT s₁.heap H) PySem.callerA [] s₁ H := ⟨rfl, hM, fun b o e => of_hidT e, Nat.le_of_eq (hidT_size _ _), trivial, fun b hb => absurd (show b ∈ ([] : List Addr) from hb) (by simp), hok, .of_eq hg⟩
  have sp0 : spF K mg 1 m [.ref a] H (fun v _ => v = .bl true) fun _ _ _ => False := by
    obtain ⟨Γ, em⟩ := hm
    have eh : hid (fun _ => False) H = H := by
      funext b
      unfold hid
      rw [if_neg (fun z => z)]
    obtain ⟨k0, _⟩ := ok_sh (K := K) (S := fun _ => False) (H := H) (vs := [.ref a]) (ds := [.scr ns]) (fun _ z => z.elim) (.cons (.scr (by rw [eh]; exact hS)) .nil)
    refine ⟨fun _ => False, [.sh (.scr ns)], rfl, fun i d z => ?_, k0, ?_⟩
    · cases i <;> simp at z
    · rw [em]
      intro v H' _ _ rv
      cases rv
      rfl
  refine codeAny_mono ((F _ hKb (nsK hns)).run PySem.callerA [] s₁ H ⟨[.ref a], []⟩ [.ref a] [.ref a] _ _ rfl hr e0 (hbind s₁ (.ref a)) (.cons rfl .nil) sp0) fun r s' h => ?_
  cases r with
  | error e =>
    obtain ⟨_, _, _, _, _, _, _, _, _, _, _, _, z⟩ := h
    exact z.elim
  | ok fl =>
    cases fl with
    | next => exact False.elim h
    | brk => exact False.elim h
    | cont => exact False.elim h
    | ret u =>
      obtain ⟨v, H', os, bare, un, hok', r', q⟩ := h
      have q' : v = .bl true := q
      subst q'
      obtain rfl : u = Value.bool true := r'
      refine ⟨rfl, OldK.of_keep fun b o e => ?_, os, bare⟩
      cases q : H b with
      | none => exact un.keep b o e q (by intro z; exact absurd (show b ∈ ([] : List Addr) from z) (by simp)) (by simp)
      | some u =>
        rcases hO b with z | ⟨ob, xs, z⟩
        · rw [q] at z; cases z
        · have z2 := un.frzs b ob _ z
          obtain ⟨e1, _⟩ := hok b _ z
          obtain ⟨e2, _⟩ := hok' b _ z2
          rw [e] at e1; cases e1
          exact e2
theorem law_callG {P : Program} {w : World} {K : PySem.W.Frag} {mg mb : Str → Option Value} {k : Nat} {fa a : Addr} {fd : FuncData} {x : Str} {m : M D} {s₁ : Shared} {vs : List Value} {ns : List Int}
    (KX : K.In s₁.heap) (hns : s₁.heap.Ns mainGlobals mg) (hb : s₁.heap.Ns builtinsNs mb) (hbb : ∀ x : Str, x ≠ "__name__" → mb x = bootBuiltins x) (hlim : s₁.heap.NoLimit) (hg : s₁.gens = #[])
    (ha : s₁.heap.get? a = some { cls := .type "list", data := .seq vs.toArray }) (hi : IntsAre vs ns) (hl : ns.length ≤ sizeLine) (hr : Room k PySem.callerA)
    (F : ∀ base : Heap, K.In base → base.Ns mainGlobals mg → FnG P w K mg base k fa fd [x] (spF K mg 1 m)) (hbind : ∀ (s : Shared) (u : Value), BindsTo s fd ⟨[u], []⟩ [(x, u)])
    (hm : ∃ Γ, m [.sh (.scr ns)] = .ok (.bl true) Γ) :
    codeAny (model P w) PySem.callerA (.call (.ref fa) ⟨[.ref a], []⟩) (fun r s' => r = .ok (.ret (.bool true)) ∧ OldK s₁.heap s'.heap ∧ s'.os = s₁.os ∧ AllBare s'.gens) s₁ := by
  have rv := vals_ints hi
  have lenV := hi.length
  have core : ∀ H : Hp, Only H → SqL K H a (ns.map V.int) → HOk P w H s₁.heap → (∀ b, H b ≠ none → b = a) → (H a ≠ none → K.lookup a = none) → _ := fun H hO hS hok hA hK => law_core (H := H) KX hns hb hbb hlim hg ha hr F hbind hm hO hS hok hA hK
  cases hk : K.lookup a with
  | some o =>
    have e := KX a o hk
    rw [ha] at e
    cases e
    exact core (fun _ => none) (fun _ => .inl rfl) (.inr ⟨_, vs.toArray, _, hk, rfl, rfl, rfl, by rw [List.size_toArray, lenV]; exact hl, by simpa using rv⟩) (fun b u z => by have z' : (none : Option HO) = some u := z; cases z') (fun b z => absurd rfl z) fun z => absurd rfl z
  | none =>
    refine core (fun b => if b = a then some (.frz { cls := .type "list", data := .seq vs.toArray } (.lst (ns.map V.int))) else none) (fun b => ?_) (.inl (.inr ⟨{ cls := .type "list", data := .seq vs.toArray }, if_pos rfl⟩)) (fun b u z => ?_) (fun b z => ?_) fun _ => hk
    · by_cases hb : b = a
      · exact .inr ⟨_, _, if_pos hb⟩
      · exact .inl (if_neg hb)
    · by_cases hb : b = a
      · have z' := (if_pos hb).symm.trans z
        cases z'
        subst hb
        exact ⟨ha, by rw [List.length_map]; exact hl, vs, _, rv, ha⟩
      · have z' := (if_neg hb).symm.trans z
        cases z'
    · by_cases hb : b = a
      · exact hb
      · exact absurd (if_neg hb) z
theorem walk_G {l : PySem.W.OpenLaw} {n k : Nat} {q : Program} {loose : List Str} {XP : (Str → Option Value) → Heap → Prop} {YP : World → Heap → Prop} {d : DefRec} {K : Params → PySem.W.Frag} {m : Params → (Str → Option Value) → M D} {x : Str}
    (hn : l.most = some n) (hn2 : n ≤ sizeLine) (hdf : d.params.defaults = []) (hr : Room k PySem.callerA)
    (hY : ∀ (w : World) (h : Heap), YP w h → (K w.params).In h)
    (F : ∀ (w : World) (mg : Str → Option Value) (fa : Addr) (h : Heap), (K w.params).In h → h.Ns mainGlobals mg → mg d.name = some (.ref fa) →
      ∃ fd : FuncData, (∀ (s : Shared) (u : Value), BindsTo s fd ⟨[u], []⟩ [(x, u)]) ∧
        (∀ base : Heap, (K w.params).In base → base.Ns mainGlobals mg → FnG l.prog w (K w.params) mg base k fa fd [x] (spF (K w.params) mg 1 (m w.params mg))) ∧
        ∀ ns : List Int, ns.length ≤ n → ∃ Γ, m w.params mg [.sh (.scr ns)] = .ok (.bl true) Γ) :
    PySem.W.WalkO q loose XP YP l.row.toRowW d [] (fun f vs => PySem.call f vs) := by
  refine Att.attach_call hn hdf fun w s₀ s₁ mg mb fa o pm cd doc a vs ns G Y ho hd hcd hmg hobj hints hlen hg => ?_
  have KX := hY w _ Y
  obtain ⟨fd, hb, hF, hm⟩ := F w mg fa _ KX G.T.g hmg
  exact law_callG KX G.T.g G.T.b G.T.builtins G.T.nolimit hg hobj hints (Nat.le_trans hlen hn2) hr hF hb (hm ns hlen)
end DL
set_option Elab.async false
set_option linter.all false
set_option maxRecDepth 100000
set_option maxHeartbeats 4000000
set_option autoImplicit false
namespace DL
open PySem PySem.Spec PyProof.Rows L2
/-! ### names by a look -/
def visB (o : Option NameKind) : Bool := match o with
  | some .local => true
  | some .cell => true
  | some .free => true
  | _ => false
theorem vis_of {sc : Scope} {x : Str} (h : visB (sc.names.lookup x) = true) : Vis sc x := by
  unfold visB at h
  split at h
  · rename_i e; exact .inl e
  · rename_i e; exact .inr (.inl e)
  · rename_i e; exact .inr (.inr e)
  · cases h
def locB (o : Option NameKind) : Bool := match o with
  | some .local => true
  | some .cell => true
  | _ => false
theorem loc_of {sc : Scope} {x : Str} (h : locB (sc.names.lookup x) = true) : Loc sc x := by
  unfold locB at h
  split at h
  · rename_i e; exact .inl e
  · rename_i e; exact .inr e
  · cases h
section
variable {X : Cx} {W : WX} {x y : Str} {e : Expr} {m : M D} {pos p3 : Pos}
theorem pv (i : Nat) (hN : X.N[i]? = some x := by rfl) (hv : visB (X.env.scope.names.lookup x) = true := by rfl) (hd : (x == ("__debug__" : Str)) = false := by rfl) (hcd : (x == ("__classdict__" : Str)) = false := by rfl) : PE X (.Name x pos) (tVar i) := pe_var hN (vis_of hv) hd hcd
theorem dv (i : Nat) (hN : X.N[i]? = some x := by rfl) (hv : visB (X.env.scope.names.lookup x) = true := by rfl) (hd : (x == ("__debug__" : Str)) = false := by rfl) (hcd : (x == ("__classdict__" : Str)) = false := by rfl) : DE X W (.Name x pos) (vr i) := de_var (pv i hN hv hd hcd)
theorem dgn (i : Nat) (hN : X.N.Nodup) (hi : X.N[i]? = some x := by rfl) (hx : locB (X.env.scope.names.lookup x) = true := by rfl) (hf : (X.fn x || decide (X.env.scope.names.lookup x = some .local)) = true := by rfl) : DG X (.Name x pos) (stS i) [i] :=
  dg_name (pg_name hN hi (loc_of hx) (by
    rcases Bool.or_eq_true_iff.mp hf with h | h
    · exact .inl h
    · exact .inr (of_decide_eq_true h)))
theorem dset (i : Nat) (hN : X.N.Nodup) (he : DE X W e m) (hi : X.N[i]? = some x := by rfl) (hx : locB (X.env.scope.names.lookup x) = true := by rfl) (hf : (X.fn x || decide (X.env.scope.names.lookup x = some .local)) = true := by rfl)
    (hs : swapsWith e (some (.Name x p3)) pos.line X.env = pure false := by rfl) : DS X W (.Assign [.Name x p3] e pos) (asgM m (stS i)) :=
  ds_set he fun t h => ps_set hN hi (loc_of hx) h hs (by
    rcases Bool.or_eq_true_iff.mp hf with h | h
    · exact .inl h
    · exact .inr (of_decide_eq_true h))
theorem down (i : Nat) (hN : X.N.Nodup) (he : DF X W e m) (hi : X.N[i]? = some x := by rfl) (hx : locB (X.env.scope.names.lookup x) = true := by rfl) (hf : (X.fn x || decide (X.env.scope.names.lookup x = some .local)) = true := by rfl)
    (hs : swapsWith e (some (.Name x p3)) pos.line X.env = pure false := by rfl) : DS X W (.Assign [.Name x p3] e pos) (asgM m (stO i)) :=
  ds_own he fun t h => ps_set hN hi (loc_of hx) h hs (by
    rcases Bool.or_eq_true_iff.mp hf with h | h
    · exact .inl h
    · exact .inr (of_decide_eq_true h))
theorem dsxset {a : Addr} {cls : Value} {d : Option Addr} {z : Exn} {ie : Nat} (i : Nat) (hN : X.N.Nodup) (he : DEx X W ie a cls d z e m) (hi : X.N[i]? = some x := by rfl) (hx : locB (X.env.scope.names.lookup x) = true := by rfl) (hf : (X.fn x || decide (X.env.scope.names.lookup x = some .local)) = true := by rfl)
    (hs : swapsWith e (some (.Name x p3)) pos.line X.env = pure false := by rfl) : DSx X W ie a cls d z [.Assign [.Name x p3] e pos] (asgM m (stS i)) :=
  dsx_set he fun t h => ps_set hN hi (loc_of hx) h hs (by
    rcases Bool.or_eq_true_iff.mp hf with h | h
    · exact .inl h
    · exact .inr (of_decide_eq_true h))
theorem dpar2 {y : Str} {a b : Expr} {ma mb : M D} {px py pt : Pos} {kt k2 pt2} {n1 n2 : Bool} (i j : Nat) (hc : X.calm = true) (hN : X.N.Nodup) (ha : DX X W n1 a ma) (hb : DX X W n2 b mb) (hij : i ≠ j) (hi : X.N[i]? = some x := by rfl) (hj : X.N[j]? = some y := by rfl)
    (hx : X.env.scope.names.lookup x = some .local := by rfl) (hy : X.env.scope.names.lookup y = some .local := by rfl)
    (h2 : starEach [a, b] X.env = (false, eval a X.env) :: starEach [b] X.env := by rfl) (h1 : starEach [b] X.env = [(false, eval b X.env)] := by rfl)
    (hw : swappedStores [.Tuple [.Name x px, .Name y py] kt pt] (.Tuple [a, b] k2 pt2) X.env = pure (some [x, y]) := by rfl) (hs : swapsWithSole [.Tuple [.Name x px, .Name y py] kt pt] (.Tuple [a, b] k2 pt2) pos.line X.env = pure false := by rfl) :
    DS X W (.Assign [.Tuple [.Name x px, .Name y py] kt pt] (.Tuple [a, b] k2 pt2) pos) (par2 n1 n2 i j ma mb) :=
  ds_par2 ha hb (fun ta tb p q => ps_par hc hN hi hj hij hx hy (pa_cons p (pa_cons q pa_nil h1) h2) hw hs) hij
end
/-! ### an own exception class, whole -/
structure Exo (P : Program) (w : World) (K : PySem.W.Frag) (mg : Str → Option Value) (base : Heap) (x f : Str) (newId : String) (tl : List Value) : Prop where
  ex : ∃ (C fI : Addr) (fd : FuncData), mg x = some (.ref C) ∧ OexG K newId tl C ∧ PySem.W.findIn K (.ref C) "__init__" = some (some (.ref fI)) ∧ PySem.W.typeIn K (.ref fI) = some (.type "function") ∧ PySem.W.findIn K (.ref C) f = some none ∧
    FnOk P w K mg base (L2.CX P w) 1 fI fd ["self", f] (spE K newId tl f) ∧ Binds K fd ["self", f] [] ∧ XfC K C ∧ PySem.W.exmOne K (.ref C) (.ref C) = some true
section
variable {X : Cx} {W : WX}
theorem draise {B newId initId : String} {tl : List Value} {x f : Str} {e : Expr} {m : M D} {p pos pos' : Pos} (b : EB B newId initId tl) (E : Exo X.prog X.w X.K X.mg X.base x f newId tl) (hc : X.calm = true) (hr : Room 2 X.A) (tk : Takes X W) (hg : Gl X x) (ha : DE X W e m)
    (hdb : (x == ("__debug__" : Str)) = false := by rfl) (he : starEach [e] X.env = [(false, eval e X.env)] := by rfl) (hpl : (backTo pos (starEach [] X.env)).any (·.1) = false := by rfl) :
    DS X W (.Raise (some (.Call (.Name x p) [e] [] pos)) none pos') (raiseM x f m) := by
  obtain ⟨C, fI, fd, h1, h2, h3, h4, h5, h6, h7, _, _⟩ := E.ex
  exact ds_raise hc b h2 h3 h4 h5 h6 hr h7 tk hg h1 ha hdb he hpl
/-- try: .. except C as n: .. -/
theorem dtry {i : Nat} {n c f : Str} {newId : String} {tl : List Value} {body suite : List Stmt} {b0 : Stmt} {np pos pos' : Pos} {mb : M Flow} {ms : Exn → M Flow} (E : Exo X.prog X.w X.K X.mg X.base c f newId tl) (cl : Str → Option Bool) (hN : X.N.Nodup) (tk : Takes X W) (hg : Gl X c)
    (hcl : ∀ y b C cv, cl y = some b → X.mg y = some (.ref C) → X.mg c = some (.ref cv) → PySem.W.exmOne X.K (.ref C) (.ref cv) = some b)
    (hb : ∀ (W' : WX) (pn : List (Addr × Obj)) (xe : Value → Shared → Prop), Takes (X.tr pn xe) W' → PassesOwn (model X.prog X.w) X.A X.env xe → DSs (X.tr pn xe) W' body mb)
    (hsu : ∀ (C : Addr), X.mg c = some (.ref C) → XfC X.K C → PySem.W.findIn X.K (.ref C) f = some none → ∀ (x : Exn) (a : Addr) (oe : Obj) (cls : Value) (d : Option Addr) (pn : List (Addr × Obj)), Zc cls d oe → (∃ vs, oe.data = .fields vs) → DSx (X.suite a ((a, oe) :: pn)) WN i a cls d x (b0 :: suite) (ms x))
    (hi : X.N[i]? = some n := by rfl) (hln : X.env.kindOf n = some .local := by rfl) (hs : X.stack = X.env :: X.outer := by rfl) (hf : X.env.frame = some X.env.locals := by rfl) (hdb : (c == ("__debug__" : Str)) = false := by rfl) :
    DS X W (.Try body [.ExceptHandler (some (.Name c np)) (some n) (b0 :: suite) pos'] [] [] pos) (tryM i cl mb ms) := by
  obtain ⟨C, fI, fd, h1, h2, h3, h4, h5, h6, h7, h8, h9⟩ := E.ex
  exact ds_try hs hf hN hi hln ⟨hg, hdb, .inl h1⟩ tk (fun y b C' e1 e2 => hcl y b C' C e1 e2 h1) hb (hsu C h1 h8 h5)
end
end DL
set_option Elab.async false
set_option linter.all false
set_option maxRecDepth 100000
set_option maxHeartbeats 4000000
set_option autoImplicit false
namespace DL
open PySem PySem.Spec PyProof.Rows L2
abbrev tl_ValueError : List Value := [.type "ValueError", .type "Exception", .type "BaseException", .type "object"]
abbrev tl_LookupError : List Value := [.type "LookupError", .type "Exception", .type "BaseException", .type "object"]
abbrev tl_OverflowError : List Value := [.type "OverflowError", .type "ArithmeticError", .type "Exception", .type "BaseException", .type "object"]
theorem hu150 {A : Around} {k : Nat} (h : Room k A) : A.units + 150 < cLine := by have := h.un; omega
theorem hu1_of {A : Around} {k : Nat} (h : Room k A) : A.units + 1 < cLine := by have := h.un; omega
/-- what the written part says of an own exception class -/
structure Ecl (K : PySem.W.Frag) (mg : Str → Option Value) (x f : Str) (newId : String) (tl : List Value) (st : Stmt) : Prop where
  ex : ∃ (C fI : Addr) (fd : FuncData) (qual : Str), mg x = some (.ref C) ∧ OexG K newId tl C ∧ PySem.W.findIn K (.ref C) "__init__" = some (some (.ref fI)) ∧ PySem.W.typeIn K (.ref fI) = some (.type "function") ∧ PySem.W.findIn K (.ref C) f = some none ∧
    FunD K "__init__" qual (defArgs st) (defBody st) (defScope st) [.non] [] fI fd ∧ (FnScope ["self", f] ["self", f] (defScope st) ∧ Binds K fd ["self", f] []) ∧ XfC K C ∧ PySem.W.exmOne K (.ref C) (.ref C) = some true
theorem exm_own {K : PySem.W.Frag} {S : Addr} (h1 : PySem.W.subIn K (.ref S) (.type "BaseException") = some true) (h2 : PySem.W.isClsIn K S = true) (h3 : PySem.W.typeIn K (.ref S) = some (.type "type")) (h4 : PySem.W.subIn K (.ref S) (.ref S) = some true) :
    PySem.W.exmOne K (.ref S) (.ref S) = some true := by
  have e1 : (PySem.W.subIn K (.ref S) (.type "BaseException") == some true) = true := by rw [h1] <;> rfl
  have h2' : (PySem.W.clsIn K S).isSome = true := h2
  have e2 : ((PySem.W.clsIn K S).isSome && PySem.W.typeIn K (.ref S) == some (.type "type")) = true := by rw [h2', h3] <;> rfl
  have e3 : PySem.W.exmOne K (.ref S) (.ref S) = if (PySem.W.subIn K (.ref S) (.type "BaseException") == some true) = true then (if ((PySem.W.clsIn K S).isSome && PySem.W.typeIn K (.ref S) == some (.type "type")) = true then PySem.W.subIn K (.ref S) (.ref S) else none) else none := rfl
  rw [e3, if_pos e1, if_pos e2, h4]
theorem df_mk {K : PySem.W.Frag} {h : Heap} {mg : Str → Option Value} {x : Str} {st : Stmt} {f : Addr} {oc kV dc pm cd ct : Value} {od an : Option Addr} {osl : Array (Option Value)} (X : K.In h) (G : h.Ns mainGlobals mg) (a : PySem.W.nsIn K mainGlobals x = some (some (.ref f)))
    (l : K.lookup f = some ⟨oc, od, .func (PySem.W.fnOf x x (defArgs st) (defBody st) (defScope st) .none kV dc pm an cd ct), osl⟩) (c : PySem.W.codeIn K cd x = true) (k : PySem.W.keepIn K (.ref f) = true) : Df K mg x st :=
  ⟨f, _, PySem.W.mg_of X G a, ⟨⟨oc, od, .none, kV, dc, pm, an, cd, ct, osl, rfl, l, c, .inl ⟨rfl, rfl⟩, .inl rfl⟩, k⟩⟩
theorem ecl_mk {K : PySem.W.Frag} {h : Heap} {mg : Str → Option Value} {x f nm q qual : Str} {newId : String} {tl bs bm sub : List Value} {st : Stmt} {C fI T N : Addr} {sn : List Str} {ab : Bool} {col : Option Bool} {dd od an : Option Addr} {m0 m1 m2 m3 m5 : Option Value} {oc dc kV pm cd ct : Value} {osl : Array (Option Value)} {oT : Obj} {n : Nat}
    (X : K.In h) (G : h.Ns mainGlobals mg) (aC : PySem.W.nsIn K mainGlobals x = some (some (.ref C))) (xL : K.lookup C = some (excClassObj nm q C N bs bm true sn sub ab col dd m0 m1 m2 m3 m5 newId)) (tb : PySem.W.excTail tl bm = true)
    (sa : PySem.W.findIn K (.ref C) "__setattr__" = some (some (.builtin "object.__setattr__"))) (ga : PySem.W.findIn K (.ref C) "__getattribute__" = some (some (.builtin "BaseException.__getattribute__"))) (gg : PySem.W.findIn K (.ref C) "__getattr__" = some none) (nb : PySem.W.findIn K (.ref C) f = some none)
    (a1 : PySem.W.findIn K (.ref C) "__init__" = some (some (.ref fI))) (t1 : PySem.W.typeIn K (.ref fI) = some (.type "function"))
    (l1 : K.lookup fI = some ⟨oc, od, .func (PySem.W.fnOf "__init__" qual (defArgs st) (defBody st) (defScope st) (.ref T) kV dc pm an cd ct), osl⟩) (c1 : PySem.W.codeIn K cd qual = true) (k1 : PySem.W.keepIn K (.ref fI) = true)
    (lT : K.lookup T = some oT) (dT : oT.data = .seq #[.none] n)
    (kC : PySem.W.keepIn K (.ref C) = true) (eC : PySem.W.subIn K (.ref C) (.type "BaseException") = some true) (tC : PySem.W.typeIn K (.ref C) = some (.type "type")) (hC : PySem.W.hasDictIn K C = true) (iC : PySem.W.isClsIn K C = true) (sC : PySem.W.subIn K (.ref C) (.ref C) = some true)
    (S : FnScope ["self", f] ["self", f] (defScope st))
    (hb : ∀ (T : Addr) (kV doc pm : Value) (an : Option Addr) (cdv ct : Value) (us its : List Value), us.length = 2 → its.length = 1 →
      ∃ k, bindArgs (PySem.W.fnOf "__init__" qual (defArgs st) (defBody st) (defScope st) (.ref T) kV doc pm an cdv ct) ⟨us, []⟩ = seqItems? (.ref T) >>= k ∧ k (some its.toArray) = pure (([(Str.ofString "self"), f] : List Str).zip (us ++ its.drop 1))) : Ecl K mg x f newId tl st := by
  have F : FunD K "__init__" qual (defArgs st) (defBody st) (defScope st) [.non] [] fI (PySem.W.fnOf "__init__" qual (defArgs st) (defBody st) (defScope st) (.ref T) kV dc pm an cd ct) :=
    ⟨⟨oc, od, .ref T, kV, dc, pm, an, cd, ct, osl, rfl, l1, c1, .inr ⟨by simp, T, oT, [.none], n, rfl, lT, dT, .cons rfl .nil⟩, .inl rfl⟩, k1⟩
  obtain ⟨ds, r, b⟩ := F.binds1 (ps := [(Str.ofString "self"), f]) 2 1 (by simp) rfl (fun T kV doc pm an cdv ct us its h1 h2 => hb T kV doc pm an cdv ct us its h1 h2)
  cases r
  exact ⟨C, fI, _, qual, PySem.W.mg_of X G aC, ⟨⟨nm, q, N, bs, bm, sn, sub, ab, col, dd, m0, m1, m2, m3, m5, xL, tb⟩, sa, eC, tC, kC⟩, a1, t1, nb, F, ⟨S, b⟩, ⟨ga, gg, eC, hC⟩, exm_own eC iC tC sC⟩
/-- a clause that takes its own class alone (of the others nothing is said) -/
def clB (c : Str) : Str → Option Bool := fun y => if y = c then some true else none
theorem clB_ok {P : Program} {w : World} {K : PySem.W.Frag} {mg : Str → Option Value} {base : Heap} {c f : Str} {newId : String} {tl : List Value} (E : Exo P w K mg base c f newId tl) :
    ∀ y b C cv, clB c y = some b → mg y = some (.ref C) → mg c = some (.ref cv) → PySem.W.exmOne K (.ref C) (.ref cv) = some b := by
  intro y b C cv e h1 h2
  unfold clB at e
  split at e
  · rename_i hy
    subst hy
    cases e
    obtain ⟨C', fI, fd, g1, _, _, _, _, _, _, _, g9⟩ := E.ex
    rw [g1] at h1 h2
    cases h1
    cases h2
    exact g9
  · cases e
theorem tabR {P : Program} {w : World} {K : PySem.W.Frag} {mg : Str → Option Value} {base : Heap} {A : Around} {kk n : Nat} {tab : Addr → Option (M D)} (h : ∀ f m, tab f = some m → ∃ (k : Nat) (y : Str) (st : Stmt) (ps : List Str), f = adr mg y ∧ Ok P w K mg base k y st ps (spF K mg n m) ∧ k ≤ kk) (hr : Room kk A) :
    ∀ f m, tab f = some m → ∃ (k : Nat) (y : Str) (st : Stmt) (ps : List Str), f = adr mg y ∧ Ok P w K mg base k y st ps (spF K mg n m) ∧ Room k A := fun f m hm => by
  obtain ⟨k, y, st, ps, h1, h2, h3⟩ := h f m hm
  exact ⟨k, y, st, ps, h1, h2, hr.mono h3⟩
end DL
set_option Elab.async false
set_option linter.all false
set_option maxRecDepth 100000
set_option maxHeartbeats 4000000
set_option autoImplicit false
namespace DL
open PySem PySem.Spec PyProof.Rows L2
theorem cst_int {K : PySem.W.Frag} {h : Heap} {mg : Str → Option Value} {x : Str} {n : Int} {t : Tok} (X : K.In h) (G : h.Ns mainGlobals mg) (a : PySem.W.nsIn K mainGlobals x = some (some (.int n t))) : ∃ t, mg x = some (.int n t) := ⟨t, PySem.W.mg_of X G a⟩
theorem cst_str {K : PySem.W.Frag} {h : Heap} {mg : Str → Option Value} {x n : Str} {t : Tok} (X : K.In h) (G : h.Ns mainGlobals mg) (a : PySem.W.nsIn K mainGlobals x = some (some (.str n t))) : ∃ t, mg x = some (.str n t) := ⟨t, PySem.W.mg_of X G a⟩
theorem base_mk {K : PySem.W.Frag} {h : Heap} {mg : Str → Option Value} {x : Str} {id : String} {C0 : Addr} (X : K.In h) (G : h.Ns mainGlobals mg) (a : PySem.W.nsIn K mainGlobals x = some (some (.ref C0))) (r : PySem.W.readsIn K C0 (.type "type") = true)
    (g : PySem.W.specialIn K (.ref C0) "__getattribute__" = some (some (.builtin "type.__getattribute__"))) (f : PySem.W.findCls K (.ref C0) (.type "type") "__init__" = some (.val (.builtin id))) :
    ∃ C0 : Addr, mg x = some (.ref C0) ∧ PySem.W.readsIn K C0 (.type "type") = true ∧ PySem.W.specialIn K (.ref C0) "__getattribute__" = some (some (.builtin "type.__getattribute__")) ∧ PySem.W.findCls K (.ref C0) (.type "type") "__init__" = some (.val (.builtin id)) := ⟨C0, PySem.W.mg_of X G a, r, g, f⟩
theorem law_end {P : Program} {w : World} {K : PySem.W.Frag} {mg : Str → Option Value} {k : Nat} {y x : Str} {st : Stmt} {fa : Addr} {m : M D} (hfa : mg y = some (.ref fa)) (T0 : Df K mg y st) (O : ∀ base, Ok P w K mg base k y st [x] (spF K mg 1 m))
    (hbi : ∀ (kV doc pm : Value) (an : Option Addr) (cdv ct : Value) (us : List Value), us.length = [x].length → bindArgs (PySem.W.fnOf y y (defArgs st) (defBody st) (defScope st) .none kV doc pm an cdv ct) ⟨us, []⟩ = pure ([x].zip us)) :
    ∃ fd : FuncData, (∀ (s : Shared) (u : Value), BindsTo s fd ⟨[u], []⟩ [(x, u)]) ∧ ∀ base, FnG P w K mg base k fa fd [x] (spF K mg 1 m) := by
  obtain ⟨a, fd, h1, F⟩ := T0.ex
  rw [hfa] at h1
  cases h1
  refine ⟨fd, fun s u => F.bindsA (ps := [x]) hbi s [u] rfl, fun base => ?_⟩
  obtain ⟨a', fd', g1, g2, g3, _⟩ := (O base).ex
  rw [hfa] at g1
  cases g1
  obtain ⟨oc, od, dV, kV, doc, pm, an, cdv, ct, osl, e1, l1, _⟩ := F.ex
  obtain ⟨oc', od', dV', kV', doc', pm', an', cdv', ct', osl', e2, l2, _⟩ := g3.ex
  rw [l1] at l2
  cases l2
  exact g2
end DL
set_option Elab.async false
set_option linter.all false
set_option maxRecDepth 100000
set_option maxHeartbeats 4000000
set_option autoImplicit false
namespace DL
open PySem L2
/-! ### mirrors at work: what the operations are worth -/
abbrev SS (l : List Nat) : Str := ⟨l.toArray⟩
abbrev D.st (l : List Nat) : D := .str (SS l)
abbrev D.bd (w h : Int) (l : List Nat) : D := .tup [.int w, .int h, .st l]
theorem deep_int {i : Int} : deepOk (.int i) = true := by simp [deepOk, D.pl, D.py, PyData.depth]
theorem deep_bl {i : Bool} : deepOk (.bl i) = true := by simp [deepOk, D.pl, D.py, PyData.depth]
theorem deep_non : deepOk .non = true := by simp [deepOk, D.pl, D.py, PyData.depth]
theorem deep_str {i : Str} : deepOk (.str i) = true := by simp [deepOk, D.pl, D.py, PyData.depth]
theorem le_ii {a b : Int} : D.le (.int a) (.int b) = some (.bl (decide (a ≤ b))) := by
  unfold D.le D.cmpG D.like D.ltv
  rw [deep_int, deep_int]
  simp only [D.py, PySem.W.alike, D.isNon, PySem.W.dataLt_int, Bool.and_self, Bool.not_false, if_true]
  congr 2
  rw [Bool.eq_iff_iff]
  simp only [Bool.not_eq_true', decide_eq_false_iff_not, decide_eq_true_eq]
  omega
theorem lt_ii {a b : Int} : D.lt (.int a) (.int b) = some (.bl (decide (a < b))) := by
  unfold D.lt D.cmpG D.like D.ltv
  rw [deep_int, deep_int]
  simp only [D.py, PySem.W.alike, D.isNon, PySem.W.dataLt_int, Bool.and_self, Bool.not_false, if_true]
theorem gt_ii {a b : Int} : D.gt (.int a) (.int b) = some (.bl (decide (a > b))) := by
  unfold D.gt D.cmpG D.like D.ltv
  rw [deep_int, deep_int]
  simp only [D.py, PySem.W.alike, D.isNon, PySem.W.dataLt_int, Bool.and_self, Bool.not_false, if_true]
theorem ge_ii {a b : Int} : D.ge (.int a) (.int b) = some (.bl (decide (a ≥ b))) := by
  unfold D.ge D.cmpG D.like D.ltv
  rw [deep_int, deep_int]
  simp only [D.py, PySem.W.alike, D.isNon, PySem.W.dataLt_int, Bool.and_self, Bool.not_false, if_true]
  congr 2
  rw [Bool.eq_iff_iff]
  simp only [Bool.not_eq_true', decide_eq_false_iff_not, decide_eq_true_eq]
  omega
theorem eq_ii {a b : Int} : D.eq (.int a) (.int b) = some (.bl (decide (a = b))) := by
  unfold D.eq D.cmpG D.eqv
  rw [deep_int, deep_int]
  simp only [D.py, PyData.eqv, Bool.and_self, if_true]
  first | (congr 2; done) | (congr 2; rw [Bool.eq_iff_iff]; simp) | (congr 3; rw [Bool.eq_iff_iff]; simp)
theorem ne_ii {a b : Int} : D.ne (.int a) (.int b) = some (.bl (!decide (a = b))) := by
  unfold D.ne D.cmpG D.eqv
  rw [deep_int, deep_int]
  simp only [D.py, PyData.eqv, Bool.and_self, if_true]
  first | (congr 2; done) | (congr 2; rw [Bool.eq_iff_iff]; simp) | (congr 3; rw [Bool.eq_iff_iff]; simp)
theorem add_ii {a b : Int} : D.add (.int a) (.int b) = some (.int (a + b)) := rfl
theorem sub_ii {a b : Int} : D.sub (.int a) (.int b) = some (.int (a - b)) := rfl
theorem mod_ii {a b : Int} (h : 0 < b) : D.mod (.int a) (.int b) = some (.int (a % b)) := by
  show (if decide (b ≠ 0) = true then some (D.int (a.fmod b)) else none) = _
  rw [if_pos (decide_eq_true (by omega)), Int.fmod_eq_emod_of_nonneg a (by omega)]
theorem fdiv_ii {a b : Int} (h : 0 < b) (h2 : b < 1073741824) : D.fdiv (.int a) (.int b) = some (.int (a / b)) := by
  show (if decide (b ≠ 0 ∧ b.natAbs < 1073741824) = true then some (D.int (a.fdiv b)) else none) = _
  rw [if_pos (decide_eq_true ⟨by omega, by omega⟩), Int.fdiv_eq_ediv_of_nonneg a (by omega)]
theorem log_le {n k : Nat} (h : n < 2 ^ k) (hk : 0 < k) : n.log2 < k := by
  by_cases h0 : n = 0
  · subst h0; simpa using hk
  · exact (Nat.log2_lt h0).mpr h
theorem mul_ii {a b : Int} (h1 : a.natAbs < 2 ^ 1000) (h2 : b.natAbs < 2 ^ 1000) : D.mul (.int a) (.int b) = some (.int (a * b)) := by
  show (if decide (a.natAbs.log2 + b.natAbs.log2 < 1000000) = true then some (D.int (a * b)) else none) = _
  have g1 := log_le h1 (by decide)
  have g2 := log_le h2 (by decide)
  rw [if_pos (decide_eq_true (by omega))]
/-! isinstance -/
theorem isi_int_int {i : Int} : isiO "int" (.int i) = some (.bl true) := by
  have : kitB "int" "int" = some true := by decide +kernel
  simp [isiO, D.tyN, this]
theorem isi_bool_int {i : Int} : isiO "bool" (.int i) = some (.bl false) := by
  have : kitB "int" "bool" = some false := by decide +kernel
  simp [isiO, D.tyN, this]
theorem isi_tup_tup {i : List D} : isiO "tuple" (.tup i) = some (.bl true) := by
  have : kitB "tuple" "tuple" = some true := by decide +kernel
  simp [isiO, D.tyN, this]
theorem isi_tup_non : isiO "tuple" .non = some (.bl false) := by
  have : kitB "NoneType" "tuple" = some false := by decide +kernel
  simp [isiO, D.tyN, this]
theorem isi_str_str {i : Str} : isiO "str" (.str i) = some (.bl true) := by
  have : kitB "str" "str" = some true := by decide +kernel
  simp [isiO, D.tyN, this]
theorem isi_str_non : isiO "str" .non = some (.bl false) := by
  have : kitB "NoneType" "str" = some false := by decide +kernel
  simp [isiO, D.tyN, this]
theorem isi_str_int {i : Int} : isiO "str" (.int i) = some (.bl false) := by
  have : kitB "int" "str" = some false := by decide +kernel
  simp [isiO, D.tyN, this]
theorem isi_str_lst {i : List D} : isiO "str" (.lst i) = some (.bl false) := by
  have : kitB "list" "str" = some false := by decide +kernel
  simp [isiO, D.tyN, this]
end DL
set_option Elab.async false
set_option linter.all false
set_option maxRecDepth 100000
set_option maxHeartbeats 4000000
set_option autoImplicit false
namespace DL
open PySem L2
/-! ### comprehensions at work -/
theorem set_set {α : Type} {l : List α} {i : Nat} {a b : α} : (l.set i a).set i b = l.set i b := by
  induction l generalizing i with
  | nil => rfl
  | cons x l ih => cases i with
    | zero => rfl
    | succ i => exact congrArg (x :: ·) ih
theorem set_get {α : Type} {l : List α} {i : Nat} {a : α} (h : l[i]? = some a) : l.set i a = l := by
  induction l generalizing i with
  | nil => rfl
  | cons x l ih => cases i with
    | zero => simp at h; rw [h]; rfl
    | succ i => exact congrArg (x :: ·) (ih (by simpa using h))
theorem stS_at {i : Nat} {d : D} {Γ : SEnv} {s : Sl} (h : Γ[i]? = some s) (hs : ∀ e, s ≠ .io e) : stS i d Γ = .ok () (Γ.set i (.sh d)) := by
  unfold stS
  rw [h]
  cases s with
  | io e => exact absurd rfl (hs e)
  | _ => rfl
theorem get_set_self {i : Nat} {t : Sl} {Γ : SEnv} (h : i < Γ.length) : (Γ.set i t)[i]? = some t := by
  rw [List.getElem?_set_self h]
theorem wipM_one {v : Nat} {Γ : SEnv} {s : Sl} (h : Γ[v]? = some s) (hs : ∀ e, s ≠ .io e) : wipM [v] Γ = .ok () (Γ.set v .no) := by
  simp only [wipM, List.all_cons, List.all_nil, h, Bool.and_true]
  cases s with
  | io e => exact absurd rfl (hs e)
  | _ => rfl
theorem savM_one {v : Nat} {Γ : SEnv} {s : Sl} (h : Γ[v]? = some s) (hs : s.own = none) : savM [v] Γ = .ok Γ Γ := by
  simp only [savM, List.all_cons, List.all_nil, h, hs, Bool.and_true]
  rfl
/-- [e for v in .. if t] -/
theorem lcL_filter {v : Nat} {Γ : SEnv} {t : M Bool} {e : M D} (p : D → Bool) (f : D → D) (hv : v < Γ.length) (ht : ∀ d, t (Γ.set v (.sh d)) = .ok (p d) (Γ.set v (.sh d))) :
    ∀ (ds acc : List D), (∀ d ∈ ds, p d = true → e (Γ.set v (.sh d)) = .ok (f d) (Γ.set v (.sh d))) → acc.length + ds.length ≤ sizeLine → lcL [v] (stS v) t e ds acc (Γ.set v .no) = .ok (acc ++ (ds.filter p).map f) (Γ.set v .no)
  | [], acc, _, _ => by unfold lcL ret; simp
  | d :: ds, acc, he, hz => by
    unfold lcL
    have e1 : stS v d (Γ.set v .no) = .ok () (Γ.set v (.sh d)) := by rw [stS_at (get_set_self hv) (fun e z => by cases z), set_set]
    have e4 : wipM [v] (Γ.set v (.sh d)) = .ok () (Γ.set v .no) := by rw [wipM_one (get_set_self hv) (fun e z => by cases z), set_set]
    unfold bnd
    rw [e1]
    simp only [noEr, ht]
    cases hp : p d with
    | false =>
      simp only [Bool.false_eq_true, if_false, bnd, e4]
      rw [lcL_filter p f hv ht ds acc (fun d hd => he d (List.mem_cons_of_mem _ hd)) (by rw [List.length_cons] at hz; omega)]
      rw [List.filter_cons_of_neg (by rw [hp]; simp)]
    | true =>
      have hs : sizeOk (acc.length + 1) = true := decide_eq_true (by rw [List.length_cons] at hz; omega)
      simp only [if_true, bnd, noEr, he d List.mem_cons_self hp, hs, e4]
      rw [lcL_filter p f hv ht ds (acc ++ [f d]) (fun d hd => he d (List.mem_cons_of_mem _ hd)) (by rw [List.length_append]; rw [List.length_cons] at hz; simp only [List.length_cons, List.length_nil]; omega)]
      rw [List.filter_cons_of_pos hp, List.map_cons, List.append_assoc]
      rfl
theorem lcM_filter {v : Nat} {Γ : SEnv} {s : Sl} {mi : M (List D)} {t : M Bool} {e : M D} {ds : List D} (p : D → Bool) (f : D → D) (hi : mi Γ = .ok ds Γ) (hv : Γ[v]? = some s) (hs : s.own = none) (ht : ∀ d, t (Γ.set v (.sh d)) = .ok (p d) (Γ.set v (.sh d)))
    (he : ∀ d ∈ ds, p d = true → e (Γ.set v (.sh d)) = .ok (f d) (Γ.set v (.sh d))) (hz : ds.length ≤ sizeLine) : lcM [v] mi (stS v) t e Γ = .ok (.lst ((ds.filter p).map f)) Γ := by
  have hl : v < Γ.length := (List.getElem?_eq_some_iff.mp hv).1
  have hio : ∀ e, s ≠ .io e := fun e z => by rw [z] at hs; cases hs
  have e1 := savM_one hv hs
  unfold lcM bnd
  rw [hi]
  simp only [e1, bnd, wipM_one hv hio, lcL_filter p f hl ht ds [] he (by simpa using hz), List.nil_append, rstM, rstG, ret, set_set]
  rw [List.getD_eq_getElem?_getD, hv]
  exact congrArg _ (set_get hv)
theorem lcM_map {v : Nat} {Γ : SEnv} {s : Sl} {mi : M (List D)} {e : M D} {ds : List D} (f : D → D) (hi : mi Γ = .ok ds Γ) (hv : Γ[v]? = some s) (hs : s.own = none)
    (he : ∀ d ∈ ds, e (Γ.set v (.sh d)) = .ok (f d) (Γ.set v (.sh d))) (hz : ds.length ≤ sizeLine) : lcM [v] mi (stS v) (ret true) e Γ = .ok (.lst (ds.map f)) Γ := by
  have := lcM_filter (t := ret true) (e := e) (fun _ => true) f hi hv hs (fun _ => rfl) (fun d hd _ => he d hd) hz
  rw [List.filter_eq_self.mpr (fun _ _ => rfl)] at this
  exact this
/-! ### statements, defs at work -/
theorem sq_nx {f g : M Flow} {Γ Γ' : SEnv} (h : f Γ = .ok .nx Γ') : sq f g Γ = g Γ' := by unfold sq bnd; rw [h]
theorem sq_rt {f g : M Flow} {Γ Γ' : SEnv} {d : D} (h : f Γ = .ok (.rt d) Γ') : sq f g Γ = .ok (.rt d) Γ' := by unfold sq bnd; rw [h]; rfl
theorem sq_er {f g : M Flow} {Γ Γ' : SEnv} {x : Exn} (h : f Γ = .er x Γ') : sq f g Γ = .er x Γ' := by unfold sq bnd; rw [h]
theorem fnM_rt {N : Nat} {m : M Flow} {Γ Δ Γ' : SEnv} {d : D} (h : m (Γ ++ List.replicate (N - Γ.length) .no) = .ok (.rt d) Δ) (hm : mrg Γ Δ = Γ') : fnM N m Γ = .ok d Γ' := by unfold fnM; rw [h, ← hm]
theorem fnM_nx {N : Nat} {m : M Flow} {Γ Δ Γ' : SEnv} (h : m (Γ ++ List.replicate (N - Γ.length) .no) = .ok .nx Δ) (hm : mrg Γ Δ = Γ') : fnM N m Γ = .ok .non Γ' := by unfold fnM; rw [h, ← hm]
theorem fnM_er {N : Nat} {m : M Flow} {Γ Δ Γ' : SEnv} {x : Exn} (h : m (Γ ++ List.replicate (N - Γ.length) .no) = .er x Δ) (hm : mrg Γ Δ = Γ') : fnM N m Γ = .er x Γ' := by unfold fnM; rw [h, ← hm]
theorem ifM_t {α : Type} {c : M Bool} {x y : M α} {Γ Γ' : SEnv} (h : c Γ = .ok true Γ') : ifM c x y Γ = x Γ' := by unfold ifM bnd; rw [h]; rfl
theorem ifM_f {α : Type} {c : M Bool} {x y : M α} {Γ Γ' : SEnv} (h : c Γ = .ok false Γ') : ifM c x y Γ = y Γ' := by unfold ifM bnd; rw [h]; rfl
theorem rt_ok {m : M D} {Γ Γ' : SEnv} {d : D} (h : m Γ = .ok d Γ') : rtM m Γ = .ok (.rt d) Γ' := by unfold rtM bnd; rw [h]; rfl
theorem asg_ok {m : M D} {g : D → M Unit} {Γ Γ1 Γ' : SEnv} {d : D} (h : m Γ = .ok d Γ1) (hg : g d Γ1 = .ok () Γ') : asgM m g Γ = .ok .nx Γ' := by unfold asgM bnd; rw [h]; simp only [bnd]; rw [hg]; rfl
theorem for_ok {mi : M (List D)} {g : D → M Unit} {b : M Flow} {ds : List D} {Γ Γ1 : SEnv} (h : mi Γ = .ok ds Γ1) : forM mi g b Γ = forL g b ds Γ1 := by unfold forM bnd; rw [h]
theorem forL_go {g : D → M Unit} {b : M Flow} {d : D} {r : List D} {Γ Γ1 Γ2 : SEnv} (h1 : g d Γ = .ok () Γ1) (h2 : b Γ1 = .ok .nx Γ2) : forL g b (d :: r) Γ = forL g b r Γ2 := by
  rw [forL]
  unfold bnd
  simp only [h1, bnd, h2]
theorem forL_end {g : D → M Unit} {b : M Flow} {Γ : SEnv} : forL g b [] Γ = .ok .nx Γ := rfl
/-! ### loops at work -/
theorem forL_inv {g : D → M Unit} {body : M Flow} (I : List D → SEnv → Prop) (h : ∀ d r Γ, I (d :: r) Γ → ∃ Γ1 Γ2, g d Γ = .ok () Γ1 ∧ body Γ1 = .ok .nx Γ2 ∧ I r Γ2) : ∀ (ds : List D) (Γ : SEnv), I ds Γ → ∃ Γ', forL g body ds Γ = .ok .nx Γ' ∧ I [] Γ'
  | [], Γ, q => ⟨Γ, by unfold forL ret; rfl, q⟩
  | d :: r, Γ, q => by
    obtain ⟨Γ1, Γ2, e1, e2, q2⟩ := h d r Γ q
    obtain ⟨Γ', e3, q3⟩ := forL_inv I h r Γ2 q2
    refine ⟨Γ', ?_, q3⟩
    unfold forL bnd
    simp only [e1, bnd, e2]
    exact e3
/-- a loop that looks for the first: p tells where it returns -/
theorem forL_find {g : D → M Unit} {body : M Flow} (I : SEnv → Prop) (p : D → Option D) (h : ∀ d Γ, I Γ → ∃ Γ1 Γ2, g d Γ = .ok () Γ1 ∧ I Γ2 ∧ ((p d = none ∧ body Γ1 = .ok .nx Γ2) ∨ ∃ z, p d = some z ∧ body Γ1 = .ok (.rt z) Γ2)) :
    ∀ (ds : List D) (Γ : SEnv), I Γ → ∃ Γ', I Γ' ∧ forL g body ds Γ = .ok (match ds.findSome? p with | some z => .rt z | none => .nx) Γ'
  | [], Γ, q => ⟨Γ, q, by unfold forL ret; rfl⟩
  | d :: r, Γ, q => by
    obtain ⟨Γ1, Γ2, e1, q2, e2⟩ := h d Γ q
    rcases e2 with ⟨e2, e3⟩ | ⟨z, e2, e3⟩
    · obtain ⟨Γ', q3, e4⟩ := forL_find I p h r Γ2 q2
      refine ⟨Γ', q3, ?_⟩
      unfold forL bnd
      simp only [e1, bnd, e3]
      rw [e4, List.findSome?_cons, e2]
    · refine ⟨Γ2, q2, ?_⟩
      unfold forL bnd
      simp only [e1, bnd, e3]
      rw [List.findSome?_cons, e2]
      rfl
end DL
set_option Elab.async false
set_option linter.all false
set_option maxRecDepth 100000
set_option maxHeartbeats 4000000
set_option autoImplicit false
namespace DL
open PySem L2
/-! ### the laws' own draws: the state -/
def stD (l c t : Int) : D := .dct 0 [(.str "left", .int l), (.str "cell", .int c), (.str "turns", .int t)]
theorem kq_str {a b : Str} : D.kq (.str a) (.str b) = decide (a = b) := by
  have := kq_key (.inr a) (.inr b)
  simp only [keyD] at this
  rw [this]
  by_cases h : a = b
  · simp [h]
  · simp [h]
theorem st_ne1 : ¬ (("cell" : Str) = "left") := by decide +kernel
theorem st_ne2 : ¬ (("turns" : Str) = "left") := by decide +kernel
theorem st_ne3 : ¬ (("left" : Str) = "cell") := by decide +kernel
theorem st_ne4 : ¬ (("left" : Str) = "turns") := by decide +kernel
theorem st_ne5 : ¬ (("cell" : Str) = "turns") := by decide +kernel
theorem st_ne6 : ¬ (("turns" : Str) = "cell") := by decide +kernel
theorem ix_left {l c t : Int} : D.ix (stD l c t) (.str "left") = some (.int l) := by
  show (if D.keyOk 0 (.str "left") = true then dval [(.str "left", .int l), (.str "cell", .int c), (.str "turns", .int t)] (.str "left") else none) = _
  rw [if_pos (show D.keyOk 0 (.str "left") = true from rfl)]
  unfold dval
  rw [List.find?_cons_of_pos (by rw [kq_str]; simp)]
  rfl
theorem ix_cell {l c t : Int} : D.ix (stD l c t) (.str "cell") = some (.int c) := by
  show (if D.keyOk 0 (.str "cell") = true then dval [(.str "left", .int l), (.str "cell", .int c), (.str "turns", .int t)] (.str "cell") else none) = _
  rw [if_pos (show D.keyOk 0 (.str "cell") = true from rfl)]
  unfold dval
  rw [List.find?_cons_of_neg (by rw [kq_str]; simp [st_ne3]), List.find?_cons_of_pos (by rw [kq_str]; simp)]
  rfl
theorem ix_turns {l c t : Int} : D.ix (stD l c t) (.str "turns") = some (.int t) := by
  show (if D.keyOk 0 (.str "turns") = true then dval [(.str "left", .int l), (.str "cell", .int c), (.str "turns", .int t)] (.str "turns") else none) = _
  rw [if_pos (show D.keyOk 0 (.str "turns") = true from rfl)]
  unfold dval
  rw [List.find?_cons_of_neg (by rw [kq_str]; simp [st_ne4]), List.find?_cons_of_neg (by rw [kq_str]; simp [st_ne5]), List.find?_cons_of_pos (by rw [kq_str]; simp)]
  rfl
theorem put_left {l c t v : Int} : D.setAt (.str "left") (.int v) (stD l c t) = some (stD v c t) := by
  show (if (D.key0 (.str "left")).isSome = true ∧ [(D.str "left", D.int l), (D.str "cell", D.int c), (D.str "turns", D.int t)].length < sizeLine then some (D.dct 0 (kput [(.str "left", .int l), (.str "cell", .int c), (.str "turns", .int t)] (.str "left") (.int v))) else none) = _
  rw [if_pos ⟨rfl, show 3 < sizeLine by decide⟩]
  unfold kput
  simp only [List.any_cons, kq_str, decide_true, Bool.true_or, if_true, List.map_cons, List.map_nil, st_ne1, st_ne2, decide_false, Bool.false_eq_true, if_false]
  rfl
theorem put_turns {l c t v : Int} : D.setAt (.str "turns") (.int v) (stD l c t) = some (stD l c v) := by
  show (if (D.key0 (.str "turns")).isSome = true ∧ [(D.str "left", D.int l), (D.str "cell", D.int c), (D.str "turns", D.int t)].length < sizeLine then some (D.dct 0 (kput [(.str "left", .int l), (.str "cell", .int c), (.str "turns", .int t)] (.str "turns") (.int v))) else none) = _
  rw [if_pos ⟨rfl, show 3 < sizeLine by decide⟩]
  unfold kput
  simp only [List.any_cons, List.any_nil, kq_str, decide_true, Bool.true_or, Bool.or_true, if_true, List.map_cons, List.map_nil, st_ne4, st_ne5, decide_false, Bool.false_eq_true, if_false, Bool.false_or, Bool.or_false]
  rfl
end DL
set_option Elab.async false
set_option linter.all false
set_option maxRecDepth 100000
set_option maxHeartbeats 4000000
set_option autoImplicit false
namespace DL
open PySem L2
/-! ### texts at work, as lists of code points -/
theorem SS_S (l : List Nat) : SS l = SX.S l := rfl
theorem size_ok {n : Nat} (h : n ≤ 1000000) : sizeOk n = true := decide_eq_true (Nat.le_trans h (by decide))
theorem SS_len (l : List Nat) : (SS l).length = l.length := SX.S_len l
theorem SS_inj {a b : List Nat} : SS a = SS b ↔ a = b := ⟨fun h => SX.S_inj h, fun h => by rw [h]⟩
theorem len_st {l : List Nat} (h : l.length ≤ 1000000) : D.len [.st l] = some (.int l.length) := by
  show (if sizeOk (SS l).length = true then some (D.int (SS l).length) else none) = _
  rw [SS_len, if_pos (size_ok h)]
theorem add_st {a b : List Nat} (h : a.length + b.length ≤ 1000000) : D.add (.st a) (.st b) = some (.st (a ++ b)) := by
  show (if sizeOk ((SS a).length + (SS b).length) = true then some (D.str (SS a ++ SS b)) else none) = _
  rw [SS_len, SS_len, if_pos (size_ok h)]
  exact congrArg (fun z => some (D.str z)) (SX.S_cat a b)
theorem ix_st {l : List Nat} {i : Nat} {c : Nat} (hl : l.length ≤ 1000000) (h : l[i]? = some c) : D.ix (.st l) (.int i) = some (.st [c]) := by
  show (if sizeOk (SS l).length = true then (atI l (i : Int)).map (fun c => D.str ⟨#[c]⟩) else none) = _
  rw [SS_len, if_pos (size_ok hl), atI_nat h]
  rfl
theorem cut_st {l : List Nat} {lo hi : Option Int} : cutS (SS l) lo hi = SS ((l.drop (HT.sIx l.length 0 lo)).take (HT.sIx l.length l.length hi - HT.sIx l.length 0 lo)) := by
  unfold cutS
  rw [SS_len]
theorem slice_st {l : List Nat} {lo hi : Option Int} (hl : l.length ≤ 1000000) : D.slice lo hi (.st l) = some (.st ((l.drop (HT.sIx l.length 0 lo)).take (HT.sIx l.length l.length hi - HT.sIx l.length 0 lo))) := by
  show (if sizeOk (SS l).length = true then some (D.str (cutS (SS l) lo hi)) else none) = _
  rw [SS_len, if_pos (size_ok hl), cut_st]
theorem slice_mid {l : List Nat} {a b : Nat} (hl : l.length ≤ 1000000) (h1 : a ≤ b) (h2 : b ≤ l.length) : D.slice (some (a : Int)) (some (b : Int)) (.st l) = some (.st ((l.drop a).take (b - a))) := by
  rw [slice_st hl, HT.sIx_nat, HT.sIx_nat, Nat.min_eq_left (show a ≤ l.length by omega), Nat.min_eq_left h2]
theorem slice_from {l : List Nat} {a : Nat} (hl : l.length ≤ 1000000) (h1 : a ≤ l.length) : D.slice (some (a : Int)) none (.st l) = some (.st (l.drop a)) := by
  rw [slice_st hl, HT.sIx_nat, HT.sIx_none, Nat.min_eq_left h1, List.take_of_length_le (by rw [List.length_drop]; exact Nat.le_refl _)]
theorem slice_to {l : List Nat} {b : Nat} (hl : l.length ≤ 1000000) : D.slice none (some (b : Int)) (.st l) = some (.st (l.take b)) := by
  rw [slice_st hl, HT.sIx_nat, HT.sIx_none, List.drop_zero, Nat.sub_zero]
  by_cases h : b ≤ l.length
  · rw [Nat.min_eq_left h]
  · rw [Nat.min_eq_right (by omega), List.take_of_length_le (by omega), List.take_of_length_le (by omega)]
theorem texts_st : ∀ ls : List (List Nat), D.texts (ls.map D.st) = some (ls.map SS)
  | [] => rfl
  | l :: ls => by
    rw [List.map_cons, D.texts, texts_st ls]
    rfl
theorem joinL_nil : ∀ ls : List (List Nat), TL.joinL [] ls = ls.flatten
  | [] => rfl
  | [p] => by simp [TL.joinL]
  | p :: q :: r => by
    rw [TL.joinL, joinL_nil (q :: r)]
    simp
theorem sum_len (ls : List (List Nat)) : ((ls.map SS).map (·.length)).sum = ls.flatten.length := by
  rw [List.map_map, List.length_flatten]
  congr 1
theorem join_st {ls : List (List Nat)} (h : ls.flatten.length ≤ 1000000) : D.join "" (.lst (ls.map D.st)) = some (.st ls.flatten) := by
  show (D.texts (ls.map D.st)).bind _ = _
  rw [texts_st]
  have e0 : ("" : Str).length = 0 := by decide
  have hd : decide (((ls.map SS).map (·.length)).sum + (ls.map SS).length * ("" : Str).length ≤ 16777216) = true := by
    rw [e0, sum_len]
    exact decide_eq_true (by omega)
  rw [Option.bind_some, if_pos hd]
  have e1 : ("" : Str) = SX.S [] := by decide
  have e2 := SX.join_S [] ls
  rw [joinL_nil] at e2
  rw [e1]
  exact congrArg (fun z => some (D.str z)) e2
theorem rev_idx (n : Nat) : Builtin.Str.strSliceIndices none none (-1) n = (List.range n).map fun k => n - 1 - k := by
  unfold Builtin.Str.strSliceIndices
  simp only [show ¬ ((-1 : Int) > 0) by decide, if_false]
  unfold sliceRange
  simp only [show ¬ ((-1 : Int) > 0) by decide, if_false]
  have hc : (if (n : Int) - 1 > -1 then ((n : Int) - 1 - -1 - -1 - 1) / (- -1) else 0).toNat = n := by
    split
    · rw [show (- -1 : Int) = 1 by decide, Int.ediv_one]; omega
    · omega
  rw [hc]
  refine List.map_congr_left fun k hk => ?_
  have := List.mem_range.mp hk
  omega
theorem fm_some {f : Nat → Option Nat} {g : Nat → Nat} : ∀ ks : List Nat, (∀ k ∈ ks, f k = some (g k)) → ks.filterMap f = ks.map g
  | [], _ => rfl
  | k :: ks, h => by
    rw [List.filterMap_cons, h k List.mem_cons_self, List.map_cons, fm_some ks fun x hx => h x (List.mem_cons_of_mem _ hx)]
theorem rev_st {l : List Nat} (h : l.length ≤ 1000000) : D.revS (.st l) = some (.st l.reverse) := by
  have e : revStr (SS l) = SS l.reverse := by
    unfold revStr
    rw [SS_len, rev_idx]
    refine congrArg (fun z : List Nat => (⟨z.toArray⟩ : Str)) ?_
    refine List.ext_getElem? fun i => ?_
    rw [List.filterMap_map]
    have : (List.filterMap ((fun x => (SS l).cps[x]?) ∘ fun k => l.length - 1 - k) (List.range l.length)) = (List.range l.length).map fun k => l.getD (l.length - 1 - k) 0 := by
      refine fm_some _ fun k hk => ?_
      have hk' := List.mem_range.mp hk
      have hlt : l.length - 1 - k < l.length := by omega
      show l.toArray[l.length - 1 - k]? = _
      simp [List.getElem?_eq_getElem hlt]
    rw [this, List.getElem?_map]
    by_cases hi : i < l.length
    · rw [List.getElem?_range hi, List.getElem?_reverse hi]
      have hlt : l.length - 1 - i < l.length := by omega
      simp [List.getElem?_eq_getElem hlt, hlt]
    · rw [List.getElem?_eq_none (by rw [List.length_range]; omega), List.getElem?_eq_none (by rw [List.length_reverse]; omega)]
      rfl
  show (if sizeOk (revStr (SS l)).length = true then some (D.str (revStr (SS l))) else none) = _
  rw [e, SS_len, if_pos (size_ok (by rw [List.length_reverse]; exact h))]
theorem eq_st {a b : List Nat} : D.eq (.st a) (.st b) = some (.bl (decide (a = b))) := by
  unfold D.eq D.cmpG D.eqv
  rw [deep_str, deep_str]
  simp only [D.py, PyData.eqv, Bool.and_self, if_true]
  rw [show (SS a == SS b) = decide (a = b) from SX.S_beq_eq]
theorem ne_st {a b : List Nat} : D.ne (.st a) (.st b) = some (.bl (!decide (a = b))) := by
  unfold D.ne D.cmpG D.eqv
  rw [deep_str, deep_str]
  simp only [D.py, PyData.eqv, Bool.and_self, if_true]
  rw [show (SS a == SS b) = decide (a = b) from SX.S_beq_eq]
theorem in_st {c : Nat} {l : List Nat} : strIn (SS [c]) (SS l) = decide (c ∈ l) := PySem.StrLaws.found_one (SS l) c
theorem mul_nn {a b : Nat} (ha : a < 2 ^ 100) (hb : b < 2 ^ 100) : D.mul (.int (a : Int)) (.int (b : Int)) = some (.int ((a * b : Nat) : Int)) := by
  rw [mul_ii (by
    rw [Int.natAbs_natCast]
    exact Nat.lt_of_lt_of_le ha (by decide)) (by
    rw [Int.natAbs_natCast]
    exact Nat.lt_of_lt_of_le hb (by decide)), Int.natCast_mul]
theorem add_nn {a b : Nat} : D.add (.int (a : Int)) (.int (b : Int)) = some (.int ((a + b : Nat) : Int)) := by rw [add_ii, Int.natCast_add]
end DL
set_option Elab.async false
set_option linter.all false
set_option maxRecDepth 100000
set_option maxHeartbeats 4000000
set_option autoImplicit false
namespace DL.K70
open PySem L2
def top (i : Nat) : Stmt := PySem.Challenge.pw_patternwright_k70_whole_forms_of_bands_a.main.body.getD i (.Pass ⟨0, 0, 0, 0⟩)
abbrev s_is_whole : Stmt := top 8
abbrev s_wrong_band : Stmt := top 12
abbrev s_need_band : Stmt := top 13
abbrev s_is_band_motion : Stmt := top 14
abbrev s_need_band_motion : Stmt := top 15
abbrev s_own_colour : Stmt := top 16
abbrev s_own_carried : Stmt := top 17
abbrev s_own_least_shift : Stmt := top 18
abbrev s_own_reduced : Stmt := top 19
abbrev s_own_form : Stmt := top 21
abbrev s_form_of_band : Stmt := top 22
abbrev s_form_motion : Stmt := top 23
abbrev s_own_then_motion : Stmt := top 24
abbrev s_own_back_motion : Stmt := top 25
abbrev s_carrier_between : Stmt := top 26
abbrev s_parting_cell : Stmt := top 27
abbrev s_band_text : Stmt := top 28
abbrev s_read_band : Stmt := top 29
abbrev s__law_mixed : Stmt := top 31
abbrev s__law_draw : Stmt := top 32
abbrev s__law_digit : Stmt := top 33
abbrev s__law_band : Stmt := top 34
abbrev s__law_hue : Stmt := top 35
abbrev s__law_image : Stmt := top 36
abbrev s__law_leads : Stmt := top 37
abbrev s__law_least_shift : Stmt := top 38
abbrev s__law_carried : Stmt := top 40
abbrev s__law_form : Stmt := top 41
abbrev s__law_other : Stmt := top 42
abbrev s__law_first_motion : Stmt := top 43
abbrev s__law_parting : Stmt := top 44
abbrev s__law_pair_right : Stmt := top 45
abbrev s__law_read : Stmt := top 46
abbrev s__law_due : Stmt := top 47
abbrev s__law_texts_right : Stmt := top 48
abbrev s_law : Stmt := top 49
abbrev s_BadMotion : Stmt := inClass (top 2) 0
abbrev s_BadBand : Stmt := inClass (top 3) 0
abbrev s_BadText : Stmt := inClass (top 4) 0
abbrev s_NoSuch : Stmt := inClass (top 5) 0
def cD_FAR : D := .int 1000000
def cD_MOST_CELLS : D := .int 1000
def cD_SMALL : D := .str "abcdefghijklmnopqrstuvwxyz"
/-- what the written part says of the module -/
structure Txt (K : PySem.W.Frag) (mg : Str → Option Value) : Prop where
  d_is_whole : Df K mg "is_whole" s_is_whole
  d_wrong_band : Df K mg "wrong_band" s_wrong_band
  d_need_band : Df K mg "need_band" s_need_band
  d_is_band_motion : Df K mg "is_band_motion" s_is_band_motion
  d_need_band_motion : Df K mg "need_band_motion" s_need_band_motion
  d_own_colour : Df K mg "own_colour" s_own_colour
  d_own_carried : Df K mg "own_carried" s_own_carried
  d_own_least_shift : Df K mg "own_least_shift" s_own_least_shift
  d_own_reduced : Df K mg "own_reduced" s_own_reduced
  d_own_form : Df K mg "own_form" s_own_form
  d_form_of_band : Df K mg "form_of_band" s_form_of_band
  d_form_motion : Df K mg "form_motion" s_form_motion
  d_own_then_motion : Df K mg "own_then_motion" s_own_then_motion
  d_own_back_motion : Df K mg "own_back_motion" s_own_back_motion
  d_carrier_between : Df K mg "carrier_between" s_carrier_between
  d_parting_cell : Df K mg "parting_cell" s_parting_cell
  d_band_text : Df K mg "band_text" s_band_text
  d_read_band : Df K mg "read_band" s_read_band
  d__law_mixed : Df K mg "_law_mixed" s__law_mixed
  d__law_draw : Df K mg "_law_draw" s__law_draw
  d__law_digit : Df K mg "_law_digit" s__law_digit
  d__law_band : Df K mg "_law_band" s__law_band
  d__law_hue : Df K mg "_law_hue" s__law_hue
  d__law_image : Df K mg "_law_image" s__law_image
  d__law_leads : Df K mg "_law_leads" s__law_leads
  d__law_least_shift : Df K mg "_law_least_shift" s__law_least_shift
  d__law_carried : Df K mg "_law_carried" s__law_carried
  d__law_form : Df K mg "_law_form" s__law_form
  d__law_other : Df K mg "_law_other" s__law_other
  d__law_first_motion : Df K mg "_law_first_motion" s__law_first_motion
  d__law_parting : Df K mg "_law_parting" s__law_parting
  d__law_pair_right : Df K mg "_law_pair_right" s__law_pair_right
  d__law_read : Df K mg "_law_read" s__law_read
  d__law_due : Df K mg "_law_due" s__law_due
  d__law_texts_right : Df K mg "_law_texts_right" s__law_texts_right
  d_law : Df K mg "law" s_law
  b_LookupError : mg "LookupError" = none
  b_all : mg "all" = none
  b_bool : mg "bool" = none
  b_enumerate : mg "enumerate" = none
  b_int : mg "int" = none
  b_isinstance : mg "isinstance" = none
  b_len : mg "len" = none
  b_min : mg "min" = none
  b_range : mg "range" = none
  b_repr : mg "repr" = none
  b_str : mg "str" = none
  b_sum : mg "sum" = none
  b_tuple : mg "tuple" = none
  c_FAR : ∃ t, mg "FAR" = some (.int 1000000 t)
  c_MOST_CELLS : ∃ t, mg "MOST_CELLS" = some (.int 1000 t)
  c_SMALL : ∃ t, mg "SMALL" = some (.str "abcdefghijklmnopqrstuvwxyz" t)
  o_PatternError : ∃ C0 : Addr, mg "PatternError" = some (.ref C0) ∧ PySem.W.readsIn K C0 (.type "type") = true ∧ PySem.W.specialIn K (.ref C0) "__getattribute__" = some (some (.builtin "type.__getattribute__")) ∧ PySem.W.findCls K (.ref C0) (.type "type") "__init__" = some (.val (.builtin "ValueError.__init__"))
  o_LookupError : PySem.W.findCls K (.type "LookupError") (.type "type") "__init__" = some (.val (.builtin "LookupError.__init__"))
  e_BadMotion : Ecl K mg "BadMotion" "value" "ValueError.__new__" tl_ValueError s_BadMotion
  e_BadBand : Ecl K mg "BadBand" "place" "ValueError.__new__" tl_ValueError s_BadBand
  e_BadText : Ecl K mg "BadText" "place" "ValueError.__new__" tl_ValueError s_BadText
  e_NoSuch : Ecl K mg "NoSuch" "value" "LookupError.__new__" tl_LookupError s_NoSuch
variable {P : Program} {w : World} {K : PySem.W.Frag} {mg : Str → Option Value} {base : Heap}
theorem Txt.de_FAR {X : Cx} {W : WX} {pos : Pos} (T : Txt K X.mg) (hg : Gl X "FAR") : DE X W (.Name "FAR" pos) (ret cD_FAR) := by
  obtain ⟨t, h⟩ := T.c_FAR
  exact de_glob (v := .int 1000000) hg h ⟨t, rfl⟩ (fun _ => .int _)
theorem Txt.de_MOST_CELLS {X : Cx} {W : WX} {pos : Pos} (T : Txt K X.mg) (hg : Gl X "MOST_CELLS") : DE X W (.Name "MOST_CELLS" pos) (ret cD_MOST_CELLS) := by
  obtain ⟨t, h⟩ := T.c_MOST_CELLS
  exact de_glob (v := .int 1000) hg h ⟨t, rfl⟩ (fun _ => .int _)
theorem Txt.de_SMALL {X : Cx} {W : WX} {pos : Pos} (T : Txt K X.mg) (hg : Gl X "SMALL") : DE X W (.Name "SMALL" pos) (ret cD_SMALL) := by
  obtain ⟨t, h⟩ := T.c_SMALL
  exact de_glob (v := .str "abcdefghijklmnopqrstuvwxyz") hg h ⟨t, rfl⟩ (fun _ => .str _)
theorem exo_BadMotion (T : Txt K mg) : Exo P w K mg base "BadMotion" "value" "ValueError.__new__" tl_ValueError := by
  obtain ⟨C0, o1, o2, o3, o4⟩ := T.o_PatternError
  obtain ⟨C, fI, fd, qual, h1, h2, h3, h4, h5, h6, h7, h8, h9⟩ := T.e_BadMotion.ex
  exact ⟨C, fI, fd, h1, h2, h3, h4, h5, init_fn h6 h7.1 eb_VE rfl rfl (fun cdv A outer s H E v0 => pe_initO eb_VE rfl o1 o2 o3 o4 (by decide +kernel) (pa_cons (v0 _) (pa_cons pe_str pa_nil rfl) rfl)) (fun _ => rfl) (fun _ => rfl), h7.2, h8, h9⟩
theorem exo_BadBand (T : Txt K mg) : Exo P w K mg base "BadBand" "place" "ValueError.__new__" tl_ValueError := by
  obtain ⟨C0, o1, o2, o3, o4⟩ := T.o_PatternError
  obtain ⟨C, fI, fd, qual, h1, h2, h3, h4, h5, h6, h7, h8, h9⟩ := T.e_BadBand.ex
  exact ⟨C, fI, fd, h1, h2, h3, h4, h5, init_fn h6 h7.1 eb_VE rfl rfl (fun cdv A outer s H E v0 => pe_initO eb_VE rfl o1 o2 o3 o4 (by decide +kernel) (pa_cons (v0 _) (pa_cons pe_str pa_nil rfl) rfl)) (fun _ => rfl) (fun _ => rfl), h7.2, h8, h9⟩
theorem exo_BadText (T : Txt K mg) : Exo P w K mg base "BadText" "place" "ValueError.__new__" tl_ValueError := by
  obtain ⟨C0, o1, o2, o3, o4⟩ := T.o_PatternError
  obtain ⟨C, fI, fd, qual, h1, h2, h3, h4, h5, h6, h7, h8, h9⟩ := T.e_BadText.ex
  exact ⟨C, fI, fd, h1, h2, h3, h4, h5, init_fn h6 h7.1 eb_VE rfl rfl (fun cdv A outer s H E v0 => pe_initO eb_VE rfl o1 o2 o3 o4 (by decide +kernel) (pa_cons (v0 _) (pa_cons pe_str pa_nil rfl) rfl)) (fun _ => rfl) (fun _ => rfl), h7.2, h8, h9⟩
theorem exo_NoSuch (T : Txt K mg) : Exo P w K mg base "NoSuch" "value" "LookupError.__new__" tl_LookupError := by
  obtain ⟨C, fI, fd, qual, h1, h2, h3, h4, h5, h6, h7, h8, h9⟩ := T.e_NoSuch.ex
  exact ⟨C, fI, fd, h1, h2, h3, h4, h5, init_fn h6 h7.1 eb_LE rfl rfl (fun cdv A outer s H E v0 => pe_initB eb_LE rfl T.b_LookupError rfl (by first | rfl | kernel_rfl) (by decide +kernel) T.o_LookupError (by decide +kernel) (pa_cons (v0 _) (pa_cons pe_str pa_nil rfl) rfl)) (fun _ => rfl) (fun _ => rfl), h7.2, h8, h9⟩
def m_is_whole : M Flow :=
  rtM (andV (isiM "int" (vr 0)) (andV (notV (isiM "bool" (vr 0))) (chainM D.le D.le (vr 1) (vr 0) (vr 2))))
theorem O_is_whole (T : Txt K mg) : Ok P w K mg base 1 "is_whole" s_is_whole ["thing", "least", "most"] (spF K mg 3 (fnM 3 m_is_whole)) := by
  have S : FnScope ["thing", "least", "most"] ["thing", "least", "most"] (defScope s_is_whole) := ⟨rfl, rfl, rfl, by decide +kernel, rfl, by decide +kernel, by decide +kernel⟩
  refine ok_fn T.d_is_whole S (by decide) (fun _ _ _ _ _ _ us hl => match us, hl with | [_, _, _], _ => rfl) fun f cdv A outer s H E hgu hr => ?_
  have hu := hu150 hr
  have hu1 := hu1_of hr
  have hN := S.nd
  have hc : (cxOf (L2.CX P w) P w K mg base ["thing", "least", "most"] "is_whole" (defScope s_is_whole) f cdv A outer s H E).calm = true := rfl
  have tk : Takes (cxOf (L2.CX P w) P w K mg base ["thing", "least", "most"] "is_whole" (defScope s_is_whole) f cdv A outer s H E) (WF E) := takes_of rfl rfl rfl rfl
  have hp : PassesOwn (model (cxOf (L2.CX P w) P w K mg base ["thing", "least", "most"] "is_whole" (defScope s_is_whole) f cdv A outer s H E).prog w) (cxOf (L2.CX P w) P w K mg base ["thing", "least", "most"] "is_whole" (defScope s_is_whole) f cdv A outer s H E).A (cxOf (L2.CX P w) P w K mg base ["thing", "least", "most"] "is_whole" (defScope s_is_whole) f cdv A outer s H E).env (cxOf (L2.CX P w) P w K mg base ["thing", "least", "most"] "is_whole" (defScope s_is_whole) f cdv A outer s H E).xe := passes_of rfl
  exact (dss_one (ds_ret (de_and (de_isi rfl T.b_isinstance rfl T.b_int rfl (dv 0)) (de_and (de_not (de_isi rfl T.b_isinstance rfl T.b_bool rfl (dv 0))) (de_one (de_chain (od_le hu) (od_le hu) (dv 1) (dv 0) (dv 2)))))))
def m_wrong_band : M Flow :=
  sq (ifM (orM (notM (asB (isiM "tuple" (vr 0)))) (asB (bin D.ne (appM D.len (consA (vr 0) (nilA))) (ret (.int 3))))) (rtM (lstM (consA (ret .non) (nilA)))) (ret .nx))
    (sq (asgM (vr 0) (gtM 3 (unp1 (stS 1) (unp1 (stS 2) (unp1 (stS 3) unp0)))))
    (sq (ifM (orM (notM (asB (callM (fnM 3 m_is_whole) (consA (vr 1) (consA (ret (.int 1)) (consA (ret cD_MOST_CELLS) (nilA))))))) (notM (asB (callM (fnM 3 m_is_whole) (consA (vr 2) (consA (ret (.int 1)) (consA (bin D.fdiv (ret cD_MOST_CELLS) (vr 1)) (nilA)))))))) (rtM (lstM (consA (ret (.str "size")) (nilA)))) (ret .nx))
    (sq (ifM (orM (notM (asB (isiM "str" (vr 3)))) (asB (bin D.ne (appM D.len (consA (vr 3) (nilA))) (bin D.mul (vr 1) (vr 2))))) (rtM (lstM (consA (ret (.str "colours")) (nilA)))) (ret .nx))
    (rtM (ifM (asB (appM D.all (consA (lcM [4] (seqM (vr 3)) (stS 4) (ret true) (bin D.isin (vr 4) (ret cD_SMALL))) (nilA)))) (lstM (nilA)) (lstM (consA (ret (.str "colours")) (nilA))))))))
theorem O_wrong_band (T : Txt K mg) : Ok P w K mg base 2 "wrong_band" s_wrong_band ["thing"] (spF K mg 1 (fnM 5 m_wrong_band)) := by
  have O_is_whole := O_is_whole (P := P) (w := w) (base := base) T
  have S : FnScope ["thing", "columns", "rows", "colours", "sign"] ["thing"] (defScope s_wrong_band) := ⟨rfl, rfl, rfl, by decide +kernel, rfl, by decide +kernel, by decide +kernel⟩
  refine ok_fn T.d_wrong_band S (by decide) (fun _ _ _ _ _ _ us hl => match us, hl with | [_], _ => rfl) fun f cdv A outer s H E hgu hr => ?_
  have hu := hu150 hr
  have hu1 := hu1_of hr
  have hN := S.nd
  have hc : (cxOf (L2.CX P w) P w K mg base ["thing", "columns", "rows", "colours", "sign"] "wrong_band" (defScope s_wrong_band) f cdv A outer s H E).calm = true := rfl
  have tk : Takes (cxOf (L2.CX P w) P w K mg base ["thing", "columns", "rows", "colours", "sign"] "wrong_band" (defScope s_wrong_band) f cdv A outer s H E) (WF E) := takes_of rfl rfl rfl rfl
  have hp : PassesOwn (model (cxOf (L2.CX P w) P w K mg base ["thing", "columns", "rows", "colours", "sign"] "wrong_band" (defScope s_wrong_band) f cdv A outer s H E).prog w) (cxOf (L2.CX P w) P w K mg base ["thing", "columns", "rows", "colours", "sign"] "wrong_band" (defScope s_wrong_band) f cdv A outer s H E).A (cxOf (L2.CX P w) P w K mg base ["thing", "columns", "rows", "colours", "sign"] "wrong_band" (defScope s_wrong_band) f cdv A outer s H E).env (cxOf (L2.CX P w) P w K mg base ["thing", "columns", "rows", "colours", "sign"] "wrong_band" (defScope s_wrong_band) f cdv A outer s H E).xe := passes_of rfl
  exact (dss_cons (ds_if (dw_pt (dw_or (dt_not (dt_val (de_isi rfl T.b_isinstance rfl T.b_tuple rfl (dv 0)))) (dw_or1 (dt_cmp (od_ne hu) (de_callB cd_len rfl T.b_len rfl (da_cons (dv 0) da_nil)) de_int rfl)))) (dss_one (ds_ret (de_lst (da_cons de_non da_nil)))) dss_nil)
    (dss_cons (ds_asg (dv 0) (dg_tup hc (dgs_cons (dgn 1 hN) (dgs_cons (dgn 2 hN) (dgs_cons (dgn 3 hN) dgs_nil)))) (gtM_er (unp1_er stS_er (unp1_er stS_er (unp1_er stS_er unp0_er)))))
    (dss_cons (ds_if (dw_pt (dw_or (dt_not (dt_val (dcall O_is_whole hgu (hr.mono (by decide)) rfl tk (da_cons (dv 1) (da_cons de_int (da_cons (T.de_MOST_CELLS rfl) da_nil))) (len_cons (len_cons (len_cons len_nil)))))) (dw_or1 (dt_not (dt_val (dcall O_is_whole hgu (hr.mono (by decide)) rfl tk (da_cons (dv 2) (da_cons de_int (da_cons (de_op od_fdiv (T.de_MOST_CELLS rfl) (dv 1)) da_nil))) (len_cons (len_cons (len_cons len_nil))))))))) (dss_one (ds_ret (de_lst (da_cons de_str da_nil)))) dss_nil)
    (dss_cons (ds_if (dw_pt (dw_or (dt_not (dt_val (de_isi rfl T.b_isinstance rfl T.b_str rfl (dv 3)))) (dw_or1 (dt_cmp (od_ne hu) (de_callB cd_len rfl T.b_len rfl (da_cons (dv 3) da_nil)) (de_op od_mul (dv 1) (dv 2)) rfl)))) (dss_one (ds_ret (de_lst (da_cons de_str da_nil)))) dss_nil)
    (dss_one (ds_ret (de_if (dt_val (de_callB (cd_all hc) rfl T.b_all rfl (da_cons (df_de (df_lc hc hN (own := [("sign", 4)]) (blkOk_by (by first | rfl | decide +kernel)) (di_seq (dv 3)) (fun s H C cl fp => (dgn 4 hN)) stS_er (by decide) (fun s H C cl fp => dts_nil) (fun s H C cl fp => (de_cmp (od_in hu) (dv 4) (T.de_SMALL rfl) rfl)))) da_nil))) (de_lst da_nil) (de_lst (da_cons de_str da_nil)))))))))
def m_need_band : M Flow :=
  sq (asgM (callM (fnM 5 m_wrong_band) (consA (vr 0) (nilA))) (stS 1))
    (ifM (asB (bin D.ne (vr 1) (lstM (nilA)))) (raiseM "BadBand" "place" (bin D.ix (vr 1) (ret (.int 0)))) (ret .nx))
theorem O_need_band (T : Txt K mg) : Ok P w K mg base 3 "need_band" s_need_band ["band"] (spF K mg 1 (fnM 2 m_need_band)) := by
  have O_wrong_band := O_wrong_band (P := P) (w := w) (base := base) T
  have E_BadBand := exo_BadBand (P := P) (w := w) (base := base) T
  have S : FnScope ["band", "wrong"] ["band"] (defScope s_need_band) := ⟨rfl, rfl, rfl, by decide +kernel, rfl, by decide +kernel, by decide +kernel⟩
  refine ok_fn T.d_need_band S (by decide) (fun _ _ _ _ _ _ us hl => match us, hl with | [_], _ => rfl) fun f cdv A outer s H E hgu hr => ?_
  have hu := hu150 hr
  have hu1 := hu1_of hr
  have hN := S.nd
  have hc : (cxOf (L2.CX P w) P w K mg base ["band", "wrong"] "need_band" (defScope s_need_band) f cdv A outer s H E).calm = true := rfl
  have tk : Takes (cxOf (L2.CX P w) P w K mg base ["band", "wrong"] "need_band" (defScope s_need_band) f cdv A outer s H E) (WF E) := takes_of rfl rfl rfl rfl
  have hp : PassesOwn (model (cxOf (L2.CX P w) P w K mg base ["band", "wrong"] "need_band" (defScope s_need_band) f cdv A outer s H E).prog w) (cxOf (L2.CX P w) P w K mg base ["band", "wrong"] "need_band" (defScope s_need_band) f cdv A outer s H E).A (cxOf (L2.CX P w) P w K mg base ["band", "wrong"] "need_band" (defScope s_need_band) f cdv A outer s H E).env (cxOf (L2.CX P w) P w K mg base ["band", "wrong"] "need_band" (defScope s_need_band) f cdv A outer s H E).xe := passes_of rfl
  exact (dss_cons (dset 1 hN (dcall O_wrong_band hgu (hr.mono (by decide)) rfl tk (da_cons (dv 0) da_nil) (len_cons len_nil)))
    (dss_one (ds_if (dt_cmp (od_ne hu) (dv 1) (de_lst da_nil) rfl) (dss_one (draise eb_VE E_BadBand hc (hr.mono (by decide)) tk rfl (de_ix hu (dv 1) de_int (fun _ _ => rfl)))) dss_nil)))
def m_is_band_motion : M Flow :=
  sq (ifM (orM (notM (asB (isiM "tuple" (vr 0)))) (asB (bin D.ne (appM D.len (consA (vr 0) (nilA))) (ret (.int 2))))) (rtM (ret (.bl false))) (ret .nx))
    (rtM (andV (callM (fnM 3 m_is_whole) (consA (bin D.ix (vr 0) (ret (.int 0))) (consA (ret (.int 0)) (consA (ret (.int 3)) (nilA))))) (callM (fnM 3 m_is_whole) (consA (bin D.ix (vr 0) (ret (.int 1))) (consA (bin D.sub (ret (.int 0)) (ret cD_FAR)) (consA (ret cD_FAR) (nilA)))))))
theorem O_is_band_motion (T : Txt K mg) : Ok P w K mg base 2 "is_band_motion" s_is_band_motion ["thing"] (spF K mg 1 (fnM 1 m_is_band_motion)) := by
  have O_is_whole := O_is_whole (P := P) (w := w) (base := base) T
  have S : FnScope ["thing"] ["thing"] (defScope s_is_band_motion) := ⟨rfl, rfl, rfl, by decide +kernel, rfl, by decide +kernel, by decide +kernel⟩
  refine ok_fn T.d_is_band_motion S (by decide) (fun _ _ _ _ _ _ us hl => match us, hl with | [_], _ => rfl) fun f cdv A outer s H E hgu hr => ?_
  have hu := hu150 hr
  have hu1 := hu1_of hr
  have hN := S.nd
  have hc : (cxOf (L2.CX P w) P w K mg base ["thing"] "is_band_motion" (defScope s_is_band_motion) f cdv A outer s H E).calm = true := rfl
  have tk : Takes (cxOf (L2.CX P w) P w K mg base ["thing"] "is_band_motion" (defScope s_is_band_motion) f cdv A outer s H E) (WF E) := takes_of rfl rfl rfl rfl
  have hp : PassesOwn (model (cxOf (L2.CX P w) P w K mg base ["thing"] "is_band_motion" (defScope s_is_band_motion) f cdv A outer s H E).prog w) (cxOf (L2.CX P w) P w K mg base ["thing"] "is_band_motion" (defScope s_is_band_motion) f cdv A outer s H E).A (cxOf (L2.CX P w) P w K mg base ["thing"] "is_band_motion" (defScope s_is_band_motion) f cdv A outer s H E).env (cxOf (L2.CX P w) P w K mg base ["thing"] "is_band_motion" (defScope s_is_band_motion) f cdv A outer s H E).xe := passes_of rfl
  exact (dss_cons (ds_if (dw_pt (dw_or (dt_not (dt_val (de_isi rfl T.b_isinstance rfl T.b_tuple rfl (dv 0)))) (dw_or1 (dt_cmp (od_ne hu) (de_callB cd_len rfl T.b_len rfl (da_cons (dv 0) da_nil)) de_int rfl)))) (dss_one (ds_ret de_bl)) dss_nil)
    (dss_one (ds_ret (de_and (dcall O_is_whole hgu (hr.mono (by decide)) rfl tk (da_cons (de_ix hu (dv 0) de_int (fun _ _ => rfl)) (da_cons de_int (da_cons de_int da_nil))) (len_cons (len_cons (len_cons len_nil)))) (de_one (dcall O_is_whole hgu (hr.mono (by decide)) rfl tk (da_cons (de_ix hu (dv 0) de_int (fun _ _ => rfl)) (da_cons (de_op od_sub de_int (T.de_FAR rfl)) (da_cons (T.de_FAR rfl) da_nil))) (len_cons (len_cons (len_cons len_nil)))))))))
def m_need_band_motion : M Flow :=
  ifM (notM (asB (callM (fnM 1 m_is_band_motion) (consA (vr 0) (nilA))))) (raiseM "BadMotion" "value" (vr 0)) (ret .nx)
theorem O_need_band_motion (T : Txt K mg) : Ok P w K mg base 3 "need_band_motion" s_need_band_motion ["motion"] (spF K mg 1 (fnM 1 m_need_band_motion)) := by
  have O_is_band_motion := O_is_band_motion (P := P) (w := w) (base := base) T
  have E_BadMotion := exo_BadMotion (P := P) (w := w) (base := base) T
  have S : FnScope ["motion"] ["motion"] (defScope s_need_band_motion) := ⟨rfl, rfl, rfl, by decide +kernel, rfl, by decide +kernel, by decide +kernel⟩
  refine ok_fn T.d_need_band_motion S (by decide) (fun _ _ _ _ _ _ us hl => match us, hl with | [_], _ => rfl) fun f cdv A outer s H E hgu hr => ?_
  have hu := hu150 hr
  have hu1 := hu1_of hr
  have hN := S.nd
  have hc : (cxOf (L2.CX P w) P w K mg base ["motion"] "need_band_motion" (defScope s_need_band_motion) f cdv A outer s H E).calm = true := rfl
  have tk : Takes (cxOf (L2.CX P w) P w K mg base ["motion"] "need_band_motion" (defScope s_need_band_motion) f cdv A outer s H E) (WF E) := takes_of rfl rfl rfl rfl
  have hp : PassesOwn (model (cxOf (L2.CX P w) P w K mg base ["motion"] "need_band_motion" (defScope s_need_band_motion) f cdv A outer s H E).prog w) (cxOf (L2.CX P w) P w K mg base ["motion"] "need_band_motion" (defScope s_need_band_motion) f cdv A outer s H E).A (cxOf (L2.CX P w) P w K mg base ["motion"] "need_band_motion" (defScope s_need_band_motion) f cdv A outer s H E).env (cxOf (L2.CX P w) P w K mg base ["motion"] "need_band_motion" (defScope s_need_band_motion) f cdv A outer s H E).xe := passes_of rfl
  exact (dss_one (ds_if (dt_not (dt_val (dcall O_is_band_motion hgu (hr.mono (by decide)) rfl tk (da_cons (dv 0) da_nil) (len_cons len_nil)))) (dss_one (draise eb_VE E_BadMotion hc (hr.mono (by decide)) tk rfl (dv 0))) dss_nil))
def m_own_colour : M Flow :=
  rtM (bin D.ix (bin D.ix (vr 0) (ret (.int 2))) (bin D.add (bin D.mul (vr 2) (bin D.ix (vr 0) (ret (.int 0)))) (bin D.mod (vr 1) (bin D.ix (vr 0) (ret (.int 0))))))
theorem O_own_colour (T : Txt K mg) : Ok P w K mg base 1 "own_colour" s_own_colour ["band", "x", "y"] (spF K mg 3 (fnM 3 m_own_colour)) := by
  have S : FnScope ["band", "x", "y"] ["band", "x", "y"] (defScope s_own_colour) := ⟨rfl, rfl, rfl, by decide +kernel, rfl, by decide +kernel, by decide +kernel⟩
  refine ok_fn T.d_own_colour S (by decide) (fun _ _ _ _ _ _ us hl => match us, hl with | [_, _, _], _ => rfl) fun f cdv A outer s H E hgu hr => ?_
  have hu := hu150 hr
  have hu1 := hu1_of hr
  have hN := S.nd
  have hc : (cxOf (L2.CX P w) P w K mg base ["band", "x", "y"] "own_colour" (defScope s_own_colour) f cdv A outer s H E).calm = true := rfl
  have tk : Takes (cxOf (L2.CX P w) P w K mg base ["band", "x", "y"] "own_colour" (defScope s_own_colour) f cdv A outer s H E) (WF E) := takes_of rfl rfl rfl rfl
  have hp : PassesOwn (model (cxOf (L2.CX P w) P w K mg base ["band", "x", "y"] "own_colour" (defScope s_own_colour) f cdv A outer s H E).prog w) (cxOf (L2.CX P w) P w K mg base ["band", "x", "y"] "own_colour" (defScope s_own_colour) f cdv A outer s H E).A (cxOf (L2.CX P w) P w K mg base ["band", "x", "y"] "own_colour" (defScope s_own_colour) f cdv A outer s H E).env (cxOf (L2.CX P w) P w K mg base ["band", "x", "y"] "own_colour" (defScope s_own_colour) f cdv A outer s H E).xe := passes_of rfl
  exact (dss_one (ds_ret (de_ix hu (de_ix hu (dv 0) de_int (fun _ _ => rfl)) (de_op od_add (de_op od_mul (dv 2) (de_ix hu (dv 0) de_int (fun _ _ => rfl))) (de_op od_mod (dv 1) (de_ix hu (dv 0) de_int (fun _ _ => rfl)))) (fun _ _ => rfl))))
def m_own_carried : M Flow :=
  sq (asgM (vr 0) (gtM 3 (unp1 (stS 2) (unp1 (stS 3) (unp1 (stS 4) unp0)))))
    (sq (par2 false true 5 6 (bin D.ix (vr 1) (ret (.int 0))) (lstM (nilA)))
    (sq (asgM (bin D.mod (ifM (asB (bin D.lt (vr 5) (ret (.int 2)))) (bin D.sub (ret (.int 0)) (bin D.ix (vr 1) (ret (.int 1)))) (bin D.sub (bin D.sub (vr 2) (ret (.int 1))) (bin D.ix (vr 1) (ret (.int 1))))) (vr 2)) (stS 7))
    (sq (forM (rangeM (consA (vr 3) (nilA))) (stS 8) (sq (asgM (ifM (asB (bin D.isin (vr 5) (tupM (consA (ret (.int 1)) (consA (ret (.int 3)) (nilA)))))) (bin D.sub (bin D.sub (vr 3) (ret (.int 1))) (vr 8)) (vr 8)) (stS 9))
    (sq (asgM (sliceM (vr 4) (someI (bin D.mul (vr 9) (vr 2))) (someI (bin D.add (bin D.mul (vr 9) (vr 2)) (vr 2)))) (stS 10))
    (sq (asgM (ifM (asB (bin D.lt (vr 5) (ret (.int 2)))) (vr 10) (revM D.revS (vr 10))) (stS 10))
    (appS 6 (bin D.add (sliceM (vr 10) (someI (vr 7)) (ret none)) (sliceM (vr 10) (ret none) (someI (vr 7)))))))))
    (rtM (tupM (consA (vr 2) (consA (vr 3) (consA (strM D.join (ret (.str "")) (vr 6)) (nilA)))))))))
theorem O_own_carried (T : Txt K mg) : Ok P w K mg base 1 "own_carried" s_own_carried ["band", "motion"] (spF K mg 2 (fnM 11 m_own_carried)) := by
  have S : FnScope ["band", "motion", "columns", "rows", "colours", "kind", "found", "at", "y", "line", "row"] ["band", "motion"] (defScope s_own_carried) := ⟨rfl, rfl, rfl, by decide +kernel, rfl, by decide +kernel, by decide +kernel⟩
  refine ok_fn T.d_own_carried S (by decide) (fun _ _ _ _ _ _ us hl => match us, hl with | [_, _], _ => rfl) fun f cdv A outer s H E hgu hr => ?_
  have hu := hu150 hr
  have hu1 := hu1_of hr
  have hN := S.nd
  have hc : (cxOf (L2.CX P w) P w K mg base ["band", "motion", "columns", "rows", "colours", "kind", "found", "at", "y", "line", "row"] "own_carried" (defScope s_own_carried) f cdv A outer s H E).calm = true := rfl
  have tk : Takes (cxOf (L2.CX P w) P w K mg base ["band", "motion", "columns", "rows", "colours", "kind", "found", "at", "y", "line", "row"] "own_carried" (defScope s_own_carried) f cdv A outer s H E) (WF E) := takes_of rfl rfl rfl rfl
  have hp : PassesOwn (model (cxOf (L2.CX P w) P w K mg base ["band", "motion", "columns", "rows", "colours", "kind", "found", "at", "y", "line", "row"] "own_carried" (defScope s_own_carried) f cdv A outer s H E).prog w) (cxOf (L2.CX P w) P w K mg base ["band", "motion", "columns", "rows", "colours", "kind", "found", "at", "y", "line", "row"] "own_carried" (defScope s_own_carried) f cdv A outer s H E).A (cxOf (L2.CX P w) P w K mg base ["band", "motion", "columns", "rows", "colours", "kind", "found", "at", "y", "line", "row"] "own_carried" (defScope s_own_carried) f cdv A outer s H E).env (cxOf (L2.CX P w) P w K mg base ["band", "motion", "columns", "rows", "colours", "kind", "found", "at", "y", "line", "row"] "own_carried" (defScope s_own_carried) f cdv A outer s H E).xe := passes_of rfl
  exact (dss_cons (ds_asg (dv 0) (dg_tup hc (dgs_cons (dgn 2 hN) (dgs_cons (dgn 3 hN) (dgs_cons (dgn 4 hN) dgs_nil)))) (gtM_er (unp1_er stS_er (unp1_er stS_er (unp1_er stS_er unp0_er)))))
    (dss_cons (dpar2 5 6 hc hN (dx_sh (de_ix hu (dv 1) de_int (fun _ _ => rfl))) (dx_ow (df_lst da_nil)) (by decide))
    (dss_cons (dset 7 hN (de_op od_mod (de_if (dt_cmp (od_lt hu) (dv 5) de_int rfl) (de_op od_sub de_int (de_ix hu (dv 1) de_int (fun _ _ => rfl))) (de_op od_sub (de_op od_sub (dv 2) de_int) (de_ix hu (dv 1) de_int (fun _ _ => rfl)))) (dv 2)))
    (dss_cons (ds_for hp hc (di_range1 rfl T.b_range (da_cons (dv 3) da_nil) (hl := (len_cons len_nil))) (dgn 8 hN) stS_er (dss_cons (dset 9 hN (de_if (dt_cmp (od_in hu) (dv 5) (de_tup (da_cons de_int (da_cons de_int da_nil))) rfl) (de_op od_sub (de_op od_sub (dv 3) de_int) (dv 8)) (dv 8)))
    (dss_cons (dset 10 hN (de_slice (dv 4) (do_some (de_op od_mul (dv 9) (dv 2))) (do_some (de_op od_add (de_op od_mul (dv 9) (dv 2)) (dv 2)))))
    (dss_cons (dset 10 hN (de_if (dt_cmp (od_lt hu) (dv 5) de_int rfl) (dv 10) (de_revS (dv 10))))
    (dss_one (ds_append (pv 6) (de_op od_add (de_slice (dv 10) (do_some (dv 7)) do_none) (de_slice (dv 10) do_none (do_some (dv 7))))))))))
    (dss_one (ds_ret (de_tup (da_cons (dv 2) (da_cons (dv 3) (da_cons (de_join de_str (dv 6)) da_nil))))))))))
def m_own_least_shift : M Flow :=
  sq (asgM (lcM [2] (rangeM (consA (ret (.int 1)) (consA (bin D.add (bin D.ix (vr 0) (ret (.int 0))) (ret (.int 1))) (nilA)))) (stS 2) (asB (bin D.eq (bin D.mod (bin D.ix (vr 0) (ret (.int 0))) (vr 2)) (ret (.int 0)))) (vr 2)) (stS 1))
    (rtM (bin D.ix (lcM [2] (seqM (vr 1)) (stS 2) (asB (bin D.eq (callM (fnM 11 m_own_carried) (consA (vr 0) (consA (tupM (consA (ret (.int 0)) (consA (vr 2) (nilA)))) (nilA)))) (vr 0))) (vr 2)) (ret (.int 0))))
theorem O_own_least_shift (T : Txt K mg) : Ok P w K mg base 2 "own_least_shift" s_own_least_shift ["band"] (spF K mg 1 (fnM 3 m_own_least_shift)) := by
  have O_own_carried := O_own_carried (P := P) (w := w) (base := base) T
  have S : FnScope ["band", "shifts", "shift"] ["band"] (defScope s_own_least_shift) := ⟨rfl, rfl, rfl, by decide +kernel, rfl, by decide +kernel, by decide +kernel⟩
  refine ok_fn T.d_own_least_shift S (by decide) (fun _ _ _ _ _ _ us hl => match us, hl with | [_], _ => rfl) fun f cdv A outer s H E hgu hr => ?_
  have hu := hu150 hr
  have hu1 := hu1_of hr
  have hN := S.nd
  have hc : (cxOf (L2.CX P w) P w K mg base ["band", "shifts", "shift"] "own_least_shift" (defScope s_own_least_shift) f cdv A outer s H E).calm = true := rfl
  have tk : Takes (cxOf (L2.CX P w) P w K mg base ["band", "shifts", "shift"] "own_least_shift" (defScope s_own_least_shift) f cdv A outer s H E) (WF E) := takes_of rfl rfl rfl rfl
  have hp : PassesOwn (model (cxOf (L2.CX P w) P w K mg base ["band", "shifts", "shift"] "own_least_shift" (defScope s_own_least_shift) f cdv A outer s H E).prog w) (cxOf (L2.CX P w) P w K mg base ["band", "shifts", "shift"] "own_least_shift" (defScope s_own_least_shift) f cdv A outer s H E).A (cxOf (L2.CX P w) P w K mg base ["band", "shifts", "shift"] "own_least_shift" (defScope s_own_least_shift) f cdv A outer s H E).env (cxOf (L2.CX P w) P w K mg base ["band", "shifts", "shift"] "own_least_shift" (defScope s_own_least_shift) f cdv A outer s H E).xe := passes_of rfl
  exact (dss_cons (ds_lc_sh (i := 1) false hc hN rfl rfl rfl (own := [("shift", 2)]) (blkOk_by (by first | rfl | decide +kernel)) (di_range2 rfl T.b_range (da_cons de_int (da_cons (de_op od_add (de_ix hu (dv 0) de_int (fun _ _ => rfl)) de_int) da_nil)) (hl := (len_cons (len_cons len_nil)))) (fun s H C cl fp => (dgn 2 hN)) stS_er (by decide) (fun s H C cl fp => (dts_one (dt_cmp (od_eq hu) (de_op od_mod (de_ix hu (dv 0) de_int (fun _ _ => rfl)) (dv 2)) de_int rfl))) (fun s H C cl fp => (dv 2)))
    (dss_one (ds_ret (de_ix hu (df_de (df_lc hc hN (own := [("shift", 2)]) (blkOk_by (by first | rfl | decide +kernel)) (di_seq (dv 1)) (fun s H C cl fp => (dgn 2 hN)) stS_er (by decide) (fun s H C cl fp => (dts_one (dt_cmp (od_eq hu) (dcall O_own_carried hgu (hr.mono (by decide)) rfl takes0 (da_cons (dv 0) (da_cons (de_tup (da_cons de_int (da_cons (dv 2) da_nil))) da_nil)) (len_cons (len_cons len_nil))) (dv 0) rfl))) (fun s H C cl fp => (dv 2)))) de_int (fun _ _ => rfl)))))
def m_own_reduced : M Flow :=
  sq (asgM (vr 0) (gtM 3 (unp1 (stS 1) (unp1 (stS 2) (unp1 (stS 3) unp0)))))
    (sq (asgM (callM (fnM 3 m_own_least_shift) (consA (vr 0) (nilA))) (stS 4))
    (rtM (tupM (consA (vr 4) (consA (vr 2) (consA (strM D.join (ret (.str "")) (lcM [5] (rangeM (consA (vr 2) (nilA))) (stS 5) (ret true) (sliceM (vr 3) (someI (bin D.mul (vr 5) (vr 1))) (someI (bin D.add (bin D.mul (vr 5) (vr 1)) (vr 4)))))) (nilA)))))))
theorem O_own_reduced (T : Txt K mg) : Ok P w K mg base 3 "own_reduced" s_own_reduced ["band"] (spF K mg 1 (fnM 6 m_own_reduced)) := by
  have O_own_least_shift := O_own_least_shift (P := P) (w := w) (base := base) T
  have S : FnScope ["band", "columns", "rows", "colours", "least", "y"] ["band"] (defScope s_own_reduced) := ⟨rfl, rfl, rfl, by decide +kernel, rfl, by decide +kernel, by decide +kernel⟩
  refine ok_fn T.d_own_reduced S (by decide) (fun _ _ _ _ _ _ us hl => match us, hl with | [_], _ => rfl) fun f cdv A outer s H E hgu hr => ?_
  have hu := hu150 hr
  have hu1 := hu1_of hr
  have hN := S.nd
  have hc : (cxOf (L2.CX P w) P w K mg base ["band", "columns", "rows", "colours", "least", "y"] "own_reduced" (defScope s_own_reduced) f cdv A outer s H E).calm = true := rfl
  have tk : Takes (cxOf (L2.CX P w) P w K mg base ["band", "columns", "rows", "colours", "least", "y"] "own_reduced" (defScope s_own_reduced) f cdv A outer s H E) (WF E) := takes_of rfl rfl rfl rfl
  have hp : PassesOwn (model (cxOf (L2.CX P w) P w K mg base ["band", "columns", "rows", "colours", "least", "y"] "own_reduced" (defScope s_own_reduced) f cdv A outer s H E).prog w) (cxOf (L2.CX P w) P w K mg base ["band", "columns", "rows", "colours", "least", "y"] "own_reduced" (defScope s_own_reduced) f cdv A outer s H E).A (cxOf (L2.CX P w) P w K mg base ["band", "columns", "rows", "colours", "least", "y"] "own_reduced" (defScope s_own_reduced) f cdv A outer s H E).env (cxOf (L2.CX P w) P w K mg base ["band", "columns", "rows", "colours", "least", "y"] "own_reduced" (defScope s_own_reduced) f cdv A outer s H E).xe := passes_of rfl
  exact (dss_cons (ds_asg (dv 0) (dg_tup hc (dgs_cons (dgn 1 hN) (dgs_cons (dgn 2 hN) (dgs_cons (dgn 3 hN) dgs_nil)))) (gtM_er (unp1_er stS_er (unp1_er stS_er (unp1_er stS_er unp0_er)))))
    (dss_cons (dset 4 hN (dcall O_own_least_shift hgu (hr.mono (by decide)) rfl tk (da_cons (dv 0) da_nil) (len_cons len_nil)))
    (dss_one (ds_ret (de_tup (da_cons (dv 4) (da_cons (dv 2) (da_cons (de_join de_str (df_de (df_lc hc hN (own := [("y", 5)]) (blkOk_by (by first | rfl | decide +kernel)) (di_range1 rfl T.b_range (da_cons (dv 2) da_nil) (hl := (len_cons len_nil))) (fun s H C cl fp => (dgn 5 hN)) stS_er (by decide) (fun s H C cl fp => dts_nil) (fun s H C cl fp => (de_slice (dv 3) (do_some (de_op od_mul (dv 5) (dv 1))) (do_some (de_op od_add (de_op od_mul (dv 5) (dv 1)) (dv 4)))))))) da_nil))))))))
def m_own_form : M Flow :=
  sq (asgM (callM (fnM 6 m_own_reduced) (consA (vr 0) (nilA))) (stS 1))
    (sq (asgM (lc2M [3, 4] [4] (rangeM (consA (ret (.int 4)) (nilA))) (stS 3) (ret true) (rangeM (consA (bin D.ix (vr 1) (ret (.int 0))) (nilA))) (stS 4) (ret true) (tupM (consA (callM (fnM 11 m_own_carried) (consA (vr 1) (consA (tupM (consA (vr 3) (consA (vr 4) (nilA)))) (nilA)))) (consA (tupM (consA (vr 3) (consA (vr 4) (nilA)))) (nilA))))) (stS 2))
    (rtM (appM D.min (consA (vr 2) (nilA)))))
theorem O_own_form (T : Txt K mg) : Ok P w K mg base 4 "own_form" s_own_form ["band"] (spF K mg 1 (fnM 5 m_own_form)) := by
  have O_own_reduced := O_own_reduced (P := P) (w := w) (base := base) T
  have O_own_carried := O_own_carried (P := P) (w := w) (base := base) T
  have S : FnScope ["band", "least", "found", "kind", "shift"] ["band"] (defScope s_own_form) := ⟨rfl, rfl, rfl, by decide +kernel, rfl, by decide +kernel, by decide +kernel⟩
  refine ok_fn T.d_own_form S (by decide) (fun _ _ _ _ _ _ us hl => match us, hl with | [_], _ => rfl) fun f cdv A outer s H E hgu hr => ?_
  have hu := hu150 hr
  have hu1 := hu1_of hr
  have hN := S.nd
  have hc : (cxOf (L2.CX P w) P w K mg base ["band", "least", "found", "kind", "shift"] "own_form" (defScope s_own_form) f cdv A outer s H E).calm = true := rfl
  have tk : Takes (cxOf (L2.CX P w) P w K mg base ["band", "least", "found", "kind", "shift"] "own_form" (defScope s_own_form) f cdv A outer s H E) (WF E) := takes_of rfl rfl rfl rfl
  have hp : PassesOwn (model (cxOf (L2.CX P w) P w K mg base ["band", "least", "found", "kind", "shift"] "own_form" (defScope s_own_form) f cdv A outer s H E).prog w) (cxOf (L2.CX P w) P w K mg base ["band", "least", "found", "kind", "shift"] "own_form" (defScope s_own_form) f cdv A outer s H E).A (cxOf (L2.CX P w) P w K mg base ["band", "least", "found", "kind", "shift"] "own_form" (defScope s_own_form) f cdv A outer s H E).env (cxOf (L2.CX P w) P w K mg base ["band", "least", "found", "kind", "shift"] "own_form" (defScope s_own_form) f cdv A outer s H E).xe := passes_of rfl
  exact (dss_cons (dset 1 hN (dcall O_own_reduced hgu (hr.mono (by decide)) rfl tk (da_cons (dv 0) da_nil) (len_cons len_nil)))
    (dss_cons (ds_lc2_sh (i := 2) false hc hN rfl rfl rfl (vs1 := [4]) (own := [("kind", 3), ("shift", 4)]) (blkOk_by (by first | rfl | decide +kernel)) (di_range1 rfl T.b_range (da_cons de_int da_nil) (hl := (len_cons len_nil))) (fun s H C cl fp => (dgn 3 hN)) stS_er (by decide) (fun s H C cl fp => (di_range1 rfl T.b_range (da_cons (de_ix hu (dv 1) de_int (fun _ _ => rfl)) da_nil) (hl := (len_cons len_nil)))) (fun s H C cl fp => (dgn 4 hN)) stS_er (by decide) (by decide) (fun s H C cl fp => dts_nil) (fun s H C cl fp => dts_nil) (fun s H C cl fp => (de_tup (da_cons (dcall O_own_carried hgu (hr.mono (by decide)) rfl takes0 (da_cons (dv 1) (da_cons (de_tup (da_cons (dv 3) (da_cons (dv 4) da_nil))) da_nil)) (len_cons (len_cons len_nil))) (da_cons (de_tup (da_cons (dv 3) (da_cons (dv 4) da_nil))) da_nil)))))
    (dss_one (ds_ret (de_callB (cd_min hc hu) rfl T.b_min rfl (da_cons (dv 2) da_nil))))))
def m_form_of_band : M Flow :=
  sq (dropM (callM (fnM 2 m_need_band) (consA (vr 0) (nilA))))
    (rtM (bin D.ix (callM (fnM 5 m_own_form) (consA (vr 0) (nilA))) (ret (.int 0))))
theorem O_form_of_band (T : Txt K mg) : Ok P w K mg base 5 "form_of_band" s_form_of_band ["band"] (spF K mg 1 (fnM 1 m_form_of_band)) := by
  have O_need_band := O_need_band (P := P) (w := w) (base := base) T
  have O_own_form := O_own_form (P := P) (w := w) (base := base) T
  have S : FnScope ["band"] ["band"] (defScope s_form_of_band) := ⟨rfl, rfl, rfl, by decide +kernel, rfl, by decide +kernel, by decide +kernel⟩
  refine ok_fn T.d_form_of_band S (by decide) (fun _ _ _ _ _ _ us hl => match us, hl with | [_], _ => rfl) fun f cdv A outer s H E hgu hr => ?_
  have hu := hu150 hr
  have hu1 := hu1_of hr
  have hN := S.nd
  have hc : (cxOf (L2.CX P w) P w K mg base ["band"] "form_of_band" (defScope s_form_of_band) f cdv A outer s H E).calm = true := rfl
  have tk : Takes (cxOf (L2.CX P w) P w K mg base ["band"] "form_of_band" (defScope s_form_of_band) f cdv A outer s H E) (WF E) := takes_of rfl rfl rfl rfl
  have hp : PassesOwn (model (cxOf (L2.CX P w) P w K mg base ["band"] "form_of_band" (defScope s_form_of_band) f cdv A outer s H E).prog w) (cxOf (L2.CX P w) P w K mg base ["band"] "form_of_band" (defScope s_form_of_band) f cdv A outer s H E).A (cxOf (L2.CX P w) P w K mg base ["band"] "form_of_band" (defScope s_form_of_band) f cdv A outer s H E).env (cxOf (L2.CX P w) P w K mg base ["band"] "form_of_band" (defScope s_form_of_band) f cdv A outer s H E).xe := passes_of rfl
  exact (dss_cons (ds_expr (dcall O_need_band hgu (hr.mono (by decide)) rfl tk (da_cons (dv 0) da_nil) (len_cons len_nil)))
    (dss_one (ds_ret (de_ix hu (dcall O_own_form hgu (hr.mono (by decide)) rfl tk (da_cons (dv 0) da_nil) (len_cons len_nil)) de_int (fun _ _ => rfl)))))
def m_form_motion : M Flow :=
  sq (dropM (callM (fnM 2 m_need_band) (consA (vr 0) (nilA))))
    (rtM (bin D.ix (callM (fnM 5 m_own_form) (consA (vr 0) (nilA))) (ret (.int 1))))
theorem O_form_motion (T : Txt K mg) : Ok P w K mg base 5 "form_motion" s_form_motion ["band"] (spF K mg 1 (fnM 1 m_form_motion)) := by
  have O_need_band := O_need_band (P := P) (w := w) (base := base) T
  have O_own_form := O_own_form (P := P) (w := w) (base := base) T
  have S : FnScope ["band"] ["band"] (defScope s_form_motion) := ⟨rfl, rfl, rfl, by decide +kernel, rfl, by decide +kernel, by decide +kernel⟩
  refine ok_fn T.d_form_motion S (by decide) (fun _ _ _ _ _ _ us hl => match us, hl with | [_], _ => rfl) fun f cdv A outer s H E hgu hr => ?_
  have hu := hu150 hr
  have hu1 := hu1_of hr
  have hN := S.nd
  have hc : (cxOf (L2.CX P w) P w K mg base ["band"] "form_motion" (defScope s_form_motion) f cdv A outer s H E).calm = true := rfl
  have tk : Takes (cxOf (L2.CX P w) P w K mg base ["band"] "form_motion" (defScope s_form_motion) f cdv A outer s H E) (WF E) := takes_of rfl rfl rfl rfl
  have hp : PassesOwn (model (cxOf (L2.CX P w) P w K mg base ["band"] "form_motion" (defScope s_form_motion) f cdv A outer s H E).prog w) (cxOf (L2.CX P w) P w K mg base ["band"] "form_motion" (defScope s_form_motion) f cdv A outer s H E).A (cxOf (L2.CX P w) P w K mg base ["band"] "form_motion" (defScope s_form_motion) f cdv A outer s H E).env (cxOf (L2.CX P w) P w K mg base ["band"] "form_motion" (defScope s_form_motion) f cdv A outer s H E).xe := passes_of rfl
  exact (dss_cons (ds_expr (dcall O_need_band hgu (hr.mono (by decide)) rfl tk (da_cons (dv 0) da_nil) (len_cons len_nil)))
    (dss_one (ds_ret (de_ix hu (dcall O_own_form hgu (hr.mono (by decide)) rfl tk (da_cons (dv 0) da_nil) (len_cons len_nil)) de_int (fun _ _ => rfl)))))
def m_own_then_motion : M Flow :=
  sq (asgM (bin D.xor (bin D.ix (vr 0) (ret (.int 0))) (bin D.ix (vr 1) (ret (.int 0)))) (stS 2))
    (rtM (tupM (consA (vr 2) (consA (bin D.add (bin D.ix (vr 1) (ret (.int 1))) (ifM (asB (bin D.lt (bin D.ix (vr 1) (ret (.int 0))) (ret (.int 2)))) (bin D.ix (vr 0) (ret (.int 1))) (bin D.sub (ret (.int 0)) (bin D.ix (vr 0) (ret (.int 1)))))) (nilA)))))
theorem O_own_then_motion (T : Txt K mg) : Ok P w K mg base 1 "own_then_motion" s_own_then_motion ["one", "other"] (spF K mg 2 (fnM 3 m_own_then_motion)) := by
  have S : FnScope ["one", "other", "kinds"] ["one", "other"] (defScope s_own_then_motion) := ⟨rfl, rfl, rfl, by decide +kernel, rfl, by decide +kernel, by decide +kernel⟩
  refine ok_fn T.d_own_then_motion S (by decide) (fun _ _ _ _ _ _ us hl => match us, hl with | [_, _], _ => rfl) fun f cdv A outer s H E hgu hr => ?_
  have hu := hu150 hr
  have hu1 := hu1_of hr
  have hN := S.nd
  have hc : (cxOf (L2.CX P w) P w K mg base ["one", "other", "kinds"] "own_then_motion" (defScope s_own_then_motion) f cdv A outer s H E).calm = true := rfl
  have tk : Takes (cxOf (L2.CX P w) P w K mg base ["one", "other", "kinds"] "own_then_motion" (defScope s_own_then_motion) f cdv A outer s H E) (WF E) := takes_of rfl rfl rfl rfl
  have hp : PassesOwn (model (cxOf (L2.CX P w) P w K mg base ["one", "other", "kinds"] "own_then_motion" (defScope s_own_then_motion) f cdv A outer s H E).prog w) (cxOf (L2.CX P w) P w K mg base ["one", "other", "kinds"] "own_then_motion" (defScope s_own_then_motion) f cdv A outer s H E).A (cxOf (L2.CX P w) P w K mg base ["one", "other", "kinds"] "own_then_motion" (defScope s_own_then_motion) f cdv A outer s H E).env (cxOf (L2.CX P w) P w K mg base ["one", "other", "kinds"] "own_then_motion" (defScope s_own_then_motion) f cdv A outer s H E).xe := passes_of rfl
  exact (dss_cons (dset 2 hN (de_op od_xor (de_ix hu (dv 0) de_int (fun _ _ => rfl)) (de_ix hu (dv 1) de_int (fun _ _ => rfl))))
    (dss_one (ds_ret (de_tup (da_cons (dv 2) (da_cons (de_op od_add (de_ix hu (dv 1) de_int (fun _ _ => rfl)) (de_if (dt_cmp (od_lt hu) (de_ix hu (dv 1) de_int (fun _ _ => rfl)) de_int rfl) (de_ix hu (dv 0) de_int (fun _ _ => rfl)) (de_op od_sub de_int (de_ix hu (dv 0) de_int (fun _ _ => rfl))))) da_nil))))))
def m_own_back_motion : M Flow :=
  rtM (tupM (consA (bin D.ix (vr 0) (ret (.int 0))) (consA (ifM (asB (bin D.lt (bin D.ix (vr 0) (ret (.int 0))) (ret (.int 2)))) (bin D.sub (ret (.int 0)) (bin D.ix (vr 0) (ret (.int 1)))) (bin D.ix (vr 0) (ret (.int 1)))) (nilA))))
theorem O_own_back_motion (T : Txt K mg) : Ok P w K mg base 1 "own_back_motion" s_own_back_motion ["motion"] (spF K mg 1 (fnM 1 m_own_back_motion)) := by
  have S : FnScope ["motion"] ["motion"] (defScope s_own_back_motion) := ⟨rfl, rfl, rfl, by decide +kernel, rfl, by decide +kernel, by decide +kernel⟩
  refine ok_fn T.d_own_back_motion S (by decide) (fun _ _ _ _ _ _ us hl => match us, hl with | [_], _ => rfl) fun f cdv A outer s H E hgu hr => ?_
  have hu := hu150 hr
  have hu1 := hu1_of hr
  have hN := S.nd
  have hc : (cxOf (L2.CX P w) P w K mg base ["motion"] "own_back_motion" (defScope s_own_back_motion) f cdv A outer s H E).calm = true := rfl
  have tk : Takes (cxOf (L2.CX P w) P w K mg base ["motion"] "own_back_motion" (defScope s_own_back_motion) f cdv A outer s H E) (WF E) := takes_of rfl rfl rfl rfl
  have hp : PassesOwn (model (cxOf (L2.CX P w) P w K mg base ["motion"] "own_back_motion" (defScope s_own_back_motion) f cdv A outer s H E).prog w) (cxOf (L2.CX P w) P w K mg base ["motion"] "own_back_motion" (defScope s_own_back_motion) f cdv A outer s H E).A (cxOf (L2.CX P w) P w K mg base ["motion"] "own_back_motion" (defScope s_own_back_motion) f cdv A outer s H E).env (cxOf (L2.CX P w) P w K mg base ["motion"] "own_back_motion" (defScope s_own_back_motion) f cdv A outer s H E).xe := passes_of rfl
  exact (dss_one (ds_ret (de_tup (da_cons (de_ix hu (dv 0) de_int (fun _ _ => rfl)) (da_cons (de_if (dt_cmp (od_lt hu) (de_ix hu (dv 0) de_int (fun _ _ => rfl)) de_int rfl) (de_op od_sub de_int (de_ix hu (dv 0) de_int (fun _ _ => rfl))) (de_ix hu (dv 0) de_int (fun _ _ => rfl))) da_nil)))))
def m_carrier_between : M Flow :=
  sq (dropM (callM (fnM 2 m_need_band) (consA (vr 0) (nilA))))
    (sq (dropM (callM (fnM 2 m_need_band) (consA (vr 1) (nilA))))
    (sq (par2 false false 2 3 (callM (fnM 5 m_own_form) (consA (vr 0) (nilA))) (callM (fnM 5 m_own_form) (consA (vr 1) (nilA))))
    (sq (ifM (asB (bin D.ne (bin D.ix (vr 2) (ret (.int 0))) (bin D.ix (vr 3) (ret (.int 0))))) (rtM (ret .non)) (ret .nx))
    (rtM (callM (fnM 3 m_own_then_motion) (consA (bin D.ix (vr 2) (ret (.int 1))) (consA (callM (fnM 1 m_own_back_motion) (consA (bin D.ix (vr 3) (ret (.int 1))) (nilA))) (nilA))))))))
theorem O_carrier_between (T : Txt K mg) : Ok P w K mg base 5 "carrier_between" s_carrier_between ["one", "other"] (spF K mg 2 (fnM 4 m_carrier_between)) := by
  have O_need_band := O_need_band (P := P) (w := w) (base := base) T
  have O_own_then_motion := O_own_then_motion (P := P) (w := w) (base := base) T
  have O_own_form := O_own_form (P := P) (w := w) (base := base) T
  have O_own_back_motion := O_own_back_motion (P := P) (w := w) (base := base) T
  have S : FnScope ["one", "other", "first", "second"] ["one", "other"] (defScope s_carrier_between) := ⟨rfl, rfl, rfl, by decide +kernel, rfl, by decide +kernel, by decide +kernel⟩
  refine ok_fn T.d_carrier_between S (by decide) (fun _ _ _ _ _ _ us hl => match us, hl with | [_, _], _ => rfl) fun f cdv A outer s H E hgu hr => ?_
  have hu := hu150 hr
  have hu1 := hu1_of hr
  have hN := S.nd
  have hc : (cxOf (L2.CX P w) P w K mg base ["one", "other", "first", "second"] "carrier_between" (defScope s_carrier_between) f cdv A outer s H E).calm = true := rfl
  have tk : Takes (cxOf (L2.CX P w) P w K mg base ["one", "other", "first", "second"] "carrier_between" (defScope s_carrier_between) f cdv A outer s H E) (WF E) := takes_of rfl rfl rfl rfl
  have hp : PassesOwn (model (cxOf (L2.CX P w) P w K mg base ["one", "other", "first", "second"] "carrier_between" (defScope s_carrier_between) f cdv A outer s H E).prog w) (cxOf (L2.CX P w) P w K mg base ["one", "other", "first", "second"] "carrier_between" (defScope s_carrier_between) f cdv A outer s H E).A (cxOf (L2.CX P w) P w K mg base ["one", "other", "first", "second"] "carrier_between" (defScope s_carrier_between) f cdv A outer s H E).env (cxOf (L2.CX P w) P w K mg base ["one", "other", "first", "second"] "carrier_between" (defScope s_carrier_between) f cdv A outer s H E).xe := passes_of rfl
  exact (dss_cons (ds_expr (dcall O_need_band hgu (hr.mono (by decide)) rfl tk (da_cons (dv 0) da_nil) (len_cons len_nil)))
    (dss_cons (ds_expr (dcall O_need_band hgu (hr.mono (by decide)) rfl tk (da_cons (dv 1) da_nil) (len_cons len_nil)))
    (dss_cons (dpar2 2 3 hc hN (dx_sh (dcall O_own_form hgu (hr.mono (by decide)) rfl tk (da_cons (dv 0) da_nil) (len_cons len_nil))) (dx_sh (dcall O_own_form hgu (hr.mono (by decide)) rfl tk (da_cons (dv 1) da_nil) (len_cons len_nil))) (by decide))
    (dss_cons (ds_if (dt_cmp (od_ne hu) (de_ix hu (dv 2) de_int (fun _ _ => rfl)) (de_ix hu (dv 3) de_int (fun _ _ => rfl)) rfl) (dss_one (ds_ret de_non)) dss_nil)
    (dss_one (ds_ret (dcall O_own_then_motion hgu (hr.mono (by decide)) rfl tk (da_cons (de_ix hu (dv 2) de_int (fun _ _ => rfl)) (da_cons (dcall O_own_back_motion hgu (hr.mono (by decide)) rfl tk (da_cons (de_ix hu (dv 3) de_int (fun _ _ => rfl)) da_nil) (len_cons len_nil)) da_nil)) (len_cons (len_cons len_nil)))))))))
def m_parting_cell : M Flow :=
  sq (dropM (callM (fnM 2 m_need_band) (consA (vr 0) (nilA))))
    (sq (dropM (callM (fnM 2 m_need_band) (consA (vr 1) (nilA))))
    (sq (ifM (asB (bin D.ne (bin D.ix (vr 0) (ret (.int 1))) (bin D.ix (vr 1) (ret (.int 1))))) (raiseM "NoSuch" "value" (ret (.str "rows"))) (ret .nx))
    (sq (par2 false false 2 3 (bin D.ix (callM (fnM 5 m_own_form) (consA (vr 0) (nilA))) (ret (.int 0))) (bin D.ix (callM (fnM 5 m_own_form) (consA (vr 1) (nilA))) (ret (.int 0))))
    (sq (ifM (asB (bin D.eq (vr 2) (vr 3))) (rtM (ret .non)) (ret .nx))
    (sq (forM (rangeM (consA (bin D.ix (vr 0) (ret (.int 1))) (nilA))) (stS 4) (forM (rangeM (consA (bin D.mul (bin D.ix (vr 2) (ret (.int 0))) (bin D.ix (vr 3) (ret (.int 0)))) (nilA))) (stS 5) (ifM (asB (bin D.ne (callM (fnM 3 m_own_colour) (consA (vr 2) (consA (vr 5) (consA (vr 4) (nilA))))) (callM (fnM 3 m_own_colour) (consA (vr 3) (consA (vr 5) (consA (vr 4) (nilA))))))) (rtM (tupM (consA (vr 5) (consA (vr 4) (nilA))))) (ret .nx))))
    (rtM (ret .non)))))))
theorem O_parting_cell (T : Txt K mg) : Ok P w K mg base 5 "parting_cell" s_parting_cell ["one", "other"] (spF K mg 2 (fnM 6 m_parting_cell)) := by
  have O_need_band := O_need_band (P := P) (w := w) (base := base) T
  have O_own_form := O_own_form (P := P) (w := w) (base := base) T
  have O_own_colour := O_own_colour (P := P) (w := w) (base := base) T
  have E_NoSuch := exo_NoSuch (P := P) (w := w) (base := base) T
  have S : FnScope ["one", "other", "first", "second", "y", "x"] ["one", "other"] (defScope s_parting_cell) := ⟨rfl, rfl, rfl, by decide +kernel, rfl, by decide +kernel, by decide +kernel⟩
  refine ok_fn T.d_parting_cell S (by decide) (fun _ _ _ _ _ _ us hl => match us, hl with | [_, _], _ => rfl) fun f cdv A outer s H E hgu hr => ?_
  have hu := hu150 hr
  have hu1 := hu1_of hr
  have hN := S.nd
  have hc : (cxOf (L2.CX P w) P w K mg base ["one", "other", "first", "second", "y", "x"] "parting_cell" (defScope s_parting_cell) f cdv A outer s H E).calm = true := rfl
  have tk : Takes (cxOf (L2.CX P w) P w K mg base ["one", "other", "first", "second", "y", "x"] "parting_cell" (defScope s_parting_cell) f cdv A outer s H E) (WF E) := takes_of rfl rfl rfl rfl
  have hp : PassesOwn (model (cxOf (L2.CX P w) P w K mg base ["one", "other", "first", "second", "y", "x"] "parting_cell" (defScope s_parting_cell) f cdv A outer s H E).prog w) (cxOf (L2.CX P w) P w K mg base ["one", "other", "first", "second", "y", "x"] "parting_cell" (defScope s_parting_cell) f cdv A outer s H E).A (cxOf (L2.CX P w) P w K mg base ["one", "other", "first", "second", "y", "x"] "parting_cell" (defScope s_parting_cell) f cdv A outer s H E).env (cxOf (L2.CX P w) P w K mg base ["one", "other", "first", "second", "y", "x"] "parting_cell" (defScope s_parting_cell) f cdv A outer s H E).xe := passes_of rfl
  exact (dss_cons (ds_expr (dcall O_need_band hgu (hr.mono (by decide)) rfl tk (da_cons (dv 0) da_nil) (len_cons len_nil)))
    (dss_cons (ds_expr (dcall O_need_band hgu (hr.mono (by decide)) rfl tk (da_cons (dv 1) da_nil) (len_cons len_nil)))
    (dss_cons (ds_if (dt_cmp (od_ne hu) (de_ix hu (dv 0) de_int (fun _ _ => rfl)) (de_ix hu (dv 1) de_int (fun _ _ => rfl)) rfl) (dss_one (draise eb_LE E_NoSuch hc (hr.mono (by decide)) tk rfl de_str)) dss_nil)
    (dss_cons (dpar2 2 3 hc hN (dx_sh (de_ix hu (dcall O_own_form hgu (hr.mono (by decide)) rfl tk (da_cons (dv 0) da_nil) (len_cons len_nil)) de_int (fun _ _ => rfl))) (dx_sh (de_ix hu (dcall O_own_form hgu (hr.mono (by decide)) rfl tk (da_cons (dv 1) da_nil) (len_cons len_nil)) de_int (fun _ _ => rfl))) (by decide))
    (dss_cons (ds_if (dt_cmp (od_eq hu) (dv 2) (dv 3) rfl) (dss_one (ds_ret de_non)) dss_nil)
    (dss_cons (ds_for hp hc (di_range1 rfl T.b_range (da_cons (de_ix hu (dv 0) de_int (fun _ _ => rfl)) da_nil) (hl := (len_cons len_nil))) (dgn 4 hN) stS_er (dss_one (ds_for hp hc (di_range1 rfl T.b_range (da_cons (de_op od_mul (de_ix hu (dv 2) de_int (fun _ _ => rfl)) (de_ix hu (dv 3) de_int (fun _ _ => rfl))) da_nil) (hl := (len_cons len_nil))) (dgn 5 hN) stS_er (dss_one (ds_if (dt_cmp (od_ne hu) (dcall O_own_colour hgu (hr.mono (by decide)) rfl tk (da_cons (dv 2) (da_cons (dv 5) (da_cons (dv 4) da_nil))) (len_cons (len_cons (len_cons len_nil)))) (dcall O_own_colour hgu (hr.mono (by decide)) rfl tk (da_cons (dv 3) (da_cons (dv 5) (da_cons (dv 4) da_nil))) (len_cons (len_cons (len_cons len_nil)))) rfl) (dss_one (ds_ret (de_tup (da_cons (dv 5) (da_cons (dv 4) da_nil))))) dss_nil)))))
    (dss_one (ds_ret de_non))))))))
def m_band_text : M Flow :=
  sq (dropM (callM (fnM 2 m_need_band) (consA (vr 0) (nilA))))
    (sq (asgM (vr 0) (gtM 3 (unp1 (stS 1) (unp1 (stS 2) (unp1 (stS 3) unp0)))))
    (sq (asgM (lcM [5] (rangeM (consA (bin D.sub (vr 2) (ret (.int 1))) (consA (revM D.neg (ret (.int 1))) (consA (revM D.neg (ret (.int 1))) (nilA))))) (stS 5) (ret true) (sliceM (vr 3) (someI (bin D.mul (vr 5) (vr 1))) (someI (bin D.add (bin D.mul (vr 5) (vr 1)) (vr 1))))) (stS 4))
    (rtM (strM D.join (ret (.str "")) (lcM [6] (seqM (vr 4)) (stS 6) (ret true) (bin D.add (vr 6) (ret (.str "\n"))))))))
theorem O_band_text (T : Txt K mg) : Ok P w K mg base 4 "band_text" s_band_text ["band"] (spF K mg 1 (fnM 7 m_band_text)) := by
  have O_need_band := O_need_band (P := P) (w := w) (base := base) T
  have S : FnScope ["band", "columns", "rows", "colours", "lines", "y", "line"] ["band"] (defScope s_band_text) := ⟨rfl, rfl, rfl, by decide +kernel, rfl, by decide +kernel, by decide +kernel⟩
  refine ok_fn T.d_band_text S (by decide) (fun _ _ _ _ _ _ us hl => match us, hl with | [_], _ => rfl) fun f cdv A outer s H E hgu hr => ?_
  have hu := hu150 hr
  have hu1 := hu1_of hr
  have hN := S.nd
  have hc : (cxOf (L2.CX P w) P w K mg base ["band", "columns", "rows", "colours", "lines", "y", "line"] "band_text" (defScope s_band_text) f cdv A outer s H E).calm = true := rfl
  have tk : Takes (cxOf (L2.CX P w) P w K mg base ["band", "columns", "rows", "colours", "lines", "y", "line"] "band_text" (defScope s_band_text) f cdv A outer s H E) (WF E) := takes_of rfl rfl rfl rfl
  have hp : PassesOwn (model (cxOf (L2.CX P w) P w K mg base ["band", "columns", "rows", "colours", "lines", "y", "line"] "band_text" (defScope s_band_text) f cdv A outer s H E).prog w) (cxOf (L2.CX P w) P w K mg base ["band", "columns", "rows", "colours", "lines", "y", "line"] "band_text" (defScope s_band_text) f cdv A outer s H E).A (cxOf (L2.CX P w) P w K mg base ["band", "columns", "rows", "colours", "lines", "y", "line"] "band_text" (defScope s_band_text) f cdv A outer s H E).env (cxOf (L2.CX P w) P w K mg base ["band", "columns", "rows", "colours", "lines", "y", "line"] "band_text" (defScope s_band_text) f cdv A outer s H E).xe := passes_of rfl
  exact (dss_cons (ds_expr (dcall O_need_band hgu (hr.mono (by decide)) rfl tk (da_cons (dv 0) da_nil) (len_cons len_nil)))
    (dss_cons (ds_asg (dv 0) (dg_tup hc (dgs_cons (dgn 1 hN) (dgs_cons (dgn 2 hN) (dgs_cons (dgn 3 hN) dgs_nil)))) (gtM_er (unp1_er stS_er (unp1_er stS_er (unp1_er stS_er unp0_er)))))
    (dss_cons (ds_lc_sh (i := 4) false hc hN rfl rfl rfl (own := [("y", 5)]) (blkOk_by (by first | rfl | decide +kernel)) (di_range3 rfl T.b_range (da_cons (de_op od_sub (dv 2) de_int) (da_cons (de_neg de_int) (da_cons (de_neg de_int) da_nil))) (hl := (len_cons (len_cons (len_cons len_nil))))) (fun s H C cl fp => (dgn 5 hN)) stS_er (by decide) (fun s H C cl fp => dts_nil) (fun s H C cl fp => (de_slice (dv 3) (do_some (de_op od_mul (dv 5) (dv 1))) (do_some (de_op od_add (de_op od_mul (dv 5) (dv 1)) (dv 1))))))
    (dss_one (ds_ret (de_join de_str (df_de (df_lc hc hN (own := [("line", 6)]) (blkOk_by (by first | rfl | decide +kernel)) (di_seq (dv 4)) (fun s H C cl fp => (dgn 6 hN)) stS_er (by decide) (fun s H C cl fp => dts_nil) (fun s H C cl fp => (de_op od_add (dv 6) de_str))))))))))
def m_read_band : M Flow :=
  sq (ifM (notM (asB (isiM "str" (vr 0)))) (raiseM "BadText" "place" (ret .non)) (ret .nx))
    (sq (asgM (strM D.split (vr 0) (ret (.str "\n"))) (stS 1))
    (sq (ifM (orM (asB (bin D.ne (bin D.ix (vr 1) (revM D.neg (ret (.int 1)))) (ret (.str "")))) (notM (asB (chainM D.le D.le (ret (.int 1)) (bin D.sub (appM D.len (consA (vr 1) (nilA))) (ret (.int 1))) (ret cD_MOST_CELLS))))) (raiseM "BadText" "place" (ret (.str "lines"))) (ret .nx))
    (sq (asgM (sliceM (vr 1) (ret none) (someI (revM D.neg (ret (.int 1))))) (stS 2))
    (sq (forM (enumM (vr 2)) (gtM 2 (unp1 (stS 3) (unp1 (stS 4) unp0))) (ifM (orM (asB (bin D.eq (vr 4) (ret (.str "")))) (orM (asB (bin D.ne (appM D.len (consA (vr 4) (nilA))) (appM D.len (consA (bin D.ix (vr 2) (ret (.int 0))) (nilA))))) (notM (asB (appM D.all (consA (lcM [5] (seqM (vr 4)) (stS 5) (ret true) (bin D.isin (vr 5) (ret cD_SMALL))) (nilA))))))) (raiseM "BadText" "place" (vr 3)) (ret .nx)))
    (sq (ifM (asB (bin D.gt (bin D.mul (appM D.len (consA (vr 2) (nilA))) (appM D.len (consA (bin D.ix (vr 2) (ret (.int 0))) (nilA)))) (ret cD_MOST_CELLS))) (raiseM "BadText" "place" (ret (.str "size"))) (ret .nx))
    (rtM (tupM (consA (appM D.len (consA (bin D.ix (vr 2) (ret (.int 0))) (nilA))) (consA (appM D.len (consA (vr 2) (nilA))) (consA (strM D.join (ret (.str "")) (revM D.revL (vr 2))) (nilA)))))))))))
theorem O_read_band (T : Txt K mg) : Ok P w K mg base 3 "read_band" s_read_band ["text"] (spF K mg 1 (fnM 6 m_read_band)) := by
  have E_BadText := exo_BadText (P := P) (w := w) (base := base) T
  have S : FnScope ["text", "lines", "rows", "number", "row", "sign"] ["text"] (defScope s_read_band) := ⟨rfl, rfl, rfl, by decide +kernel, rfl, by decide +kernel, by decide +kernel⟩
  refine ok_fn T.d_read_band S (by decide) (fun _ _ _ _ _ _ us hl => match us, hl with | [_], _ => rfl) fun f cdv A outer s H E hgu hr => ?_
  have hu := hu150 hr
  have hu1 := hu1_of hr
  have hN := S.nd
  have hc : (cxOf (L2.CX P w) P w K mg base ["text", "lines", "rows", "number", "row", "sign"] "read_band" (defScope s_read_band) f cdv A outer s H E).calm = true := rfl
  have tk : Takes (cxOf (L2.CX P w) P w K mg base ["text", "lines", "rows", "number", "row", "sign"] "read_band" (defScope s_read_band) f cdv A outer s H E) (WF E) := takes_of rfl rfl rfl rfl
  have hp : PassesOwn (model (cxOf (L2.CX P w) P w K mg base ["text", "lines", "rows", "number", "row", "sign"] "read_band" (defScope s_read_band) f cdv A outer s H E).prog w) (cxOf (L2.CX P w) P w K mg base ["text", "lines", "rows", "number", "row", "sign"] "read_band" (defScope s_read_band) f cdv A outer s H E).A (cxOf (L2.CX P w) P w K mg base ["text", "lines", "rows", "number", "row", "sign"] "read_band" (defScope s_read_band) f cdv A outer s H E).env (cxOf (L2.CX P w) P w K mg base ["text", "lines", "rows", "number", "row", "sign"] "read_band" (defScope s_read_band) f cdv A outer s H E).xe := passes_of rfl
  exact (dss_cons (ds_if (dt_not (dt_val (de_isi rfl T.b_isinstance rfl T.b_str rfl (dv 0)))) (dss_one (draise eb_VE E_BadText hc (hr.mono (by decide)) tk rfl de_non)) dss_nil)
    (dss_cons (dset 1 hN (de_split (dv 0) de_str))
    (dss_cons (ds_if (dw_pt (dw_or (dt_cmp (od_ne hu) (de_ix hu (dv 1) (de_neg de_int) (fun _ _ => rfl)) de_str rfl) (dw_or1 (dt_not (dt_chain (od_le hu) (od_le hu) de_int (de_op od_sub (de_callB cd_len rfl T.b_len rfl (da_cons (dv 1) da_nil)) de_int) (T.de_MOST_CELLS rfl)))))) (dss_one (draise eb_VE E_BadText hc (hr.mono (by decide)) tk rfl de_str)) dss_nil)
    (dss_cons (dset 2 hN (de_slice (dv 1) do_none (do_some (de_neg de_int))))
    (dss_cons (ds_for hp hc (di_enum rfl T.b_enumerate (dv 2)) (dg_tup hc (dgs_cons (dgn 3 hN) (dgs_cons (dgn 4 hN) dgs_nil))) (gtM_er (unp1_er stS_er (unp1_er stS_er unp0_er))) (dss_one (ds_if (dw_pt (dw_or (dt_cmp (od_eq hu) (dv 4) de_str rfl) (dw_or (dt_cmp (od_ne hu) (de_callB cd_len rfl T.b_len rfl (da_cons (dv 4) da_nil)) (de_callB cd_len rfl T.b_len rfl (da_cons (de_ix hu (dv 2) de_int (fun _ _ => rfl)) da_nil)) rfl) (dw_or1 (dt_not (dt_val (de_callB (cd_all hc) rfl T.b_all rfl (da_cons (df_de (df_lc hc hN (own := [("sign", 5)]) (blkOk_by (by first | rfl | decide +kernel)) (di_seq (dv 4)) (fun s H C cl fp => (dgn 5 hN)) stS_er (by decide) (fun s H C cl fp => dts_nil) (fun s H C cl fp => (de_cmp (od_in hu) (dv 5) (T.de_SMALL rfl) rfl)))) da_nil)))))))) (dss_one (draise eb_VE E_BadText hc (hr.mono (by decide)) tk rfl (dv 3))) dss_nil)))
    (dss_cons (ds_if (dt_cmp (od_gt hu) (de_op od_mul (de_callB cd_len rfl T.b_len rfl (da_cons (dv 2) da_nil)) (de_callB cd_len rfl T.b_len rfl (da_cons (de_ix hu (dv 2) de_int (fun _ _ => rfl)) da_nil))) (T.de_MOST_CELLS rfl) rfl) (dss_one (draise eb_VE E_BadText hc (hr.mono (by decide)) tk rfl de_str)) dss_nil)
    (dss_one (ds_ret (de_tup (da_cons (de_callB cd_len rfl T.b_len rfl (da_cons (de_ix hu (dv 2) de_int (fun _ _ => rfl)) da_nil)) (da_cons (de_callB cd_len rfl T.b_len rfl (da_cons (dv 2) da_nil)) (da_cons (de_join de_str (de_revL (dv 2))) da_nil))))))))))))
def m__law_mixed : M Flow :=
  sq (asgM (bin D.add (bin D.add (bin D.mod (vr 0) (bin D.ix (lstM (consA (ret (.int 1000000007)) (consA (ret (.int 998244353)) (consA (ret (.int 2147483629)) (consA (ret (.int 1000000009)) (nilA)))))) (bin D.mod (vr 1) (ret (.int 4))))) (bin D.mul (ret (.int 7919)) (vr 1))) (ret (.int 13))) (stS 2))
    (rtM (bin D.mod (bin D.mul (bin D.mod (bin D.mul (vr 2) (vr 2)) (ret (.int 2147483647))) (ret (.int 48271))) (ret (.int 2147483647))))
theorem O__law_mixed (T : Txt K mg) : Ok P w K mg base 1 "_law_mixed" s__law_mixed ["cell", "k"] (spF K mg 2 (fnM 3 m__law_mixed)) := by
  have S : FnScope ["cell", "k", "number"] ["cell", "k"] (defScope s__law_mixed) := ⟨rfl, rfl, rfl, by decide +kernel, rfl, by decide +kernel, by decide +kernel⟩
  refine ok_fn T.d__law_mixed S (by decide) (fun _ _ _ _ _ _ us hl => match us, hl with | [_, _], _ => rfl) fun f cdv A outer s H E hgu hr => ?_
  have hu := hu150 hr
  have hu1 := hu1_of hr
  have hN := S.nd
  have hc : (cxOf (L2.CX P w) P w K mg base ["cell", "k", "number"] "_law_mixed" (defScope s__law_mixed) f cdv A outer s H E).calm = true := rfl
  have tk : Takes (cxOf (L2.CX P w) P w K mg base ["cell", "k", "number"] "_law_mixed" (defScope s__law_mixed) f cdv A outer s H E) (WF E) := takes_of rfl rfl rfl rfl
  have hp : PassesOwn (model (cxOf (L2.CX P w) P w K mg base ["cell", "k", "number"] "_law_mixed" (defScope s__law_mixed) f cdv A outer s H E).prog w) (cxOf (L2.CX P w) P w K mg base ["cell", "k", "number"] "_law_mixed" (defScope s__law_mixed) f cdv A outer s H E).A (cxOf (L2.CX P w) P w K mg base ["cell", "k", "number"] "_law_mixed" (defScope s__law_mixed) f cdv A outer s H E).env (cxOf (L2.CX P w) P w K mg base ["cell", "k", "number"] "_law_mixed" (defScope s__law_mixed) f cdv A outer s H E).xe := passes_of rfl
  exact (dss_cons (dset 2 hN (de_op od_add (de_op od_add (de_op od_mod (dv 0) (de_ix hu (de_lst (da_cons de_int (da_cons de_int (da_cons de_int (da_cons de_int da_nil))))) (de_op od_mod (dv 1) de_int) (fun _ _ => rfl))) (de_op od_mul de_int (dv 1))) de_int))
    (dss_one (ds_ret (de_op od_mod (de_op od_mul (de_op od_mod (de_op od_mul (dv 2) (dv 2)) de_int) de_int) de_int))))
def m__law_draw : M D :=
  dictM (pairA (ret (.str "left")) (ifM (asB (bin D.ge (vr 0) (bin D.pow (ret (.int 10)) (ret (.int 18))))) (vr 0) (ret (.int 0))) (pairA (ret (.str "cell")) (vr 0) (pairA (ret (.str "turns")) (bin D.mul (ret (.int 1000)) (vr 1)) (ret []))))
theorem O__law_draw (T : Txt K mg) : Ok P w K mg base 1 "_law_draw" s__law_draw ["cell", "k"] (spN K 2 (fnN 2 m__law_draw)) := by
  have S : FnScope ["cell", "k"] ["cell", "k"] (defScope s__law_draw) := ⟨rfl, rfl, rfl, by decide +kernel, rfl, by decide +kernel, by decide +kernel⟩
  refine ok_fnN T.d__law_draw S (by decide) rfl (fun _ _ _ _ _ _ us hl => match us, hl with | [_, _], _ => rfl) fun f cdv A outer s H E hgu hr => ?_
  have hu := hu150 hr
  have hu1 := hu1_of hr
  have hN := S.nd
  have hc : (cxOf (L2.CX P w) P w K mg base ["cell", "k"] "_law_draw" (defScope s__law_draw) f cdv A outer s H E).calm = true := rfl
  have tk : Takes (cxOf (L2.CX P w) P w K mg base ["cell", "k"] "_law_draw" (defScope s__law_draw) f cdv A outer s H E) (WF E) := takes_of rfl rfl rfl rfl
  have hp : PassesOwn (model (cxOf (L2.CX P w) P w K mg base ["cell", "k"] "_law_draw" (defScope s__law_draw) f cdv A outer s H E).prog w) (cxOf (L2.CX P w) P w K mg base ["cell", "k"] "_law_draw" (defScope s__law_draw) f cdv A outer s H E).A (cxOf (L2.CX P w) P w K mg base ["cell", "k"] "_law_draw" (defScope s__law_draw) f cdv A outer s H E).env (cxOf (L2.CX P w) P w K mg base ["cell", "k"] "_law_draw" (defScope s__law_draw) f cdv A outer s H E).xe := passes_of rfl
  exact (df_dict (dps_cons de_str (de_if (dt_cmp (od_ge hu) (dv 0) (de_op od_pow de_int de_int) rfl) (dv 0) de_int) (dps_cons de_str (dv 0) (dps_cons de_str (de_op od_mul de_int (dv 1)) dps_nil))))
def m__law_digit : M Flow :=
  sq (ifM (asB (bin D.eq (pixM 0 (ret (.str "left"))) (ret (.int 0)))) (forM (rangeM (consA (ret (.int 4)) (nilA))) (stS 3) (sq (subS 0 (bin D.add (pixM 0 (ret (.str "turns"))) (ret (.int 1))) (ret (.str "turns")))
    (subS 0 (bin D.add (bin D.mul (pixM 0 (ret (.str "left"))) (ret (.int 2147483647))) (callM (fnM 3 m__law_mixed) (consA (pixM 0 (ret (.str "cell"))) (consA (pixM 0 (ret (.str "turns"))) (nilA))))) (ret (.str "left"))))) (ret .nx))
    (sq (asgM (bin D.mod (pixM 0 (ret (.str "left"))) (vr 1)) (stS 2))
    (sq (subS 0 (bin D.fdiv (pixM 0 (ret (.str "left"))) (vr 1)) (ret (.str "left")))
    (rtM (vr 2))))
theorem O__law_digit (T : Txt K mg) : Ok P w K mg base 2 "_law_digit" s__law_digit ["state", "below"] (spF K mg 2 (fnM 4 m__law_digit)) := by
  have O__law_mixed := O__law_mixed (P := P) (w := w) (base := base) T
  have S : FnScope ["state", "below", "found", "j"] ["state", "below"] (defScope s__law_digit) := ⟨rfl, rfl, rfl, by decide +kernel, rfl, by decide +kernel, by decide +kernel⟩
  refine ok_fn T.d__law_digit S (by decide) (fun _ _ _ _ _ _ us hl => match us, hl with | [_, _], _ => rfl) fun f cdv A outer s H E hgu hr => ?_
  have hu := hu150 hr
  have hu1 := hu1_of hr
  have hN := S.nd
  have hc : (cxOf (L2.CX P w) P w K mg base ["state", "below", "found", "j"] "_law_digit" (defScope s__law_digit) f cdv A outer s H E).calm = true := rfl
  have tk : Takes (cxOf (L2.CX P w) P w K mg base ["state", "below", "found", "j"] "_law_digit" (defScope s__law_digit) f cdv A outer s H E) (WF E) := takes_of rfl rfl rfl rfl
  have hp : PassesOwn (model (cxOf (L2.CX P w) P w K mg base ["state", "below", "found", "j"] "_law_digit" (defScope s__law_digit) f cdv A outer s H E).prog w) (cxOf (L2.CX P w) P w K mg base ["state", "below", "found", "j"] "_law_digit" (defScope s__law_digit) f cdv A outer s H E).A (cxOf (L2.CX P w) P w K mg base ["state", "below", "found", "j"] "_law_digit" (defScope s__law_digit) f cdv A outer s H E).env (cxOf (L2.CX P w) P w K mg base ["state", "below", "found", "j"] "_law_digit" (defScope s__law_digit) f cdv A outer s H E).xe := passes_of rfl
  exact (dss_cons (ds_if (dt_cmp (od_eq hu) (de_pix hu (pv 0) de_str (fun _ _ => rfl)) de_int rfl) (dss_one (ds_for hp hc (di_range1 rfl T.b_range (da_cons de_int da_nil) (hl := (len_cons len_nil))) (dgn 3 hN) stS_er (dss_cons (ds_sub hu1 (pv 0) (de_op od_add (de_pix hu (pv 0) de_str (fun _ _ => rfl)) de_int) de_str)
    (dss_one (ds_sub hu1 (pv 0) (de_op od_add (de_op od_mul (de_pix hu (pv 0) de_str (fun _ _ => rfl)) de_int) (dcall O__law_mixed hgu (hr.mono (by decide)) rfl tk (da_cons (de_pix hu (pv 0) de_str (fun _ _ => rfl)) (da_cons (de_pix hu (pv 0) de_str (fun _ _ => rfl)) da_nil)) (len_cons (len_cons len_nil)))) de_str))))) dss_nil)
    (dss_cons (dset 2 hN (de_op od_mod (de_pix hu (pv 0) de_str (fun _ _ => rfl)) (dv 1)))
    (dss_cons (ds_sub hu1 (pv 0) (de_op od_fdiv (de_pix hu (pv 0) de_str (fun _ _ => rfl)) (dv 1)) de_str)
    (dss_one (ds_ret (dv 2))))))
def m__law_band : M Flow :=
  sq (asgM (tupM (consA (bin D.add (ret (.int 1)) (callIo 0 (fnM 4 m__law_digit) (consA (vr 1) (nilA)))) (consA (bin D.add (ret (.int 1)) (callIo 0 (fnM 4 m__law_digit) (consA (ret (.int 3)) (nilA)))) (nilA)))) (gtM 2 (unp1 (stS 2) (unp1 (stS 3) unp0))))
    (sq (asgM (tupM (consA (bin D.add (ret (.int 1)) (callIo 0 (fnM 4 m__law_digit) (consA (ret (.int 3)) (nilA)))) (consA (callIo 0 (fnM 4 m__law_digit) (consA (ret (.int 6)) (nilA))) (nilA)))) (gtM 2 (unp1 (stS 4) (unp1 (stS 5) unp0))))
    (sq (asgM (lcM [14] (rangeM (consA (bin D.mul (vr 2) (vr 3)) (nilA))) (stS 14) (ret true) (bin D.ix (ret (.str "abz")) (callIo 0 (fnM 4 m__law_digit) (consA (vr 4) (nilA))))) (stO 6))
    (sq (asgM (callIo 0 (fnM 4 m__law_digit) (consA (vr 2) (nilA))) (stS 7))
    (sq (ifM (asB (bin D.gt (vr 5) (ret (.int 0)))) (forM (rangeM (consA (vr 3) (nilA))) (stS 9) (forM (rangeM (consA (vr 2) (nilA))) (stS 10) (sq (asgM (bin D.ix (lstM (consA (ret (.int 0)) (consA (ret (.int 1)) (consA (ret (.int 2)) (consA (ret (.int 3)) (consA (ret (.int 1)) (nilA))))))) (bin D.sub (vr 5) (ret (.int 1)))) (stS 11))
    (sq (asgM (ifM (asB (bin D.lt (vr 11) (ret (.int 2)))) (bin D.add (vr 10) (ifM (asB (bin D.eq (vr 5) (ret (.int 5)))) (bin D.fdiv (vr 2) (ret (.int 2))) (ret (.int 0)))) (bin D.sub (vr 7) (vr 10))) (stS 12))
    (sq (asgM (ifM (asB (bin D.isin (vr 11) (tupM (consA (ret (.int 1)) (consA (ret (.int 3)) (nilA)))))) (bin D.sub (bin D.sub (vr 3) (ret (.int 1))) (vr 9)) (vr 9)) (stS 13))
    (subS 6 (pixM 6 (bin D.add (bin D.mul (vr 9) (vr 2)) (vr 10))) (bin D.add (bin D.mul (vr 13) (vr 2)) (bin D.mod (vr 12) (vr 2))))))))) (ret .nx))
    (sq (asgM (strM D.join (ret (.str "")) (lcM [9] (rangeM (consA (vr 3) (nilA))) (stS 9) (ret true) (bin D.mul (strM D.join (ret (.str "")) (sliceM (vr 6) (someI (bin D.mul (vr 9) (vr 2))) (someI (bin D.add (bin D.mul (vr 9) (vr 2)) (vr 2))))) (ifM (asB (bin D.eq (vr 5) (ret (.int 1)))) (ret (.int 2)) (ret (.int 1)))))) (stS 8))
    (rtM (tupM (consA (bin D.mul (vr 2) (ifM (asB (bin D.eq (vr 5) (ret (.int 1)))) (ret (.int 2)) (ret (.int 1)))) (consA (vr 3) (consA (vr 8) (nilA)))))))))))
theorem O__law_band (T : Txt K mg) : Ok P w K mg base 3 "_law_band" s__law_band ["state", "most"] (spF K mg 2 (fnM 15 m__law_band)) := by
  have O__law_digit := O__law_digit (P := P) (w := w) (base := base) T
  have S : FnScope ["state", "most", "columns", "rows", "few", "way", "cells", "place", "text", "y", "x", "kind", "there", "line", "at"] ["state", "most"] (defScope s__law_band) := ⟨rfl, rfl, rfl, by decide +kernel, rfl, by decide +kernel, by decide +kernel⟩
  refine ok_fn T.d__law_band S (by decide) (fun _ _ _ _ _ _ us hl => match us, hl with | [_, _], _ => rfl) fun f cdv A outer s H E hgu hr => ?_
  have hu := hu150 hr
  have hu1 := hu1_of hr
  have hN := S.nd
  have hc : (cxOf (L2.CX P w) P w K mg base ["state", "most", "columns", "rows", "few", "way", "cells", "place", "text", "y", "x", "kind", "there", "line", "at"] "_law_band" (defScope s__law_band) f cdv A outer s H E).calm = true := rfl
  have tk : Takes (cxOf (L2.CX P w) P w K mg base ["state", "most", "columns", "rows", "few", "way", "cells", "place", "text", "y", "x", "kind", "there", "line", "at"] "_law_band" (defScope s__law_band) f cdv A outer s H E) (WF E) := takes_of rfl rfl rfl rfl
  have hp : PassesOwn (model (cxOf (L2.CX P w) P w K mg base ["state", "most", "columns", "rows", "few", "way", "cells", "place", "text", "y", "x", "kind", "there", "line", "at"] "_law_band" (defScope s__law_band) f cdv A outer s H E).prog w) (cxOf (L2.CX P w) P w K mg base ["state", "most", "columns", "rows", "few", "way", "cells", "place", "text", "y", "x", "kind", "there", "line", "at"] "_law_band" (defScope s__law_band) f cdv A outer s H E).A (cxOf (L2.CX P w) P w K mg base ["state", "most", "columns", "rows", "few", "way", "cells", "place", "text", "y", "x", "kind", "there", "line", "at"] "_law_band" (defScope s__law_band) f cdv A outer s H E).env (cxOf (L2.CX P w) P w K mg base ["state", "most", "columns", "rows", "few", "way", "cells", "place", "text", "y", "x", "kind", "there", "line", "at"] "_law_band" (defScope s__law_band) f cdv A outer s H E).xe := passes_of rfl
  exact (dss_cons (ds_asg (de_tup (da_cons (de_op od_add de_int (dcallIo O__law_digit hgu (hr.mono (by decide)) rfl tk (pv 0) (da_cons (dv 1) da_nil) (fun Γ ds Γ2 e => congrArg (· + 1) ((len_cons len_nil) Γ ds Γ2 e)))) (da_cons (de_op od_add de_int (dcallIo O__law_digit hgu (hr.mono (by decide)) rfl tk (pv 0) (da_cons de_int da_nil) (fun Γ ds Γ2 e => congrArg (· + 1) ((len_cons len_nil) Γ ds Γ2 e)))) da_nil))) (dg_tup hc (dgs_cons (dgn 2 hN) (dgs_cons (dgn 3 hN) dgs_nil))) (gtM_er (unp1_er stS_er (unp1_er stS_er unp0_er))))
    (dss_cons (ds_asg (de_tup (da_cons (de_op od_add de_int (dcallIo O__law_digit hgu (hr.mono (by decide)) rfl tk (pv 0) (da_cons de_int da_nil) (fun Γ ds Γ2 e => congrArg (· + 1) ((len_cons len_nil) Γ ds Γ2 e)))) (da_cons (dcallIo O__law_digit hgu (hr.mono (by decide)) rfl tk (pv 0) (da_cons de_int da_nil) (fun Γ ds Γ2 e => congrArg (· + 1) ((len_cons len_nil) Γ ds Γ2 e))) da_nil))) (dg_tup hc (dgs_cons (dgn 4 hN) (dgs_cons (dgn 5 hN) dgs_nil))) (gtM_er (unp1_er stS_er (unp1_er stS_er unp0_er))))
    (dss_cons (down 6 hN (df_lc hc hN (own := [("at", 14)]) (blkOk_by (by first | rfl | decide +kernel)) (di_range1 rfl T.b_range (da_cons (de_op od_mul (dv 2) (dv 3)) da_nil) (hl := (len_cons len_nil))) (fun s H C cl fp => (dgn 14 hN)) stS_er (by decide) (fun s H C cl fp => dts_nil) (fun s H C cl fp => (de_ix hu de_str (dcallIo O__law_digit hgu (hr.mono (by decide)) rfl takes0 (pv 0) (da_cons (dv 4) da_nil) (fun Γ ds Γ2 e => congrArg (· + 1) ((len_cons len_nil) Γ ds Γ2 e))) (fun _ _ => rfl)))))
    (dss_cons (dset 7 hN (dcallIo O__law_digit hgu (hr.mono (by decide)) rfl tk (pv 0) (da_cons (dv 2) da_nil) (fun Γ ds Γ2 e => congrArg (· + 1) ((len_cons len_nil) Γ ds Γ2 e))))
    (dss_cons (ds_if (dt_cmp (od_gt hu) (dv 5) de_int rfl) (dss_one (ds_for hp hc (di_range1 rfl T.b_range (da_cons (dv 3) da_nil) (hl := (len_cons len_nil))) (dgn 9 hN) stS_er (dss_one (ds_for hp hc (di_range1 rfl T.b_range (da_cons (dv 2) da_nil) (hl := (len_cons len_nil))) (dgn 10 hN) stS_er (dss_cons (dset 11 hN (de_ix hu (de_lst (da_cons de_int (da_cons de_int (da_cons de_int (da_cons de_int (da_cons de_int da_nil)))))) (de_op od_sub (dv 5) de_int) (fun _ _ => rfl)))
    (dss_cons (dset 12 hN (de_if (dt_cmp (od_lt hu) (dv 11) de_int rfl) (de_op od_add (dv 10) (de_if (dt_cmp (od_eq hu) (dv 5) de_int rfl) (de_op od_fdiv (dv 2) de_int) de_int)) (de_op od_sub (dv 7) (dv 10))))
    (dss_cons (dset 13 hN (de_if (dt_cmp (od_in hu) (dv 11) (de_tup (da_cons de_int (da_cons de_int da_nil))) rfl) (de_op od_sub (de_op od_sub (dv 3) de_int) (dv 9)) (dv 9)))
    (dss_one (ds_sub hu1 (pv 6) (de_pix hu (pv 6) (de_op od_add (de_op od_mul (dv 9) (dv 2)) (dv 10)) (fun _ _ => rfl)) (de_op od_add (de_op od_mul (dv 13) (dv 2)) (de_op od_mod (dv 12) (dv 2)))))))))))) dss_nil)
    (dss_cons (dset 8 hN (de_join de_str (df_de (df_lc hc hN (own := [("y", 9)]) (blkOk_by (by first | rfl | decide +kernel)) (di_range1 rfl T.b_range (da_cons (dv 3) da_nil) (hl := (len_cons len_nil))) (fun s H C cl fp => (dgn 9 hN)) stS_er (by decide) (fun s H C cl fp => dts_nil) (fun s H C cl fp => (de_op od_mul (de_join de_str (de_slice (dv 6) (do_some (de_op od_mul (dv 9) (dv 2))) (do_some (de_op od_add (de_op od_mul (dv 9) (dv 2)) (dv 2))))) (de_if (dt_cmp (od_eq hu) (dv 5) de_int rfl) de_int de_int)))))))
    (dss_one (ds_ret (de_tup (da_cons (de_op od_mul (dv 2) (de_if (dt_cmp (od_eq hu) (dv 5) de_int rfl) de_int de_int)) (da_cons (dv 3) (da_cons (dv 8) da_nil))))))))))))
def m__law_hue : M Flow :=
  rtM (bin D.ix (bin D.ix (vr 0) (ret (.int 2))) (bin D.add (bin D.mul (vr 2) (bin D.ix (vr 0) (ret (.int 0)))) (bin D.mod (vr 1) (bin D.ix (vr 0) (ret (.int 0))))))
theorem O__law_hue (T : Txt K mg) : Ok P w K mg base 1 "_law_hue" s__law_hue ["band", "x", "y"] (spF K mg 3 (fnM 3 m__law_hue)) := by
  have S : FnScope ["band", "x", "y"] ["band", "x", "y"] (defScope s__law_hue) := ⟨rfl, rfl, rfl, by decide +kernel, rfl, by decide +kernel, by decide +kernel⟩
  refine ok_fn T.d__law_hue S (by decide) (fun _ _ _ _ _ _ us hl => match us, hl with | [_, _, _], _ => rfl) fun f cdv A outer s H E hgu hr => ?_
  have hu := hu150 hr
  have hu1 := hu1_of hr
  have hN := S.nd
  have hc : (cxOf (L2.CX P w) P w K mg base ["band", "x", "y"] "_law_hue" (defScope s__law_hue) f cdv A outer s H E).calm = true := rfl
  have tk : Takes (cxOf (L2.CX P w) P w K mg base ["band", "x", "y"] "_law_hue" (defScope s__law_hue) f cdv A outer s H E) (WF E) := takes_of rfl rfl rfl rfl
  have hp : PassesOwn (model (cxOf (L2.CX P w) P w K mg base ["band", "x", "y"] "_law_hue" (defScope s__law_hue) f cdv A outer s H E).prog w) (cxOf (L2.CX P w) P w K mg base ["band", "x", "y"] "_law_hue" (defScope s__law_hue) f cdv A outer s H E).A (cxOf (L2.CX P w) P w K mg base ["band", "x", "y"] "_law_hue" (defScope s__law_hue) f cdv A outer s H E).env (cxOf (L2.CX P w) P w K mg base ["band", "x", "y"] "_law_hue" (defScope s__law_hue) f cdv A outer s H E).xe := passes_of rfl
  exact (dss_one (ds_ret (de_ix hu (de_ix hu (dv 0) de_int (fun _ _ => rfl)) (de_op od_add (de_op od_mul (dv 2) (de_ix hu (dv 0) de_int (fun _ _ => rfl))) (de_op od_mod (dv 1) (de_ix hu (dv 0) de_int (fun _ _ => rfl)))) (fun _ _ => rfl))))
def m__law_image : M Flow :=
  sq (asgM (vr 1) (gtM 2 (unp1 (stS 4) (unp1 (stS 5) unp0))))
    (rtM (tupM (consA (ifM (asB (bin D.lt (vr 4) (ret (.int 2)))) (bin D.add (vr 2) (vr 5)) (bin D.sub (vr 5) (vr 2))) (consA (ifM (asB (bin D.isin (vr 4) (tupM (consA (ret (.int 1)) (consA (ret (.int 3)) (nilA)))))) (bin D.sub (bin D.sub (vr 0) (ret (.int 1))) (vr 3)) (vr 3)) (nilA)))))
theorem O__law_image (T : Txt K mg) : Ok P w K mg base 1 "_law_image" s__law_image ["rows", "motion", "x", "y"] (spF K mg 4 (fnM 6 m__law_image)) := by
  have S : FnScope ["rows", "motion", "x", "y", "kind", "shift"] ["rows", "motion", "x", "y"] (defScope s__law_image) := ⟨rfl, rfl, rfl, by decide +kernel, rfl, by decide +kernel, by decide +kernel⟩
  refine ok_fn T.d__law_image S (by decide) (fun _ _ _ _ _ _ us hl => match us, hl with | [_, _, _, _], _ => rfl) fun f cdv A outer s H E hgu hr => ?_
  have hu := hu150 hr
  have hu1 := hu1_of hr
  have hN := S.nd
  have hc : (cxOf (L2.CX P w) P w K mg base ["rows", "motion", "x", "y", "kind", "shift"] "_law_image" (defScope s__law_image) f cdv A outer s H E).calm = true := rfl
  have tk : Takes (cxOf (L2.CX P w) P w K mg base ["rows", "motion", "x", "y", "kind", "shift"] "_law_image" (defScope s__law_image) f cdv A outer s H E) (WF E) := takes_of rfl rfl rfl rfl
  have hp : PassesOwn (model (cxOf (L2.CX P w) P w K mg base ["rows", "motion", "x", "y", "kind", "shift"] "_law_image" (defScope s__law_image) f cdv A outer s H E).prog w) (cxOf (L2.CX P w) P w K mg base ["rows", "motion", "x", "y", "kind", "shift"] "_law_image" (defScope s__law_image) f cdv A outer s H E).A (cxOf (L2.CX P w) P w K mg base ["rows", "motion", "x", "y", "kind", "shift"] "_law_image" (defScope s__law_image) f cdv A outer s H E).env (cxOf (L2.CX P w) P w K mg base ["rows", "motion", "x", "y", "kind", "shift"] "_law_image" (defScope s__law_image) f cdv A outer s H E).xe := passes_of rfl
  exact (dss_cons (ds_asg (dv 1) (dg_tup hc (dgs_cons (dgn 4 hN) (dgs_cons (dgn 5 hN) dgs_nil))) (gtM_er (unp1_er stS_er (unp1_er stS_er unp0_er))))
    (dss_one (ds_ret (de_tup (da_cons (de_if (dt_cmp (od_lt hu) (dv 4) de_int rfl) (de_op od_add (dv 2) (dv 5)) (de_op od_sub (dv 5) (dv 2))) (da_cons (de_if (dt_cmp (od_in hu) (dv 4) (de_tup (da_cons de_int (da_cons de_int da_nil))) rfl) (de_op od_sub (de_op od_sub (dv 0) de_int) (dv 3)) (dv 3)) da_nil))))))
def m__law_leads : M Flow :=
  sq (ifM (asB (bin D.ne (bin D.ix (vr 0) (ret (.int 1))) (bin D.ix (vr 1) (ret (.int 1))))) (rtM (ret (.bl false))) (ret .nx))
    (sq (forM (rangeM (consA (bin D.ix (vr 0) (ret (.int 1))) (nilA))) (stS 3) (forM (rangeM (consA (bin D.mul (bin D.ix (vr 0) (ret (.int 0))) (bin D.ix (vr 1) (ret (.int 0)))) (nilA))) (stS 4) (sq (asgM (callM (fnM 6 m__law_image) (consA (bin D.ix (vr 0) (ret (.int 1))) (consA (vr 2) (consA (vr 4) (consA (vr 3) (nilA)))))) (gtM 2 (unp1 (stS 5) (unp1 (stS 6) unp0))))
    (ifM (asB (bin D.ne (callM (fnM 3 m__law_hue) (consA (vr 0) (consA (vr 4) (consA (vr 3) (nilA))))) (callM (fnM 3 m__law_hue) (consA (vr 1) (consA (vr 5) (consA (vr 6) (nilA))))))) (rtM (ret (.bl false))) (ret .nx)))))
    (rtM (ret (.bl true))))
theorem O__law_leads (T : Txt K mg) : Ok P w K mg base 2 "_law_leads" s__law_leads ["one", "other", "motion"] (spF K mg 3 (fnM 7 m__law_leads)) := by
  have O__law_image := O__law_image (P := P) (w := w) (base := base) T
  have O__law_hue := O__law_hue (P := P) (w := w) (base := base) T
  have S : FnScope ["one", "other", "motion", "y", "x", "far", "line"] ["one", "other", "motion"] (defScope s__law_leads) := ⟨rfl, rfl, rfl, by decide +kernel, rfl, by decide +kernel, by decide +kernel⟩
  refine ok_fn T.d__law_leads S (by decide) (fun _ _ _ _ _ _ us hl => match us, hl with | [_, _, _], _ => rfl) fun f cdv A outer s H E hgu hr => ?_
  have hu := hu150 hr
  have hu1 := hu1_of hr
  have hN := S.nd
  have hc : (cxOf (L2.CX P w) P w K mg base ["one", "other", "motion", "y", "x", "far", "line"] "_law_leads" (defScope s__law_leads) f cdv A outer s H E).calm = true := rfl
  have tk : Takes (cxOf (L2.CX P w) P w K mg base ["one", "other", "motion", "y", "x", "far", "line"] "_law_leads" (defScope s__law_leads) f cdv A outer s H E) (WF E) := takes_of rfl rfl rfl rfl
  have hp : PassesOwn (model (cxOf (L2.CX P w) P w K mg base ["one", "other", "motion", "y", "x", "far", "line"] "_law_leads" (defScope s__law_leads) f cdv A outer s H E).prog w) (cxOf (L2.CX P w) P w K mg base ["one", "other", "motion", "y", "x", "far", "line"] "_law_leads" (defScope s__law_leads) f cdv A outer s H E).A (cxOf (L2.CX P w) P w K mg base ["one", "other", "motion", "y", "x", "far", "line"] "_law_leads" (defScope s__law_leads) f cdv A outer s H E).env (cxOf (L2.CX P w) P w K mg base ["one", "other", "motion", "y", "x", "far", "line"] "_law_leads" (defScope s__law_leads) f cdv A outer s H E).xe := passes_of rfl
  exact (dss_cons (ds_if (dt_cmp (od_ne hu) (de_ix hu (dv 0) de_int (fun _ _ => rfl)) (de_ix hu (dv 1) de_int (fun _ _ => rfl)) rfl) (dss_one (ds_ret de_bl)) dss_nil)
    (dss_cons (ds_for hp hc (di_range1 rfl T.b_range (da_cons (de_ix hu (dv 0) de_int (fun _ _ => rfl)) da_nil) (hl := (len_cons len_nil))) (dgn 3 hN) stS_er (dss_one (ds_for hp hc (di_range1 rfl T.b_range (da_cons (de_op od_mul (de_ix hu (dv 0) de_int (fun _ _ => rfl)) (de_ix hu (dv 1) de_int (fun _ _ => rfl))) da_nil) (hl := (len_cons len_nil))) (dgn 4 hN) stS_er (dss_cons (ds_asg (dcall O__law_image hgu (hr.mono (by decide)) rfl tk (da_cons (de_ix hu (dv 0) de_int (fun _ _ => rfl)) (da_cons (dv 2) (da_cons (dv 4) (da_cons (dv 3) da_nil)))) (len_cons (len_cons (len_cons (len_cons len_nil))))) (dg_tup hc (dgs_cons (dgn 5 hN) (dgs_cons (dgn 6 hN) dgs_nil))) (gtM_er (unp1_er stS_er (unp1_er stS_er unp0_er))))
    (dss_one (ds_if (dt_cmp (od_ne hu) (dcall O__law_hue hgu (hr.mono (by decide)) rfl tk (da_cons (dv 0) (da_cons (dv 4) (da_cons (dv 3) da_nil))) (len_cons (len_cons (len_cons len_nil)))) (dcall O__law_hue hgu (hr.mono (by decide)) rfl tk (da_cons (dv 1) (da_cons (dv 5) (da_cons (dv 6) da_nil))) (len_cons (len_cons (len_cons len_nil)))) rfl) (dss_one (ds_ret de_bl)) dss_nil))))))
    (dss_one (ds_ret de_bl))))
def m__law_least_shift : M Flow :=
  sq (forM (rangeM (consA (ret (.int 1)) (consA (bin D.add (bin D.ix (vr 0) (ret (.int 0))) (ret (.int 1))) (nilA)))) (stS 1) (ifM (asB (callM (fnM 7 m__law_leads) (consA (vr 0) (consA (vr 0) (consA (tupM (consA (ret (.int 0)) (consA (vr 1) (nilA)))) (nilA)))))) (rtM (vr 1)) (ret .nx)))
    (rtM (ret (.int 0)))
theorem O__law_least_shift (T : Txt K mg) : Ok P w K mg base 3 "_law_least_shift" s__law_least_shift ["band"] (spF K mg 1 (fnM 2 m__law_least_shift)) := by
  have O__law_leads := O__law_leads (P := P) (w := w) (base := base) T
  have S : FnScope ["band", "shift"] ["band"] (defScope s__law_least_shift) := ⟨rfl, rfl, rfl, by decide +kernel, rfl, by decide +kernel, by decide +kernel⟩
  refine ok_fn T.d__law_least_shift S (by decide) (fun _ _ _ _ _ _ us hl => match us, hl with | [_], _ => rfl) fun f cdv A outer s H E hgu hr => ?_
  have hu := hu150 hr
  have hu1 := hu1_of hr
  have hN := S.nd
  have hc : (cxOf (L2.CX P w) P w K mg base ["band", "shift"] "_law_least_shift" (defScope s__law_least_shift) f cdv A outer s H E).calm = true := rfl
  have tk : Takes (cxOf (L2.CX P w) P w K mg base ["band", "shift"] "_law_least_shift" (defScope s__law_least_shift) f cdv A outer s H E) (WF E) := takes_of rfl rfl rfl rfl
  have hp : PassesOwn (model (cxOf (L2.CX P w) P w K mg base ["band", "shift"] "_law_least_shift" (defScope s__law_least_shift) f cdv A outer s H E).prog w) (cxOf (L2.CX P w) P w K mg base ["band", "shift"] "_law_least_shift" (defScope s__law_least_shift) f cdv A outer s H E).A (cxOf (L2.CX P w) P w K mg base ["band", "shift"] "_law_least_shift" (defScope s__law_least_shift) f cdv A outer s H E).env (cxOf (L2.CX P w) P w K mg base ["band", "shift"] "_law_least_shift" (defScope s__law_least_shift) f cdv A outer s H E).xe := passes_of rfl
  exact (dss_cons (ds_for hp hc (di_range2 rfl T.b_range (da_cons de_int (da_cons (de_op od_add (de_ix hu (dv 0) de_int (fun _ _ => rfl)) de_int) da_nil)) (hl := (len_cons (len_cons len_nil)))) (dgn 1 hN) stS_er (dss_one (ds_if (dt_val (dcall O__law_leads hgu (hr.mono (by decide)) rfl tk (da_cons (dv 0) (da_cons (dv 0) (da_cons (de_tup (da_cons de_int (da_cons (dv 1) da_nil))) da_nil))) (len_cons (len_cons (len_cons len_nil))))) (dss_one (ds_ret (dv 1))) dss_nil)))
    (dss_one (ds_ret de_int)))
def m__law_carried : M Flow :=
  sq (asgM (bin D.lmul (lstM (consA (ret (.str "")) (nilA))) (appM D.len (consA (bin D.ix (vr 0) (ret (.int 2))) (nilA)))) (stO 2))
    (sq (forM (rangeM (consA (bin D.ix (vr 0) (ret (.int 1))) (nilA))) (stS 3) (forM (rangeM (consA (bin D.ix (vr 0) (ret (.int 0))) (nilA))) (stS 4) (sq (asgM (callM (fnM 6 m__law_image) (consA (bin D.ix (vr 0) (ret (.int 1))) (consA (vr 1) (consA (vr 4) (consA (vr 3) (nilA)))))) (gtM 2 (unp1 (stS 5) (unp1 (stS 6) unp0))))
    (subS 2 (callM (fnM 3 m__law_hue) (consA (vr 0) (consA (vr 4) (consA (vr 3) (nilA))))) (bin D.add (bin D.mul (vr 6) (bin D.ix (vr 0) (ret (.int 0)))) (bin D.mod (vr 5) (bin D.ix (vr 0) (ret (.int 0)))))))))
    (rtM (tupM (consA (bin D.ix (vr 0) (ret (.int 0))) (consA (bin D.ix (vr 0) (ret (.int 1))) (consA (strM D.join (ret (.str "")) (vr 2)) (nilA)))))))
theorem O__law_carried (T : Txt K mg) : Ok P w K mg base 2 "_law_carried" s__law_carried ["band", "motion"] (spF K mg 2 (fnM 7 m__law_carried)) := by
  have O__law_image := O__law_image (P := P) (w := w) (base := base) T
  have O__law_hue := O__law_hue (P := P) (w := w) (base := base) T
  have S : FnScope ["band", "motion", "found", "y", "x", "far", "line"] ["band", "motion"] (defScope s__law_carried) := ⟨rfl, rfl, rfl, by decide +kernel, rfl, by decide +kernel, by decide +kernel⟩
  refine ok_fn T.d__law_carried S (by decide) (fun _ _ _ _ _ _ us hl => match us, hl with | [_, _], _ => rfl) fun f cdv A outer s H E hgu hr => ?_
  have hu := hu150 hr
  have hu1 := hu1_of hr
  have hN := S.nd
  have hc : (cxOf (L2.CX P w) P w K mg base ["band", "motion", "found", "y", "x", "far", "line"] "_law_carried" (defScope s__law_carried) f cdv A outer s H E).calm = true := rfl
  have tk : Takes (cxOf (L2.CX P w) P w K mg base ["band", "motion", "found", "y", "x", "far", "line"] "_law_carried" (defScope s__law_carried) f cdv A outer s H E) (WF E) := takes_of rfl rfl rfl rfl
  have hp : PassesOwn (model (cxOf (L2.CX P w) P w K mg base ["band", "motion", "found", "y", "x", "far", "line"] "_law_carried" (defScope s__law_carried) f cdv A outer s H E).prog w) (cxOf (L2.CX P w) P w K mg base ["band", "motion", "found", "y", "x", "far", "line"] "_law_carried" (defScope s__law_carried) f cdv A outer s H E).A (cxOf (L2.CX P w) P w K mg base ["band", "motion", "found", "y", "x", "far", "line"] "_law_carried" (defScope s__law_carried) f cdv A outer s H E).env (cxOf (L2.CX P w) P w K mg base ["band", "motion", "found", "y", "x", "far", "line"] "_law_carried" (defScope s__law_carried) f cdv A outer s H E).xe := passes_of rfl
  exact (dss_cons (down 2 hN (df_lmul (de_lst (da_cons de_str da_nil)) (de_callB cd_len rfl T.b_len rfl (da_cons (de_ix hu (dv 0) de_int (fun _ _ => rfl)) da_nil))))
    (dss_cons (ds_for hp hc (di_range1 rfl T.b_range (da_cons (de_ix hu (dv 0) de_int (fun _ _ => rfl)) da_nil) (hl := (len_cons len_nil))) (dgn 3 hN) stS_er (dss_one (ds_for hp hc (di_range1 rfl T.b_range (da_cons (de_ix hu (dv 0) de_int (fun _ _ => rfl)) da_nil) (hl := (len_cons len_nil))) (dgn 4 hN) stS_er (dss_cons (ds_asg (dcall O__law_image hgu (hr.mono (by decide)) rfl tk (da_cons (de_ix hu (dv 0) de_int (fun _ _ => rfl)) (da_cons (dv 1) (da_cons (dv 4) (da_cons (dv 3) da_nil)))) (len_cons (len_cons (len_cons (len_cons len_nil))))) (dg_tup hc (dgs_cons (dgn 5 hN) (dgs_cons (dgn 6 hN) dgs_nil))) (gtM_er (unp1_er stS_er (unp1_er stS_er unp0_er))))
    (dss_one (ds_sub hu1 (pv 2) (dcall O__law_hue hgu (hr.mono (by decide)) rfl tk (da_cons (dv 0) (da_cons (dv 4) (da_cons (dv 3) da_nil))) (len_cons (len_cons (len_cons len_nil)))) (de_op od_add (de_op od_mul (dv 6) (de_ix hu (dv 0) de_int (fun _ _ => rfl))) (de_op od_mod (dv 5) (de_ix hu (dv 0) de_int (fun _ _ => rfl))))))))))
    (dss_one (ds_ret (de_tup (da_cons (de_ix hu (dv 0) de_int (fun _ _ => rfl)) (da_cons (de_ix hu (dv 0) de_int (fun _ _ => rfl)) (da_cons (de_join de_str (dv 2)) da_nil))))))))
def m__law_form : M Flow :=
  sq (asgM (tupM (consA (callM (fnM 2 m__law_least_shift) (consA (vr 0) (nilA))) (consA (lstM (nilA)) (nilA)))) (gtM 2 (unp1 (stS 1) (unp1 (stS 2) unp0))))
    (sq (asgM (strM D.join (ret (.str "")) (lcM [5] (rangeM (consA (bin D.ix (vr 0) (ret (.int 1))) (nilA))) (stS 5) (ret true) (sliceM (bin D.ix (vr 0) (ret (.int 2))) (someI (bin D.mul (vr 5) (bin D.ix (vr 0) (ret (.int 0))))) (someI (bin D.add (bin D.mul (vr 5) (bin D.ix (vr 0) (ret (.int 0)))) (vr 1)))))) (stS 3))
    (sq (forM (rangeM (consA (ret (.int 4)) (nilA))) (stS 4) (asgM (bin D.add (vr 2) (lcM [6] (rangeM (consA (vr 1) (nilA))) (stS 6) (ret true) (callM (fnM 7 m__law_carried) (consA (tupM (consA (vr 1) (consA (bin D.ix (vr 0) (ret (.int 1))) (consA (vr 3) (nilA))))) (consA (tupM (consA (vr 4) (consA (vr 6) (nilA)))) (nilA)))))) (stS 2)))
    (rtM (appM D.min (consA (vr 2) (nilA))))))
theorem O__law_form (T : Txt K mg) : Ok P w K mg base 4 "_law_form" s__law_form ["band"] (spF K mg 1 (fnM 7 m__law_form)) := by
  have O__law_least_shift := O__law_least_shift (P := P) (w := w) (base := base) T
  have O__law_carried := O__law_carried (P := P) (w := w) (base := base) T
  have S : FnScope ["band", "least", "found", "text", "kind", "y", "shift"] ["band"] (defScope s__law_form) := ⟨rfl, rfl, rfl, by decide +kernel, rfl, by decide +kernel, by decide +kernel⟩
  refine ok_fn T.d__law_form S (by decide) (fun _ _ _ _ _ _ us hl => match us, hl with | [_], _ => rfl) fun f cdv A outer s H E hgu hr => ?_
  have hu := hu150 hr
  have hu1 := hu1_of hr
  have hN := S.nd
  have hc : (cxOf (L2.CX P w) P w K mg base ["band", "least", "found", "text", "kind", "y", "shift"] "_law_form" (defScope s__law_form) f cdv A outer s H E).calm = true := rfl
  have tk : Takes (cxOf (L2.CX P w) P w K mg base ["band", "least", "found", "text", "kind", "y", "shift"] "_law_form" (defScope s__law_form) f cdv A outer s H E) (WF E) := takes_of rfl rfl rfl rfl
  have hp : PassesOwn (model (cxOf (L2.CX P w) P w K mg base ["band", "least", "found", "text", "kind", "y", "shift"] "_law_form" (defScope s__law_form) f cdv A outer s H E).prog w) (cxOf (L2.CX P w) P w K mg base ["band", "least", "found", "text", "kind", "y", "shift"] "_law_form" (defScope s__law_form) f cdv A outer s H E).A (cxOf (L2.CX P w) P w K mg base ["band", "least", "found", "text", "kind", "y", "shift"] "_law_form" (defScope s__law_form) f cdv A outer s H E).env (cxOf (L2.CX P w) P w K mg base ["band", "least", "found", "text", "kind", "y", "shift"] "_law_form" (defScope s__law_form) f cdv A outer s H E).xe := passes_of rfl
  exact (dss_cons (ds_asg (de_tup (da_cons (dcall O__law_least_shift hgu (hr.mono (by decide)) rfl tk (da_cons (dv 0) da_nil) (len_cons len_nil)) (da_cons (de_lst da_nil) da_nil))) (dg_tup hc (dgs_cons (dgn 1 hN) (dgs_cons (dgn 2 hN) dgs_nil))) (gtM_er (unp1_er stS_er (unp1_er stS_er unp0_er))))
    (dss_cons (dset 3 hN (de_join de_str (df_de (df_lc hc hN (own := [("y", 5)]) (blkOk_by (by first | rfl | decide +kernel)) (di_range1 rfl T.b_range (da_cons (de_ix hu (dv 0) de_int (fun _ _ => rfl)) da_nil) (hl := (len_cons len_nil))) (fun s H C cl fp => (dgn 5 hN)) stS_er (by decide) (fun s H C cl fp => dts_nil) (fun s H C cl fp => (de_slice (de_ix hu (dv 0) de_int (fun _ _ => rfl)) (do_some (de_op od_mul (dv 5) (de_ix hu (dv 0) de_int (fun _ _ => rfl)))) (do_some (de_op od_add (de_op od_mul (dv 5) (de_ix hu (dv 0) de_int (fun _ _ => rfl))) (dv 1)))))))))
    (dss_cons (ds_for hp hc (di_range1 rfl T.b_range (da_cons de_int da_nil) (hl := (len_cons len_nil))) (dgn 4 hN) stS_er (dss_one (dset 2 hN (de_op od_add (dv 2) (df_de (df_lc hc hN (own := [("shift", 6)]) (blkOk_by (by first | rfl | decide +kernel)) (di_range1 rfl T.b_range (da_cons (dv 1) da_nil) (hl := (len_cons len_nil))) (fun s H C cl fp => (dgn 6 hN)) stS_er (by decide) (fun s H C cl fp => dts_nil) (fun s H C cl fp => (dcall O__law_carried hgu (hr.mono (by decide)) rfl takes0 (da_cons (de_tup (da_cons (dv 1) (da_cons (de_ix hu (dv 0) de_int (fun _ _ => rfl)) (da_cons (dv 3) da_nil)))) (da_cons (de_tup (da_cons (dv 4) (da_cons (dv 6) da_nil))) da_nil)) (len_cons (len_cons len_nil))))))))))
    (dss_one (ds_ret (de_callB (cd_min hc hu) rfl T.b_min rfl (da_cons (dv 2) da_nil)))))))
def m__law_other : M Flow :=
  sq (asgM (tupM (consA (callIo 0 (fnM 4 m__law_digit) (consA (ret (.int 6)) (nilA))) (consA (bin D.ix (vr 1) (ret (.int 0))) (nilA)))) (gtM 2 (unp1 (stS 2) (unp1 (stS 3) unp0))))
    (sq (ifM (asB (bin D.eq (vr 2) (ret (.int 0)))) (rtM (callIo 0 (fnM 15 m__law_band) (consA (ret (.int 6)) (nilA)))) (ret .nx))
    (sq (asgM (callM (fnM 7 m__law_carried) (consA (vr 1) (consA (tupM (consA (callIo 0 (fnM 4 m__law_digit) (consA (ret (.int 4)) (nilA))) (consA (callIo 0 (fnM 4 m__law_digit) (consA (ret (.int 30)) (nilA))) (nilA)))) (nilA)))) (stS 4))
    (sq (ifM (asB (bin D.eq (vr 2) (ret (.int 1)))) (sq (asgM (callIo 0 (fnM 4 m__law_digit) (consA (appM D.len (consA (bin D.ix (vr 1) (ret (.int 2))) (nilA))) (nilA))) (stS 5))
    (asgM (tupM (consA (vr 3) (consA (bin D.ix (vr 1) (ret (.int 1))) (consA (bin D.add (bin D.add (sliceM (bin D.ix (vr 4) (ret (.int 2))) (ret none) (someI (vr 5))) (bin D.ix (ret (.str "abz")) (callIo 0 (fnM 4 m__law_digit) (consA (ret (.int 3)) (nilA))))) (sliceM (bin D.ix (vr 4) (ret (.int 2))) (someI (bin D.add (vr 5) (ret (.int 1)))) (ret none))) (nilA))))) (stS 4))) (ret .nx))
    (sq (ifM (asB (bin D.eq (vr 2) (ret (.int 2)))) (sq (asgM (strM D.join (ret (.str "")) (lcM [7] (rangeM (consA (bin D.ix (vr 1) (ret (.int 1))) (nilA))) (stS 7) (ret true) (bin D.mul (sliceM (bin D.ix (vr 4) (ret (.int 2))) (someI (bin D.mul (vr 7) (vr 3))) (someI (bin D.add (bin D.mul (vr 7) (vr 3)) (vr 3)))) (ret (.int 2))))) (stS 6))
    (asgM (tupM (consA (bin D.mul (ret (.int 2)) (vr 3)) (consA (bin D.ix (vr 1) (ret (.int 1))) (consA (vr 6) (nilA))))) (stS 4))) (ret .nx))
    (sq (ifM (asB (bin D.eq (vr 2) (ret (.int 3)))) (asgM (tupM (consA (vr 3) (consA (bin D.add (bin D.ix (vr 1) (ret (.int 1))) (ret (.int 1))) (consA (bin D.add (bin D.ix (vr 4) (ret (.int 2))) (sliceM (bin D.ix (vr 4) (ret (.int 2))) (ret none) (someI (vr 3)))) (nilA))))) (stS 4)) (ret .nx))
    (rtM (vr 4)))))))
theorem O__law_other (T : Txt K mg) : Ok P w K mg base 4 "_law_other" s__law_other ["state", "band"] (spF K mg 2 (fnM 8 m__law_other)) := by
  have O__law_carried := O__law_carried (P := P) (w := w) (base := base) T
  have O__law_digit := O__law_digit (P := P) (w := w) (base := base) T
  have O__law_band := O__law_band (P := P) (w := w) (base := base) T
  have S : FnScope ["state", "band", "way", "columns", "other", "at", "text", "y"] ["state", "band"] (defScope s__law_other) := ⟨rfl, rfl, rfl, by decide +kernel, rfl, by decide +kernel, by decide +kernel⟩
  refine ok_fn T.d__law_other S (by decide) (fun _ _ _ _ _ _ us hl => match us, hl with | [_, _], _ => rfl) fun f cdv A outer s H E hgu hr => ?_
  have hu := hu150 hr
  have hu1 := hu1_of hr
  have hN := S.nd
  have hc : (cxOf (L2.CX P w) P w K mg base ["state", "band", "way", "columns", "other", "at", "text", "y"] "_law_other" (defScope s__law_other) f cdv A outer s H E).calm = true := rfl
  have tk : Takes (cxOf (L2.CX P w) P w K mg base ["state", "band", "way", "columns", "other", "at", "text", "y"] "_law_other" (defScope s__law_other) f cdv A outer s H E) (WF E) := takes_of rfl rfl rfl rfl
  have hp : PassesOwn (model (cxOf (L2.CX P w) P w K mg base ["state", "band", "way", "columns", "other", "at", "text", "y"] "_law_other" (defScope s__law_other) f cdv A outer s H E).prog w) (cxOf (L2.CX P w) P w K mg base ["state", "band", "way", "columns", "other", "at", "text", "y"] "_law_other" (defScope s__law_other) f cdv A outer s H E).A (cxOf (L2.CX P w) P w K mg base ["state", "band", "way", "columns", "other", "at", "text", "y"] "_law_other" (defScope s__law_other) f cdv A outer s H E).env (cxOf (L2.CX P w) P w K mg base ["state", "band", "way", "columns", "other", "at", "text", "y"] "_law_other" (defScope s__law_other) f cdv A outer s H E).xe := passes_of rfl
  exact (dss_cons (ds_asg (de_tup (da_cons (dcallIo O__law_digit hgu (hr.mono (by decide)) rfl tk (pv 0) (da_cons de_int da_nil) (fun Γ ds Γ2 e => congrArg (· + 1) ((len_cons len_nil) Γ ds Γ2 e))) (da_cons (de_ix hu (dv 1) de_int (fun _ _ => rfl)) da_nil))) (dg_tup hc (dgs_cons (dgn 2 hN) (dgs_cons (dgn 3 hN) dgs_nil))) (gtM_er (unp1_er stS_er (unp1_er stS_er unp0_er))))
    (dss_cons (ds_if (dt_cmp (od_eq hu) (dv 2) de_int rfl) (dss_one (ds_ret (dcallIo O__law_band hgu (hr.mono (by decide)) rfl tk (pv 0) (da_cons de_int da_nil) (fun Γ ds Γ2 e => congrArg (· + 1) ((len_cons len_nil) Γ ds Γ2 e))))) dss_nil)
    (dss_cons (dset 4 hN (dcall O__law_carried hgu (hr.mono (by decide)) rfl tk (da_cons (dv 1) (da_cons (de_tup (da_cons (dcallIo O__law_digit hgu (hr.mono (by decide)) rfl tk (pv 0) (da_cons de_int da_nil) (fun Γ ds Γ2 e => congrArg (· + 1) ((len_cons len_nil) Γ ds Γ2 e))) (da_cons (dcallIo O__law_digit hgu (hr.mono (by decide)) rfl tk (pv 0) (da_cons de_int da_nil) (fun Γ ds Γ2 e => congrArg (· + 1) ((len_cons len_nil) Γ ds Γ2 e))) da_nil))) da_nil)) (len_cons (len_cons len_nil))))
    (dss_cons (ds_if (dt_cmp (od_eq hu) (dv 2) de_int rfl) (dss_cons (dset 5 hN (dcallIo O__law_digit hgu (hr.mono (by decide)) rfl tk (pv 0) (da_cons (de_callB cd_len rfl T.b_len rfl (da_cons (de_ix hu (dv 1) de_int (fun _ _ => rfl)) da_nil)) da_nil) (fun Γ ds Γ2 e => congrArg (· + 1) ((len_cons len_nil) Γ ds Γ2 e))))
    (dss_one (dset 4 hN (de_tup (da_cons (dv 3) (da_cons (de_ix hu (dv 1) de_int (fun _ _ => rfl)) (da_cons (de_op od_add (de_op od_add (de_slice (de_ix hu (dv 4) de_int (fun _ _ => rfl)) do_none (do_some (dv 5))) (de_ix hu de_str (dcallIo O__law_digit hgu (hr.mono (by decide)) rfl tk (pv 0) (da_cons de_int da_nil) (fun Γ ds Γ2 e => congrArg (· + 1) ((len_cons len_nil) Γ ds Γ2 e))) (fun _ _ => rfl))) (de_slice (de_ix hu (dv 4) de_int (fun _ _ => rfl)) (do_some (de_op od_add (dv 5) de_int)) do_none)) da_nil))))))) dss_nil)
    (dss_cons (ds_if (dt_cmp (od_eq hu) (dv 2) de_int rfl) (dss_cons (dset 6 hN (de_join de_str (df_de (df_lc hc hN (own := [("y", 7)]) (blkOk_by (by first | rfl | decide +kernel)) (di_range1 rfl T.b_range (da_cons (de_ix hu (dv 1) de_int (fun _ _ => rfl)) da_nil) (hl := (len_cons len_nil))) (fun s H C cl fp => (dgn 7 hN)) stS_er (by decide) (fun s H C cl fp => dts_nil) (fun s H C cl fp => (de_op od_mul (de_slice (de_ix hu (dv 4) de_int (fun _ _ => rfl)) (do_some (de_op od_mul (dv 7) (dv 3))) (do_some (de_op od_add (de_op od_mul (dv 7) (dv 3)) (dv 3)))) de_int))))))
    (dss_one (dset 4 hN (de_tup (da_cons (de_op od_mul de_int (dv 3)) (da_cons (de_ix hu (dv 1) de_int (fun _ _ => rfl)) (da_cons (dv 6) da_nil))))))) dss_nil)
    (dss_cons (ds_if (dt_cmp (od_eq hu) (dv 2) de_int rfl) (dss_one (dset 4 hN (de_tup (da_cons (dv 3) (da_cons (de_op od_add (de_ix hu (dv 1) de_int (fun _ _ => rfl)) de_int) (da_cons (de_op od_add (de_ix hu (dv 4) de_int (fun _ _ => rfl)) (de_slice (de_ix hu (dv 4) de_int (fun _ _ => rfl)) do_none (do_some (dv 3)))) da_nil)))))) dss_nil)
    (dss_one (ds_ret (dv 4)))))))))
def m__law_first_motion : M Flow :=
  sq (forM (rangeM (consA (ret (.int 4)) (nilA))) (stS 2) (forM (rangeM (consA (bin D.ix (vr 0) (ret (.int 0))) (nilA))) (stS 3) (ifM (asB (callM (fnM 7 m__law_leads) (consA (vr 0) (consA (vr 1) (consA (tupM (consA (vr 2) (consA (vr 3) (nilA)))) (nilA)))))) (rtM (ret (.bl true))) (ret .nx))))
    (rtM (ret (.bl false)))
theorem O__law_first_motion (T : Txt K mg) : Ok P w K mg base 3 "_law_first_motion" s__law_first_motion ["one", "other"] (spF K mg 2 (fnM 4 m__law_first_motion)) := by
  have O__law_leads := O__law_leads (P := P) (w := w) (base := base) T
  have S : FnScope ["one", "other", "kind", "shift"] ["one", "other"] (defScope s__law_first_motion) := ⟨rfl, rfl, rfl, by decide +kernel, rfl, by decide +kernel, by decide +kernel⟩
  refine ok_fn T.d__law_first_motion S (by decide) (fun _ _ _ _ _ _ us hl => match us, hl with | [_, _], _ => rfl) fun f cdv A outer s H E hgu hr => ?_
  have hu := hu150 hr
  have hu1 := hu1_of hr
  have hN := S.nd
  have hc : (cxOf (L2.CX P w) P w K mg base ["one", "other", "kind", "shift"] "_law_first_motion" (defScope s__law_first_motion) f cdv A outer s H E).calm = true := rfl
  have tk : Takes (cxOf (L2.CX P w) P w K mg base ["one", "other", "kind", "shift"] "_law_first_motion" (defScope s__law_first_motion) f cdv A outer s H E) (WF E) := takes_of rfl rfl rfl rfl
  have hp : PassesOwn (model (cxOf (L2.CX P w) P w K mg base ["one", "other", "kind", "shift"] "_law_first_motion" (defScope s__law_first_motion) f cdv A outer s H E).prog w) (cxOf (L2.CX P w) P w K mg base ["one", "other", "kind", "shift"] "_law_first_motion" (defScope s__law_first_motion) f cdv A outer s H E).A (cxOf (L2.CX P w) P w K mg base ["one", "other", "kind", "shift"] "_law_first_motion" (defScope s__law_first_motion) f cdv A outer s H E).env (cxOf (L2.CX P w) P w K mg base ["one", "other", "kind", "shift"] "_law_first_motion" (defScope s__law_first_motion) f cdv A outer s H E).xe := passes_of rfl
  exact (dss_cons (ds_for hp hc (di_range1 rfl T.b_range (da_cons de_int da_nil) (hl := (len_cons len_nil))) (dgn 2 hN) stS_er (dss_one (ds_for hp hc (di_range1 rfl T.b_range (da_cons (de_ix hu (dv 0) de_int (fun _ _ => rfl)) da_nil) (hl := (len_cons len_nil))) (dgn 3 hN) stS_er (dss_one (ds_if (dt_val (dcall O__law_leads hgu (hr.mono (by decide)) rfl tk (da_cons (dv 0) (da_cons (dv 1) (da_cons (de_tup (da_cons (dv 2) (da_cons (dv 3) da_nil))) da_nil))) (len_cons (len_cons (len_cons len_nil))))) (dss_one (ds_ret de_bl)) dss_nil)))))
    (dss_one (ds_ret de_bl)))
def m__law_parting : M Flow :=
  sq (forM (rangeM (consA (bin D.ix (vr 0) (ret (.int 1))) (nilA))) (stS 2) (forM (rangeM (consA (bin D.mul (bin D.ix (vr 0) (ret (.int 0))) (bin D.ix (vr 1) (ret (.int 0)))) (nilA))) (stS 3) (ifM (asB (bin D.ne (callM (fnM 3 m__law_hue) (consA (vr 0) (consA (vr 3) (consA (vr 2) (nilA))))) (callM (fnM 3 m__law_hue) (consA (vr 1) (consA (vr 3) (consA (vr 2) (nilA))))))) (rtM (tupM (consA (vr 3) (consA (vr 2) (nilA))))) (ret .nx))))
    (rtM (ret .non))
theorem O__law_parting (T : Txt K mg) : Ok P w K mg base 2 "_law_parting" s__law_parting ["one", "other"] (spF K mg 2 (fnM 4 m__law_parting)) := by
  have O__law_hue := O__law_hue (P := P) (w := w) (base := base) T
  have S : FnScope ["one", "other", "y", "x"] ["one", "other"] (defScope s__law_parting) := ⟨rfl, rfl, rfl, by decide +kernel, rfl, by decide +kernel, by decide +kernel⟩
  refine ok_fn T.d__law_parting S (by decide) (fun _ _ _ _ _ _ us hl => match us, hl with | [_, _], _ => rfl) fun f cdv A outer s H E hgu hr => ?_
  have hu := hu150 hr
  have hu1 := hu1_of hr
  have hN := S.nd
  have hc : (cxOf (L2.CX P w) P w K mg base ["one", "other", "y", "x"] "_law_parting" (defScope s__law_parting) f cdv A outer s H E).calm = true := rfl
  have tk : Takes (cxOf (L2.CX P w) P w K mg base ["one", "other", "y", "x"] "_law_parting" (defScope s__law_parting) f cdv A outer s H E) (WF E) := takes_of rfl rfl rfl rfl
  have hp : PassesOwn (model (cxOf (L2.CX P w) P w K mg base ["one", "other", "y", "x"] "_law_parting" (defScope s__law_parting) f cdv A outer s H E).prog w) (cxOf (L2.CX P w) P w K mg base ["one", "other", "y", "x"] "_law_parting" (defScope s__law_parting) f cdv A outer s H E).A (cxOf (L2.CX P w) P w K mg base ["one", "other", "y", "x"] "_law_parting" (defScope s__law_parting) f cdv A outer s H E).env (cxOf (L2.CX P w) P w K mg base ["one", "other", "y", "x"] "_law_parting" (defScope s__law_parting) f cdv A outer s H E).xe := passes_of rfl
  exact (dss_cons (ds_for hp hc (di_range1 rfl T.b_range (da_cons (de_ix hu (dv 0) de_int (fun _ _ => rfl)) da_nil) (hl := (len_cons len_nil))) (dgn 2 hN) stS_er (dss_one (ds_for hp hc (di_range1 rfl T.b_range (da_cons (de_op od_mul (de_ix hu (dv 0) de_int (fun _ _ => rfl)) (de_ix hu (dv 1) de_int (fun _ _ => rfl))) da_nil) (hl := (len_cons len_nil))) (dgn 3 hN) stS_er (dss_one (ds_if (dt_cmp (od_ne hu) (dcall O__law_hue hgu (hr.mono (by decide)) rfl tk (da_cons (dv 0) (da_cons (dv 3) (da_cons (dv 2) da_nil))) (len_cons (len_cons (len_cons len_nil)))) (dcall O__law_hue hgu (hr.mono (by decide)) rfl tk (da_cons (dv 1) (da_cons (dv 3) (da_cons (dv 2) da_nil))) (len_cons (len_cons (len_cons len_nil)))) rfl) (dss_one (ds_ret (de_tup (da_cons (dv 3) (da_cons (dv 2) da_nil))))) dss_nil)))))
    (dss_one (ds_ret de_non)))
def m__law_pair_right : M Flow :=
  sq (par2 false false 2 3 (callM (fnM 4 m__law_first_motion) (consA (vr 0) (consA (vr 1) (nilA)))) (callM (fnM 4 m_carrier_between) (permA (permI [1, 0]) (consA (vr 1) (consA (vr 0) (nilA))))))
    (sq (ifM (orM (asB (bin D.ne (vr 2) (bin D.isntN (vr 3) (ret .non)))) (andM (asB (vr 2)) (notM (asB (callM (fnM 7 m__law_leads) (consA (vr 0) (consA (vr 1) (consA (vr 3) (nilA))))))))) (rtM (ret (.bl false))) (ret .nx))
    (sq (ifM (orM (andM (asB (vr 2)) (asB (bin D.isntN (callM (fnM 1 m_need_band_motion) (consA (vr 3) (nilA))) (ret .non)))) (asB (bin D.isntN (callM (fnM 1 m_need_band_motion) (consA (callM (fnM 1 m_form_motion) (consA (vr 0) (nilA))) (nilA))) (ret .non)))) (rtM (ret (.bl false))) (ret .nx))
    (sq (ifM (asB (bin D.ne (bin D.ix (vr 0) (ret (.int 1))) (bin D.ix (vr 1) (ret (.int 1))))) (sq (asgM (tupM (nilA)) (stS 5))
    (sq (tryM 6 (clB "NoSuch") (asgM (callM (fnM 6 m_parting_cell) (consA (vr 0) (consA (vr 1) (nilA)))) (stS 5)) (fun x => asgM (tupM (consA (ret (.str "none")) (consA (attM "NoSuch" "value" x) nilA))) (stS 5)))
    (rtM (bin D.eq (vr 5) (tupM (consA (ret (.str "none")) (consA (ret (.str "rows")) (nilA)))))))) (ret .nx))
    (sq (asgM (callM (fnM 4 m__law_parting) (consA (callM (fnM 7 m__law_form) (consA (vr 0) (nilA))) (consA (callM (fnM 7 m__law_form) (consA (vr 1) (nilA))) (nilA)))) (stS 4))
    (rtM (andV (bin D.eq (appM D.repr (consA (callM (fnM 6 m_parting_cell) (permA (permI [1, 0]) (consA (vr 1) (consA (vr 0) (nilA))))) (nilA))) (appM D.repr (consA (vr 4) (nilA)))) (bin D.eq (bin D.isN (vr 4) (ret .non)) (vr 2))))))))
theorem O__law_pair_right (T : Txt K mg) : Ok P w K mg base 6 "_law_pair_right" s__law_pair_right ["one", "other"] (spF K mg 2 (fnM 7 m__law_pair_right)) := by
  have O__law_parting := O__law_parting (P := P) (w := w) (base := base) T
  have O__law_first_motion := O__law_first_motion (P := P) (w := w) (base := base) T
  have O_carrier_between := O_carrier_between (P := P) (w := w) (base := base) T
  have O__law_form := O__law_form (P := P) (w := w) (base := base) T
  have O_need_band_motion := O_need_band_motion (P := P) (w := w) (base := base) T
  have O_parting_cell := O_parting_cell (P := P) (w := w) (base := base) T
  have O__law_leads := O__law_leads (P := P) (w := w) (base := base) T
  have O_form_motion := O_form_motion (P := P) (w := w) (base := base) T
  have E_NoSuch := exo_NoSuch (P := P) (w := w) (base := base) T
  have S : FnScope ["one", "other", "is_there", "told", "due", "found", "error"] ["one", "other"] (defScope s__law_pair_right) := ⟨rfl, rfl, rfl, by decide +kernel, rfl, by decide +kernel, by decide +kernel⟩
  refine ok_fn T.d__law_pair_right S (by decide) (fun _ _ _ _ _ _ us hl => match us, hl with | [_, _], _ => rfl) fun f cdv A outer s H E hgu hr => ?_
  have hu := hu150 hr
  have hu1 := hu1_of hr
  have hN := S.nd
  have hc : (cxOf (L2.CX P w) P w K mg base ["one", "other", "is_there", "told", "due", "found", "error"] "_law_pair_right" (defScope s__law_pair_right) f cdv A outer s H E).calm = true := rfl
  have tk : Takes (cxOf (L2.CX P w) P w K mg base ["one", "other", "is_there", "told", "due", "found", "error"] "_law_pair_right" (defScope s__law_pair_right) f cdv A outer s H E) (WF E) := takes_of rfl rfl rfl rfl
  have hp : PassesOwn (model (cxOf (L2.CX P w) P w K mg base ["one", "other", "is_there", "told", "due", "found", "error"] "_law_pair_right" (defScope s__law_pair_right) f cdv A outer s H E).prog w) (cxOf (L2.CX P w) P w K mg base ["one", "other", "is_there", "told", "due", "found", "error"] "_law_pair_right" (defScope s__law_pair_right) f cdv A outer s H E).A (cxOf (L2.CX P w) P w K mg base ["one", "other", "is_there", "told", "due", "found", "error"] "_law_pair_right" (defScope s__law_pair_right) f cdv A outer s H E).env (cxOf (L2.CX P w) P w K mg base ["one", "other", "is_there", "told", "due", "found", "error"] "_law_pair_right" (defScope s__law_pair_right) f cdv A outer s H E).xe := passes_of rfl
  exact (dss_cons (dpar2 2 3 hc hN (dx_sh (dcall O__law_first_motion hgu (hr.mono (by decide)) rfl tk (da_cons (dv 0) (da_cons (dv 1) da_nil)) (len_cons (len_cons len_nil)))) (dx_sh (dcallK (ks := ["other", "one"]) [1, 0] O_carrier_between (by simp) (fun _ _ _ _ _ _ ws hl => match ws, hl with | [_, _], _ => rfl) hgu (hr.mono (by decide)) rfl tk (dk_cons (dv 1) (dk_cons (dv 0) dk_nil)) (len_cons (len_cons len_nil)) (fun ds hl => match ds, hl with | [_, _], _ => rfl))) (by decide))
    (dss_cons (ds_if (dw_pt (dw_or (dt_cmp (od_ne hu) (dv 2) (de_cmp od_isntN (dv 3) de_non rfl) rfl) (dw_or1 (dw_pt (dw_and (dt_val (dv 2)) (dw_and1 (dt_not (dt_val (dcall O__law_leads hgu (hr.mono (by decide)) rfl tk (da_cons (dv 0) (da_cons (dv 1) (da_cons (dv 3) da_nil))) (len_cons (len_cons (len_cons len_nil)))))))))))) (dss_one (ds_ret de_bl)) dss_nil)
    (dss_cons (ds_if (dw_pt (dw_or (dw_pt (dw_and (dt_val (dv 2)) (dw_and1 (dt_cmp od_isntN (dcall O_need_band_motion hgu (hr.mono (by decide)) rfl tk (da_cons (dv 3) da_nil) (len_cons len_nil)) de_non rfl)))) (dw_or1 (dt_cmp od_isntN (dcall O_need_band_motion hgu (hr.mono (by decide)) rfl tk (da_cons (dcall O_form_motion hgu (hr.mono (by decide)) rfl tk (da_cons (dv 0) da_nil) (len_cons len_nil)) da_nil) (len_cons len_nil)) de_non rfl)))) (dss_one (ds_ret de_bl)) dss_nil)
    (dss_cons (ds_if (dt_cmp (od_ne hu) (de_ix hu (dv 0) de_int (fun _ _ => rfl)) (de_ix hu (dv 1) de_int (fun _ _ => rfl)) rfl) (dss_cons (dset 5 hN (de_tup da_nil))
    (dss_cons (dtry E_NoSuch (clB "NoSuch") hN tk rfl (clB_ok E_NoSuch) (fun W2 pn xe tk2 hp2 => (dss_one (dset 5 hN (dcall O_parting_cell hgu (hr.mono (by decide)) rfl tk2 (da_cons (dv 0) (da_cons (dv 1) da_nil)) (len_cons (len_cons len_nil)))))) (fun C hC hX hF x a oe cls d pn hz hf => (dsxset 5 hN (dex_tup2 de_str (dex_att hX hF hC hz hf (pv 6))))))
    (dss_one (ds_ret (de_cmp (od_eq hu) (dv 5) (de_tup (da_cons de_str (da_cons de_str da_nil))) rfl))))) dss_nil)
    (dss_cons (dset 4 hN (dcall O__law_parting hgu (hr.mono (by decide)) rfl tk (da_cons (dcall O__law_form hgu (hr.mono (by decide)) rfl tk (da_cons (dv 0) da_nil) (len_cons len_nil)) (da_cons (dcall O__law_form hgu (hr.mono (by decide)) rfl tk (da_cons (dv 1) da_nil) (len_cons len_nil)) da_nil)) (len_cons (len_cons len_nil))))
    (dss_one (ds_ret (de_and (de_cmp (od_eq hu) (de_callB (cd_repr hgu hu) rfl T.b_repr rfl (da_cons (dcallK (ks := ["other", "one"]) [1, 0] O_parting_cell (by simp) (fun _ _ _ _ _ _ ws hl => match ws, hl with | [_, _], _ => rfl) hgu (hr.mono (by decide)) rfl tk (dk_cons (dv 1) (dk_cons (dv 0) dk_nil)) (len_cons (len_cons len_nil)) (fun ds hl => match ds, hl with | [_, _], _ => rfl)) da_nil)) (de_callB (cd_repr hgu hu) rfl T.b_repr rfl (da_cons (dv 4) da_nil)) rfl) (de_one (de_cmp (od_eq hu) (de_cmp od_isN (dv 4) de_non rfl) (dv 2) rfl))))))))))
def m__law_read : M Flow :=
  sq (asgM (tupM (nilA)) (stS 1))
    (sq (tryM 2 (clB "BadText") (asgM (callM (fnM 6 m_read_band) (permA (permI [0]) (consA (vr 0) (nilA)))) (stS 1)) (fun x => asgM (tupM (consA (ret (.str "text")) (consA (attM "BadText" "place" x) nilA))) (stS 1)))
    (rtM (vr 1)))
theorem O__law_read (T : Txt K mg) : Ok P w K mg base 4 "_law_read" s__law_read ["text"] (spF K mg 1 (fnM 3 m__law_read)) := by
  have O_read_band := O_read_band (P := P) (w := w) (base := base) T
  have E_BadText := exo_BadText (P := P) (w := w) (base := base) T
  have S : FnScope ["text", "found", "error"] ["text"] (defScope s__law_read) := ⟨rfl, rfl, rfl, by decide +kernel, rfl, by decide +kernel, by decide +kernel⟩
  refine ok_fn T.d__law_read S (by decide) (fun _ _ _ _ _ _ us hl => match us, hl with | [_], _ => rfl) fun f cdv A outer s H E hgu hr => ?_
  have hu := hu150 hr
  have hu1 := hu1_of hr
  have hN := S.nd
  have hc : (cxOf (L2.CX P w) P w K mg base ["text", "found", "error"] "_law_read" (defScope s__law_read) f cdv A outer s H E).calm = true := rfl
  have tk : Takes (cxOf (L2.CX P w) P w K mg base ["text", "found", "error"] "_law_read" (defScope s__law_read) f cdv A outer s H E) (WF E) := takes_of rfl rfl rfl rfl
  have hp : PassesOwn (model (cxOf (L2.CX P w) P w K mg base ["text", "found", "error"] "_law_read" (defScope s__law_read) f cdv A outer s H E).prog w) (cxOf (L2.CX P w) P w K mg base ["text", "found", "error"] "_law_read" (defScope s__law_read) f cdv A outer s H E).A (cxOf (L2.CX P w) P w K mg base ["text", "found", "error"] "_law_read" (defScope s__law_read) f cdv A outer s H E).env (cxOf (L2.CX P w) P w K mg base ["text", "found", "error"] "_law_read" (defScope s__law_read) f cdv A outer s H E).xe := passes_of rfl
  exact (dss_cons (dset 1 hN (de_tup da_nil))
    (dss_cons (dtry E_BadText (clB "BadText") hN tk rfl (clB_ok E_BadText) (fun W2 pn xe tk2 hp2 => (dss_one (dset 1 hN (dcallK (ks := ["text"]) [0] O_read_band (by simp) (fun _ _ _ _ _ _ ws hl => match ws, hl with | [_], _ => rfl) hgu (hr.mono (by decide)) rfl tk2 (dk_cons (dv 0) dk_nil) (len_cons len_nil) (fun ds hl => match ds, hl with | [_], _ => rfl))))) (fun C hC hX hF x a oe cls d pn hz hf => (dsxset 1 hN (dex_tup2 de_str (dex_att hX hF hC hz hf (pv 2))))))
    (dss_one (ds_ret (dv 1)))))
def m__law_due : M Flow :=
  sq (asgM (strM D.split (vr 0) (ret (.str "\n"))) (stS 1))
    (sq (ifM (orM (asB (bin D.ne (bin D.ix (vr 1) (revM D.neg (ret (.int 1)))) (ret (.str "")))) (notM (asB (chainM D.le D.le (ret (.int 1)) (bin D.sub (appM D.len (consA (vr 1) (nilA))) (ret (.int 1))) (ret (.int 1000)))))) (rtM (tupM (consA (ret (.str "text")) (consA (ret (.str "lines")) (nilA))))) (ret .nx))
    (sq (forM (enumM (sliceM (vr 1) (ret none) (someI (revM D.neg (ret (.int 1)))))) (gtM 2 (unp1 (stS 2) (unp1 (stS 3) unp0))) (ifM (orM (asB (bin D.eq (vr 3) (ret (.str "")))) (orM (asB (bin D.ne (appM D.len (consA (vr 3) (nilA))) (appM D.len (consA (bin D.ix (vr 1) (ret (.int 0))) (nilA))))) (asB (bin D.ne (lcM [4] (seqM (vr 3)) (stS 4) (notM (asB (chainM D.le D.le (ret (.str "a")) (vr 4) (ret (.str "z"))))) (vr 4)) (lstM (nilA)))))) (rtM (tupM (consA (ret (.str "text")) (consA (vr 2) (nilA))))) (ret .nx)))
    (sq (ifM (asB (bin D.gt (bin D.mul (bin D.sub (appM D.len (consA (vr 1) (nilA))) (ret (.int 1))) (appM D.len (consA (bin D.ix (vr 1) (ret (.int 0))) (nilA)))) (ret (.int 1000)))) (rtM (tupM (consA (ret (.str "text")) (consA (ret (.str "size")) (nilA))))) (ret .nx))
    (rtM (tupM (consA (appM D.len (consA (bin D.ix (vr 1) (ret (.int 0))) (nilA))) (consA (bin D.sub (appM D.len (consA (vr 1) (nilA))) (ret (.int 1))) (consA (strM D.join (ret (.str "")) (revM D.revL (sliceM (vr 1) (ret none) (someI (revM D.neg (ret (.int 1))))))) (nilA)))))))))
theorem O__law_due (T : Txt K mg) : Ok P w K mg base 1 "_law_due" s__law_due ["text"] (spF K mg 1 (fnM 5 m__law_due)) := by
  have S : FnScope ["text", "lines", "at", "line", "sign"] ["text"] (defScope s__law_due) := ⟨rfl, rfl, rfl, by decide +kernel, rfl, by decide +kernel, by decide +kernel⟩
  refine ok_fn T.d__law_due S (by decide) (fun _ _ _ _ _ _ us hl => match us, hl with | [_], _ => rfl) fun f cdv A outer s H E hgu hr => ?_
  have hu := hu150 hr
  have hu1 := hu1_of hr
  have hN := S.nd
  have hc : (cxOf (L2.CX P w) P w K mg base ["text", "lines", "at", "line", "sign"] "_law_due" (defScope s__law_due) f cdv A outer s H E).calm = true := rfl
  have tk : Takes (cxOf (L2.CX P w) P w K mg base ["text", "lines", "at", "line", "sign"] "_law_due" (defScope s__law_due) f cdv A outer s H E) (WF E) := takes_of rfl rfl rfl rfl
  have hp : PassesOwn (model (cxOf (L2.CX P w) P w K mg base ["text", "lines", "at", "line", "sign"] "_law_due" (defScope s__law_due) f cdv A outer s H E).prog w) (cxOf (L2.CX P w) P w K mg base ["text", "lines", "at", "line", "sign"] "_law_due" (defScope s__law_due) f cdv A outer s H E).A (cxOf (L2.CX P w) P w K mg base ["text", "lines", "at", "line", "sign"] "_law_due" (defScope s__law_due) f cdv A outer s H E).env (cxOf (L2.CX P w) P w K mg base ["text", "lines", "at", "line", "sign"] "_law_due" (defScope s__law_due) f cdv A outer s H E).xe := passes_of rfl
  exact (dss_cons (dset 1 hN (de_split (dv 0) de_str))
    (dss_cons (ds_if (dw_pt (dw_or (dt_cmp (od_ne hu) (de_ix hu (dv 1) (de_neg de_int) (fun _ _ => rfl)) de_str rfl) (dw_or1 (dt_not (dt_chain (od_le hu) (od_le hu) de_int (de_op od_sub (de_callB cd_len rfl T.b_len rfl (da_cons (dv 1) da_nil)) de_int) de_int))))) (dss_one (ds_ret (de_tup (da_cons de_str (da_cons de_str da_nil))))) dss_nil)
    (dss_cons (ds_for hp hc (di_enum rfl T.b_enumerate (de_slice (dv 1) do_none (do_some (de_neg de_int)))) (dg_tup hc (dgs_cons (dgn 2 hN) (dgs_cons (dgn 3 hN) dgs_nil))) (gtM_er (unp1_er stS_er (unp1_er stS_er unp0_er))) (dss_one (ds_if (dw_pt (dw_or (dt_cmp (od_eq hu) (dv 3) de_str rfl) (dw_or (dt_cmp (od_ne hu) (de_callB cd_len rfl T.b_len rfl (da_cons (dv 3) da_nil)) (de_callB cd_len rfl T.b_len rfl (da_cons (de_ix hu (dv 1) de_int (fun _ _ => rfl)) da_nil)) rfl) (dw_or1 (dt_cmp (od_ne hu) (df_de (df_lc hc hN (own := [("sign", 4)]) (blkOk_by (by first | rfl | decide +kernel)) (di_seq (dv 3)) (fun s H C cl fp => (dgn 4 hN)) stS_er (by decide) (fun s H C cl fp => (dts_one (dt_not (dt_chain (od_le hu) (od_le hu) de_str (dv 4) de_str)))) (fun s H C cl fp => (dv 4)))) (de_lst da_nil) rfl))))) (dss_one (ds_ret (de_tup (da_cons de_str (da_cons (dv 2) da_nil))))) dss_nil)))
    (dss_cons (ds_if (dt_cmp (od_gt hu) (de_op od_mul (de_op od_sub (de_callB cd_len rfl T.b_len rfl (da_cons (dv 1) da_nil)) de_int) (de_callB cd_len rfl T.b_len rfl (da_cons (de_ix hu (dv 1) de_int (fun _ _ => rfl)) da_nil))) de_int rfl) (dss_one (ds_ret (de_tup (da_cons de_str (da_cons de_str da_nil))))) dss_nil)
    (dss_one (ds_ret (de_tup (da_cons (de_callB cd_len rfl T.b_len rfl (da_cons (de_ix hu (dv 1) de_int (fun _ _ => rfl)) da_nil)) (da_cons (de_op od_sub (de_callB cd_len rfl T.b_len rfl (da_cons (dv 1) da_nil)) de_int) (da_cons (de_join de_str (de_revL (de_slice (dv 1) do_none (do_some (de_neg de_int))))) da_nil))))))))))
def m__law_texts_right : M Flow :=
  sq (asgM (vr 1) (gtM 3 (unp1 (stS 2) (unp1 (stS 3) (unp1 (stS 4) unp0)))))
    (sq (asgM (ret (.str "")) (stS 5))
    (sq (forM (rangeM (consA (vr 3) (nilA))) (stS 6) (asgM (bin D.add (bin D.add (sliceM (vr 4) (someI (bin D.mul (vr 6) (vr 2))) (someI (bin D.add (bin D.mul (vr 6) (vr 2)) (vr 2)))) (ret (.str "\n"))) (vr 5)) (stS 5)))
    (sq (ifM (orM (asB (bin D.ne (callM (fnM 7 m_band_text) (permA (permI [0]) (consA (vr 1) (nilA)))) (vr 5))) (asB (bin D.ne (callM (fnM 3 m__law_read) (consA (vr 5) (nilA))) (vr 1)))) (rtM (ret (.bl false))) (ret .nx))
    (sq (forM (rangeM (consA (ret (.int 6)) (nilA))) (stS 7) (sq (par2 false false 8 9 (callIo 0 (fnM 4 m__law_digit) (consA (bin D.add (appM D.len (consA (vr 5) (nilA))) (ret (.int 1))) (nilA))) (bin D.ix (ret (.str "\nazA 0b~")) (callIo 0 (fnM 4 m__law_digit) (consA (ret (.int 8)) (nilA)))))
    (forM (seqM (tupM (consA (sliceM (vr 5) (ret none) (someI (vr 8))) (consA (bin D.add (bin D.add (sliceM (vr 5) (ret none) (someI (vr 8))) (vr 9)) (sliceM (vr 5) (someI (vr 8)) (ret none))) (consA (bin D.add (sliceM (vr 5) (ret none) (someI (vr 8))) (sliceM (vr 5) (someI (bin D.add (vr 8) (ret (.int 1)))) (ret none))) (consA (bin D.add (bin D.add (sliceM (vr 5) (ret none) (someI (vr 8))) (vr 9)) (sliceM (vr 5) (someI (bin D.add (vr 8) (ret (.int 1)))) (ret none))) (nilA))))))) (stS 10) (ifM (asB (bin D.ne (appM D.repr (consA (callM (fnM 3 m__law_read) (consA (vr 10) (nilA))) (nilA))) (appM D.repr (consA (callM (fnM 5 m__law_due) (consA (vr 10) (nilA))) (nilA))))) (rtM (ret (.bl false))) (ret .nx)))))
    (rtM (ret (.bl true)))))))
theorem O__law_texts_right (T : Txt K mg) : Ok P w K mg base 5 "_law_texts_right" s__law_texts_right ["state", "band"] (spF K mg 2 (fnM 11 m__law_texts_right)) := by
  have O_band_text := O_band_text (P := P) (w := w) (base := base) T
  have O__law_read := O__law_read (P := P) (w := w) (base := base) T
  have O__law_digit := O__law_digit (P := P) (w := w) (base := base) T
  have O__law_due := O__law_due (P := P) (w := w) (base := base) T
  have S : FnScope ["state", "band", "columns", "rows", "colours", "text", "y", "turn", "spot", "sign", "some"] ["state", "band"] (defScope s__law_texts_right) := ⟨rfl, rfl, rfl, by decide +kernel, rfl, by decide +kernel, by decide +kernel⟩
  refine ok_fn T.d__law_texts_right S (by decide) (fun _ _ _ _ _ _ us hl => match us, hl with | [_, _], _ => rfl) fun f cdv A outer s H E hgu hr => ?_
  have hu := hu150 hr
  have hu1 := hu1_of hr
  have hN := S.nd
  have hc : (cxOf (L2.CX P w) P w K mg base ["state", "band", "columns", "rows", "colours", "text", "y", "turn", "spot", "sign", "some"] "_law_texts_right" (defScope s__law_texts_right) f cdv A outer s H E).calm = true := rfl
  have tk : Takes (cxOf (L2.CX P w) P w K mg base ["state", "band", "columns", "rows", "colours", "text", "y", "turn", "spot", "sign", "some"] "_law_texts_right" (defScope s__law_texts_right) f cdv A outer s H E) (WF E) := takes_of rfl rfl rfl rfl
  have hp : PassesOwn (model (cxOf (L2.CX P w) P w K mg base ["state", "band", "columns", "rows", "colours", "text", "y", "turn", "spot", "sign", "some"] "_law_texts_right" (defScope s__law_texts_right) f cdv A outer s H E).prog w) (cxOf (L2.CX P w) P w K mg base ["state", "band", "columns", "rows", "colours", "text", "y", "turn", "spot", "sign", "some"] "_law_texts_right" (defScope s__law_texts_right) f cdv A outer s H E).A (cxOf (L2.CX P w) P w K mg base ["state", "band", "columns", "rows", "colours", "text", "y", "turn", "spot", "sign", "some"] "_law_texts_right" (defScope s__law_texts_right) f cdv A outer s H E).env (cxOf (L2.CX P w) P w K mg base ["state", "band", "columns", "rows", "colours", "text", "y", "turn", "spot", "sign", "some"] "_law_texts_right" (defScope s__law_texts_right) f cdv A outer s H E).xe := passes_of rfl
  exact (dss_cons (ds_asg (dv 1) (dg_tup hc (dgs_cons (dgn 2 hN) (dgs_cons (dgn 3 hN) (dgs_cons (dgn 4 hN) dgs_nil)))) (gtM_er (unp1_er stS_er (unp1_er stS_er (unp1_er stS_er unp0_er)))))
    (dss_cons (dset 5 hN de_str)
    (dss_cons (ds_for hp hc (di_range1 rfl T.b_range (da_cons (dv 3) da_nil) (hl := (len_cons len_nil))) (dgn 6 hN) stS_er (dss_one (dset 5 hN (de_op od_add (de_op od_add (de_slice (dv 4) (do_some (de_op od_mul (dv 6) (dv 2))) (do_some (de_op od_add (de_op od_mul (dv 6) (dv 2)) (dv 2)))) de_str) (dv 5)))))
    (dss_cons (ds_if (dw_pt (dw_or (dt_cmp (od_ne hu) (dcallK (ks := ["band"]) [0] O_band_text (by simp) (fun _ _ _ _ _ _ ws hl => match ws, hl with | [_], _ => rfl) hgu (hr.mono (by decide)) rfl tk (dk_cons (dv 1) dk_nil) (len_cons len_nil) (fun ds hl => match ds, hl with | [_], _ => rfl)) (dv 5) rfl) (dw_or1 (dt_cmp (od_ne hu) (dcall O__law_read hgu (hr.mono (by decide)) rfl tk (da_cons (dv 5) da_nil) (len_cons len_nil)) (dv 1) rfl)))) (dss_one (ds_ret de_bl)) dss_nil)
    (dss_cons (ds_for hp hc (di_range1 rfl T.b_range (da_cons de_int da_nil) (hl := (len_cons len_nil))) (dgn 7 hN) stS_er (dss_cons (dpar2 8 9 hc hN (dx_sh (dcallIo O__law_digit hgu (hr.mono (by decide)) rfl tk (pv 0) (da_cons (de_op od_add (de_callB cd_len rfl T.b_len rfl (da_cons (dv 5) da_nil)) de_int) da_nil) (fun Γ ds Γ2 e => congrArg (· + 1) ((len_cons len_nil) Γ ds Γ2 e)))) (dx_sh (de_ix hu de_str (dcallIo O__law_digit hgu (hr.mono (by decide)) rfl tk (pv 0) (da_cons de_int da_nil) (fun Γ ds Γ2 e => congrArg (· + 1) ((len_cons len_nil) Γ ds Γ2 e))) (fun _ _ => rfl))) (by decide))
    (dss_one (ds_for hp hc (di_seq (de_tup (da_cons (de_slice (dv 5) do_none (do_some (dv 8))) (da_cons (de_op od_add (de_op od_add (de_slice (dv 5) do_none (do_some (dv 8))) (dv 9)) (de_slice (dv 5) (do_some (dv 8)) do_none)) (da_cons (de_op od_add (de_slice (dv 5) do_none (do_some (dv 8))) (de_slice (dv 5) (do_some (de_op od_add (dv 8) de_int)) do_none)) (da_cons (de_op od_add (de_op od_add (de_slice (dv 5) do_none (do_some (dv 8))) (dv 9)) (de_slice (dv 5) (do_some (de_op od_add (dv 8) de_int)) do_none)) da_nil)))))) (dgn 10 hN) stS_er (dss_one (ds_if (dt_cmp (od_ne hu) (de_callB (cd_repr hgu hu) rfl T.b_repr rfl (da_cons (dcall O__law_read hgu (hr.mono (by decide)) rfl tk (da_cons (dv 10) da_nil) (len_cons len_nil)) da_nil)) (de_callB (cd_repr hgu hu) rfl T.b_repr rfl (da_cons (dcall O__law_due hgu (hr.mono (by decide)) rfl tk (da_cons (dv 10) da_nil) (len_cons len_nil)) da_nil)) rfl) (dss_one (ds_ret de_bl)) dss_nil))))))
    (dss_one (ds_ret de_bl)))))))
def tab_law_280 (mg : Str → Option Value) : Addr → Option (M D) := fun f => if f = adr mg "form_of_band" then some (fnM 1 m_form_of_band) else if f = adr mg "form_motion" then some (fnM 1 m_form_motion) else if f = adr mg "band_text" then some (fnM 7 m_band_text) else none
def tab_law_285 (mg : Str → Option Value) : Addr → Option (M D) := fun f => if f = adr mg "carrier_between" then some (fnM 4 m_carrier_between) else if f = adr mg "parting_cell" then some (fnM 6 m_parting_cell) else none
def m_law (mg : Str → Option Value) : M Flow :=
  sq (forM (enumM (bin D.add (sliceM (vr 0) (ret none) (someI (ret (.int 3)))) (lstM (consA (appM D.sum (consA (vr 0) (nilA))) (nilA))))) (gtM 2 (unp1 (stS 1) (unp1 (stS 2) unp0))) (sq (asgM (callN (fnN 2 m__law_draw) (consA (vr 2) (consA (vr 1) (nilA)))) (stO 3))
    (sq (asgM (callIo 3 (fnM 15 m__law_band) (consA (ret (.int 6)) (nilA))) (stS 4))
    (sq (par2 false false 5 6 (callIo 3 (fnM 8 m__law_other) (consA (vr 4) (nilA))) (callM (fnM 7 m__law_form) (consA (vr 4) (nilA))))
    (sq (ifM (orM (asB (bin D.ne (appM D.repr (consA (callM (fnM 1 m_form_of_band) (permA (permI [0]) (consA (vr 4) (nilA)))) (nilA))) (appM D.repr (consA (vr 6) (nilA))))) (notM (asB (callM (fnM 7 m__law_leads) (consA (vr 4) (consA (vr 6) (consA (callM (fnM 1 m_form_motion) (permA (permI [0]) (consA (vr 4) (nilA)))) (nilA)))))))) (rtM (ret (.bl false))) (ret .nx))
    (sq (ifM (orM (notM (asB (callM (fnM 7 m__law_pair_right) (consA (vr 4) (consA (vr 5) (nilA)))))) (orM (notM (asB (callM (fnM 7 m__law_pair_right) (consA (vr 5) (consA (vr 4) (nilA)))))) (notM (asB (callIo 3 (fnM 11 m__law_texts_right) (consA (vr 4) (nilA))))))) (rtM (ret (.bl false))) (ret .nx))
    (sq (asgM (lstM (consA (tupM (consA (tupM (consA (ret (.int 2)) (consA (ret (.int 1)) (consA (ret (.str "ab")) (nilA))))) (consA (tupM (consA (ret (.int 3)) (consA (ret (.int 1)) (consA (ret (.str "aab")) (nilA))))) (nilA)))) (consA (tupM (consA (tupM (consA (ret (.int 3)) (consA (ret (.int 1)) (consA (ret (.str "aab")) (nilA))))) (consA (tupM (consA (ret (.int 4)) (consA (ret (.int 1)) (consA (ret (.str "aabb")) (nilA))))) (nilA)))) (consA (tupM (consA (tupM (consA (ret (.int 3)) (consA (ret (.int 1)) (consA (ret (.str "abb")) (nilA))))) (consA (tupM (consA (ret (.int 5)) (consA (ret (.int 1)) (consA (ret (.str "abbab")) (nilA))))) (nilA)))) (nilA))))) (stS 7))
    (sq (asgM (bin D.ix (vr 7) (callIo 3 (fnM 4 m__law_digit) (consA (ret (.int 3)) (nilA)))) (gtM 2 (unp1 (stS 8) (unp1 (stS 9) unp0))))
    (sq (ifM (orM (notM (asB (callM (fnM 7 m__law_pair_right) (consA (vr 8) (consA (vr 9) (nilA)))))) (notM (asB (callM (fnM 7 m__law_pair_right) (consA (vr 9) (consA (vr 8) (nilA))))))) (rtM (ret (.bl false))) (ret .nx))
    (sq (forM (seqM (tupM (consA (bin D.mul (ret (.str "a\n")) (ret (.int 1000))) (consA (ret (.str "")) (consA (bin D.add (bin D.mul (ret (.str "a")) (ret (.int 1001))) (ret (.str "\n"))) (consA (bin D.mul (ret (.str "a\n")) (ret (.int 1001))) (consA (bin D.mul (bin D.add (bin D.mul (ret (.str "a")) (ret (.int 40))) (ret (.str "\n"))) (ret (.int 26))) (consA (bin D.mul (bin D.add (bin D.mul (ret (.str "a")) (ret (.int 40))) (ret (.str "\n"))) (ret (.int 25))) (nilA))))))))) (stS 10) (ifM (asB (bin D.ne (appM D.repr (consA (callM (fnM 3 m__law_read) (consA (vr 10) (nilA))) (nilA))) (appM D.repr (consA (callM (fnM 5 m__law_due) (consA (vr 10) (nilA))) (nilA))))) (rtM (ret (.bl false))) (ret .nx)))
    (sq (ifM (asB (bin D.ne (appM D.repr (consA (callM (fnM 3 m__law_read) (consA (bin D.ix (lstM (consA (ret .non) (consA (ret (.int 5)) (consA (lstM (consA (ret (.str "a\n")) (nilA))) (nilA))))) (callIo 3 (fnM 4 m__law_digit) (consA (ret (.int 3)) (nilA)))) (nilA))) (nilA))) (appM D.repr (consA (tupM (consA (ret (.str "text")) (consA (ret .non) (nilA)))) (nilA))))) (rtM (ret (.bl false))) (ret .nx))
    (sq (asgM (lstM (nilA)) (stO 11))
    (sq (forM (seqM (tupM (consA (ret (.ptr (adr mg "form_of_band"))) (consA (ret (.ptr (adr mg "form_motion"))) (consA (ret (.ptr (adr mg "band_text"))) (nilA)))))) (stS 12) (tryM 13 (clB "BadBand") (dropM (callL 12 (tab_law_280 mg) (consA (tupM (consA (ret (.int 1)) (consA (ret (.int 1)) (nilA)))) (nilA)))) (fun x => appS 11 (attM "BadBand" "place" x))))
    (sq (forM (seqM (tupM (consA (ret (.ptr (adr mg "carrier_between"))) (consA (ret (.ptr (adr mg "parting_cell"))) (nilA))))) (stS 12) (forM (seqM (tupM (consA (tupM (consA (ret .non) (consA (vr 4) (nilA)))) (consA (tupM (consA (vr 4) (consA (ret .non) (nilA)))) (consA (tupM (consA (tupM (consA (ret (.int 1)) (consA (ret (.int 1)) (consA (ret (.str "?")) (nilA))))) (consA (ret .non) (nilA)))) (nilA)))))) (gtM 2 (unp1 (stS 8) (unp1 (stS 9) unp0))) (tryM 13 (clB "BadBand") (dropM (callL 12 (tab_law_285 mg) (consA (vr 8) (consA (vr 9) (nilA))))) (fun x => appS 11 (attM "BadBand" "place" x)))))
    (ifM (asB (bin D.ne (pk1 11 D.repr) (appM D.repr (consA (bin D.add (bin D.mul (lstM (consA (ret .non) (nilA))) (ret (.int 5))) (lstM (consA (ret (.str "colours")) (consA (ret .non) (consA (ret .non) (consA (ret (.str "colours")) (nilA))))))) (nilA))))) (rtM (ret (.bl false))) (ret .nx))))))))))))))))
    (rtM (ret (.bl true)))
theorem O_law (T : Txt K mg) : Ok P w K mg base 7 "law" s_law ["script"] (spF K mg 1 (fnM 14 (m_law mg))) := by
  have O__law_draw := O__law_draw (P := P) (w := w) (base := base) T
  have O__law_band := O__law_band (P := P) (w := w) (base := base) T
  have O_form_of_band := O_form_of_band (P := P) (w := w) (base := base) T
  have O_form_motion := O_form_motion (P := P) (w := w) (base := base) T
  have O_band_text := O_band_text (P := P) (w := w) (base := base) T
  have O_carrier_between := O_carrier_between (P := P) (w := w) (base := base) T
  have O_parting_cell := O_parting_cell (P := P) (w := w) (base := base) T
  have O__law_other := O__law_other (P := P) (w := w) (base := base) T
  have O__law_form := O__law_form (P := P) (w := w) (base := base) T
  have O__law_digit := O__law_digit (P := P) (w := w) (base := base) T
  have O__law_leads := O__law_leads (P := P) (w := w) (base := base) T
  have O__law_pair_right := O__law_pair_right (P := P) (w := w) (base := base) T
  have O__law_texts_right := O__law_texts_right (P := P) (w := w) (base := base) T
  have O__law_read := O__law_read (P := P) (w := w) (base := base) T
  have O__law_due := O__law_due (P := P) (w := w) (base := base) T
  have E_BadBand := exo_BadBand (P := P) (w := w) (base := base) T
  have S : FnScope ["script", "k", "cell", "state", "one", "other", "form", "pairs", "first", "second", "some", "found", "deed", "error"] ["script"] (defScope s_law) := ⟨rfl, rfl, rfl, by decide +kernel, rfl, by decide +kernel, by decide +kernel⟩
  have htab_law_280 : ∀ f m, tab_law_280 mg f = some m → ∃ (k : Nat) (y : Str) (st : Stmt) (ps : List Str), f = adr mg y ∧ Ok P w K mg base k y st ps (spF K mg 1 m) ∧ k ≤ 6 := by
    intro f m hm
    unfold tab_law_280 at hm
    split at hm
    · rename_i e; cases hm; exact ⟨_, _, _, _, e, O_form_of_band, by decide⟩
    split at hm
    · rename_i e; cases hm; exact ⟨_, _, _, _, e, O_form_motion, by decide⟩
    split at hm
    · rename_i e; cases hm; exact ⟨_, _, _, _, e, O_band_text, by decide⟩
    cases hm
  have htab_law_285 : ∀ f m, tab_law_285 mg f = some m → ∃ (k : Nat) (y : Str) (st : Stmt) (ps : List Str), f = adr mg y ∧ Ok P w K mg base k y st ps (spF K mg 2 m) ∧ k ≤ 6 := by
    intro f m hm
    unfold tab_law_285 at hm
    split at hm
    · rename_i e; cases hm; exact ⟨_, _, _, _, e, O_carrier_between, by decide⟩
    split at hm
    · rename_i e; cases hm; exact ⟨_, _, _, _, e, O_parting_cell, by decide⟩
    cases hm
  refine ok_fn T.d_law S (by decide) (fun _ _ _ _ _ _ us hl => match us, hl with | [_], _ => rfl) fun f cdv A outer s H E hgu hr => ?_
  have hu := hu150 hr
  have hu1 := hu1_of hr
  have hN := S.nd
  have hc : (cxOf (L2.CX P w) P w K mg base ["script", "k", "cell", "state", "one", "other", "form", "pairs", "first", "second", "some", "found", "deed", "error"] "law" (defScope s_law) f cdv A outer s H E).calm = true := rfl
  have tk : Takes (cxOf (L2.CX P w) P w K mg base ["script", "k", "cell", "state", "one", "other", "form", "pairs", "first", "second", "some", "found", "deed", "error"] "law" (defScope s_law) f cdv A outer s H E) (WF E) := takes_of rfl rfl rfl rfl
  have hp : PassesOwn (model (cxOf (L2.CX P w) P w K mg base ["script", "k", "cell", "state", "one", "other", "form", "pairs", "first", "second", "some", "found", "deed", "error"] "law" (defScope s_law) f cdv A outer s H E).prog w) (cxOf (L2.CX P w) P w K mg base ["script", "k", "cell", "state", "one", "other", "form", "pairs", "first", "second", "some", "found", "deed", "error"] "law" (defScope s_law) f cdv A outer s H E).A (cxOf (L2.CX P w) P w K mg base ["script", "k", "cell", "state", "one", "other", "form", "pairs", "first", "second", "some", "found", "deed", "error"] "law" (defScope s_law) f cdv A outer s H E).env (cxOf (L2.CX P w) P w K mg base ["script", "k", "cell", "state", "one", "other", "form", "pairs", "first", "second", "some", "found", "deed", "error"] "law" (defScope s_law) f cdv A outer s H E).xe := passes_of rfl
  exact (dss_cons (ds_for hp hc (di_enum rfl T.b_enumerate (de_op od_add (de_slice (dv 0) do_none (do_some de_int)) (de_lst (da_cons (de_callB (cd_sum hc) rfl T.b_sum rfl (da_cons (dv 0) da_nil)) da_nil)))) (dg_tup hc (dgs_cons (dgn 1 hN) (dgs_cons (dgn 2 hN) dgs_nil))) (gtM_er (unp1_er stS_er (unp1_er stS_er unp0_er))) (dss_cons (down 3 hN (dcallN O__law_draw hgu (hr.mono (by decide)) rfl tk (da_cons (dv 2) (da_cons (dv 1) da_nil)) (len_cons (len_cons len_nil))))
    (dss_cons (dset 4 hN (dcallIo O__law_band hgu (hr.mono (by decide)) rfl tk (pv 3) (da_cons de_int da_nil) (fun Γ ds Γ2 e => congrArg (· + 1) ((len_cons len_nil) Γ ds Γ2 e))))
    (dss_cons (dpar2 5 6 hc hN (dx_sh (dcallIo O__law_other hgu (hr.mono (by decide)) rfl tk (pv 3) (da_cons (dv 4) da_nil) (fun Γ ds Γ2 e => congrArg (· + 1) ((len_cons len_nil) Γ ds Γ2 e)))) (dx_sh (dcall O__law_form hgu (hr.mono (by decide)) rfl tk (da_cons (dv 4) da_nil) (len_cons len_nil))) (by decide))
    (dss_cons (ds_if (dw_pt (dw_or (dt_cmp (od_ne hu) (de_callB (cd_repr hgu hu) rfl T.b_repr rfl (da_cons (dcallK (ks := ["band"]) [0] O_form_of_band (by simp) (fun _ _ _ _ _ _ ws hl => match ws, hl with | [_], _ => rfl) hgu (hr.mono (by decide)) rfl tk (dk_cons (dv 4) dk_nil) (len_cons len_nil) (fun ds hl => match ds, hl with | [_], _ => rfl)) da_nil)) (de_callB (cd_repr hgu hu) rfl T.b_repr rfl (da_cons (dv 6) da_nil)) rfl) (dw_or1 (dt_not (dt_val (dcall O__law_leads hgu (hr.mono (by decide)) rfl tk (da_cons (dv 4) (da_cons (dv 6) (da_cons (dcallK (ks := ["band"]) [0] O_form_motion (by simp) (fun _ _ _ _ _ _ ws hl => match ws, hl with | [_], _ => rfl) hgu (hr.mono (by decide)) rfl tk (dk_cons (dv 4) dk_nil) (len_cons len_nil) (fun ds hl => match ds, hl with | [_], _ => rfl)) da_nil))) (len_cons (len_cons (len_cons len_nil))))))))) (dss_one (ds_ret de_bl)) dss_nil)
    (dss_cons (ds_if (dw_pt (dw_or (dt_not (dt_val (dcall O__law_pair_right hgu (hr.mono (by decide)) rfl tk (da_cons (dv 4) (da_cons (dv 5) da_nil)) (len_cons (len_cons len_nil))))) (dw_or (dt_not (dt_val (dcall O__law_pair_right hgu (hr.mono (by decide)) rfl tk (da_cons (dv 5) (da_cons (dv 4) da_nil)) (len_cons (len_cons len_nil))))) (dw_or1 (dt_not (dt_val (dcallIo O__law_texts_right hgu (hr.mono (by decide)) rfl tk (pv 3) (da_cons (dv 4) da_nil) (fun Γ ds Γ2 e => congrArg (· + 1) ((len_cons len_nil) Γ ds Γ2 e))))))))) (dss_one (ds_ret de_bl)) dss_nil)
    (dss_cons (dset 7 hN (de_lst (da_cons (de_tup (da_cons (de_tup (da_cons de_int (da_cons de_int (da_cons de_str da_nil)))) (da_cons (de_tup (da_cons de_int (da_cons de_int (da_cons de_str da_nil)))) da_nil))) (da_cons (de_tup (da_cons (de_tup (da_cons de_int (da_cons de_int (da_cons de_str da_nil)))) (da_cons (de_tup (da_cons de_int (da_cons de_int (da_cons de_str da_nil)))) da_nil))) (da_cons (de_tup (da_cons (de_tup (da_cons de_int (da_cons de_int (da_cons de_str da_nil)))) (da_cons (de_tup (da_cons de_int (da_cons de_int (da_cons de_str da_nil)))) da_nil))) da_nil)))))
    (dss_cons (ds_asg (de_ix hu (dv 7) (dcallIo O__law_digit hgu (hr.mono (by decide)) rfl tk (pv 3) (da_cons de_int da_nil) (fun Γ ds Γ2 e => congrArg (· + 1) ((len_cons len_nil) Γ ds Γ2 e))) (fun _ _ => rfl)) (dg_tup hc (dgs_cons (dgn 8 hN) (dgs_cons (dgn 9 hN) dgs_nil))) (gtM_er (unp1_er stS_er (unp1_er stS_er unp0_er))))
    (dss_cons (ds_if (dw_pt (dw_or (dt_not (dt_val (dcall O__law_pair_right hgu (hr.mono (by decide)) rfl tk (da_cons (dv 8) (da_cons (dv 9) da_nil)) (len_cons (len_cons len_nil))))) (dw_or1 (dt_not (dt_val (dcall O__law_pair_right hgu (hr.mono (by decide)) rfl tk (da_cons (dv 9) (da_cons (dv 8) da_nil)) (len_cons (len_cons len_nil)))))))) (dss_one (ds_ret de_bl)) dss_nil)
    (dss_cons (ds_for hp hc (di_seq (de_tup (da_cons (de_op od_mul de_str de_int) (da_cons de_str (da_cons (de_op od_add (de_op od_mul de_str de_int) de_str) (da_cons (de_op od_mul de_str de_int) (da_cons (de_op od_mul (de_op od_add (de_op od_mul de_str de_int) de_str) de_int) (da_cons (de_op od_mul (de_op od_add (de_op od_mul de_str de_int) de_str) de_int) da_nil)))))))) (dgn 10 hN) stS_er (dss_one (ds_if (dt_cmp (od_ne hu) (de_callB (cd_repr hgu hu) rfl T.b_repr rfl (da_cons (dcall O__law_read hgu (hr.mono (by decide)) rfl tk (da_cons (dv 10) da_nil) (len_cons len_nil)) da_nil)) (de_callB (cd_repr hgu hu) rfl T.b_repr rfl (da_cons (dcall O__law_due hgu (hr.mono (by decide)) rfl tk (da_cons (dv 10) da_nil) (len_cons len_nil)) da_nil)) rfl) (dss_one (ds_ret de_bl)) dss_nil)))
    (dss_cons (ds_if (dt_cmp (od_ne hu) (de_callB (cd_repr hgu hu) rfl T.b_repr rfl (da_cons (dcall O__law_read hgu (hr.mono (by decide)) rfl tk (da_cons (de_ix hu (de_lst (da_cons de_non (da_cons de_int (da_cons (de_lst (da_cons de_str da_nil)) da_nil)))) (dcallIo O__law_digit hgu (hr.mono (by decide)) rfl tk (pv 3) (da_cons de_int da_nil) (fun Γ ds Γ2 e => congrArg (· + 1) ((len_cons len_nil) Γ ds Γ2 e))) (fun _ _ => rfl)) da_nil) (len_cons len_nil)) da_nil)) (de_callB (cd_repr hgu hu) rfl T.b_repr rfl (da_cons (de_tup (da_cons de_str (da_cons de_non da_nil))) da_nil)) rfl) (dss_one (ds_ret de_bl)) dss_nil)
    (dss_cons (down 11 hN (df_lst da_nil))
    (dss_cons (ds_for hp hc (di_seq (de_tup (da_cons (dfn (O_form_of_band) rfl) (da_cons (dfn (O_form_motion) rfl) (da_cons (dfn (O_band_text) rfl) da_nil))))) (dgn 12 hN) stS_er (dss_one (dtry E_BadBand (clB "BadBand") hN tk rfl (clB_ok E_BadBand) (fun W2 pn xe tk2 hp2 => (dss_one (ds_expr (dcallL hgu rfl (vis_of rfl) (tabR htab_law_280 hr) tk2 (da_cons (de_tup (da_cons de_int (da_cons de_int da_nil))) da_nil) (len_cons len_nil))))) (fun C hC hX hF x a oe cls d pn hz hf => (dsx_append (pv 11) (dex_att hX hF hC hz hf (pv 13)))))))
    (dss_cons (ds_for hp hc (di_seq (de_tup (da_cons (dfn (O_carrier_between) rfl) (da_cons (dfn (O_parting_cell) rfl) da_nil)))) (dgn 12 hN) stS_er (dss_one (ds_for hp hc (di_seq (de_tup (da_cons (de_tup (da_cons de_non (da_cons (dv 4) da_nil))) (da_cons (de_tup (da_cons (dv 4) (da_cons de_non da_nil))) (da_cons (de_tup (da_cons (de_tup (da_cons de_int (da_cons de_int (da_cons de_str da_nil)))) (da_cons de_non da_nil))) da_nil))))) (dg_tup hc (dgs_cons (dgn 8 hN) (dgs_cons (dgn 9 hN) dgs_nil))) (gtM_er (unp1_er stS_er (unp1_er stS_er unp0_er))) (dss_one (dtry E_BadBand (clB "BadBand") hN tk rfl (clB_ok E_BadBand) (fun W2 pn xe tk2 hp2 => (dss_one (ds_expr (dcallL hgu rfl (vis_of rfl) (tabR htab_law_285 hr) tk2 (da_cons (dv 8) (da_cons (dv 9) da_nil)) (len_cons (len_cons len_nil)))))) (fun C hC hX hF x a oe cls d pn hz hf => (dsx_append (pv 11) (dex_att hX hF hC hz hf (pv 13)))))))))
    (dss_one (ds_if (dt_cmp (od_ne hu) (de_pk1B (cd_repr hgu hu) rfl T.b_repr rfl (pv 11)) (de_callB (cd_repr hgu hu) rfl T.b_repr rfl (da_cons (de_op od_add (de_op od_mul (de_lst (da_cons de_non da_nil)) de_int) (de_lst (da_cons de_str (da_cons de_non (da_cons de_non (da_cons de_str da_nil)))))) da_nil)) rfl) (dss_one (ds_ret de_bl)) dss_nil))))))))))))))))
    (dss_one (ds_ret de_bl)))
end DL.K70
set_option Elab.async false
set_option linter.all false
set_option maxRecDepth 100000
set_option maxHeartbeats 4000000
set_option autoImplicit false
namespace DL.K70
open PySem L2 DL
local macro_rules | `(tactic| walk_at "ev") => `(tactic| simp only [sq, asgM, ifM, andV, orV, notV, andM, orM, notM, asB, rtM, bin, chainM, opB, isiM, appM, revM, callM, opt, ret, consA, nilA, tupM, lstM, vr, stS, mrg, pixM, pkM, gdM, Sl.own, Sl.put, subS, putM, isi_int_int, isi_bool_int, le_ii, lt_ii, eq_ii, ne_ii, gt_ii, ge_ii, add_ii, sub_ii, ix_left, ix_cell, ix_turns, put_left, put_turns,
  ↓bnd, List.getElem?_cons_zero, List.getElem?_cons_succ, List.set_cons_zero, List.set_cons_succ, List.cons_append, List.nil_append, List.length_cons, List.length_nil, List.replicate, Nat.zero_add, Nat.reduceAdd, Nat.reduceSub, List.append_nil, if_true, Bool.not_true, Bool.not_false, Bool.false_eq_true, if_false, ite_true, ite_false, decide_true, decide_false, List.map_cons, List.map_nil])
local macro_rules | `(tactic| walk_at "ev*") => `(tactic| simp only [sq, asgM, ifM, andV, orV, notV, andM, orM, notM, asB, rtM, bin, chainM, opB, isiM, appM, revM, callM, opt, ret, consA, nilA, tupM, lstM, vr, stS, mrg, pixM, pkM, gdM, Sl.own, Sl.put, subS, putM, isi_int_int, isi_bool_int, le_ii, lt_ii, eq_ii, ne_ii, gt_ii, ge_ii, add_ii, sub_ii, ix_left, ix_cell, ix_turns, put_left, put_turns,
  ↓bnd, List.getElem?_cons_zero, List.getElem?_cons_succ, List.set_cons_zero, List.set_cons_succ, List.cons_append, List.nil_append, List.length_cons, List.length_nil, List.replicate, Nat.zero_add, Nat.reduceAdd, Nat.reduceSub, List.append_nil, if_true, Bool.not_true, Bool.not_false, Bool.false_eq_true, if_false, ite_true, ite_false, decide_true, decide_false, List.map_cons, List.map_nil, *])
theorem r_is_whole {i a b : Int} : fnM 3 m_is_whole [.sh (.int i), .sh (.int a), .sh (.int b)] = .ok (.bl (decide (a ≤ i) && decide (i ≤ b))) [.sh (.int i), .sh (.int a), .sh (.int b)] := by
  unfold fnM
  unfold m_is_whole
  walk_at "ev"
  by_cases h : a ≤ i
  · simp only [h, decide_true, Bool.true_and]
    walk_at "ev"
  · simp only [h, decide_false, Bool.false_and]
    walk_at "ev"
theorem r_mixed {c k : Int} (hk : 0 ≤ k) (hk2 : k < 2 ^ 100) : ∃ x, 0 ≤ x ∧ x < 2147483647 ∧ fnM 3 m__law_mixed [.sh (.int c), .sh (.int k)] = .ok (.int x) [.sh (.int c), .sh (.int k)] := by
  obtain ⟨m, hm, hm2, em⟩ : ∃ m : Int, 0 < m ∧ m < 2 ^ 32 ∧ D.ix (.lst [.int 1000000007, .int 998244353, .int 2147483629, .int 1000000009]) (.int (k % 4)) = some (.int m) := by
    have : k % 4 = 0 ∨ k % 4 = 1 ∨ k % 4 = 2 ∨ k % 4 = 3 := by omega
    rcases this with h | h | h | h <;> rw [h] <;> exact ⟨_, by decide, by decide, rfl⟩
  have e4 : D.mod (.int k) (.int 4) = some (.int (k % 4)) := mod_ii (by decide)
  have ec : D.mod (.int c) (.int m) = some (.int (c % m)) := mod_ii hm
  have h1 := Int.emod_nonneg c (show m ≠ 0 by omega)
  have h2 := Int.emod_lt_of_pos c hm
  have em1 : D.mul (.int 7919) (.int k) = some (.int (7919 * k)) := mul_ii (by decide) (by
    have : k.natAbs < 2 ^ 100 := by omega
    exact Nat.lt_of_lt_of_le this (by decide))
  have hz : sizeOk 4 = true := by decide
  generalize hn : c % m + 7919 * k + 13 = n at *
  have hn0 : 0 ≤ n := by omega
  have hn1 : n < 2 ^ 200 := by
    have : (2 : Int) ^ 200 > 2 ^ 32 + 7919 * 2 ^ 100 + 13 := by decide
    omega
  have em2 : D.mul (.int n) (.int n) = some (.int (n * n)) := mul_ii (by
    have : n.natAbs < 2 ^ 200 := by omega
    exact Nat.lt_of_lt_of_le this (by decide)) (by
    have : n.natAbs < 2 ^ 200 := by omega
    exact Nat.lt_of_lt_of_le this (by decide))
  have e5 : D.mod (.int (n * n)) (.int 2147483647) = some (.int (n * n % 2147483647)) := mod_ii (by decide)
  have g1 := Int.emod_nonneg (n * n) (show (2147483647 : Int) ≠ 0 by decide)
  have g2 := Int.emod_lt_of_pos (n * n) (show (0 : Int) < 2147483647 by decide)
  generalize n * n % 2147483647 = q at *
  have em3 : D.mul (.int q) (.int 48271) = some (.int (q * 48271)) := mul_ii (by
    have : q.natAbs < 2 ^ 32 := by omega
    exact Nat.lt_of_lt_of_le this (by decide)) (by decide)
  have e6 : D.mod (.int (q * 48271)) (.int 2147483647) = some (.int (q * 48271 % 2147483647)) := mod_ii (by decide)
  refine ⟨q * 48271 % 2147483647, Int.emod_nonneg _ (by decide), Int.emod_lt_of_pos _ (by decide), ?_⟩
  unfold fnM
  unfold m__law_mixed
  walk_at "ev*"
/-- the state after n draws -/
structure SOK (n : Nat) (l t : Int) : Prop where
  l0 : 0 ≤ l
  t0 : 0 ≤ t
  t1 : t ≤ 100000 + 4 * n
theorem SOK.mono {n m : Nat} {l t : Int} (h : SOK n l t) (hm : n ≤ m) : SOK m l t := ⟨h.l0, h.t0, by have := h.t1; omega⟩
theorem rng4 : D.rangeOf [.int 4] = some [.int 0, .int 1, .int 2, .int 3] := by first | rfl | kernel_rfl
theorem r_fill {l c t b : Int} {s2 : Sl} {z : D} (hl : 0 ≤ l) (hl2 : l < 2 ^ 128) (ht : 0 ≤ t) (ht2 : t < 2 ^ 60) : ∃ l', 0 ≤ l' ∧ l' < (l + 1) * 2147483648 ∧
    (sq (subS 0 (bin D.add (pixM 0 (ret (.str "turns"))) (ret (.int 1))) (ret (.str "turns")))
    (subS 0 (bin D.add (bin D.mul (pixM 0 (ret (.str "left"))) (ret (.int 2147483647))) (callM (fnM 3 m__law_mixed) (consA (pixM 0 (ret (.str "cell"))) (consA (pixM 0 (ret (.str "turns"))) (nilA))))) (ret (.str "left")))) [.io (stD l c t), .sh (.int b), s2, .sh z]
      = .ok .nx [.io (stD l' c (t + 1)), .sh (.int b), s2, .sh z] := by
  obtain ⟨x, x0, x1, ex⟩ := r_mixed (c := c) (k := t + 1) (by omega) (by
    have : (2 : Int) ^ 60 + 1 < 2 ^ 100 := by decide
    omega)
  have em : D.mul (.int l) (.int 2147483647) = some (.int (l * 2147483647)) := mul_ii (by
    have : l.natAbs < 2 ^ 128 := by omega
    exact Nat.lt_of_lt_of_le this (by decide)) (by decide)
  refine ⟨l * 2147483647 + x, by omega, by omega, ?_⟩
  walk_at "ev*"
theorem r_digit {n : Nat} {l c t b : Int} (h : SOK n l t) (hn : n ≤ 1000000) (hb : 0 < b) (hb2 : b < 1073741824) : ∃ x l' t', 0 ≤ x ∧ x < b ∧ SOK (n + 1) l' t' ∧
    fnM 4 m__law_digit [.io (stD l c t), .sh (.int b)] = .ok (.int x) [.io (stD l' c t'), .sh (.int b)] := by
  obtain ⟨l0, t0, t1⟩ := h
  -- the state behind the refill
  obtain ⟨l1, t2, g0, g1, g2, ef⟩ : ∃ (l1 t2 : Int), 0 ≤ l1 ∧ 0 ≤ t2 ∧ t2 ≤ t + 4 ∧ ∃ s3 : Sl, ifM (asB (bin D.eq (pixM 0 (ret (.str "left"))) (ret (.int 0)))) (forM (rangeM (consA (ret (.int 4)) (nilA))) (stS 3) (sq (subS 0 (bin D.add (pixM 0 (ret (.str "turns"))) (ret (.int 1))) (ret (.str "turns")))
    (subS 0 (bin D.add (bin D.mul (pixM 0 (ret (.str "left"))) (ret (.int 2147483647))) (callM (fnM 3 m__law_mixed) (consA (pixM 0 (ret (.str "cell"))) (consA (pixM 0 (ret (.str "turns"))) (nilA))))) (ret (.str "left"))))) (ret .nx) [.io (stD l c t), .sh (.int b), .no, .no] = .ok .nx [.io (stD l1 c t2), .sh (.int b), .no, s3] := by
    by_cases hl : l = 0
    · subst hl
      obtain ⟨a1, b1, c1, e1⟩ := r_fill (l := 0) (c := c) (t := t) (b := b) (s2 := .no) (z := .int 0) (by omega) (by decide) t0 (by omega)
      obtain ⟨a2, b2, c2, e2⟩ := r_fill (l := a1) (c := c) (t := t + 1) (b := b) (s2 := .no) (z := .int 1) b1 (by omega) (by omega) (by omega)
      obtain ⟨a3, b3, c3, e3⟩ := r_fill (l := a2) (c := c) (t := t + 1 + 1) (b := b) (s2 := .no) (z := .int 2) b2 (by omega) (by omega) (by omega)
      obtain ⟨a4, b4, c4, e4⟩ := r_fill (l := a3) (c := c) (t := t + 1 + 1 + 1) (b := b) (s2 := .no) (z := .int 3) b3 (by omega) (by omega) (by omega)
      refine ⟨a4, t + 1 + 1 + 1 + 1, b4, by omega, by omega, .sh (.int 3), ?_⟩
      have hr := rng4
      generalize (sq (subS 0 (bin D.add (pixM 0 (ret (.str "turns"))) (ret (.int 1))) (ret (.str "turns")))
    (subS 0 (bin D.add (bin D.mul (pixM 0 (ret (.str "left"))) (ret (.int 2147483647))) (callM (fnM 3 m__law_mixed) (consA (pixM 0 (ret (.str "cell"))) (consA (pixM 0 (ret (.str "turns"))) (nilA))))) (ret (.str "left")))) = B at e1 e2 e3 e4 ⊢
      have hd : decide ((0 : Int) = 0) = true := by decide
      have hc : asB (bin D.eq (pixM 0 (ret (.str "left"))) (ret (.int 0))) [.io (stD 0 c t), .sh (.int b), .no, .no] = .ok true [.io (stD 0 c t), .sh (.int b), .no, .no] := by walk_at "ev*"
      have hi : rangeM (consA (ret (.int 4)) (nilA)) [.io (stD 0 c t), .sh (.int b), .no, .no] = .ok [.int 0, .int 1, .int 2, .int 3] [.io (stD 0 c t), .sh (.int b), .no, .no] := by
        simp only [rangeM, consA, nilA, ret, ↓bnd, hr, opt]
      rw [ifM_t hc, for_ok hi, forL_go rfl e1, forL_go rfl e2, forL_go rfl e3, forL_go rfl e4, forL_end]
    · refine ⟨l, t, l0, t0, by omega, .no, ?_⟩
      have hd : decide (l = 0) = false := decide_eq_false hl
      simp only [ifM, asB, bin, pixM, gdM, pkM, Sl.own, ↓bnd, ret, opt, ix_left, eq_ii, hd, Bool.false_eq_true, if_false, List.getElem?_cons_zero]
  obtain ⟨s3, ef⟩ := ef
  have em : D.mod (.int l1) (.int b) = some (.int (l1 % b)) := mod_ii hb
  have ed : D.fdiv (.int l1) (.int b) = some (.int (l1 / b)) := fdiv_ii hb hb2
  refine ⟨l1 % b, l1 / b, t2, Int.emod_nonneg _ (by omega), Int.emod_lt_of_pos _ hb, ⟨Int.ediv_nonneg g0 (by omega), g1, by omega⟩, ?_⟩
  clear t1 hn
  refine fnM_rt (Δ := [.io (stD (l1 / b) c t2), .sh (.int b), .sh (.int (l1 % b)), s3]) ?_ rfl
  show m__law_digit [.io (stD l c t), .sh (.int b), .no, .no] = _
  unfold m__law_digit
  rw [sq_nx ef]
  walk_at "ev*"
end DL.K70
set_option Elab.async false
set_option linter.all false
set_option maxRecDepth 100000
set_option maxHeartbeats 4000000
set_option autoImplicit false
namespace DL
open PySem L2
theorem range_n {n : Nat} (h : n ≤ 1000000) : D.rangeOf [.int (n : Int)] = some (rng 0 1 n) := by
  have hs : small62 (n : Int) = true := decide_eq_true (by
    have : (2 : Int) ^ 62 > 1000000 := by decide
    omega)
  show (if small62 (n : Int) = true then some (rng 0 1 (n : Int).toNat) else none) = _
  rw [if_pos hs]
  rfl
theorem opt_some {α : Type} {o : Option α} {a : α} {Γ : SEnv} (h : o = some a) : opt o Γ = .ok a Γ := by rw [h]; rfl
theorem rangeM_of {m : M (List D)} {Γ Γ' : SEnv} {ds l : List D} (hm : m Γ = .ok ds Γ') (hr : D.rangeOf ds = some l) : rangeM m Γ = .ok l Γ' := by
  unfold rangeM bnd
  rw [hm]
  exact opt_some hr
theorem rangeM_n {m : M (List D)} {Γ Γ' : SEnv} {n : Nat} (hm : m Γ = .ok [.int (n : Int)] Γ') (h : n ≤ 1000000) : rangeM m Γ = .ok (rng 0 1 n) Γ' := rangeM_of hm (range_n h)
theorem rng_succ {n : Nat} : rng 0 1 (n + 1) = rng 0 1 n ++ [.int (n : Int)] := by
  unfold rng
  rw [List.range_succ, List.map_append]
  simp
theorem rng_drop {n j : Nat} (h : j < n) : (rng 0 1 n).drop j = .int (j : Int) :: (rng 0 1 n).drop (j + 1) := by
  have hl : j < (rng 0 1 n).length := by rw [rng_len]; exact h
  rw [List.drop_eq_getElem_cons hl]
  congr 1
  have := List.getElem?_eq_getElem hl
  obtain ⟨_, e⟩ := rng_get this
  rw [e]
  congr 1
  omega
/-- for j in range(n), nothing returned -/
theorem forL_rng {g : D → M Unit} {body : M Flow} {n : Nat} (I : Nat → SEnv → Prop) (h : ∀ j, j < n → ∀ Γ, I j Γ → ∃ Γ1 Γ2, g (.int (j : Int)) Γ = .ok () Γ1 ∧ body Γ1 = .ok .nx Γ2 ∧ I (j + 1) Γ2) {Γ : SEnv} (h0 : I 0 Γ) : ∃ Γ', forL g body (rng 0 1 n) Γ = .ok .nx Γ' ∧ I n Γ' := by
  have key : ∀ (m j : Nat) (Γ : SEnv), m + j = n → I j Γ → ∃ Γ', forL g body ((rng 0 1 n).drop j) Γ = .ok .nx Γ' ∧ I n Γ' := by
    intro m
    induction m with
    | zero =>
      intro j Γ e q
      have : j = n := by omega
      subst this
      refine ⟨Γ, ?_, q⟩
      rw [List.drop_of_length_le (by rw [rng_len]; exact Nat.le_refl _)]
      rfl
    | succ m ih =>
      intro j Γ e q
      obtain ⟨Γ1, Γ2, e1, e2, q2⟩ := h j (by omega) Γ q
      obtain ⟨Γ', e3, q3⟩ := ih (j + 1) Γ2 (by omega) q2
      refine ⟨Γ', ?_, q3⟩
      rw [rng_drop (by omega), forL_go e1 e2, e3]
  exact key n 0 Γ rfl h0
end DL
namespace DL.K70
open PySem L2 DL
local macro_rules | `(tactic| walk_at "ev*") => `(tactic| simp only [sq, asgM, ifM, andV, orV, notV, andM, orM, notM, asB, rtM, bin, chainM, opB, isiM, appM, revM, callM, opt, ret, consA, nilA, tupM, lstM, vr, stS, stM, mkS, mrg, pixM, pkM, gdM, Sl.own, Sl.put, subS, putM, appS, D.isL, sliceM, someI, strM, gtM, unp1, unp0, par2, isi_int_int, isi_bool_int, le_ii, lt_ii, eq_ii, ne_ii, gt_ii, ge_ii, add_ii, sub_ii, ix_left, ix_cell, ix_turns, put_left, put_turns,
  ↓bnd, List.getElem?_cons_zero, List.getElem?_cons_succ, List.set_cons_zero, List.set_cons_succ, List.cons_append, List.nil_append, List.length_cons, List.length_nil, List.replicate, Nat.zero_add, Nat.reduceAdd, Nat.reduceSub, List.append_nil, if_true, Bool.not_true, Bool.not_false, Bool.false_eq_true, if_false, ite_true, ite_false, decide_true, decide_false, ↓reduceIte, List.map_cons, List.map_nil, *])
theorem tup_ix0 {a : D} {r : List D} : D.ix (.tup (a :: r)) (.int 0) = some a := by
  show atI (a :: r) ((0 : Nat) : Int) = _
  exact atI_nat rfl
theorem tup_ix1 {a b : D} {r : List D} : D.ix (.tup (a :: b :: r)) (.int 1) = some b := by
  show atI (a :: b :: r) ((1 : Nat) : Int) = _
  exact atI_nat rfl
theorem tup_ix2 {a b c : D} {r : List D} : D.ix (.tup (a :: b :: c :: r)) (.int 2) = some c := by
  show atI (a :: b :: c :: r) ((2 : Nat) : Int) = _
  exact atI_nat rfl
/-! ### bands -/
def carryAt (w : Nat) (k : Nat) (s : Int) : Nat := ((if k < 2 then 0 - s else (w : Int) - 1 - s) % (w : Int)).toNat
def carryLine (h k y : Nat) : Nat := if k = 1 ∨ k = 3 then h - 1 - y else y
def rowOf (w : Nat) (l : List Nat) (y : Nat) : List Nat := (l.drop (y * w)).take w
def carryRow (w h : Nat) (l : List Nat) (k : Nat) (s : Int) (y : Nat) : List Nat :=
  let r := if k < 2 then rowOf w l (carryLine h k y) else (rowOf w l (carryLine h k y)).reverse
  r.drop (carryAt w k s) ++ r.take (carryAt w k s)
def carryL (w h : Nat) (l : List Nat) (k : Nat) (s : Int) : List Nat := ((List.range h).map (carryRow w h l k s)).flatten
theorem in13 {k : Nat} (hk : k < 4) : D.isin (.int (k : Int)) (.tup [.int 1, .int 3]) = some (.bl (decide (k = 1 ∨ k = 3))) := by
  have : k = 0 ∨ k = 1 ∨ k = 2 ∨ k = 3 := by omega
  rcases this with h | h | h | h <;> subst h <;> first | rfl | kernel_rfl | decide +kernel
/-- a slot that holds nothing, or a value -/
def osl : Option D → Sl
  | none => .no
  | some d => .sh d
/-- a band that the laws make, and a little more -/
structure VB (w h : Nat) (l : List Nat) : Prop where
  w1 : 1 ≤ w
  w2 : w ≤ 100
  h1 : 1 ≤ h
  h2 : h ≤ 10
  len : l.length = w * h
theorem VB.small {w h : Nat} {l : List Nat} (v : VB w h l) : l.length ≤ 1000 := by
  rw [v.len]
  have := Nat.mul_le_mul v.w2 v.h2
  omega
theorem row_len {w h : Nat} {l : List Nat} (v : VB w h l) {y : Nat} (hy : y < h) : (rowOf w l y).length = w := by
  unfold rowOf
  rw [List.length_take, List.length_drop, v.len]
  have : y * w + w ≤ w * h := by
    have := Nat.mul_le_mul_right w (show y + 1 ≤ h by omega)
    rw [Nat.add_mul, Nat.one_mul, Nat.mul_comm h w] at this
    exact this
  omega
theorem line_lt {h k y : Nat} (hy : y < h) : carryLine h k y < h := by
  unfold carryLine
  split <;> omega
theorem at_lt {w k : Nat} {s : Int} (hw : 1 ≤ w) : carryAt w k s < w := by
  unfold carryAt
  generalize (if k < 2 then 0 - s else (w : Int) - 1 - s) = z
  have h1 := Int.emod_nonneg z (show (w : Int) ≠ 0 by omega)
  have h2 := Int.emod_lt_of_pos z (show (0 : Int) < w by omega)
  omega
theorem crow_len {w h : Nat} {l : List Nat} (v : VB w h l) {k y : Nat} {s : Int} (hy : y < h) : (carryRow w h l k s y).length = w := by
  have h1 := row_len v (line_lt (k := k) hy)
  have h2 := at_lt (k := k) (s := s) v.w1
  unfold carryRow
  simp only [List.length_append, List.length_drop, List.length_take]
  split
  · rw [h1]; omega
  · rw [List.length_reverse, h1]; omega
theorem flat_len {ls : List (List Nat)} {w : Nat} (h : ∀ l ∈ ls, l.length = w) : ls.flatten.length = ls.length * w := by
  induction ls with
  | nil => simp
  | cons l ls ih =>
    rw [List.flatten_cons, List.length_append, ih fun x hx => h x (List.mem_cons_of_mem _ hx), h l List.mem_cons_self, List.length_cons, Nat.add_mul]
    omega
theorem carry_len {w h : Nat} {l : List Nat} (v : VB w h l) {k : Nat} {s : Int} : (carryL w h l k s).length = w * h := by
  unfold carryL
  rw [flat_len (w := w) (fun x hx => by
    obtain ⟨y, hy, rfl⟩ := List.mem_map.mp hx
    exact crow_len v (List.mem_range.mp hy))]
  rw [List.length_map, List.length_range, Nat.mul_comm]
theorem carry_vb {w h : Nat} {l : List Nat} (v : VB w h l) {k : Nat} {s : Int} : VB w h (carryL w h l k s) := ⟨v.w1, v.w2, v.h1, v.h2, carry_len v⟩
theorem r_carried {w h : Nat} {l : List Nat} {k : Nat} {s : Int} (v : VB w h l) (hk : k < 4) (hs : -1000000000 ≤ s ∧ s ≤ 1000000000) :
    fnM 11 m_own_carried [.sh (.bd w h l), .sh (.tup [.int k, .int s])] = .ok (.bd w h (carryL w h l k s)) [.sh (.bd w h l), .sh (.tup [.int k, .int s])] := by
  obtain ⟨w1, w2, h1, h2, hl⟩ := id v
  have hsm := v.small
  let G : Nat → Option D → Option D → Option D → SEnv := fun j a b c => [.sh (.bd w h l), .sh (.tup [.int k, .int s]), .sh (.int w), .sh (.int h), .sh (.st l), .sh (.int k), .ow (.lst (((List.range j).map (carryRow w h l k s)).map D.st)), .sh (.int (carryAt w k s)), osl a, osl b, osl c]
  have e0 : asgM (vr 0) (gtM 3 (unp1 (stS 2) (unp1 (stS 3) (unp1 (stS 4) unp0)))) [.sh (.bd w h l), .sh (.tup [.int k, .int s]), .no, .no, .no, .no, .no, .no, .no, .no, .no] = .ok .nx [.sh (.bd w h l), .sh (.tup [.int k, .int s]), .sh (.int w), .sh (.int h), .sh (.st l), .no, .no, .no, .no, .no, .no] := by
    walk_at "ev*"
  have i0 := @tup_ix0 (.int k) [.int s]
  have i1 := @tup_ix1 (.int k) (.int s) []
  have e1 : par2 false true 5 6 (bin D.ix (vr 1) (ret (.int 0))) (lstM (nilA)) [.sh (.bd w h l), .sh (.tup [.int k, .int s]), .sh (.int w), .sh (.int h), .sh (.st l), .no, .no, .no, .no, .no, .no] = .ok .nx [.sh (.bd w h l), .sh (.tup [.int k, .int s]), .sh (.int w), .sh (.int h), .sh (.st l), .sh (.int k), .ow (.lst []), .no, .no, .no, .no] := by
    have hz : sizeOk 0 = true := by decide
    walk_at "ev*"
  have e2 : asgM (bin D.mod (ifM (asB (bin D.lt (vr 5) (ret (.int 2)))) (bin D.sub (ret (.int 0)) (bin D.ix (vr 1) (ret (.int 1)))) (bin D.sub (bin D.sub (vr 2) (ret (.int 1))) (bin D.ix (vr 1) (ret (.int 1))))) (vr 2)) (stS 7)
      [.sh (.bd w h l), .sh (.tup [.int k, .int s]), .sh (.int w), .sh (.int h), .sh (.st l), .sh (.int k), .ow (.lst []), .no, .no, .no, .no] = .ok .nx (G 0 none none none) := by
    have hm : ∀ z : Int, D.mod (.int z) (.int (w : Int)) = some (.int (z % (w : Int))) := fun z => mod_ii (by omega)
    have hnn : ∀ z : Int, 0 ≤ z % (w : Int) := fun z => Int.emod_nonneg z (by omega)
    have ea : ((carryAt w k s : Nat) : Int) = (if k < 2 then 0 - s else (w : Int) - 1 - s) % (w : Int) := by
      unfold carryAt
      have := hnn (if k < 2 then 0 - s else (w : Int) - 1 - s)
      omega
    show _ = Res.ok Flow.nx [.sh (.bd w h l), .sh (.tup [.int k, .int s]), .sh (.int w), .sh (.int h), .sh (.st l), .sh (.int k), .ow (.lst []), .sh (.int (carryAt w k s)), .no, .no, .no]
    rw [ea]
    by_cases h2 : k < 2
    · have h3 : decide ((k : Int) < 2) = true := decide_eq_true (by omega)
      walk_at "ev*"
    · have h3 : decide ((k : Int) < 2) = false := decide_eq_false (by omega)
      walk_at "ev*"
  have loop : ∀ j, j < h → ∀ a b c, ∃ Γ1 Γ2, stS 8 (.int (j : Int)) (G j a b c) = .ok () Γ1 ∧ (sq (asgM (ifM (asB (bin D.isin (vr 5) (tupM (consA (ret (.int 1)) (consA (ret (.int 3)) (nilA)))))) (bin D.sub (bin D.sub (vr 3) (ret (.int 1))) (vr 8)) (vr 8)) (stS 9))
    (sq (asgM (sliceM (vr 4) (someI (bin D.mul (vr 9) (vr 2))) (someI (bin D.add (bin D.mul (vr 9) (vr 2)) (vr 2)))) (stS 10))
    (sq (asgM (ifM (asB (bin D.lt (vr 5) (ret (.int 2)))) (vr 10) (revM D.revS (vr 10))) (stS 10))
    (appS 6 (bin D.add (sliceM (vr 10) (someI (vr 7)) (ret none)) (sliceM (vr 10) (ret none) (someI (vr 7)))))))) Γ1 = .ok .nx Γ2 ∧ ∃ a b c, Γ2 = G (j + 1) a b c := by
    intro j hj a b c
    have hln := line_lt (k := k) hj
    generalize hL : carryLine h k j = L at hln
    have hrl := row_len v hln
    have f1 : asgM (ifM (asB (bin D.isin (vr 5) (tupM (consA (ret (.int 1)) (consA (ret (.int 3)) (nilA)))))) (bin D.sub (bin D.sub (vr 3) (ret (.int 1))) (vr 8)) (vr 8)) (stS 9) (G j (some (.int j)) b c) = .ok .nx (G j (some (.int j)) (some (.int L)) c) := by
      have hz : sizeOk 2 = true := by decide
      have h13 := in13 hk
      by_cases h2 : k = 1 ∨ k = 3
      · have h3 : decide (k = 1 ∨ k = 3) = true := decide_eq_true h2
        have e : (h : Int) - 1 - (j : Int) = (L : Int) := by
          unfold carryLine at hL
          rw [if_pos h2] at hL
          omega
        show asgM _ _ [.sh (.bd w h l), .sh (.tup [.int k, .int s]), .sh (.int w), .sh (.int h), .sh (.st l), .sh (.int k), .ow (.lst (((List.range j).map (carryRow w h l k s)).map D.st)), .sh (.int (carryAt w k s)), .sh (.int j), osl b, osl c] = Res.ok Flow.nx [.sh (.bd w h l), .sh (.tup [.int k, .int s]), .sh (.int w), .sh (.int h), .sh (.st l), .sh (.int k), .ow (.lst (((List.range j).map (carryRow w h l k s)).map D.st)), .sh (.int (carryAt w k s)), .sh (.int j), .sh (.int L), osl c]
        clear i0 i1 e0 e1 e2 hl v
        cases b <;> simp only [osl] <;> walk_at "ev*"
      · have h3 : decide (k = 1 ∨ k = 3) = false := decide_eq_false h2
        have e : (j : Int) = (L : Int) := by
          unfold carryLine at hL
          rw [if_neg h2] at hL
          omega
        show asgM _ _ [.sh (.bd w h l), .sh (.tup [.int k, .int s]), .sh (.int w), .sh (.int h), .sh (.st l), .sh (.int k), .ow (.lst (((List.range j).map (carryRow w h l k s)).map D.st)), .sh (.int (carryAt w k s)), .sh (.int j), osl b, osl c] = Res.ok Flow.nx [.sh (.bd w h l), .sh (.tup [.int k, .int s]), .sh (.int w), .sh (.int h), .sh (.st l), .sh (.int k), .ow (.lst (((List.range j).map (carryRow w h l k s)).map D.st)), .sh (.int (carryAt w k s)), .sh (.int j), .sh (.int L), osl c]
        rw [← e]
        clear i0 i1 e0 e1 e2 hl v e
        cases b <;> simp only [osl] <;> walk_at "ev*"
    clear i0 i1 e0 e1 e2
    have hLw : L * w + w ≤ l.length := by
      rw [hl]
      have := Nat.mul_le_mul_right w (show L + 1 ≤ h by omega)
      rw [Nat.add_mul, Nat.one_mul, Nat.mul_comm h w] at this
      exact this
    have f2 : asgM (sliceM (vr 4) (someI (bin D.mul (vr 9) (vr 2))) (someI (bin D.add (bin D.mul (vr 9) (vr 2)) (vr 2)))) (stS 10) (G j (some (.int j)) (some (.int L)) c) = .ok .nx (G j (some (.int j)) (some (.int L)) (some (.st (rowOf w l L)))) := by
      have m1 : D.mul (.int (L : Int)) (.int (w : Int)) = some (.int ((L * w : Nat) : Int)) := mul_nn (by omega) (by omega)
      have m2 : ((L * w : Nat) : Int) + (w : Int) = ((L * w + w : Nat) : Int) := by omega
      have m3 := slice_mid (l := l) (a := L * w) (b := L * w + w) (by omega) (by omega) hLw
      have m4 : (l.drop (L * w)).take (L * w + w - L * w) = rowOf w l L := by
        unfold rowOf
        congr 1
        omega
      rw [m4] at m3
      clear m4
      show asgM _ _ [.sh (.bd w h l), .sh (.tup [.int k, .int s]), .sh (.int w), .sh (.int h), .sh (.st l), .sh (.int k), .ow (.lst (((List.range j).map (carryRow w h l k s)).map D.st)), .sh (.int (carryAt w k s)), .sh (.int j), .sh (.int L), osl c] = Res.ok Flow.nx [.sh (.bd w h l), .sh (.tup [.int k, .int s]), .sh (.int w), .sh (.int h), .sh (.st l), .sh (.int k), .ow (.lst (((List.range j).map (carryRow w h l k s)).map D.st)), .sh (.int (carryAt w k s)), .sh (.int j), .sh (.int L), .sh (.st (rowOf w l L))]
      clear f1 hl v hL
      cases c <;> simp only [osl] <;> walk_at "ev*"
    have f3 : asgM (ifM (asB (bin D.lt (vr 5) (ret (.int 2)))) (vr 10) (revM D.revS (vr 10))) (stS 10) (G j (some (.int j)) (some (.int L)) (some (.st (rowOf w l L)))) = .ok .nx (G j (some (.int j)) (some (.int L)) (some (.st (if k < 2 then rowOf w l L else (rowOf w l L).reverse)))) := by
      have r0 := rev_st (l := rowOf w l L) (by omega)
      show asgM _ _ [.sh (.bd w h l), .sh (.tup [.int k, .int s]), .sh (.int w), .sh (.int h), .sh (.st l), .sh (.int k), .ow (.lst (((List.range j).map (carryRow w h l k s)).map D.st)), .sh (.int (carryAt w k s)), .sh (.int j), .sh (.int L), .sh (.st (rowOf w l L))] = Res.ok Flow.nx [.sh (.bd w h l), .sh (.tup [.int k, .int s]), .sh (.int w), .sh (.int h), .sh (.st l), .sh (.int k), .ow (.lst (((List.range j).map (carryRow w h l k s)).map D.st)), .sh (.int (carryAt w k s)), .sh (.int j), .sh (.int L), .sh (.st (if k < 2 then rowOf w l L else (rowOf w l L).reverse))]
      clear f1 f2 hl v hL
      by_cases h2 : k < 2
      · have h3 : decide ((k : Int) < 2) = true := decide_eq_true (by omega)
        walk_at "ev*"
      · have h3 : decide ((k : Int) < 2) = false := decide_eq_false (by omega)
        walk_at "ev*"
    have f4 : appS 6 (bin D.add (sliceM (vr 10) (someI (vr 7)) (ret none)) (sliceM (vr 10) (ret none) (someI (vr 7)))) (G j (some (.int j)) (some (.int L)) (some (.st (if k < 2 then rowOf w l L else (rowOf w l L).reverse)))) = .ok .nx (G (j + 1) (some (.int j)) (some (.int L)) (some (.st (if k < 2 then rowOf w l L else (rowOf w l L).reverse)))) := by
      have hrow : carryRow w h l k s j = (if k < 2 then rowOf w l L else (rowOf w l L).reverse).drop (carryAt w k s) ++ (if k < 2 then rowOf w l L else (rowOf w l L).reverse).take (carryAt w k s) := by
        unfold carryRow
        rw [hL]
      have hat := at_lt (k := k) (s := s) w1
      generalize hR : (if k < 2 then rowOf w l L else (rowOf w l L).reverse) = R at hrow
      have hRl : R.length = w := by
        rw [← hR]
        split
        · exact hrl
        · rw [List.length_reverse, hrl]
      have g1 := slice_from (l := R) (a := carryAt w k s) (by omega) (by omega)
      have g2 := slice_to (l := R) (b := carryAt w k s) (by omega)
      have g3 := add_st (a := R.drop (carryAt w k s)) (b := R.take (carryAt w k s)) (by rw [List.length_drop, List.length_take]; omega)
      rw [← hrow] at g3
      have g4 : D.app (.st (carryRow w h l k s j)) (.lst (((List.range j).map (carryRow w h l k s)).map D.st)) = some (.lst (((List.range (j + 1)).map (carryRow w h l k s)).map D.st)) := by
        have hz : decide ((((List.range j).map (carryRow w h l k s)).map D.st).length < sizeLine) = true := decide_eq_true (by
          rw [List.length_map, List.length_map, List.length_range]
          have : (1000 : Nat) < sizeLine := by decide
          omega)
        show (if decide ((((List.range j).map (carryRow w h l k s)).map D.st).length < sizeLine) = true then some (D.lst (((List.range j).map (carryRow w h l k s)).map D.st ++ [.st (carryRow w h l k s j)])) else none) = _
        rw [if_pos hz, List.range_succ, List.map_append, List.map_append]
        rfl
      show appS _ _ [.sh (.bd w h l), .sh (.tup [.int k, .int s]), .sh (.int w), .sh (.int h), .sh (.st l), .sh (.int k), .ow (.lst (((List.range j).map (carryRow w h l k s)).map D.st)), .sh (.int (carryAt w k s)), .sh (.int j), .sh (.int L), .sh (.st R)] = Res.ok Flow.nx [.sh (.bd w h l), .sh (.tup [.int k, .int s]), .sh (.int w), .sh (.int h), .sh (.st l), .sh (.int k), .ow (.lst (((List.range (j + 1)).map (carryRow w h l k s)).map D.st)), .sh (.int (carryAt w k s)), .sh (.int j), .sh (.int L), .sh (.st R)]
      clear f1 f2 f3 hl v hL hrow
      walk_at "ev*"
    exact ⟨G j (some (.int j)) b c, _, by cases a <;> rfl, by rw [sq_nx f1, sq_nx f2, sq_nx f3, f4], _, _, _, rfl⟩
  have hi : rangeM (consA (vr 3) (nilA)) (G 0 none none none) = .ok (rng 0 1 h) (G 0 none none none) := by
    exact rangeM_n rfl (by omega)
  obtain ⟨Γ', e3, a, b, c, rfl⟩ := forL_rng (n := h) (fun j Γ => ∃ a b c, Γ = G j a b c) (fun j hj Γ ⟨a, b, c, hΓ⟩ => by rw [hΓ]; exact loop j hj a b c) ⟨none, none, none, rfl⟩
  have e4 : rtM (tupM (consA (vr 2) (consA (vr 3) (consA (strM D.join (ret (.str "")) (vr 6)) (nilA))))) (G h a b c) = .ok (.rt (.bd w h (carryL w h l k s))) ((G h a b c).set 6 (.sh (.lst (((List.range h).map (carryRow w h l k s)).map D.st)))) := by
    have hj := join_st (ls := (List.range h).map (carryRow w h l k s)) (by
      have := carry_len v (k := k) (s := s)
      unfold carryL at this
      rw [this, ← hl]
      omega)
    have hz : sizeOk 3 = true := by decide
    show rtM _ [.sh (.bd w h l), .sh (.tup [.int k, .int s]), .sh (.int w), .sh (.int h), .sh (.st l), .sh (.int k), .ow (.lst (((List.range h).map (carryRow w h l k s)).map D.st)), .sh (.int (carryAt w k s)), osl a, osl b, osl c] = Res.ok _ [.sh (.bd w h l), .sh (.tup [.int k, .int s]), .sh (.int w), .sh (.int h), .sh (.st l), .sh (.int k), .sh (.lst (((List.range h).map (carryRow w h l k s)).map D.st)), .sh (.int (carryAt w k s)), osl a, osl b, osl c]
    clear e0 e1 e2 e3 loop hi i0 i1 hl v
    walk_at "ev*"
    rfl
  refine fnM_rt (Δ := (G h a b c).set 6 (.sh (.lst (((List.range h).map (carryRow w h l k s)).map D.st)))) ?_ rfl
  show m_own_carried [.sh (.bd w h l), .sh (.tup [.int k, .int s]), .no, .no, .no, .no, .no, .no, .no, .no, .no] = _
  unfold m_own_carried
  rw [sq_nx e0, sq_nx e1, sq_nx e2, sq_nx ((for_ok hi).trans e3), e4]
end DL.K70
set_option Elab.async false
set_option linter.all false
set_option maxRecDepth 100000
set_option maxHeartbeats 4000000
set_option autoImplicit false
namespace DL.K70
open PySem L2 DL
local macro_rules | `(tactic| walk_at "ev*") => `(tactic| simp only [sq, asgM, ifM, andV, orV, notV, andM, orM, notM, asB, rtM, bin, chainM, opB, isiM, appM, revM, callM, opt, ret, consA, nilA, tupM, lstM, vr, stS, stO, stM, mkS, mrg, pixM, pkM, gdM, Sl.own, Sl.put, subS, putM, appS, D.isL, sliceM, someI, strM, gtM, unp1, unp0, par2, dropM, isi_int_int, isi_bool_int, le_ii, lt_ii, eq_ii, ne_ii, gt_ii, ge_ii, add_ii, sub_ii, ix_left, ix_cell, ix_turns, put_left, put_turns,
  ↓bnd, List.getElem?_cons_zero, List.getElem?_cons_succ, List.set_cons_zero, List.set_cons_succ, List.cons_append, List.nil_append, List.length_cons, List.length_nil, List.replicate, Nat.zero_add, Nat.reduceAdd, Nat.reduceSub, List.append_nil, if_true, Bool.not_true, Bool.not_false, Bool.false_eq_true, if_false, ite_true, ite_false, decide_true, decide_false, ↓reduceIte, List.map_cons, List.map_nil, *])
/-! ### hues, images -/
def hue (w : Nat) (l : List Nat) (x : Int) (y : Nat) : Nat := l.getD (y * w + (x % (w : Int)).toNat) 0
def imgX (k : Nat) (s x : Int) : Int := if k < 2 then x + s else s - x
theorem cell_lt {w h y : Nat} (hy : y < h) {i : Nat} (hi : i < w) : y * w + i < w * h := by
  have := Nat.mul_le_mul_right w (show y + 1 ≤ h by omega)
  rw [Nat.add_mul, Nat.one_mul, Nat.mul_comm h w] at this
  omega
theorem mod_nat {w : Nat} (hw : 1 ≤ w) (x : Int) : ((x % (w : Int)).toNat : Int) = x % (w : Int) ∧ (x % (w : Int)).toNat < w := by
  have h1 := Int.emod_nonneg x (show (w : Int) ≠ 0 by omega)
  have h2 := Int.emod_lt_of_pos x (show (0 : Int) < w by omega)
  omega
theorem hue_at {w h : Nat} {l : List Nat} (v : VB w h l) {x : Int} {y : Nat} (hy : y < h) : l[y * w + (x % (w : Int)).toNat]? = some (hue w l x y) := by
  have h1 := (mod_nat v.w1 x).2
  have h2 := cell_lt (w := w) hy h1
  rw [← v.len] at h2
  unfold hue
  rw [List.getD_eq_getElem?_getD, List.getElem?_eq_getElem h2]
  rfl
theorem r_hue {w h : Nat} {l : List Nat} (v : VB w h l) {x : Int} {y : Nat} (hy : y < h) :
    fnM 3 m__law_hue [.sh (.bd w h l), .sh (.int x), .sh (.int y)] = .ok (.st [hue w l x y]) [.sh (.bd w h l), .sh (.int x), .sh (.int y)] := by
  have hsm := v.small
  have hw := v.w2
  have hh := v.h2
  have i0 := @tup_ix0 (.int w) [.int h, .st l]
  have i2 := @tup_ix2 (.int w) (.int h) (.st l) []
  have m1 : D.mul (.int (y : Int)) (.int (w : Int)) = some (.int ((y * w : Nat) : Int)) := mul_nn (by omega) (by omega)
  have m2 : D.mod (.int x) (.int (w : Int)) = some (.int (x % (w : Int))) := mod_ii (by have := v.w1; omega)
  have m3 : ((y * w : Nat) : Int) + x % (w : Int) = ((y * w + (x % (w : Int)).toNat : Nat) : Int) := by
    have := (mod_nat v.w1 x).1
    omega
  have m4 := ix_st (by omega) (hue_at v (x := x) hy)
  refine fnM_rt (Δ := [.sh (.bd w h l), .sh (.int x), .sh (.int y)]) ?_ rfl
  show m__law_hue [.sh (.bd w h l), .sh (.int x), .sh (.int y)] = _
  unfold m__law_hue
  clear v hsm hw hh
  walk_at "ev*"
theorem r_own_colour {w h : Nat} {l : List Nat} (v : VB w h l) {x : Int} {y : Nat} (hy : y < h) :
    fnM 3 m_own_colour [.sh (.bd w h l), .sh (.int x), .sh (.int y)] = .ok (.st [hue w l x y]) [.sh (.bd w h l), .sh (.int x), .sh (.int y)] := r_hue v hy
theorem r_image {h k y : Nat} {s x : Int} (hk : k < 4) (hy : y < h) :
    fnM 6 m__law_image [.sh (.int h), .sh (.tup [.int k, .int s]), .sh (.int x), .sh (.int y)] = .ok (.tup [.int (imgX k s x), .int (carryLine h k y)]) [.sh (.int h), .sh (.tup [.int k, .int s]), .sh (.int x), .sh (.int y)] := by
  have h13 := in13 hk
  have hz : sizeOk 2 = true := by decide
  refine fnM_rt (Δ := [.sh (.int h), .sh (.tup [.int k, .int s]), .sh (.int x), .sh (.int y), .sh (.int k), .sh (.int s)]) ?_ rfl
  show m__law_image [.sh (.int h), .sh (.tup [.int k, .int s]), .sh (.int x), .sh (.int y), .no, .no] = _
  unfold m__law_image imgX carryLine
  by_cases h2 : k < 2
  · have h3 : decide ((k : Int) < 2) = true := decide_eq_true (by omega)
    by_cases h4 : k = 1 ∨ k = 3
    · have h5 : decide (k = 1 ∨ k = 3) = true := decide_eq_true h4
      have e : (h : Int) - 1 - (y : Int) = ((h - 1 - y : Nat) : Int) := by omega
      walk_at "ev*"
    · have h5 : decide (k = 1 ∨ k = 3) = false := decide_eq_false h4
      walk_at "ev*"
  · have h3 : decide ((k : Int) < 2) = false := decide_eq_false (by omega)
    by_cases h4 : k = 1 ∨ k = 3
    · have h5 : decide (k = 1 ∨ k = 3) = true := decide_eq_true h4
      have e : (h : Int) - 1 - (y : Int) = ((h - 1 - y : Nat) : Int) := by omega
      walk_at "ev*"
    · have h5 : decide (k = 1 ∨ k = 3) = false := decide_eq_false h4
      walk_at "ev*"
end DL.K70
set_option Elab.async false
set_option linter.all false
set_option maxRecDepth 100000
set_option maxHeartbeats 4000000
set_option autoImplicit false
namespace DL
open PySem L2
theorem rng_map {n : Nat} : rng 0 1 n = (List.range n).map fun (j : Nat) => D.int (j : Int) := by
  unfold rng
  refine List.map_congr_left fun j _ => ?_
  congr 1
  omega
def flowOf (o : Option D) : Flow := match o with
  | some z => .rt z
  | none => .nx
theorem forL_first {α : Type} {f : α → D} {g : D → M Unit} {body : M Flow} (I : SEnv → Prop) (p : α → Option D) : ∀ (js : List α) (Γ : SEnv), (∀ j ∈ js, ∀ Γ, I Γ → ∃ Γ1 Γ2, g (f j) Γ = .ok () Γ1 ∧ I Γ2 ∧ body Γ1 = .ok (flowOf (p j)) Γ2) → I Γ →
    ∃ Γ', I Γ' ∧ forL g body (js.map f) Γ = .ok (flowOf (js.findSome? p)) Γ'
  | [], Γ, _, q => ⟨Γ, q, rfl⟩
  | j :: js, Γ, h, q => by
    obtain ⟨Γ1, Γ2, e1, q2, e2⟩ := h j List.mem_cons_self Γ q
    rw [List.map_cons, List.findSome?_cons]
    cases hp : p j with
    | none =>
      rw [hp] at e2
      obtain ⟨Γ', q3, e3⟩ := forL_first I p js Γ2 (fun x hx => h x (List.mem_cons_of_mem _ hx)) q2
      exact ⟨Γ', q3, by rw [forL_go e1 e2, e3]⟩
    | some z =>
      rw [hp] at e2
      refine ⟨Γ2, q2, ?_⟩
      rw [forL]
      unfold bnd
      simp only [e1, bnd]
      rw [e2]
      rfl
theorem find_all {α : Type} {c : α → Bool} {z : D} : ∀ js : List α, js.findSome? (fun j => if c j = true then none else some z) = if js.all c = true then none else some z
  | [] => rfl
  | j :: js => by
    rw [List.findSome?_cons, List.all_cons]
    cases h : c j with
    | true => simp only [if_true, Bool.true_and]; exact find_all js
    | false => simp
end DL
namespace DL.K70
open PySem L2 DL
local macro_rules | `(tactic| walk_at "ev*") => `(tactic| simp only [sq, asgM, ifM, andV, orV, notV, andM, orM, notM, asB, rtM, bin, chainM, opB, isiM, appM, revM, callM, opt, ret, consA, nilA, tupM, lstM, vr, stS, stO, stM, mkS, mrg, pixM, pkM, gdM, Sl.own, Sl.put, subS, putM, appS, D.isL, sliceM, someI, strM, gtM, unp1, unp0, par2, dropM, isi_int_int, isi_bool_int, le_ii, lt_ii, eq_ii, ne_ii, gt_ii, ge_ii, add_ii, sub_ii, ix_left, ix_cell, ix_turns, put_left, put_turns,
  ↓bnd, List.getElem?_cons_zero, List.getElem?_cons_succ, List.set_cons_zero, List.set_cons_succ, List.cons_append, List.nil_append, List.length_cons, List.length_nil, List.replicate, Nat.zero_add, Nat.reduceAdd, Nat.reduceSub, List.append_nil, if_true, Bool.not_true, Bool.not_false, Bool.false_eq_true, if_false, ite_true, ite_false, decide_true, decide_false, ↓reduceIte, List.map_cons, List.map_nil, *])
def leadsB (w h : Nat) (l : List Nat) (w2 : Nat) (l2 : List Nat) (k : Nat) (s : Int) : Bool := (List.range h).all fun y => (List.range (w * w2)).all fun x => decide (hue w l (x : Int) y = hue w2 l2 (imgX k s x) (carryLine h k y))
theorem r_leads {w h : Nat} {l : List Nat} {w2 h2 : Nat} {l2 : List Nat} {k : Nat} {s : Int} (v : VB w h l) (v2 : VB w2 h2 l2) (hk : k < 4) :
    fnM 7 m__law_leads [.sh (.bd w h l), .sh (.bd w2 h2 l2), .sh (.tup [.int k, .int s])] = .ok (.bl (decide (h = h2) && leadsB w h l w2 l2 k s)) [.sh (.bd w h l), .sh (.bd w2 h2 l2), .sh (.tup [.int k, .int s])] := by
  have i0 := @tup_ix0 (.int w) [.int h, .st l]
  have i1 := @tup_ix1 (.int w) (.int h) [.st l]
  have j0 := @tup_ix0 (.int w2) [.int h2, .st l2]
  have j1 := @tup_ix1 (.int w2) (.int h2) [.st l2]
  let G : Option D → Option D → Option D → Option D → SEnv := fun a b c d => [.sh (.bd w h l), .sh (.bd w2 h2 l2), .sh (.tup [.int k, .int s]), osl a, osl b, osl c, osl d]
  by_cases he : h = h2
  · subst he
    have e0 : ifM (asB (bin D.ne (bin D.ix (vr 0) (ret (.int 1))) (bin D.ix (vr 1) (ret (.int 1))))) (rtM (ret (.bl false))) (ret .nx) (G none none none none) = .ok .nx (G none none none none) := by
      have hd : decide ((h : Int) = (h : Int)) = true := decide_eq_true rfl
      show ifM _ _ _ [.sh (.bd w h l), .sh (.bd w2 h l2), .sh (.tup [.int k, .int s]), .no, .no, .no, .no] = Res.ok Flow.nx [.sh (.bd w h l), .sh (.bd w2 h l2), .sh (.tup [.int k, .int s]), .no, .no, .no, .no]
      walk_at "ev*"
    have inner : ∀ y, y < h → ∀ x, x < w * w2 → ∀ b c d, ∃ Γ1 Γ2, stS 4 (.int (x : Int)) (G (some (.int (y : Int))) b c d) = .ok () Γ1 ∧ (∃ b c d, Γ2 = G (some (.int (y : Int))) b c d) ∧ (sq (asgM (callM (fnM 6 m__law_image) (consA (bin D.ix (vr 0) (ret (.int 1))) (consA (vr 2) (consA (vr 4) (consA (vr 3) (nilA)))))) (gtM 2 (unp1 (stS 5) (unp1 (stS 6) unp0))))
    (ifM (asB (bin D.ne (callM (fnM 3 m__law_hue) (consA (vr 0) (consA (vr 4) (consA (vr 3) (nilA))))) (callM (fnM 3 m__law_hue) (consA (vr 1) (consA (vr 5) (consA (vr 6) (nilA))))))) (rtM (ret (.bl false))) (ret .nx))) Γ1 =
        .ok (flowOf (if decide (hue w l (x : Int) y = hue w2 l2 (imgX k s x) (carryLine h k y)) = true then none else some (.bl false))) Γ2 := by
      intro y hy x hx b c d
      have ri := r_image (h := h) (s := s) (x := (x : Int)) hk hy
      have r1 := r_hue v (x := (x : Int)) hy
      have r2 := r_hue v2 (x := imgX k s x) (line_lt (k := k) hy)
      refine ⟨G (some (.int (y : Int))) (some (.int (x : Int))) c d, G (some (.int (y : Int))) (some (.int (x : Int))) (some (.int (imgX k s x))) (some (.int (carryLine h k y))), by cases b <;> rfl, ⟨_, _, _, rfl⟩, ?_⟩
      show sq _ _ [.sh (.bd w h l), .sh (.bd w2 h l2), .sh (.tup [.int k, .int s]), .sh (.int (y : Int)), .sh (.int (x : Int)), osl c, osl d] = Res.ok _ [.sh (.bd w h l), .sh (.bd w2 h l2), .sh (.tup [.int k, .int s]), .sh (.int (y : Int)), .sh (.int (x : Int)), .sh (.int (imgX k s x)), .sh (.int (carryLine h k y))]
      have hn := @ne_st [hue w l (x : Int) y] [hue w2 l2 (imgX k s x) (carryLine h k y)]
      generalize hue w l (x : Int) y = p at *
      generalize hue w2 l2 (imgX k s x) (carryLine h k y) = q at *
      clear e0 v v2
      by_cases hpq : p = q
      · have h3 : decide (p = q) = true := decide_eq_true hpq
        have h4 : decide ([p] = [q]) = true := decide_eq_true (by rw [hpq])
        rw [h4] at hn
        clear hpq h4
        cases c <;> cases d <;> simp only [osl] <;> walk_at "ev*" <;> rfl
      · have h3 : decide (p = q) = false := decide_eq_false hpq
        have h4 : decide ([p] = [q]) = false := decide_eq_false (by simpa using hpq)
        rw [h4] at hn
        clear hpq h4
        cases c <;> cases d <;> simp only [osl] <;> walk_at "ev*" <;> rfl
    have outer : ∀ y, y < h → ∀ a b c d, ∃ Γ1 Γ2, stS 3 (.int (y : Int)) (G a b c d) = .ok () Γ1 ∧ (∃ a b c d, Γ2 = G a b c d) ∧ forM (rangeM (consA (bin D.mul (bin D.ix (vr 0) (ret (.int 0))) (bin D.ix (vr 1) (ret (.int 0)))) (nilA))) (stS 4) (sq (asgM (callM (fnM 6 m__law_image) (consA (bin D.ix (vr 0) (ret (.int 1))) (consA (vr 2) (consA (vr 4) (consA (vr 3) (nilA)))))) (gtM 2 (unp1 (stS 5) (unp1 (stS 6) unp0))))
    (ifM (asB (bin D.ne (callM (fnM 3 m__law_hue) (consA (vr 0) (consA (vr 4) (consA (vr 3) (nilA))))) (callM (fnM 3 m__law_hue) (consA (vr 1) (consA (vr 5) (consA (vr 6) (nilA))))))) (rtM (ret (.bl false))) (ret .nx))) Γ1 =
        .ok (flowOf (if ((List.range (w * w2)).all fun x => decide (hue w l (x : Int) y = hue w2 l2 (imgX k s x) (carryLine h k y))) = true then none else some (.bl false))) Γ2 := by
      intro y hy a b c d
      have hww : w * w2 ≤ 10000 := Nat.mul_le_mul v.w2 v2.w2
      have hi : rangeM (consA (bin D.mul (bin D.ix (vr 0) (ret (.int 0))) (bin D.ix (vr 1) (ret (.int 0)))) (nilA)) (G (some (.int (y : Int))) b c d) = .ok (rng 0 1 (w * w2)) (G (some (.int (y : Int))) b c d) := by
        have hw := v.w2
        have hw2 := v2.w2
        have m1 : D.mul (.int (w : Int)) (.int (w2 : Int)) = some (.int ((w * w2 : Nat) : Int)) := mul_nn (by omega) (by omega)
        refine rangeM_n ?_ (by omega)
        show consA _ _ [.sh (.bd w h l), .sh (.bd w2 h l2), .sh (.tup [.int k, .int s]), .sh (.int (y : Int)), osl b, osl c, osl d] = Res.ok _ [.sh (.bd w h l), .sh (.bd w2 h l2), .sh (.tup [.int k, .int s]), .sh (.int (y : Int)), osl b, osl c, osl d]
        clear inner e0 v v2
        walk_at "ev*"
      obtain ⟨Γ', ⟨b', c', d', rfl⟩, e3⟩ := forL_first (f := fun (j : Nat) => D.int (j : Int)) (fun Γ => ∃ b c d, Γ = G (some (.int (y : Int))) b c d) (fun x => if decide (hue w l (x : Int) y = hue w2 l2 (imgX k s x) (carryLine h k y)) = true then none else some (.bl false)) (List.range (w * w2)) _
        (fun x hx Γ ⟨b, c, d, hΓ⟩ => by rw [hΓ]; exact inner y hy x (List.mem_range.mp hx) b c d) ⟨b, c, d, rfl⟩
      refine ⟨G (some (.int (y : Int))) b c d, G (some (.int (y : Int))) b' c' d', by cases a <;> rfl, ⟨_, _, _, _, rfl⟩, ?_⟩
      rw [for_ok hi, rng_map, e3, find_all]
    have hi : rangeM (consA (bin D.ix (vr 0) (ret (.int 1))) (nilA)) (G none none none none) = .ok (rng 0 1 h) (G none none none none) := by
      refine rangeM_n ?_ (by have := v.h2; omega)
      show consA _ _ [.sh (.bd w h l), .sh (.bd w2 h l2), .sh (.tup [.int k, .int s]), .no, .no, .no, .no] = Res.ok _ [.sh (.bd w h l), .sh (.bd w2 h l2), .sh (.tup [.int k, .int s]), .no, .no, .no, .no]
      clear inner outer e0 v v2
      walk_at "ev*"
    obtain ⟨Γ', ⟨a', b', c', d', rfl⟩, e3⟩ := forL_first (f := fun (j : Nat) => D.int (j : Int)) (fun Γ => ∃ a b c d, Γ = G a b c d) (fun y => if ((List.range (w * w2)).all fun x => decide (hue w l (x : Int) y = hue w2 l2 (imgX k s x) (carryLine h k y))) = true then none else some (.bl false)) (List.range h) _
        (fun y hy Γ ⟨a, b, c, d, hΓ⟩ => by rw [hΓ]; exact outer y (List.mem_range.mp hy) a b c d) ⟨none, none, none, none, rfl⟩
    rw [find_all] at e3
    have e4 := (for_ok (g := stS 3) hi).trans ((congrArg (fun z => forL _ _ z _) rng_map).trans e3)
    have hd : decide (h = h) = true := decide_eq_true rfl
    rw [hd, Bool.true_and]
    refine fnM_rt (Δ := G a' b' c' d') ?_ rfl
    show m__law_leads (G none none none none) = _
    unfold m__law_leads
    rw [sq_nx e0]
    unfold leadsB
    cases hb : ((List.range h).all fun y => (List.range (w * w2)).all fun x => decide (hue w l (x : Int) y = hue w2 l2 (imgX k s x) (carryLine h k y))) with
    | true =>
      rw [hb] at e4
      rw [sq_nx e4]
      rfl
    | false =>
      rw [hb] at e4
      rw [sq_rt e4]
  · have hd : decide (h = h2) = false := decide_eq_false he
    rw [hd, Bool.false_and]
    refine fnM_rt (Δ := G none none none none) ?_ rfl
    show m__law_leads [.sh (.bd w h l), .sh (.bd w2 h2 l2), .sh (.tup [.int k, .int s]), .no, .no, .no, .no] = Res.ok _ [.sh (.bd w h l), .sh (.bd w2 h2 l2), .sh (.tup [.int k, .int s]), .no, .no, .no, .no]
    have hd2 : decide ((h : Int) = (h2 : Int)) = false := decide_eq_false (by omega)
    unfold m__law_leads
    refine sq_rt ?_
    clear v v2
    walk_at "ev*"
end DL.K70
set_option Elab.async false
set_option linter.all false
set_option maxRecDepth 100000
set_option maxHeartbeats 4000000
set_option autoImplicit false
namespace DL
open PySem L2
/-! ### a mirror at work, goal by goal -/
structure Rn {α : Type} (m : M α) (Γ : SEnv) (Q : α → SEnv → Prop) : Prop where
  ex : ∃ a Γ', m Γ = .ok a Γ' ∧ Q a Γ'
inductive Wn {α : Type} : Res α → (α → SEnv → Prop) → Prop
  | ok {a : α} {Γ : SEnv} {Q : α → SEnv → Prop} (h : Q a Γ) : Wn (.ok a Γ) Q
def kq (b : M Flow) (Q : Flow → SEnv → Prop) : Flow → SEnv → Prop := fun fl Γ => match fl with
  | .nx => Rn b Γ Q
  | fl => Q fl Γ
theorem wn_ok {α : Type} {a : α} {Γ : SEnv} {Q : α → SEnv → Prop} (h : Q a Γ) : Wn (.ok a Γ) Q := .ok h
theorem wn_nx {b : M Flow} {Γ : SEnv} {Q : Flow → SEnv → Prop} (h : Rn b Γ Q) : Wn (.ok .nx Γ) (kq b Q) := .ok h
theorem wn_rt {b : M Flow} {Γ : SEnv} {d : D} {Q : Flow → SEnv → Prop} (h : Q (.rt d) Γ) : Wn (.ok (.rt d) Γ) (kq b Q) := .ok h
theorem kq_nx {b : M Flow} {Γ : SEnv} {Q : Flow → SEnv → Prop} (h : Rn b Γ Q) : kq b Q .nx Γ := h
theorem kq_rt {b : M Flow} {Γ : SEnv} {d : D} {Q : Flow → SEnv → Prop} (h : Q (.rt d) Γ) : kq b Q (.rt d) Γ := h
theorem rn_out {α : Type} {m : M α} {Γ : SEnv} {Q : α → SEnv → Prop} (h : Rn m Γ Q) : ∃ a Γ', m Γ = .ok a Γ' ∧ Q a Γ' := h.ex
theorem rn_in {α : Type} {m : M α} {Γ Γ' : SEnv} {a : α} {Q : α → SEnv → Prop} (e : m Γ = .ok a Γ') (h : Q a Γ') : Rn m Γ Q := ⟨a, Γ', e, h⟩
theorem rn_wn {α : Type} {m : M α} {Γ : SEnv} {Q : α → SEnv → Prop} (h : Wn (m Γ) Q) : Rn m Γ Q := by
  generalize e : m Γ = r at h
  cases h with
  | ok h => exact ⟨_, _, e, h⟩
theorem rn_bnd {α β : Type} {m : M α} {f : α → M β} {Γ : SEnv} {Q : β → SEnv → Prop} (h : Rn m Γ fun a Γ' => Rn (f a) Γ' Q) : Rn (bnd m f) Γ Q := by
  obtain ⟨a, Γ', e, h⟩ := rn_out h
  obtain ⟨c, Γ2, e2, h2⟩ := rn_out h
  refine rn_in ?_ h2
  unfold bnd
  rw [e]
  exact e2
theorem rn_mono {α : Type} {m : M α} {Γ : SEnv} {Q R : α → SEnv → Prop} (h : Rn m Γ Q) (i : ∀ a Γ', Q a Γ' → R a Γ') : Rn m Γ R := by
  obtain ⟨a, Γ', e, h⟩ := rn_out h
  exact rn_in e (i _ _ h)
theorem rn_sq {a b : M Flow} {Γ : SEnv} {Q : Flow → SEnv → Prop} (h : Rn a Γ (kq b Q)) : Rn (sq a b) Γ Q := by
  refine rn_bnd (rn_mono h fun fl Γ' q => ?_)
  cases fl with
  | nx => exact q
  | _ => exact rn_in rfl q
theorem rn_step {a b : M Flow} {Γ : SEnv} {Q : Flow → SEnv → Prop} (h : ∀ r, a Γ = r → Wn r (kq b Q)) : Rn (sq a b) Γ Q := rn_sq (rn_wn (h _ rfl))
theorem rn_last {α : Type} {a : M α} {Γ : SEnv} {Q : α → SEnv → Prop} (h : ∀ r, a Γ = r → Wn r Q) : Rn a Γ Q := rn_wn (h _ rfl)
theorem rn_if {α : Type} {c : M Bool} {x y : M α} {Γ Γ' : SEnv} {b : Bool} {Q : α → SEnv → Prop} (e : c Γ = .ok b Γ') (ht : b = true → Rn x Γ' Q) (hf : b = false → Rn y Γ' Q) : Rn (ifM c x y) Γ Q := by
  unfold ifM
  refine rn_bnd (rn_in e ?_)
  cases b with
  | true => exact ht rfl
  | false => exact hf rfl
/-- what a loop's body has to do at the cell j -/
def lq (I : SEnv → Prop) (Q : Flow → SEnv → Prop) : Flow → SEnv → Prop := fun fl Γ => match fl with
  | .nx => I Γ
  | .ct => I Γ
  | .bk => Q .nx Γ
  | .rt d => Q (.rt d) Γ
theorem rn_forL {g : D → M Unit} {body : M Flow} {Q : Flow → SEnv → Prop} {l : List D} (I : Nat → SEnv → Prop) (hs : ∀ j d, l[j]? = some d → ∀ Γ, I j Γ → Rn (bnd (g d) fun _ => body) Γ (lq (I (j + 1)) Q)) (hq : ∀ Γ, I l.length Γ → Q .nx Γ) :
    ∀ (n j : Nat) (Γ : SEnv), n + j = l.length → I j Γ → Rn (forL g body (l.drop j)) Γ Q
  | 0, j, Γ, e, q => by
    rw [List.drop_of_length_le (by omega)]
    have : j = l.length := by omega
    subst this
    exact rn_in rfl (hq Γ q)
  | n + 1, j, Γ, e, q => by
    have hl : j < l.length := by omega
    rw [List.drop_eq_getElem_cons hl]
    obtain ⟨fl, Γ2, e2, h2⟩ := rn_out (hs j l[j] (List.getElem?_eq_getElem hl) Γ q)
    have ih := rn_forL I hs hq n (j + 1)
    unfold bnd at e2
    rw [forL]
    cases hg : g l[j] Γ with
    | no => rw [hg] at e2; cases e2
    | er x Δ => rw [hg] at e2; cases e2
    | ok u Γ1 =>
      rw [hg] at e2
      simp only at e2
      refine rn_bnd (rn_in hg (rn_bnd (rn_in e2 ?_)))
      cases fl with
      | nx => exact ih Γ2 (by omega) h2
      | ct => exact ih Γ2 (by omega) h2
      | bk => exact rn_in rfl h2
      | rt d => exact rn_in rfl h2
theorem lq_nx {I : SEnv → Prop} {Q : Flow → SEnv → Prop} {Γ : SEnv} (h : I Γ) : lq I Q .nx Γ := h
theorem lq_rt {I : SEnv → Prop} {Q : Flow → SEnv → Prop} {Γ : SEnv} {d : D} (h : Q (.rt d) Γ) : lq I Q (.rt d) Γ := h
theorem bin_of {f : D → D → Option D} {ma mb : M D} {a b d : D} {Γ Γ1 Γ2 : SEnv} (ha : ma Γ = .ok a Γ1) (hb : mb Γ1 = .ok b Γ2) (h : f a b = some d) : bin f ma mb Γ = .ok d Γ2 := by
  simp only [bin, bnd, ha, hb, opt, h]
theorem asg_of {m : M D} {g : D → M Unit} {d : D} {Γ Γ1 Γ2 : SEnv} (h : m Γ = .ok d Γ1) (hg : g d Γ1 = .ok () Γ2) : asgM m g Γ = .ok .nx Γ2 := by
  simp only [asgM, bnd, h, hg, ret]
theorem rn_for {mi : M (List D)} {g : D → M Unit} {body : M Flow} {Γ Γ1 : SEnv} {Q : Flow → SEnv → Prop} {l : List D} (hi : mi Γ = .ok l Γ1) (I : Nat → SEnv → Prop) (h0 : I 0 Γ1) (hs : ∀ j d, l[j]? = some d → ∀ Γ, I j Γ → Rn (bnd (g d) fun _ => body) Γ (lq (I (j + 1)) Q)) (hq : ∀ Γ, I l.length Γ → Q .nx Γ) :
    Rn (forM mi g body) Γ Q := by
  unfold forM
  exact rn_bnd (rn_in hi (rn_forL I hs hq l.length 0 Γ1 rfl h0))
theorem rn_rng {mi : M (List D)} {g : D → M Unit} {body : M Flow} {Γ Γ1 : SEnv} {Q : Flow → SEnv → Prop} {n : Nat} (hi : mi Γ = .ok (rng 0 1 n) Γ1) (I : Nat → SEnv → Prop) (h0 : I 0 Γ1) (hs : ∀ j, j < n → ∀ Γ, I j Γ → Rn (bnd (g (.int (j : Int))) fun _ => body) Γ (lq (I (j + 1)) Q)) (hq : ∀ Γ, I n Γ → Q .nx Γ) :
    Rn (forM mi g body) Γ Q := by
  refine rn_for hi I h0 (fun j d hj Γ q => ?_) (by rw [rng_len]; exact hq)
  rw [rng_map, List.getElem?_map] at hj
  obtain ⟨i, hi, rfl⟩ := Option.map_eq_some_iff.mp hj
  obtain ⟨hl, e⟩ := List.getElem?_eq_some_iff.mp hi
  rw [List.getElem_range] at e
  subst e
  rw [List.length_range] at hl
  exact hs j hl Γ q
theorem rn_go {α : Type} {g : M Unit} {body : M α} {Γ Γ1 : SEnv} {Q : α → SEnv → Prop} (e : g Γ = .ok () Γ1) (h : Rn body Γ1 Q) : Rn (bnd g fun _ => body) Γ Q := rn_bnd (rn_in e h)
theorem fnM_rn {N : Nat} {m : M Flow} {Γ : SEnv} {d : D} (h : Rn m (Γ ++ List.replicate (N - Γ.length) .no) fun fl Δ => fl = .rt d ∧ mrg Γ Δ = Γ) : fnM N m Γ = .ok d Γ := by
  obtain ⟨fl, Δ, e, rfl, e2⟩ := rn_out h
  exact fnM_rt e e2
theorem fnM_rn' {N : Nat} {m : M Flow} {Γ : SEnv} {P : D → SEnv → Prop} (h : Rn m (Γ ++ List.replicate (N - Γ.length) .no) fun fl Δ => ∃ d, fl = .rt d ∧ P d (mrg Γ Δ)) : ∃ d Γ', fnM N m Γ = .ok d Γ' ∧ P d Γ' := by
  obtain ⟨fl, Δ, e, d, rfl, e2⟩ := rn_out h
  exact ⟨d, _, fnM_rt e rfl, e2⟩
end DL
set_option Elab.async false
set_option linter.all false
set_option maxRecDepth 100000
set_option maxHeartbeats 4000000
set_option autoImplicit false
namespace DL.K70
open PySem L2 DL
/-! ### what carrying does to hues -/
theorem flat_at {w : Nat} : ∀ {ls : List (List Nat)} {Y X : Nat}, (∀ l ∈ ls, l.length = w) → X < w → Y < ls.length → ls.flatten[Y * w + X]? = (ls.getD Y [])[X]?
  | [], Y, X, _, _, h => absurd h (Nat.not_lt_zero _)
  | l :: ls, 0, X, hl, hX, _ => by
    have := hl l List.mem_cons_self
    rw [List.flatten_cons, Nat.zero_mul, Nat.zero_add, List.getElem?_append_left (by omega)]
    rfl
  | l :: ls, Y + 1, X, hl, hX, h => by
    have e := hl l List.mem_cons_self
    have e2 : (Y + 1) * w + X = w + (Y * w + X) := by rw [Nat.add_mul]; omega
    rw [List.flatten_cons, e2, List.getElem?_append_right (by omega), e, Nat.add_sub_cancel_left, flat_at (fun l m => hl l (List.mem_cons_of_mem _ m)) hX (by simpa using h)]
    rfl
theorem rot_at {r : List Nat} {w a X : Nat} (hr : r.length = w) (ha : a < w) (hX : X < w) : (r.drop a ++ r.take a)[X]? = r[(X + a) % w]? := by
  by_cases h : X + a < w
  · rw [List.getElem?_append_left (by rw [List.length_drop]; omega), List.getElem?_drop, Nat.mod_eq_of_lt h, Nat.add_comm]
  · rw [List.getElem?_append_right (by rw [List.length_drop]; omega), List.length_drop, List.getElem?_take_of_lt (by omega)]
    have : (X + a) % w = X + a - w := by
      rw [Nat.mod_eq_sub_mod (by omega), Nat.mod_eq_of_lt (by omega)]
    rw [this]
    congr 1
    omega
theorem row_at {w h : Nat} {l : List Nat} {L i : Nat} (hi : i < w) : (rowOf w l L)[i]? = l[L * w + i]? := by
  unfold rowOf
  rw [List.getElem?_take_of_lt hi, List.getElem?_drop]
theorem line_line {h k y : Nat} (hy : y < h) : carryLine h k (carryLine h k y) = y := by
  unfold carryLine
  split <;> omega
theorem emod_nat {a : Int} {w n : Nat} (hw : 1 ≤ w) (h : a % (w : Int) = (n : Int)) : (a % (w : Int)).toNat = n := by omega
theorem hue_carry {w h : Nat} {l : List Nat} (v : VB w h l) {k : Nat} {s x : Int} {y : Nat} (hy : y < h) : hue w (carryL w h l k s) (imgX k s x) (carryLine h k y) = hue w l x y := by
  have hw := v.w1
  have hln := line_lt (k := k) hy
  have hX := (mod_nat hw (imgX k s x)).2
  have hX1 := (mod_nat hw (imgX k s x)).1
  generalize hXe : (imgX k s x % (w : Int)).toNat = X at hX hX1
  have hat := at_lt (k := k) (s := s) hw
  have hat1 : (carryAt w k s : Int) = (if k < 2 then 0 - s else (w : Int) - 1 - s) % (w : Int) := by
    unfold carryAt
    exact (mod_nat hw _).1
  have hrl := row_len v (line_lt (k := k) hln)
  have e1 : (carryL w h l k s)[carryLine h k y * w + X]? = l[y * w + (x % (w : Int)).toNat]? := by
    unfold carryL
    rw [flat_at (w := w) (by
      intro l' hl'
      obtain ⟨z, hz, rfl⟩ := List.mem_map.mp hl'
      exact crow_len v (List.mem_range.mp hz)) hX (by rw [List.length_map, List.length_range]; exact hln)]
    rw [List.getD_eq_getElem?_getD, List.getElem?_map, List.getElem?_range hln]
    show (carryRow w h l k s (carryLine h k y))[X]? = _
    unfold carryRow
    rw [line_line hy] at hrl ⊢
    by_cases h2 : k < 2
    · simp only [if_pos h2] at hat1 ⊢
      rw [rot_at hrl hat hX, row_at (h := h) (Nat.mod_lt _ (by omega))]
      congr 2
      have : ((X + carryAt w k s : Nat) : Int) % (w : Int) = x % (w : Int) := by
        rw [Int.natCast_add, hX1, hat1]
        unfold imgX
        rw [if_pos h2, ← Int.add_emod]
        congr 1
        omega
      omega
    · simp only [if_neg h2] at hat1 ⊢
      have hlt : (X + carryAt w k s) % w < w := Nat.mod_lt _ (by omega)
      rw [rot_at (by rw [List.length_reverse, hrl]) hat hX, List.getElem?_reverse (by rw [hrl]; exact hlt), hrl, row_at (h := h) (by omega)]
      congr 2
      have h3 : ((X + carryAt w k s : Nat) : Int) % (w : Int) = (-1 - x) % (w : Int) := by
        rw [Int.natCast_add, hX1, hat1]
        unfold imgX
        rw [if_neg h2, ← Int.add_emod]
        have : s - x + ((w : Int) - 1 - s) = (-1 - x) + w := by omega
        rw [this, Int.add_emod_right]
      have h4 := mod_nat hw x
      have h5 : (-1 - x) % (w : Int) = (w : Int) - 1 - x % (w : Int) := by
        have e : -1 - x = ((w : Int) - 1 - x % (w : Int)) + (w : Int) * (-1 - x / (w : Int)) := by
          have := Int.emod_def x (w : Int)
          rw [Int.mul_sub, Int.mul_neg, Int.mul_one]
          omega
        rw [e, Int.add_mul_emod_self_left, Int.emod_eq_of_lt (by omega) (by omega)]
      omega
  unfold hue
  rw [hXe, List.getD_eq_getElem?_getD, List.getD_eq_getElem?_getD, e1]
/-- every cell is some image -/
theorem img_onto {w h k : Nat} {s : Int} (hw : 1 ≤ w) {i : Nat} (hi : i < w * h) : ∃ y x : Nat, y < h ∧ x < w ∧ carryLine h k y * w + (imgX k s (x : Int) % (w : Int)).toNat = i := by
  have hY : i / w < h := Nat.div_lt_of_lt_mul hi
  have hX : i % w < w := Nat.mod_lt _ (by omega)
  let x0 : Int := if k < 2 then (i % w : Nat) - s else s - (i % w : Nat)
  have hx := mod_nat hw x0
  refine ⟨carryLine h k (i / w), (x0 % (w : Int)).toNat, line_lt hY, hx.2, ?_⟩
  rw [line_line hY, hx.1]
  have : (imgX k s (x0 % (w : Int)) % (w : Int)).toNat = i % w := by
    refine emod_nat hw ?_
    unfold imgX
    split
    · next h2 =>
      rw [Int.emod_add_emod]
      show ((if k < 2 then ((i % w : Nat) : Int) - s else s - (i % w : Nat)) + s) % _ = _
      rw [if_pos h2]
      rw [show ((i % w : Nat) : Int) - s + s = ((i % w : Nat) : Int) by omega]
      exact Int.emod_eq_of_lt (by omega) (by omega)
    · next h2 =>
      rw [Int.sub_emod, Int.emod_emod_of_dvd _ (Int.dvd_refl _), ← Int.sub_emod]
      show (s - (if k < 2 then ((i % w : Nat) : Int) - s else s - (i % w : Nat))) % _ = _
      rw [if_neg h2]
      rw [show s - (s - ((i % w : Nat) : Int)) = ((i % w : Nat) : Int) by omega]
      exact Int.emod_eq_of_lt (by omega) (by omega)
  rw [this]
  exact Nat.div_add_mod' i w
end DL.K70
set_option Elab.async false
set_option linter.all false
set_option maxRecDepth 100000
set_option maxHeartbeats 4000000
set_option autoImplicit false
namespace DL
open PySem L2
theorem rn_nx {a b : M Flow} {Γ Γ' : SEnv} {Q : Flow → SEnv → Prop} (h : a Γ = .ok .nx Γ') (k : Rn b Γ' Q) : Rn (sq a b) Γ Q := rn_sq (rn_in h (kq_nx k))
theorem sz1 : sizeOk 1 = true := by decide
theorem sz2 : sizeOk 2 = true := by decide
theorem sz3 : sizeOk 3 = true := by decide
theorem ixN_n {n i : Nat} (h : i < n) : ixN n (i : Int) = some i := by
  unfold ixN
  simp
  omega
theorem set_st {F : List (List Nat)} {i : Nat} {c : List Nat} (h : i < F.length) : D.setAt (.int (i : Int)) (.st c) (.lst (F.map D.st)) = some (.lst ((F.set i c).map D.st)) := by
  show (ixN (F.map D.st).length (i : Int)).map (fun n => D.lst ((F.map D.st).set n (.st c))) = _
  rw [ixN_n (by rw [List.length_map]; exact h), List.map_set]
  rfl
theorem lmul_one {d : D} {n : Nat} (h : n ≤ 1000000) : D.lmul (.lst [d]) (.int (n : Int)) = some (.lst (List.replicate n d)) := by
  have : decide (-(2 ^ 63) ≤ (n : Int) ∧ (n : Int) < 2 ^ 63 ∧ [d].length * (n : Int).toNat ≤ sizeLine) = true := by
    refine decide_eq_true ⟨by omega, by omega, ?_⟩
    have : (1000000 : Nat) ≤ sizeLine := by decide
    simp
    omega
  simp only [D.lmul]
  rw [if_pos this]
  have e : ∀ m : Nat, (List.replicate m [d]).flatten = List.replicate m d := fun m => by
    induction m with
    | zero => rfl
    | succ m ih => rw [List.replicate_succ, List.flatten_cons, ih]; rfl
  rw [Int.toNat_natCast, e]
end DL
namespace DL.K70
open PySem L2 DL
theorem r_lcarried {w h : Nat} {l : List Nat} (v : VB w h l) {k : Nat} {s : Int} (hk : k < 4) :
    fnM 7 m__law_carried [.sh (.bd w h l), .sh (.tup [.int k, .int s])] = .ok (.bd w h (carryL w h l k s)) [.sh (.bd w h l), .sh (.tup [.int k, .int s])] := by
  have hcl := carry_len v (k := k) (s := s)
  have hw := v.w2
  have hh := v.h2
  have hsm := v.small
  let G : List (List Nat) → Option D → Option D → Option D → Option D → SEnv := fun F a b c d => [.sh (.bd w h l), .sh (.tup [.int k, .int s]), .ow (.lst (F.map D.st)), osl a, osl b, osl c, osl d]
  let Ok : List (List Nat) → Prop := fun F => F.length = w * h ∧ ∀ (i : Nat) (c : List Nat), F[i]? = some c → c = [] ∨ (∃ q, (carryL w h l k s)[i]? = some q ∧ c = [q])
  let pos : Nat → Nat → Nat := fun y x => carryLine h k y * w + (imgX k s (x : Int) % (w : Int)).toNat
  have hpos : ∀ y x, y < h → pos y x < w * h := fun y x hy => cell_lt (line_lt hy) (mod_nat v.w1 _).2
  let Done : List (List Nat) → Nat → Nat → Prop := fun F y x => ∀ y' x', y' < h → x' < w → (y' < y ∨ (y' = y ∧ x' < x)) → F[pos y' x']? ≠ some []
  have hL := len_st (l := l) (by omega)
  refine fnM_rn ?_
  show Rn m__law_carried [.sh (.bd w h l), .sh (.tup [.int k, .int s]), .no, .no, .no, .no, .no] _
  unfold m__law_carried
  have hz := lmul_one (d := .str "") (n := l.length) (by omega)
  have hrep : ∀ n, List.replicate n (D.str "") = (List.replicate n ([] : List Nat)).map D.st := fun n => by rw [List.map_replicate]; rfl
  rw [hrep] at hz
  refine rn_nx (Γ' := G (List.replicate l.length []) none none none none) ?_ ?_
  · refine asg_of (Γ1 := [.sh (.bd w h l), .sh (.tup [.int k, .int s]), .no, .no, .no, .no, .no]) (bin_of (Γ1 := [.sh (.bd w h l), .sh (.tup [.int k, .int s]), .no, .no, .no, .no, .no]) (a := .lst [.str ""]) (b := .int (l.length : Int)) ?_ ?_ hz) rfl
    · simp only [sq, asgM, ifM, andV, orV, notV, andM, orM, notM, asB, rtM, bin, chainM, opB, isiM, appM, revM, callM, opt, ret, consA, nilA, tupM, lstM, vr, stS, stO, stM, mkS, mrg, pixM, pkM, gdM, Sl.own, Sl.put, subS, putM, appS, D.isL, sliceM, someI, strM, gtM, unp1, unp0, par2, dropM, isi_int_int, isi_bool_int, le_ii, lt_ii, eq_ii, ne_ii, gt_ii, ge_ii, add_ii, sub_ii, ix_left, ix_cell, ix_turns, put_left, put_turns, tup_ix0, tup_ix1, tup_ix2, osl, sz1, sz2, sz3,
  ↓bnd, List.getElem?_cons_zero, List.getElem?_cons_succ, List.set_cons_zero, List.set_cons_succ, List.cons_append, List.nil_append, List.length_cons, List.length_nil, List.replicate, Nat.zero_add, Nat.reduceAdd, Nat.reduceSub, List.append_nil, if_true, Bool.not_true, Bool.not_false, Bool.false_eq_true, if_false, ite_true, ite_false, decide_true, decide_false, ↓reduceIte, List.map_cons, List.map_nil]
    · simp only [sq, asgM, ifM, andV, orV, notV, andM, orM, notM, asB, rtM, bin, chainM, opB, isiM, appM, revM, callM, opt, ret, consA, nilA, tupM, lstM, vr, stS, stO, stM, mkS, mrg, pixM, pkM, gdM, Sl.own, Sl.put, subS, putM, appS, D.isL, sliceM, someI, strM, gtM, unp1, unp0, par2, dropM, isi_int_int, isi_bool_int, le_ii, lt_ii, eq_ii, ne_ii, gt_ii, ge_ii, add_ii, sub_ii, ix_left, ix_cell, ix_turns, put_left, put_turns, tup_ix0, tup_ix1, tup_ix2, osl, sz1, sz2, sz3,
  ↓bnd, List.getElem?_cons_zero, List.getElem?_cons_succ, List.set_cons_zero, List.set_cons_succ, List.cons_append, List.nil_append, List.length_cons, List.length_nil, List.replicate, Nat.zero_add, Nat.reduceAdd, Nat.reduceSub, List.append_nil, if_true, Bool.not_true, Bool.not_false, Bool.false_eq_true, if_false, ite_true, ite_false, decide_true, decide_false, ↓reduceIte, List.map_cons, List.map_nil, hL]
  rw [v.len]
  have hh0 : Ok (List.replicate (w * h) []) := ⟨List.length_replicate, fun i c hc => .inl (List.mem_replicate.mp (List.mem_of_getElem? hc)).2⟩
  refine rn_sq (rn_rng (n := h) (Γ1 := G (List.replicate (w * h) []) none none none none) ?_ (fun y Γ => ∃ F a b c d, Ok F ∧ Done F y 0 ∧ Γ = G F a b c d) ⟨_, _, _, _, _, hh0, fun y' x' _ _ h => by omega, rfl⟩ ?_ ?_)
  · refine rangeM_n ?_ (by omega)
    simp only [sq, asgM, ifM, andV, orV, notV, andM, orM, notM, asB, rtM, bin, chainM, opB, isiM, appM, revM, callM, opt, ret, consA, nilA, tupM, lstM, vr, stS, stO, stM, mkS, mrg, pixM, pkM, gdM, Sl.own, Sl.put, subS, putM, appS, D.isL, sliceM, someI, strM, gtM, unp1, unp0, par2, dropM, isi_int_int, isi_bool_int, le_ii, lt_ii, eq_ii, ne_ii, gt_ii, ge_ii, add_ii, sub_ii, ix_left, ix_cell, ix_turns, put_left, put_turns, tup_ix0, tup_ix1, tup_ix2, osl, sz1, sz2, sz3,
  ↓bnd, List.getElem?_cons_zero, List.getElem?_cons_succ, List.set_cons_zero, List.set_cons_succ, List.cons_append, List.nil_append, List.length_cons, List.length_nil, List.replicate, Nat.zero_add, Nat.reduceAdd, Nat.reduceSub, List.append_nil, if_true, Bool.not_true, Bool.not_false, Bool.false_eq_true, if_false, ite_true, ite_false, decide_true, decide_false, ↓reduceIte, List.map_cons, List.map_nil, G]
  · rintro y hy Γ ⟨F, a, b, c, d, hF, hD, rfl⟩
    refine rn_go (Γ1 := G F (some (.int y)) b c d) (by cases a <;> rfl) ?_
    refine rn_rng (n := w) (Γ1 := G F (some (.int y)) b c d) ?_ (fun x Γ => ∃ F b c d, Ok F ∧ Done F y x ∧ Γ = G F (some (.int y)) b c d) ⟨_, _, _, _, hF, hD, rfl⟩ ?_ ?_
    · refine rangeM_n ?_ (by omega)
      simp only [sq, asgM, ifM, andV, orV, notV, andM, orM, notM, asB, rtM, bin, chainM, opB, isiM, appM, revM, callM, opt, ret, consA, nilA, tupM, lstM, vr, stS, stO, stM, mkS, mrg, pixM, pkM, gdM, Sl.own, Sl.put, subS, putM, appS, D.isL, sliceM, someI, strM, gtM, unp1, unp0, par2, dropM, isi_int_int, isi_bool_int, le_ii, lt_ii, eq_ii, ne_ii, gt_ii, ge_ii, add_ii, sub_ii, ix_left, ix_cell, ix_turns, put_left, put_turns, tup_ix0, tup_ix1, tup_ix2, osl, sz1, sz2, sz3,
  ↓bnd, List.getElem?_cons_zero, List.getElem?_cons_succ, List.set_cons_zero, List.set_cons_succ, List.cons_append, List.nil_append, List.length_cons, List.length_nil, List.replicate, Nat.zero_add, Nat.reduceAdd, Nat.reduceSub, List.append_nil, if_true, Bool.not_true, Bool.not_false, Bool.false_eq_true, if_false, ite_true, ite_false, decide_true, decide_false, ↓reduceIte, List.map_cons, List.map_nil, G]
    · rintro x hx Γ ⟨F, b, c, d, hF, hD, rfl⟩
      refine rn_go (Γ1 := G F (some (.int y)) (some (.int x)) c d) (by cases b <;> rfl) ?_
      have ri := r_image (h := h) (s := s) (x := (x : Int)) hk hy
      have r1 := r_hue v (x := (x : Int)) hy
      have e1 : ∀ c d, (stS 5 (.int (imgX k s x)) (G F (some (.int y)) (some (.int x)) c d)) = .ok () (G F (some (.int y)) (some (.int x)) (some (.int (imgX k s x))) d) := fun c d => by cases c <;> rfl
      have e2 : ∀ c d, (stS 6 (.int (carryLine h k y)) (G F (some (.int y)) (some (.int x)) c d)) = .ok () (G F (some (.int y)) (some (.int x)) c (some (.int (carryLine h k y)))) := fun c d => by cases d <;> rfl
      refine rn_sq (rn_in (a := .nx) (Γ' := G F (some (.int y)) (some (.int x)) (some (.int (imgX k s x))) (some (.int (carryLine h k y)))) ?_ (kq_nx ?_))
      · cases c <;> cases d <;> simp only [sq, asgM, ifM, andV, orV, notV, andM, orM, notM, asB, rtM, bin, chainM, opB, isiM, appM, revM, callM, opt, ret, consA, nilA, tupM, lstM, vr, stS, stO, stM, mkS, mrg, pixM, pkM, gdM, Sl.own, Sl.put, subS, putM, appS, D.isL, sliceM, someI, strM, gtM, unp1, unp0, par2, dropM, isi_int_int, isi_bool_int, le_ii, lt_ii, eq_ii, ne_ii, gt_ii, ge_ii, add_ii, sub_ii, ix_left, ix_cell, ix_turns, put_left, put_turns, tup_ix0, tup_ix1, tup_ix2, osl, sz1, sz2, sz3,
  ↓bnd, List.getElem?_cons_zero, List.getElem?_cons_succ, List.set_cons_zero, List.set_cons_succ, List.cons_append, List.nil_append, List.length_cons, List.length_nil, List.replicate, Nat.zero_add, Nat.reduceAdd, Nat.reduceSub, List.append_nil, if_true, Bool.not_true, Bool.not_false, Bool.false_eq_true, if_false, ite_true, ite_false, decide_true, decide_false, ↓reduceIte, List.map_cons, List.map_nil, G, ri]
      · have m1 : D.mul (.int (carryLine h k y : Int)) (.int (w : Int)) = some (.int ((carryLine h k y * w : Nat) : Int)) := mul_nn (by have := line_lt (k := k) hy; omega) (by omega)
        have m2 : D.mod (.int (imgX k s x)) (.int (w : Int)) = some (.int (imgX k s x % (w : Int))) := mod_ii (by have := v.w1; omega)
        have m3 : ((carryLine h k y * w : Nat) : Int) + imgX k s x % (w : Int) = ((pos y x : Nat) : Int) := by
          have := (mod_nat v.w1 (imgX k s x)).1
          show _ = ((carryLine h k y * w + (imgX k s (x : Int) % (w : Int)).toNat : Nat) : Int)
          omega
        have m4 := set_st (F := F) (i := pos y x) (c := [hue w l x y]) (by rw [hF.1]; exact hpos y x hy)
        refine rn_in (a := .nx) (Γ' := G (F.set (pos y x) [hue w l x y]) (some (.int y)) (some (.int x)) (some (.int (imgX k s x))) (some (.int (carryLine h k y)))) ?_ (lq_nx ⟨_, _, _, _, ⟨?_, ?_⟩, ?_, rfl⟩)
        · simp only [sq, asgM, ifM, andV, orV, notV, andM, orM, notM, asB, rtM, bin, chainM, opB, isiM, appM, revM, callM, opt, ret, consA, nilA, tupM, lstM, vr, stS, stO, stM, mkS, mrg, pixM, pkM, gdM, Sl.own, Sl.put, subS, putM, appS, D.isL, sliceM, someI, strM, gtM, unp1, unp0, par2, dropM, isi_int_int, isi_bool_int, le_ii, lt_ii, eq_ii, ne_ii, gt_ii, ge_ii, add_ii, sub_ii, ix_left, ix_cell, ix_turns, put_left, put_turns, tup_ix0, tup_ix1, tup_ix2, osl, sz1, sz2, sz3,
  ↓bnd, List.getElem?_cons_zero, List.getElem?_cons_succ, List.set_cons_zero, List.set_cons_succ, List.cons_append, List.nil_append, List.length_cons, List.length_nil, List.replicate, Nat.zero_add, Nat.reduceAdd, Nat.reduceSub, List.append_nil, if_true, Bool.not_true, Bool.not_false, Bool.false_eq_true, if_false, ite_true, ite_false, decide_true, decide_false, ↓reduceIte, List.map_cons, List.map_nil, G, r1, m1, m2, m3, m4]
        · rw [List.length_set]; exact hF.1
        · intro i c hc
          rw [List.getElem?_set] at hc
          split at hc
          · next he =>
            subst he
            split at hc
            · refine .inr ⟨hue w l x y, ?_, (Option.some.inj hc).symm⟩
              have hv2 : VB w h (carryL w h l k s) := carry_vb v
              have := hue_at hv2 (x := imgX k s x) (line_lt (k := k) hy)
              rw [hue_carry v hy] at this
              exact this
            · cases hc
          · exact hF.2 i c hc
        · intro y' x' hy' hx' ho
          rw [List.getElem?_set]
          split
          · split
            · intro z; cases z
            · intro z; cases z
          · next hne =>
            refine hD y' x' hy' hx' ?_
            by_cases he : y' = y ∧ x' = x
            · exact absurd (by rw [he.1, he.2]) hne
            · omega
    · rintro Γ ⟨F, b, c, d, hF, hD, rfl⟩
      exact ⟨F, _, b, c, d, hF, fun y' x' hy' hx' ho => hD y' x' hy' hx' (by omega), rfl⟩
  · rintro Γ ⟨F, a, b, c, d, hF, hD, rfl⟩
    refine kq_nx ?_
    have hfl : F.flatten = carryL w h l k s := by
      have hFe : F = (carryL w h l k s).map fun q => [q] := by
        refine List.ext_getElem? fun i => ?_
        by_cases hi : i < w * h
        · obtain ⟨y, x, hy, hx, he⟩ := img_onto (k := k) (s := s) v.w1 hi
          have hne := hD y x hy hx (.inl hy)
          rw [show pos y x = i from he] at hne
          have hlt : i < F.length := by rw [hF.1]; exact hi
          rw [List.getElem?_eq_getElem hlt] at hne ⊢
          rcases hF.2 i _ (List.getElem?_eq_getElem hlt) with hc | ⟨q, hq, hc⟩
          · exact absurd (by rw [hc]) hne
          · rw [List.getElem?_map, hq, hc]; rfl
        · rw [List.getElem?_eq_none (by rw [hF.1]; omega), List.getElem?_eq_none (by rw [List.length_map, hcl]; omega)]
      rw [hFe]
      induction carryL w h l k s with
      | nil => rfl
      | cons q r ih => rw [List.map_cons, List.flatten_cons, ih]; rfl
    have hj := join_st (ls := F) (by rw [hfl, hcl]; rw [v.len] at hsm; omega)
    rw [hfl] at hj
    have hz3 : sizeOk 3 = true := by decide
    refine rn_in (a := .rt (.bd w h (carryL w h l k s))) (Γ' := (G F a b c d).set 2 (.sh (.lst (F.map D.st)))) ?_ ⟨rfl, rfl⟩
    simp only [sq, asgM, ifM, andV, orV, notV, andM, orM, notM, asB, rtM, bin, chainM, opB, isiM, appM, revM, callM, opt, ret, consA, nilA, tupM, lstM, vr, stS, stO, stM, mkS, mrg, pixM, pkM, gdM, Sl.own, Sl.put, subS, putM, appS, D.isL, sliceM, someI, strM, gtM, unp1, unp0, par2, dropM, isi_int_int, isi_bool_int, le_ii, lt_ii, eq_ii, ne_ii, gt_ii, ge_ii, add_ii, sub_ii, ix_left, ix_cell, ix_turns, put_left, put_turns, tup_ix0, tup_ix1, tup_ix2, osl, sz1, sz2, sz3,
  ↓bnd, List.getElem?_cons_zero, List.getElem?_cons_succ, List.set_cons_zero, List.set_cons_succ, List.cons_append, List.nil_append, List.length_cons, List.length_nil, List.replicate, Nat.zero_add, Nat.reduceAdd, Nat.reduceSub, List.append_nil, if_true, Bool.not_true, Bool.not_false, Bool.false_eq_true, if_false, ite_true, ite_false, decide_true, decide_false, ↓reduceIte, List.map_cons, List.map_nil, G, hj, hz3]
end DL.K70
set_option Elab.async false
set_option linter.all false
set_option maxRecDepth 100000
set_option maxHeartbeats 4000000
set_option autoImplicit false
namespace DL.K70
open PySem L2 DL
/-! ### motions and hues -/
def Leads (w h : Nat) (l : List Nat) (w2 : Nat) (l2 : List Nat) (k : Nat) (s : Int) : Prop := ∀ y, y < h → ∀ x : Int, hue w l x y = hue w2 l2 (imgX k s x) (carryLine h k y)
theorem hue_mod {w n : Nat} {l : List Nat} {x x' : Int} {y : Nat} (h : x % (w : Int) = x' % (w : Int)) : hue w l x y = hue w l x' y := by
  unfold hue
  rw [h]
theorem img_mod {k : Nat} {s x x' : Int} {m : Int} (h : x % m = x' % m) : imgX k s x % m = imgX k s x' % m := by
  unfold imgX
  split
  · rw [Int.add_emod, h, ← Int.add_emod]
  · rw [Int.sub_emod, h, ← Int.sub_emod]
theorem leads_iff {w h : Nat} {l : List Nat} {w2 : Nat} {l2 : List Nat} {k : Nat} {s : Int} (hw : 1 ≤ w) (hw2 : 1 ≤ w2) : leadsB w h l w2 l2 k s = true ↔ Leads w h l w2 l2 k s := by
  unfold leadsB Leads
  simp only [List.all_eq_true, List.mem_range, decide_eq_true_eq]
  constructor
  · intro H y hy x
    have hm := mod_nat (w := w * w2) (Nat.mul_pos hw hw2) x
    have := H y hy _ hm.2
    have d1 : (w : Int) ∣ ((w * w2 : Nat) : Int) := ⟨w2, by rw [Int.natCast_mul]⟩
    have d2 : (w2 : Int) ∣ ((w * w2 : Nat) : Int) := ⟨w, by rw [Int.natCast_mul, Int.mul_comm]⟩
    have e1 : ((x % ((w * w2 : Nat) : Int)).toNat : Int) % (w : Int) = x % (w : Int) := by rw [hm.1, Int.emod_emod_of_dvd _ d1]
    have e2 : ((x % ((w * w2 : Nat) : Int)).toNat : Int) % (w2 : Int) = x % (w2 : Int) := by rw [hm.1, Int.emod_emod_of_dvd _ d2]
    rw [hue_mod (n := 0) e1, hue_mod (n := 0) (img_mod (k := k) (s := s) e2)] at this
    exact this
  · intro H y hy x _
    exact H y hy x
theorem hue_ext {w h : Nat} {l l' : List Nat} (v : VB w h l) (v' : VB w h l') (H : ∀ y, y < h → ∀ x : Int, hue w l x y = hue w l' x y) : l = l' := by
  refine List.ext_getElem? fun i => ?_
  by_cases hi : i < w * h
  · have hw := v.w1
    have hY : i / w < h := Nat.div_lt_of_lt_mul hi
    have hX : i % w < w := Nat.mod_lt _ (by omega)
    have e := H (i / w) hY ((i % w : Nat) : Int)
    have m : (((i % w : Nat) : Int) % (w : Int)).toNat = i % w := by
      rw [Int.emod_eq_of_lt (by omega) (by omega)]; rfl
    have a := hue_at v (x := ((i % w : Nat) : Int)) hY
    have a' := hue_at v' (x := ((i % w : Nat) : Int)) hY
    rw [m, Nat.div_add_mod'] at a a'
    rw [a, a', e]
  · rw [List.getElem?_eq_none (by rw [v.len]; omega), List.getElem?_eq_none (by rw [v'.len]; omega)]
/-- every (x, y) is an image -/
theorem img_back {h k : Nat} {s x : Int} {y : Nat} (hy : y < h) : ∃ x', imgX k s x' = x ∧ carryLine h k (carryLine h k y) = y := by
  refine ⟨if k < 2 then x - s else s - x, ?_, line_line hy⟩
  unfold imgX
  split <;> omega
theorem carry_leads {w h : Nat} {l : List Nat} (v : VB w h l) {k : Nat} {s : Int} : Leads w h l w (carryL w h l k s) k s := fun y hy x => (hue_carry v hy).symm
theorem carry_iff {w h : Nat} {l l2 : List Nat} (v : VB w h l) (v2 : VB w h l2) {k : Nat} {s : Int} : carryL w h l k s = l2 ↔ Leads w h l w l2 k s := by
  constructor
  · intro e
    rw [← e]
    exact carry_leads v
  · intro H
    refine hue_ext (carry_vb v) v2 fun y hy x => ?_
    obtain ⟨x', ex, ey⟩ := img_back (k := k) (s := s) (x := x) hy
    have hl := line_lt (k := k) hy
    have h1 := hue_carry v (k := k) (s := s) (x := x') hl
    have h2 := H _ hl x'
    rw [ex, ey] at h1 h2
    rw [h1, h2]
end DL.K70
set_option Elab.async false
set_option linter.all false
set_option maxRecDepth 100000
set_option maxHeartbeats 4000000
set_option autoImplicit false
namespace DL
open PySem L2
/-- as lcL_filter, the test known at the cells alone -/
theorem lcL_filter' {v : Nat} {Γ : SEnv} {t : M Bool} {e : M D} (p : D → Bool) (f : D → D) (hv : v < Γ.length) :
    ∀ (ds acc : List D), (∀ d ∈ ds, t (Γ.set v (.sh d)) = .ok (p d) (Γ.set v (.sh d))) → (∀ d ∈ ds, p d = true → e (Γ.set v (.sh d)) = .ok (f d) (Γ.set v (.sh d))) → acc.length + ds.length ≤ sizeLine → lcL [v] (stS v) t e ds acc (Γ.set v .no) = .ok (acc ++ (ds.filter p).map f) (Γ.set v .no)
  | [], acc, _, _, _ => by unfold lcL ret; simp
  | d :: ds, acc, ht, he, hz => by
    unfold lcL
    have e1 : stS v d (Γ.set v .no) = .ok () (Γ.set v (.sh d)) := by rw [stS_at (get_set_self hv) (fun e z => by cases z), set_set]
    have e4 : wipM [v] (Γ.set v (.sh d)) = .ok () (Γ.set v .no) := by rw [wipM_one (get_set_self hv) (fun e z => by cases z), set_set]
    have ht1 := ht d List.mem_cons_self
    have ht2 : ∀ d ∈ ds, t (Γ.set v (.sh d)) = .ok (p d) (Γ.set v (.sh d)) := fun d hd => ht d (List.mem_cons_of_mem _ hd)
    unfold bnd
    rw [e1]
    simp only [noEr, ht1]
    cases hp : p d with
    | false =>
      simp only [Bool.false_eq_true, if_false, bnd, e4]
      rw [lcL_filter' p f hv ds acc ht2 (fun d hd => he d (List.mem_cons_of_mem _ hd)) (by rw [List.length_cons] at hz; omega)]
      rw [List.filter_cons_of_neg (by rw [hp]; simp)]
    | true =>
      have hs : sizeOk (acc.length + 1) = true := decide_eq_true (by rw [List.length_cons] at hz; omega)
      simp only [if_true, bnd, noEr, he d List.mem_cons_self hp, hs, e4]
      rw [lcL_filter' p f hv ds (acc ++ [f d]) ht2 (fun d hd => he d (List.mem_cons_of_mem _ hd)) (by rw [List.length_append]; rw [List.length_cons] at hz; simp only [List.length_cons, List.length_nil]; omega)]
      rw [List.filter_cons_of_pos hp, List.map_cons, List.append_assoc]
      rfl
theorem lcM_filter' {v : Nat} {Γ : SEnv} {s : Sl} {mi : M (List D)} {t : M Bool} {e : M D} {ds : List D} (p : D → Bool) (f : D → D) (hi : mi Γ = .ok ds Γ) (hv : Γ[v]? = some s) (hs : s.own = none) (ht : ∀ d ∈ ds, t (Γ.set v (.sh d)) = .ok (p d) (Γ.set v (.sh d)))
    (he : ∀ d ∈ ds, p d = true → e (Γ.set v (.sh d)) = .ok (f d) (Γ.set v (.sh d))) (hz : ds.length ≤ sizeLine) : lcM [v] mi (stS v) t e Γ = .ok (.lst ((ds.filter p).map f)) Γ := by
  have hl : v < Γ.length := (List.getElem?_eq_some_iff.mp hv).1
  have hio : ∀ e, s ≠ .io e := fun e z => by rw [z] at hs; cases hs
  have e1 := savM_one hv hs
  unfold lcM bnd
  rw [hi]
  simp only [e1, bnd, wipM_one hv hio, lcL_filter' p f hl ds [] ht he (by simpa using hz), List.nil_append, rstM, rstG, ret, set_set]
  rw [List.getD_eq_getElem?_getD, hv]
  exact congrArg _ (set_get hv)
end DL
namespace DL.K70
open PySem L2 DL
/-! ### the least shift -/
def Per (w h : Nat) (l : List Nat) (s : Int) : Prop := ∀ y, y < h → ∀ x : Int, hue w l x y = hue w l (x + s) y
theorem per_leads {w h : Nat} {l : List Nat} {s : Int} : Leads w h l w l 0 s ↔ Per w h l s := by
  unfold Leads Per imgX carryLine
  simp
theorem per_w {w h : Nat} {l : List Nat} : Per w h l w := fun y _ x => hue_mod (n := 0) (by rw [Int.add_emod_right])
theorem per_add {w h : Nat} {l : List Nat} {s t : Int} (a : Per w h l s) (b : Per w h l t) : Per w h l (s + t) := fun y hy x => by
  rw [a y hy x, b y hy (x + s), Int.add_assoc]
theorem per_neg {w h : Nat} {l : List Nat} {s : Int} (a : Per w h l s) : Per w h l (-s) := fun y hy x => by
  have := a y hy (x + -s)
  rw [Int.add_assoc, Int.add_left_neg, Int.add_zero] at this
  exact this.symm
theorem per_mul {w h : Nat} {l : List Nat} {s : Int} (a : Per w h l s) : ∀ n : Nat, Per w h l (s * n)
  | 0 => fun y _ x => by simp
  | n + 1 => by
    have : s * ((n + 1 : Nat) : Int) = s * n + s := by rw [Int.natCast_add, Int.mul_add]; simp
    rw [this]
    exact per_add (per_mul a n) a
theorem per_mod {w h : Nat} {l : List Nat} {p m : Nat} (a : Per w h l p) (b : Per w h l m) : Per w h l (m % p : Nat) := by
  have e : ((m % p : Nat) : Int) = m + -((p : Int) * (m / p : Nat)) := by
    have := Nat.mod_add_div m p
    have h2 : ((m % p + p * (m / p) : Nat) : Int) = (m : Int) := by rw [this]
    rw [Int.natCast_add, Int.natCast_mul] at h2
    omega
  rw [e]
  exact per_add b (per_neg (per_mul a _))
end DL.K70
set_option Elab.async false
set_option linter.all false
set_option maxRecDepth 100000
set_option maxHeartbeats 4000000
set_option autoImplicit false
namespace DL.K70
open PySem L2 DL
/-- p is the least shift of the band -/
structure Lsh (w h : Nat) (l : List Nat) (p : Nat) : Prop where
  pos : 1 ≤ p
  per : Per w h l p
  least : ∀ q : Nat, 1 ≤ q → q < p → ¬ Per w h l q
theorem lsh_ex {w h : Nat} {l : List Nat} (hw : 1 ≤ w) : ∃ p, Lsh w h l p := by
  have key : ∀ n : Nat, (∃ q : Nat, 1 ≤ q ∧ q ≤ n ∧ Per w h l q) → ∃ p, Lsh w h l p := by
    intro n
    induction n with
    | zero => rintro ⟨q, a, b, _⟩; omega
    | succ n ih =>
      rintro ⟨q, a, b, c⟩
      by_cases hx : ∃ q : Nat, 1 ≤ q ∧ q ≤ n ∧ Per w h l q
      · exact ih hx
      · exact ⟨q, a, c, fun r h1 h2 h3 => hx ⟨r, h1, by omega, h3⟩⟩
  exact key w ⟨w, hw, Nat.le_refl _, per_w⟩
theorem lsh_dvd {w h : Nat} {l : List Nat} {p m : Nat} (H : Lsh w h l p) (hm : Per w h l m) : m % p = 0 := by
  have h1 := per_mod H.per hm
  have h2 : m % p < p := Nat.mod_lt _ H.pos
  by_cases h0 : m % p = 0
  · exact h0
  · exact absurd h1 (H.least _ (by omega) h2)
theorem lsh_le {w h : Nat} {l : List Nat} {p : Nat} (hw : 1 ≤ w) (H : Lsh w h l p) : p ≤ w := by
  have := lsh_dvd H (per_w (h := h) (l := l))
  exact Nat.le_of_dvd hw (Nat.dvd_of_mod_eq_zero this)
theorem r_lleast {w h : Nat} {l : List Nat} (v : VB w h l) {p : Nat} (H : Lsh w h l p) :
    fnM 2 m__law_least_shift [.sh (.bd w h l)] = .ok (.int p) [.sh (.bd w h l)] := by
  have hw := v.w2
  have hple := lsh_le v.w1 H
  let G : Option D → SEnv := fun a => [.sh (.bd w h l), osl a]
  refine fnM_rn ?_
  show Rn m__law_least_shift [.sh (.bd w h l), .no] _
  unfold m__law_least_shift
  have hr : D.rangeOf [.int 1, .int ((w : Int) + 1)] = some (rng 1 1 w) := by
    have hs1 : small62 1 = true := by decide
    have hs : small62 ((w : Int) + 1) = true := decide_eq_true (by
      have : (2 : Int) ^ 62 > 1000000 := by decide
      omega)
    show (if (small62 1 && small62 ((w : Int) + 1)) = true then some (rng 1 1 ((w : Int) + 1 - 1).toNat) else none) = _
    rw [hs, hs1]
    have e : ((w : Int) + 1 - 1).toNat = w := by omega
    simp only [Bool.and_self, if_true, e]
  refine rn_sq (rn_for (Γ1 := G none) (rangeM_of (ds := [.int 1, .int ((w : Int) + 1)]) ?_ hr) (fun j Γ => j < p ∧ ∃ a, Γ = G a) ⟨H.pos, _, rfl⟩ ?_ ?_)
  · simp only [sq, asgM, ifM, andV, orV, notV, andM, orM, notM, asB, rtM, bin, chainM, opB, isiM, appM, revM, callM, opt, ret, consA, nilA, tupM, lstM, vr, stS, stO, stM, mkS, mrg, pixM, pkM, gdM, Sl.own, Sl.put, subS, putM, appS, D.isL, sliceM, someI, strM, gtM, unp1, unp0, par2, dropM, isi_int_int, isi_bool_int, le_ii, lt_ii, eq_ii, ne_ii, gt_ii, ge_ii, add_ii, sub_ii, ix_left, ix_cell, ix_turns, put_left, put_turns, tup_ix0, tup_ix1, tup_ix2, osl, sz1, sz2, sz3,
  ↓bnd, List.getElem?_cons_zero, List.getElem?_cons_succ, List.set_cons_zero, List.set_cons_succ, List.cons_append, List.nil_append, List.length_cons, List.length_nil, List.replicate, Nat.zero_add, Nat.reduceAdd, Nat.reduceSub, List.append_nil, if_true, Bool.not_true, Bool.not_false, Bool.false_eq_true, if_false, ite_true, ite_false, decide_true, decide_false, ↓reduceIte, List.map_cons, List.map_nil, G]
  · rintro j d hj Γ ⟨hjp, a, rfl⟩
    obtain ⟨hjw, rfl⟩ := rng_get hj
    have e0 : (1 : Int) + (j : Int) * 1 = ((j + 1 : Nat) : Int) := by omega
    rw [e0]
    refine rn_go (Γ1 := G (some (.int ((j + 1 : Nat) : Int)))) (by cases a <;> rfl) ?_
    have rl := r_leads v v (k := 0) (s := ((j + 1 : Nat) : Int)) (by omega)
    have hd : decide (h = h) = true := decide_eq_true rfl
    rw [hd, Bool.true_and, show ((0 : Nat) : Int) = 0 from rfl] at rl
    have hiff := (leads_iff (h := h) (l := l) (l2 := l) (k := 0) (s := ((j + 1 : Nat) : Int)) v.w1 v.w1).trans per_leads
    by_cases hp : j + 1 = p
    · have ht : leadsB w h l w l 0 ((j + 1 : Nat) : Int) = true := hiff.mpr (by rw [hp]; exact H.per)
      rw [ht] at rl
      refine rn_in (a := .rt (.int ((j + 1 : Nat) : Int))) (Γ' := G (some (.int ((j + 1 : Nat) : Int)))) ?_ (lq_rt (kq_rt ⟨by rw [hp], rfl⟩))
      simp only [sq, asgM, ifM, andV, orV, notV, andM, orM, notM, asB, rtM, bin, chainM, opB, isiM, appM, revM, callM, opt, ret, consA, nilA, tupM, lstM, vr, stS, stO, stM, mkS, mrg, pixM, pkM, gdM, Sl.own, Sl.put, subS, putM, appS, D.isL, sliceM, someI, strM, gtM, unp1, unp0, par2, dropM, isi_int_int, isi_bool_int, le_ii, lt_ii, eq_ii, ne_ii, gt_ii, ge_ii, add_ii, sub_ii, ix_left, ix_cell, ix_turns, put_left, put_turns, tup_ix0, tup_ix1, tup_ix2, osl, sz1, sz2, sz3,
  ↓bnd, List.getElem?_cons_zero, List.getElem?_cons_succ, List.set_cons_zero, List.set_cons_succ, List.cons_append, List.nil_append, List.length_cons, List.length_nil, List.replicate, Nat.zero_add, Nat.reduceAdd, Nat.reduceSub, List.append_nil, if_true, Bool.not_true, Bool.not_false, Bool.false_eq_true, if_false, ite_true, ite_false, decide_true, decide_false, ↓reduceIte, List.map_cons, List.map_nil, G, rl]
    · have ht : leadsB w h l w l 0 ((j + 1 : Nat) : Int) = false := by
        cases hb : leadsB w h l w l 0 ((j + 1 : Nat) : Int) with
        | false => rfl
        | true => exact absurd (hiff.mp hb) (H.least _ (by omega) (by omega))
      rw [ht] at rl
      refine rn_in (a := .nx) (Γ' := G (some (.int ((j + 1 : Nat) : Int)))) ?_ (lq_nx ⟨by omega, _, rfl⟩)
      simp only [sq, asgM, ifM, andV, orV, notV, andM, orM, notM, asB, rtM, bin, chainM, opB, isiM, appM, revM, callM, opt, ret, consA, nilA, tupM, lstM, vr, stS, stO, stM, mkS, mrg, pixM, pkM, gdM, Sl.own, Sl.put, subS, putM, appS, D.isL, sliceM, someI, strM, gtM, unp1, unp0, par2, dropM, isi_int_int, isi_bool_int, le_ii, lt_ii, eq_ii, ne_ii, gt_ii, ge_ii, add_ii, sub_ii, ix_left, ix_cell, ix_turns, put_left, put_turns, tup_ix0, tup_ix1, tup_ix2, osl, sz1, sz2, sz3,
  ↓bnd, List.getElem?_cons_zero, List.getElem?_cons_succ, List.set_cons_zero, List.set_cons_succ, List.cons_append, List.nil_append, List.length_cons, List.length_nil, List.replicate, Nat.zero_add, Nat.reduceAdd, Nat.reduceSub, List.append_nil, if_true, Bool.not_true, Bool.not_false, Bool.false_eq_true, if_false, ite_true, ite_false, decide_true, decide_false, ↓reduceIte, List.map_cons, List.map_nil, G, rl]
  · rintro Γ ⟨hjp, a, rfl⟩
    rw [rng_len] at hjp
    omega
end DL.K70
set_option Elab.async false
set_option linter.all false
set_option maxRecDepth 100000
set_option maxHeartbeats 4000000
set_option autoImplicit false
namespace DL.K70
open PySem L2 DL
theorem range1_n {w : Nat} (h : w ≤ 100000) : D.rangeOf [.int 1, .int ((w : Int) + 1)] = some (rng 1 1 w) := by
  have hs1 : small62 1 = true := by decide
  have hs : small62 ((w : Int) + 1) = true := decide_eq_true (by
    have : (2 : Int) ^ 62 > 1000000 := by decide
    omega)
  show (if (small62 1 && small62 ((w : Int) + 1)) = true then some (rng 1 1 ((w : Int) + 1 - 1).toNat) else none) = _
  have e : ((w : Int) + 1 - 1).toNat = w := by omega
  rw [hs, hs1]
  simp only [Bool.and_self, if_true, e]
/-- the first of the kept -/
theorem filter_head {α : Type} {p q : α → Bool} {a : α} : ∀ {l : List α} {n : Nat}, l[n]? = some a → (∀ i b, i < n → l[i]? = some b → (p b && q b) = false) → p a = true → q a = true → ∃ r, (l.filter p).filter q = a :: r
  | [], n, h, _, _, _ => by cases h
  | b :: l, 0, h, _, hp, hq => by
    have : b = a := by simpa using h
    subst this
    rw [List.filter_cons_of_pos hp, List.filter_cons_of_pos hq]
    exact ⟨_, rfl⟩
  | b :: l, n + 1, h, hm, hp, hq => by
    obtain ⟨r, e⟩ := filter_head (p := p) (q := q) (l := l) (n := n) (by simpa using h) (fun i c hi hc => hm (i + 1) c (by omega) (by simpa using hc)) hp hq
    have h0 := hm 0 b (by omega) rfl
    cases hb : p b with
    | false => rw [List.filter_cons_of_neg (by rw [hb]; simp)]; exact ⟨r, e⟩
    | true =>
      rw [hb, Bool.true_and] at h0
      rw [List.filter_cons_of_pos hb, List.filter_cons_of_neg (by rw [h0]; simp)]
      exact ⟨r, e⟩
def modP (w : Nat) : D → Bool := fun d => match d with
  | .int i => decide ((w : Int) % i = 0)
  | _ => false
def sameP (w h : Nat) (l : List Nat) : D → Bool := fun d => match d with
  | .int i => decide (carryL w h l 0 i = l)
  | _ => false
end DL.K70
set_option Elab.async false
set_option linter.all false
set_option maxRecDepth 100000
set_option maxHeartbeats 4000000
set_option autoImplicit false
namespace DL.K70
open PySem L2 DL
theorem deep_bd {w h : Int} {l : List Nat} : deepOk (.bd w h l) = true := by simp [deepOk, D.pl, D.py, PyData.depth, D.pls, D.pys, PyData.depthAll]
theorem eq_bd {w h w2 h2 : Int} {a b : List Nat} : D.eq (.bd w h a) (.bd w2 h2 b) = some (.bl (decide (w = w2) && (decide (h = h2) && decide (a = b)))) := by
  unfold D.eq D.cmpG D.eqv
  rw [deep_bd, deep_bd]
  have e : (SS a == SS b) = decide (a = b) := SX.S_beq_eq
  have f (x y : Int) : (x == y) = decide (x = y) := by rw [Bool.eq_iff_iff]; simp
  simp [D.py, D.pys, PyData.eqv, PyData.eqvAll, e, f]
end DL.K70
set_option Elab.async false
set_option linter.all false
set_option maxRecDepth 100000
set_option maxHeartbeats 4000000
set_option autoImplicit false
namespace DL.K70
open PySem L2 DL
theorem lst_ix0 {a : D} {r : List D} : D.ix (.lst (a :: r)) (.int 0) = some a := by
  show atI (a :: r) ((0 : Nat) : Int) = _
  exact atI_nat rfl
theorem r_oleast {w h : Nat} {l : List Nat} (v : VB w h l) {p : Nat} (H : Lsh w h l p) :
    fnM 3 m_own_least_shift [.sh (.bd w h l)] = .ok (.int p) [.sh (.bd w h l)] := by
  have hw := v.w2
  have hple := lsh_le v.w1 H
  have hz : w ≤ sizeLine := by
    have : (1000 : Nat) ≤ sizeLine := by decide
    omega
  have hmem : ∀ d ∈ rng 1 1 w, ∃ j : Nat, 1 ≤ j ∧ j ≤ w ∧ d = .int (j : Int) := by
    intro d hd
    obtain ⟨i, hi⟩ := List.getElem?_of_mem hd
    obtain ⟨h1, rfl⟩ := rng_get hi
    exact ⟨i + 1, by omega, by omega, by congr 1; omega⟩
  refine fnM_rn ?_
  show Rn m_own_least_shift [.sh (.bd w h l), .no, .no] _
  unfold m_own_least_shift
  have e1 := lcM_filter' (v := 2) (Γ := [.sh (.bd w h l), .no, .no]) (s := .no) (mi := rangeM (consA (ret (.int 1)) (consA (bin D.add (bin D.ix (vr 0) (ret (.int 0))) (ret (.int 1))) (nilA)))) (t := asB (bin D.eq (bin D.mod (bin D.ix (vr 0) (ret (.int 0))) (vr 2)) (ret (.int 0)))) (e := vr 2) (ds := rng 1 1 w) (modP w) id
    (rangeM_of (ds := [.int 1, .int ((w : Int) + 1)]) (by simp only [sq, asgM, ifM, andV, orV, notV, andM, orM, notM, asB, rtM, bin, chainM, opB, isiM, appM, revM, callM, opt, ret, consA, nilA, tupM, lstM, vr, stS, stO, stM, mkS, mrg, pixM, pkM, gdM, Sl.own, Sl.put, subS, putM, appS, D.isL, sliceM, someI, strM, gtM, unp1, unp0, par2, dropM, isi_int_int, isi_bool_int, le_ii, lt_ii, eq_ii, ne_ii, gt_ii, ge_ii, add_ii, sub_ii, ix_left, ix_cell, ix_turns, put_left, put_turns, tup_ix0, tup_ix1, tup_ix2, osl, sz1, sz2, sz3,
  ↓bnd, List.getElem?_cons_zero, List.getElem?_cons_succ, List.set_cons_zero, List.set_cons_succ, List.cons_append, List.nil_append, List.length_cons, List.length_nil, List.replicate, Nat.zero_add, Nat.reduceAdd, Nat.reduceSub, List.append_nil, if_true, Bool.not_true, Bool.not_false, Bool.false_eq_true, if_false, ite_true, ite_false, decide_true, decide_false, ↓reduceIte, List.map_cons, List.map_nil]) (range1_n (by omega))) rfl rfl (by
      intro d hd
      obtain ⟨j, h1, h2, rfl⟩ := hmem d hd
      have m := mod_ii (a := (w : Int)) (b := (j : Int)) (by omega)
      simp only [sq, asgM, ifM, andV, orV, notV, andM, orM, notM, asB, rtM, bin, chainM, opB, isiM, appM, revM, callM, opt, ret, consA, nilA, tupM, lstM, vr, stS, stO, stM, mkS, mrg, pixM, pkM, gdM, Sl.own, Sl.put, subS, putM, appS, D.isL, sliceM, someI, strM, gtM, unp1, unp0, par2, dropM, isi_int_int, isi_bool_int, le_ii, lt_ii, eq_ii, ne_ii, gt_ii, ge_ii, add_ii, sub_ii, ix_left, ix_cell, ix_turns, put_left, put_turns, tup_ix0, tup_ix1, tup_ix2, osl, sz1, sz2, sz3,
  ↓bnd, List.getElem?_cons_zero, List.getElem?_cons_succ, List.set_cons_zero, List.set_cons_succ, List.cons_append, List.nil_append, List.length_cons, List.length_nil, List.replicate, Nat.zero_add, Nat.reduceAdd, Nat.reduceSub, List.append_nil, if_true, Bool.not_true, Bool.not_false, Bool.false_eq_true, if_false, ite_true, ite_false, decide_true, decide_false, ↓reduceIte, List.map_cons, List.map_nil, m, modP]) (fun d _ _ => rfl) (by rw [rng_len]; exact hz)
  refine rn_nx (Γ' := [.sh (.bd w h l), .sh (.lst ((rng 1 1 w).filter (modP w))), .no]) (asg_of e1 (by rw [List.map_id]; rfl)) ?_
  have e2 := lcM_filter' (v := 2) (Γ := [.sh (.bd w h l), .sh (.lst ((rng 1 1 w).filter (modP w))), .no]) (s := .no) (mi := seqM (vr 1)) (t := asB (bin D.eq (callM (fnM 11 m_own_carried) (consA (vr 0) (consA (tupM (consA (ret (.int 0)) (consA (vr 2) (nilA)))) (nilA)))) (vr 0))) (e := vr 2) (ds := (rng 1 1 w).filter (modP w)) (sameP w h l) id
    rfl rfl rfl (by
      intro d hd
      obtain ⟨j, h1, h2, rfl⟩ := hmem d (List.mem_filter.mp hd).1
      have rc := r_carried v (k := 0) (s := (j : Int)) (by omega) (by omega)
      rw [show ((0 : Nat) : Int) = 0 from rfl] at rc
      have q := eq_bd (w := w) (h := h) (w2 := w) (h2 := h) (a := carryL w h l 0 j) (b := l)
      simp only [decide_true, Bool.true_and] at q
      simp only [sq, asgM, ifM, andV, orV, notV, andM, orM, notM, asB, rtM, bin, chainM, opB, isiM, appM, revM, callM, opt, ret, consA, nilA, tupM, lstM, vr, stS, stO, stM, mkS, mrg, pixM, pkM, gdM, Sl.own, Sl.put, subS, putM, appS, D.isL, sliceM, someI, strM, gtM, unp1, unp0, par2, dropM, isi_int_int, isi_bool_int, le_ii, lt_ii, eq_ii, ne_ii, gt_ii, ge_ii, add_ii, sub_ii, ix_left, ix_cell, ix_turns, put_left, put_turns, tup_ix0, tup_ix1, tup_ix2, osl, sz1, sz2, sz3,
  ↓bnd, List.getElem?_cons_zero, List.getElem?_cons_succ, List.set_cons_zero, List.set_cons_succ, List.cons_append, List.nil_append, List.length_cons, List.length_nil, List.replicate, Nat.zero_add, Nat.reduceAdd, Nat.reduceSub, List.append_nil, if_true, Bool.not_true, Bool.not_false, Bool.false_eq_true, if_false, ite_true, ite_false, decide_true, decide_false, ↓reduceIte, List.map_cons, List.map_nil, rc, q, sameP]) (fun d _ _ => rfl) (by
      refine Nat.le_trans (List.length_filter_le _ _) ?_
      rw [rng_len]; exact hz)
  have hper : ∀ j : Nat, sameP w h l (.int (j : Int)) = true ↔ Per w h l j := fun j => by
    unfold sameP
    rw [decide_eq_true_eq]
    exact (carry_iff v v).trans per_leads
  have hp := H.pos
  obtain ⟨r, hr⟩ := filter_head (p := modP w) (q := sameP w h l) (a := D.int (p : Int)) (l := rng 1 1 w) (n := p - 1) (by
      unfold rng
      rw [List.getElem?_map, List.getElem?_range (by omega)]
      have e : (1 : Int) + ((p - 1 : Nat) : Int) * 1 = (p : Int) := by omega
      exact congrArg (fun z => some (D.int z)) e) (by
      intro i b hi hb
      obtain ⟨h1, rfl⟩ := rng_get hb
      have e0 : (1 : Int) + (i : Int) * 1 = ((i + 1 : Nat) : Int) := by omega
      rw [e0]
      have : sameP w h l (.int ((i + 1 : Nat) : Int)) = false := by
        cases hs : sameP w h l (.int ((i + 1 : Nat) : Int)) with
        | false => rfl
        | true => exact absurd ((hper _).mp hs) (H.least _ (by omega) (by omega))
      rw [this, Bool.and_false]) (by
      unfold modP
      have := lsh_dvd H (per_w (h := h) (l := l))
      exact decide_eq_true (by omega)) ((hper p).mpr H.per)
  rw [hr, List.map_id] at e2
  refine rn_in (rt_ok (bin_of e2 rfl lst_ix0)) ⟨rfl, rfl⟩
end DL.K70
set_option Elab.async false
set_option linter.all false
set_option maxRecDepth 100000
set_option maxHeartbeats 4000000
set_option autoImplicit false
namespace DL.K70
open PySem L2 DL
/-! ### the reduced band -/
def redRow (w : Nat) (l : List Nat) (p y : Nat) : List Nat := (l.drop (y * w)).take p
def red (w h : Nat) (l : List Nat) (p : Nat) : List Nat := ((List.range h).map (redRow w l p)).flatten
theorem redRow_len {w h : Nat} {l : List Nat} (v : VB w h l) {p y : Nat} (hp : p ≤ w) (hy : y < h) : (redRow w l p y).length = p := by
  have h1 := row_len v hy
  unfold rowOf at h1
  unfold redRow
  rw [List.length_take] at h1 ⊢
  omega
theorem red_vb {w h : Nat} {l : List Nat} (v : VB w h l) {p : Nat} (hp1 : 1 ≤ p) (hp : p ≤ w) : VB p h (red w h l p) where
  w1 := hp1
  w2 := Nat.le_trans hp v.w2
  h1 := v.h1
  h2 := v.h2
  len := by
    unfold red
    rw [flat_len (w := p) (by
      intro z hz
      obtain ⟨y, hy, rfl⟩ := List.mem_map.mp hz
      exact redRow_len v hp (List.mem_range.mp hy)), List.length_map, List.length_range, Nat.mul_comm]
theorem red_at {w h : Nat} {l : List Nat} (v : VB w h l) {p X y : Nat} (hp : p ≤ w) (hy : y < h) (hX : X < p) : (red w h l p)[y * p + X]? = l[y * w + X]? := by
  unfold red
  rw [flat_at (w := p) (by
      intro z hz
      obtain ⟨y, hy, rfl⟩ := List.mem_map.mp hz
      exact redRow_len v hp (List.mem_range.mp hy)) hX (by rw [List.length_map, List.length_range]; exact hy)]
  rw [List.getD_eq_getElem?_getD, List.getElem?_map, List.getElem?_range hy]
  show (redRow w l p y)[X]? = _
  unfold redRow
  rw [List.getElem?_take_of_lt hX, List.getElem?_drop]
theorem hue_red {w h : Nat} {l : List Nat} (v : VB w h l) {p : Nat} (H : Lsh w h l p) {x : Int} {y : Nat} (hy : y < h) : hue p (red w h l p) x y = hue w l x y := by
  have hple := lsh_le v.w1 H
  have hX := mod_nat H.pos x
  have e1 : hue w l x y = hue w l (x % (p : Int)) y := by
    have hm : ∀ n : Int, Per w h l ((p : Int) * n) := fun n => by
      rcases Int.eq_nat_or_neg n with ⟨m, rfl | rfl⟩
      · exact per_mul H.per m
      · rw [Int.mul_neg]; exact per_neg (per_mul H.per m)
    have := hm (x / p) y hy (x % (p : Int))
    rw [this]
    congr 1
    have := Int.emod_def x (p : Int)
    omega
  have hXw : ((x % (p : Int)) % (w : Int)).toNat = (x % (p : Int)).toNat := by
    rw [Int.emod_eq_of_lt (by omega) (by omega)]
  rw [e1]
  unfold hue
  rw [hXw, List.getD_eq_getElem?_getD, List.getD_eq_getElem?_getD, red_at v hple hy hX.2]
end DL.K70
set_option Elab.async false
set_option linter.all false
set_option maxRecDepth 100000
set_option maxHeartbeats 4000000
set_option autoImplicit false
namespace DL
open PySem L2
/-! ### one rule a construct, for mirrors at work -/
variable {Γ Γ' Γ1 Γ2 Γ3 Δ : SEnv}
theorem cb_bin {f : D → D → Option D} {ma mb : M D} {a b d : D} (ha : ma Γ = .ok a Γ1) (hb : mb Γ1 = .ok b Γ2) (h : f a b = some d) : bin f ma mb Γ = .ok d Γ2 := by
  simp only [bin, bnd, ha, hb, opt, h]
theorem cb_asg {m : M D} {g : D → M Unit} {d : D} (h : m Γ = .ok d Γ1) (hg : g d Γ1 = .ok () Γ2) : asgM m g Γ = .ok .nx Γ2 := by
  simp only [asgM, bnd, h, hg, ret]
theorem cb_add {a b : List D} (h : a.length + b.length ≤ 1000000) : D.add (.lst a) (.lst b) = some (.lst (a ++ b)) := by
  show (if sizeOk (a.length + b.length) = true then some (D.lst (a ++ b)) else none) = _
  rw [if_pos (size_ok h)]
theorem cb_lst {m : M (List D)} {ds : List D} (hm : m Γ = .ok ds Γ') (h : ds.length ≤ 1000000) : lstM m Γ = .ok (.lst ds) Γ' := by
  simp only [lstM, bnd, hm, size_ok h, if_true, ret]
theorem cb_tup {m : M (List D)} {ds : List D} (hm : m Γ = .ok ds Γ') (h : ds.length ≤ 1000000) : tupM m Γ = .ok (.tup ds) Γ' := by
  simp only [tupM, bnd, hm, size_ok h, if_true, ret]
theorem cb_cons {m : M D} {r : M (List D)} {d : D} {ds : List D} (hm : m Γ = .ok d Γ1) (hr : r Γ1 = .ok ds Γ2) : consA m r Γ = .ok (d :: ds) Γ2 := by
  simp only [consA, bnd, hm, hr, ret]
theorem cb_call {m : M D} {ma : M (List D)} {ds : List D} {d : D} (ha : ma Γ = .ok ds Γ') (hm : m (ds.map .sh) = .ok d Δ) : callM m ma Γ = .ok d Γ' := by
  simp only [callM, bnd, ha, hm]
theorem cb_callN {m : M D} {ma : M (List D)} {ds : List D} {d : D} (ha : ma Γ = .ok ds Γ') (hm : m (ds.map .sh) = .ok d Δ) : callN m ma Γ = .ok d Γ' := by
  simp only [callN, bnd, ha, hm]
theorem cb_perm {g : List D → List D} {m : M (List D)} {ds : List D} (h : m Γ = .ok ds Γ') : permA g m Γ = .ok (g ds) Γ' := by
  simp only [permA, bnd, h, ret]
theorem cb_asB {m : M D} {b : Bool} (h : m Γ = .ok (.bl b) Γ') : asB m Γ = .ok b Γ' := by
  simp only [asB, bnd, h, ret]
theorem cb_or {a b : M Bool} {p q : Bool} (ha : a Γ = .ok p Γ1) (hb : p = false → b Γ1 = .ok q Γ2) (e : p = true → Γ2 = Γ1) : orM a b Γ = .ok (p || q) Γ2 := by
  cases p with
  | true => rw [e rfl]; simp only [orM, bnd, ha, if_true, ret, Bool.true_or]
  | false => simp only [orM, bnd, ha, hb rfl, Bool.false_eq_true, if_false, Bool.false_or]
theorem cb_and {a b : M Bool} {p q : Bool} (ha : a Γ = .ok p Γ1) (hb : p = true → b Γ1 = .ok q Γ2) (e : p = false → Γ2 = Γ1) : andM a b Γ = .ok (p && q) Γ2 := by
  cases p with
  | false => rw [e rfl]; simp only [andM, bnd, ha, Bool.false_eq_true, if_false, ret, Bool.false_and]
  | true => simp only [andM, bnd, ha, hb rfl, if_true, Bool.true_and]
theorem cb_orV {a b : M D} {p q : Bool} (ha : a Γ = .ok (.bl p) Γ1) (hb : p = false → b Γ1 = .ok (.bl q) Γ2) (e : p = true → Γ2 = Γ1) : orV a b Γ = .ok (.bl (p || q)) Γ2 := by
  cases p with
  | true => rw [e rfl]; simp only [orV, bnd, cb_asB ha, if_true, ret, Bool.true_or]
  | false => simp only [orV, bnd, cb_asB ha, hb rfl, Bool.false_eq_true, if_false, Bool.false_or]
theorem cb_andV {a b : M D} {p q : Bool} (ha : a Γ = .ok (.bl p) Γ1) (hb : p = true → b Γ1 = .ok (.bl q) Γ2) (e : p = false → Γ2 = Γ1) : andV a b Γ = .ok (.bl (p && q)) Γ2 := by
  cases p with
  | false => rw [e rfl]; simp only [andV, bnd, cb_asB ha, Bool.false_eq_true, if_false, ret, Bool.false_and]
  | true => simp only [andV, bnd, cb_asB ha, hb rfl, if_true, Bool.true_and]
theorem cb_not {m : M Bool} {b : Bool} (h : m Γ = .ok b Γ') : notM m Γ = .ok (!b) Γ' := by
  simp only [notM, bnd, h, ret]
theorem cb_notV {m : M D} {b : Bool} (h : m Γ = .ok (.bl b) Γ') : notV m Γ = .ok (.bl (!b)) Γ' := by
  simp only [notV, bnd, cb_asB h, ret]
theorem cb_if {α : Type} {c : M Bool} {x y : M α} {b : Bool} {r : Res α} (h : c Γ = .ok b Γ1) (ht : b = true → x Γ1 = r) (hf : b = false → y Γ1 = r) : ifM c x y Γ = r := by
  cases b with
  | true => rw [ifM_t h]; exact ht rfl
  | false => rw [ifM_f h]; exact hf rfl
theorem cb_nt {m : M Bool} (h : m Γ = .ok true Γ') : notM m Γ = .ok false Γ' := cb_not h
theorem cb_nf {m : M Bool} (h : m Γ = .ok false Γ') : notM m Γ = .ok true Γ' := cb_not h
theorem cb_o1 {a b : M Bool} (ha : a Γ = .ok true Γ1) : orM a b Γ = .ok true Γ1 := by simp only [orM, bnd, ha, if_true, ret]
theorem cb_o2 {a b : M Bool} {q : Bool} (ha : a Γ = .ok false Γ1) (hb : b Γ1 = .ok q Γ2) : orM a b Γ = .ok q Γ2 := by simp only [orM, bnd, ha, hb, Bool.false_eq_true, if_false]
theorem cb_a1 {a b : M Bool} (ha : a Γ = .ok false Γ1) : andM a b Γ = .ok false Γ1 := by simp only [andM, bnd, ha, Bool.false_eq_true, if_false, ret]
theorem cb_a2 {a b : M Bool} {q : Bool} (ha : a Γ = .ok true Γ1) (hb : b Γ1 = .ok q Γ2) : andM a b Γ = .ok q Γ2 := by simp only [andM, bnd, ha, hb, if_true]
theorem cb_V1 {a b : M D} (ha : a Γ = .ok (.bl false) Γ1) : andV a b Γ = .ok (.bl false) Γ1 := by simp only [andV, bnd, cb_asB ha, Bool.false_eq_true, if_false, ret]
theorem cb_V2 {a b : M D} {d : D} (ha : a Γ = .ok (.bl true) Γ1) (hb : b Γ1 = .ok d Γ2) : andV a b Γ = .ok d Γ2 := by simp only [andV, bnd, cb_asB ha, hb, if_true]
theorem cb_it {α : Type} {c : M Bool} {x y : M α} {r : Res α} (h : c Γ = .ok true Γ1) (hx : x Γ1 = r) : ifM c x y Γ = r := by rw [ifM_t h]; exact hx
theorem cb_ie {α : Type} {c : M Bool} {x y : M α} {r : Res α} (h : c Γ = .ok false Γ1) (hy : y Γ1 = r) : ifM c x y Γ = r := by rw [ifM_f h]; exact hy
theorem cb_par2 {n1 n2 : Bool} {i j : Nat} {ma mb : M D} {a b : D} {Γ4 : SEnv} (ha : ma Γ = .ok a Γ1) (hb : mb Γ1 = .ok b Γ2) (h2 : stM n2 j b Γ2 = .ok () Γ3) (h1 : stM n1 i a Γ3 = .ok () Γ4) : par2 n1 n2 i j ma mb Γ = .ok .nx Γ4 := by
  simp only [par2, bnd, ha, hb, h2, h1, ret]
theorem cb_drop {m : M D} {d : D} (h : m Γ = .ok d Γ') : dropM m Γ = .ok .nx Γ' := by
  simp only [dropM, bnd, h, ret]
theorem cb_chain {g g' : D → D → Option D} {ma mb mc : M D} {a b c : D} {p q : Bool} (ha : ma Γ = .ok a Γ1) (hb : mb Γ1 = .ok b Γ2) (h1 : g a b = some (.bl p)) (hc : mc Γ2 = .ok c Γ2) (h2 : g' b c = some (.bl q)) : chainM g g' ma mb mc Γ = .ok (.bl (p && q)) Γ2 := by
  unfold chainM bnd
  rw [ha]
  simp only [bnd, hb, h1, opB]
  cases p with
  | true => simp only [ret, if_true, hc, h2, opt, Bool.true_and]
  | false => simp only [ret, Bool.false_eq_true, if_false, Bool.false_and]
theorem cb_ors {a b : M Bool} {p q : Bool} (ha : a Γ = .ok p Γ) (hb : b Γ = .ok q Γ) : orM a b Γ = .ok (p || q) Γ := by
  cases p with
  | true => exact cb_o1 ha
  | false => rw [Bool.false_or]; exact cb_o2 ha hb
theorem cb_seqL {m : M D} {ds : List D} (h : m Γ = .ok (.lst ds) Γ') : seqM m Γ = .ok ds Γ' := by
  simp only [seqM, bnd, h]
  rfl
theorem cb_seqT {m : M D} {ds : List D} (h : m Γ = .ok (.tup ds) Γ') : seqM m Γ = .ok ds Γ' := by
  simp only [seqM, bnd, h]
  rfl
theorem cb_app {g : List D → Option D} {m : M (List D)} {ds : List D} {d : D} (h : m Γ = .ok ds Γ') (e : g ds = some d) : appM g m Γ = .ok d Γ' := by
  simp only [appM, bnd, h, e, opt]
theorem cb_rev {g : D → Option D} {m : M D} {a d : D} (h : m Γ = .ok a Γ') (e : g a = some d) : revM g m Γ = .ok d Γ' := by
  simp only [revM, bnd, h, e, opt]
theorem cb_some {m : M D} {i : Int} (h : m Γ = .ok (.int i) Γ') : someI m Γ = .ok (some i) Γ' := by
  simp only [someI, bnd, h, ret]
theorem cb_slice {m : M D} {ml mh : M (Option Int)} {d e : D} {lo hi : Option Int} (h : m Γ = .ok d Γ1) (hl : ml Γ1 = .ok lo Γ2) (hh : mh Γ2 = .ok hi Γ3) (he : D.slice lo hi d = some e) : sliceM m ml mh Γ = .ok e Γ3 := by
  simp only [sliceM, bnd, h, hl, hh, he, opt]
theorem cb_str {g : Str → D → Option D} {ma mb : M D} {z : Str} {b d : D} (ha : ma Γ = .ok (.str z) Γ1) (hb : mb Γ1 = .ok b Γ2) (h : g z b = some d) : strM g ma mb Γ = .ok d Γ2 := by
  simp only [strM, bnd, ha, hb, opt, h]
theorem cb_isi {T : String} {m : M D} {d e : D} (h : m Γ = .ok d Γ') (he : isiO T d = some e) : isiM T m Γ = .ok e Γ' := by
  simp only [isiM, bnd, h, he, opt]
theorem cb_rt {m : M D} {d : D} (h : m Γ = .ok d Γ') : rtM m Γ = .ok (.rt d) Γ' := rt_ok h
theorem cb_self {d : D} (h : deepOk d = true) : D.ne d d = some (.bl false) ∧ D.eq d d = some (.bl true) := by
  have e := PySem.SeqAt.eqv_refl_plain _ (D.py_plain _ (deepOk_iff.mp h).1)
  constructor
  · unfold D.ne D.cmpG D.eqv
    simp only [h, e, Bool.and_self, if_true, Bool.not_true]
  · unfold D.eq D.cmpG D.eqv
    simp only [h, e, Bool.and_self, if_true]
/-- a comprehension, by its turns -/
theorem cb_lcL {vs : List Nat} {g : D → M Unit} {t : M Bool} {e : M D} {Γw : SEnv} (p : D → Bool) (f : D → D) :
    ∀ (ds acc : List D), (∀ d ∈ ds, ∃ Γd, g d Γw = .ok () Γd ∧ t Γd = .ok (p d) Γd ∧ (p d = true → e Γd = .ok (f d) Γd) ∧ wipM vs Γd = .ok () Γw) → acc.length + ds.length ≤ 1000000 →
      lcL vs g t e ds acc Γw = .ok (acc ++ (ds.filter p).map f) Γw
  | [], acc, _, _ => by simp [lcL, ret]
  | d :: ds, acc, h, hl => by
    obtain ⟨Γd, h1, h2, h3, h4⟩ := h d List.mem_cons_self
    rw [List.length_cons] at hl
    unfold lcL bnd
    rw [h1]
    simp only [noEr, bnd, h2]
    cases hp : p d with
    | false =>
      simp only [Bool.false_eq_true, if_false, h4]
      rw [cb_lcL p f ds acc (fun x hx => h x (List.mem_cons_of_mem _ hx)) (by omega), List.filter_cons_of_neg (by rw [hp]; simp)]
    | true =>
      simp only [if_true, h3 hp, size_ok (show acc.length + 1 ≤ 1000000 by omega), h4]
      rw [cb_lcL p f ds (acc ++ [f d]) (fun x hx => h x (List.mem_cons_of_mem _ hx)) (by rw [List.length_append, List.length_cons, List.length_nil]; omega), List.filter_cons_of_pos hp, List.map_cons, List.append_assoc]
      rfl
theorem cb_lc {vs : List Nat} {mi : M (List D)} {g : D → M Unit} {t : M Bool} {e : M D} {Γw : SEnv} {ds : List D} (p : D → Bool) (f : D → D) (hi : mi Γ = .ok ds Γ1) (hs : savM vs Γ1 = .ok Γ1 Γ1) (hw : wipM vs Γ1 = .ok () Γw)
    (ht : ∀ d ∈ ds, ∃ Γd, g d Γw = .ok () Γd ∧ t Γd = .ok (p d) Γd ∧ (p d = true → e Γd = .ok (f d) Γd) ∧ wipM vs Γd = .ok () Γw) (hl : ds.length ≤ 1000000) (hr : rstG Γ1 Γw vs = Γ1) : lcM vs mi g t e Γ = .ok (.lst ((ds.filter p).map f)) Γ1 := by
  unfold lcM bnd
  rw [hi]
  simp only [bnd, hs, hw, cb_lcL p f ds [] ht (by simpa using hl), List.nil_append, rstM, hr, ret]
/-- .. without a test -/
theorem cb_lcm {vs : List Nat} {mi : M (List D)} {g : D → M Unit} {e : M D} {Γw : SEnv} {ds : List D} (f : D → D) (hi : mi Γ = .ok ds Γ1) (hs : savM vs Γ1 = .ok Γ1 Γ1) (hw : wipM vs Γ1 = .ok () Γw)
    (ht : ∀ d ∈ ds, ∃ Γd, g d Γw = .ok () Γd ∧ e Γd = .ok (f d) Γd ∧ wipM vs Γd = .ok () Γw) (hl : ds.length ≤ 1000000) (hr : rstG Γ1 Γw vs = Γ1) : lcM vs mi g (ret true) e Γ = .ok (.lst (ds.map f)) Γ1 := by
  have := cb_lc (t := ret true) (fun _ => true) f hi hs hw (fun d hd => by
    obtain ⟨Γd, h1, h2, h3⟩ := ht d hd
    exact ⟨Γd, h1, rfl, fun _ => h2, h3⟩) hl hr
  rw [List.filter_eq_self.mpr (fun _ _ => rfl)] at this
  exact this
/-- two fors -/
theorem cb_lc2L {vs vs1 : List Nat} {g g1 : D → M Unit} {t t1 : M Bool} {mi1 : M (List D)} {e : M D} {Γw : SEnv} (F : D → List D) :
    ∀ (ds acc : List D), (∀ d ∈ ds, ∃ Γd Γd1, g d Γw = .ok () Γd ∧ t Γd = .ok true Γd ∧ ∃ es, mi1 Γd = .ok es Γd ∧ wipM vs1 Γd = .ok () Γd1 ∧ (∀ acc : List D, acc.length + (F d).length ≤ 1000000 → lcL vs1 g1 t1 e es acc Γd1 = .ok (acc ++ F d) Γd1) ∧ wipM vs Γd1 = .ok () Γw) →
      acc.length + (ds.flatMap F).length ≤ 1000000 → lc2L vs vs1 g t mi1 g1 t1 e ds acc Γw = .ok (acc ++ ds.flatMap F) Γw
  | [], acc, _, _ => by simp [lc2L, ret]
  | d :: ds, acc, h, hl => by
    obtain ⟨Γd, Γd1, h1, h2, es, h3, h4, h5, h6⟩ := h d List.mem_cons_self
    rw [List.flatMap_cons, List.length_append] at hl
    unfold lc2L bnd
    rw [h1]
    simp only [noEr, bnd, h2, if_true, h3, h4, h5 acc (by omega), h6]
    rw [cb_lc2L F ds (acc ++ F d) (fun x hx => h x (List.mem_cons_of_mem _ hx)) (by rw [List.length_append]; omega), List.flatMap_cons, List.append_assoc]
theorem cb_lc2 {vs vs1 : List Nat} {mi : M (List D)} {g g1 : D → M Unit} {t t1 : M Bool} {mi1 : M (List D)} {e : M D} {Γw : SEnv} {ds : List D} (F : D → List D) (hi : mi Γ = .ok ds Γ1) (hs : savM vs Γ1 = .ok Γ1 Γ1) (hw : wipM vs Γ1 = .ok () Γw)
    (ht : ∀ d ∈ ds, ∃ Γd Γd1, g d Γw = .ok () Γd ∧ t Γd = .ok true Γd ∧ ∃ es, mi1 Γd = .ok es Γd ∧ wipM vs1 Γd = .ok () Γd1 ∧ (∀ acc : List D, acc.length + (F d).length ≤ 1000000 → lcL vs1 g1 t1 e es acc Γd1 = .ok (acc ++ F d) Γd1) ∧ wipM vs Γd1 = .ok () Γw)
    (hl : (ds.flatMap F).length ≤ 1000000) (hr : rstG Γ1 Γw vs = Γ1) : lc2M vs vs1 mi g t mi1 g1 t1 e Γ = .ok (.lst (ds.flatMap F)) Γ1 := by
  unfold lc2M bnd
  rw [hi]
  simp only [bnd, hs, hw, cb_lc2L F ds [] ht (by simpa using hl), List.nil_append, rstM, hr, ret]
/-! ### the order of data -/
theorem ltv_irr (a : D) : D.ltv a a = false := PyProof.Rows.lex_irrefl (O := PyProof.Rows.itemOrd) _
theorem ltv_trans {a b c : D} (h1 : D.ltv a b = true) (h2 : D.ltv b c = true) : D.ltv a c = true := PyProof.Rows.lex_trans (O := PyProof.Rows.itemOrd) _ _ _ h1 h2
theorem ltv_total {a b : D} (h1 : D.ltv a b = false) (h2 : D.ltv b a = false) : PySem.W.keyToks a.py = PySem.W.keyToks b.py := PyProof.Rows.lex_total (O := PyProof.Rows.itemOrd) _ _ h1 h2
theorem ltv_congr {a b c : D} (h : PySem.W.keyToks a.py = PySem.W.keyToks b.py) : D.ltv a c = D.ltv b c := by
  unfold D.ltv PySem.W.dataLt
  rw [h]
theorem minD_least : ∀ (ds : List D) (d : D), ∀ y ∈ d :: ds, D.ltv y (D.minD d ds) = false
  | [], d, y, h => by
    rw [List.mem_singleton] at h
    subst h
    exact ltv_irr _
  | e :: ds, d, y, h => by
    have ih := minD_least ds (if D.ltv e d = true then e else d)
    have e0 : D.minD d (e :: ds) = D.minD (if D.ltv e d = true then e else d) ds := rfl
    rw [e0]
    generalize D.minD (if D.ltv e d = true then e else d) ds = r at ih
    rcases List.mem_cons.mp h with rfl | h
    · by_cases z : D.ltv e y = true
      · rw [if_pos z] at ih
        rw [Bool.eq_false_iff]
        intro q
        have := ih e List.mem_cons_self
        rw [ltv_trans z q] at this
        cases this
      · rw [if_neg z] at ih
        exact ih y List.mem_cons_self
    · rcases List.mem_cons.mp h with rfl | h
      · by_cases z : D.ltv y d = true
        · rw [if_pos z] at ih
          exact ih y List.mem_cons_self
        · rw [if_neg z] at ih
          have z' : D.ltv y d = false := by simpa using z
          have hd := ih d List.mem_cons_self
          rw [Bool.eq_false_iff]
          intro q
          by_cases u : D.ltv d y = true
          · rw [ltv_trans u q] at hd
            cases hd
          · have u' : D.ltv d y = false := by simpa using u
            rw [ltv_congr (ltv_total u' z'), q] at hd
            cases hd
      · exact ih y (List.mem_cons_of_mem _ h)
end DL
set_option Elab.async false
set_option linter.all false
set_option maxRecDepth 100000
set_option maxHeartbeats 4000000
set_option autoImplicit false
namespace DL.K70
open PySem L2 DL
theorem r_reduced {w h : Nat} {l : List Nat} (v : VB w h l) {p : Nat} (H : Lsh w h l p) :
    fnM 6 m_own_reduced [.sh (.bd w h l)] = .ok (.bd p h (red w h l p)) [.sh (.bd w h l)] := by
  have hw := v.w2
  have hh := v.h2
  have hsm := v.small
  have hple := lsh_le v.w1 H
  have ro := r_oleast v H
  have rv := red_vb v H.pos hple
  let F : D → D := fun d => match d with
    | .int y => .st (redRow w l p y.toNat)
    | _ => .non
  have e1 := cb_lcm (vs := [5]) (g := stS 5) (Γ := [.sh (.bd w h l), .sh (.int w), .sh (.int h), .sh (.st l), .sh (.int p), .no]) (Γ1 := [.sh (.bd w h l), .sh (.int w), .sh (.int h), .sh (.st l), .sh (.int p), .no]) (Γw := [.sh (.bd w h l), .sh (.int w), .sh (.int h), .sh (.st l), .sh (.int p), .no])
    (mi := rangeM (consA (vr 2) (nilA))) (e := sliceM (vr 3) (someI (bin D.mul (vr 5) (vr 1))) (someI (bin D.add (bin D.mul (vr 5) (vr 1)) (vr 4)))) (ds := rng 0 1 h) F
    (rangeM_n rfl (by omega)) rfl rfl (by
      intro d hd
      rw [rng_map] at hd
      obtain ⟨y, hy, rfl⟩ := List.mem_map.mp hd
      rw [List.mem_range] at hy
      have m1 : D.mul (.int (y : Int)) (.int (w : Int)) = some (.int ((y * w : Nat) : Int)) := mul_nn (by omega) (by omega)
      have m2 : D.add (.int ((y * w : Nat) : Int)) (.int (p : Int)) = some (.int ((y * w + p : Nat) : Int)) := by rw [add_ii]; congr 2
      have hc := cell_lt (w := w) hy (i := p - 1) (by have := H.pos; omega)
      rw [← v.len] at hc
      have m3 := slice_mid (l := l) (a := y * w) (b := y * w + p) (by omega) (by omega) (by have := H.pos; omega)
      have m4 : y * w + p - y * w = p := by omega
      rw [m4] at m3
      refine ⟨[.sh (.bd w h l), .sh (.int w), .sh (.int h), .sh (.st l), .sh (.int p), .sh (.int y)], rfl, ?_, rfl⟩
      exact cb_slice rfl (cb_some (cb_bin rfl rfl m1)) (cb_some (cb_bin (cb_bin rfl rfl m1) rfl m2)) m3) (by rw [rng_len]; omega) rfl
  have hmap : (rng 0 1 h).map F = ((List.range h).map (redRow w l p)).map D.st := by
    rw [rng_map, List.map_map, List.map_map]
    exact List.map_congr_left fun y _ => rfl
  rw [hmap] at e1
  have hj := join_st (ls := (List.range h).map (redRow w l p)) (by
    have := rv.small
    unfold red at this
    omega)
  have s1 : asgM (vr 0) (gtM 3 (unp1 (stS 1) (unp1 (stS 2) (unp1 (stS 3) unp0)))) [.sh (.bd w h l), .no, .no, .no, .no, .no] = .ok .nx [.sh (.bd w h l), .sh (.int w), .sh (.int h), .sh (.st l), .no, .no] := cb_asg rfl rfl
  have s2 : asgM (callM (fnM 3 m_own_least_shift) (consA (vr 0) (nilA))) (stS 4) [.sh (.bd w h l), .sh (.int w), .sh (.int h), .sh (.st l), .no, .no] = .ok .nx [.sh (.bd w h l), .sh (.int w), .sh (.int h), .sh (.st l), .sh (.int p), .no] := cb_asg (cb_call (ds := [.bd w h l]) rfl ro) rfl
  refine fnM_rt (Δ := [.sh (.bd w h l), .sh (.int w), .sh (.int h), .sh (.st l), .sh (.int p), .no]) ?_ rfl
  show m_own_reduced [.sh (.bd w h l), .no, .no, .no, .no, .no] = _
  unfold m_own_reduced
  refine (sq_nx s1).trans ((sq_nx s2).trans ?_)
  exact cb_rt (cb_tup (cb_cons rfl (cb_cons rfl (cb_cons (cb_str rfl e1 hj) rfl))) (by simp))
/-! ### the order of bands -/
theorem bd_alike {w h w2 h2 : Int} {a b : List Nat} : PySem.W.alike (D.bd w h a).py (D.bd w2 h2 b).py = true := by
  simp [D.py, D.pys, PySem.W.alike, PySem.W.alikeAll]
theorem ltv_bd {w h : Int} {a b : List Nat} : D.ltv (.bd w h a) (.bd w h b) = decide (a < b) := by
  have i1 : PySem.W.alike (.int w) (.int w) = true := by simp [PySem.W.alike]
  have i2 : PySem.W.alike (.int h) (.int h) = true := by simp [PySem.W.alike]
  have i3 : PySem.W.alike (.str (SS a)) (.str (SS b)) = true := by simp [PySem.W.alike]
  have q1 : PyData.eqv (.int w) (.int w) = true := by simp [PyData.eqv]
  have q2 : PyData.eqv (.int h) (.int h) = true := by simp [PyData.eqv]
  show PySem.W.dataLt (.tuple [.int w, .int h, .str (SS a)]) (.tuple [.int w, .int h, .str (SS b)]) = _
  rw [PySem.W.dataLt_tuple, PySem.W.dataLt_all_yes i1 q1, PySem.W.dataLt_all_yes i2 q2]
  by_cases e : a = b
  · subst e
    rw [PySem.W.dataLt_all_yes i3 (by simp [PyData.eqv])]
    rw [show decide (a < a) = false from decide_eq_false (List.lt_irrefl a)]
    exact PyProof.Rows.lex_irrefl (O := PyProof.Rows.itemOrd) _
  · have q3 : PyData.eqv (.str (SS a)) (.str (SS b)) = false := by
      have : (SS a == SS b) = decide (a = b) := SX.S_beq_eq
      simp only [PyData.eqv, this, e, decide_false]
    rw [PySem.W.dataLt_all_no i3 q3, PySem.W.dataLt_str]
theorem ltv_pair {x y : D} {xs ys : List D} (h : PySem.W.alike x.py y.py = true) (e : PyData.eqv x.py y.py = false) : D.ltv (.tup (x :: xs)) (.tup (y :: ys)) = D.ltv x y := by
  show PySem.W.dataLt (.tuple (x.py :: D.pys xs)) (.tuple (y.py :: D.pys ys)) = _
  rw [PySem.W.dataLt_tuple, PySem.W.dataLt_all_no h e]
  rfl
/-- m: the least of all carried -/
structure Mn (p h : Nat) (r m : List Nat) : Prop where
  ex : ∃ k s : Nat, k < 4 ∧ s < p ∧ m = carryL p h r k s
  least : ∀ k s : Nat, k < 4 → s < p → ¬ carryL p h r k s < m
theorem lt_anti {a b : List Nat} (h1 : ¬ a < b) (h2 : ¬ b < a) : a = b := List.le_antisymm (List.not_lt.mp h2) (List.not_lt.mp h1)
theorem Mn.uniq {p h : Nat} {r m m' : List Nat} (a : Mn p h r m) (b : Mn p h r m') : m = m' := by
  obtain ⟨k, s, hk, hs, e⟩ := a.ex
  obtain ⟨k', s', hk', hs', e'⟩ := b.ex
  exact lt_anti (by have := b.least k s hk hs; rwa [← e] at this) (by have := a.least k' s' hk' hs'; rwa [← e'] at this)
abbrev mot (k s : Int) : D := .tup [.int k, .int s]
end DL.K70
set_option Elab.async false
set_option linter.all false
set_option maxRecDepth 100000
set_option maxHeartbeats 4000000
set_option autoImplicit false
namespace DL
open PySem L2
theorem min_lst {l : List D} (h0 : l ≠ []) (hm : minOk l = true) : ∃ m ∈ l, D.min [.lst l] = some m ∧ ∀ y ∈ l, D.ltv y m = false := by
  cases l with
  | nil => exact absurd rfl h0
  | cons d ds =>
    refine ⟨D.minD d ds, minD_mem ds d, ?_, minD_least ds d⟩
    show (if minOk (d :: ds) = true then some (D.minD d ds) else none) = _
    rw [if_pos hm]
theorem minOk_of {l : List D} (h1 : ∀ d ∈ l, deepOk d = true) (h2 : ∀ d ∈ l, ∀ e ∈ l, PySem.W.alike d.py e.py = true) (h3 : ∀ d ∈ l, d.isNon = false) : minOk l = true := by
  unfold minOk likeAll
  rw [Bool.and_eq_true, Bool.and_eq_true]
  refine ⟨⟨List.all_eq_true.mpr h1, List.all_eq_true.mpr fun d hd => List.all_eq_true.mpr fun e he => h2 d hd e he⟩, List.all_eq_true.mpr fun d hd => by rw [h3 d hd]; rfl⟩
end DL
namespace DL.K70
open PySem L2 DL
def cnd (p h : Nat) (r : List Nat) (k s : Nat) : D := .tup [.bd p h (carryL p h r k s), mot k s]
theorem cnd_deep {p h : Nat} {r : List Nat} {k s : Nat} : deepOk (cnd p h r k s) = true := by simp [cnd, deepOk, D.pl, D.py, PyData.depth, D.pls, D.pys, PyData.depthAll]
theorem cnd_alike {p h : Nat} {r : List Nat} {k s p' h' : Nat} {r' : List Nat} {k' s' : Nat} : PySem.W.alike (cnd p h r k s).py (cnd p' h' r' k' s').py = true := by
  simp [cnd, D.py, D.pys, PySem.W.alike, PySem.W.alikeAll]
theorem eqv_bd {w h : Int} {a b : List Nat} : PyData.eqv (D.bd w h a).py (D.bd w h b).py = decide (a = b) := by
  have e : (SS a == SS b) = decide (a = b) := SX.S_beq_eq
  simp [D.py, D.pys, PyData.eqv, PyData.eqvAll, e]
theorem lt_cnd {p h : Nat} {r : List Nat} {k s k' s' : Nat} (hl : carryL p h r k s < carryL p h r k' s') : D.ltv (cnd p h r k s) (cnd p h r k' s') = true := by
  have ne : carryL p h r k s ≠ carryL p h r k' s' := fun e => by
    rw [e] at hl
    exact List.lt_irrefl _ hl
  unfold cnd
  rw [ltv_pair bd_alike (by rw [eqv_bd]; exact decide_eq_false ne), ltv_bd]
  exact decide_eq_true hl
/-- all carried with their motions -/
def cnds (p h : Nat) (r : List Nat) : List D := (List.range 4).flatMap fun k => (List.range p).map fun s => cnd p h r k s
theorem cnds_mem {p h : Nat} {r : List Nat} {d : D} : d ∈ cnds p h r ↔ ∃ k s, k < 4 ∧ s < p ∧ d = cnd p h r k s := by
  unfold cnds
  rw [List.mem_flatMap]
  constructor
  · rintro ⟨k, hk, h2⟩
    obtain ⟨s, hs, rfl⟩ := List.mem_map.mp h2
    exact ⟨k, s, List.mem_range.mp hk, List.mem_range.mp hs, rfl⟩
  · rintro ⟨k, s, hk, hs, rfl⟩
    exact ⟨k, List.mem_range.mpr hk, List.mem_map.mpr ⟨s, List.mem_range.mpr hs, rfl⟩⟩
theorem flat_const {α β : Type} {f : α → List β} {n : Nat} : ∀ {l : List α}, (∀ a ∈ l, (f a).length = n) → (l.flatMap f).length = l.length * n
  | [], _ => by simp
  | a :: l, h => by
    rw [List.flatMap_cons, List.length_append, h a List.mem_cons_self, flat_const fun b hb => h b (List.mem_cons_of_mem _ hb), List.length_cons, Nat.succ_mul]
    omega
theorem cnds_min {p h : Nat} {r : List Nat} (hp : 1 ≤ p) : ∃ k s : Nat, k < 4 ∧ s < p ∧ D.min [.lst (cnds p h r)] = some (cnd p h r k s) ∧ Mn p h r (carryL p h r k s) := by
  have m0 : cnd p h r 0 0 ∈ cnds p h r := cnds_mem.mpr ⟨0, 0, by omega, by omega, rfl⟩
  obtain ⟨m, hm, e, hl⟩ := min_lst (l := cnds p h r) (fun z => by rw [z] at m0; cases m0) (minOk_of (fun d hd => by
    obtain ⟨k, s, _, _, rfl⟩ := cnds_mem.mp hd
    exact cnd_deep) (fun d hd e he => by
    obtain ⟨k, s, _, _, rfl⟩ := cnds_mem.mp hd
    obtain ⟨k', s', _, _, rfl⟩ := cnds_mem.mp he
    exact cnd_alike) (fun d hd => by
    obtain ⟨k, s, _, _, rfl⟩ := cnds_mem.mp hd
    rfl))
  obtain ⟨k, s, hk, hs, rfl⟩ := cnds_mem.mp hm
  refine ⟨k, s, hk, hs, e, ⟨⟨k, s, hk, hs, rfl⟩, fun k' s' hk' hs' z => ?_⟩⟩
  have := hl _ (cnds_mem.mpr ⟨k', s', hk', hs', rfl⟩)
  rw [lt_cnd z] at this
  cases this
theorem rng4' : rng 0 1 4 = [.int ((0 : Nat) : Int), .int ((1 : Nat) : Int), .int ((2 : Nat) : Int), .int ((3 : Nat) : Int)] := rng_map
theorem r_oform {w h : Nat} {l : List Nat} (v : VB w h l) {p : Nat} (H : Lsh w h l p) : ∃ k s : Nat, k < 4 ∧ s < p ∧ Mn p h (red w h l p) (carryL p h (red w h l p) k s) ∧
    fnM 5 m_own_form [.sh (.bd w h l)] = .ok (cnd p h (red w h l p) k s) [.sh (.bd w h l)] := by
  have hw := v.w2
  have hple := lsh_le v.w1 H
  have rv := red_vb v H.pos hple
  have rr := r_reduced v H
  generalize red w h l p = r at rv rr
  obtain ⟨k, s, hk, hs, em, mn⟩ := cnds_min (h := h) (r := r) H.pos
  refine ⟨k, s, hk, hs, mn, ?_⟩
  let F : D → List D := fun d => match d with
    | .int i => (List.range p).map fun s => cnd p h r i.toNat s
    | _ => []
  have e1 := cb_lc2 (vs := [3, 4]) (vs1 := [4]) (g := stS 3) (g1 := stS 4) (t := ret true) (t1 := ret true) (mi := rangeM (consA (ret (.int 4)) (nilA))) (mi1 := rangeM (consA (bin D.ix (vr 1) (ret (.int 0))) (nilA))) (e := tupM (consA (callM (fnM 11 m_own_carried) (consA (vr 1) (consA (tupM (consA (vr 3) (consA (vr 4) (nilA)))) (nilA)))) (consA (tupM (consA (vr 3) (consA (vr 4) (nilA)))) (nilA))))
    (Γ := [.sh (.bd w h l), .sh (.bd p h r), .no, .no, .no]) (Γ1 := [.sh (.bd w h l), .sh (.bd p h r), .no, .no, .no]) (Γw := [.sh (.bd w h l), .sh (.bd p h r), .no, .no, .no]) (ds := rng 0 1 4) F (rangeM_n (n := 4) rfl (by omega)) rfl rfl (by
      intro d hd
      rw [rng_map] at hd
      obtain ⟨i, hi, rfl⟩ := List.mem_map.mp hd
      rw [List.mem_range] at hi
      refine ⟨[.sh (.bd w h l), .sh (.bd p h r), .no, .sh (.int i), .no], [.sh (.bd w h l), .sh (.bd p h r), .no, .sh (.int i), .no], rfl, rfl, rng 0 1 p, rangeM_n (n := p) (cb_cons (cb_bin rfl rfl tup_ix0) rfl) (by omega), rfl, fun acc ha => ?_, rfl⟩
      have e2 := cb_lcL (vs := [4]) (g := stS 4) (t := ret true) (e := tupM (consA (callM (fnM 11 m_own_carried) (consA (vr 1) (consA (tupM (consA (vr 3) (consA (vr 4) (nilA)))) (nilA)))) (consA (tupM (consA (vr 3) (consA (vr 4) (nilA)))) (nilA)))) (Γw := [.sh (.bd w h l), .sh (.bd p h r), .no, .sh (.int i), .no])
        (fun _ => true) (fun d => match d with | .int s => cnd p h r i s.toNat | _ => .non) (rng 0 1 p) acc (by
          intro d hd
          rw [rng_map] at hd
          obtain ⟨s, hs, rfl⟩ := List.mem_map.mp hd
          rw [List.mem_range] at hs
          have rc := r_carried rv (k := i) (s := (s : Int)) hi (by omega)
          refine ⟨[.sh (.bd w h l), .sh (.bd p h r), .no, .sh (.int i), .sh (.int s)], rfl, rfl, fun _ => ?_, rfl⟩
          have em : tupM (consA (vr 3) (consA (vr 4) (nilA))) [.sh (.bd w h l), .sh (.bd p h r), .no, .sh (.int i), .sh (.int s)] = .ok (mot i s) [.sh (.bd w h l), .sh (.bd p h r), .no, .sh (.int i), .sh (.int s)] := cb_tup (cb_cons rfl (cb_cons rfl rfl)) (by simp)
          exact cb_tup (cb_cons (cb_call (ds := [.bd p h r, mot i s]) (cb_cons rfl (cb_cons em rfl)) rc) (cb_cons em rfl)) (by simp)) (by
          have : (F (.int (i : Int))).length = p := by simp [F]
          rw [this] at ha
          rw [rng_len]; exact ha)
      rw [List.filter_eq_self.mpr (fun _ _ => rfl), rng_map, List.map_map] at e2
      rw [rng_map, e2]
      congr 2) (by
      rw [flat_const (n := p), rng_len]
      · omega
      · intro d hd
        rw [rng_map] at hd
        obtain ⟨i, hi, rfl⟩ := List.mem_map.mp hd
        simp [F]) rfl
  have hF : (rng 0 1 4).flatMap F = cnds p h r := by
    rw [rng_map, List.flatMap_map]
    unfold cnds
    congr 1
  rw [hF] at e1
  have s1 : asgM (callM (fnM 6 m_own_reduced) (consA (vr 0) (nilA))) (stS 1) [.sh (.bd w h l), .no, .no, .no, .no] = .ok .nx [.sh (.bd w h l), .sh (.bd p h r), .no, .no, .no] := cb_asg (cb_call (ds := [.bd w h l]) rfl rr) rfl
  refine fnM_rt (Δ := [.sh (.bd w h l), .sh (.bd p h r), .sh (.lst (cnds p h r)), .no, .no]) ?_ rfl
  show m_own_form [.sh (.bd w h l), .no, .no, .no, .no] = _
  unfold m_own_form
  refine (sq_nx s1).trans ((sq_nx (cb_asg e1 (Γ2 := [.sh (.bd w h l), .sh (.bd p h r), .sh (.lst (cnds p h r)), .no, .no]) rfl)).trans ?_)
  exact cb_rt (cb_app (cb_cons rfl rfl) em)
end DL.K70
set_option Elab.async false
set_option linter.all false
set_option maxRecDepth 100000
set_option maxHeartbeats 4000000
set_option autoImplicit false
namespace DL.K70
open PySem L2 DL
def bds (p h : Nat) (r : List Nat) (n : Nat) : List D := (List.range n).flatMap fun k => (List.range p).map fun (s : Nat) => D.bd p h (carryL p h r k s)
theorem bds_mem {p h : Nat} {r : List Nat} {n : Nat} {d : D} : d ∈ bds p h r n ↔ ∃ k s : Nat, k < n ∧ s < p ∧ d = .bd p h (carryL p h r k s) := by
  unfold bds
  rw [List.mem_flatMap]
  constructor
  · rintro ⟨k, hk, h2⟩
    obtain ⟨s, hs, rfl⟩ := List.mem_map.mp h2
    exact ⟨k, s, List.mem_range.mp hk, List.mem_range.mp hs, rfl⟩
  · rintro ⟨k, s, hk, hs, rfl⟩
    exact ⟨k, List.mem_range.mpr hk, List.mem_map.mpr ⟨s, List.mem_range.mpr hs, rfl⟩⟩
theorem bds_len {p h : Nat} {r : List Nat} {n : Nat} : (bds p h r n).length = n * p := by
  unfold bds
  rw [flat_const (n := p) (fun a _ => by simp), List.length_range]
theorem bds_min {p h : Nat} {r : List Nat} (hp : 1 ≤ p) : ∃ m : List Nat, D.min [.lst (bds p h r 4)] = some (.bd p h m) ∧ Mn p h r m := by
  have m0 : D.bd p h (carryL p h r 0 (0 : Nat)) ∈ bds p h r 4 := bds_mem.mpr ⟨0, 0, by omega, by omega, rfl⟩
  obtain ⟨m, hm, e, hl⟩ := min_lst (l := bds p h r 4) (fun z => by rw [z] at m0; cases m0) (minOk_of (fun d hd => by
    obtain ⟨k, s, _, _, rfl⟩ := bds_mem.mp hd
    exact deep_bd) (fun d hd e he => by
    obtain ⟨k, s, _, _, rfl⟩ := bds_mem.mp hd
    obtain ⟨k', s', _, _, rfl⟩ := bds_mem.mp he
    exact bd_alike) (fun d hd => by
    obtain ⟨k, s, _, _, rfl⟩ := bds_mem.mp hd
    rfl))
  obtain ⟨k, s, hk, hs, rfl⟩ := bds_mem.mp hm
  refine ⟨_, e, ⟨⟨k, s, hk, hs, rfl⟩, fun k' s' hk' hs' z => ?_⟩⟩
  have := hl _ (bds_mem.mpr ⟨k', s', hk', hs', rfl⟩)
  rw [ltv_bd, decide_eq_true z] at this
  cases this
theorem r_lform {w h : Nat} {l : List Nat} (v : VB w h l) {p : Nat} (H : Lsh w h l p) : ∃ m : List Nat, Mn p h (red w h l p) m ∧ fnM 7 m__law_form [.sh (.bd w h l)] = .ok (.bd p h m) [.sh (.bd w h l)] := by
  have hw := v.w2
  have hh := v.h2
  have hsm := v.small
  have hple := lsh_le v.w1 H
  have rv := red_vb v H.pos hple
  have ro := r_lleast v H
  let F : D → D := fun d => match d with
    | .int y => .st (redRow w l p y.toNat)
    | _ => .non
  have e1 := cb_lcm (vs := [5]) (g := stS 5) (Γ := [.sh (.bd w h l), .sh (.int p), .sh (.lst []), .no, .no, .no, .no]) (Γ1 := [.sh (.bd w h l), .sh (.int p), .sh (.lst []), .no, .no, .no, .no]) (Γw := [.sh (.bd w h l), .sh (.int p), .sh (.lst []), .no, .no, .no, .no])
    (mi := rangeM (consA (bin D.ix (vr 0) (ret (.int 1))) (nilA))) (e := sliceM (bin D.ix (vr 0) (ret (.int 2))) (someI (bin D.mul (vr 5) (bin D.ix (vr 0) (ret (.int 0))))) (someI (bin D.add (bin D.mul (vr 5) (bin D.ix (vr 0) (ret (.int 0)))) (vr 1)))) (ds := rng 0 1 h) F
    (rangeM_n (n := h) (cb_cons (cb_bin rfl rfl tup_ix1) rfl) (by omega)) rfl rfl (by
      intro d hd
      rw [rng_map] at hd
      obtain ⟨y, hy, rfl⟩ := List.mem_map.mp hd
      rw [List.mem_range] at hy
      have m1 : D.mul (.int (y : Int)) (.int (w : Int)) = some (.int ((y * w : Nat) : Int)) := mul_nn (by omega) (by omega)
      have m2 : D.add (.int ((y * w : Nat) : Int)) (.int (p : Int)) = some (.int ((y * w + p : Nat) : Int)) := by rw [add_ii]; congr 2
      have hc := cell_lt (w := w) hy (i := p - 1) (by have := H.pos; omega)
      rw [← v.len] at hc
      have m3 := slice_mid (l := l) (a := y * w) (b := y * w + p) (by omega) (by omega) (by have := H.pos; omega)
      have m4 : y * w + p - y * w = p := by omega
      rw [m4] at m3
      refine ⟨[.sh (.bd w h l), .sh (.int p), .sh (.lst []), .no, .no, .sh (.int y), .no], rfl, ?_, rfl⟩
      have k1 : bin D.mul (vr 5) (bin D.ix (vr 0) (ret (.int 0))) [.sh (.bd w h l), .sh (.int p), .sh (.lst []), .no, .no, .sh (.int y), .no] = .ok (.int ((y * w : Nat) : Int)) [.sh (.bd w h l), .sh (.int p), .sh (.lst []), .no, .no, .sh (.int y), .no] := cb_bin rfl (cb_bin rfl rfl tup_ix0) m1
      exact cb_slice (cb_bin rfl rfl tup_ix2) (cb_some k1) (cb_some (cb_bin k1 rfl m2)) m3) (by rw [rng_len]; omega) rfl
  have hmap : (rng 0 1 h).map F = ((List.range h).map (redRow w l p)).map D.st := by
    rw [rng_map, List.map_map, List.map_map]
    exact List.map_congr_left fun y _ => rfl
  rw [hmap] at e1
  have hj : D.join "" (.lst (((List.range h).map (redRow w l p)).map D.st)) = some (.st (red w h l p)) := join_st (ls := (List.range h).map (redRow w l p)) (by
    have := rv.small
    unfold red at this
    omega)
  generalize red w h l p = r at rv hj
  obtain ⟨m, em, mn⟩ := bds_min (h := h) (r := r) H.pos
  refine ⟨m, mn, ?_⟩
  have s1 : asgM (tupM (consA (callM (fnM 2 m__law_least_shift) (consA (vr 0) (nilA))) (consA (lstM (nilA)) (nilA)))) (gtM 2 (unp1 (stS 1) (unp1 (stS 2) unp0))) [.sh (.bd w h l), .no, .no, .no, .no, .no, .no] = .ok .nx [.sh (.bd w h l), .sh (.int p), .sh (.lst []), .no, .no, .no, .no] :=
    cb_asg (cb_tup (cb_cons (cb_call (ds := [.bd w h l]) rfl ro) (cb_cons (cb_lst rfl (by simp)) rfl)) (by simp)) rfl
  have s2 := cb_asg (g := stS 3) (Γ2 := [.sh (.bd w h l), .sh (.int p), .sh (.lst []), .sh (.st r), .no, .no, .no]) (cb_str (ma := ret (.str "")) rfl e1 hj) rfl
  have turn : ∀ (k : Nat) (c : Option D), k < 4 → asgM (bin D.add (vr 2) (lcM [6] (rangeM (consA (vr 1) (nilA))) (stS 6) (ret true) (callM (fnM 7 m__law_carried) (consA (tupM (consA (vr 1) (consA (bin D.ix (vr 0) (ret (.int 1))) (consA (vr 3) (nilA))))) (consA (tupM (consA (vr 4) (consA (vr 6) (nilA)))) (nilA)))))) (stS 2)
      [.sh (.bd w h l), .sh (.int p), .sh (.lst (bds p h r k)), .sh (.st r), .sh (.int k), .no, .no] = .ok .nx [.sh (.bd w h l), .sh (.int p), .sh (.lst (bds p h r (k + 1))), .sh (.st r), .sh (.int k), .no, .no] := fun k c hk => by
    have e2 := cb_lcm (vs := [6]) (g := stS 6) (Γ := [.sh (.bd w h l), .sh (.int p), .sh (.lst (bds p h r k)), .sh (.st r), .sh (.int k), .no, .no]) (Γ1 := [.sh (.bd w h l), .sh (.int p), .sh (.lst (bds p h r k)), .sh (.st r), .sh (.int k), .no, .no]) (Γw := [.sh (.bd w h l), .sh (.int p), .sh (.lst (bds p h r k)), .sh (.st r), .sh (.int k), .no, .no])
      (mi := rangeM (consA (vr 1) (nilA))) (e := callM (fnM 7 m__law_carried) (consA (tupM (consA (vr 1) (consA (bin D.ix (vr 0) (ret (.int 1))) (consA (vr 3) (nilA))))) (consA (tupM (consA (vr 4) (consA (vr 6) (nilA)))) (nilA)))) (ds := rng 0 1 p)
      (fun d => match d with | .int s => .bd p h (carryL p h r k s.toNat) | _ => .non) (rangeM_n (n := p) rfl (by omega)) rfl rfl (by
        intro d hd
        rw [rng_map] at hd
        obtain ⟨s, hs, rfl⟩ := List.mem_map.mp hd
        have rc := r_lcarried rv (k := k) (s := (s : Int)) hk
        refine ⟨[.sh (.bd w h l), .sh (.int p), .sh (.lst (bds p h r k)), .sh (.st r), .sh (.int k), .no, .sh (.int s)], rfl, ?_, rfl⟩
        exact cb_call (ds := [.bd p h r, mot k s]) (cb_cons (cb_tup (cb_cons rfl (cb_cons (cb_bin rfl rfl tup_ix1) (cb_cons rfl rfl))) (by simp)) (cb_cons (cb_tup (cb_cons rfl (cb_cons rfl rfl)) (by simp)) rfl)) rc) (by rw [rng_len]; omega) rfl
    rw [rng_map, List.map_map] at e2
    have hb : bds p h r (k + 1) = bds p h r k ++ (List.range p).map fun (s : Nat) => D.bd p h (carryL p h r k s) := by
      unfold bds
      rw [List.range_succ, List.flatMap_append]
      simp
    rw [hb]
    refine cb_asg (cb_bin rfl e2 (cb_add ?_)) rfl
    rw [bds_len, List.length_map, List.length_range]
    have : k * p ≤ 4 * 100 := Nat.mul_le_mul (by omega) (by omega)
    omega
  have b0 : bds p h r 0 = [] := rfl
  have loop : forM (rangeM (consA (ret (.int 4)) (nilA))) (stS 4) (asgM (bin D.add (vr 2) (lcM [6] (rangeM (consA (vr 1) (nilA))) (stS 6) (ret true) (callM (fnM 7 m__law_carried) (consA (tupM (consA (vr 1) (consA (bin D.ix (vr 0) (ret (.int 1))) (consA (vr 3) (nilA))))) (consA (tupM (consA (vr 4) (consA (vr 6) (nilA)))) (nilA)))))) (stS 2))
      [.sh (.bd w h l), .sh (.int p), .sh (.lst []), .sh (.st r), .no, .no, .no] = .ok .nx [.sh (.bd w h l), .sh (.int p), .sh (.lst (bds p h r 4)), .sh (.st r), .sh (.int 3), .no, .no] := by
    have t0 := turn 0 none (by omega)
    rw [b0] at t0
    refine (for_ok (ds := rng 0 1 4) (rangeM_n (n := 4) (m := consA (ret (.int 4)) (nilA)) rfl (by omega))).trans ?_
    rw [rng4']
    exact (forL_go rfl t0).trans ((forL_go rfl (turn 1 none (by omega))).trans ((forL_go rfl (turn 2 none (by omega))).trans ((forL_go rfl (turn 3 none (by omega))).trans forL_end)))
  refine fnM_rt (Δ := [.sh (.bd w h l), .sh (.int p), .sh (.lst (bds p h r 4)), .sh (.st r), .sh (.int 3), .no, .no]) ?_ rfl
  show m__law_form [.sh (.bd w h l), .no, .no, .no, .no, .no, .no] = _
  unfold m__law_form
  refine (sq_nx s1).trans ((sq_nx s2).trans ((sq_nx loop).trans ?_))
  exact cb_rt (cb_app (cb_cons rfl rfl) em)
end DL.K70
set_option Elab.async false
set_option linter.all false
set_option maxRecDepth 100000
set_option maxHeartbeats 4000000
set_option autoImplicit false
namespace DL.K70
open PySem L2 DL
variable {w h w2 w3 p : Nat} {l l2 l3 r : List Nat} {k k' : Nat} {s s' : Int}
def thenS (k' : Nat) (s s' : Int) : Int := s' + (if k' < 2 then s else 0 - s)
def backS (k : Nat) (s : Int) : Int := if k < 2 then 0 - s else s
theorem k4 (hk : k < 4) : k = 0 ∨ k = 1 ∨ k = 2 ∨ k = 3 := by omega
theorem img_then (hk : k < 4) (hk' : k' < 4) {x : Int} : imgX k' s' (imgX k s x) = imgX (k ^^^ k') (thenS k' s s') x := by
  rcases k4 hk with rfl | rfl | rfl | rfl <;> rcases k4 hk' with rfl | rfl | rfl | rfl <;> simp [imgX, thenS] <;> omega
theorem line_then (hk : k < 4) (hk' : k' < 4) {y : Nat} (hy : y < h) : carryLine h k' (carryLine h k y) = carryLine h (k ^^^ k') y := by
  rcases k4 hk with rfl | rfl | rfl | rfl <;> rcases k4 hk' with rfl | rfl | rfl | rfl <;> simp [carryLine] <;> omega
theorem xor_lt (hk : k < 4) (hk' : k' < 4) : k ^^^ k' < 4 := by
  rcases k4 hk with rfl | rfl | rfl | rfl <;> rcases k4 hk' with rfl | rfl | rfl | rfl <;> decide
theorem leads_then (hk : k < 4) (hk' : k' < 4) (a : Leads w h l w2 l2 k s) (b : Leads w2 h l2 w3 l3 k' s') : Leads w h l w3 l3 (k ^^^ k') (thenS k' s s') := fun y hy x => by
  rw [a y hy x, b _ (line_lt hy) _, img_then hk hk', line_then hk hk' hy]
theorem leads_back (hk : k < 4) (a : Leads w h l w2 l2 k s) : Leads w2 h l2 w l k (backS k s) := fun y hy x => by
  have e1 : imgX k s (imgX k (backS k s) x) = x := by
    rcases k4 hk with rfl | rfl | rfl | rfl <;> simp [imgX, backS] <;> omega
  have := a (carryLine h k y) (line_lt hy) (imgX k (backS k s) x)
  rw [e1, line_line hy] at this
  exact this.symm
theorem leads_hue (a : Leads w h l w2 l2 k s) (e : ∀ y, y < h → ∀ x : Int, hue w3 l3 x y = hue w l x y) : Leads w3 h l3 w2 l2 k s := fun y hy x => by rw [e y hy x, a y hy x]
theorem leads_hue2 (a : Leads w h l w2 l2 k s) (e : ∀ y, y < h → ∀ x : Int, hue w3 l3 x y = hue w2 l2 x y) : Leads w h l w3 l3 k s := fun y hy x => by rw [a y hy x, e _ (line_lt hy) _]
/-- what repeats, there too -/
theorem per_lead (a : Leads w h l w2 l2 k s) {q : Int} (hq : Per w h l q) : Per w2 h l2 q := by
  have key : Per w2 h l2 q ∨ Per w2 h l2 (-q) := by
    by_cases hk : k < 2
    · refine .inl fun y hy x => ?_
      have e1 := a (carryLine h k y) (line_lt hy) (x - s)
      have e2 := a (carryLine h k y) (line_lt hy) (x - s + q)
      rw [line_line hy] at e1 e2
      have f1 : imgX k s (x - s) = x := by unfold imgX; rw [if_pos hk]; omega
      have f2 : imgX k s (x - s + q) = x + q := by unfold imgX; rw [if_pos hk]; omega
      rw [f1] at e1
      rw [f2] at e2
      rw [← e1, ← e2]
      exact hq _ (line_lt hy) _
    · refine .inr fun y hy x => ?_
      have e1 := a (carryLine h k y) (line_lt hy) (s - x)
      have e2 := a (carryLine h k y) (line_lt hy) (s - x + q)
      rw [line_line hy] at e1 e2
      have f1 : imgX k s (s - x) = x := by unfold imgX; rw [if_neg hk]; omega
      have f2 : imgX k s (s - x + q) = x + -q := by unfold imgX; rw [if_neg hk]; omega
      rw [f1] at e1
      rw [f2] at e2
      rw [← e1, ← e2]
      exact hq _ (line_lt hy) _
  rcases key with z | z
  · exact z
  · have := per_neg z
    rwa [Int.neg_neg] at this
theorem lsh_lead (hk : k < 4) (a : Leads w h l w2 l2 k s) (H : Lsh w h l p) : Lsh w2 h l2 p where
  pos := H.pos
  per := per_lead a H.per
  least := fun q h1 h2 z => H.least q h1 h2 (per_lead (leads_back hk a) z)
theorem lsh_uniq {p' : Nat} (H : Lsh w h l p) (H' : Lsh w h l p') : p = p' := by
  rcases Nat.lt_trichotomy p p' with z | z | z
  · exact absurd H.per (H'.least p H.pos z)
  · exact z
  · exact absurd H'.per (H.least p' H'.pos z)
/-- shifts count by what repeats -/
theorem leads_per (H : Per w2 h l2 p) (a : Leads w h l w2 l2 k s) {m : Int} (e : s' = s + p * m) : Leads w h l w2 l2 k s' := fun y hy x => by
  rw [a y hy x]
  have hp : Per w2 h l2 ((p : Int) * m) := by
    rcases Int.eq_nat_or_neg m with ⟨n, rfl | rfl⟩
    · exact per_mul H n
    · have := per_neg (per_mul H n)
      rwa [Int.mul_neg]
  have e2 : imgX k s' x = imgX k s x + p * m := by
    unfold imgX
    split <;> omega
  rw [e2]
  exact hp _ (line_lt hy) _
theorem carry_mod (v : VB p h r) : carryL p h r k s = carryL p h r k ((s % (p : Int)).toNat : Nat) := by
  have hp : (p : Int) ≠ 0 := by have := v.w1; omega
  have h0 := Int.emod_nonneg s hp
  have a : Leads p h r p (carryL p h r k s) k s := carry_leads v
  rw [Int.toNat_of_nonneg h0]
  refine ((carry_iff v (carry_vb v)).mpr ?_).symm
  exact leads_per per_w a (m := -(s / (p : Int))) (by
    have := Int.mul_ediv_add_emod s p
    rw [Int.mul_neg]
    omega)
/-- what is carried from one is carried from the other -/
theorem orbit {r2 : List Nat} (v : VB p h r) (v2 : VB p h r2) (hk : k < 4) (a : Leads p h r p r2 k s) {k' : Nat} {s' : Int} (hk' : k' < 4) : ∃ K S : Nat, K < 4 ∧ S < p ∧ carryL p h r2 K S = carryL p h r k' s' := by
  have b := leads_then hk hk' (leads_back hk a) (carry_leads v (k := k') (s := s'))
  have e := (carry_iff v2 (carry_vb v)).mpr b
  rw [carry_mod v2] at e
  have hp : (0 : Int) < p := by have := v.w1; omega
  exact ⟨k ^^^ k', _, xor_lt hk hk', by
    have h1 := Int.emod_nonneg (thenS k' (backS k s) s') (show (p : Int) ≠ 0 by omega)
    have h2 := Int.emod_lt_of_pos (thenS k' (backS k s) s') hp
    omega, e⟩
theorem mn_eq {r2 m m2 : List Nat} (v : VB p h r) (v2 : VB p h r2) (hk : k < 4) (a : Leads p h r p r2 k s) (M : Mn p h r m) (M2 : Mn p h r2 m2) : m = m2 := by
  obtain ⟨k1, s1, h1, h2, e1⟩ := M.ex
  obtain ⟨k2, s2, h3, h4, e2⟩ := M2.ex
  obtain ⟨K, S, hK, hS, e3⟩ := orbit v v2 hk a (k' := k1) (s' := s1) h1
  obtain ⟨K', S', hK', hS', e4⟩ := orbit v2 v hk (leads_back hk a) (k' := k2) (s' := s2) h3
  refine lt_anti (fun z => ?_) (fun z => ?_)
  · have := M2.least K S hK hS
    rw [e3, ← e1] at this
    exact this z
  · have := M.least K' S' hK' hS'
    rw [e4, ← e2] at this
    exact this z
/-- the forms of bands that are carried onto one another -/
theorem forms_eq {p2 : Nat} {m m2 : List Nat} (v : VB w h l) (v2 : VB w2 h l2) (H : Lsh w h l p) (H2 : Lsh w2 h l2 p2) (hk : k < 4) (a : Leads w h l w2 l2 k s) (M : Mn p h (red w h l p) m) (M2 : Mn p2 h (red w2 h l2 p2) m2) : p = p2 ∧ m = m2 := by
  have e : p = p2 := lsh_uniq (lsh_lead hk a H) H2
  subst e
  refine ⟨rfl, mn_eq (red_vb v H.pos (lsh_le v.w1 H)) (red_vb v2 H2.pos (lsh_le v2.w1 H2)) hk (s := s) ?_ M M2⟩
  exact leads_hue2 (leads_hue a fun y hy x => hue_red v H hy) fun y hy x => hue_red v2 H2 hy
/-- the way to the form -/
theorem to_form {m : List Nat} (v : VB w h l) (H : Lsh w h l p) (e : m = carryL p h (red w h l p) k s) : Leads w h l p m k s := by
  subst e
  exact leads_hue (carry_leads (red_vb v H.pos (lsh_le v.w1 H))) fun y hy x => (hue_red v H hy).symm
theorem form_lsh {m : List Nat} (v : VB w h l) (H : Lsh w h l p) (M : Mn p h (red w h l p) m) : VB p h m ∧ Lsh p h m p := by
  obtain ⟨k, s, hk, hs, e⟩ := M.ex
  refine ⟨by rw [e]; exact carry_vb (red_vb v H.pos (lsh_le v.w1 H)), lsh_lead hk (to_form v H e) H⟩
/-- a motion with a small shift -/
theorem small_shift (v : VB w h l) (H : Lsh w h l p) (hk : k < 4) (a : Leads w h l w2 l2 k s) : ∃ t : Nat, t < w ∧ Leads w h l w2 l2 k t := by
  have hw : (w : Int) ≠ 0 := by have := v.w1; omega
  have h1 := Int.emod_nonneg s hw
  have h2 := Int.emod_lt_of_pos s (show (0 : Int) < w by omega)
  refine ⟨(s % (w : Int)).toNat, by omega, ?_⟩
  rw [Int.toNat_of_nonneg h1]
  have hp : Per w2 h l2 (w : Nat) := per_lead a per_w
  exact leads_per hp a (m := -(s / (w : Int))) (by
    have := Int.mul_ediv_add_emod s w
    rw [Int.mul_neg]
    omega)
theorem same_forms {p2 : Nat} {m m2 : List Nat} (v : VB p h m) (v2 : VB p2 h m2) (H : Lsh p h m p) (H2 : Lsh p2 h m2 p2) (e : ∀ y, y < h → ∀ x : Int, hue p m x y = hue p2 m2 x y) : p = p2 ∧ m = m2 := by
  have a : Leads p h m p2 m2 0 0 := fun y hy x => by
    have e1 : imgX 0 0 x = x := by unfold imgX; rw [if_pos (by omega)]; omega
    have e2 : carryLine h 0 y = y := by unfold carryLine; rw [if_neg (by omega)]
    rw [e1, e2]
    exact e y hy x
  have ep : p = p2 := lsh_uniq (lsh_lead (by omega) a H) H2
  subst ep
  exact ⟨rfl, hue_ext v v2 e⟩
end DL.K70
set_option Elab.async false
set_option linter.all false
set_option maxRecDepth 100000
set_option maxHeartbeats 4000000
set_option autoImplicit false
namespace DL
open PySem L2
theorem isT {ds : List D} : isiO "tuple" (.tup ds) = some (.bl true) := isi_tup_tup
theorem isS {z : Str} : isiO "str" (.str z) = some (.bl true) := isi_str_str
theorem len_tup {ds : List D} (h : ds.length ≤ 1000000) : D.len [.tup ds] = some (.int ds.length) := by first | rfl | (show (if sizeOk ds.length = true then _ else none) = _; rw [if_pos (size_ok h)])
theorem len_lst {ds : List D} : D.len [.lst ds] = some (.int ds.length) := rfl
theorem ne_nil_nil : D.ne (.lst []) (.lst []) = some (.bl false) := (cb_self (by rfl)).1
theorem bools_map : ∀ bs : List Bool, D.bools (bs.map D.bl) = some bs
  | [] => rfl
  | b :: bs => by rw [List.map_cons, D.bools, bools_map bs]; rfl
theorem all_map {bs : List Bool} : D.all [.lst (bs.map D.bl)] = some (.bl (bs.all id)) := by
  show (D.bools (bs.map D.bl)).map (fun ns => D.bl (ns.all _root_.id)) = _
  rw [bools_map]
  rfl
theorem seq_str {m : M D} {Γ Γ' : SEnv} {l : List Nat} (h : m Γ = .ok (.st l) Γ') : seqM m Γ = .ok (l.map fun c => D.st [c]) Γ' := by
  simp only [seqM, bnd, h]
  rfl
end DL
namespace DL.K70
open PySem L2 DL
def VC (l : List Nat) : Prop := ∀ c ∈ l, 97 ≤ c ∧ c ≤ 122
theorem small_tab : ∀ c ∈ List.range 128, strIn ⟨#[c]⟩ "abcdefghijklmnopqrstuvwxyz" = decide (97 ≤ c ∧ c ≤ 122) := by decide +kernel
theorem in_small {c : Nat} (h : c < 128) : D.isin (.st [c]) cD_SMALL = some (.bl (decide (97 ≤ c ∧ c ≤ 122))) := by
  show some (D.bl (if false = true then !strIn ⟨#[c]⟩ "abcdefghijklmnopqrstuvwxyz" else strIn ⟨#[c]⟩ "abcdefghijklmnopqrstuvwxyz")) = _
  rw [small_tab c (List.mem_range.mpr h)]
  rfl
def TC (l : List Nat) : Prop := ∀ c ∈ l, c < 128
theorem VC.tc {l : List Nat} (h : VC l) : TC l := fun c hc => by have := h c hc; omega
def lowB (c : Nat) : Bool := decide (97 ≤ c ∧ c ≤ 122)
/-- all([sign in SMALL for sign in ..]) -/
theorem all_small {v : Nat} {m : M D} {Γ : SEnv} {l : List Nat} (hm : m Γ = .ok (.st l) Γ) (hv : Γ[v]? = some .no) (h : TC l) (hl : l.length ≤ 1000000) :
    appM D.all (consA (lcM [v] (seqM m) (stS v) (ret true) (bin D.isin (vr v) (ret cD_SMALL))) nilA) Γ = .ok (.bl (l.all lowB)) Γ := by
  have hlt : v < Γ.length := (List.getElem?_eq_some_iff.mp hv).1
  have e := cb_lcm (vs := [v]) (g := stS v) (e := bin D.isin (vr v) (ret cD_SMALL)) (Γw := Γ) (fun d => match d with | .str z => .bl ((z.cps.toList).all lowB) | _ => .non) (seq_str hm) (savM_one hv rfl) (by rw [wipM_one hv (fun e z => by cases z), set_get hv]) (by
    intro d hd
    obtain ⟨c, hc, rfl⟩ := List.mem_map.mp hd
    have gs : (Γ.set v (.sh (.st [c])))[v]? = some (.sh (.st [c])) := List.getElem?_set_self hlt
    refine ⟨Γ.set v (.sh (.st [c])), stS_at hv (fun e z => by cases z), ?_, by rw [wipM_one gs (fun e z => by cases z), set_set, set_get hv]⟩
    have e1 : vr v (Γ.set v (.sh (.st [c]))) = .ok (.st [c]) (Γ.set v (.sh (.st [c]))) := by unfold vr; rw [gs]
    have e2 := in_small (h c hc)
    refine cb_bin e1 rfl ?_
    rw [e2]
    show _ = some (D.bl ([c].all lowB))
    simp [lowB]) (by rw [List.length_map]; exact hl) (by
    show Γ.set v (Γ.getD v .no) = Γ
    rw [List.getD_eq_getElem?_getD, hv]
    exact set_get hv)
  have em : (l.map fun c => D.st [c]).map (fun d => match d with | .str z => .bl ((z.cps.toList).all lowB) | _ => .non) = (l.map lowB).map D.bl := by
    rw [List.map_map, List.map_map]
    refine List.map_congr_left fun c _ => ?_
    show D.bl ([c].all lowB) = D.bl (lowB c)
    simp
  rw [em] at e
  have ea := all_map (bs := l.map lowB)
  rw [List.all_map] at ea
  exact cb_app (cb_cons e rfl) ea
theorem vc_all {l : List Nat} : l.all lowB = true ↔ VC l := by
  simp only [List.all_eq_true, lowB, decide_eq_true_eq, VC]
theorem wrong_ok {w h : Nat} {l : List Nat} (v : VB w h l) (c : TC l) : ∃ Δ, m_wrong_band [.sh (.bd w h l), .no, .no, .no, .no] = .ok (.rt (if l.all lowB = true then .lst [] else .lst [.str "colours"])) Δ ∧ mrg [.sh (.bd w h l)] Δ = [.sh (.bd w h l)] := by
  have w1 := v.w1
  have w2 := v.w2
  have h1 := v.h1
  have h2 := v.h2
  have hsm := v.small
  refine ⟨[.sh (.bd w h l), .sh (.int w), .sh (.int h), .sh (.st l), .no], ?_, rfl⟩
  have s1 : ifM (orM (notM (asB (isiM "tuple" (vr 0)))) (asB (bin D.ne (appM D.len (consA (vr 0) (nilA))) (ret (.int 3))))) (rtM (lstM (consA (ret .non) (nilA)))) (ret .nx) [.sh (.bd w h l), .no, .no, .no, .no] = .ok .nx [.sh (.bd w h l), .no, .no, .no, .no] :=
    cb_ie (cb_o2 (cb_nt (cb_asB (cb_isi rfl isT))) (cb_asB (cb_bin (cb_app (cb_cons rfl rfl) rfl) rfl ne_ii))) rfl
  have s2 : asgM (vr 0) (gtM 3 (unp1 (stS 1) (unp1 (stS 2) (unp1 (stS 3) unp0)))) [.sh (.bd w h l), .no, .no, .no, .no] = .ok .nx [.sh (.bd w h l), .sh (.int w), .sh (.int h), .sh (.st l), .no] := cb_asg rfl rfl
  have q1 := r_is_whole (i := (w : Int)) (a := 1) (b := 1000)
  have q2 := r_is_whole (i := (h : Int)) (a := 1) (b := 1000 / (w : Int))
  have hq : (h : Int) ≤ 1000 / (w : Int) := by
    have hm : h * w ≤ 1000 := by
      have := Nat.mul_le_mul h2 w2
      omega
    exact (Int.le_ediv_iff_mul_le (by omega)).mpr (by exact_mod_cast hm)
  rw [decide_eq_true (show (1 : Int) ≤ w by omega), decide_eq_true (show (w : Int) ≤ 1000 by omega)] at q1
  rw [decide_eq_true (show (1 : Int) ≤ h by omega), decide_eq_true hq] at q2
  have fd : D.fdiv (.int 1000) (.int w) = some (.int (1000 / (w : Int))) := fdiv_ii (by omega) (by omega)
  have s3 : ifM (orM (notM (asB (callM (fnM 3 m_is_whole) (consA (vr 1) (consA (ret (.int 1)) (consA (ret cD_MOST_CELLS) (nilA))))))) (notM (asB (callM (fnM 3 m_is_whole) (consA (vr 2) (consA (ret (.int 1)) (consA (bin D.fdiv (ret cD_MOST_CELLS) (vr 1)) (nilA)))))))) (rtM (lstM (consA (ret (.str "size")) (nilA)))) (ret .nx)
      [.sh (.bd w h l), .sh (.int w), .sh (.int h), .sh (.st l), .no] = .ok .nx [.sh (.bd w h l), .sh (.int w), .sh (.int h), .sh (.st l), .no] :=
    cb_ie (cb_o2 (cb_nt (cb_asB (cb_call (ds := [.int w, .int 1, .int 1000]) rfl q1))) (cb_nt (cb_asB (cb_call (ds := [.int h, .int 1, .int (1000 / (w : Int))]) (cb_cons rfl (cb_cons rfl (cb_cons (cb_bin rfl rfl fd) rfl))) q2)))) rfl
  have ml : D.mul (.int w) (.int h) = some (.int ((w * h : Nat) : Int)) := mul_nn (by omega) (by omega)
  have ll : D.len [.st l] = some (.int ((w * h : Nat) : Int)) := by rw [len_st (by omega), v.len]
  have nn : D.ne (.int ((w * h : Nat) : Int)) (.int ((w * h : Nat) : Int)) = some (.bl false) := (cb_self deep_int).1
  have s4 : ifM (orM (notM (asB (isiM "str" (vr 3)))) (asB (bin D.ne (appM D.len (consA (vr 3) (nilA))) (bin D.mul (vr 1) (vr 2))))) (rtM (lstM (consA (ret (.str "colours")) (nilA)))) (ret .nx)
      [.sh (.bd w h l), .sh (.int w), .sh (.int h), .sh (.st l), .no] = .ok .nx [.sh (.bd w h l), .sh (.int w), .sh (.int h), .sh (.st l), .no] :=
    cb_ie (cb_o2 (cb_nt (cb_asB (cb_isi rfl isS))) (cb_asB (cb_bin (cb_app (cb_cons rfl rfl) ll) (cb_bin rfl rfl ml) nn))) rfl
  have s5 := all_small (v := 4) (m := vr 3) (Γ := [.sh (.bd w h l), .sh (.int w), .sh (.int h), .sh (.st l), .no]) (l := l) rfl rfl c (by omega)
  unfold m_wrong_band
  refine (sq_nx s1).trans ((sq_nx s2).trans ((sq_nx s3).trans ((sq_nx s4).trans ?_)))
  refine cb_rt ?_
  refine cb_if (cb_asB s5) (fun hb => ?_) (fun hb => ?_)
  · rw [if_pos hb]
    exact cb_lst rfl (by simp)
  · rw [if_neg (by rw [hb]; simp)]
    exact cb_lst (ds := [.str "colours"]) rfl (by simp)
theorem need_ok {w h : Nat} {l : List Nat} (v : VB w h l) (c : VC l) : fnM 2 m_need_band [.sh (.bd w h l)] = .ok .non [.sh (.bd w h l)] := by
  obtain ⟨Δ, e, em⟩ := wrong_ok v c.tc
  rw [if_pos (vc_all.mpr c)] at e
  have e1 : fnM 5 m_wrong_band [.sh (.bd w h l)] = .ok (.lst []) [.sh (.bd w h l)] := fnM_rt e em
  refine fnM_nx (Δ := [.sh (.bd w h l), .sh (.lst [])]) ?_ rfl
  show m_need_band [.sh (.bd w h l), .no] = _
  unfold m_need_band
  refine (sq_nx (cb_asg (cb_call (ds := [.bd w h l]) rfl e1) (Γ2 := [.sh (.bd w h l), .sh (.lst [])]) rfl)).trans ?_
  exact cb_ie (cb_asB (cb_bin rfl (cb_lst rfl (by simp)) ne_nil_nil)) rfl
theorem need_motion {k s : Int} (h1 : 0 ≤ k) (h2 : k ≤ 3) (h3 : -1000000 ≤ s) (h4 : s ≤ 1000000) : fnM 1 m_need_band_motion [.sh (mot k s)] = .ok .non [.sh (mot k s)] := by
  have q1 := r_is_whole (i := k) (a := 0) (b := 3)
  have q2 := r_is_whole (i := s) (a := -1000000) (b := 1000000)
  rw [decide_eq_true h1, decide_eq_true h2] at q1
  rw [decide_eq_true h3, decide_eq_true h4] at q2
  have e : fnM 1 m_is_band_motion [.sh (mot k s)] = .ok (.bl true) [.sh (mot k s)] := by
    refine fnM_rt (Δ := [.sh (mot k s)]) ?_ rfl
    show m_is_band_motion [.sh (mot k s)] = _
    unfold m_is_band_motion
    have s1 : ifM (orM (notM (asB (isiM "tuple" (vr 0)))) (asB (bin D.ne (appM D.len (consA (vr 0) (nilA))) (ret (.int 2))))) (rtM (ret (.bl false))) (ret .nx) [.sh (mot k s)] = .ok .nx [.sh (mot k s)] :=
      cb_ie (cb_o2 (cb_nt (cb_asB (cb_isi rfl isT))) (cb_asB (cb_bin (cb_app (cb_cons rfl rfl) rfl) rfl ne_ii))) rfl
    refine (sq_nx s1).trans ?_
    exact cb_rt (cb_V2 (cb_call (ds := [.int k, .int 0, .int 3]) (cb_cons (cb_bin rfl rfl tup_ix0) rfl) q1) (cb_call (ds := [.int s, .int (-1000000), .int 1000000]) (cb_cons (cb_bin rfl rfl tup_ix1) (cb_cons (cb_bin rfl rfl sub_ii) rfl)) q2))
  refine fnM_nx (Δ := [.sh (mot k s)]) ?_ rfl
  show m_need_band_motion [.sh (mot k s)] = _
  unfold m_need_band_motion
  exact cb_ie (cb_nt (cb_asB (cb_call (ds := [mot k s]) rfl e))) rfl
end DL.K70
set_option Elab.async false
set_option linter.all false
set_option maxRecDepth 100000
set_option maxHeartbeats 4000000
set_option autoImplicit false
namespace DL
open PySem L2
/-! ### repr at work -/
mutual
def D.rp : D → Bool
  | .non => true
  | .bl _ => true
  | .int i => decide (i.natAbs < 10 ^ 12)
  | .str z => z.cps.all (· < 0x110000)
  | .tup ds => D.rps ds
  | .lst ds => D.rps ds
  | _ => false
def D.rps : List D → Bool
  | [] => true
  | d :: ds => D.rp d && D.rps ds
end
mutual
theorem rp_all : ∀ d : D, d.rp = true → d.pl = true ∧ d.py.canLay0 = true ∧ d.py.intsShort 13 = true ∧ d.py.showable = true ∧ d.py.hasDict = false
  | .non, _ => ⟨rfl, by simp [D.py, PyData.canLay0], by simp [D.py, PyData.intsShort], by simp [D.py, PyData.showable], by simp [D.py, PyData.hasDict]⟩
  | .bl _, _ => ⟨rfl, by simp [D.py, PyData.canLay0], by simp [D.py, PyData.intsShort], by simp [D.py, PyData.showable], by simp [D.py, PyData.hasDict]⟩
  | .int i, h => by
    have hi : i.natAbs < 10 ^ 12 := by simpa [D.rp] using h
    refine ⟨rfl, by simp [D.py, PyData.canLay0], ?_, ?_, by simp [D.py, PyData.hasDict]⟩
    · simp only [D.py, PyData.intsShort, PyData.shown]
      have := PySem.int_text_length_le10 (a := i) (k := 12) (by decide) hi
      refine decide_eq_true ?_
      rw [ofString_length]
      exact this
    · simp only [D.py, PyData.showable]
      refine decide_eq_true ?_
      have h2 : (10 : Nat) ^ 12 ≤ 2 ^ 40 := by decide
      by_cases h0 : i.natAbs = 0
      · rw [h0]; decide
      · have := (Nat.log2_lt h0 (k := 40)).mpr (by omega)
        omega
  | .str z, h => by
    refine ⟨rfl, ?_, by simp [D.py, PyData.intsShort], by simp [D.py, PyData.showable], by simp [D.py, PyData.hasDict]⟩
    simpa only [D.py, PyData.canLay0, PyData.strOk, D.rp] using h
  | .tup ds, h => by
    have := rps_all ds (by simpa [D.rp] using h)
    simpa [D.pl, D.py, PyData.canLay0, PyData.intsShort, PyData.showable, PyData.hasDict] using this
  | .lst ds, h => by
    have := rps_all ds (by simpa [D.rp] using h)
    simpa [D.pl, D.py, PyData.canLay0, PyData.intsShort, PyData.showable, PyData.hasDict] using this
  | .ptr _, h => by simp [D.rp] at h
  | .dct _ _, h => by simp [D.rp] at h
  | .scr _, h => by simp [D.rp] at h
  | .exc _ _ _ _ _, h => by simp [D.rp] at h
theorem rps_all : ∀ ds : List D, D.rps ds = true → D.pls ds = true ∧ PyData.canLayAll0 (D.pys ds) = true ∧ PyData.intsShortAll 13 (D.pys ds) = true ∧ PyData.showableAll (D.pys ds) = true ∧ PyData.hasDictAll (D.pys ds) = false
  | [], _ => ⟨rfl, by simp [D.pys, PyData.canLayAll0], by simp [D.pys, PyData.intsShortAll], by simp [D.pys, PyData.showableAll], by simp [D.pys, PyData.hasDictAll]⟩
  | d :: ds, h => by
    have h' : d.rp = true ∧ D.rps ds = true := by simpa [D.rps] using h
    obtain ⟨a1, a2, a3, a4, a5⟩ := rp_all d h'.1
    obtain ⟨b1, b2, b3, b4, b5⟩ := rps_all ds h'.2
    simp [D.pls, D.pys, PyData.canLayAll0, PyData.intsShortAll, PyData.showableAll, PyData.hasDictAll, a1, a2, a3, a4, a5, b1, b2, b3, b4, b5]
end
theorem repr_ok {d : D} (h : d.rp = true) (hd : d.py.depth ≤ 60) (hw : d.py.weight ≤ 1000000) : D.repr [d] = some (.str d.py.shown) := by
  obtain ⟨h1, h2, h3, h4, h5⟩ := rp_all d h
  have e20 : (2 : Nat) ^ 20 = 1048576 := by decide
  have hl : PyData.layable0 d.py = true := by
    unfold PyData.layable0
    rw [h2, decide_eq_true (show d.py.depth ≤ 64 by omega), decide_eq_true (show d.py.weight ≤ 2 ^ 20 by omega)]
    rfl
  have hs := PyData.shown_le_of_layable0 hl h3
  have hz : sizeOk d.py.shown.length = true := decide_eq_true (Nat.le_trans hs (by decide))
  have hdp : deepOk d = true := deepOk_iff.mpr ⟨h1, by omega⟩
  show (if (deepOk d && d.py.showable && !d.py.hasDict && sizeOk d.py.shown.length) = true then some (D.str d.py.shown) else none) = _
  rw [hdp, h4, h5, hz]
  rfl
theorem cb_reprs {ma mb : M (List D)} {Γ Γ1 Γ2 : SEnv} {d : D} (ha : ma Γ = .ok [d] Γ1) (hb : mb Γ1 = .ok [d] Γ2) (h : d.rp = true) (hd : d.py.depth ≤ 60) (hw : d.py.weight ≤ 1000000) :
    bin D.ne (appM D.repr ma) (appM D.repr mb) Γ = .ok (.bl false) Γ2 ∧ bin D.eq (appM D.repr ma) (appM D.repr mb) Γ = .ok (.bl true) Γ2 := by
  have e := repr_ok h hd hw
  have hs : deepOk (.str d.py.shown) = true := by simp [deepOk, D.pl, D.py, PyData.depth]
  exact ⟨cb_bin (cb_app ha e) (cb_app hb e) (cb_self hs).1, cb_bin (cb_app ha e) (cb_app hb e) (cb_self hs).2⟩
theorem cb_repr_ne {ma mb : M (List D)} {Γ Γ1 Γ2 : SEnv} {d : D} (ha : ma Γ = .ok [d] Γ1) (hb : mb Γ1 = .ok [d] Γ2) (h : d.rp = true) (hd : d.py.depth ≤ 60) (hw : d.py.weight ≤ 1000000) : bin D.ne (appM D.repr ma) (appM D.repr mb) Γ = .ok (.bl false) Γ2 := (cb_reprs ha hb h hd hw).1
theorem cb_repr_eq {ma mb : M (List D)} {Γ Γ1 Γ2 : SEnv} {d : D} (ha : ma Γ = .ok [d] Γ1) (hb : mb Γ1 = .ok [d] Γ2) (h : d.rp = true) (hd : d.py.depth ≤ 60) (hw : d.py.weight ≤ 1000000) : bin D.eq (appM D.repr ma) (appM D.repr mb) Γ = .ok (.bl true) Γ2 := (cb_reprs ha hb h hd hw).2
end DL
set_option Elab.async false
set_option linter.all false
set_option maxRecDepth 100000
set_option maxHeartbeats 4000000
set_option autoImplicit false
namespace DL
open PySem L2
theorem deep_blx {b : Bool} : deepOk (.bl b) = true := by simp [deepOk, D.pl, D.py, PyData.depth]
theorem ne_bb {a b : Bool} : D.ne (.bl a) (.bl b) = some (.bl (a != b)) := by
  unfold D.ne D.cmpG D.eqv
  rw [deep_blx, deep_blx]
  cases a <;> cases b <;> simp [D.py, PyData.eqv]
theorem eq_bb {a b : Bool} : D.eq (.bl a) (.bl b) = some (.bl (a == b)) := by
  unfold D.eq D.cmpG D.eqv
  rw [deep_blx, deep_blx]
  cases a <;> cases b <;> simp [D.py, PyData.eqv]
theorem ne_ss {a b : List Nat} : D.ne (.st a) (.st b) = some (.bl (!decide (a = b))) := by
  unfold D.ne D.cmpG D.eqv
  rw [deep_str, deep_str]
  have e : (SS a == SS b) = decide (a = b) := SX.S_beq_eq
  simp [D.py, PyData.eqv, e]
theorem eq_ss {a b : List Nat} : D.eq (.st a) (.st b) = some (.bl (decide (a = b))) := by
  unfold D.eq D.cmpG D.eqv
  rw [deep_str, deep_str]
  have e : (SS a == SS b) = decide (a = b) := SX.S_beq_eq
  simp [D.py, PyData.eqv, e]
/-- a loop that looks for the first; the target's slot is v -/
theorem find_loop {α : Type} {f : α → D} {g : D → M Unit} {body : M Flow} {mi : M (List D)} {js : List α} {Γ Γ1 : SEnv} (I : SEnv → Prop) (p : α → Option D) (hi : mi Γ = .ok (js.map f) Γ1) (h0 : I Γ1)
    (hs : ∀ j ∈ js, ∀ Γ, I Γ → ∃ Γ1 Γ2, g (f j) Γ = .ok () Γ1 ∧ I Γ2 ∧ body Γ1 = .ok (flowOf (p j)) Γ2) : ∃ Γ', I Γ' ∧ forM mi g body Γ = .ok (flowOf (js.findSome? p)) Γ' := by
  obtain ⟨Γ', h1, h2⟩ := forL_first (f := f) (g := g) (body := body) I p js Γ1 hs h0
  exact ⟨Γ', h1, (for_ok hi).trans h2⟩
end DL
namespace DL.K70
open PySem L2 DL
theorem ne_bd {w h w2 h2 : Int} {a b : List Nat} : D.ne (.bd w h a) (.bd w2 h2 b) = some (.bl (!(decide (w = w2) && (decide (h = h2) && decide (a = b))))) := by
  unfold D.ne D.cmpG D.eqv
  rw [deep_bd, deep_bd]
  have e : (SS a == SS b) = decide (a = b) := SX.S_beq_eq
  have f (x y : Int) : (x == y) = decide (x = y) := by rw [Bool.eq_iff_iff]; simp
  simp [D.py, D.pys, PyData.eqv, PyData.eqvAll, e, f]
/-- a band, its form, the motion to it -/
structure GB (w h : Nat) (l : List Nat) (p : Nat) (m : List Nat) (k s : Nat) : Prop where
  v : VB w h l
  c : VC l
  H : Lsh w h l p
  hk : k < 4
  hs : s < p
  e : m = carryL p h (red w h l p) k s
  mn : Mn p h (red w h l p) m
  of : fnM 5 m_own_form [.sh (.bd w h l)] = .ok (.tup [.bd p h m, mot k s]) [.sh (.bd w h l)]
  lf : fnM 7 m__law_form [.sh (.bd w h l)] = .ok (.bd p h m) [.sh (.bd w h l)]
theorem gb_ex {w h : Nat} {l : List Nat} (v : VB w h l) (c : VC l) : ∃ p m k s, GB w h l p m k s := by
  obtain ⟨p, H⟩ := lsh_ex (h := h) (l := l) v.w1
  obtain ⟨k, s, hk, hs, mn, e1⟩ := r_oform v H
  obtain ⟨m, mn2, e2⟩ := r_lform v H
  have := mn.uniq mn2
  subst this
  exact ⟨p, _, k, s, v, c, H, hk, hs, rfl, mn, e1, e2⟩
variable {w h w2 h2 p p2 k s k2 s2 : Nat} {l l2 m m2 : List Nat}
theorem GB.fv (g : GB w h l p m k s) : VB p h m ∧ Lsh p h m p := form_lsh g.v g.H g.mn
theorem GB.lead (g : GB w h l p m k s) : Leads w h l p m k s := to_form g.v g.H g.e
theorem r_fob (g : GB w h l p m k s) : fnM 1 m_form_of_band [.sh (.bd w h l)] = .ok (.bd p h m) [.sh (.bd w h l)] := by
  refine fnM_rt (Δ := [.sh (.bd w h l)]) ?_ rfl
  show m_form_of_band [.sh (.bd w h l)] = _
  unfold m_form_of_band
  have s1 : dropM (callM (fnM 2 m_need_band) (consA (vr 0) (nilA))) [.sh (.bd w h l)] = .ok .nx [.sh (.bd w h l)] :=
    cb_drop (cb_call (ds := [.bd w h l]) rfl (need_ok g.v g.c))
  exact (sq_nx s1).trans (cb_rt (cb_bin (cb_call (ds := [.bd w h l]) rfl g.of) rfl tup_ix0))
theorem r_fmo (g : GB w h l p m k s) : fnM 1 m_form_motion [.sh (.bd w h l)] = .ok (mot k s) [.sh (.bd w h l)] := by
  refine fnM_rt (Δ := [.sh (.bd w h l)]) ?_ rfl
  show m_form_motion [.sh (.bd w h l)] = _
  unfold m_form_motion
  have s1 : dropM (callM (fnM 2 m_need_band) (consA (vr 0) (nilA))) [.sh (.bd w h l)] = .ok .nx [.sh (.bd w h l)] :=
    cb_drop (cb_call (ds := [.bd w h l]) rfl (need_ok g.v g.c))
  exact (sq_nx s1).trans (cb_rt (cb_bin (cb_call (ds := [.bd w h l]) rfl g.of) rfl tup_ix1))
theorem xor_ok (hk : k < 4) (hk2 : k2 < 4) : D.xor (.int (k : Int)) (.int (k2 : Int)) = some (.int ((k ^^^ k2 : Nat) : Int)) := by
  rcases k4 hk with rfl | rfl | rfl | rfl <;> rcases k4 hk2 with rfl | rfl | rfl | rfl <;> first | rfl | kernel_rfl
theorem lt2 (hk : k < 4) : decide ((k : Int) < 2) = decide (k < 2) := by
  by_cases z : k < 2
  · rw [decide_eq_true z, decide_eq_true (by omega)]
  · rw [decide_eq_false z, decide_eq_false (by omega)]
theorem r_then {s s2 : Int} (hk : k < 4) (hk2 : k2 < 4) : fnM 3 m_own_then_motion [.sh (mot k s), .sh (mot k2 s2)] = .ok (mot ((k ^^^ k2 : Nat) : Int) (thenS k2 s s2)) [.sh (mot k s), .sh (mot k2 s2)] := by
  refine fnM_rt (Δ := [.sh (mot k s), .sh (mot k2 s2), .sh (.int ((k ^^^ k2 : Nat) : Int))]) ?_ rfl
  show m_own_then_motion [.sh (mot k s), .sh (mot k2 s2), .no] = _
  unfold m_own_then_motion
  have s1 : asgM (bin D.xor (bin D.ix (vr 0) (ret (.int 0))) (bin D.ix (vr 1) (ret (.int 0)))) (stS 2) [.sh (mot k s), .sh (mot k2 s2), .no] = .ok .nx [.sh (mot k s), .sh (mot k2 s2), .sh (.int ((k ^^^ k2 : Nat) : Int))] :=
    cb_asg (cb_bin (cb_bin rfl rfl tup_ix0) (cb_bin rfl rfl tup_ix0) (xor_ok hk hk2)) rfl
  refine (sq_nx s1).trans (cb_rt (cb_tup (cb_cons rfl (cb_cons (cb_bin (a := .int s2) (b := .int (if k2 < 2 then s else 0 - s)) (cb_bin rfl rfl tup_ix1) ?_ add_ii) rfl)) (by simp)))
  have t : asB (bin D.lt (bin D.ix (vr 1) (ret (.int 0))) (ret (.int 2))) [.sh (mot k s), .sh (mot k2 s2), .sh (.int ((k ^^^ k2 : Nat) : Int))] = .ok (decide (k2 < 2)) [.sh (mot k s), .sh (mot k2 s2), .sh (.int ((k ^^^ k2 : Nat) : Int))] := by
    refine cb_asB (cb_bin (cb_bin rfl rfl tup_ix0) rfl ?_)
    rw [lt_ii, lt2 hk2]
  by_cases z : k2 < 2
  · rw [decide_eq_true z] at t
    rw [if_pos z]
    exact cb_it t (cb_bin rfl rfl tup_ix1)
  · rw [decide_eq_false z] at t
    rw [if_neg z]
    exact cb_ie t (cb_bin rfl (cb_bin rfl rfl tup_ix1) sub_ii)
theorem r_back {s : Int} (hk : k < 4) : fnM 1 m_own_back_motion [.sh (mot k s)] = .ok (mot k (backS k s)) [.sh (mot k s)] := by
  refine fnM_rt (Δ := [.sh (mot k s)]) ?_ rfl
  show m_own_back_motion [.sh (mot k s)] = _
  unfold m_own_back_motion
  have t : asB (bin D.lt (bin D.ix (vr 0) (ret (.int 0))) (ret (.int 2))) [.sh (mot k s)] = .ok (decide (k < 2)) [.sh (mot k s)] := by
    refine cb_asB (cb_bin (cb_bin rfl rfl tup_ix0) rfl ?_)
    rw [lt_ii, lt2 hk]
  refine cb_rt (cb_tup (cb_cons (cb_bin rfl rfl tup_ix0) (cb_cons (d := .int (backS k s)) ?_ rfl)) (by simp))
  unfold backS
  by_cases z : k < 2
  · rw [decide_eq_true z] at t
    rw [if_pos z]
    exact cb_it t (cb_bin rfl (cb_bin rfl rfl tup_ix1) sub_ii)
  · rw [decide_eq_false z] at t
    rw [if_neg z]
    exact cb_ie t (cb_bin rfl rfl tup_ix1)
/-- whether the forms are the same -/
def sameB (p h : Nat) (m : List Nat) (p2 h2 : Nat) (m2 : List Nat) : Bool := decide (p = p2) && (decide (h = h2) && decide (m = m2))
theorem sameB_iff : sameB p h m p2 h2 m2 = true ↔ p = p2 ∧ h = h2 ∧ m = m2 := by simp [sameB]
theorem ne_form : D.ne (.bd p h m) (.bd p2 h2 m2) = some (.bl (!sameB p h m p2 h2 m2)) := by
  rw [ne_bd]
  unfold sameB
  have f (a b : Nat) : decide ((a : Int) = (b : Int)) = decide (a = b) := by
    rw [Bool.eq_iff_iff]; simp
    omega
  rw [f, f]
theorem eq_form : D.eq (.bd p h m) (.bd p2 h2 m2) = some (.bl (sameB p h m p2 h2 m2)) := by
  rw [eq_bd]
  unfold sameB
  have f (a b : Nat) : decide ((a : Int) = (b : Int)) = decide (a = b) := by
    rw [Bool.eq_iff_iff]; simp
    omega
  rw [f, f]
theorem r_carrier (g : GB w h l p m k s) (g2 : GB w2 h2 l2 p2 m2 k2 s2) : fnM 4 m_carrier_between [.sh (.bd w h l), .sh (.bd w2 h2 l2)] =
    .ok (if sameB p h m p2 h2 m2 = true then mot ((k ^^^ k2 : Nat) : Int) (thenS k2 (s : Int) (backS k2 s2)) else .non) [.sh (.bd w h l), .sh (.bd w2 h2 l2)] := by
  refine fnM_rt (Δ := [.sh (.bd w h l), .sh (.bd w2 h2 l2), .sh (.tup [.bd p h m, mot k s]), .sh (.tup [.bd p2 h2 m2, mot k2 s2])]) ?_ rfl
  show m_carrier_between [.sh (.bd w h l), .sh (.bd w2 h2 l2), .no, .no] = _
  unfold m_carrier_between
  have s1 : dropM (callM (fnM 2 m_need_band) (consA (vr 0) (nilA))) [.sh (.bd w h l), .sh (.bd w2 h2 l2), .no, .no] = .ok .nx [.sh (.bd w h l), .sh (.bd w2 h2 l2), .no, .no] :=
    cb_drop (cb_call (ds := [.bd w h l]) rfl (need_ok g.v g.c))
  have s2' : dropM (callM (fnM 2 m_need_band) (consA (vr 1) (nilA))) [.sh (.bd w h l), .sh (.bd w2 h2 l2), .no, .no] = .ok .nx [.sh (.bd w h l), .sh (.bd w2 h2 l2), .no, .no] :=
    cb_drop (cb_call (ds := [.bd w2 h2 l2]) rfl (need_ok g2.v g2.c))
  have c1 : callM (fnM 5 m_own_form) (consA (vr 0) (nilA)) [.sh (.bd w h l), .sh (.bd w2 h2 l2), .no, .no] = .ok (.tup [.bd p h m, mot k s]) [.sh (.bd w h l), .sh (.bd w2 h2 l2), .no, .no] := cb_call (ds := [.bd w h l]) rfl g.of
  have c2 : callM (fnM 5 m_own_form) (consA (vr 1) (nilA)) [.sh (.bd w h l), .sh (.bd w2 h2 l2), .no, .no] = .ok (.tup [.bd p2 h2 m2, mot k2 s2]) [.sh (.bd w h l), .sh (.bd w2 h2 l2), .no, .no] := cb_call (ds := [.bd w2 h2 l2]) rfl g2.of
  have s3 : par2 false false 2 3 (callM (fnM 5 m_own_form) (consA (vr 0) (nilA))) (callM (fnM 5 m_own_form) (consA (vr 1) (nilA))) [.sh (.bd w h l), .sh (.bd w2 h2 l2), .no, .no] = .ok .nx [.sh (.bd w h l), .sh (.bd w2 h2 l2), .sh (.tup [.bd p h m, mot k s]), .sh (.tup [.bd p2 h2 m2, mot k2 s2])] := cb_par2 c1 c2 rfl rfl
  have t : asB (bin D.ne (bin D.ix (vr 2) (ret (.int 0))) (bin D.ix (vr 3) (ret (.int 0)))) [.sh (.bd w h l), .sh (.bd w2 h2 l2), .sh (.tup [.bd p h m, mot k s]), .sh (.tup [.bd p2 h2 m2, mot k2 s2])] = .ok (!sameB p h m p2 h2 m2) [.sh (.bd w h l), .sh (.bd w2 h2 l2), .sh (.tup [.bd p h m, mot k s]), .sh (.tup [.bd p2 h2 m2, mot k2 s2])] :=
    cb_asB (cb_bin (cb_bin rfl rfl tup_ix0) (cb_bin rfl rfl tup_ix0) ne_form)
  refine (sq_nx s1).trans ((sq_nx s2').trans ((sq_nx s3).trans ?_))
  cases hb : sameB p h m p2 h2 m2 with
  | false =>
    rw [hb] at t
    refine (sq_rt (cb_it t (cb_rt rfl))).trans ?_
    simp
  | true =>
    rw [hb] at t
    refine (sq_nx (cb_ie t rfl)).trans ?_
    rw [if_pos rfl]
    exact cb_rt (cb_call (ds := [mot k s, mot k2 (backS k2 s2)]) (cb_cons (cb_bin rfl rfl tup_ix1) (cb_cons (cb_call (ds := [mot k2 s2]) (cb_cons (cb_bin rfl rfl tup_ix1) rfl) (r_back g2.hk)) rfl)) (r_then g.hk g2.hk))
end DL.K70
set_option Elab.async false
set_option linter.all false
set_option maxRecDepth 100000
set_option maxHeartbeats 4000000
set_option autoImplicit false
namespace DL
open PySem L2
theorem rangeM_r {m : M (List D)} {Γ Γ' : SEnv} {n : Nat} (hm : m Γ = .ok [.int (n : Int)] Γ') (h : n ≤ 1000000) : rangeM m Γ = .ok ((List.range n).map fun (j : Nat) => D.int (j : Int)) Γ' := by
  rw [rangeM_n hm h, rng_map]
theorem flow_if {b : Bool} {z : D} {x y : M Flow} {c : M Bool} {Γ Γ1 : SEnv} (hc : c Γ = .ok b Γ1) (hx : x Γ1 = .ok (.rt z) Γ1) (hy : y Γ1 = .ok .nx Γ1) : ifM c x y Γ = .ok (flowOf (if b = true then some z else none)) Γ1 := by
  cases b with
  | true => exact cb_it hc hx
  | false => exact cb_ie hc hy
end DL
namespace DL.K70
open PySem L2 DL
variable {w h w2 h2 p p2 k s k2 s2 : Nat} {l l2 m m2 : List Nat}
def firstP (w h : Nat) (l : List Nat) (w2 h2 : Nat) (l2 : List Nat) (k : Nat) : Option D := (List.range w).findSome? fun (s : Nat) => if (decide (h = h2) && leadsB w h l w2 l2 k s) = true then some (.bl true) else none
theorem r_first (v : VB w h l) (v2 : VB w2 h2 l2) : fnM 4 m__law_first_motion [.sh (.bd w h l), .sh (.bd w2 h2 l2)] = .ok (match (List.range 4).findSome? (firstP w h l w2 h2 l2) with | some z => z | none => .bl false) [.sh (.bd w h l), .sh (.bd w2 h2 l2)] := by
  have hw := v.w2
  let I : SEnv → Prop := fun Γ => ∃ a b, Γ = [.sh (.bd w h l), .sh (.bd w2 h2 l2), osl a, osl b]
  obtain ⟨Γ', ⟨a, b, rfl⟩, e⟩ := find_loop (α := Nat) (f := fun (j : Nat) => D.int (j : Int)) (g := stS 2) (mi := rangeM (consA (ret (.int 4)) (nilA))) (js := List.range 4) (Γ := [.sh (.bd w h l), .sh (.bd w2 h2 l2), .no, .no]) (Γ1 := [.sh (.bd w h l), .sh (.bd w2 h2 l2), .no, .no])
    (body := forM (rangeM (consA (bin D.ix (vr 0) (ret (.int 0))) (nilA))) (stS 3) (ifM (asB (callM (fnM 7 m__law_leads) (consA (vr 0) (consA (vr 1) (consA (tupM (consA (vr 2) (consA (vr 3) (nilA)))) (nilA)))))) (rtM (ret (.bl true))) (ret .nx))) I (firstP w h l w2 h2 l2) (rangeM_r (n := 4) rfl (by omega)) ⟨none, none, rfl⟩ (by
      rintro k hk Γ ⟨a, b, rfl⟩
      rw [List.mem_range] at hk
      obtain ⟨Γ2, ⟨b2, rfl⟩, e2⟩ := find_loop (α := Nat) (f := fun (j : Nat) => D.int (j : Int)) (g := stS 3) (mi := rangeM (consA (bin D.ix (vr 0) (ret (.int 0))) (nilA))) (js := List.range w) (Γ := [.sh (.bd w h l), .sh (.bd w2 h2 l2), .sh (.int k), osl b]) (Γ1 := [.sh (.bd w h l), .sh (.bd w2 h2 l2), .sh (.int k), osl b])
        (body := ifM (asB (callM (fnM 7 m__law_leads) (consA (vr 0) (consA (vr 1) (consA (tupM (consA (vr 2) (consA (vr 3) (nilA)))) (nilA)))))) (rtM (ret (.bl true))) (ret .nx)) (fun Γ => ∃ b, Γ = [.sh (.bd w h l), .sh (.bd w2 h2 l2), .sh (.int k), osl b])
        (fun (s : Nat) => if (decide (h = h2) && leadsB w h l w2 l2 k s) = true then some (.bl true) else none) (rangeM_r (n := w) (cb_cons (cb_bin rfl rfl tup_ix0) rfl) (by omega)) ⟨b, rfl⟩ (by
          rintro s hs Γ ⟨b, rfl⟩
          refine ⟨[.sh (.bd w h l), .sh (.bd w2 h2 l2), .sh (.int k), .sh (.int s)], _, by cases b <;> rfl, ⟨some (.int s), rfl⟩, ?_⟩
          exact flow_if (cb_asB (cb_call (ds := [.bd w h l, .bd w2 h2 l2, mot k s]) (cb_cons rfl (cb_cons rfl (cb_cons (cb_tup (cb_cons rfl (cb_cons rfl rfl)) (by simp)) rfl))) (r_leads v v2 hk))) rfl rfl)
      exact ⟨[.sh (.bd w h l), .sh (.bd w2 h2 l2), .sh (.int k), osl b], _, by cases a <;> rfl, ⟨some (.int k), b2, rfl⟩, e2⟩)
  refine fnM_rt (Δ := [.sh (.bd w h l), .sh (.bd w2 h2 l2), osl a, osl b]) ?_ (by cases a <;> cases b <;> rfl)
  show m__law_first_motion [.sh (.bd w h l), .sh (.bd w2 h2 l2), .no, .no] = _
  unfold m__law_first_motion
  cases hz : (List.range 4).findSome? (firstP w h l w2 h2 l2) with
  | none =>
    rw [hz] at e
    exact (sq_nx e).trans rfl
  | some z =>
    rw [hz] at e
    exact sq_rt e
/-- whether some motion leads -/
def Some1 (w h : Nat) (l : List Nat) (w2 h2 : Nat) (l2 : List Nat) : Prop := h = h2 ∧ ∃ k s : Nat, k < 4 ∧ s < w ∧ Leads w h l w2 l2 k s
theorem first_val (v : VB w h l) (v2 : VB w2 h2 l2) : ∃ b : Bool, (match (List.range 4).findSome? (firstP w h l w2 h2 l2) with | some z => z | none => .bl false) = .bl b ∧ (b = true ↔ Some1 w h l w2 h2 l2) := by
  cases hz : (List.range 4).findSome? (firstP w h l w2 h2 l2) with
  | none =>
    refine ⟨false, rfl, ⟨fun z => (by cases z), ?_⟩⟩
    rintro ⟨rfl, k, s, hk, hs, hl⟩
    have h1 := List.findSome?_eq_none_iff.mp hz k (List.mem_range.mpr hk)
    have h2 := List.findSome?_eq_none_iff.mp h1 s (List.mem_range.mpr hs)
    rw [if_pos (by rw [decide_eq_true rfl, (leads_iff v.w1 v2.w1).mpr hl]; rfl)] at h2
    cases h2
  | some z =>
    obtain ⟨k, hk, h1⟩ := List.exists_of_findSome?_eq_some hz
    obtain ⟨s, hs, h2⟩ := List.exists_of_findSome?_eq_some h1
    split at h2
    · rename_i hb
      cases h2
      rw [Bool.and_eq_true, decide_eq_true_eq] at hb
      exact ⟨true, rfl, ⟨fun _ => ⟨hb.1, k, s, List.mem_range.mp hk, List.mem_range.mp hs, (leads_iff v.w1 v2.w1).mp hb.2⟩, fun _ => rfl⟩⟩
    · cases h2
theorem some_iff (g : GB w h l p m k s) (g2 : GB w2 h2 l2 p2 m2 k2 s2) : Some1 w h l w2 h2 l2 ↔ sameB p h m p2 h2 m2 = true := by
  rw [sameB_iff]
  constructor
  · rintro ⟨rfl, K, S, hK, hS, hl⟩
    obtain ⟨e1, e2⟩ := forms_eq g.v g2.v g.H g2.H hK hl g.mn g2.mn
    exact ⟨e1, rfl, e2⟩
  · rintro ⟨rfl, rfl, rfl⟩
    refine ⟨rfl, ?_⟩
    have a := leads_then g.hk g2.hk g.lead (leads_back g2.hk g2.lead)
    obtain ⟨t, ht, b⟩ := small_shift g.v g.H (xor_lt g.hk g2.hk) a
    exact ⟨_, t, xor_lt g.hk g2.hk, ht, b⟩
/-- the first cell that differs -/
def partP (w h : Nat) (l : List Nat) (w2 : Nat) (l2 : List Nat) : Option D := (List.range h).findSome? fun (y : Nat) => (List.range (w * w2)).findSome? fun (x : Nat) => if (!decide ([hue w l x y] = [hue w2 l2 x y])) = true then some (.tup [.int x, .int y]) else none
def orNon : Option D → D
  | some z => z
  | none => .non
/-- both loops -/
theorem part_loop {mf : M Flow} {n : Nat} {i j a1 a2 : Nat} {Γ : SEnv} (hw : w ≤ 100) (hw2 : w2 ≤ 100) (hh : h ≤ 10) (miy mix : M (List D)) (G : Option D → Option D → SEnv)
    (hy : miy (G none none) = .ok ((List.range h).map fun (j : Nat) => D.int (j : Int)) (G none none)) (hx : ∀ y b, mix (G (some y) b) = .ok ((List.range (w * w2)).map fun (j : Nat) => D.int (j : Int)) (G (some y) b))
    (sy : ∀ a b d, stS i d (G a b) = .ok () (G (some d) b)) (sx : ∀ a b d, stS j d (G a b) = .ok () (G a (some d)))
    (e1 : ∀ x y : Nat, y < h → callM (fnM 3 mf) (consA (vr a1) (consA (vr j) (consA (vr i) (nilA)))) (G (some (.int y)) (some (.int x))) = .ok (.st [hue w l x y]) (G (some (.int y)) (some (.int x))))
    (e2 : ∀ x y : Nat, y < h → callM (fnM 3 mf) (consA (vr a2) (consA (vr j) (consA (vr i) (nilA)))) (G (some (.int y)) (some (.int x))) = .ok (.st [hue w2 l2 x y]) (G (some (.int y)) (some (.int x))))
    (et : ∀ x y : Nat, tupM (consA (vr j) (consA (vr i) (nilA))) (G (some (.int y)) (some (.int x))) = .ok (.tup [.int x, .int y]) (G (some (.int y)) (some (.int x)))) :
    ∃ a b, forM miy (stS i) (forM mix (stS j) (ifM (asB (bin D.ne (callM (fnM 3 mf) (consA (vr a1) (consA (vr j) (consA (vr i) (nilA))))) (callM (fnM 3 mf) (consA (vr a2) (consA (vr j) (consA (vr i) (nilA))))))) (rtM (tupM (consA (vr j) (consA (vr i) (nilA))))) (ret .nx))) (G none none)
      = .ok (flowOf (partP w h l w2 l2)) (G a b) := by
  obtain ⟨Γ', ⟨a, b, rfl⟩, e⟩ := find_loop (α := Nat) (f := fun (j : Nat) => D.int (j : Int)) (g := stS i) (mi := miy) (js := List.range h) (Γ := G none none) (Γ1 := G none none)
    (body := forM mix (stS j) (ifM (asB (bin D.ne (callM (fnM 3 mf) (consA (vr a1) (consA (vr j) (consA (vr i) (nilA))))) (callM (fnM 3 mf) (consA (vr a2) (consA (vr j) (consA (vr i) (nilA))))))) (rtM (tupM (consA (vr j) (consA (vr i) (nilA))))) (ret .nx))) (fun Γ => ∃ a b, Γ = G a b)
    (fun (y : Nat) => (List.range (w * w2)).findSome? fun (x : Nat) => if (!decide ([hue w l x y] = [hue w2 l2 x y])) = true then some (.tup [.int x, .int y]) else none) hy ⟨none, none, rfl⟩ (by
      rintro y hyy Γ ⟨a, b, rfl⟩
      rw [List.mem_range] at hyy
      obtain ⟨Γ2, ⟨b2, rfl⟩, e2'⟩ := find_loop (α := Nat) (f := fun (j : Nat) => D.int (j : Int)) (g := stS j) (mi := mix) (js := List.range (w * w2)) (Γ := G (some (.int y)) b) (Γ1 := G (some (.int y)) b)
        (body := ifM (asB (bin D.ne (callM (fnM 3 mf) (consA (vr a1) (consA (vr j) (consA (vr i) (nilA))))) (callM (fnM 3 mf) (consA (vr a2) (consA (vr j) (consA (vr i) (nilA))))))) (rtM (tupM (consA (vr j) (consA (vr i) (nilA))))) (ret .nx)) (fun Γ => ∃ b, Γ = G (some (.int y)) b)
        (fun (x : Nat) => if (!decide ([hue w l x y] = [hue w2 l2 x y])) = true then some (.tup [.int x, .int y]) else none) (hx _ _) ⟨b, rfl⟩ (by
          rintro x hxx Γ ⟨b, rfl⟩
          exact ⟨G (some (.int y)) (some (.int x)), _, sx _ _ _, ⟨some (.int x), rfl⟩, flow_if (cb_asB (cb_bin (e1 x y hyy) (e2 x y hyy) ne_ss)) (cb_rt (et x y)) rfl⟩)
      exact ⟨G (some (.int y)) b, _, sy _ _ _, ⟨some (.int y), b2, rfl⟩, e2'⟩)
  exact ⟨a, b, e⟩
theorem r_parting (v : VB w h l) (v2 : VB w2 h l2) : fnM 4 m__law_parting [.sh (.bd w h l), .sh (.bd w2 h l2)] = .ok (orNon (partP w h l w2 l2)) [.sh (.bd w h l), .sh (.bd w2 h l2)] := by
  have hw := v.w2
  have hw2 := v2.w2
  have hh := v.h2
  have hm : w * w2 ≤ 10000 := by
    have := Nat.mul_le_mul hw hw2
    omega
  obtain ⟨a, b, e⟩ := part_loop (w := w) (h := h) (w2 := w2) (l := l) (l2 := l2) (mf := m__law_hue) (n := 0) (i := 2) (j := 3) (a1 := 0) (a2 := 1) (Γ := []) hw hw2 hh (rangeM (consA (bin D.ix (vr 0) (ret (.int 1))) (nilA))) (rangeM (consA (bin D.mul (bin D.ix (vr 0) (ret (.int 0))) (bin D.ix (vr 1) (ret (.int 0)))) (nilA)))
    (fun a b => [.sh (.bd w h l), .sh (.bd w2 h l2), osl a, osl b]) (rangeM_r (n := h) (cb_cons (cb_bin rfl rfl tup_ix1) rfl) (by omega)) (fun y b => rangeM_r (n := w * w2) (cb_cons (cb_bin (cb_bin rfl rfl tup_ix0) (cb_bin rfl rfl tup_ix0) (mul_nn (by omega) (by omega))) rfl) (by omega))
    (fun a b d => by cases a <;> rfl) (fun a b d => by cases b <;> rfl) (fun x y hy => cb_call (ds := [.bd w h l, .int x, .int y]) rfl (r_hue v hy)) (fun x y hy => cb_call (ds := [.bd w2 h l2, .int x, .int y]) rfl (r_hue v2 hy))
    (fun x y => cb_tup (cb_cons rfl (cb_cons rfl rfl)) (by simp))
  refine fnM_rt (Δ := [.sh (.bd w h l), .sh (.bd w2 h l2), osl a, osl b]) ?_ (by cases a <;> cases b <;> rfl)
  show m__law_parting [.sh (.bd w h l), .sh (.bd w2 h l2), .no, .no] = _
  unfold m__law_parting
  cases hz : partP w h l w2 l2 with
  | none =>
    rw [hz] at e
    exact (sq_nx e).trans rfl
  | some z =>
    rw [hz] at e
    exact sq_rt e
theorem part_none : partP w h l w2 l2 = none ↔ ∀ y, y < h → ∀ x : Nat, x < w * w2 → hue w l x y = hue w2 l2 x y := by
  unfold partP
  rw [List.findSome?_eq_none_iff]
  constructor
  · intro H y hy x hx
    have h1 := List.findSome?_eq_none_iff.mp (H y (List.mem_range.mpr hy)) x (List.mem_range.mpr hx)
    by_cases z : hue w l x y = hue w2 l2 x y
    · exact z
    · rw [if_pos (by simp [z])] at h1
      cases h1
  · intro H y hy
    rw [List.findSome?_eq_none_iff]
    intro x hx
    rw [if_neg (by simp [H y (List.mem_range.mp hy) x (List.mem_range.mp hx)])]
theorem part_all (hw : 1 ≤ w) (hw2 : 1 ≤ w2) : partP w h l w2 l2 = none ↔ ∀ y, y < h → ∀ x : Int, hue w l x y = hue w2 l2 x y := by
  rw [part_none]
  constructor
  · intro H y hy x
    have hm := mod_nat (w := w * w2) (Nat.mul_pos hw hw2) x
    have := H y hy _ hm.2
    have d1 : (w : Int) ∣ ((w * w2 : Nat) : Int) := ⟨w2, by rw [Int.natCast_mul]⟩
    have d2 : (w2 : Int) ∣ ((w * w2 : Nat) : Int) := ⟨w, by rw [Int.natCast_mul, Int.mul_comm]⟩
    have e1 : ((x % ((w * w2 : Nat) : Int)).toNat : Int) % (w : Int) = x % (w : Int) := by rw [hm.1, Int.emod_emod_of_dvd _ d1]
    have e2 : ((x % ((w * w2 : Nat) : Int)).toNat : Int) % (w2 : Int) = x % (w2 : Int) := by rw [hm.1, Int.emod_emod_of_dvd _ d2]
    rw [hue_mod (n := 0) e1, hue_mod (n := 0) e2] at this
    exact this
  · intro H y hy x _
    exact H y hy x
/-- the forms differ nowhere exactly if they are the same -/
theorem part_same (g : GB w h l p m k s) (g2 : GB w2 h l2 p2 m2 k2 s2) : partP p h m p2 m2 = none ↔ sameB p h m p2 h m2 = true := by
  have v := g.fv
  have v2 := g2.fv
  rw [part_all v.1.w1 v2.1.w1, sameB_iff]
  constructor
  · intro H
    obtain ⟨a, b⟩ := same_forms v.1 v2.1 v.2 v2.2 H
    exact ⟨a, rfl, b⟩
  · rintro ⟨rfl, _, rfl⟩ y hy x
    rfl
end DL.K70
set_option Elab.async false
set_option linter.all false
set_option maxRecDepth 100000
set_option maxHeartbeats 4000000
set_option autoImplicit false
namespace DL
open PySem L2
variable {Γ Γ' Γ1 Γ2 Γ3 Δ : SEnv}
theorem cb_call_er {m : M D} {ma : M (List D)} {ds : List D} {x : Exn} (ha : ma Γ = .ok ds Γ') (hm : m (ds.map .sh) = .er x Δ) : callM m ma Γ = .er x Γ' := by
  simp only [callM, bnd, ha, hm]
theorem cb_asg_er {m : M D} {g : D → M Unit} {x : Exn} (h : m Γ = .er x Γ1) : asgM m g Γ = .er x Γ1 := by
  simp only [asgM, bnd, h]
theorem cb_drop_er {m : M D} {x : Exn} (h : m Γ = .er x Γ1) : dropM m Γ = .er x Γ1 := by
  simp only [dropM, bnd, h]
theorem cb_raise {m : M D} {c f : Str} {d : D} (h : m Γ = .ok d Γ1) : raiseM c f m Γ = .er ⟨c, f, d⟩ Γ1 := by
  simp only [raiseM, bnd, h]
theorem cb_try_ok {i : Nat} {cl : Str → Option Bool} {body : M Flow} {suite : Exn → M Flow} {f : Flow} (h : body Γ = .ok f Γ1) : tryM i cl body suite Γ = .ok f Γ1 := by
  simp only [tryM, h]
theorem cb_try_er {i : Nat} {cl : Str → Option Bool} {body : M Flow} {suite : Exn → M Flow} {f : Flow} {x : Exn} (h : body Γ = .er x Γ1) (hc : cl x.cls = some true) (h1 : isNo Γ1[i]? = true) (hs : suite x Γ1 = .ok f Γ2) (h2 : isNo Γ2[i]? = true) : tryM i cl body suite Γ = .ok f Γ2 := by
  simp only [tryM, h, hc, h1, hs, h2, if_true]
theorem cb_att {c f : Str} {x : Exn} (hc : x.cls = c) (hf : x.fld = f) : attM c f x Γ = .ok x.pl Γ := by
  unfold attM
  rw [if_pos ⟨hc, hf⟩]
  rfl
theorem clB_self {c : Str} : clB c c = some true := if_pos rfl
end DL
namespace DL.K70
open PySem L2 DL
variable {w h w2 h2 p p2 k s k2 s2 : Nat} {l l2 m m2 : List Nat}
theorem ne_nat {a b : Nat} : D.ne (.int (a : Int)) (.int (b : Int)) = some (.bl (!decide (a = b))) := by
  rw [ne_ii]
  congr 3
  rw [Bool.eq_iff_iff]; simp
  omega
theorem pcell_er (g : GB w h l p m k s) (g2 : GB w2 h2 l2 p2 m2 k2 s2) (hh : h ≠ h2) : fnM 6 m_parting_cell [.sh (.bd w h l), .sh (.bd w2 h2 l2)] = .er ⟨"NoSuch", "value", .str "rows"⟩ [.sh (.bd w h l), .sh (.bd w2 h2 l2)] := by
  refine fnM_er (Δ := [.sh (.bd w h l), .sh (.bd w2 h2 l2), .no, .no, .no, .no]) ?_ rfl
  show m_parting_cell [.sh (.bd w h l), .sh (.bd w2 h2 l2), .no, .no, .no, .no] = _
  unfold m_parting_cell
  have s1 : dropM (callM (fnM 2 m_need_band) (consA (vr 0) (nilA))) [.sh (.bd w h l), .sh (.bd w2 h2 l2), .no, .no, .no, .no] = .ok .nx [.sh (.bd w h l), .sh (.bd w2 h2 l2), .no, .no, .no, .no] := cb_drop (cb_call (ds := [.bd w h l]) rfl (need_ok g.v g.c))
  have s2' : dropM (callM (fnM 2 m_need_band) (consA (vr 1) (nilA))) [.sh (.bd w h l), .sh (.bd w2 h2 l2), .no, .no, .no, .no] = .ok .nx [.sh (.bd w h l), .sh (.bd w2 h2 l2), .no, .no, .no, .no] := cb_drop (cb_call (ds := [.bd w2 h2 l2]) rfl (need_ok g2.v g2.c))
  have t : asB (bin D.ne (bin D.ix (vr 0) (ret (.int 1))) (bin D.ix (vr 1) (ret (.int 1)))) [.sh (.bd w h l), .sh (.bd w2 h2 l2), .no, .no, .no, .no] = .ok true [.sh (.bd w h l), .sh (.bd w2 h2 l2), .no, .no, .no, .no] := by
    refine cb_asB (cb_bin (cb_bin rfl rfl tup_ix1) (cb_bin rfl rfl tup_ix1) ?_)
    rw [ne_nat, decide_eq_false hh]
    rfl
  refine (sq_nx s1).trans ((sq_nx s2').trans (sq_er ?_))
  exact cb_it t (cb_raise rfl)
theorem pcell_ok (g : GB w h l p m k s) (g2 : GB w2 h l2 p2 m2 k2 s2) : fnM 6 m_parting_cell [.sh (.bd w h l), .sh (.bd w2 h l2)] = .ok (orNon (partP p h m p2 m2)) [.sh (.bd w h l), .sh (.bd w2 h l2)] := by
  have v := g.fv.1
  have v2 := g2.fv.1
  have hw := v.w2
  have hw2 := v2.w2
  have hh := v.h2
  have hm : p * p2 ≤ 10000 := by
    have := Nat.mul_le_mul hw hw2
    omega
  have s1 : dropM (callM (fnM 2 m_need_band) (consA (vr 0) (nilA))) [.sh (.bd w h l), .sh (.bd w2 h l2), .no, .no, .no, .no] = .ok .nx [.sh (.bd w h l), .sh (.bd w2 h l2), .no, .no, .no, .no] := cb_drop (cb_call (ds := [.bd w h l]) rfl (need_ok g.v g.c))
  have s2' : dropM (callM (fnM 2 m_need_band) (consA (vr 1) (nilA))) [.sh (.bd w h l), .sh (.bd w2 h l2), .no, .no, .no, .no] = .ok .nx [.sh (.bd w h l), .sh (.bd w2 h l2), .no, .no, .no, .no] := cb_drop (cb_call (ds := [.bd w2 h l2]) rfl (need_ok g2.v g2.c))
  have s3 : ifM (asB (bin D.ne (bin D.ix (vr 0) (ret (.int 1))) (bin D.ix (vr 1) (ret (.int 1))))) (raiseM "NoSuch" "value" (ret (.str "rows"))) (ret .nx) [.sh (.bd w h l), .sh (.bd w2 h l2), .no, .no, .no, .no] = .ok .nx [.sh (.bd w h l), .sh (.bd w2 h l2), .no, .no, .no, .no] := by
    refine cb_ie (cb_asB (cb_bin (cb_bin rfl rfl tup_ix1) (cb_bin rfl rfl tup_ix1) ?_)) rfl
    rw [ne_nat, decide_eq_true rfl]
    rfl
  have c1 : bin D.ix (callM (fnM 5 m_own_form) (consA (vr 0) (nilA))) (ret (.int 0)) [.sh (.bd w h l), .sh (.bd w2 h l2), .no, .no, .no, .no] = .ok (.bd p h m) [.sh (.bd w h l), .sh (.bd w2 h l2), .no, .no, .no, .no] := cb_bin (cb_call (ds := [.bd w h l]) rfl g.of) rfl tup_ix0
  have c2 : bin D.ix (callM (fnM 5 m_own_form) (consA (vr 1) (nilA))) (ret (.int 0)) [.sh (.bd w h l), .sh (.bd w2 h l2), .no, .no, .no, .no] = .ok (.bd p2 h m2) [.sh (.bd w h l), .sh (.bd w2 h l2), .no, .no, .no, .no] := cb_bin (cb_call (ds := [.bd w2 h l2]) rfl g2.of) rfl tup_ix0
  have s4 : par2 false false 2 3 (bin D.ix (callM (fnM 5 m_own_form) (consA (vr 0) (nilA))) (ret (.int 0))) (bin D.ix (callM (fnM 5 m_own_form) (consA (vr 1) (nilA))) (ret (.int 0))) [.sh (.bd w h l), .sh (.bd w2 h l2), .no, .no, .no, .no]
      = .ok .nx [.sh (.bd w h l), .sh (.bd w2 h l2), .sh (.bd p h m), .sh (.bd p2 h m2), .no, .no] := cb_par2 c1 c2 rfl rfl
  have t : asB (bin D.eq (vr 2) (vr 3)) [.sh (.bd w h l), .sh (.bd w2 h l2), .sh (.bd p h m), .sh (.bd p2 h m2), .no, .no] = .ok (sameB p h m p2 h m2) [.sh (.bd w h l), .sh (.bd w2 h l2), .sh (.bd p h m), .sh (.bd p2 h m2), .no, .no] := cb_asB (cb_bin rfl rfl eq_form)
  have ps := part_same g g2
  obtain ⟨a, b, e⟩ := part_loop (w := p) (h := h) (w2 := p2) (l := m) (l2 := m2) (mf := m_own_colour) (n := 0) (i := 4) (j := 5) (a1 := 2) (a2 := 3) (Γ := []) hw hw2 hh (rangeM (consA (bin D.ix (vr 0) (ret (.int 1))) (nilA))) (rangeM (consA (bin D.mul (bin D.ix (vr 2) (ret (.int 0))) (bin D.ix (vr 3) (ret (.int 0)))) (nilA)))
    (fun a b => [.sh (.bd w h l), .sh (.bd w2 h l2), .sh (.bd p h m), .sh (.bd p2 h m2), osl a, osl b]) (rangeM_r (n := h) (cb_cons (cb_bin rfl rfl tup_ix1) rfl) (by omega)) (fun y b => rangeM_r (n := p * p2) (cb_cons (cb_bin (cb_bin rfl rfl tup_ix0) (cb_bin rfl rfl tup_ix0) (mul_nn (by omega) (by omega))) rfl) (by omega))
    (fun a b d => by cases a <;> rfl) (fun a b d => by cases b <;> rfl) (fun x y hy => cb_call (ds := [.bd p h m, .int x, .int y]) rfl (r_own_colour v hy)) (fun x y hy => cb_call (ds := [.bd p2 h m2, .int x, .int y]) rfl (r_own_colour v2 hy))
    (fun x y => cb_tup (cb_cons rfl (cb_cons rfl rfl)) (by simp))
  cases hb : sameB p h m p2 h m2 with
  | true =>
    rw [hb] at t
    rw [ps.mpr hb]
    refine fnM_rt (Δ := [.sh (.bd w h l), .sh (.bd w2 h l2), .sh (.bd p h m), .sh (.bd p2 h m2), .no, .no]) ?_ rfl
    show m_parting_cell [.sh (.bd w h l), .sh (.bd w2 h l2), .no, .no, .no, .no] = _
    unfold m_parting_cell
    refine (sq_nx s1).trans ((sq_nx s2').trans ((sq_nx s3).trans ((sq_nx s4).trans (sq_rt ?_))))
    exact cb_it t rfl
  | false =>
    rw [hb] at t
    cases hz : partP p h m p2 m2 with
    | none =>
      rw [ps.mp hz] at hb
      cases hb
    | some z =>
      rw [hz] at e
      refine fnM_rt (Δ := [.sh (.bd w h l), .sh (.bd w2 h l2), .sh (.bd p h m), .sh (.bd p2 h m2), osl a, osl b]) ?_ (by cases a <;> cases b <;> rfl)
      show m_parting_cell [.sh (.bd w h l), .sh (.bd w2 h l2), .no, .no, .no, .no] = _
      unfold m_parting_cell
      refine (sq_nx s1).trans ((sq_nx s2').trans ((sq_nx s3).trans ((sq_nx s4).trans ((sq_nx (cb_ie t rfl)).trans (sq_rt ?_)))))
      exact e
theorem part_rp (v : VB p h m) (v2 : VB p2 h m2) : (orNon (partP p h m p2 m2)).rp = true ∧ (orNon (partP p h m p2 m2)).py.depth ≤ 60 ∧ (orNon (partP p h m p2 m2)).py.weight ≤ 1000000 := by
  cases hz : partP p h m p2 m2 with
  | none => exact ⟨rfl, by simp [orNon, D.py, PyData.depth], by simp [orNon, D.py, PyData.weight]⟩
  | some z =>
    unfold partP at hz
    obtain ⟨y, hy, h1⟩ := List.exists_of_findSome?_eq_some hz
    obtain ⟨x, hx, h2⟩ := List.exists_of_findSome?_eq_some h1
    split at h2
    · cases h2
      rw [List.mem_range] at hy hx
      have hh := v.h2
      have hm : p * p2 ≤ 10000 := by
        have := Nat.mul_le_mul v.w2 v2.w2
        omega
      refine ⟨?_, by simp [orNon, D.py, D.pys, PyData.depth, PyData.depthAll], ?_⟩
      · simp only [orNon, D.rp, D.rps, Bool.and_true, Bool.and_eq_true, decide_eq_true_eq]
        omega
      · have f : ∀ n : Nat, n ≤ 10000 → (PyData.int (n : Int)).weight ≤ 20 := fun n hn => by
          simp only [PyData.weight]
          split
          · omega
          · rename_i h0
            have hne : ((n : Int)).natAbs ≠ 0 := by simp at h0; omega
            have := (Nat.log2_lt hne (k := 14)).mpr (by omega)
            omega
        have fx := f x (by omega)
        have fy := f y (by omega)
        simp only [orNon, D.py, D.pys, PyData.weight, PyData.weightAll] at fx fy ⊢
        omega
    · cases h2
theorem orNon_isN {o : Option D} (h : ∀ z, o = some z → z.isNon = false) : D.isN (orNon o) .non = some (.bl o.isNone) := by
  cases o with
  | none => rfl
  | some z =>
    have := h z rfl
    cases z <;> first | rfl | cases this
theorem part_non (hp : ∀ z, partP p h m p2 m2 = some z → z.isNon = false := by
    intro z hz
    unfold partP at hz
    obtain ⟨y, hy, h1⟩ := List.exists_of_findSome?_eq_some hz
    obtain ⟨x, hx, h2⟩ := List.exists_of_findSome?_eq_some h1
    split at h2
    · cases h2; rfl
    · cases h2) : D.isN (orNon (partP p h m p2 m2)) .non = some (.bl (partP p h m p2 m2).isNone) := orNon_isN hp
/-- the pair's law -/
theorem r_pair (g : GB w h l p m k s) (g2 : GB w2 h2 l2 p2 m2 k2 s2) : fnM 7 m__law_pair_right [.sh (.bd w h l), .sh (.bd w2 h2 l2)] = .ok (.bl true) [.sh (.bd w h l), .sh (.bd w2 h2 l2)] := by
  obtain ⟨B, eB, hB⟩ := first_val g.v g2.v
  have r1 := r_first g.v g2.v
  rw [eB] at r1
  have hBs : B = sameB p h m p2 h2 m2 := by
    rw [Bool.eq_iff_iff]
    exact hB.trans (some_iff g g2)
  have r2 := r_carrier g g2
  generalize hT : (if sameB p h m p2 h2 m2 = true then mot ((k ^^^ k2 : Nat) : Int) (thenS k2 (s : Int) (backS k2 s2)) else .non) = T at r2
  have s1 : par2 false false 2 3 (callM (fnM 4 m__law_first_motion) (consA (vr 0) (consA (vr 1) (nilA)))) (callM (fnM 4 m_carrier_between) (permA (permI [1, 0]) (consA (vr 1) (consA (vr 0) (nilA))))) [.sh (.bd w h l), .sh (.bd w2 h2 l2), .no, .no, .no, .no, .no]
      = .ok .nx [.sh (.bd w h l), .sh (.bd w2 h2 l2), .sh (.bl B), .sh T, .no, .no, .no] :=
    cb_par2 (cb_call (ds := [.bd w h l, .bd w2 h2 l2]) rfl r1) (cb_call (ds := [.bd w h l, .bd w2 h2 l2]) (cb_perm (ds := [.bd w2 h2 l2, .bd w h l]) rfl) r2) rfl rfl
  have isnt : D.isntN T .non = some (.bl B) := by
    rw [← hT, hBs]
    cases sameB p h m p2 h2 m2 <;> rfl
  have bounds : B = true → ∃ S : Int, T = mot ((k ^^^ k2 : Nat) : Int) S ∧ -1000000 ≤ S ∧ S ≤ 1000000 := fun hb => by
    rw [hBs] at hb
    rw [if_pos hb] at hT
    refine ⟨_, hT.symm, ?_⟩
    have h1 := g.hs
    have h2 := g2.hs
    have h3 := lsh_le g.v.w1 g.H
    have h4 := lsh_le g2.v.w1 g2.H
    have h5 := g.v.w2
    have h6 := g2.v.w2
    unfold thenS backS
    split <;> omega
  have s2' : ifM (orM (asB (bin D.ne (vr 2) (bin D.isntN (vr 3) (ret .non)))) (andM (asB (vr 2)) (notM (asB (callM (fnM 7 m__law_leads) (consA (vr 0) (consA (vr 1) (consA (vr 3) (nilA))))))))) (rtM (ret (.bl false))) (ret .nx) [.sh (.bd w h l), .sh (.bd w2 h2 l2), .sh (.bl B), .sh T, .no, .no, .no] = .ok .nx [.sh (.bd w h l), .sh (.bd w2 h2 l2), .sh (.bl B), .sh T, .no, .no, .no] := by
    refine cb_ie (cb_o2 (cb_asB (cb_bin rfl (cb_bin rfl rfl isnt) (show D.ne (.bl B) (.bl B) = some (.bl false) from (cb_self deep_blx).1))) ?_) rfl
    cases hb : B with
    | false => exact cb_a1 rfl
    | true =>
      obtain ⟨S, eT, _, _⟩ := bounds hb
      have hs : sameB p h m p2 h2 m2 = true := by rw [← hBs]; exact hb
      obtain ⟨rfl, rfl, rfl⟩ := sameB_iff.mp hs
      rw [if_pos hs] at hT
      have hl : Leads w h l w2 l2 (k ^^^ k2) (thenS k2 (s : Int) (backS k2 s2)) := leads_then g.hk g2.hk g.lead (leads_back g2.hk g2.lead)
      have rl := r_leads g.v g2.v (k := k ^^^ k2) (s := thenS k2 (s : Int) (backS k2 s2)) (xor_lt g.hk g2.hk)
      rw [(leads_iff g.v.w1 g2.v.w1).mpr hl, decide_eq_true rfl] at rl
      rw [← hT]
      exact cb_a2 rfl (cb_nt (cb_asB (cb_call (ds := [.bd w h l, .bd w2 h l2, mot ((k ^^^ k2 : Nat) : Int) (thenS k2 (s : Int) (backS k2 s2))]) rfl rl)))
  have s3 : ifM (orM (andM (asB (vr 2)) (asB (bin D.isntN (callM (fnM 1 m_need_band_motion) (consA (vr 3) (nilA))) (ret .non)))) (asB (bin D.isntN (callM (fnM 1 m_need_band_motion) (consA (callM (fnM 1 m_form_motion) (consA (vr 0) (nilA))) (nilA))) (ret .non)))) (rtM (ret (.bl false))) (ret .nx)
      [.sh (.bd w h l), .sh (.bd w2 h2 l2), .sh (.bl B), .sh T, .no, .no, .no] = .ok .nx [.sh (.bd w h l), .sh (.bd w2 h2 l2), .sh (.bl B), .sh T, .no, .no, .no] := by
    have hk := g.hk
    have hs := g.hs
    have hple := lsh_le g.v.w1 g.H
    have hw := g.v.w2
    refine cb_ie (cb_o2 (Γ1 := [.sh (.bd w h l), .sh (.bd w2 h2 l2), .sh (.bl B), .sh T, .no, .no, .no]) ?_ (cb_asB (cb_bin (cb_call (ds := [mot k s]) (cb_cons (cb_call (ds := [.bd w h l]) rfl (r_fmo g)) rfl) (need_motion (by omega) (by omega) (by omega) (by omega))) rfl rfl))) rfl
    cases hb : B with
    | false => exact cb_a1 rfl
    | true =>
      obtain ⟨S, eT, b1, b2⟩ := bounds hb
      rw [eT]
      have := xor_lt g.hk g2.hk
      exact cb_a2 rfl (cb_asB (cb_bin (cb_call (ds := [mot ((k ^^^ k2 : Nat) : Int) S]) rfl (need_motion (by omega) (by omega) b1 b2)) rfl rfl))
  by_cases hh : h = h2
  · subst hh
    have t : asB (bin D.ne (bin D.ix (vr 0) (ret (.int 1))) (bin D.ix (vr 1) (ret (.int 1)))) [.sh (.bd w h l), .sh (.bd w2 h l2), .sh (.bl B), .sh T, .no, .no, .no] = .ok false [.sh (.bd w h l), .sh (.bd w2 h l2), .sh (.bl B), .sh T, .no, .no, .no] := by
      refine cb_asB (cb_bin (cb_bin rfl rfl tup_ix1) (cb_bin rfl rfl tup_ix1) ?_)
      rw [ne_nat, decide_eq_true rfl]
      rfl
    have rp := r_parting g.fv.1 g2.fv.1
    have rc := pcell_ok g g2
    have pr := part_rp g.fv.1 g2.fv.1
    have pn := part_non (p := p) (h := h) (m := m) (p2 := p2) (m2 := m2)
    have hN : (partP p h m p2 m2).isNone = B := by
      rw [hBs, Bool.eq_iff_iff, Option.isNone_iff_eq_none]
      exact part_same g g2
    rw [hN] at pn
    generalize orNon (partP p h m p2 m2) = Z at rp rc pr pn
    have s5 : asgM (callM (fnM 4 m__law_parting) (consA (callM (fnM 7 m__law_form) (consA (vr 0) (nilA))) (consA (callM (fnM 7 m__law_form) (consA (vr 1) (nilA))) (nilA)))) (stS 4) [.sh (.bd w h l), .sh (.bd w2 h l2), .sh (.bl B), .sh T, .no, .no, .no] = .ok .nx [.sh (.bd w h l), .sh (.bd w2 h l2), .sh (.bl B), .sh T, .sh Z, .no, .no] :=
      cb_asg (cb_call (ds := [.bd p h m, .bd p2 h m2]) (cb_cons (cb_call (ds := [.bd w h l]) rfl g.lf) (cb_cons (cb_call (ds := [.bd w2 h l2]) rfl g2.lf) rfl)) rp) rfl
    refine fnM_rt (Δ := [.sh (.bd w h l), .sh (.bd w2 h l2), .sh (.bl B), .sh T, .sh Z, .no, .no]) ?_ rfl
    show m__law_pair_right [.sh (.bd w h l), .sh (.bd w2 h l2), .no, .no, .no, .no, .no] = _
    unfold m__law_pair_right
    refine (sq_nx s1).trans ((sq_nx s2').trans ((sq_nx s3).trans ((sq_nx (cb_ie t rfl)).trans ((sq_nx s5).trans (cb_rt ?_)))))
    refine cb_V2 (cb_repr_eq (d := Z) (cb_cons (cb_call (ds := [.bd w h l, .bd w2 h l2]) (cb_perm (ds := [.bd w2 h l2, .bd w h l]) rfl) rc) rfl) (cb_cons rfl rfl) pr.1 pr.2.1 pr.2.2) ?_
    exact cb_bin (cb_bin rfl rfl pn) rfl (cb_self deep_blx).2
  · have t : asB (bin D.ne (bin D.ix (vr 0) (ret (.int 1))) (bin D.ix (vr 1) (ret (.int 1)))) [.sh (.bd w h l), .sh (.bd w2 h2 l2), .sh (.bl B), .sh T, .no, .no, .no] = .ok true [.sh (.bd w h l), .sh (.bd w2 h2 l2), .sh (.bl B), .sh T, .no, .no, .no] := by
      refine cb_asB (cb_bin (cb_bin rfl rfl tup_ix1) (cb_bin rfl rfl tup_ix1) ?_)
      rw [ne_nat, decide_eq_false hh]
      rfl
    have a1 : asgM (tupM (nilA)) (stS 5) [.sh (.bd w h l), .sh (.bd w2 h2 l2), .sh (.bl B), .sh T, .no, .no, .no] = .ok .nx [.sh (.bd w h l), .sh (.bd w2 h2 l2), .sh (.bl B), .sh T, .no, .sh (.tup []), .no] := cb_asg (cb_tup rfl (by simp)) rfl
    have a2 : tryM 6 (clB "NoSuch") (asgM (callM (fnM 6 m_parting_cell) (consA (vr 0) (consA (vr 1) (nilA)))) (stS 5)) (fun x => asgM (tupM (consA (ret (.str "none")) (consA (attM "NoSuch" "value" x) nilA))) (stS 5)) [.sh (.bd w h l), .sh (.bd w2 h2 l2), .sh (.bl B), .sh T, .no, .sh (.tup []), .no]
        = .ok .nx [.sh (.bd w h l), .sh (.bd w2 h2 l2), .sh (.bl B), .sh T, .no, .sh (.tup [.str "none", .str "rows"]), .no] :=
      cb_try_er (cb_asg_er (cb_call_er (ds := [.bd w h l, .bd w2 h2 l2]) rfl (pcell_er g g2 hh))) clB_self rfl (cb_asg (cb_tup (cb_cons rfl (cb_cons (cb_att rfl rfl) rfl)) (by simp)) rfl) rfl
    refine fnM_rt (Δ := [.sh (.bd w h l), .sh (.bd w2 h2 l2), .sh (.bl B), .sh T, .no, .sh (.tup [.str "none", .str "rows"]), .no]) ?_ rfl
    show m__law_pair_right [.sh (.bd w h l), .sh (.bd w2 h2 l2), .no, .no, .no, .no, .no] = _
    unfold m__law_pair_right
    refine (sq_nx s1).trans ((sq_nx s2').trans ((sq_nx s3).trans (sq_rt (cb_it t ?_))))
    refine (sq_nx a1).trans ((sq_nx a2).trans (cb_rt ?_))
    exact cb_bin rfl (cb_tup (cb_cons rfl (cb_cons rfl rfl)) (by simp)) (cb_self (by simp [deepOk, D.pl, D.pls, D.py, D.pys, PyData.depth, PyData.depthAll])).2
end DL.K70
set_option Elab.async false
set_option linter.all false
set_option maxRecDepth 100000
set_option maxHeartbeats 4000000
set_option autoImplicit false
namespace DL
open PySem L2
/-! ### lines of a text -/
def linesOf (t : List Nat) : List (List Nat) := TL.spl [10] 0 [] t
theorem pre10 {c : Nat} {r : List Nat} : TL.pre [10] (c :: r) = decide (c = 10) := by
  show (([c] : List Nat) == [10]) = decide (c = 10)
  rw [Bool.eq_iff_iff, beq_iff_eq, decide_eq_true_iff]
  exact ⟨fun h => by cases h; rfl, fun h => by rw [h]⟩
theorem spl10_cons {c : Nat} {acc r : List Nat} : TL.spl [10] 0 acc (c :: r) = if c = 10 then acc :: TL.spl [10] 0 [] r else TL.spl [10] 0 (acc ++ [c]) r := by
  by_cases h : c = 10
  · rw [if_pos h, TL.spl_hit (by rw [pre10]; exact decide_eq_true h)]
    rfl
  · rw [if_neg h, TL.spl_miss (by rw [pre10]; exact decide_eq_false h)]
theorem spl10_facts : ∀ (t acc : List Nat), TL.spl [10] 0 acc t ≠ [] ∧ (TL.spl [10] 0 acc t).length ≤ t.length + 1 ∧ (TL.spl [10] 0 acc t).flatten.length ≤ acc.length + t.length ∧
    ∀ p ∈ TL.spl [10] 0 acc t, ∀ c ∈ p, (c ∈ acc ∨ (c ∈ t ∧ c ≠ 10))
  | [], acc => by
    rw [TL.spl_nil]
    refine ⟨by simp, by simp, by simp, ?_⟩
    intro p hp c hc
    rw [List.mem_singleton] at hp
    subst hp
    exact .inl hc
  | c :: t, acc => by
    rw [spl10_cons]
    by_cases h : c = 10
    · rw [if_pos h]
      obtain ⟨h1, h2, h3, h4⟩ := spl10_facts t []
      refine ⟨by simp, by simp only [List.length_cons]; omega, by simp only [List.flatten_cons, List.length_append, List.length_cons]; simp only [List.length_nil] at h3; omega, ?_⟩
      intro p hp d hd
      rcases List.mem_cons.mp hp with rfl | hp
      · exact .inl hd
      · rcases h4 p hp d hd with z | z
        · cases z
        · exact .inr ⟨List.mem_cons_of_mem _ z.1, z.2⟩
    · rw [if_neg h]
      obtain ⟨h1, h2, h3, h4⟩ := spl10_facts t (acc ++ [c])
      refine ⟨h1, by simp only [List.length_cons]; omega, by simp only [List.length_append, List.length_cons, List.length_nil] at h3 ⊢; omega, ?_⟩
      intro p hp d hd
      rcases h4 p hp d hd with z | z
      · rcases List.mem_append.mp z with z | z
        · exact .inl z
        · rw [List.mem_singleton] at z
          subst z
          exact .inr ⟨List.mem_cons_self, h⟩
      · exact .inr ⟨List.mem_cons_of_mem _ z.1, z.2⟩
theorem nl_eq : ("\n" : Str) = SS [10] := by decide +kernel
theorem split_nl {t : List Nat} (h : t.length ≤ 1000000) : D.split (SS t) (.str "\n") = some (.lst ((linesOf t).map D.st)) := by
  rw [nl_eq]
  show (if decide (((SS [10]).length == 0) = false ∧ (SS t).length + 2 ≤ sizeLine) = true then some (D.lst ((Txt.split (SS t) (SS [10])).map .str)) else none) = _
  have hs : (1000002 : Nat) ≤ sizeLine := by decide
  have e : Txt.split (SS t) (SS [10]) = (linesOf t).map SS := SX.split_S (by simp) (by decide)
  rw [if_pos (decide_eq_true ⟨by rw [SS_len]; rfl, by rw [SS_len]; omega⟩), e, List.map_map]
  rfl
theorem ix_last {ds : List D} (h : ds ≠ []) : D.ix (.lst ds) (.int (-1)) = some (ds.getLast h) := by
  show atI ds (-1) = _
  have hl : 0 < ds.length := List.length_pos_iff.mpr h
  unfold atI ixN
  rw [if_neg (by omega), if_pos (by omega), Option.bind_some]
  rw [show ((-1 : Int) + (ds.length : Int)).toNat = ds.length - 1 by omega, List.getElem?_eq_getElem (by omega), List.getLast_eq_getElem]
theorem slice_dl {ds : List D} : D.slice none (some (-1)) (.lst ds) = some (.lst ds.dropLast) := by
  show some (D.lst (cutD ds none (some (-1)))) = _
  have e : HT.sIx ds.length ds.length (some (-1)) = ds.length - 1 := by
    show (if (-1 : Int) < 0 then ((-1 : Int) + (ds.length : Int)).toNat else min (-1 : Int).toNat ds.length) = _
    rw [if_pos (by omega)]
    omega
  unfold cutD
  rw [e, HT.sIx_none, List.drop_zero, Nat.sub_zero, List.dropLast_eq_take]
/-- a loop that raises at the first -/
theorem forL_raise {α : Type} {f : α → D} {g : D → M Unit} {body : M Flow} (I : SEnv → Prop) (p : α → Option Exn) : ∀ (js : List α) (Γ : SEnv), (∀ j ∈ js, ∀ Γ, I Γ → ∃ Γ1 Γ2, g (f j) Γ = .ok () Γ1 ∧ I Γ2 ∧ ((p j = none ∧ body Γ1 = .ok .nx Γ2) ∨ ∃ x, p j = some x ∧ body Γ1 = .er x Γ2)) → I Γ →
    ∃ Γ', I Γ' ∧ ((js.findSome? p = none ∧ forL g body (js.map f) Γ = .ok .nx Γ') ∨ ∃ x, js.findSome? p = some x ∧ forL g body (js.map f) Γ = .er x Γ')
  | [], Γ, _, q => ⟨Γ, q, .inl ⟨rfl, rfl⟩⟩
  | j :: js, Γ, h, q => by
    obtain ⟨Γ1, Γ2, e1, q2, e2⟩ := h j List.mem_cons_self Γ q
    rw [List.map_cons, List.findSome?_cons]
    rcases e2 with ⟨hp, e2⟩ | ⟨x, hp, e2⟩
    · rw [hp]
      obtain ⟨Γ', q3, e3⟩ := forL_raise I p js Γ2 (fun y hy => h y (List.mem_cons_of_mem _ hy)) q2
      refine ⟨Γ', q3, ?_⟩
      rw [forL_go e1 e2]
      exact e3
    · rw [hp]
      refine ⟨Γ2, q2, .inr ⟨x, rfl, ?_⟩⟩
      unfold forL bnd
      simp only [e1, bnd, e2]
theorem numD_map (ls : List (List Nat)) : numD 0 (ls.map D.st) = (List.range ls.length).map fun (i : Nat) => D.tup [.int i, .st (ls.getD i [])] := by
  refine List.ext_getElem? fun i => ?_
  rw [List.getElem?_map]
  by_cases h : i < ls.length
  · rw [List.getElem?_range h]
    have hl : ∀ (ds : List D) (k : Nat), (numD k ds).length = ds.length := fun ds => by
      induction ds with
      | nil => intro k; rfl
      | cons d ds ih => intro k; rw [numD, List.length_cons, ih, List.length_cons]
    obtain ⟨z, hz⟩ : ∃ z, (numD 0 (ls.map D.st))[i]? = some z := ⟨_, List.getElem?_eq_getElem (by rw [hl, List.length_map]; exact h)⟩
    obtain ⟨d, e1, e2⟩ := numD_get hz
    rw [hz, e2]
    rw [List.getElem?_map, List.getElem?_eq_getElem h] at e1
    cases e1
    rw [Option.map_some, List.getD_eq_getElem?_getD, List.getElem?_eq_getElem h, Nat.zero_add]
    rfl
  · have hl : ∀ (ds : List D) (k : Nat), (numD k ds).length = ds.length := fun ds => by
      induction ds with
      | nil => intro k; rfl
      | cons d ds ih => intro k; rw [numD, List.length_cons, ih, List.length_cons]
    rw [List.getElem?_eq_none (by rw [hl, List.length_map]; omega), List.getElem?_eq_none (by rw [List.length_range]; omega)]
    rfl
theorem enum_lines {m : M D} {Γ Γ' : SEnv} {ls : List (List Nat)} (h : m Γ = .ok (.lst (ls.map D.st)) Γ') : enumM m Γ = .ok ((List.range ls.length).map fun (i : Nat) => D.tup [.int i, .st (ls.getD i [])]) Γ' := by
  unfold enumM bnd
  rw [h, ← numD_map]
  rfl
theorem flat_mem_len {ls : List (List Nat)} {p : List Nat} (h : p ∈ ls) : p.length ≤ ls.flatten.length := by
  induction ls with
  | nil => cases h
  | cons q ls ih =>
    rw [List.flatten_cons, List.length_append]
    rcases List.mem_cons.mp h with rfl | h
    · omega
    · have := ih h
      omega
end DL
set_option Elab.async false
set_option linter.all false
set_option maxRecDepth 100000
set_option maxHeartbeats 4000000
set_option autoImplicit false
namespace DL.K70
open PySem L2 DL
/-! ### a text's due answer -/
def badB (n : Nat) (r : List Nat) : Bool := decide (r = []) || (decide (r.length ≠ n) || !r.all lowB)
def badAt (b : List (List Nat)) : Option Nat := (List.range b.length).findSome? fun i => if badB (b.getD 0 []).length (b.getD i []) = true then some i else none
abbrev tx (d : D) : D := .tup [.str "text", d]
def rd (ls : List (List Nat)) : Sum D D :=
  if (!decide (ls.getLast?.getD [] = []) || !(decide (2 ≤ ls.length) && decide (ls.length ≤ 1001))) = true then .inl (.str "lines")
  else match badAt ls.dropLast with
    | some i => .inl (.int i)
    | none => if decide (ls.dropLast.length * (ls.dropLast.getD 0 []).length > 1000) = true then .inl (.str "size") else .inr (.bd (ls.dropLast.getD 0 []).length ls.dropLast.length ls.dropLast.reverse.flatten)
def dueD (ls : List (List Nat)) : D := match rd ls with
  | .inl p => tx p
  | .inr v => v
/-- lines that may be read -/
structure LL (ls : List (List Nat)) : Prop where
  ne : ls ≠ []
  len : ls.length ≤ 500000
  fl : ls.flatten.length ≤ 500000
  tc : ∀ p ∈ ls, TC p
theorem ll_of {t : List Nat} (h : t.length ≤ 400000) (c : TC t) : LL (linesOf t) := by
  obtain ⟨h1, h2, h3, h4⟩ := spl10_facts t []
  refine ⟨h1, ?_, ?_, fun p hp x hx => ?_⟩
  · unfold linesOf
    omega
  · unfold linesOf
    simp only [List.length_nil] at h3
    omega
  · rcases h4 p hp x hx with z | z
    · cases z
    · exact c x z.1
variable {ls : List (List Nat)}
theorem LL.body (L : LL ls) {p : List Nat} (h : p ∈ ls.dropLast) : TC p ∧ p.length ≤ 500000 := by
  have := List.dropLast_subset ls h
  exact ⟨L.tc p this, Nat.le_trans (flat_mem_len this) L.fl⟩
theorem le_ch {a b : Nat} : D.le (.st [a]) (.st [b]) = some (.bl (decide (a ≤ b))) := by
  have e : PySem.W.dataLt (D.st [b]).py (D.st [a]).py = decide (b < a) := by
    show PySem.W.dataLt (.str (SS [b])) (.str (SS [a])) = _
    rw [PySem.W.dataLt_str]
    show decide ([b] < [a]) = decide (b < a)
    rw [Bool.eq_iff_iff, decide_eq_true_iff, decide_eq_true_iff]
    rw [List.cons_lt_cons_iff]
    simp
  have al : PySem.W.alike (D.st [a]).py (D.st [b]).py = true := by simp [D.py, PySem.W.alike]
  unfold D.le D.cmpG D.like D.ltv
  simp only [deep_str, al, e, D.isNon, Bool.and_self, Bool.not_false, if_true]
  congr 2
  rw [Bool.eq_iff_iff]
  simp
theorem aS : ("a" : Str) = SS [97] := by decide +kernel
theorem zS : ("z" : Str) = SS [122] := by decide +kernel
theorem eS : ("" : Str) = SS [] := by decide +kernel
theorem ne_nilL {l : List Nat} : D.ne (.lst (l.map fun c => D.st [c])) (.lst []) = some (.bl (!l.isEmpty)) := by
  have hd : deepOk (.lst (l.map fun c => D.st [c])) = true := by
    have h : ∀ l : List Nat, D.pls (l.map fun c => D.st [c]) = true ∧ PyData.depthAll (D.pys (l.map fun c => D.st [c])) ≤ 1 := fun l => by
      induction l with
      | nil => exact ⟨rfl, by simp [D.pys, PyData.depthAll]⟩
      | cons c l ih =>
        rw [List.map_cons]
        refine ⟨by rw [D.pls, ih.1]; rfl, ?_⟩
        have := ih.2
        simp only [D.pys, PyData.depthAll, D.py, PyData.depth]
        omega
    obtain ⟨h1, h2⟩ := h l
    unfold deepOk
    rw [D.pl, h1, Bool.true_and, decide_eq_true_iff]
    simp only [D.py, PyData.depth]
    omega
  unfold D.ne D.cmpG D.eqv
  rw [hd]
  cases l with
  | nil => rfl
  | cons c l => rfl
/-- [sign for sign in line if not 'a' <= sign <= 'z'] != [] -/
theorem odd_signs {v : Nat} {m : M D} {Γ : SEnv} {l : List Nat} (hm : m Γ = .ok (.st l) Γ) (hv : Γ[v]? = some .no) (hl : l.length ≤ 1000000) :
    asB (bin D.ne (lcM [v] (seqM m) (stS v) (notM (asB (chainM D.le D.le (ret (.str "a")) (vr v) (ret (.str "z"))))) (vr v)) (lstM (nilA))) Γ = .ok (!l.all lowB) Γ := by
  have hlt : v < Γ.length := (List.getElem?_eq_some_iff.mp hv).1
  have e := cb_lc (vs := [v]) (g := stS v) (t := notM (asB (chainM D.le D.le (ret (.str "a")) (vr v) (ret (.str "z"))))) (e := vr v) (Γw := Γ) (fun d => match d with | .str z => !(z.cps.toList).all lowB | _ => false) id (seq_str hm) (savM_one hv rfl) (by rw [wipM_one hv (fun e z => by cases z), set_get hv]) (by
    intro d hd
    obtain ⟨c, hc, rfl⟩ := List.mem_map.mp hd
    have gs : (Γ.set v (.sh (.st [c])))[v]? = some (.sh (.st [c])) := List.getElem?_set_self hlt
    have e1 : vr v (Γ.set v (.sh (.st [c]))) = .ok (.st [c]) (Γ.set v (.sh (.st [c]))) := by unfold vr; rw [gs]
    have e2 := cb_not (cb_asB (cb_chain (g := D.le) (g' := D.le) (ma := ret (.str "a")) (mc := ret (.str "z")) (a := .st [97]) (c := .st [122]) (by rw [aS]; rfl) e1 le_ch (by rw [zS]; rfl) le_ch))
    refine ⟨Γ.set v (.sh (.st [c])), stS_at hv (fun e z => by cases z), ?_, fun _ => e1, by rw [wipM_one gs (fun e z => by cases z), set_set, set_get hv]⟩
    rw [e2]
    congr 1
    show (!(decide (97 ≤ c) && decide (c ≤ 122))) = !([c].all lowB)
    simp [lowB]) (by rw [List.length_map]; exact hl) (by
    show Γ.set v (Γ.getD v .no) = Γ
    rw [List.getD_eq_getElem?_getD, hv]
    exact set_get hv)
  have em : ((l.map fun c => D.st [c]).filter fun d => match d with | .str z => !(z.cps.toList).all lowB | _ => false).map id = (l.filter fun c => !lowB c).map fun c => D.st [c] := by
    rw [List.map_id, List.filter_map]
    congr 1
    refine List.filter_congr fun c _ => ?_
    show (!([c].all lowB)) = !lowB c
    simp
  rw [em] at e
  refine cb_asB (cb_bin e (cb_lst rfl (by simp)) ?_)
  rw [ne_nilL]
  congr 3
  rw [Bool.eq_iff_iff, List.isEmpty_iff, List.filter_eq_nil_iff, List.all_eq_true]
  simp
end DL.K70
set_option Elab.async false
set_option linter.all false
set_option maxRecDepth 100000
set_option maxHeartbeats 4000000
set_option autoImplicit false
namespace DL.K70
open PySem L2 DL
variable {ls : List (List Nat)}
theorem len_lines : D.len [.lst (ls.map D.st)] = some (.int (ls.length : Int)) := by
  show some (D.int ((ls.map D.st).length : Int)) = _
  rw [List.length_map]
theorem ix_lines {i : Nat} (h : i < ls.length) : D.ix (.lst (ls.map D.st)) (.int (i : Int)) = some (.st (ls.getD i [])) := by
  show atI (ls.map D.st) (i : Int) = _
  rw [atI_nat (v := D.st (ls.getD i [])) (by
    rw [List.getElem?_map, List.getElem?_eq_getElem h, List.getD_eq_getElem?_getD, List.getElem?_eq_getElem h]
    rfl)]
theorem ix_lines_last (h : ls ≠ []) : D.ix (.lst (ls.map D.st)) (.int (-1)) = some (.st (ls.getLast?.getD [])) := by
  have h' : ls.map D.st ≠ [] := by simpa using h
  rw [ix_last h', List.getLast_map, List.getLast?_eq_some_getLast h]
  rfl
theorem slice_lines : D.slice none (some (-1)) (.lst (ls.map D.st)) = some (.lst (ls.dropLast.map D.st)) := by
  rw [slice_dl, List.map_dropLast]
theorem head_body (h : 2 ≤ ls.length) : ls.getD 0 [] = ls.dropLast.getD 0 [] := by
  match ls, h with
  | a :: b :: r, _ => rfl
/-- the first test, of either def -/
theorem lines_test {Γ : SEnv} {m c : M D} (L : LL ls) (hm : m Γ = .ok (.lst (ls.map D.st)) Γ) (hc : c Γ = .ok (.int 1000) Γ) :
    orM (asB (bin D.ne (bin D.ix m (revM D.neg (ret (.int 1)))) (ret (.str "")))) (notM (asB (chainM D.le D.le (ret (.int 1)) (bin D.sub (appM D.len (consA m (nilA))) (ret (.int 1))) c))) Γ
      = .ok (!decide (ls.getLast?.getD [] = []) || !(decide (2 ≤ ls.length) && decide (ls.length ≤ 1001))) Γ := by
  refine cb_ors (cb_asB (cb_bin (cb_bin hm (cb_rev rfl rfl) (ix_lines_last L.ne)) (show ret (D.str "") Γ = .ok (D.st []) Γ by rw [eS]; rfl) ne_ss)) (cb_not (cb_asB ?_))
  have e1 : bin D.sub (appM D.len (consA m (nilA))) (ret (.int 1)) Γ = .ok (.int ((ls.length : Int) - 1)) Γ := cb_bin (cb_app (cb_cons hm rfl) len_lines) rfl sub_ii
  have h := cb_chain (g := D.le) (g' := D.le) (ma := ret (.int 1)) (Γ := Γ) rfl e1 le_ii hc le_ii
  rw [h]
  congr 2
  rw [Bool.eq_iff_iff]
  simp only [Bool.and_eq_true, decide_eq_true_eq]
  omega
theorem eq_e {l : List Nat} : D.eq (.st l) (.str "") = some (.bl (decide (l = []))) := by
  rw [eS]
  exact eq_ss
/-- a line's test, of either def: o the test of its signs -/
theorem line_test {Γ : SEnv} {m f : M D} {o : M Bool} {l : List Nat} {n : Nat} (hm : m Γ = .ok (.st l) Γ) (hl : l.length ≤ 1000000) (hf : f Γ = .ok (.int (n : Int)) Γ) (ho : o Γ = .ok (!l.all lowB) Γ) :
    orM (asB (bin D.eq m (ret (.str "")))) (orM (asB (bin D.ne (appM D.len (consA m (nilA))) f)) o) Γ = .ok (badB n l) Γ := by
  unfold badB
  have e : (!decide (l.length = n)) = decide (l.length ≠ n) := by simp
  rw [← e]
  exact cb_ors (cb_asB (cb_bin hm rfl eq_e)) (cb_ors (cb_asB (cb_bin (cb_app (cb_cons hm rfl) (len_st hl)) hf ne_nat)) ho)
theorem gt_nn {a b : Nat} : D.gt (.int (a : Int)) (.int (b : Int)) = some (.bl (decide (a > b))) := by
  rw [gt_ii]
  congr 2
  rw [Bool.eq_iff_iff]; simp
theorem rev_join {b : List (List Nat)} (h : b.flatten.length ≤ 1000000) : D.join "" (.lst (b.map D.st).reverse) = some (.st b.reverse.flatten) := by
  rw [← List.map_reverse]
  refine join_st ?_
  have : b.reverse.flatten.length = b.flatten.length := by
    rw [List.length_flatten, List.length_flatten, List.map_reverse, List.sum_reverse]
  omega
theorem body_flat (L : LL ls) : ls.dropLast.flatten.length ≤ 500000 := by
  have h := L.fl
  have e : ls = ls.dropLast ++ [ls.getLast L.ne] := (List.dropLast_concat_getLast L.ne).symm
  rw [e, List.flatten_append, List.length_append] at h
  omega
theorem body_at (L : LL ls) {i : Nat} (h : i < ls.dropLast.length) : TC (ls.dropLast.getD i []) ∧ (ls.dropLast.getD i []).length ≤ 500000 := by
  have : ls.dropLast.getD i [] ∈ ls.dropLast := by
    rw [List.getD_eq_getElem?_getD, List.getElem?_eq_getElem h]
    exact List.getElem_mem h
  exact L.body this
/-- the first test's outcome -/
def t0 (ls : List (List Nat)) : Bool := !decide (ls.getLast?.getD [] = []) || !(decide (2 ≤ ls.length) && decide (ls.length ≤ 1001))
theorem t0_len (h : t0 ls = false) : 2 ≤ ls.length ∧ ls.length ≤ 1001 := by
  unfold t0 at h
  rw [Bool.or_eq_false_iff] at h
  have := h.2
  rw [Bool.not_eq_false', Bool.and_eq_true, decide_eq_true_eq, decide_eq_true_eq] at this
  exact this
theorem rd_t (h : t0 ls = true) : rd ls = .inl (.str "lines") := by
  unfold rd
  exact if_pos h
theorem rd_f (h : t0 ls = false) : rd ls = match badAt ls.dropLast with
    | some i => .inl (.int i)
    | none => if decide (ls.dropLast.length * (ls.dropLast.getD 0 []).length > 1000) = true then .inl (.str "size") else .inr (.bd (ls.dropLast.getD 0 []).length ls.dropLast.length ls.dropLast.reverse.flatten) := by
  unfold rd
  exact if_neg (by unfold t0 at h; rw [h]; simp)
theorem find_bad {X : Nat → D} {b : List (List Nat)} : (List.range b.length).findSome? (fun i => if badB (b.getD 0 []).length (b.getD i []) = true then some (X i) else none) = (badAt b).map X := by
  unfold badAt
  generalize List.range b.length = js
  induction js with
  | nil => rfl
  | cons j js ih =>
    rw [List.findSome?_cons, List.findSome?_cons]
    cases badB (b.getD 0 []).length (b.getD j []) with
    | true => rfl
    | false => exact ih
theorem find_badX {X : Nat → Exn} {b : List (List Nat)} : (List.range b.length).findSome? (fun i => if badB (b.getD 0 []).length (b.getD i []) = true then some (X i) else none) = (badAt b).map X := by
  unfold badAt
  generalize List.range b.length = js
  induction js with
  | nil => rfl
  | cons j js ih =>
    rw [List.findSome?_cons, List.findSome?_cons]
    cases badB (b.getD 0 []).length (b.getD j []) with
    | true => rfl
    | false => exact ih
theorem r_due {t : List Nat} (ht : t.length ≤ 400000) (c : TC t) : fnM 5 m__law_due [.sh (.st t)] = .ok (dueD (linesOf t)) [.sh (.st t)] := by
  have L := ll_of ht c
  have hsp := split_nl (t := t) (by omega)
  generalize linesOf t = ls at L hsp
  have d1 : asgM (strM D.split (vr 0) (ret (.str "\n"))) (stS 1) [.sh (.st t), .no, .no, .no, .no] = .ok .nx [.sh (.st t), .sh (.lst (ls.map D.st)), .no, .no, .no] := cb_asg (cb_str rfl rfl hsp) rfl
  have t2 := lines_test (Γ := [.sh (.st t), .sh (.lst (ls.map D.st)), .no, .no, .no]) (m := vr 1) (c := ret (.int 1000)) L rfl rfl
  change _ = Res.ok (t0 ls) _ at t2
  unfold dueD
  cases hb : t0 ls with
  | true =>
    rw [hb] at t2
    rw [rd_t hb]
    refine fnM_rt (Δ := [.sh (.st t), .sh (.lst (ls.map D.st)), .no, .no, .no]) ?_ rfl
    show m__law_due [.sh (.st t), .no, .no, .no, .no] = _
    unfold m__law_due
    exact (sq_nx d1).trans (sq_rt (cb_it t2 (cb_rt (cb_tup (cb_cons rfl (cb_cons rfl rfl)) (by simp)))))
  | false =>
    rw [hb] at t2
    rw [rd_f hb]
    obtain ⟨l1, l2⟩ := t0_len hb
    have i0 : D.ix (.lst (ls.map D.st)) (.int 0) = some (.st (ls.dropLast.getD 0 [])) := by
      have := ix_lines (ls := ls) (i := 0) (by omega)
      rw [head_body l1] at this
      exact this
    have hbl : 0 < ls.dropLast.length := by rw [List.length_dropLast]; omega
    have h0 := body_at L hbl
    have bf := body_flat L
    have dl : ls.dropLast.length = ls.length - 1 := List.length_dropLast
    generalize hB : ls.dropLast = B at i0 h0 bf hbl dl
    have hbody : ∀ i, i < B.length → TC (B.getD i []) ∧ (B.getD i []).length ≤ 500000 := fun i hi => by
      rw [← hB] at hi ⊢
      exact body_at L hi
    obtain ⟨Γ', ⟨a, b, rfl⟩, e⟩ := find_loop (α := Nat) (f := fun (i : Nat) => D.tup [.int i, .st (B.getD i [])]) (g := gtM 2 (unp1 (stS 2) (unp1 (stS 3) unp0))) (mi := enumM (sliceM (vr 1) (ret none) (someI (revM D.neg (ret (.int 1)))))) (js := List.range B.length)
      (body := ifM (orM (asB (bin D.eq (vr 3) (ret (.str "")))) (orM (asB (bin D.ne (appM D.len (consA (vr 3) (nilA))) (appM D.len (consA (bin D.ix (vr 1) (ret (.int 0))) (nilA))))) (asB (bin D.ne (lcM [4] (seqM (vr 3)) (stS 4) (notM (asB (chainM D.le D.le (ret (.str "a")) (vr 4) (ret (.str "z"))))) (vr 4)) (lstM (nilA)))))) (rtM (tupM (consA (ret (.str "text")) (consA (vr 2) (nilA))))) (ret .nx))
      (Γ := [.sh (.st t), .sh (.lst (ls.map D.st)), .no, .no, .no]) (Γ1 := [.sh (.st t), .sh (.lst (ls.map D.st)), .no, .no, .no]) (fun Γ => ∃ a b, Γ = [.sh (.st t), .sh (.lst (ls.map D.st)), osl a, osl b, .no])
      (fun i => if badB (B.getD 0 []).length (B.getD i []) = true then some (tx (.int i)) else none) (enum_lines (ls := B) (cb_slice rfl rfl (cb_some (cb_rev rfl rfl)) (by rw [← hB]; exact slice_lines))) ⟨none, none, rfl⟩ (by
        rintro i hi Γ ⟨a, b, rfl⟩
        rw [List.mem_range] at hi
        have hbi := hbody i hi
        refine ⟨[.sh (.st t), .sh (.lst (ls.map D.st)), .sh (.int i), .sh (.st (B.getD i [])), .no], _, by cases a <;> cases b <;> rfl, ⟨some (.int i), some (.st (B.getD i [])), rfl⟩, ?_⟩
        exact flow_if (line_test (m := vr 3) rfl (by omega) (cb_app (cb_cons (cb_bin rfl rfl i0) rfl) (len_st (by omega))) (odd_signs (v := 4) (m := vr 3) rfl rfl (by omega))) (cb_rt (cb_tup (cb_cons rfl (cb_cons rfl rfl)) (by simp))) rfl)
    rw [find_bad (X := fun i => tx (.int (i : Int)))] at e
    have tm : D.mul (.int ((ls.length : Int) - 1)) (.int ((B.getD 0 []).length : Int)) = some (.int ((B.length * (B.getD 0 []).length : Nat) : Int)) := by
      rw [show (ls.length : Int) - 1 = (B.length : Int) by omega]
      exact mul_nn (by omega) (by omega)
    have t4 : asB (bin D.gt (bin D.mul (bin D.sub (appM D.len (consA (vr 1) (nilA))) (ret (.int 1))) (appM D.len (consA (bin D.ix (vr 1) (ret (.int 0))) (nilA)))) (ret (.int 1000))) [.sh (.st t), .sh (.lst (ls.map D.st)), osl a, osl b, .no] = .ok (decide (B.length * (B.getD 0 []).length > 1000)) [.sh (.st t), .sh (.lst (ls.map D.st)), osl a, osl b, .no] :=
      cb_asB (cb_bin (cb_bin (cb_bin (cb_app (cb_cons rfl rfl) len_lines) rfl sub_ii) (cb_app (cb_cons (cb_bin rfl rfl i0) rfl) (len_st (by omega))) tm) rfl (gt_nn (b := 1000)))
    refine fnM_rt (Δ := [.sh (.st t), .sh (.lst (ls.map D.st)), osl a, osl b, .no]) ?_ (by cases a <;> cases b <;> rfl)
    show m__law_due [.sh (.st t), .no, .no, .no, .no] = _
    unfold m__law_due
    cases hz : badAt B with
    | some i =>
      rw [hz] at e
      exact (sq_nx d1).trans ((sq_nx (cb_ie t2 rfl)).trans (sq_rt e))
    | none =>
      rw [hz] at e
      refine (sq_nx d1).trans ((sq_nx (cb_ie t2 rfl)).trans ((sq_nx e).trans ?_))
      cases hs : decide (B.length * (B.getD 0 []).length > 1000) with
      | true =>
        rw [hs] at t4
        exact sq_rt (cb_it t4 (cb_rt (cb_tup (cb_cons rfl (cb_cons rfl rfl)) (by simp))))
      | false =>
        rw [hs] at t4
        refine (sq_nx (cb_ie t4 rfl)).trans (cb_rt ?_)
        have k2 : bin D.sub (appM D.len (consA (vr 1) (nilA))) (ret (.int 1)) [.sh (.st t), .sh (.lst (ls.map D.st)), osl a, osl b, .no] = .ok (.int (B.length : Int)) [.sh (.st t), .sh (.lst (ls.map D.st)), osl a, osl b, .no] := by
          refine cb_bin (cb_app (cb_cons rfl rfl) len_lines) rfl ?_
          rw [sub_ii, show (ls.length : Int) - 1 = (B.length : Int) by omega]
        have k3 : strM D.join (ret (.str "")) (revM D.revL (sliceM (vr 1) (ret none) (someI (revM D.neg (ret (.int 1)))))) [.sh (.st t), .sh (.lst (ls.map D.st)), osl a, osl b, .no] = .ok (.st B.reverse.flatten) [.sh (.st t), .sh (.lst (ls.map D.st)), osl a, osl b, .no] :=
          cb_str rfl (cb_rev (cb_slice rfl rfl (cb_some (cb_rev rfl rfl)) slice_lines) (by rw [hB]; rfl)) (rev_join (by omega))
        exact cb_tup (cb_cons (cb_app (cb_cons (cb_bin rfl rfl i0) rfl) (len_st (by omega))) (cb_cons k2 (cb_cons k3 rfl))) (by simp)
theorem r_read {t : List Nat} (ht : t.length ≤ 400000) (c : TC t) : fnM 6 m_read_band [.sh (.st t)] = match rd (linesOf t) with
    | .inl p => .er ⟨"BadText", "place", p⟩ [.sh (.st t)]
    | .inr v => .ok v [.sh (.st t)] := by
  have L := ll_of ht c
  have hsp := split_nl (t := t) (by omega)
  generalize linesOf t = ls at L hsp
  have d0 : ifM (notM (asB (isiM "str" (vr 0)))) (raiseM "BadText" "place" (ret .non)) (ret .nx) [.sh (.st t), .no, .no, .no, .no, .no] = .ok .nx [.sh (.st t), .no, .no, .no, .no, .no] := cb_ie (cb_nt (cb_asB (cb_isi rfl isS))) rfl
  have d1 : asgM (strM D.split (vr 0) (ret (.str "\n"))) (stS 1) [.sh (.st t), .no, .no, .no, .no, .no] = .ok .nx [.sh (.st t), .sh (.lst (ls.map D.st)), .no, .no, .no, .no] := cb_asg (cb_str rfl rfl hsp) rfl
  have t2 := lines_test (Γ := [.sh (.st t), .sh (.lst (ls.map D.st)), .no, .no, .no, .no]) (m := vr 1) (c := ret cD_MOST_CELLS) L rfl rfl
  change _ = Res.ok (t0 ls) _ at t2
  cases hb : t0 ls with
  | true =>
    rw [hb] at t2
    rw [rd_t hb]
    refine fnM_er (Δ := [.sh (.st t), .sh (.lst (ls.map D.st)), .no, .no, .no, .no]) ?_ rfl
    show m_read_band [.sh (.st t), .no, .no, .no, .no, .no] = _
    unfold m_read_band
    exact (sq_nx d0).trans ((sq_nx d1).trans (sq_er (cb_it t2 (cb_raise rfl))))
  | false =>
    rw [hb] at t2
    rw [rd_f hb]
    obtain ⟨l1, l2⟩ := t0_len hb
    have hbl : 0 < ls.dropLast.length := by rw [List.length_dropLast]; omega
    have h0 := body_at L hbl
    have bf := body_flat L
    have dl : ls.dropLast.length = ls.length - 1 := List.length_dropLast
    have d3 : asgM (sliceM (vr 1) (ret none) (someI (revM D.neg (ret (.int 1))))) (stS 2) [.sh (.st t), .sh (.lst (ls.map D.st)), .no, .no, .no, .no] = .ok .nx [.sh (.st t), .sh (.lst (ls.map D.st)), .sh (.lst (ls.dropLast.map D.st)), .no, .no, .no] :=
      cb_asg (cb_slice rfl rfl (cb_some (cb_rev rfl rfl)) slice_lines) rfl
    generalize hB : ls.dropLast = B at h0 bf hbl dl d3
    have i0 : D.ix (.lst (B.map D.st)) (.int 0) = some (.st (B.getD 0 [])) := ix_lines (ls := B) (i := 0) hbl
    have hbody : ∀ i, i < B.length → TC (B.getD i []) ∧ (B.getD i []).length ≤ 500000 := fun i hi => by
      rw [← hB] at hi ⊢
      exact body_at L hi
    have hloop := forL_raise (α := Nat) (f := fun (i : Nat) => D.tup [.int i, .st (B.getD i [])]) (g := gtM 2 (unp1 (stS 3) (unp1 (stS 4) unp0)))
      (body := ifM (orM (asB (bin D.eq (vr 4) (ret (.str "")))) (orM (asB (bin D.ne (appM D.len (consA (vr 4) (nilA))) (appM D.len (consA (bin D.ix (vr 2) (ret (.int 0))) (nilA))))) (notM (asB (appM D.all (consA (lcM [5] (seqM (vr 4)) (stS 5) (ret true) (bin D.isin (vr 5) (ret cD_SMALL))) (nilA))))))) (raiseM "BadText" "place" (vr 3)) (ret .nx))
      (fun Γ => ∃ a b, Γ = [.sh (.st t), .sh (.lst (ls.map D.st)), .sh (.lst (B.map D.st)), osl a, osl b, .no])
      (fun i => if badB (B.getD 0 []).length (B.getD i []) = true then some (Exn.mk "BadText" "place" (.int i)) else none) (List.range B.length) [.sh (.st t), .sh (.lst (ls.map D.st)), .sh (.lst (B.map D.st)), .no, .no, .no] (by
        rintro i hi Γ ⟨a, b, rfl⟩
        rw [List.mem_range] at hi
        have hbi := hbody i hi
        refine ⟨[.sh (.st t), .sh (.lst (ls.map D.st)), .sh (.lst (B.map D.st)), .sh (.int i), .sh (.st (B.getD i [])), .no], _, by cases a <;> cases b <;> rfl, ⟨some (.int i), some (.st (B.getD i [])), rfl⟩, ?_⟩
        have lt := line_test (Γ := [.sh (.st t), .sh (.lst (ls.map D.st)), .sh (.lst (B.map D.st)), .sh (.int i), .sh (.st (B.getD i [])), .no]) (m := vr 4) (l := B.getD i []) (n := (B.getD 0 []).length) (f := appM D.len (consA (bin D.ix (vr 2) (ret (.int 0))) (nilA))) rfl (by omega) (cb_app (cb_cons (cb_bin rfl rfl i0) rfl) (len_st (by omega))) (cb_not (cb_asB (all_small (v := 5) (m := vr 4) rfl rfl hbi.1 (by omega))))
        cases hbb : badB (B.getD 0 []).length (B.getD i []) with
        | true =>
          rw [hbb] at lt
          exact .inr ⟨_, rfl, cb_it lt (cb_raise rfl)⟩
        | false =>
          rw [hbb] at lt
          exact .inl ⟨rfl, cb_ie lt rfl⟩) ⟨none, none, rfl⟩
    obtain ⟨Γ', ⟨a, b, rfl⟩, e⟩ := hloop
    rw [find_badX (X := fun i => Exn.mk "BadText" "place" (.int (i : Int)))] at e
    have hi : enumM (vr 2) [.sh (.st t), .sh (.lst (ls.map D.st)), .sh (.lst (B.map D.st)), .no, .no, .no] = .ok ((List.range B.length).map fun (i : Nat) => D.tup [.int i, .st (B.getD i [])]) [.sh (.st t), .sh (.lst (ls.map D.st)), .sh (.lst (B.map D.st)), .no, .no, .no] := enum_lines rfl
    have tm : D.mul (.int (B.length : Int)) (.int ((B.getD 0 []).length : Int)) = some (.int ((B.length * (B.getD 0 []).length : Nat) : Int)) := mul_nn (by omega) (by omega)
    have t4 : asB (bin D.gt (bin D.mul (appM D.len (consA (vr 2) (nilA))) (appM D.len (consA (bin D.ix (vr 2) (ret (.int 0))) (nilA)))) (ret cD_MOST_CELLS)) [.sh (.st t), .sh (.lst (ls.map D.st)), .sh (.lst (B.map D.st)), osl a, osl b, .no] = .ok (decide (B.length * (B.getD 0 []).length > 1000)) [.sh (.st t), .sh (.lst (ls.map D.st)), .sh (.lst (B.map D.st)), osl a, osl b, .no] :=
      cb_asB (cb_bin (cb_bin (cb_app (cb_cons rfl rfl) len_lines) (cb_app (cb_cons (cb_bin rfl rfl i0) rfl) (len_st (by omega))) tm) rfl (gt_nn (b := 1000)))
    cases hz : badAt B with
    | some i =>
      rw [hz] at e
      rcases e with ⟨e, _⟩ | ⟨x, ex, e⟩
      · cases e
      · cases ex
        refine fnM_er (Δ := [.sh (.st t), .sh (.lst (ls.map D.st)), .sh (.lst (B.map D.st)), osl a, osl b, .no]) ?_ (by cases a <;> cases b <;> rfl)
        show m_read_band [.sh (.st t), .no, .no, .no, .no, .no] = _
        unfold m_read_band
        exact (sq_nx d0).trans ((sq_nx d1).trans ((sq_nx (cb_ie t2 rfl)).trans ((sq_nx d3).trans (sq_er ((for_ok hi).trans e)))))
    | none =>
      rw [hz] at e
      rcases e with ⟨_, e⟩ | ⟨x, ex, _⟩
      · cases hs : decide (B.length * (B.getD 0 []).length > 1000) with
        | true =>
          rw [hs] at t4
          refine fnM_er (Δ := [.sh (.st t), .sh (.lst (ls.map D.st)), .sh (.lst (B.map D.st)), osl a, osl b, .no]) ?_ (by cases a <;> cases b <;> rfl)
          show m_read_band [.sh (.st t), .no, .no, .no, .no, .no] = _
          unfold m_read_band
          exact (sq_nx d0).trans ((sq_nx d1).trans ((sq_nx (cb_ie t2 rfl)).trans ((sq_nx d3).trans ((sq_nx ((for_ok hi).trans e)).trans (sq_er (cb_it t4 (cb_raise rfl)))))))
        | false =>
          rw [hs] at t4
          refine fnM_rt (Δ := [.sh (.st t), .sh (.lst (ls.map D.st)), .sh (.lst (B.map D.st)), osl a, osl b, .no]) ?_ (by cases a <;> cases b <;> rfl)
          show m_read_band [.sh (.st t), .no, .no, .no, .no, .no] = _
          unfold m_read_band
          refine (sq_nx d0).trans ((sq_nx d1).trans ((sq_nx (cb_ie t2 rfl)).trans ((sq_nx d3).trans ((sq_nx ((for_ok hi).trans e)).trans ((sq_nx (cb_ie t4 rfl)).trans (cb_rt ?_))))))
          exact cb_tup (cb_cons (cb_app (cb_cons (cb_bin rfl rfl i0) rfl) (len_st (by omega))) (cb_cons (cb_app (cb_cons rfl rfl) len_lines) (cb_cons (cb_str rfl (cb_rev rfl rfl) (rev_join (by omega))) rfl))) (by simp)
      · cases ex
theorem r_lread {t : List Nat} (ht : t.length ≤ 400000) (c : TC t) : fnM 3 m__law_read [.sh (.st t)] = .ok (dueD (linesOf t)) [.sh (.st t)] := by
  have rr := r_read ht c
  have a1 : asgM (tupM (nilA)) (stS 1) [.sh (.st t), .no, .no] = .ok .nx [.sh (.st t), .sh (.tup []), .no] := cb_asg (cb_tup rfl (by simp)) rfl
  unfold dueD
  cases hz : rd (linesOf t) with
  | inl p =>
    rw [hz] at rr
    have a2 : tryM 2 (clB "BadText") (asgM (callM (fnM 6 m_read_band) (permA (permI [0]) (consA (vr 0) (nilA)))) (stS 1)) (fun x => asgM (tupM (consA (ret (.str "text")) (consA (attM "BadText" "place" x) nilA))) (stS 1)) [.sh (.st t), .sh (.tup []), .no] = .ok .nx [.sh (.st t), .sh (tx p), .no] :=
      cb_try_er (cb_asg_er (cb_call_er (ds := [.st t]) (cb_perm (ds := [.st t]) rfl) rr)) clB_self rfl (cb_asg (cb_tup (cb_cons rfl (cb_cons (cb_att rfl rfl) rfl)) (by simp)) rfl) rfl
    refine fnM_rt (Δ := [.sh (.st t), .sh (tx p), .no]) ?_ rfl
    show m__law_read [.sh (.st t), .no, .no] = _
    unfold m__law_read
    exact (sq_nx a1).trans ((sq_nx a2).trans rfl)
  | inr v =>
    rw [hz] at rr
    have a2 : tryM 2 (clB "BadText") (asgM (callM (fnM 6 m_read_band) (permA (permI [0]) (consA (vr 0) (nilA)))) (stS 1)) (fun x => asgM (tupM (consA (ret (.str "text")) (consA (attM "BadText" "place" x) nilA))) (stS 1)) [.sh (.st t), .sh (.tup []), .no] = .ok .nx [.sh (.st t), .sh v, .no] :=
      cb_try_ok (cb_asg (cb_call (ds := [.st t]) (cb_perm (ds := [.st t]) rfl) rr) rfl)
    refine fnM_rt (Δ := [.sh (.st t), .sh v, .no]) ?_ rfl
    show m__law_read [.sh (.st t), .no, .no] = _
    unfold m__law_read
    exact (sq_nx a1).trans ((sq_nx a2).trans rfl)
end DL.K70
set_option Elab.async false
set_option linter.all false
set_option maxRecDepth 100000
set_option maxHeartbeats 4000000
set_option autoImplicit false
namespace DL
open PySem L2
theorem wt_int {i : Int} (h : i.natAbs < 2 ^ 40) : (PyData.int i).weight ≤ 40 := by
  simp only [PyData.weight]
  split
  · omega
  · rename_i h0
    have hne : i.natAbs ≠ 0 := by simp at h0; omega
    have := (Nat.log2_lt hne (k := 40)).mpr h
    omega
theorem spl10_part {p q acc : List Nat} (h : 10 ∉ p) : TL.spl [10] 0 acc (p ++ 10 :: q) = (acc ++ p) :: TL.spl [10] 0 [] q := by
  induction p generalizing acc with
  | nil => rw [List.nil_append, spl10_cons, if_pos rfl, List.append_nil]
  | cons c p ih =>
    have hc : c ≠ 10 := fun e => h (by rw [e]; exact List.mem_cons_self)
    rw [List.cons_append, spl10_cons, if_neg hc, ih (fun e => h (List.mem_cons_of_mem _ e)), List.append_assoc]
    rfl
theorem lines_of_rows : ∀ (ls : List (List Nat)), (∀ p ∈ ls, 10 ∉ p) → linesOf ((ls.map fun p => p ++ [10]).flatten) = ls ++ [[]]
  | [], _ => by unfold linesOf; rw [List.map_nil, List.flatten_nil, TL.spl_nil]; rfl
  | p :: ls, h => by
    have ih := lines_of_rows ls fun q hq => h q (List.mem_cons_of_mem _ hq)
    unfold linesOf at ih ⊢
    rw [List.map_cons, List.flatten_cons, List.append_assoc]
    show TL.spl [10] 0 [] (p ++ 10 :: (ls.map fun p => p ++ [10]).flatten) = _
    rw [spl10_part (h p List.mem_cons_self), ih]
    rfl
end DL
namespace DL.K70
open PySem L2 DL
variable {w h : Nat} {l : List Nat}
theorem red_self (v : VB w h l) : ((List.range h).map (rowOf w l)).flatten = l := by
  have e : ((List.range h).map (rowOf w l)).flatten = red w h l w := rfl
  rw [e]
  have rv := red_vb v v.w1 (Nat.le_refl w)
  have hw := v.w1
  refine List.ext_getElem? fun i => ?_
  by_cases hi : i < w * h
  · have hY : i / w < h := Nat.div_lt_of_lt_mul hi
    have hX : i % w < w := Nat.mod_lt _ (by omega)
    have a := red_at v (p := w) (Nat.le_refl w) hY hX
    rw [Nat.div_add_mod'] at a
    exact a
  · rw [List.getElem?_eq_none (by rw [rv.len]; omega), List.getElem?_eq_none (by rw [v.len]; omega)]
/-- the rows, the last first -/
def rowsD (w h : Nat) (l : List Nat) : List (List Nat) := (List.range h).map fun i => rowOf w l (h - 1 - i)
def bt (w h : Nat) (l : List Nat) : List Nat := ((rowsD w h l).map fun p => p ++ [10]).flatten
theorem rowsD_succ : rowsD w (h + 1) l = rowOf w l h :: rowsD w h l := by
  unfold rowsD
  rw [List.range_succ_eq_map, List.map_cons, List.map_map]
  congr 1
  refine List.map_congr_left fun i _ => ?_
  show rowOf w l (h + 1 - 1 - (i + 1)) = rowOf w l (h - 1 - i)
  congr 1
  omega
theorem bt_succ : bt w (h + 1) l = rowOf w l h ++ [10] ++ bt w h l := by
  unfold bt
  rw [rowsD_succ, List.map_cons, List.flatten_cons]
theorem rowsD_rev : (rowsD w h l).reverse = (List.range h).map (rowOf w l) := by
  induction h with
  | zero => rfl
  | succ h ih => rw [rowsD_succ, List.reverse_cons, ih, List.range_succ, List.map_append]; rfl
theorem row_mem (v : VB w h l) {y : Nat} {c : Nat} (hc : c ∈ rowOf w l y) : c ∈ l := by
  unfold rowOf at hc
  exact List.mem_of_mem_drop (List.mem_of_mem_take hc)
theorem bt_mem {c : Nat} (hc : c ∈ bt w h l) : c = 10 ∨ c ∈ l := by
  unfold bt at hc
  rw [List.mem_flatten] at hc
  obtain ⟨q, hq, hc⟩ := hc
  obtain ⟨p, hp, rfl⟩ := List.mem_map.mp hq
  unfold rowsD at hp
  obtain ⟨i, _, rfl⟩ := List.mem_map.mp hp
  rcases List.mem_append.mp hc with z | z
  · unfold rowOf at z
    exact .inr (List.mem_of_mem_drop (List.mem_of_mem_take z))
  · rw [List.mem_singleton] at z
    exact .inl z
theorem bt_tc (c : VC l) : TC (bt w h l) := fun x hx => by
  rcases bt_mem hx with rfl | z
  · decide
  · have := c x z
    omega
theorem bt_len (v : VB w h l) {n : Nat} (hn : n ≤ h) : (bt w n l).length = n * (w + 1) := by
  induction n with
  | zero => simp [bt, rowsD]
  | succ n ih =>
    rw [bt_succ, List.length_append, List.length_append, row_len v (y := n) (by omega), ih (by omega), Nat.succ_mul]
    simp
    omega
theorem bt_lines (c : VC l) : linesOf (bt w h l) = rowsD w h l ++ [[]] := lines_of_rows _ (by
  intro p hp h10
  unfold rowsD at hp
  obtain ⟨i, _, rfl⟩ := List.mem_map.mp hp
  unfold rowOf at h10
  have := c 10 (List.mem_of_mem_drop (List.mem_of_mem_take h10))
  omega)
theorem bt_due (v : VB w h l) (c : VC l) : dueD (linesOf (bt w h l)) = .bd w h l := by
  rw [bt_lines c]
  have hl : (rowsD w h l).length = h := by simp [rowsD]
  have hh := v.h1
  have hh2 := v.h2
  have hw := v.w1
  have hw2 := v.w2
  have f0 : t0 (rowsD w h l ++ [[]]) = false := by
    unfold t0
    rw [List.getLast?_concat, List.length_append, hl, decide_eq_true (show (some ([] : List Nat)).getD [] = [] from rfl), decide_eq_true (show 2 ≤ h + [([] : List Nat)].length by simp; omega), decide_eq_true (show h + [([] : List Nat)].length ≤ 1001 by simp; omega)]
    rfl
  have hd : (rowsD w h l ++ [[]]).dropLast = rowsD w h l := List.dropLast_concat
  have hg : ∀ i, i < h → (rowsD w h l).getD i [] = rowOf w l (h - 1 - i) := fun i hi => by
    rw [List.getD_eq_getElem?_getD]
    unfold rowsD
    rw [List.getElem?_map, List.getElem?_range hi]
    rfl
  have hr : ∀ i, i < h → (rowOf w l (h - 1 - i)).length = w := fun i hi => row_len v (by omega)
  have hbad : badAt (rowsD w h l) = none := by
    unfold badAt
    rw [List.findSome?_eq_none_iff]
    intro i hi
    rw [List.mem_range, hl] at hi
    rw [hg i hi, hg 0 (by omega), hr 0 (by omega)]
    have : badB w (rowOf w l (h - 1 - i)) = false := by
      unfold badB
      have h1 := hr i hi
      have h2 : rowOf w l (h - 1 - i) ≠ [] := fun e => by rw [e] at h1; simp at h1; omega
      have h3 : (rowOf w l (h - 1 - i)).all lowB = true := vc_all.mpr fun x hx => c x (row_mem v hx)
      rw [decide_eq_false h2, h1, h3, decide_eq_false (show ¬ (w ≠ w) by simp)]
      rfl
    rw [this]
    rfl
  have hm : w * h ≤ 1000 := by
    have := Nat.mul_le_mul hw2 hh2
    omega
  unfold dueD
  rw [rd_f f0, hd, hbad]
  simp only
  rw [hl, hg 0 (by omega), hr 0 (by omega), if_neg (by rw [decide_eq_true_eq, Nat.mul_comm]; omega), rowsD_rev, red_self v]
theorem down_tab : ∀ n ∈ List.range 10, D.rangeOf [.int ((n : Int) + 1 - 1), .int (-1), .int (-1)] = some ((List.range (n + 1)).map fun (i : Nat) => D.int (((n + 1 - 1 - i : Nat)) : Int)) := by
  intro n hn
  rw [List.mem_range] at hn
  have : n = 0 ∨ n = 1 ∨ n = 2 ∨ n = 3 ∨ n = 4 ∨ n = 5 ∨ n = 6 ∨ n = 7 ∨ n = 8 ∨ n = 9 := by omega
  rcases this with rfl | rfl | rfl | rfl | rfl | rfl | rfl | rfl | rfl | rfl <;> first | rfl | kernel_rfl
theorem rangeM_down {m : M (List D)} {Γ Γ' : SEnv} (h1 : 1 ≤ h) (h2 : h ≤ 10) (hm : m Γ = .ok [.int ((h : Int) - 1), .int (-1), .int (-1)] Γ') : rangeM m Γ = .ok ((List.range h).map fun (i : Nat) => D.int (((h - 1 - i : Nat)) : Int)) Γ' := by
  obtain ⟨n, rfl⟩ : ∃ n, h = n + 1 := ⟨h - 1, by omega⟩
  have := down_tab n (List.mem_range.mpr (by omega))
  exact rangeM_of hm (by rw [← this]; congr 3)
theorem slice_row (v : VB w h l) {y : Nat} (hy : y < h) : D.slice (some ((y * w : Nat) : Int)) (some ((y * w + w : Nat) : Int)) (.st l) = some (.st (rowOf w l y)) := by
  have hsm := v.small
  have hw := v.w1
  have hc := cell_lt (w := w) hy (i := w - 1) (by omega)
  rw [← v.len] at hc
  have m3 := slice_mid (l := l) (a := y * w) (b := y * w + w) (by omega) (by omega) (by omega)
  rw [show y * w + w - y * w = w by omega] at m3
  exact m3
theorem add_nn {a b : Nat} : D.add (.int (a : Int)) (.int (b : Int)) = some (.int ((a + b : Nat) : Int)) := by rw [add_ii]; congr 2
theorem r_bt (v : VB w h l) (c : VC l) : fnM 7 m_band_text [.sh (.bd w h l)] = .ok (.st (bt w h l)) [.sh (.bd w h l)] := by
  have hw := v.w1
  have hw2 := v.w2
  have hh := v.h1
  have hh2 := v.h2
  have s1 : dropM (callM (fnM 2 m_need_band) (consA (vr 0) (nilA))) [.sh (.bd w h l), .no, .no, .no, .no, .no, .no] = .ok .nx [.sh (.bd w h l), .no, .no, .no, .no, .no, .no] := cb_drop (cb_call (ds := [.bd w h l]) rfl (need_ok v c))
  have s2 : asgM (vr 0) (gtM 3 (unp1 (stS 1) (unp1 (stS 2) (unp1 (stS 3) unp0)))) [.sh (.bd w h l), .no, .no, .no, .no, .no, .no] = .ok .nx [.sh (.bd w h l), .sh (.int w), .sh (.int h), .sh (.st l), .no, .no, .no] := cb_asg rfl rfl
  have e1 := cb_lcm (vs := [5]) (g := stS 5) (Γ := [.sh (.bd w h l), .sh (.int w), .sh (.int h), .sh (.st l), .no, .no, .no]) (Γ1 := [.sh (.bd w h l), .sh (.int w), .sh (.int h), .sh (.st l), .no, .no, .no]) (Γw := [.sh (.bd w h l), .sh (.int w), .sh (.int h), .sh (.st l), .no, .no, .no])
    (mi := rangeM (consA (bin D.sub (vr 2) (ret (.int 1))) (consA (revM D.neg (ret (.int 1))) (consA (revM D.neg (ret (.int 1))) (nilA))))) (e := sliceM (vr 3) (someI (bin D.mul (vr 5) (vr 1))) (someI (bin D.add (bin D.mul (vr 5) (vr 1)) (vr 1)))) (ds := (List.range h).map fun (i : Nat) => D.int (((h - 1 - i : Nat)) : Int))
    (fun d => match d with | .int y => .st (rowOf w l y.toNat) | _ => .non) (rangeM_down hh hh2 (cb_cons (cb_bin rfl rfl sub_ii) (cb_cons (cb_rev rfl rfl) (cb_cons (cb_rev rfl rfl) rfl)))) rfl rfl (by
      intro d hd
      obtain ⟨i, hi, rfl⟩ := List.mem_map.mp hd
      rw [List.mem_range] at hi
      generalize hy : h - 1 - i = y
      have m1 : D.mul (.int (y : Int)) (.int (w : Int)) = some (.int ((y * w : Nat) : Int)) := mul_nn (by omega) (by omega)
      refine ⟨[.sh (.bd w h l), .sh (.int w), .sh (.int h), .sh (.st l), .no, .sh (.int y), .no], rfl, ?_, rfl⟩
      exact cb_slice rfl (cb_some (cb_bin rfl rfl m1)) (cb_some (cb_bin (cb_bin rfl rfl m1) rfl add_nn)) (slice_row v (by omega))) (by simp; omega) rfl
  have em : ((List.range h).map fun (i : Nat) => D.int (((h - 1 - i : Nat)) : Int)).map (fun d => match d with | .int y => .st (rowOf w l y.toNat) | _ => .non) = (rowsD w h l).map D.st := by
    unfold rowsD
    rw [List.map_map, List.map_map]
    exact List.map_congr_left fun i _ => rfl
  rw [em] at e1
  have s3 := cb_asg (g := stS 4) (Γ2 := [.sh (.bd w h l), .sh (.int w), .sh (.int h), .sh (.st l), .sh (.lst ((rowsD w h l).map D.st)), .no, .no]) e1 rfl
  have rl : (rowsD w h l).length = h := by simp [rowsD]
  have e2 := cb_lcm (vs := [6]) (g := stS 6) (Γ := [.sh (.bd w h l), .sh (.int w), .sh (.int h), .sh (.st l), .sh (.lst ((rowsD w h l).map D.st)), .no, .no]) (Γ1 := [.sh (.bd w h l), .sh (.int w), .sh (.int h), .sh (.st l), .sh (.lst ((rowsD w h l).map D.st)), .no, .no]) (Γw := [.sh (.bd w h l), .sh (.int w), .sh (.int h), .sh (.st l), .sh (.lst ((rowsD w h l).map D.st)), .no, .no])
    (mi := seqM (vr 4)) (e := bin D.add (vr 6) (ret (.str "\n"))) (ds := (rowsD w h l).map D.st) (fun d => match d with | .str z => .st (z.cps.toList ++ [10]) | _ => .non) (cb_seqL rfl) rfl rfl (by
      intro d hd
      obtain ⟨p, hp, rfl⟩ := List.mem_map.mp hd
      unfold rowsD at hp
      obtain ⟨i, hi, rfl⟩ := List.mem_map.mp hp
      rw [List.mem_range] at hi
      have hr := row_len v (y := h - 1 - i) (by omega)
      refine ⟨[.sh (.bd w h l), .sh (.int w), .sh (.int h), .sh (.st l), .sh (.lst ((rowsD w h l).map D.st)), .no, .sh (.st (rowOf w l (h - 1 - i)))], rfl, ?_, rfl⟩
      refine cb_bin rfl rfl ?_
      rw [nl_eq]
      exact add_st (by rw [hr]; simp; omega)) (by rw [List.length_map, rl]; omega) rfl
  have em2 : ((rowsD w h l).map D.st).map (fun d => match d with | .str z => .st (z.cps.toList ++ [10]) | _ => .non) = ((rowsD w h l).map fun p => p ++ [10]).map D.st := by
    rw [List.map_map, List.map_map]
    exact List.map_congr_left fun i _ => rfl
  rw [em2] at e2
  have bl := bt_len v (Nat.le_refl h)
  have hb : h * (w + 1) ≤ 10 * 101 := Nat.mul_le_mul hh2 (by omega)
  refine fnM_rt (Δ := [.sh (.bd w h l), .sh (.int w), .sh (.int h), .sh (.st l), .sh (.lst ((rowsD w h l).map D.st)), .no, .no]) ?_ rfl
  show m_band_text [.sh (.bd w h l), .no, .no, .no, .no, .no, .no] = _
  unfold m_band_text
  refine (sq_nx s1).trans ((sq_nx s2).trans ((sq_nx s3).trans (cb_rt ?_)))
  exact cb_str rfl e2 (join_st (by show (bt w h l).length ≤ _; omega))
end DL.K70
set_option Elab.async false
set_option linter.all false
set_option maxRecDepth 100000
set_option maxHeartbeats 4000000
set_option autoImplicit false
namespace DL.K70
open PySem L2 DL
variable {w h n : Nat} {l : List Nat}
/-- a state of the draws -/
def SD (n : Nat) (d : D) : Prop := ∃ l c t, d = stD l c t ∧ SOK n l t
theorem SD.mono {n m : Nat} {d : D} (h : SD n d) (hm : n ≤ m) : SD m d := by
  obtain ⟨l, c, t, e, q⟩ := h
  exact ⟨l, c, t, e, q.mono hm⟩
theorem dig {i n : Nat} {s : Sl} {d : D} {b : Int} {Γ : SEnv} {m : M D} (hi : Γ[i]? = some s) (ho : s.own = some d) (hs : SD n d) (hn : n ≤ 1000000) (hb : 0 < b) (hb2 : b < 1073741824) (hm : m Γ = .ok (.int b) Γ) : ∃ x d', 0 ≤ x ∧ x < b ∧ SD (n + 1) d' ∧
    callIo i (fnM 4 m__law_digit) (consA m nilA) Γ = .ok (.int x) (Γ.set i (s.put d')) := by
  obtain ⟨l, c, t, rfl, q⟩ := hs
  obtain ⟨x, l', t', h0, h1, h2, e⟩ := r_digit (c := c) q hn hb hb2
  refine ⟨x, stD l' c t', h0, h1, ⟨l', c, t', rfl, h2⟩, ?_⟩
  have ec : consA m nilA Γ = .ok [.int b] Γ := cb_cons hm rfl
  simp only [callIo, gdM, hi, ho, bnd, ec, List.map_cons, List.map_nil, e]
theorem rps_nat : ∀ l : List Nat, TC l → (SS l).cps.all (· < 0x110000) = true := fun l h => by
  rw [Array.all_eq_true_iff_forall_mem]
  intro x hx
  have := h x (by simpa using hx)
  simp
  omega
theorem due_rp {ls : List (List Nat)} (L : LL ls) : (dueD ls).rp = true ∧ (dueD ls).py.depth ≤ 60 ∧ (dueD ls).py.weight ≤ 1000000 := by
  have t4 : ("text" : Str).cps.size = 4 := by decide
  have tx_str : ∀ z : Str, z.cps.all (· < 0x110000) = true → z.cps.size ≤ 10 → (tx (.str z)).rp = true ∧ (tx (.str z)).py.depth ≤ 60 ∧ (tx (.str z)).py.weight ≤ 1000000 := fun z h1 h2 => by
    refine ⟨?_, by simp [D.py, D.pys, PyData.depth, PyData.depthAll], ?_⟩
    · simp only [D.rp, D.rps, h1, Bool.and_true]
      decide +kernel
    · simp only [D.py, D.pys, PyData.weight, PyData.weightAll, t4]
      omega
  have tx_int : ∀ i : Nat, i ≤ 500000 → (tx (.int (i : Int))).rp = true ∧ (tx (.int (i : Int))).py.depth ≤ 60 ∧ (tx (.int (i : Int))).py.weight ≤ 1000000 := fun i h1 => by
    have hw := wt_int (i := (i : Int)) (by omega)
    refine ⟨?_, by simp [D.py, D.pys, PyData.depth, PyData.depthAll], ?_⟩
    · simp only [D.rp, D.rps, Bool.and_true, Bool.and_eq_true, decide_eq_true_eq]
      exact ⟨by decide +kernel, by omega⟩
    · simp only [D.py, D.pys, PyData.weightAll] at hw ⊢
      rw [PyData.weight]
      simp only [PyData.weightAll]
      rw [PyData.weight, t4]
      omega
  unfold dueD
  cases hb : t0 ls with
  | true =>
    rw [rd_t hb]
    exact tx_str "lines" (by decide +kernel) (by decide +kernel)
  | false =>
    rw [rd_f hb]
    have hdl : ls.dropLast.length ≤ 500000 := by
      have := L.len
      rw [List.length_dropLast]
      omega
    cases hz : badAt ls.dropLast with
    | some i =>
      have hi : i ≤ 500000 := by
        unfold badAt at hz
        obtain ⟨j, hj, h1⟩ := List.exists_of_findSome?_eq_some hz
        rw [List.mem_range] at hj
        split at h1
        · cases h1; omega
        · cases h1
      exact tx_int i hi
    | none =>
      by_cases hs : decide (ls.dropLast.length * (ls.dropLast.getD 0 []).length > 1000) = true
      · simp only [hs, if_true]
        exact tx_str "size" (by decide +kernel) (by decide +kernel)
      · have hs' : decide (ls.dropLast.length * (ls.dropLast.getD 0 []).length > 1000) = false := by simpa using hs
        simp only [hs', Bool.false_eq_true, if_false]
        obtain ⟨l1, l2⟩ := t0_len hb
        have hbl : 0 < ls.dropLast.length := by rw [List.length_dropLast]; omega
        have h0 := body_at L hbl
        have bf := body_flat L
        have hw1 := wt_int (i := ((ls.dropLast.getD 0 []).length : Int)) (by omega)
        have hw2 := wt_int (i := (ls.dropLast.length : Int)) (by omega)
        have hfl : ls.dropLast.reverse.flatten.length = ls.dropLast.flatten.length := by
          rw [List.length_flatten, List.length_flatten, List.map_reverse, List.sum_reverse]
        have htc : TC ls.dropLast.reverse.flatten := fun x hx => by
          rw [List.mem_flatten] at hx
          obtain ⟨p, hp, hx⟩ := hx
          exact (L.body (List.mem_reverse.mp hp)).1 x hx
        refine ⟨?_, by simp [D.py, D.pys, PyData.depth, PyData.depthAll], ?_⟩
        · simp only [D.rp, D.rps, rps_nat _ htc, Bool.and_true, Bool.and_eq_true, decide_eq_true_eq]
          omega
        · have hs : (PyData.str (SS ls.dropLast.reverse.flatten)).weight = ls.dropLast.reverse.flatten.length := by simp [PyData.weight]
          simp only [D.py, D.pys, PyData.weightAll] at hw1 hw2 ⊢
          rw [PyData.weight]
          simp only [PyData.weightAll]
          rw [hs]
          omega
/-- both readings of a text are written alike -/
theorem read_due {m : M D} {Γ : SEnv} {t : List Nat} (hm : m Γ = .ok (.st t) Γ) (ht : t.length ≤ 400000) (c : TC t) : asB (bin D.ne (appM D.repr (consA (callM (fnM 3 m__law_read) (consA m (nilA))) (nilA))) (appM D.repr (consA (callM (fnM 5 m__law_due) (consA m (nilA))) (nilA)))) Γ = .ok false Γ := by
  obtain ⟨h1, h2, h3⟩ := due_rp (ll_of ht c)
  exact cb_asB (cb_repr_ne (cb_cons (cb_call (cb_cons hm rfl) (r_lread ht c)) rfl) (cb_cons (cb_call (cb_cons hm rfl) (r_due ht c)) rfl) h1 h2 h3)
theorem slice_any {lo hi : Option Int} {t : List Nat} (ht : t.length ≤ 1000000) : ∃ r, D.slice lo hi (.st t) = some (.st r) ∧ (∀ c ∈ r, c ∈ t) ∧ r.length ≤ t.length := by
  refine ⟨_, slice_st ht, fun c hc => List.mem_of_mem_drop (List.mem_of_mem_take hc), ?_⟩
  rw [List.length_take, List.length_drop]
  omega
theorem signs8 : ("\nazA 0b~" : Str) = SS [10, 97, 122, 65, 32, 48, 98, 126] := by decide +kernel
theorem sign_at {x : Int} (h0 : 0 ≤ x) (h1 : x < 8) : ∃ c, c < 128 ∧ D.ix (.str "\nazA 0b~") (.int x) = some (.st [c]) := by
  rw [signs8]
  obtain ⟨n, rfl⟩ := Int.eq_ofNat_of_zero_le h0
  have hn : n < 8 := by exact_mod_cast h1
  have : n = 0 ∨ n = 1 ∨ n = 2 ∨ n = 3 ∨ n = 4 ∨ n = 5 ∨ n = 6 ∨ n = 7 := by omega
  rcases this with rfl | rfl | rfl | rfl | rfl | rfl | rfl | rfl
  · exact ⟨10, by decide, ix_st (i := 0) (by simp) rfl⟩
  · exact ⟨97, by decide, ix_st (i := 1) (by simp) rfl⟩
  · exact ⟨122, by decide, ix_st (i := 2) (by simp) rfl⟩
  · exact ⟨65, by decide, ix_st (i := 3) (by simp) rfl⟩
  · exact ⟨32, by decide, ix_st (i := 4) (by simp) rfl⟩
  · exact ⟨48, by decide, ix_st (i := 5) (by simp) rfl⟩
  · exact ⟨98, by decide, ix_st (i := 6) (by simp) rfl⟩
  · exact ⟨126, by decide, ix_st (i := 7) (by simp) rfl⟩
theorem tc_app {a b : List Nat} (ha : TC a) (hb : TC b) : TC (a ++ b) := fun c hc => (List.mem_append.mp hc).elim (ha c) (hb c)
theorem r_texts {d : D} (hs : SD n d) (hn : n ≤ 900000) (v : VB w h l) (c : VC l) : ∃ d', SD (n + 12) d' ∧ fnM 11 m__law_texts_right [.io d, .sh (.bd w h l)] = .ok (.bl true) [.io d', .sh (.bd w h l)] := by
  have hw := v.w1
  have hw2 := v.w2
  have hh := v.h1
  have hh2 := v.h2
  have s1 : asgM (vr 1) (gtM 3 (unp1 (stS 2) (unp1 (stS 3) (unp1 (stS 4) unp0)))) [.io d, .sh (.bd w h l), .no, .no, .no, .no, .no, .no, .no, .no, .no] = .ok .nx [.io d, .sh (.bd w h l), .sh (.int w), .sh (.int h), .sh (.st l), .no, .no, .no, .no, .no, .no] := cb_asg rfl rfl
  have s2 : asgM (ret (.str "")) (stS 5) [.io d, .sh (.bd w h l), .sh (.int w), .sh (.int h), .sh (.st l), .no, .no, .no, .no, .no, .no] = .ok .nx [.io d, .sh (.bd w h l), .sh (.int w), .sh (.int h), .sh (.st l), .sh (.st (bt w 0 l)), .no, .no, .no, .no, .no] := by
    rw [eS]
    exact cb_asg rfl rfl
  obtain ⟨Γ3, e3, ⟨a, rfl⟩⟩ := forL_rng (g := stS 6) (body := asgM (bin D.add (bin D.add (sliceM (vr 4) (someI (bin D.mul (vr 6) (vr 2))) (someI (bin D.add (bin D.mul (vr 6) (vr 2)) (vr 2)))) (ret (.str "\n"))) (vr 5)) (stS 5)) (n := h)
    (fun j Γ => ∃ a, Γ = [.io d, .sh (.bd w h l), .sh (.int w), .sh (.int h), .sh (.st l), .sh (.st (bt w j l)), osl a, .no, .no, .no, .no]) (by
      rintro j hj Γ ⟨a, rfl⟩
      have m1 : D.mul (.int (j : Int)) (.int (w : Int)) = some (.int ((j * w : Nat) : Int)) := mul_nn (by omega) (by omega)
      have rl := row_len v hj
      have bl := bt_len v (n := j) (by omega)
      have hb : j * (w + 1) ≤ 10 * 101 := Nat.mul_le_mul (by omega) (by omega)
      refine ⟨[.io d, .sh (.bd w h l), .sh (.int w), .sh (.int h), .sh (.st l), .sh (.st (bt w j l)), .sh (.int j), .no, .no, .no, .no], [.io d, .sh (.bd w h l), .sh (.int w), .sh (.int h), .sh (.st l), .sh (.st (bt w (j + 1) l)), .sh (.int j), .no, .no, .no, .no], by cases a <;> rfl, ?_, some (.int j), rfl⟩
      refine cb_asg (cb_bin (cb_bin (cb_slice rfl (cb_some (cb_bin rfl rfl m1)) (cb_some (cb_bin (cb_bin rfl rfl m1) rfl add_nn)) (slice_row v hj)) rfl (show D.add (.st (rowOf w l j)) (.str "\n") = some (.st (rowOf w l j ++ [10])) from ?_)) rfl (show D.add (.st (rowOf w l j ++ [10])) (.st (bt w j l)) = some (.st (bt w (j + 1) l)) from ?_)) rfl
      · rw [nl_eq]
        exact add_st (by rw [rl]; simp; omega)
      · rw [bt_succ]
        exact add_st (by rw [List.length_append, rl, bl]; simp; omega)) (Γ := [.io d, .sh (.bd w h l), .sh (.int w), .sh (.int h), .sh (.st l), .sh (.st (bt w 0 l)), .no, .no, .no, .no, .no]) ⟨none, rfl⟩
  have i3 : rangeM (consA (vr 3) (nilA)) [.io d, .sh (.bd w h l), .sh (.int w), .sh (.int h), .sh (.st l), .sh (.st (bt w 0 l)), .no, .no, .no, .no, .no] = .ok (rng 0 1 h) [.io d, .sh (.bd w h l), .sh (.int w), .sh (.int h), .sh (.st l), .sh (.st (bt w 0 l)), .no, .no, .no, .no, .no] := rangeM_n (n := h) rfl (by omega)
  have s3 := (for_ok i3).trans e3
  have btl := bt_len v (Nat.le_refl h)
  have btb : h * (w + 1) ≤ 10 * 101 := Nat.mul_le_mul hh2 (by omega)
  have tcT := bt_tc (w := w) (h := h) c
  have rb := r_bt v c
  have rl := r_lread (t := bt w h l) (by omega) tcT
  rw [bt_due v c] at rl
  have hT : (bt w h l).length ≤ 2000 := by omega
  generalize bt w h l = T at s3 tcT rb rl hT
  have s4 : ifM (orM (asB (bin D.ne (callM (fnM 7 m_band_text) (permA (permI [0]) (consA (vr 1) (nilA)))) (vr 5))) (asB (bin D.ne (callM (fnM 3 m__law_read) (consA (vr 5) (nilA))) (vr 1)))) (rtM (ret (.bl false))) (ret .nx) [.io d, .sh (.bd w h l), .sh (.int w), .sh (.int h), .sh (.st l), .sh (.st T), osl a, .no, .no, .no, .no] = .ok .nx [.io d, .sh (.bd w h l), .sh (.int w), .sh (.int h), .sh (.st l), .sh (.st T), osl a, .no, .no, .no, .no] :=
    cb_ie (cb_o2 (cb_asB (cb_bin (cb_call (ds := [.bd w h l]) (cb_perm (ds := [.bd w h l]) rfl) rb) rfl (cb_self deep_str).1)) (cb_asB (cb_bin (cb_call (ds := [.st T]) rfl rl) rfl (cb_self deep_bd).1))) rfl
  obtain ⟨Γ5, e5, d5, b5, c5, q5, f5, hs5, rfl⟩ := forL_rng (g := stS 7) (body := sq (par2 false false 8 9 (callIo 0 (fnM 4 m__law_digit) (consA (bin D.add (appM D.len (consA (vr 5) (nilA))) (ret (.int 1))) (nilA))) (bin D.ix (ret (.str "\nazA 0b~")) (callIo 0 (fnM 4 m__law_digit) (consA (ret (.int 8)) (nilA)))))
    (forM (seqM (tupM (consA (sliceM (vr 5) (ret none) (someI (vr 8))) (consA (bin D.add (bin D.add (sliceM (vr 5) (ret none) (someI (vr 8))) (vr 9)) (sliceM (vr 5) (someI (vr 8)) (ret none))) (consA (bin D.add (sliceM (vr 5) (ret none) (someI (vr 8))) (sliceM (vr 5) (someI (bin D.add (vr 8) (ret (.int 1)))) (ret none))) (consA (bin D.add (bin D.add (sliceM (vr 5) (ret none) (someI (vr 8))) (vr 9)) (sliceM (vr 5) (someI (bin D.add (vr 8) (ret (.int 1)))) (ret none))) (nilA))))))) (stS 10) (ifM (asB (bin D.ne (appM D.repr (consA (callM (fnM 3 m__law_read) (consA (vr 10) (nilA))) (nilA))) (appM D.repr (consA (callM (fnM 5 m__law_due) (consA (vr 10) (nilA))) (nilA))))) (rtM (ret (.bl false))) (ret .nx)))) (n := 6)
    (fun j Γ => ∃ d' b c q f, SD (n + 2 * j) d' ∧ Γ = [.io d', .sh (.bd w h l), .sh (.int w), .sh (.int h), .sh (.st l), .sh (.st T), osl a, osl b, osl c, osl q, osl f]) (by
      rintro j hj Γ ⟨d', b, c', q, f, hs', rfl⟩
      obtain ⟨x, d1, x0, x1, sd1, e1⟩ := dig (i := 0) (s := .io d') (Γ := [.io d', .sh (.bd w h l), .sh (.int w), .sh (.int h), .sh (.st l), .sh (.st T), osl a, .sh (.int j), osl c', osl q, osl f]) (b := (T.length : Int) + 1) (m := bin D.add (appM D.len (consA (vr 5) (nilA))) (ret (.int 1))) rfl rfl hs' (by omega) (by omega) (by omega) (cb_bin (cb_app (cb_cons rfl rfl) (len_st (by omega))) rfl add_ii)
      obtain ⟨y, d2, y0, y1, sd2, e2⟩ := dig (i := 0) (s := .io d1) (Γ := [.io d1, .sh (.bd w h l), .sh (.int w), .sh (.int h), .sh (.st l), .sh (.st T), osl a, .sh (.int j), osl c', osl q, osl f]) (b := 8) (m := ret (.int 8)) rfl rfl sd1 (by omega) (by omega) (by omega) rfl
      obtain ⟨sg, hsg, esg⟩ := sign_at y0 y1
      have p1 : par2 false false 8 9 (callIo 0 (fnM 4 m__law_digit) (consA (bin D.add (appM D.len (consA (vr 5) (nilA))) (ret (.int 1))) (nilA))) (bin D.ix (ret (.str "\nazA 0b~")) (callIo 0 (fnM 4 m__law_digit) (consA (ret (.int 8)) (nilA)))) [.io d', .sh (.bd w h l), .sh (.int w), .sh (.int h), .sh (.st l), .sh (.st T), osl a, .sh (.int j), osl c', osl q, osl f]
          = .ok .nx [.io d2, .sh (.bd w h l), .sh (.int w), .sh (.int h), .sh (.st l), .sh (.st T), osl a, .sh (.int j), .sh (.int x), .sh (.st [sg]), osl f] := by
        refine cb_par2 (Γ3 := [.io d2, .sh (.bd w h l), .sh (.int w), .sh (.int h), .sh (.st l), .sh (.st T), osl a, .sh (.int j), osl c', .sh (.st [sg]), osl f]) e1 (cb_bin rfl e2 esg) ?_ ?_
        · cases q <;> rfl
        · cases c' <;> rfl
      obtain ⟨r1, er1, hr1, lr1⟩ := slice_any (lo := none) (hi := some x) (t := T) (by omega)
      obtain ⟨r2, er2, hr2, lr2⟩ := slice_any (lo := some x) (hi := none) (t := T) (by omega)
      obtain ⟨r3, er3, hr3, lr3⟩ := slice_any (lo := some (x + 1)) (hi := none) (t := T) (by omega)
      have t1 : TC r1 := fun z hz => tcT z (hr1 z hz)
      have t2 : TC r2 := fun z hz => tcT z (hr2 z hz)
      have t3 : TC r3 := fun z hz => tcT z (hr3 z hz)
      have tg : TC [sg] := fun z hz => by rw [List.mem_singleton] at hz; subst hz; exact hsg
      have k4 : seqM (tupM (consA (sliceM (vr 5) (ret none) (someI (vr 8))) (consA (bin D.add (bin D.add (sliceM (vr 5) (ret none) (someI (vr 8))) (vr 9)) (sliceM (vr 5) (someI (vr 8)) (ret none))) (consA (bin D.add (sliceM (vr 5) (ret none) (someI (vr 8))) (sliceM (vr 5) (someI (bin D.add (vr 8) (ret (.int 1)))) (ret none))) (consA (bin D.add (bin D.add (sliceM (vr 5) (ret none) (someI (vr 8))) (vr 9)) (sliceM (vr 5) (someI (bin D.add (vr 8) (ret (.int 1)))) (ret none))) (nilA)))))) [.io d2, .sh (.bd w h l), .sh (.int w), .sh (.int h), .sh (.st l), .sh (.st T), osl a, .sh (.int j), .sh (.int x), .sh (.st [sg]), osl f]
          = .ok [.st r1, .st (r1 ++ [sg] ++ r2), .st (r1 ++ r3), .st (r1 ++ [sg] ++ r3)] [.io d2, .sh (.bd w h l), .sh (.int w), .sh (.int h), .sh (.st l), .sh (.st T), osl a, .sh (.int j), .sh (.int x), .sh (.st [sg]), osl f] := by
        refine cb_seqT (cb_tup (cb_cons (cb_slice rfl rfl (cb_some rfl) er1) (cb_cons (cb_bin (cb_bin (cb_slice rfl rfl (cb_some rfl) er1) rfl (add_st ?_)) (cb_slice rfl (cb_some rfl) rfl er2) (add_st ?_)) (cb_cons (cb_bin (cb_slice rfl rfl (cb_some rfl) er1) (cb_slice rfl (cb_some (cb_bin rfl rfl add_ii)) rfl er3) (add_st ?_)) (cb_cons (cb_bin (cb_bin (cb_slice rfl rfl (cb_some rfl) er1) rfl (add_st ?_)) (cb_slice rfl (cb_some (cb_bin rfl rfl add_ii)) rfl er3) (add_st ?_)) rfl)))) (by simp)) <;> first | omega | (simp; omega)
      have one : ∀ (u : List Nat) (f : Option D), TC u → u.length ≤ 400000 → stS 10 (.st u) [.io d2, .sh (.bd w h l), .sh (.int w), .sh (.int h), .sh (.st l), .sh (.st T), osl a, .sh (.int j), .sh (.int x), .sh (.st [sg]), osl f] = .ok () [.io d2, .sh (.bd w h l), .sh (.int w), .sh (.int h), .sh (.st l), .sh (.st T), osl a, .sh (.int j), .sh (.int x), .sh (.st [sg]), osl (some (.st u))] ∧
          ifM (asB (bin D.ne (appM D.repr (consA (callM (fnM 3 m__law_read) (consA (vr 10) (nilA))) (nilA))) (appM D.repr (consA (callM (fnM 5 m__law_due) (consA (vr 10) (nilA))) (nilA))))) (rtM (ret (.bl false))) (ret .nx) [.io d2, .sh (.bd w h l), .sh (.int w), .sh (.int h), .sh (.st l), .sh (.st T), osl a, .sh (.int j), .sh (.int x), .sh (.st [sg]), osl (some (.st u))] = .ok .nx [.io d2, .sh (.bd w h l), .sh (.int w), .sh (.int h), .sh (.st l), .sh (.st T), osl a, .sh (.int j), .sh (.int x), .sh (.st [sg]), osl (some (.st u))] := fun u f hu hl => by
        refine ⟨by cases f <;> rfl, ?_⟩
        exact cb_ie (read_due (m := vr 10) rfl hl hu) rfl
      have o1 := one r1 f t1 (by omega)
      have o2 := one (r1 ++ [sg] ++ r2) (some (.st r1)) (tc_app (tc_app t1 tg) t2) (by simp; omega)
      have o3 := one (r1 ++ r3) (some (.st (r1 ++ [sg] ++ r2))) (tc_app t1 t3) (by simp; omega)
      have o4 := one (r1 ++ [sg] ++ r3) (some (.st (r1 ++ r3))) (tc_app (tc_app t1 tg) t3) (by simp; omega)
      refine ⟨[.io d', .sh (.bd w h l), .sh (.int w), .sh (.int h), .sh (.st l), .sh (.st T), osl a, .sh (.int j), osl c', osl q, osl f], [.io d2, .sh (.bd w h l), .sh (.int w), .sh (.int h), .sh (.st l), .sh (.st T), osl a, .sh (.int j), .sh (.int x), .sh (.st [sg]), osl (some (.st (r1 ++ [sg] ++ r3)))], by cases b <;> rfl, ?_, d2, some (.int j), some (.int x), some (.st [sg]), some (.st (r1 ++ [sg] ++ r3)), sd2.mono (by omega), rfl⟩
      exact (sq_nx p1).trans ((for_ok k4).trans ((forL_go o1.1 o1.2).trans ((forL_go o2.1 o2.2).trans ((forL_go o3.1 o3.2).trans ((forL_go o4.1 o4.2).trans forL_end)))))) (Γ := [.io d, .sh (.bd w h l), .sh (.int w), .sh (.int h), .sh (.st l), .sh (.st T), osl a, .no, .no, .no, .no]) ⟨d, none, none, none, none, hs.mono (by omega), rfl⟩
  have i5 : rangeM (consA (ret (.int 6)) (nilA)) [.io d, .sh (.bd w h l), .sh (.int w), .sh (.int h), .sh (.st l), .sh (.st T), osl a, .no, .no, .no, .no] = .ok (rng 0 1 6) [.io d, .sh (.bd w h l), .sh (.int w), .sh (.int h), .sh (.st l), .sh (.st T), osl a, .no, .no, .no, .no] := rangeM_n (n := 6) rfl (by omega)
  refine ⟨d5, hs5.mono (by omega), ?_⟩
  refine fnM_rt (Δ := [.io d5, .sh (.bd w h l), .sh (.int w), .sh (.int h), .sh (.st l), .sh (.st T), osl a, osl b5, osl c5, osl q5, osl f5]) ?_ rfl
  show m__law_texts_right [.io d, .sh (.bd w h l), .no, .no, .no, .no, .no, .no, .no, .no, .no] = _
  unfold m__law_texts_right
  exact (sq_nx s1).trans ((sq_nx s2).trans ((sq_nx s3).trans ((sq_nx s4).trans ((sq_nx ((for_ok i5).trans e5)).trans rfl))))
end DL.K70
set_option Elab.async false
set_option linter.all false
set_option maxRecDepth 100000
set_option maxHeartbeats 4000000
set_option autoImplicit false
namespace DL
open PySem L2
theorem fold_app : ∀ (k : Nat) (l : List Nat) (acc : List Nat), (List.replicate k l.toArray).foldl (· ++ ·) acc.toArray = (acc ++ (List.replicate k l).flatten).toArray
  | 0, l, acc => by simp
  | k + 1, l, acc => by
    rw [List.replicate_succ, List.foldl_cons, List.replicate_succ, List.flatten_cons]
    have e : acc.toArray ++ l.toArray = (acc ++ l).toArray := by simp
    rw [e, fold_app k l (acc ++ l), List.append_assoc]
theorem mul_SS {l : List Nat} {n : Nat} : Txt.mul (SS l) (n : Int) = SS (List.replicate n l).flatten := by
  unfold Txt.mul
  by_cases h1 : (n : Int) < 1
  · rw [if_pos h1]
    have : n = 0 := by omega
    subst this
    rfl
  · rw [if_neg h1]
    by_cases hc : ((n : Int) == 1 || (SS l).length == 0) = true
    · rw [if_pos hc]
      rw [Bool.or_eq_true, beq_iff_eq, beq_iff_eq, SS_len] at hc
      rcases hc with h | h
      · have : n = 1 := by omega
        subst this
        simp
      · have : l = [] := List.length_eq_zero_iff.mp h
        subst this
        congr 1
        simp
    · rw [if_neg hc, Int.toNat_natCast]
      have := fold_app n l []
      exact congrArg Str.mk this
theorem mul_st {l : List Nat} {n : Nat} (hn : n ≤ 100000) (hl : l.length * n ≤ 1000000) : D.mul (.st l) (.int (n : Int)) = some (.st (List.replicate n l).flatten) := by
  have hd : decide (-(2 ^ 40) < (n : Int) ∧ (n : Int) < 2 ^ 40 ∧ (SS l).length * (n : Int).toNat ≤ sizeLine) = true := by
    refine decide_eq_true ⟨by omega, by omega, ?_⟩
    have hs : (1000000 : Nat) ≤ sizeLine := by decide
    rw [SS_len, Int.toNat_natCast]
    omega
  simp only [D.mul]
  rw [if_pos hd, mul_SS]
/-- a comprehension that changes what stands beside it -/
theorem cb_lcLI {vs : List Nat} {g : D → M Unit} {e : M D} (I : Nat → SEnv → Prop) (P : D → Prop) :
    ∀ (ds acc : List D) (k : Nat) (Γ : SEnv), I k Γ → (∀ (i : Nat) (d : D), ds[i]? = some d → ∀ Γ, I (k + i) Γ → ∃ Γd y Γ' Γ2, g d Γ = .ok () Γd ∧ e Γd = .ok y Γ' ∧ P y ∧ wipM vs Γ' = .ok () Γ2 ∧ I (k + i + 1) Γ2) → acc.length + ds.length ≤ 1000000 →
      ∃ ys Γ', lcL vs g (ret true) e ds acc Γ = .ok (acc ++ ys) Γ' ∧ ys.length = ds.length ∧ (∀ y ∈ ys, P y) ∧ I (k + ds.length) Γ'
  | [], acc, k, Γ, hI, _, _ => ⟨[], Γ, by simp [lcL, ret], rfl, (fun _ h => nomatch h), hI⟩
  | d :: ds, acc, k, Γ, hI, h, hl => by
    rw [List.length_cons] at hl
    obtain ⟨Γd, y, Γ', Γ2, h1, h2, h3, h4, h5⟩ := h 0 d rfl Γ hI
    obtain ⟨ys, Γ3, e1, e2, e3, e4⟩ := cb_lcLI I P ds (acc ++ [y]) (k + 1) Γ2 h5 (fun i d hd Γ hΓ => by
      have := h (i + 1) d (by simpa using hd) Γ (by rw [show k + (i + 1) = k + 1 + i by omega]; exact hΓ)
      rw [show k + (i + 1) + 1 = k + 1 + i + 1 by omega] at this
      exact this) (by rw [List.length_append, List.length_cons, List.length_nil]; omega)
    refine ⟨y :: ys, Γ3, ?_, by rw [List.length_cons, e2, List.length_cons], fun z hz => ?_, by rw [List.length_cons, show k + (ds.length + 1) = k + 1 + ds.length by omega]; exact e4⟩
    · unfold lcL bnd
      rw [h1]
      simp only [noEr, bnd, ret, if_true, h2, size_ok (show acc.length + 1 ≤ 1000000 by omega), h4]
      have e1' := e1
      rw [List.append_assoc] at e1'
      exact e1'
    · rcases List.mem_cons.mp hz with rfl | hz
      · exact h3
      · exact e3 z hz
theorem cb_lcI {vs : List Nat} {mi : M (List D)} {g : D → M Unit} {e : M D} {Γ Γ1 Γw : SEnv} {ds : List D} (I : Nat → SEnv → Prop) (P : D → Prop) (hi : mi Γ = .ok ds Γ1) (hs : savM vs Γ1 = .ok Γ1 Γ1) (hw : wipM vs Γ1 = .ok () Γw) (h0 : I 0 Γw)
    (ht : ∀ (i : Nat) (d : D), ds[i]? = some d → ∀ Γ, I i Γ → ∃ Γd y Γ' Γ2, g d Γ = .ok () Γd ∧ e Γd = .ok y Γ' ∧ P y ∧ wipM vs Γ' = .ok () Γ2 ∧ I (i + 1) Γ2) (hl : ds.length ≤ 1000000) :
    ∃ ys Γ', lcM vs mi g (ret true) e Γ = .ok (.lst ys) (rstG Γ1 Γ' vs) ∧ ys.length = ds.length ∧ (∀ y ∈ ys, P y) ∧ I ds.length Γ' := by
  obtain ⟨ys, Γ', e1, e2, e3, e4⟩ := cb_lcLI (vs := vs) (g := g) (e := e) I P ds [] 0 Γw h0 (fun i d hd Γ hΓ => by
    rw [Nat.zero_add] at hΓ ⊢
    exact ht i d hd Γ hΓ) (by simpa using hl)
  rw [Nat.zero_add] at e4
  refine ⟨ys, Γ', ?_, e2, e3, e4⟩
  unfold lcM bnd
  rw [hi]
  simp only [bnd, hs, hw, e1, List.nil_append, rstM, ret]
end DL
namespace DL.K70
open PySem L2 DL
variable {w h n : Nat} {l : List Nat}
theorem carry_mem {k : Nat} {s : Int} {c : Nat} (hc : c ∈ carryL w h l k s) : c ∈ l := by
  unfold carryL at hc
  rw [List.mem_flatten] at hc
  obtain ⟨q, hq, hc⟩ := hc
  obtain ⟨y, _, rfl⟩ := List.mem_map.mp hq
  have key : ∀ (a : Nat) (r : List Nat), (∀ x ∈ r, x ∈ l) → ∀ x, x ∈ r.drop a ++ r.take a → x ∈ l := fun a r hr x hx => by
    rcases List.mem_append.mp hx with z | z
    · exact hr x (List.mem_of_mem_drop z)
    · exact hr x (List.mem_of_mem_take z)
  have hrow : ∀ {y} {x}, x ∈ rowOf w l y → x ∈ l := fun {y x} hx => by
    unfold rowOf at hx
    exact List.mem_of_mem_drop (List.mem_of_mem_take hx)
  unfold carryRow at hc
  simp only at hc
  refine key _ _ (fun x hx => ?_) c hc
  split at hx
  · exact hrow hx
  · exact hrow (List.mem_reverse.mp hx)
theorem carry_vc {k : Nat} {s : Int} (c : VC l) : VC (carryL w h l k s) := fun x hx => c x (carry_mem hx)
/-- cells: one sign each -/
def CS (F : List (List Nat)) : Prop := ∀ q ∈ F, ∃ c, q = [c] ∧ 97 ≤ c ∧ c ≤ 122
theorem CS.flat {F : List (List Nat)} (h : CS F) : F.flatten.length = F.length ∧ VC F.flatten := by
  induction F with
  | nil => exact ⟨rfl, fun _ z => nomatch z⟩
  | cons q F ih =>
    obtain ⟨c, rfl, h1, h2⟩ := h q List.mem_cons_self
    obtain ⟨a, b⟩ := ih fun q hq => h q (List.mem_cons_of_mem _ hq)
    refine ⟨by rw [List.flatten_cons, List.length_append, a, List.length_cons, List.length_cons, List.length_nil]; omega, fun x hx => ?_⟩
    rw [List.flatten_cons] at hx
    rcases List.mem_append.mp hx with z | z
    · rw [List.mem_singleton] at z
      subst z
      exact ⟨h1, h2⟩
    · exact b x z
theorem CS.get {F : List (List Nat)} (h : CS F) {i : Nat} (hi : i < F.length) : ∃ c, F.getD i [] = [c] ∧ 97 ≤ c ∧ c ≤ 122 := by
  refine h _ ?_
  rw [List.getD_eq_getElem?_getD, List.getElem?_eq_getElem hi]
  exact List.getElem_mem hi
theorem CS.set {F : List (List Nat)} (h : CS F) {i c : Nat} (h1 : 97 ≤ c) (h2 : c ≤ 122) : CS (F.set i [c]) := fun q hq => by
  rcases List.mem_or_eq_of_mem_set hq with z | z
  · exact h q z
  · exact ⟨c, z, h1, h2⟩
theorem of_cells : ∀ {ys : List D}, (∀ y ∈ ys, ∃ c, y = .st [c] ∧ 97 ≤ c ∧ c ≤ 122) → ∃ F : List (List Nat), ys = F.map D.st ∧ CS F
  | [], _ => ⟨[], rfl, fun _ z => nomatch z⟩
  | y :: ys, h => by
    obtain ⟨c, rfl, h1, h2⟩ := h y List.mem_cons_self
    obtain ⟨F, rfl, hF⟩ := of_cells fun z hz => h z (List.mem_cons_of_mem _ hz)
    refine ⟨[c] :: F, rfl, fun q hq => ?_⟩
    rcases List.mem_cons.mp hq with rfl | hq
    · exact ⟨c, rfl, h1, h2⟩
    · exact hF q hq
theorem abzS : ("abz" : Str) = SS [97, 98, 122] := by decide +kernel
theorem abz_at {x : Int} (h0 : 0 ≤ x) (h1 : x < 3) : ∃ c, 97 ≤ c ∧ c ≤ 122 ∧ D.ix (.str "abz") (.int x) = some (.st [c]) := by
  rw [abzS]
  obtain ⟨n, rfl⟩ := Int.eq_ofNat_of_zero_le h0
  have hn : n < 3 := by exact_mod_cast h1
  have : n = 0 ∨ n = 1 ∨ n = 2 := by omega
  rcases this with rfl | rfl | rfl
  · exact ⟨97, by decide, by decide, ix_st (i := 0) (by simp) rfl⟩
  · exact ⟨98, by decide, by decide, ix_st (i := 1) (by simp) rfl⟩
  · exact ⟨122, by decide, by decide, ix_st (i := 2) (by simp) rfl⟩
/-- what is cut out of cells -/
theorem slice_cells {F : List (List Nat)} {a b : Nat} (h1 : a ≤ b) (h2 : b ≤ F.length) : D.slice (some (a : Int)) (some (b : Int)) (.lst (F.map D.st)) = some (.lst (((F.drop a).take (b - a)).map D.st)) := by
  show some (D.lst (cutD (F.map D.st) (some (a : Int)) (some (b : Int)))) = _
  unfold cutD
  rw [HT.sIx_nat, HT.sIx_nat, List.length_map, Nat.min_eq_left (show a ≤ F.length by omega), Nat.min_eq_left h2, List.map_take, List.map_drop]
theorem CS.cut {F : List (List Nat)} (h : CS F) {a b : Nat} : CS ((F.drop a).take b) := fun q hq => h q (List.mem_of_mem_drop (List.mem_of_mem_take hq))
theorem rep_vc {q : List Nat} {n : Nat} (h : VC q) : VC (List.replicate n q).flatten ∧ (List.replicate n q).flatten.length = n * q.length := by
  refine ⟨fun x hx => ?_, by rw [List.length_flatten]; simp⟩
  rw [List.mem_flatten] at hx
  obtain ⟨p, hp, hx⟩ := hx
  rw [List.eq_of_mem_replicate hp] at hx
  exact h x hx
/-- texts of one size -/
theorem of_texts {m : Nat} : ∀ {ys : List D}, (∀ y ∈ ys, ∃ q : List Nat, y = .st q ∧ q.length = m ∧ VC q) → ∃ F : List (List Nat), ys = F.map D.st ∧ F.flatten.length = F.length * m ∧ VC F.flatten
  | [], _ => ⟨[], rfl, by simp, fun _ z => nomatch z⟩
  | y :: ys, h => by
    obtain ⟨q, rfl, h1, h2⟩ := h y List.mem_cons_self
    obtain ⟨F, rfl, hF, hv⟩ := of_texts fun z hz => h z (List.mem_cons_of_mem _ hz)
    refine ⟨q :: F, rfl, by rw [List.flatten_cons, List.length_append, hF, h1, List.length_cons, Nat.succ_mul]; omega, fun x hx => ?_⟩
    rw [List.flatten_cons] at hx
    rcases List.mem_append.mp hx with z | z
    · exact h2 x z
    · exact hv x z
end DL.K70
set_option Elab.async false
set_option linter.all false
set_option maxRecDepth 100000
set_option maxHeartbeats 4000000
set_option autoImplicit false
namespace DL
open PySem L2
variable {Γ : SEnv}
theorem cb_pix {i : Nat} {s : Sl} {c b e : D} {mb : M D} (hi : Γ[i]? = some s) (ho : s.own = some c) (hb : mb Γ = .ok b Γ) (h : D.ix c b = some e) : pixM i mb Γ = .ok e Γ := by
  simp only [pixM, gdM, pkM, hi, ho, bnd, hb, h, opt]
theorem cb_sub {i : Nat} {s : Sl} {c c' v k : D} {m mk : M D} (hm : m Γ = .ok v Γ) (hi : Γ[i]? = some s) (ho : s.own = some c) (hk : mk Γ = .ok k Γ) (h : D.setAt k v c = some c') : subS i m mk Γ = .ok .nx (Γ.set i (s.put c')) := by
  simp only [subS, gdM, putM, hi, ho, bnd, hm, hk, h, ret]
end DL
namespace DL.K70
open PySem L2 DL
variable {w h n : Nat} {l : List Nat}
theorem one_add {x : Nat} : D.add (.int 1) (.int (x : Int)) = some (.int ((x + 1 : Nat) : Int)) := by
  rw [add_ii]
  congr 2
  omega
theorem kind_at {wn : Nat} (h1 : 1 ≤ wn) (h2 : wn < 6) : ∃ k : Nat, k < 4 ∧ D.ix (.lst [.int 0, .int 1, .int 2, .int 3, .int 1]) (.int ((wn : Int) - 1)) = some (.int (k : Int)) := by
  have : wn = 1 ∨ wn = 2 ∨ wn = 3 ∨ wn = 4 ∨ wn = 5 := by omega
  rcases this with rfl | rfl | rfl | rfl | rfl
  · exact ⟨0, by decide, rfl⟩
  · exact ⟨1, by decide, rfl⟩
  · exact ⟨2, by decide, rfl⟩
  · exact ⟨3, by decide, rfl⟩
  · exact ⟨1, by decide, rfl⟩
/-- the state of _law_band at work -/
abbrev BG (d : D) (c r few wn : Nat) (s6 s7 s8 s9 s10 s11 s12 s13 : Sl) : SEnv := [.io d, .sh (.int 6), .sh (.int c), .sh (.int r), .sh (.int few), .sh (.int wn), s6, s7, s8, s9, s10, s11, s12, s13, .no]
theorem idx_lt {c r a b : Nat} (ha : a < r) (hb : b < c) : a * c + b < r * c := by
  have : (a + 1) * c ≤ r * c := Nat.mul_le_mul_right c ha
  rw [Nat.succ_mul] at this
  omega
/-- one cell put elsewhere -/
theorem band_turn {d : D} {c r few wn y x place : Nat} {F : List (List Nat)} {a11 a12 a13 : Option D} (hc : 1 ≤ c) (hc2 : c ≤ 6) (hr : r ≤ 3) (h1 : 1 ≤ wn) (h2 : wn < 6) (hy : y < r) (hx : x < c) (hp : place < c) (hF : F.length = r * c) (hC : CS F) :
    ∃ F' : List (List Nat), ∃ a11' a12' a13' : Option D, F'.length = r * c ∧ CS F' ∧
    (sq (asgM (bin D.ix (lstM (consA (ret (.int 0)) (consA (ret (.int 1)) (consA (ret (.int 2)) (consA (ret (.int 3)) (consA (ret (.int 1)) (nilA))))))) (bin D.sub (vr 5) (ret (.int 1)))) (stS 11))
    (sq (asgM (ifM (asB (bin D.lt (vr 11) (ret (.int 2)))) (bin D.add (vr 10) (ifM (asB (bin D.eq (vr 5) (ret (.int 5)))) (bin D.fdiv (vr 2) (ret (.int 2))) (ret (.int 0)))) (bin D.sub (vr 7) (vr 10))) (stS 12))
    (sq (asgM (ifM (asB (bin D.isin (vr 11) (tupM (consA (ret (.int 1)) (consA (ret (.int 3)) (nilA)))))) (bin D.sub (bin D.sub (vr 3) (ret (.int 1))) (vr 9)) (vr 9)) (stS 13))
    (subS 6 (pixM 6 (bin D.add (bin D.mul (vr 9) (vr 2)) (vr 10))) (bin D.add (bin D.mul (vr 13) (vr 2)) (bin D.mod (vr 12) (vr 2)))))))
      (BG d c r few wn (.ow (.lst (F.map D.st))) (.sh (.int place)) .no (.sh (.int y)) (.sh (.int x)) (osl a11) (osl a12) (osl a13))
      = .ok .nx (BG d c r few wn (.ow (.lst (F'.map D.st))) (.sh (.int place)) .no (.sh (.int y)) (.sh (.int x)) (osl a11') (osl a12') (osl a13')) := by
  obtain ⟨k, hk, ek⟩ := kind_at h1 h2
  have s1 : asgM (bin D.ix (lstM (consA (ret (.int 0)) (consA (ret (.int 1)) (consA (ret (.int 2)) (consA (ret (.int 3)) (consA (ret (.int 1)) (nilA))))))) (bin D.sub (vr 5) (ret (.int 1)))) (stS 11)
      (BG d c r few wn (.ow (.lst (F.map D.st))) (.sh (.int place)) .no (.sh (.int y)) (.sh (.int x)) (osl a11) (osl a12) (osl a13)) = .ok .nx (BG d c r few wn (.ow (.lst (F.map D.st))) (.sh (.int place)) .no (.sh (.int y)) (.sh (.int x)) (.sh (.int k)) (osl a12) (osl a13)) :=
    cb_asg (cb_bin (cb_lst (ds := [.int 0, .int 1, .int 2, .int 3, .int 1]) rfl (by simp)) (cb_bin rfl rfl sub_ii) ek) (by cases a11 <;> rfl)
  obtain ⟨th, eth⟩ : ∃ th : Int, ifM (asB (bin D.lt (vr 11) (ret (.int 2)))) (bin D.add (vr 10) (ifM (asB (bin D.eq (vr 5) (ret (.int 5)))) (bin D.fdiv (vr 2) (ret (.int 2))) (ret (.int 0)))) (bin D.sub (vr 7) (vr 10))
      (BG d c r few wn (.ow (.lst (F.map D.st))) (.sh (.int place)) .no (.sh (.int y)) (.sh (.int x)) (.sh (.int k)) (osl a12) (osl a13)) = .ok (.int th) (BG d c r few wn (.ow (.lst (F.map D.st))) (.sh (.int place)) .no (.sh (.int y)) (.sh (.int x)) (.sh (.int k)) (osl a12) (osl a13)) := by
    have t : asB (bin D.lt (vr 11) (ret (.int 2))) (BG d c r few wn (.ow (.lst (F.map D.st))) (.sh (.int place)) .no (.sh (.int y)) (.sh (.int x)) (.sh (.int k)) (osl a12) (osl a13)) = .ok (decide ((k : Int) < 2)) (BG d c r few wn (.ow (.lst (F.map D.st))) (.sh (.int place)) .no (.sh (.int y)) (.sh (.int x)) (.sh (.int k)) (osl a12) (osl a13)) := cb_asB (cb_bin rfl rfl lt_ii)
    cases hb : decide ((k : Int) < 2) with
    | false => rw [hb] at t; exact ⟨_, cb_ie t (cb_bin rfl rfl sub_ii)⟩
    | true =>
      rw [hb] at t
      have t2 : asB (bin D.eq (vr 5) (ret (.int 5))) (BG d c r few wn (.ow (.lst (F.map D.st))) (.sh (.int place)) .no (.sh (.int y)) (.sh (.int x)) (.sh (.int k)) (osl a12) (osl a13)) = .ok (decide ((wn : Int) = 5)) (BG d c r few wn (.ow (.lst (F.map D.st))) (.sh (.int place)) .no (.sh (.int y)) (.sh (.int x)) (.sh (.int k)) (osl a12) (osl a13)) := cb_asB (cb_bin rfl rfl eq_ii)
      cases hb2 : decide ((wn : Int) = 5) with
      | true => rw [hb2] at t2; exact ⟨_, cb_it t (cb_bin rfl (cb_it t2 (cb_bin rfl rfl (fdiv_ii (by omega) (by omega)))) add_ii)⟩
      | false => rw [hb2] at t2; exact ⟨_, cb_it t (cb_bin rfl (cb_ie t2 rfl) add_ii)⟩
  have s2 := cb_asg (g := stS 12) (Γ2 := BG d c r few wn (.ow (.lst (F.map D.st))) (.sh (.int place)) .no (.sh (.int y)) (.sh (.int x)) (.sh (.int k)) (.sh (.int th)) (osl a13)) eth (by cases a12 <;> rfl)
  obtain ⟨ln, hln, eln⟩ : ∃ ln : Nat, ln < r ∧ ifM (asB (bin D.isin (vr 11) (tupM (consA (ret (.int 1)) (consA (ret (.int 3)) (nilA)))))) (bin D.sub (bin D.sub (vr 3) (ret (.int 1))) (vr 9)) (vr 9)
      (BG d c r few wn (.ow (.lst (F.map D.st))) (.sh (.int place)) .no (.sh (.int y)) (.sh (.int x)) (.sh (.int k)) (.sh (.int th)) (osl a13)) = .ok (.int ln) (BG d c r few wn (.ow (.lst (F.map D.st))) (.sh (.int place)) .no (.sh (.int y)) (.sh (.int x)) (.sh (.int k)) (.sh (.int th)) (osl a13)) := by
    have t : asB (bin D.isin (vr 11) (tupM (consA (ret (.int 1)) (consA (ret (.int 3)) (nilA))))) (BG d c r few wn (.ow (.lst (F.map D.st))) (.sh (.int place)) .no (.sh (.int y)) (.sh (.int x)) (.sh (.int k)) (.sh (.int th)) (osl a13)) = .ok (decide (k = 1 ∨ k = 3)) (BG d c r few wn (.ow (.lst (F.map D.st))) (.sh (.int place)) .no (.sh (.int y)) (.sh (.int x)) (.sh (.int k)) (.sh (.int th)) (osl a13)) :=
      cb_asB (cb_bin rfl (cb_tup (ds := [.int 1, .int 3]) rfl (by simp)) (in13 hk))
    cases hb : decide (k = 1 ∨ k = 3) with
    | true =>
      rw [hb] at t
      refine ⟨r - 1 - y, by omega, cb_it t (cb_bin (cb_bin rfl rfl sub_ii) rfl ?_)⟩
      rw [sub_ii]
      congr 2
      omega
    | false => rw [hb] at t; exact ⟨y, hy, cb_ie t rfl⟩
  have s3 := cb_asg (g := stS 13) (Γ2 := BG d c r few wn (.ow (.lst (F.map D.st))) (.sh (.int place)) .no (.sh (.int y)) (.sh (.int x)) (.sh (.int k)) (.sh (.int th)) (.sh (.int ln))) eln (by cases a13 <;> rfl)
  have m1 : D.mul (.int (y : Int)) (.int (c : Int)) = some (.int ((y * c : Nat) : Int)) := mul_nn (by omega) (by omega)
  have m2 : D.mul (.int (ln : Int)) (.int (c : Int)) = some (.int ((ln * c : Nat) : Int)) := mul_nn (by omega) (by omega)
  have hi := idx_lt hy hx
  obtain ⟨ch, ech, c1, c2⟩ := hC.get (i := y * c + x) (by omega)
  have e1 : pixM 6 (bin D.add (bin D.mul (vr 9) (vr 2)) (vr 10)) (BG d c r few wn (.ow (.lst (F.map D.st))) (.sh (.int place)) .no (.sh (.int y)) (.sh (.int x)) (.sh (.int k)) (.sh (.int th)) (.sh (.int ln))) = .ok (.st [ch]) (BG d c r few wn (.ow (.lst (F.map D.st))) (.sh (.int place)) .no (.sh (.int y)) (.sh (.int x)) (.sh (.int k)) (.sh (.int th)) (.sh (.int ln))) := by
    refine cb_pix rfl rfl (cb_bin (cb_bin rfl rfl m1) rfl add_nn) ?_
    rw [ix_lines (by omega), ech]
  obtain ⟨q, hq⟩ : ∃ q : Nat, (q : Int) = th % (c : Int) := ⟨(th % (c : Int)).toNat, Int.toNat_of_nonneg (Int.emod_nonneg _ (by omega))⟩
  have hq2 : q < c := by
    have := Int.emod_lt_of_pos th (show (0 : Int) < c by omega)
    omega
  have md : D.mod (.int th) (.int (c : Int)) = some (.int (q : Int)) := by rw [mod_ii (by omega), hq]
  have hj := idx_lt hln hq2
  have s4 : subS 6 (pixM 6 (bin D.add (bin D.mul (vr 9) (vr 2)) (vr 10))) (bin D.add (bin D.mul (vr 13) (vr 2)) (bin D.mod (vr 12) (vr 2))) (BG d c r few wn (.ow (.lst (F.map D.st))) (.sh (.int place)) .no (.sh (.int y)) (.sh (.int x)) (.sh (.int k)) (.sh (.int th)) (.sh (.int ln)))
      = .ok .nx (BG d c r few wn (.ow (.lst ((F.set (ln * c + q) [ch]).map D.st))) (.sh (.int place)) .no (.sh (.int y)) (.sh (.int x)) (.sh (.int k)) (.sh (.int th)) (.sh (.int ln))) :=
    cb_sub (i := 6) (s := .ow (.lst (F.map D.st))) e1 rfl rfl (cb_bin (cb_bin rfl rfl m2) (cb_bin rfl rfl md) add_nn) (set_st (F := F) (i := ln * c + q) (by omega))
  exact ⟨F.set (ln * c + q) [ch], some (.int k), some (.int th), some (.int ln), by rw [List.length_set]; exact hF, hC.set c1 c2, (sq_nx s1).trans ((sq_nx s2).trans ((sq_nx s3).trans s4))⟩
end DL.K70
set_option Elab.async false
set_option linter.all false
set_option maxRecDepth 100000
set_option maxHeartbeats 4000000
set_option autoImplicit false
namespace DL.K70
open PySem L2 DL
variable {w h n : Nat} {l : List Nat}
theorem r_band {d : D} (hs : SD n d) (hn : n ≤ 900000) : ∃ (d' : D) (w h : Nat) (l : List Nat), SD (n + 40) d' ∧ VB w h l ∧ VC l ∧ w ≤ 12 ∧ h ≤ 3 ∧ fnM 15 m__law_band [.io d, .sh (.int 6)] = .ok (.bd w h l) [.io d', .sh (.int 6)] := by
  -- columns, rows
  obtain ⟨x1, d1, a1, b1, sd1, e1⟩ := dig (i := 0) (s := .io d) (Γ := [.io d, .sh (.int 6), .no, .no, .no, .no, .no, .no, .no, .no, .no, .no, .no, .no, .no]) (b := 6) (m := vr 1) rfl rfl hs (by omega) (by omega) (by omega) rfl
  obtain ⟨c0, rfl⟩ := Int.eq_ofNat_of_zero_le a1
  obtain ⟨x2, d2, a2, b2, sd2, e2⟩ := dig (i := 0) (s := .io d1) (Γ := [.io d1, .sh (.int 6), .no, .no, .no, .no, .no, .no, .no, .no, .no, .no, .no, .no, .no]) (b := 3) (m := ret (.int 3)) rfl rfl sd1 (by omega) (by omega) (by omega) rfl
  obtain ⟨r0, rfl⟩ := Int.eq_ofNat_of_zero_le a2
  have s1 : asgM (tupM (consA (bin D.add (ret (.int 1)) (callIo 0 (fnM 4 m__law_digit) (consA (vr 1) (nilA)))) (consA (bin D.add (ret (.int 1)) (callIo 0 (fnM 4 m__law_digit) (consA (ret (.int 3)) (nilA)))) (nilA)))) (gtM 2 (unp1 (stS 2) (unp1 (stS 3) unp0)))
      [.io d, .sh (.int 6), .no, .no, .no, .no, .no, .no, .no, .no, .no, .no, .no, .no, .no] = .ok .nx [.io d2, .sh (.int 6), .sh (.int ((c0 + 1 : Nat) : Int)), .sh (.int ((r0 + 1 : Nat) : Int)), .no, .no, .no, .no, .no, .no, .no, .no, .no, .no, .no] :=
    cb_asg (cb_tup (cb_cons (cb_bin rfl e1 one_add) (cb_cons (cb_bin rfl e2 one_add) rfl)) (by simp)) rfl
  obtain ⟨c, hc⟩ : ∃ c, c = c0 + 1 := ⟨_, rfl⟩
  obtain ⟨r, hr⟩ : ∃ r, r = r0 + 1 := ⟨_, rfl⟩
  rw [← hc, ← hr] at s1
  have c1 : 1 ≤ c := by omega
  have c2 : c ≤ 6 := by omega
  have r1 : 1 ≤ r := by omega
  have r2 : r ≤ 3 := by omega
  -- few, way
  obtain ⟨x3, d3, a3, b3, sd3, e3⟩ := dig (i := 0) (s := .io d2) (Γ := [.io d2, .sh (.int 6), .sh (.int c), .sh (.int r), .no, .no, .no, .no, .no, .no, .no, .no, .no, .no, .no]) (b := 3) (m := ret (.int 3)) rfl rfl sd2 (by omega) (by omega) (by omega) rfl
  obtain ⟨f0, rfl⟩ := Int.eq_ofNat_of_zero_le a3
  obtain ⟨x4, d4, a4, b4, sd4, e4⟩ := dig (i := 0) (s := .io d3) (Γ := [.io d3, .sh (.int 6), .sh (.int c), .sh (.int r), .no, .no, .no, .no, .no, .no, .no, .no, .no, .no, .no]) (b := 6) (m := ret (.int 6)) rfl rfl sd3 (by omega) (by omega) (by omega) rfl
  obtain ⟨wn, rfl⟩ := Int.eq_ofNat_of_zero_le a4
  have s2 : asgM (tupM (consA (bin D.add (ret (.int 1)) (callIo 0 (fnM 4 m__law_digit) (consA (ret (.int 3)) (nilA)))) (consA (callIo 0 (fnM 4 m__law_digit) (consA (ret (.int 6)) (nilA))) (nilA)))) (gtM 2 (unp1 (stS 4) (unp1 (stS 5) unp0)))
      [.io d2, .sh (.int 6), .sh (.int c), .sh (.int r), .no, .no, .no, .no, .no, .no, .no, .no, .no, .no, .no] = .ok .nx (BG d4 c r (f0 + 1) wn .no .no .no .no .no .no .no .no) :=
    cb_asg (cb_tup (cb_cons (cb_bin rfl e3 one_add) (cb_cons e4 rfl)) (by simp)) rfl
  obtain ⟨few, hf⟩ : ∃ few, few = f0 + 1 := ⟨_, rfl⟩
  rw [← hf] at s2
  -- cells
  have hm0 : r * c ≤ 18 := Nat.le_trans (Nat.mul_le_mul r2 c2) (by decide)
  obtain ⟨ys, Γ3, e5, ly, py, ⟨d5, sd5, rfl⟩⟩ := cb_lcI (vs := [14]) (mi := rangeM (consA (bin D.mul (vr 2) (vr 3)) (nilA))) (g := stS 14) (e := bin D.ix (ret (.str "abz")) (callIo 0 (fnM 4 m__law_digit) (consA (vr 4) (nilA)))) (Γ := BG d4 c r few wn .no .no .no .no .no .no .no .no) (Γ1 := BG d4 c r few wn .no .no .no .no .no .no .no .no) (Γw := BG d4 c r few wn .no .no .no .no .no .no .no .no) (ds := rng 0 1 (r * c))
    (fun i Γ => ∃ d', SD (n + 4 + i) d' ∧ Γ = BG d' c r few wn .no .no .no .no .no .no .no .no) (fun y => ∃ ch, y = .st [ch] ∧ 97 ≤ ch ∧ ch ≤ 122) (rangeM_n (n := r * c) (cb_cons (cb_bin rfl rfl (by rw [Nat.mul_comm]; exact mul_nn (by omega) (by omega))) rfl) (by omega)) rfl rfl ⟨d4, sd4, rfl⟩ (by
      rintro i x hx Γ ⟨d', sd', rfl⟩
      have hi : i < r * c := by
        have := (List.getElem?_eq_some_iff.mp hx).1
        rwa [rng_len] at this
      obtain ⟨v, d6, v0, v1, sd6, e6⟩ := dig (i := 0) (s := .io d') (Γ := [.io d', .sh (.int 6), .sh (.int c), .sh (.int r), .sh (.int few), .sh (.int wn), .no, .no, .no, .no, .no, .no, .no, .no, .sh x]) (b := (few : Int)) (m := vr 4) rfl rfl sd' (by omega) (by omega) (by omega) rfl
      obtain ⟨ch, h1, h2, ech⟩ := abz_at v0 (by omega)
      exact ⟨[.io d', .sh (.int 6), .sh (.int c), .sh (.int r), .sh (.int few), .sh (.int wn), .no, .no, .no, .no, .no, .no, .no, .no, .sh x], .st [ch], _, BG d6 c r few wn .no .no .no .no .no .no .no .no, rfl, cb_bin rfl e6 ech, ⟨ch, rfl, h1, h2⟩, rfl, d6, sd6, rfl⟩) (by rw [rng_len]; omega)
  obtain ⟨F, rfl, hC⟩ := of_cells py
  rw [List.length_map, rng_len] at ly
  rw [rng_len] at sd5
  have s3 := cb_asg (g := stO 6) (Γ2 := BG d5 c r few wn (.ow (.lst (F.map D.st))) .no .no .no .no .no .no .no) e5 rfl
  -- place
  obtain ⟨x7, d7, a7, b7, sd7, e7⟩ := dig (i := 0) (s := .io d5) (Γ := BG d5 c r few wn (.ow (.lst (F.map D.st))) .no .no .no .no .no .no .no) (b := (c : Int)) (m := vr 2) rfl rfl sd5 (by omega) (by omega) (by omega) rfl
  obtain ⟨place, rfl⟩ := Int.eq_ofNat_of_zero_le a7
  have s4 := cb_asg (g := stS 7) (Γ2 := BG d7 c r few wn (.ow (.lst (F.map D.st))) (.sh (.int place)) .no .no .no .no .no .no) e7 rfl
  -- the way
  obtain ⟨F', g9, g10, g11, g12, g13, lF, cF, s5⟩ : ∃ (F' : List (List Nat)) (g9 g10 g11 g12 g13 : Option D), F'.length = r * c ∧ CS F' ∧ ifM (asB (bin D.gt (vr 5) (ret (.int 0)))) (forM (rangeM (consA (vr 3) (nilA))) (stS 9) (forM (rangeM (consA (vr 2) (nilA))) (stS 10) (sq (asgM (bin D.ix (lstM (consA (ret (.int 0)) (consA (ret (.int 1)) (consA (ret (.int 2)) (consA (ret (.int 3)) (consA (ret (.int 1)) (nilA))))))) (bin D.sub (vr 5) (ret (.int 1)))) (stS 11))
    (sq (asgM (ifM (asB (bin D.lt (vr 11) (ret (.int 2)))) (bin D.add (vr 10) (ifM (asB (bin D.eq (vr 5) (ret (.int 5)))) (bin D.fdiv (vr 2) (ret (.int 2))) (ret (.int 0)))) (bin D.sub (vr 7) (vr 10))) (stS 12))
    (sq (asgM (ifM (asB (bin D.isin (vr 11) (tupM (consA (ret (.int 1)) (consA (ret (.int 3)) (nilA)))))) (bin D.sub (bin D.sub (vr 3) (ret (.int 1))) (vr 9)) (vr 9)) (stS 13))
    (subS 6 (pixM 6 (bin D.add (bin D.mul (vr 9) (vr 2)) (vr 10))) (bin D.add (bin D.mul (vr 13) (vr 2)) (bin D.mod (vr 12) (vr 2))))))))) (ret .nx)
      (BG d7 c r few wn (.ow (.lst (F.map D.st))) (.sh (.int place)) .no .no .no .no .no .no) = .ok .nx (BG d7 c r few wn (.ow (.lst (F'.map D.st))) (.sh (.int place)) .no (osl g9) (osl g10) (osl g11) (osl g12) (osl g13)) := by
    have t : asB (bin D.gt (vr 5) (ret (.int 0))) (BG d7 c r few wn (.ow (.lst (F.map D.st))) (.sh (.int place)) .no .no .no .no .no .no) = .ok (decide ((wn : Int) > 0)) (BG d7 c r few wn (.ow (.lst (F.map D.st))) (.sh (.int place)) .no .no .no .no .no .no) := cb_asB (cb_bin rfl rfl gt_ii)
    cases hb : decide ((wn : Int) > 0) with
    | false =>
      rw [hb] at t
      exact ⟨F, none, none, none, none, none, ly, hC, cb_ie t rfl⟩
    | true =>
      rw [hb] at t
      have hw : 1 ≤ wn := by
        have := of_decide_eq_true hb
        omega
      have i1 : rangeM (consA (vr 3) (nilA)) (BG d7 c r few wn (.ow (.lst (F.map D.st))) (.sh (.int place)) .no .no .no .no .no .no) = .ok (rng 0 1 r) (BG d7 c r few wn (.ow (.lst (F.map D.st))) (.sh (.int place)) .no .no .no .no .no .no) := rangeM_n (n := r) rfl (by omega)
      obtain ⟨Γ8, e8, F8, g9, g10, g11, g12, g13, l8, c8, rfl⟩ := forL_rng (g := stS 9) (body := forM (rangeM (consA (vr 2) (nilA))) (stS 10) (sq (asgM (bin D.ix (lstM (consA (ret (.int 0)) (consA (ret (.int 1)) (consA (ret (.int 2)) (consA (ret (.int 3)) (consA (ret (.int 1)) (nilA))))))) (bin D.sub (vr 5) (ret (.int 1)))) (stS 11))
    (sq (asgM (ifM (asB (bin D.lt (vr 11) (ret (.int 2)))) (bin D.add (vr 10) (ifM (asB (bin D.eq (vr 5) (ret (.int 5)))) (bin D.fdiv (vr 2) (ret (.int 2))) (ret (.int 0)))) (bin D.sub (vr 7) (vr 10))) (stS 12))
    (sq (asgM (ifM (asB (bin D.isin (vr 11) (tupM (consA (ret (.int 1)) (consA (ret (.int 3)) (nilA)))))) (bin D.sub (bin D.sub (vr 3) (ret (.int 1))) (vr 9)) (vr 9)) (stS 13))
    (subS 6 (pixM 6 (bin D.add (bin D.mul (vr 9) (vr 2)) (vr 10))) (bin D.add (bin D.mul (vr 13) (vr 2)) (bin D.mod (vr 12) (vr 2)))))))) (n := r)
        (fun j Γ => ∃ (F : List (List Nat)) (g9 g10 g11 g12 g13 : Option D), F.length = r * c ∧ CS F ∧ Γ = BG d7 c r few wn (.ow (.lst (F.map D.st))) (.sh (.int place)) .no (osl g9) (osl g10) (osl g11) (osl g12) (osl g13)) (by
          rintro y hy Γ ⟨F, g9, g10, g11, g12, g13, lF, cF, rfl⟩
          have i2 : rangeM (consA (vr 2) (nilA)) (BG d7 c r few wn (.ow (.lst (F.map D.st))) (.sh (.int place)) .no (.sh (.int y)) (osl g10) (osl g11) (osl g12) (osl g13)) = .ok (rng 0 1 c) (BG d7 c r few wn (.ow (.lst (F.map D.st))) (.sh (.int place)) .no (.sh (.int y)) (osl g10) (osl g11) (osl g12) (osl g13)) := rangeM_n (n := c) rfl (by omega)
          obtain ⟨Γ9, e9, F9, k10, k11, k12, k13, l9, c9, rfl⟩ := forL_rng (g := stS 10) (body := sq (asgM (bin D.ix (lstM (consA (ret (.int 0)) (consA (ret (.int 1)) (consA (ret (.int 2)) (consA (ret (.int 3)) (consA (ret (.int 1)) (nilA))))))) (bin D.sub (vr 5) (ret (.int 1)))) (stS 11))
    (sq (asgM (ifM (asB (bin D.lt (vr 11) (ret (.int 2)))) (bin D.add (vr 10) (ifM (asB (bin D.eq (vr 5) (ret (.int 5)))) (bin D.fdiv (vr 2) (ret (.int 2))) (ret (.int 0)))) (bin D.sub (vr 7) (vr 10))) (stS 12))
    (sq (asgM (ifM (asB (bin D.isin (vr 11) (tupM (consA (ret (.int 1)) (consA (ret (.int 3)) (nilA)))))) (bin D.sub (bin D.sub (vr 3) (ret (.int 1))) (vr 9)) (vr 9)) (stS 13))
    (subS 6 (pixM 6 (bin D.add (bin D.mul (vr 9) (vr 2)) (vr 10))) (bin D.add (bin D.mul (vr 13) (vr 2)) (bin D.mod (vr 12) (vr 2))))))) (n := c)
            (fun j Γ => ∃ (F : List (List Nat)) (g10 g11 g12 g13 : Option D), F.length = r * c ∧ CS F ∧ Γ = BG d7 c r few wn (.ow (.lst (F.map D.st))) (.sh (.int place)) .no (.sh (.int y)) (osl g10) (osl g11) (osl g12) (osl g13)) (by
              rintro x hx Γ ⟨F, g10, g11, g12, g13, lF, cF, rfl⟩
              obtain ⟨F', q11, q12, q13, l', c', e'⟩ := band_turn (d := d7) (few := few) (place := place) (a11 := g11) (a12 := g12) (a13 := g13) c1 c2 r2 hw (by omega) hy hx (by omega) lF cF
              exact ⟨BG d7 c r few wn (.ow (.lst (F.map D.st))) (.sh (.int place)) .no (.sh (.int y)) (.sh (.int x)) (osl g11) (osl g12) (osl g13), _, by cases g10 <;> rfl, e', F', some (.int x), q11, q12, q13, l', c', rfl⟩) (Γ := BG d7 c r few wn (.ow (.lst (F.map D.st))) (.sh (.int place)) .no (.sh (.int y)) (osl g10) (osl g11) (osl g12) (osl g13)) ⟨F, g10, g11, g12, g13, lF, cF, rfl⟩
          exact ⟨BG d7 c r few wn (.ow (.lst (F.map D.st))) (.sh (.int place)) .no (.sh (.int y)) (osl g10) (osl g11) (osl g12) (osl g13), _, by cases g9 <;> rfl, (for_ok i2).trans e9, F9, some (.int y), k10, k11, k12, k13, l9, c9, rfl⟩) (Γ := BG d7 c r few wn (.ow (.lst (F.map D.st))) (.sh (.int place)) .no .no .no .no .no .no) ⟨F, none, none, none, none, none, ly, hC, rfl⟩
      exact ⟨F8, g9, g10, g11, g12, g13, l8, c8, cb_it t ((for_ok i1).trans e8)⟩
  -- the text
  obtain ⟨m, hm1, hm2, em⟩ : ∃ m : Nat, 1 ≤ m ∧ m ≤ 2 ∧ ∀ s6 s7 s8 s9 s10 s11 s12 s13, ifM (asB (bin D.eq (vr 5) (ret (.int 1)))) (ret (D.int 2)) (ret (D.int 1)) (BG d7 c r few wn s6 s7 s8 s9 s10 s11 s12 s13) = .ok (.int (m : Int)) (BG d7 c r few wn s6 s7 s8 s9 s10 s11 s12 s13) := by
    by_cases z : (wn : Int) = 1
    · exact ⟨2, by omega, by omega, fun _ _ _ _ _ _ _ _ => cb_it (cb_asB (cb_bin rfl rfl (by rw [eq_ii, decide_eq_true z]))) rfl⟩
    · exact ⟨1, by omega, by omega, fun _ _ _ _ _ _ _ _ => cb_ie (cb_asB (cb_bin rfl rfl (by rw [eq_ii, decide_eq_false z]))) rfl⟩
  let X : D := .lst (F'.map D.st)
  have hX : X = .lst (F'.map D.st) := rfl
  let S6 : Nat → Sl := fun i => if i = 0 then .ow X else .sh X
  obtain ⟨zs, Γ6, e10, lz, pz, rfl⟩ := cb_lcI (vs := [9]) (mi := rangeM (consA (vr 3) (nilA))) (g := stS 9) (e := bin D.mul (strM D.join (ret (.str "")) (sliceM (vr 6) (someI (bin D.mul (vr 9) (vr 2))) (someI (bin D.add (bin D.mul (vr 9) (vr 2)) (vr 2))))) (ifM (asB (bin D.eq (vr 5) (ret (.int 1)))) (ret (.int 2)) (ret (.int 1))))
    (Γ := BG d7 c r few wn (.ow X) (.sh (.int place)) .no (osl g9) (osl g10) (osl g11) (osl g12) (osl g13)) (Γ1 := BG d7 c r few wn (.ow X) (.sh (.int place)) .no (osl g9) (osl g10) (osl g11) (osl g12) (osl g13)) (Γw := BG d7 c r few wn (.ow X) (.sh (.int place)) .no .no (osl g10) (osl g11) (osl g12) (osl g13)) (ds := rng 0 1 r)
    (fun i Γ => Γ = BG d7 c r few wn (S6 i) (.sh (.int place)) .no .no (osl g10) (osl g11) (osl g12) (osl g13)) (fun y => ∃ q : List Nat, y = .st q ∧ q.length = m * c ∧ VC q) (rangeM_n (n := r) rfl (by omega)) (by cases g9 <;> rfl) (by cases g9 <;> rfl) rfl (by
      rintro i x hx Γ rfl
      obtain ⟨hi, rfl⟩ := rng_get hx
      have e0 : (0 : Int) + (i : Int) * 1 = (i : Int) := by omega
      rw [e0]
      have m1 : D.mul (.int (i : Int)) (.int (c : Int)) = some (.int ((i * c : Nat) : Int)) := mul_nn (by omega) (by omega)
      have hb : i * c + c ≤ F'.length := by
        have : (i + 1) * c ≤ r * c := Nat.mul_le_mul_right c (by omega)
        rw [Nat.succ_mul] at this
        omega
      have sl := slice_cells (F := F') (a := i * c) (b := i * c + c) (by omega) hb
      have cc : CS ((F'.drop (i * c)).take (i * c + c - i * c)) := cF.cut
      have cl : ((F'.drop (i * c)).take (i * c + c - i * c)).length = c := by
        rw [List.length_take, List.length_drop]
        omega
      generalize (F'.drop (i * c)).take (i * c + c - i * c) = Q at sl cc cl
      obtain ⟨f1, f2⟩ := cc.flat
      rw [cl] at f1
      obtain ⟨v1, v2⟩ := rep_vc (n := m) f2
      have vr6 : vr 6 (BG d7 c r few wn (S6 i) (.sh (.int place)) .no (.sh (.int i)) (osl g10) (osl g11) (osl g12) (osl g13)) = .ok X (BG d7 c r few wn (.sh X) (.sh (.int place)) .no (.sh (.int i)) (osl g10) (osl g11) (osl g12) (osl g13)) := by
        by_cases z : i = 0
        · have : S6 i = .ow X := if_pos z
          rw [this]
          rfl
        · have : S6 i = .sh X := if_neg z
          rw [this]
          rfl
      have s6' : S6 (i + 1) = .sh X := if_neg (by omega)
      refine ⟨BG d7 c r few wn (S6 i) (.sh (.int place)) .no (.sh (.int i)) (osl g10) (osl g11) (osl g12) (osl g13), .st (List.replicate m Q.flatten).flatten, BG d7 c r few wn (.sh X) (.sh (.int place)) .no (.sh (.int i)) (osl g10) (osl g11) (osl g12) (osl g13), BG d7 c r few wn (S6 (i + 1)) (.sh (.int place)) .no .no (osl g10) (osl g11) (osl g12) (osl g13), rfl, ?_, ⟨_, rfl, by rw [v2, f1], v1⟩, by rw [s6']; rfl, rfl⟩
      have mq : Q.flatten.length * m ≤ 1000 := by
        rw [f1]
        exact Nat.le_trans (Nat.mul_le_mul c2 hm2) (by decide)
      exact cb_bin (cb_str rfl (cb_slice vr6 (cb_some (cb_bin rfl rfl m1)) (cb_some (cb_bin (cb_bin rfl rfl m1) rfl add_nn)) sl) (join_st (by omega))) (em _ _ _ _ _ _ _ _) (mul_st (by omega) (by omega))) (by rw [rng_len]; omega)
  obtain ⟨Z, rfl, lZ, vZ⟩ := of_texts pz
  rw [List.length_map, rng_len] at lz
  rw [rng_len] at e10
  have S6r : S6 r = .sh X := if_neg (by omega)
  rw [S6r] at e10
  rw [lz] at lZ
  have hlen : r * (m * c) ≤ 36 := Nat.le_trans (Nat.mul_le_mul r2 (Nat.mul_le_mul hm2 c2)) (by decide)
  have s6 : asgM (strM D.join (ret (.str "")) (lcM [9] (rangeM (consA (vr 3) (nilA))) (stS 9) (ret true) (bin D.mul (strM D.join (ret (.str "")) (sliceM (vr 6) (someI (bin D.mul (vr 9) (vr 2))) (someI (bin D.add (bin D.mul (vr 9) (vr 2)) (vr 2))))) (ifM (asB (bin D.eq (vr 5) (ret (.int 1)))) (ret (.int 2)) (ret (.int 1)))))) (stS 8)
      (BG d7 c r few wn (.ow X) (.sh (.int place)) .no (osl g9) (osl g10) (osl g11) (osl g12) (osl g13)) = .ok .nx (BG d7 c r few wn (.sh X) (.sh (.int place)) (.sh (.st Z.flatten)) (osl g9) (osl g10) (osl g11) (osl g12) (osl g13)) :=
    cb_asg (cb_str rfl e10 (join_st (by omega))) (by cases g9 <;> rfl)
  refine ⟨d7, c * m, r, Z.flatten, sd7.mono (by omega), ⟨Nat.mul_pos c1 hm1, Nat.le_trans (Nat.mul_le_mul c2 hm2) (by decide), r1, by omega, ?_⟩, vZ, Nat.le_trans (Nat.mul_le_mul c2 hm2) (by decide), r2, ?_⟩
  · rw [lZ, Nat.mul_comm m c, Nat.mul_comm r]
  · refine fnM_rt (Δ := BG d7 c r few wn (.sh X) (.sh (.int place)) (.sh (.st Z.flatten)) (osl g9) (osl g10) (osl g11) (osl g12) (osl g13)) ?_ rfl
    show m__law_band [.io d, .sh (.int 6), .no, .no, .no, .no, .no, .no, .no, .no, .no, .no, .no, .no, .no] = _
    unfold m__law_band
    refine (sq_nx s1).trans ((sq_nx s2).trans ((sq_nx s3).trans ((sq_nx s4).trans ((sq_nx s5).trans ((sq_nx s6).trans (cb_rt ?_))))))
    exact cb_tup (cb_cons (cb_bin rfl (em _ _ _ _ _ _ _ _) (mul_nn (by omega) (by omega))) (cb_cons rfl (cb_cons rfl rfl))) (by simp)
end DL.K70
set_option Elab.async false
set_option linter.all false
set_option maxRecDepth 100000
set_option maxHeartbeats 4000000
set_option autoImplicit false
namespace DL
open PySem L2
theorem cb_callIo {i : Nat} {s : Sl} {c c' v : D} {m : M D} {ma : M (List D)} {ds : List D} {Γ Δ : SEnv} (ha : ma Γ = .ok ds Γ) (hi : Γ[i]? = some s) (ho : s.own = some c) (hm : m (.io c :: ds.map .sh) = .ok v (.io c' :: Δ)) : callIo i m ma Γ = .ok v (Γ.set i (s.put c')) := by
  simp only [callIo, gdM, hi, ho, bnd, ha, hm]
end DL
namespace DL.K70
open PySem L2 DL
variable {w h n : Nat} {l : List Nat}
abbrev OG (d b : D) (way w : Nat) (s4 s5 s6 s7 : Sl) : SEnv := [.io d, .sh b, .sh (.int way), .sh (.int w), s4, s5, s6, s7]
theorem vc_app {a b : List Nat} (ha : VC a) (hb : VC b) : VC (a ++ b) := fun c hc => (List.mem_append.mp hc).elim (ha c) (hb c)
theorem vc_take {a : List Nat} {k : Nat} (ha : VC a) : VC (a.take k) := fun c hc => ha c (List.mem_of_mem_take hc)
theorem vc_drop {a : List Nat} {k : Nat} (ha : VC a) : VC (a.drop k) := fun c hc => ha c (List.mem_of_mem_drop hc)
/-- one cell drawn anew -/
theorem ot1 {d b0 : D} {way : Nat} (hs : SD n d) (hn : n ≤ 900000) (v0 : VB w h l) {C : List Nat} (v : VB w h C) (c : VC C) : ∃ (d' : D) (l' : List Nat) (s5 : Option D), SD (n + 2) d' ∧ VB w h l' ∧ VC l' ∧
    ifM (asB (bin D.eq (vr 2) (ret (.int 1)))) (sq (asgM (callIo 0 (fnM 4 m__law_digit) (consA (appM D.len (consA (bin D.ix (vr 1) (ret (.int 2))) (nilA))) (nilA))) (stS 5))
    (asgM (tupM (consA (vr 3) (consA (bin D.ix (vr 1) (ret (.int 1))) (consA (bin D.add (bin D.add (sliceM (bin D.ix (vr 4) (ret (.int 2))) (ret none) (someI (vr 5))) (bin D.ix (ret (.str "abz")) (callIo 0 (fnM 4 m__law_digit) (consA (ret (.int 3)) (nilA))))) (sliceM (bin D.ix (vr 4) (ret (.int 2))) (someI (bin D.add (vr 5) (ret (.int 1)))) (ret none))) (nilA))))) (stS 4))) (ret .nx)
      (OG d (.bd w h l) way w (.sh (.bd w h C)) .no .no .no) = .ok .nx (OG d' (.bd w h l) way w (.sh (.bd w h l')) (osl s5) .no .no) := by
  have t : asB (bin D.eq (vr 2) (ret (.int 1))) (OG d (.bd w h l) way w (.sh (.bd w h C)) .no .no .no) = .ok (decide ((way : Int) = 1)) (OG d (.bd w h l) way w (.sh (.bd w h C)) .no .no .no) := cb_asB (cb_bin rfl rfl eq_ii)
  have sm := v.small
  have sm0 := v0.small
  have le : C.length = l.length := by rw [v.len, v0.len]
  have lp : 0 < l.length := by rw [v0.len]; exact Nat.mul_pos v0.w1 v0.h1
  cases hb : decide ((way : Int) = 1) with
  | false => rw [hb] at t; exact ⟨d, C, none, hs.mono (by omega), v, c, cb_ie t rfl⟩
  | true =>
    rw [hb] at t
    obtain ⟨x, d1, x0, x1, sd1, e1⟩ := dig (i := 0) (s := .io d) (Γ := OG d (.bd w h l) way w (.sh (.bd w h C)) .no .no .no) (b := (l.length : Int)) (m := appM D.len (consA (bin D.ix (vr 1) (ret (.int 2))) (nilA))) rfl rfl hs (by omega) (by omega) (by omega) (cb_app (cb_cons (cb_bin rfl rfl rfl) rfl) (len_st (by omega)))
    obtain ⟨a, rfl⟩ := Int.eq_ofNat_of_zero_le x0
    have ha : a < C.length := by omega
    obtain ⟨y, d2, y0, y1, sd2, e2⟩ := dig (i := 0) (s := .io d1) (Γ := OG d1 (.bd w h l) way w (.sh (.bd w h C)) (.sh (.int a)) .no .no) (b := 3) (m := ret (.int 3)) rfl rfl sd1 (by omega) (by omega) (by omega) rfl
    obtain ⟨ch, h1, h2, ech⟩ := abz_at y0 y1
    have vcc : VC [ch] := fun z hz => by rw [List.mem_singleton] at hz; subst hz; exact ⟨h1, h2⟩
    have s1 : asgM (callIo 0 (fnM 4 m__law_digit) (consA (appM D.len (consA (bin D.ix (vr 1) (ret (.int 2))) (nilA))) (nilA))) (stS 5) (OG d (.bd w h l) way w (.sh (.bd w h C)) .no .no .no) = .ok .nx (OG d1 (.bd w h l) way w (.sh (.bd w h C)) (.sh (.int a)) .no .no) := cb_asg e1 rfl
    have e3 : bin D.add (bin D.add (sliceM (bin D.ix (vr 4) (ret (.int 2))) (ret none) (someI (vr 5))) (bin D.ix (ret (.str "abz")) (callIo 0 (fnM 4 m__law_digit) (consA (ret (.int 3)) (nilA))))) (sliceM (bin D.ix (vr 4) (ret (.int 2))) (someI (bin D.add (vr 5) (ret (.int 1)))) (ret none))
        (OG d1 (.bd w h l) way w (.sh (.bd w h C)) (.sh (.int a)) .no .no) = .ok (.st (C.take a ++ [ch] ++ C.drop (a + 1))) (OG d2 (.bd w h l) way w (.sh (.bd w h C)) (.sh (.int a)) .no .no) :=
      cb_bin (cb_bin (cb_slice (cb_bin rfl rfl rfl) rfl (cb_some rfl) (slice_to (by omega))) (cb_bin rfl e2 ech) (add_st (by rw [List.length_take]; simp; omega))) (cb_slice (cb_bin rfl rfl rfl) (cb_some (cb_bin rfl rfl (add_nn (b := 1)))) rfl (slice_from (by omega) (by omega))) (add_st (by simp; omega))
    have s2 : asgM (tupM (consA (vr 3) (consA (bin D.ix (vr 1) (ret (.int 1))) (consA (bin D.add (bin D.add (sliceM (bin D.ix (vr 4) (ret (.int 2))) (ret none) (someI (vr 5))) (bin D.ix (ret (.str "abz")) (callIo 0 (fnM 4 m__law_digit) (consA (ret (.int 3)) (nilA))))) (sliceM (bin D.ix (vr 4) (ret (.int 2))) (someI (bin D.add (vr 5) (ret (.int 1)))) (ret none))) (nilA))))) (stS 4)
        (OG d1 (.bd w h l) way w (.sh (.bd w h C)) (.sh (.int a)) .no .no) = .ok .nx (OG d2 (.bd w h l) way w (.sh (.bd w h (C.take a ++ [ch] ++ C.drop (a + 1)))) (.sh (.int a)) .no .no) :=
      cb_asg (cb_tup (cb_cons rfl (cb_cons (cb_bin rfl rfl rfl) (cb_cons e3 rfl))) (by simp)) rfl
    refine ⟨d2, C.take a ++ [ch] ++ C.drop (a + 1), some (.int a), sd2.mono (by omega), ⟨v.w1, v.w2, v.h1, v.h2, ?_⟩, vc_app (vc_app (vc_take c) vcc) (vc_drop c), cb_it t ((sq_nx s1).trans s2)⟩
    have := v.len
    simp only [List.length_append, List.length_take, List.length_drop, List.length_cons, List.length_nil]
    omega
/-- the rows written twice -/
theorem ot2 {d : D} {way : Nat} {s5 : Option D} (hw12 : w ≤ 12) (v0 : VB w h l) {C : List Nat} (v : VB w h C) (c : VC C) : ∃ (w' : Nat) (l' : List Nat) (s6 : Option D), VB w' h l' ∧ VC l' ∧ (way ≠ 2 → w' = w) ∧
    ifM (asB (bin D.eq (vr 2) (ret (.int 2)))) (sq (asgM (strM D.join (ret (.str "")) (lcM [7] (rangeM (consA (bin D.ix (vr 1) (ret (.int 1))) (nilA))) (stS 7) (ret true) (bin D.mul (sliceM (bin D.ix (vr 4) (ret (.int 2))) (someI (bin D.mul (vr 7) (vr 3))) (someI (bin D.add (bin D.mul (vr 7) (vr 3)) (vr 3)))) (ret (.int 2))))) (stS 6))
    (asgM (tupM (consA (bin D.mul (ret (.int 2)) (vr 3)) (consA (bin D.ix (vr 1) (ret (.int 1))) (consA (vr 6) (nilA))))) (stS 4))) (ret .nx)
      (OG d (.bd w h l) way w (.sh (.bd w h C)) (osl s5) .no .no) = .ok .nx (OG d (.bd w h l) way w (.sh (.bd w' h l')) (osl s5) (osl s6) .no) := by
  have t : asB (bin D.eq (vr 2) (ret (.int 2))) (OG d (.bd w h l) way w (.sh (.bd w h C)) (osl s5) .no .no) = .ok (decide ((way : Int) = 2)) (OG d (.bd w h l) way w (.sh (.bd w h C)) (osl s5) .no .no) := cb_asB (cb_bin rfl rfl eq_ii)
  have hw := v.w1
  have hh := v.h1
  have hh2 := v.h2
  by_cases z : (way : Int) = 2
  · rw [decide_eq_true z] at t
    obtain ⟨ys, Γ6, e6, ly, py, rfl⟩ := cb_lcI (vs := [7]) (mi := rangeM (consA (bin D.ix (vr 1) (ret (.int 1))) (nilA))) (g := stS 7) (e := bin D.mul (sliceM (bin D.ix (vr 4) (ret (.int 2))) (someI (bin D.mul (vr 7) (vr 3))) (someI (bin D.add (bin D.mul (vr 7) (vr 3)) (vr 3)))) (ret (.int 2)))
      (Γ := OG d (.bd w h l) way w (.sh (.bd w h C)) (osl s5) .no .no) (Γ1 := OG d (.bd w h l) way w (.sh (.bd w h C)) (osl s5) .no .no) (Γw := OG d (.bd w h l) way w (.sh (.bd w h C)) (osl s5) .no .no) (ds := rng 0 1 h)
      (fun i Γ => Γ = OG d (.bd w h l) way w (.sh (.bd w h C)) (osl s5) .no .no) (fun y => ∃ q : List Nat, y = .st q ∧ q.length = 2 * w ∧ VC q) (rangeM_n (n := h) (cb_cons (cb_bin rfl rfl rfl) rfl) (by omega)) rfl rfl rfl (by
        rintro i x hx Γ rfl
        obtain ⟨hi, rfl⟩ := rng_get hx
        have e0 : (0 : Int) + (i : Int) * 1 = (i : Int) := by omega
        rw [e0]
        have m1 : D.mul (.int (i : Int)) (.int (w : Int)) = some (.int ((i * w : Nat) : Int)) := mul_nn (by omega) (by omega)
        have rl := row_len v hi
        have rc : VC (rowOf w C i) := vc_take (vc_drop c)
        obtain ⟨v1, v2⟩ := rep_vc (n := 2) rc
        refine ⟨OG d (.bd w h l) way w (.sh (.bd w h C)) (osl s5) .no (.sh (.int i)), .st (List.replicate 2 (rowOf w C i)).flatten, OG d (.bd w h l) way w (.sh (.bd w h C)) (osl s5) .no (.sh (.int i)), OG d (.bd w h l) way w (.sh (.bd w h C)) (osl s5) .no .no, rfl, ?_, ⟨_, rfl, by rw [v2, rl], v1⟩, rfl, rfl⟩
        exact cb_bin (cb_slice (cb_bin rfl rfl rfl) (cb_some (cb_bin rfl rfl m1)) (cb_some (cb_bin (cb_bin rfl rfl m1) rfl add_nn)) (slice_row v hi)) rfl (mul_st (n := 2) (by omega) (by omega))) (by rw [rng_len]; omega)
    obtain ⟨Z, rfl, lZ, vZ⟩ := of_texts py
    rw [List.length_map, rng_len] at ly
    rw [ly] at lZ
    have hb : h * (2 * w) ≤ 10 * 24 := Nat.mul_le_mul hh2 (by omega)
    have s1 := cb_asg (g := stS 6) (Γ2 := OG d (.bd w h l) way w (.sh (.bd w h C)) (osl s5) (.sh (.st Z.flatten)) .no) (cb_str (g := D.join) (ma := ret (.str "")) (z := "") (Γ1 := OG d (.bd w h l) way w (.sh (.bd w h C)) (osl s5) .no .no) rfl e6 (join_st (by omega))) rfl
    refine ⟨2 * w, Z.flatten, some (.st Z.flatten), ⟨by omega, by omega, hh, hh2, by rw [lZ, Nat.mul_comm]⟩, vZ, fun q => absurd (by exact_mod_cast z) q, cb_it t ((sq_nx s1).trans ?_)⟩
    exact cb_asg (cb_tup (cb_cons (cb_bin rfl rfl (mul_nn (a := 2) (by omega) (by omega))) (cb_cons (cb_bin rfl rfl rfl) (cb_cons rfl rfl))) (by simp)) rfl
  · rw [decide_eq_false z] at t
    exact ⟨w, C, none, v, c, fun _ => rfl, cb_ie t rfl⟩
/-- one row more -/
theorem ot3 {d : D} {way w1 : Nat} {s5 s6 : Option D} (h3 : h ≤ 3) (hw : way ≠ 2 → w1 = w) (v0 : VB w h l) {C : List Nat} (v : VB w1 h C) (c : VC C) : ∃ (w' h' : Nat) (l' : List Nat), VB w' h' l' ∧ VC l' ∧
    ifM (asB (bin D.eq (vr 2) (ret (.int 3)))) (asgM (tupM (consA (vr 3) (consA (bin D.add (bin D.ix (vr 1) (ret (.int 1))) (ret (.int 1))) (consA (bin D.add (bin D.ix (vr 4) (ret (.int 2))) (sliceM (bin D.ix (vr 4) (ret (.int 2))) (ret none) (someI (vr 3)))) (nilA))))) (stS 4)) (ret .nx)
      (OG d (.bd w h l) way w (.sh (.bd w1 h C)) (osl s5) (osl s6) .no) = .ok .nx (OG d (.bd w h l) way w (.sh (.bd w' h' l')) (osl s5) (osl s6) .no) := by
  have t : asB (bin D.eq (vr 2) (ret (.int 3))) (OG d (.bd w h l) way w (.sh (.bd w1 h C)) (osl s5) (osl s6) .no) = .ok (decide ((way : Int) = 3)) (OG d (.bd w h l) way w (.sh (.bd w1 h C)) (osl s5) (osl s6) .no) := cb_asB (cb_bin rfl rfl eq_ii)
  by_cases z : (way : Int) = 3
  · rw [decide_eq_true z] at t
    have e : w1 = w := hw (by omega)
    subst e
    have sm := v.small
    have hl := v.len
    have hlw : w1 ≤ C.length := by rw [hl]; exact Nat.le_mul_of_pos_right _ v.h1
    refine ⟨w1, h + 1, C ++ C.take w1, ⟨v.w1, v.w2, by omega, by omega, ?_⟩, vc_app c (vc_take c), cb_it t ?_⟩
    · rw [List.length_append, List.length_take, Nat.min_eq_left hlw, hl, Nat.mul_succ]
    · exact cb_asg (cb_tup (cb_cons rfl (cb_cons (cb_bin (cb_bin rfl rfl rfl) rfl (add_nn (b := 1))) (cb_cons (cb_bin (cb_bin rfl rfl rfl) (cb_slice (cb_bin rfl rfl rfl) rfl (cb_some rfl) (slice_to (by omega))) (add_st (by rw [List.length_take]; omega))) rfl))) (by simp)) rfl
  · rw [decide_eq_false z] at t
    exact ⟨w1, h, C, v, c, cb_ie t rfl⟩
theorem r_other {d : D} (hs : SD n d) (hn : n ≤ 800000) (v : VB w h l) (c : VC l) (hw : w ≤ 12) (hh : h ≤ 3) : ∃ (d' : D) (w2 h2 : Nat) (l2 : List Nat), SD (n + 50) d' ∧ VB w2 h2 l2 ∧ VC l2 ∧
    fnM 8 m__law_other [.io d, .sh (.bd w h l)] = .ok (.bd w2 h2 l2) [.io d', .sh (.bd w h l)] := by
  obtain ⟨x1, d1, a1, b1, sd1, e1⟩ := dig (i := 0) (s := .io d) (Γ := [.io d, .sh (.bd w h l), .no, .no, .no, .no, .no, .no]) (b := 6) (m := ret (.int 6)) rfl rfl hs (by omega) (by omega) (by omega) rfl
  obtain ⟨way, rfl⟩ := Int.eq_ofNat_of_zero_le a1
  have s1 : asgM (tupM (consA (callIo 0 (fnM 4 m__law_digit) (consA (ret (.int 6)) (nilA))) (consA (bin D.ix (vr 1) (ret (.int 0))) (nilA)))) (gtM 2 (unp1 (stS 2) (unp1 (stS 3) unp0))) [.io d, .sh (.bd w h l), .no, .no, .no, .no, .no, .no] = .ok .nx (OG d1 (.bd w h l) way w .no .no .no .no) :=
    cb_asg (cb_tup (cb_cons e1 (cb_cons (cb_bin rfl rfl rfl) rfl)) (by simp)) rfl
  have t : asB (bin D.eq (vr 2) (ret (.int 0))) (OG d1 (.bd w h l) way w .no .no .no .no) = .ok (decide ((way : Int) = 0)) (OG d1 (.bd w h l) way w .no .no .no .no) := cb_asB (cb_bin rfl rfl eq_ii)
  by_cases z : (way : Int) = 0
  · rw [decide_eq_true z] at t
    obtain ⟨d2, w2, h2, l2, sd2, v2, c2, _, _, e2⟩ := r_band sd1 (by omega)
    refine ⟨d2, w2, h2, l2, sd2.mono (by omega), v2, c2, ?_⟩
    refine fnM_rt (Δ := OG d2 (.bd w h l) way w .no .no .no .no) ?_ rfl
    show m__law_other [.io d, .sh (.bd w h l), .no, .no, .no, .no, .no, .no] = _
    unfold m__law_other
    exact (sq_nx s1).trans (sq_rt (cb_it t (cb_rt (cb_callIo (ds := [.int 6]) (s := .io d1) (c := d1) rfl rfl rfl e2))))
  · rw [decide_eq_false z] at t
    have s2 : ifM (asB (bin D.eq (vr 2) (ret (.int 0)))) (rtM (callIo 0 (fnM 15 m__law_band) (consA (ret (.int 6)) (nilA)))) (ret .nx) (OG d1 (.bd w h l) way w .no .no .no .no) = .ok .nx (OG d1 (.bd w h l) way w .no .no .no .no) := cb_ie t rfl
    obtain ⟨k0, d2, k1, k2, sd2, e2⟩ := dig (i := 0) (s := .io d1) (Γ := OG d1 (.bd w h l) way w .no .no .no .no) (b := 4) (m := ret (.int 4)) rfl rfl sd1 (by omega) (by omega) (by omega) rfl
    obtain ⟨k, rfl⟩ := Int.eq_ofNat_of_zero_le k1
    obtain ⟨s, d3, s0, s9, sd3, e3⟩ := dig (i := 0) (s := .io d2) (Γ := OG d2 (.bd w h l) way w .no .no .no .no) (b := 30) (m := ret (.int 30)) rfl rfl sd2 (by omega) (by omega) (by omega) rfl
    have s3 : asgM (callM (fnM 7 m__law_carried) (consA (vr 1) (consA (tupM (consA (callIo 0 (fnM 4 m__law_digit) (consA (ret (.int 4)) (nilA))) (consA (callIo 0 (fnM 4 m__law_digit) (consA (ret (.int 30)) (nilA))) (nilA)))) (nilA)))) (stS 4) (OG d1 (.bd w h l) way w .no .no .no .no) = .ok .nx (OG d3 (.bd w h l) way w (.sh (.bd w h (carryL w h l k s))) .no .no .no) :=
      cb_asg (cb_call (ds := [.bd w h l, .tup [.int k, .int s]]) (cb_cons rfl (cb_cons (cb_tup (cb_cons e2 (cb_cons e3 rfl)) (by simp)) rfl)) (r_lcarried v (by omega))) rfl
    obtain ⟨d4, l4, q5, sd4, v4, c4, s4⟩ := ot1 (b0 := .non) (way := way) sd3 (by omega) v (carry_vb v (k := k) (s := s)) (carry_vc c)
    obtain ⟨w5, l5, q6, v5, c5, hw5, s5⟩ := ot2 (d := d4) (way := way) (s5 := q5) hw v v4 c4
    obtain ⟨w6, h6, l6, v6, c6, s6⟩ := ot3 (d := d4) (way := way) (s5 := q5) (s6 := q6) hh hw5 v v5 c5
    refine ⟨d4, w6, h6, l6, sd4.mono (by omega), v6, c6, ?_⟩
    refine fnM_rt (Δ := OG d4 (.bd w h l) way w (.sh (.bd w6 h6 l6)) (osl q5) (osl q6) .no) ?_ rfl
    show m__law_other [.io d, .sh (.bd w h l), .no, .no, .no, .no, .no, .no] = _
    unfold m__law_other
    exact (sq_nx s1).trans ((sq_nx s2).trans ((sq_nx s3).trans ((sq_nx s4).trans ((sq_nx s5).trans ((sq_nx s6).trans rfl)))))
end DL.K70
set_option Elab.async false
set_option linter.all false
set_option maxRecDepth 100000
set_option maxHeartbeats 4000000
set_option autoImplicit false
namespace DL
open PySem L2
variable {Γ Γ' Γ1 Γ2 Γ3 Δ : SEnv}
theorem cb_callL {i : Nat} {tab : Addr → Option (M D)} {ma : M (List D)} {f : Addr} {m : M D} {r : Res D} (hi : Γ[i]? = some (.sh (.ptr f))) (ht : tab f = some m) (h : callM m ma Γ = r) : callL i tab ma Γ = r := by
  unfold callL
  rw [hi]
  simp only [ht]
  exact h
theorem cb_appS {i : Nat} {m : M D} {s : Sl} {ds : List D} {v : D} (hi : Γ[i]? = some s) (ho : s.own = some (.lst ds)) (hm : m Γ = .ok v Γ) (hl : ds.length ≤ 1000) : appS i m Γ = .ok .nx (Γ.set i (s.put (.lst (ds ++ [v])))) := by
  have hs : (1001 : Nat) ≤ sizeLine := by decide
  have ea : D.app v (.lst ds) = some (.lst (ds ++ [v])) := by
    show (if decide (ds.length < sizeLine) = true then some (D.lst (ds ++ [v])) else none) = _
    rw [if_pos (decide_eq_true (by omega))]
  simp only [appS, pkM, hi, ho, D.isL, ↓reduceIte, bnd, hm, putM, ea, ret]
theorem cb_pk1 {i : Nat} {g : List D → Option D} {s : Sl} {d e : D} (hi : Γ[i]? = some s) (ho : s.own = some d) (hg : g [d] = some e) (hf : e.flat = true) : pk1 i g Γ = .ok e Γ := by
  simp only [pk1, pkM, hi, ho, bnd, hg, flatO, hf, if_true, opt]
theorem rep_lst {d : D} {n : Nat} (h : n ≤ 1000) : D.mul (.lst [d]) (.int (n : Int)) = some (.lst (List.replicate n d)) := by
  have hd : decide (-(2 ^ 63) ≤ (n : Int) ∧ (n : Int) < 2 ^ 63 ∧ [d].length * (n : Int).toNat ≤ sizeLine) = true := by
    refine decide_eq_true ⟨by omega, by omega, ?_⟩
    have : (1000 : Nat) ≤ sizeLine := by decide
    simp
    omega
  simp only [D.mul]
  rw [if_pos hd]
  have e : ∀ m : Nat, (List.replicate m [d]).flatten = List.replicate m d := fun m => by
    induction m with
    | zero => rfl
    | succ m ih => rw [List.replicate_succ, List.flatten_cons, ih]; rfl
  rw [Int.toNat_natCast, e]
end DL
namespace DL.K70
open PySem L2 DL
variable {w h n : Nat} {l : List Nat} {x e one : D}
theorem red_vc {p : Nat} (c : VC l) : VC (red w h l p) := fun a ha => by
  unfold red at ha
  rw [List.mem_flatten] at ha
  obtain ⟨q, hq, ha⟩ := ha
  obtain ⟨y, _, rfl⟩ := List.mem_map.mp hq
  exact c a (List.mem_of_mem_drop (List.mem_of_mem_take ha))
theorem GB.mc {p : Nat} {m : List Nat} {k s : Nat} (g : GB w h l p m k s) : VC m := by
  rw [g.e]
  exact carry_vc (red_vc g.c)
theorem bd_rp (v : VB w h l) (c : VC l) : (D.bd w h l).rp = true ∧ (D.bd w h l).py.depth ≤ 60 ∧ (D.bd w h l).py.weight ≤ 1000000 := by
  have hl := bt_len v (Nat.le_refl h)
  have hw := v.w2
  have hh := v.h2
  have hb : h * (w + 1) ≤ 10 * 101 := Nat.mul_le_mul hh (by omega)
  have := due_rp (ll_of (t := bt w h l) (by omega) (bt_tc c))
  rwa [bt_due v c] at this
/-- a thing that is no band -/
def Wr (x e : D) : Prop := fnM 2 m_need_band [.sh x] = .er ⟨"BadBand", "place", e⟩ [.sh x]
theorem ne_one_non : D.ne (.lst [.non]) (.lst []) = some (.bl true) := by
  simp [D.ne, D.cmpG, D.eqv, deepOk, D.pl, D.pls, D.py, D.pys, PyData.depth, PyData.depthAll, PyData.eqv, PyData.eqvAll]
theorem ne_one_str {z : Str} : D.ne (.lst [.str z]) (.lst []) = some (.bl true) := by
  simp [D.ne, D.cmpG, D.eqv, deepOk, D.pl, D.pls, D.py, D.pys, PyData.depth, PyData.depthAll, PyData.eqv, PyData.eqvAll]
theorem wr_of (hw : fnM 5 m_wrong_band [.sh x] = .ok (.lst [e]) [.sh x]) (hn : D.ne (.lst [e]) (.lst []) = some (.bl true)) : Wr x e := by
  refine fnM_er (Δ := [.sh x, .sh (.lst [e])]) ?_ rfl
  show m_need_band [.sh x, .no] = _
  unfold m_need_band
  refine (sq_nx (cb_asg (cb_call (ds := [x]) rfl hw) (Γ2 := [.sh x, .sh (.lst [e])]) rfl)).trans ?_
  exact cb_it (cb_asB (cb_bin rfl (cb_lst rfl (by simp)) hn)) (cb_raise (cb_bin rfl rfl rfl))
theorem wr_non : Wr .non .non := by
  refine wr_of (fnM_rt (Δ := [.sh .non, .no, .no, .no, .no]) ?_ rfl) ne_one_non
  show m_wrong_band [.sh .non, .no, .no, .no, .no] = _
  unfold m_wrong_band
  refine sq_rt (cb_it (cb_o1 (cb_nf (cb_asB (cb_isi rfl rfl)))) (cb_rt (cb_lst (ds := [.non]) rfl (by simp))))
theorem wr_two : Wr (.tup [.int 1, .int 1]) .non := by
  refine wr_of (fnM_rt (Δ := [.sh (.tup [.int 1, .int 1]), .no, .no, .no, .no]) ?_ rfl) ne_one_non
  show m_wrong_band [.sh (.tup [.int 1, .int 1]), .no, .no, .no, .no] = _
  unfold m_wrong_band
  refine sq_rt (cb_it (cb_o2 (cb_nt (cb_asB (cb_isi rfl isT))) (cb_asB (cb_bin (cb_app (cb_cons rfl rfl) rfl) rfl ne_ii))) (cb_rt (cb_lst (ds := [.non]) rfl (by simp))))
theorem wr_col : Wr (.tup [.int 1, .int 1, .str "?"]) (.str "colours") := by
  have q : ("?" : Str) = SS [63] := by decide +kernel
  rw [q]
  obtain ⟨Δ, e, em⟩ := wrong_ok (w := 1) (h := 1) (l := [63]) ⟨by decide, by decide, by decide, by decide, rfl⟩ (fun c hc => by rw [List.mem_singleton] at hc; subst hc; decide)
  rw [if_neg (by decide)] at e
  exact wr_of (x := .bd ((1 : Nat) : Int) ((1 : Nat) : Int) [63]) (fnM_rt e em) ne_one_str
theorem er_fob (q : Wr x e) : fnM 1 m_form_of_band [.sh x] = .er ⟨"BadBand", "place", e⟩ [.sh x] := by
  refine fnM_er (Δ := [.sh x]) ?_ rfl
  show m_form_of_band [.sh x] = _
  unfold m_form_of_band
  exact sq_er (cb_drop_er (cb_call_er (ds := [x]) rfl q))
theorem er_fmo (q : Wr x e) : fnM 1 m_form_motion [.sh x] = .er ⟨"BadBand", "place", e⟩ [.sh x] := by
  refine fnM_er (Δ := [.sh x]) ?_ rfl
  show m_form_motion [.sh x] = _
  unfold m_form_motion
  exact sq_er (cb_drop_er (cb_call_er (ds := [x]) rfl q))
theorem er_bt (q : Wr x e) : fnM 7 m_band_text [.sh x] = .er ⟨"BadBand", "place", e⟩ [.sh x] := by
  refine fnM_er (Δ := [.sh x, .no, .no, .no, .no, .no, .no]) ?_ rfl
  show m_band_text [.sh x, .no, .no, .no, .no, .no, .no] = _
  unfold m_band_text
  exact sq_er (cb_drop_er (cb_call_er (ds := [x]) rfl q))
theorem er_car1 {y : D} (q : Wr x e) : fnM 4 m_carrier_between [.sh x, .sh y] = .er ⟨"BadBand", "place", e⟩ [.sh x, .sh y] := by
  refine fnM_er (Δ := [.sh x, .sh y, .no, .no]) ?_ rfl
  show m_carrier_between [.sh x, .sh y, .no, .no] = _
  unfold m_carrier_between
  exact sq_er (cb_drop_er (cb_call_er (ds := [x]) rfl q))
theorem er_car2 (v : VB w h l) (c : VC l) (q : Wr x e) : fnM 4 m_carrier_between [.sh (.bd w h l), .sh x] = .er ⟨"BadBand", "place", e⟩ [.sh (.bd w h l), .sh x] := by
  refine fnM_er (Δ := [.sh (.bd w h l), .sh x, .no, .no]) ?_ rfl
  show m_carrier_between [.sh (.bd w h l), .sh x, .no, .no] = _
  unfold m_carrier_between
  exact (sq_nx (cb_drop (cb_call (ds := [.bd w h l]) rfl (need_ok v c)))).trans (sq_er (cb_drop_er (cb_call_er (ds := [x]) rfl q)))
theorem er_par1 {y : D} (q : Wr x e) : fnM 6 m_parting_cell [.sh x, .sh y] = .er ⟨"BadBand", "place", e⟩ [.sh x, .sh y] := by
  refine fnM_er (Δ := [.sh x, .sh y, .no, .no, .no, .no]) ?_ rfl
  show m_parting_cell [.sh x, .sh y, .no, .no, .no, .no] = _
  unfold m_parting_cell
  exact sq_er (cb_drop_er (cb_call_er (ds := [x]) rfl q))
theorem er_par2 (v : VB w h l) (c : VC l) (q : Wr x e) : fnM 6 m_parting_cell [.sh (.bd w h l), .sh x] = .er ⟨"BadBand", "place", e⟩ [.sh (.bd w h l), .sh x] := by
  refine fnM_er (Δ := [.sh (.bd w h l), .sh x, .no, .no, .no, .no]) ?_ rfl
  show m_parting_cell [.sh (.bd w h l), .sh x, .no, .no, .no, .no] = _
  unfold m_parting_cell
  exact (sq_nx (cb_drop (cb_call (ds := [.bd w h l]) rfl (need_ok v c)))).trans (sq_er (cb_drop_er (cb_call_er (ds := [x]) rfl q)))
/-- reading what is no text -/
theorem lread_no (hx : isiO "str" x = some (.bl false)) : fnM 3 m__law_read [.sh x] = .ok (.tup [.str "text", .non]) [.sh x] := by
  have rr : fnM 6 m_read_band [.sh x] = .er ⟨"BadText", "place", .non⟩ [.sh x] := by
    refine fnM_er (Δ := [.sh x, .no, .no, .no, .no, .no]) ?_ rfl
    show m_read_band [.sh x, .no, .no, .no, .no, .no] = _
    unfold m_read_band
    exact sq_er (cb_it (cb_nf (cb_asB (cb_isi rfl hx))) (cb_raise rfl))
  have a1 : asgM (tupM (nilA)) (stS 1) [.sh x, .no, .no] = .ok .nx [.sh x, .sh (.tup []), .no] := cb_asg (cb_tup rfl (by simp)) rfl
  have a2 : tryM 2 (clB "BadText") (asgM (callM (fnM 6 m_read_band) (permA (permI [0]) (consA (vr 0) (nilA)))) (stS 1)) (fun x => asgM (tupM (consA (ret (.str "text")) (consA (attM "BadText" "place" x) nilA))) (stS 1)) [.sh x, .sh (.tup []), .no] = .ok .nx [.sh x, .sh (.tup [.str "text", .non]), .no] :=
    cb_try_er (cb_asg_er (cb_call_er (ds := [x]) (cb_perm (ds := [x]) rfl) rr)) clB_self rfl (cb_asg (cb_tup (cb_cons rfl (cb_cons (cb_att rfl rfl) rfl)) (by simp)) rfl) rfl
  refine fnM_rt (Δ := [.sh x, .sh (.tup [.str "text", .non]), .no]) ?_ rfl
  show m__law_read [.sh x, .no, .no] = _
  unfold m__law_read
  exact (sq_nx a1).trans ((sq_nx a2).trans rfl)
theorem r_draw {c k : Int} (hk : 0 ≤ k) (hk2 : k ≤ 63) : ∃ (l : Int) (Δ : SEnv), 0 ≤ l ∧ fnN 2 m__law_draw [.sh (.int c), .sh (.int k)] = .ok (stD l c (1000 * k)) Δ := by
  have p18 : D.pow (.int 10) (.int 18) = some (.int 1000000000000000000) := rfl
  have em : D.mul (.int 1000) (.int k) = some (.int (1000 * k)) := mul_ii (by decide) (by
    have : k.natAbs < 2 ^ 6 := by omega
    exact Nat.lt_of_lt_of_le this (by decide))
  have kp : ∀ l : Int, ([(D.str "left", D.int l), (D.str "cell", D.int c), (D.str "turns", D.int (1000 * k))] : List (D × D)).foldl (fun acc kv => kput acc kv.1 kv.2) [] = [(.str "left", .int l), (.str "cell", .int c), (.str "turns", .int (1000 * k))] := fun l => by
    simp only [List.foldl_cons, List.foldl_nil, kput, List.any_nil, List.any_cons, kq_str, st_ne3, st_ne4, st_ne5, decide_false, Bool.or_false, Bool.false_eq_true, if_false, List.nil_append, List.cons_append]
  have ok3 : ∀ l : Int, dictOk [(D.str "left", D.int l), (D.str "cell", D.int c), (D.str "turns", D.int (1000 * k))] = true := fun l => rfl
  by_cases h : c ≥ 1000000000000000000
  · refine ⟨c, [.sh (.int c), .sh (.int k)], by omega, ?_⟩
    show m__law_draw [.sh (.int c), .sh (.int k)] = _
    unfold m__law_draw dictM
    have hd : decide (c ≥ 1000000000000000000) = true := decide_eq_true h
    simp only [sq, asgM, ifM, andV, orV, notV, andM, orM, notM, asB, rtM, bin, chainM, opB, isiM, appM, revM, callM, opt, ret, consA, nilA, tupM, lstM, vr, stS, stO, stM, mkS, mrg, pixM, pkM, gdM, Sl.own, Sl.put, subS, putM, appS, D.isL, sliceM, someI, strM, gtM, unp1, unp0, par2, dropM, isi_int_int, isi_bool_int, le_ii, lt_ii, eq_ii, ne_ii, gt_ii, ge_ii, add_ii, sub_ii, ix_left, ix_cell, ix_turns, put_left, put_turns, tup_ix0, tup_ix1, tup_ix2, osl, sz1, sz2, sz3,
  ↓bnd, List.getElem?_cons_zero, List.getElem?_cons_succ, List.set_cons_zero, List.set_cons_succ, List.cons_append, List.nil_append, List.length_cons, List.length_nil, List.replicate, Nat.zero_add, Nat.reduceAdd, Nat.reduceSub, List.append_nil, if_true, Bool.not_true, Bool.not_false, Bool.false_eq_true, if_false, ite_true, ite_false, decide_true, decide_false, ↓reduceIte, List.map_cons, List.map_nil, noEr, pairA, p18, em, hd, kp, ok3, stD]
  · refine ⟨0, [.sh (.int c), .sh (.int k)], by omega, ?_⟩
    show m__law_draw [.sh (.int c), .sh (.int k)] = _
    unfold m__law_draw dictM
    have hd : decide (c ≥ 1000000000000000000) = false := decide_eq_false h
    simp only [sq, asgM, ifM, andV, orV, notV, andM, orM, notM, asB, rtM, bin, chainM, opB, isiM, appM, revM, callM, opt, ret, consA, nilA, tupM, lstM, vr, stS, stO, stM, mkS, mrg, pixM, pkM, gdM, Sl.own, Sl.put, subS, putM, appS, D.isL, sliceM, someI, strM, gtM, unp1, unp0, par2, dropM, isi_int_int, isi_bool_int, le_ii, lt_ii, eq_ii, ne_ii, gt_ii, ge_ii, add_ii, sub_ii, ix_left, ix_cell, ix_turns, put_left, put_turns, tup_ix0, tup_ix1, tup_ix2, osl, sz1, sz2, sz3,
  ↓bnd, List.getElem?_cons_zero, List.getElem?_cons_succ, List.set_cons_zero, List.set_cons_succ, List.cons_append, List.nil_append, List.length_cons, List.length_nil, List.replicate, Nat.zero_add, Nat.reduceAdd, Nat.reduceSub, List.append_nil, if_true, Bool.not_true, Bool.not_false, Bool.false_eq_true, if_false, ite_true, ite_false, decide_true, decide_false, ↓reduceIte, List.map_cons, List.map_nil, noEr, pairA, p18, em, hd, kp, ok3, stD]
end DL.K70
set_option Elab.async false
set_option linter.all false
set_option maxRecDepth 100000
set_option maxHeartbeats 4000000
set_option autoImplicit false
namespace DL
open PySem L2
/-- a slot that owns, or stands empty -/
def ows : Option D → Sl
  | some d => .ow d
  | none => .no
theorem df_ne {K : PySem.W.Frag} {mg : Str → Option Value} {x y : Str} {st st' : Stmt} (F : Df K mg x st) (G : Df K mg y st') (h : x ≠ y) : adr mg x ≠ adr mg y := by
  obtain ⟨a, fd, ha, FF⟩ := F.ex
  obtain ⟨b, fd2, hb, GG⟩ := G.ex
  rw [adr_of ha, adr_of hb]
  rintro rfl
  obtain ⟨oc, od, dV, kV, doc, pm, an, cdv, ct, osl, e1, l1, _⟩ := FF.ex
  obtain ⟨oc2, od2, dV2, kV2, doc2, pm2, an2, cdv2, ct2, osl2, e2, l2, _⟩ := GG.ex
  rw [l1] at l2
  injection l2 with l2
  injection l2 with q1 q2 q3 q4
  injection q3 with q3
  rw [e1, e2] at q3
  injection q3 with z1
  exact h z1
theorem rs {z : Str} {l : List Nat} {Γ : SEnv} (h : z = SS l) : ret (D.str z) Γ = .ok (.st l) Γ := by rw [h]; rfl
end DL
namespace DL.K70
open PySem L2 DL
variable {w h n : Nat} {l : List Nat} {mg : Str → Option Value} {K : PySem.W.Frag}
abbrev c1 (mg : Str → Option Value) : M Flow := asgM (callN (fnN 2 m__law_draw) (consA (vr 2) (consA (vr 1) (nilA)))) (stO 3)
abbrev c2 (mg : Str → Option Value) : M Flow := asgM (callIo 3 (fnM 15 m__law_band) (consA (ret (.int 6)) (nilA))) (stS 4)
abbrev c3 (mg : Str → Option Value) : M Flow := par2 false false 5 6 (callIo 3 (fnM 8 m__law_other) (consA (vr 4) (nilA))) (callM (fnM 7 m__law_form) (consA (vr 4) (nilA)))
abbrev c4 (mg : Str → Option Value) : M Flow := ifM (orM (asB (bin D.ne (appM D.repr (consA (callM (fnM 1 m_form_of_band) (permA (permI [0]) (consA (vr 4) (nilA)))) (nilA))) (appM D.repr (consA (vr 6) (nilA))))) (notM (asB (callM (fnM 7 m__law_leads) (consA (vr 4) (consA (vr 6) (consA (callM (fnM 1 m_form_motion) (permA (permI [0]) (consA (vr 4) (nilA)))) (nilA)))))))) (rtM (ret (.bl false))) (ret .nx)
abbrev c5 (mg : Str → Option Value) : M Flow := ifM (orM (notM (asB (callM (fnM 7 m__law_pair_right) (consA (vr 4) (consA (vr 5) (nilA)))))) (orM (notM (asB (callM (fnM 7 m__law_pair_right) (consA (vr 5) (consA (vr 4) (nilA)))))) (notM (asB (callIo 3 (fnM 11 m__law_texts_right) (consA (vr 4) (nilA))))))) (rtM (ret (.bl false))) (ret .nx)
abbrev c6 (mg : Str → Option Value) : M Flow := asgM (lstM (consA (tupM (consA (tupM (consA (ret (.int 2)) (consA (ret (.int 1)) (consA (ret (.str "ab")) (nilA))))) (consA (tupM (consA (ret (.int 3)) (consA (ret (.int 1)) (consA (ret (.str "aab")) (nilA))))) (nilA)))) (consA (tupM (consA (tupM (consA (ret (.int 3)) (consA (ret (.int 1)) (consA (ret (.str "aab")) (nilA))))) (consA (tupM (consA (ret (.int 4)) (consA (ret (.int 1)) (consA (ret (.str "aabb")) (nilA))))) (nilA)))) (consA (tupM (consA (tupM (consA (ret (.int 3)) (consA (ret (.int 1)) (consA (ret (.str "abb")) (nilA))))) (consA (tupM (consA (ret (.int 5)) (consA (ret (.int 1)) (consA (ret (.str "abbab")) (nilA))))) (nilA)))) (nilA))))) (stS 7)
abbrev c7 (mg : Str → Option Value) : M Flow := asgM (bin D.ix (vr 7) (callIo 3 (fnM 4 m__law_digit) (consA (ret (.int 3)) (nilA)))) (gtM 2 (unp1 (stS 8) (unp1 (stS 9) unp0)))
abbrev c8 (mg : Str → Option Value) : M Flow := ifM (orM (notM (asB (callM (fnM 7 m__law_pair_right) (consA (vr 8) (consA (vr 9) (nilA)))))) (notM (asB (callM (fnM 7 m__law_pair_right) (consA (vr 9) (consA (vr 8) (nilA))))))) (rtM (ret (.bl false))) (ret .nx)
abbrev c9 (mg : Str → Option Value) : M Flow := forM (seqM (tupM (consA (bin D.mul (ret (.str "a\n")) (ret (.int 1000))) (consA (ret (.str "")) (consA (bin D.add (bin D.mul (ret (.str "a")) (ret (.int 1001))) (ret (.str "\n"))) (consA (bin D.mul (ret (.str "a\n")) (ret (.int 1001))) (consA (bin D.mul (bin D.add (bin D.mul (ret (.str "a")) (ret (.int 40))) (ret (.str "\n"))) (ret (.int 26))) (consA (bin D.mul (bin D.add (bin D.mul (ret (.str "a")) (ret (.int 40))) (ret (.str "\n"))) (ret (.int 25))) (nilA))))))))) (stS 10) (ifM (asB (bin D.ne (appM D.repr (consA (callM (fnM 3 m__law_read) (consA (vr 10) (nilA))) (nilA))) (appM D.repr (consA (callM (fnM 5 m__law_due) (consA (vr 10) (nilA))) (nilA))))) (rtM (ret (.bl false))) (ret .nx))
abbrev c10 (mg : Str → Option Value) : M Flow := ifM (asB (bin D.ne (appM D.repr (consA (callM (fnM 3 m__law_read) (consA (bin D.ix (lstM (consA (ret .non) (consA (ret (.int 5)) (consA (lstM (consA (ret (.str "a\n")) (nilA))) (nilA))))) (callIo 3 (fnM 4 m__law_digit) (consA (ret (.int 3)) (nilA)))) (nilA))) (nilA))) (appM D.repr (consA (tupM (consA (ret (.str "text")) (consA (ret .non) (nilA)))) (nilA))))) (rtM (ret (.bl false))) (ret .nx)
abbrev c11 (mg : Str → Option Value) : M Flow := asgM (lstM (nilA)) (stO 11)
abbrev c12 (mg : Str → Option Value) : M Flow := forM (seqM (tupM (consA (ret (.ptr (adr mg "form_of_band"))) (consA (ret (.ptr (adr mg "form_motion"))) (consA (ret (.ptr (adr mg "band_text"))) (nilA)))))) (stS 12) (tryM 13 (clB "BadBand") (dropM (callL 12 (tab_law_280 mg) (consA (tupM (consA (ret (.int 1)) (consA (ret (.int 1)) (nilA)))) (nilA)))) (fun x => appS 11 (attM "BadBand" "place" x)))
abbrev c13 (mg : Str → Option Value) : M Flow := forM (seqM (tupM (consA (ret (.ptr (adr mg "carrier_between"))) (consA (ret (.ptr (adr mg "parting_cell"))) (nilA))))) (stS 12) (forM (seqM (tupM (consA (tupM (consA (ret .non) (consA (vr 4) (nilA)))) (consA (tupM (consA (vr 4) (consA (ret .non) (nilA)))) (consA (tupM (consA (tupM (consA (ret (.int 1)) (consA (ret (.int 1)) (consA (ret (.str "?")) (nilA))))) (consA (ret .non) (nilA)))) (nilA)))))) (gtM 2 (unp1 (stS 8) (unp1 (stS 9) unp0))) (tryM 13 (clB "BadBand") (dropM (callL 12 (tab_law_285 mg) (consA (vr 8) (consA (vr 9) (nilA))))) (fun x => appS 11 (attM "BadBand" "place" x))))
abbrev c14 (mg : Str → Option Value) : M Flow := ifM (asB (bin D.ne (pk1 11 D.repr) (appM D.repr (consA (bin D.add (bin D.mul (lstM (consA (ret .non) (nilA))) (ret (.int 5))) (lstM (consA (ret (.str "colours")) (consA (ret .non) (consA (ret .non) (consA (ret (.str "colours")) (nilA))))))) (nilA))))) (rtM (ret (.bl false))) (ret .nx)
abbrev LG (ns : List Int) (s1 s2 s3 s4 s5 s6 s7 s8 s9 s10 s11 s12 : Sl) : SEnv := [.sh (.scr ns), s1, s2, s3, s4, s5, s6, s7, s8, s9, s10, s11, s12, .no]
variable {ns : List Int} {s1 s2 s3 s4 s5 s6 s7 s8 s9 s10 s11 s12 : Sl}
theorem p1 {k c : Int} (hk : 0 ≤ k) (hk2 : k ≤ 60) {a3 : Option D} : ∃ d, SD 0 d ∧ c1 mg (LG ns (.sh (.int k)) (.sh (.int c)) (ows a3) s4 s5 s6 s7 s8 s9 s10 s11 s12) = .ok .nx (LG ns (.sh (.int k)) (.sh (.int c)) (.ow d) s4 s5 s6 s7 s8 s9 s10 s11 s12) := by
  obtain ⟨l, Δ, l0, e⟩ := r_draw (c := c) hk (by omega)
  exact ⟨stD l c (1000 * k), ⟨l, c, 1000 * k, rfl, l0, by omega, by omega⟩, cb_asg (cb_callN (ds := [.int c, .int k]) rfl e) (by cases a3 <;> rfl)⟩
theorem p2 {d : D} (hs : SD n d) (hn : n ≤ 900000) {a4 : Option D} : ∃ (d' : D) (w h : Nat) (l : List Nat), SD (n + 40) d' ∧ VB w h l ∧ VC l ∧ w ≤ 12 ∧ h ≤ 3 ∧
    c2 mg (LG ns s1 s2 (.ow d) (osl a4) s5 s6 s7 s8 s9 s10 s11 s12) = .ok .nx (LG ns s1 s2 (.ow d') (.sh (.bd w h l)) s5 s6 s7 s8 s9 s10 s11 s12) := by
  obtain ⟨d', w, h, l, sd, v, c, hw, hh, e⟩ := r_band hs hn
  exact ⟨d', w, h, l, sd, v, c, hw, hh, cb_asg (cb_callIo (s := .ow d) (c := d) (ds := [.int 6]) rfl rfl rfl e) (by cases a4 <;> rfl)⟩
theorem p3 {d : D} (hs : SD n d) (hn : n ≤ 800000) {p : Nat} {m : List Nat} {kk s : Nat} (g : GB w h l p m kk s) (hw : w ≤ 12) (hh : h ≤ 3) {a5 a6 : Option D} : ∃ (d' : D) (w2 h2 : Nat) (l2 : List Nat), SD (n + 50) d' ∧ VB w2 h2 l2 ∧ VC l2 ∧
    c3 mg (LG ns s1 s2 (.ow d) (.sh (.bd w h l)) (osl a5) (osl a6) s7 s8 s9 s10 s11 s12) = .ok .nx (LG ns s1 s2 (.ow d') (.sh (.bd w h l)) (.sh (.bd w2 h2 l2)) (.sh (.bd p h m)) s7 s8 s9 s10 s11 s12) := by
  obtain ⟨d', w2, h2, l2, sd, v2, c2', e⟩ := r_other hs hn g.v g.c hw hh
  refine ⟨d', w2, h2, l2, sd, v2, c2', cb_par2 (Γ3 := LG ns s1 s2 (.ow d') (.sh (.bd w h l)) (osl a5) (.sh (.bd p h m)) s7 s8 s9 s10 s11 s12) (cb_callIo (s := .ow d) (c := d) (ds := [.bd w h l]) rfl rfl rfl e) (cb_call (ds := [.bd w h l]) rfl g.lf) ?_ ?_⟩
  · cases a6 <;> rfl
  · cases a5 <;> rfl
theorem p4 {p : Nat} {m : List Nat} {kk s : Nat} (g : GB w h l p m kk s) : c4 mg (LG ns s1 s2 s3 (.sh (.bd w h l)) s5 (.sh (.bd p h m)) s7 s8 s9 s10 s11 s12) = .ok .nx (LG ns s1 s2 s3 (.sh (.bd w h l)) s5 (.sh (.bd p h m)) s7 s8 s9 s10 s11 s12) := by
  obtain ⟨h1, h2, h3⟩ := bd_rp g.fv.1 g.mc
  have rl := r_leads g.v g.fv.1 (k := kk) (s := s) g.hk
  rw [(leads_iff g.v.w1 g.fv.1.w1).mpr g.lead, decide_eq_true rfl] at rl
  exact cb_ie (cb_o2 (cb_asB (cb_repr_ne (d := .bd p h m) (cb_cons (cb_call (ds := [.bd w h l]) (cb_perm (ds := [.bd w h l]) rfl) (r_fob g)) rfl) rfl h1 h2 h3))
    (cb_nt (cb_asB (cb_call (ds := [.bd w h l, .bd p h m, mot kk s]) (cb_cons rfl (cb_cons rfl (cb_cons (cb_call (ds := [.bd w h l]) (cb_perm (ds := [.bd w h l]) rfl) (r_fmo g)) rfl))) rl)))) rfl
theorem p5 {d : D} (hs : SD n d) (hn : n ≤ 900000) {p p2 w2 h2 : Nat} {m m2 l2 : List Nat} {kk s k2 t : Nat} (g : GB w h l p m kk s) (g2 : GB w2 h2 l2 p2 m2 k2 t) : ∃ d', SD (n + 12) d' ∧
    c5 mg (LG ns s1 s2 (.ow d) (.sh (.bd w h l)) (.sh (.bd w2 h2 l2)) s6 s7 s8 s9 s10 s11 s12) = .ok .nx (LG ns s1 s2 (.ow d') (.sh (.bd w h l)) (.sh (.bd w2 h2 l2)) s6 s7 s8 s9 s10 s11 s12) := by
  obtain ⟨d', sd, e⟩ := r_texts hs hn g.v g.c
  refine ⟨d', sd, cb_ie (cb_o2 (Γ1 := LG ns s1 s2 (.ow d) (.sh (.bd w h l)) (.sh (.bd w2 h2 l2)) s6 s7 s8 s9 s10 s11 s12) (cb_nt (cb_asB (cb_call (ds := [.bd w h l, .bd w2 h2 l2]) rfl (r_pair g g2)))) (cb_o2 (Γ1 := LG ns s1 s2 (.ow d) (.sh (.bd w h l)) (.sh (.bd w2 h2 l2)) s6 s7 s8 s9 s10 s11 s12) (cb_nt (cb_asB (cb_call (ds := [.bd w2 h2 l2, .bd w h l]) rfl (r_pair g2 g)))) (cb_nt (cb_asB (cb_callIo (s := .ow d) (c := d) (ds := [.bd w h l]) rfl rfl rfl e))))) rfl⟩
def PAIRS : List D := [.tup [.bd (2 : Nat) (1 : Nat) [97, 98], .bd (3 : Nat) (1 : Nat) [97, 97, 98]], .tup [.bd (3 : Nat) (1 : Nat) [97, 97, 98], .bd (4 : Nat) (1 : Nat) [97, 97, 98, 98]], .tup [.bd (3 : Nat) (1 : Nat) [97, 98, 98], .bd (5 : Nat) (1 : Nat) [97, 98, 98, 97, 98]]]
theorem pairs_ok : ∀ d ∈ PAIRS, ∃ (w h : Nat) (l : List Nat) (w2 h2 : Nat) (l2 : List Nat), d = .tup [.bd w h l, .bd w2 h2 l2] ∧ VB w h l ∧ VC l ∧ VB w2 h2 l2 ∧ VC l2 := by
  intro d hd
  have vc : ∀ q : List Nat, (q.all lowB = true) → VC q := fun q h => vc_all.mp h
  simp only [PAIRS, List.mem_cons, List.not_mem_nil, or_false] at hd
  rcases hd with rfl | rfl | rfl
  · exact ⟨2, 1, _, 3, 1, _, rfl, ⟨by decide, by decide, by decide, by decide, rfl⟩, vc _ (by decide), ⟨by decide, by decide, by decide, by decide, rfl⟩, vc _ (by decide)⟩
  · exact ⟨3, 1, _, 4, 1, _, rfl, ⟨by decide, by decide, by decide, by decide, rfl⟩, vc _ (by decide), ⟨by decide, by decide, by decide, by decide, rfl⟩, vc _ (by decide)⟩
  · exact ⟨3, 1, _, 5, 1, _, rfl, ⟨by decide, by decide, by decide, by decide, rfl⟩, vc _ (by decide), ⟨by decide, by decide, by decide, by decide, rfl⟩, vc _ (by decide)⟩
theorem t_ab : ("ab" : Str) = SS [97, 98] := by decide +kernel
theorem t_aab : ("aab" : Str) = SS [97, 97, 98] := by decide +kernel
theorem t_aabb : ("aabb" : Str) = SS [97, 97, 98, 98] := by decide +kernel
theorem t_abb : ("abb" : Str) = SS [97, 98, 98] := by decide +kernel
theorem t_abbab : ("abbab" : Str) = SS [97, 98, 98, 97, 98] := by decide +kernel
theorem t_a : ("a" : Str) = SS [97] := by decide +kernel
theorem t_anl : ("a\n" : Str) = SS [97, 10] := by decide +kernel
theorem bdM {Γ : SEnv} {a b : Nat} {z : Str} {l : List Nat} (h : z = SS l) : tupM (consA (ret (.int a)) (consA (ret (.int b)) (consA (ret (.str z)) nilA))) Γ = .ok (.bd a b l) Γ := cb_tup (cb_cons rfl (cb_cons rfl (cb_cons (rs h) rfl))) (by simp)
theorem p6 {a7 : Option D} : c6 mg (LG ns s1 s2 s3 s4 s5 s6 (osl a7) s8 s9 s10 s11 s12) = .ok .nx (LG ns s1 s2 s3 s4 s5 s6 (.sh (.lst PAIRS)) s8 s9 s10 s11 s12) := by
  refine cb_asg (cb_lst (ds := PAIRS) (cb_cons (cb_tup (cb_cons (bdM (a := 2) (b := 1) t_ab) (cb_cons (bdM (a := 3) (b := 1) t_aab) rfl)) (by simp)) (cb_cons (cb_tup (cb_cons (bdM (a := 3) (b := 1) t_aab) (cb_cons (bdM (a := 4) (b := 1) t_aabb) rfl)) (by simp)) (cb_cons (cb_tup (cb_cons (bdM (a := 3) (b := 1) t_abb) (cb_cons (bdM (a := 5) (b := 1) t_abbab) rfl)) (by simp)) rfl))) (by simp [PAIRS])) ?_
  cases a7 <;> rfl
theorem ix_mem {xs : List D} {i : Int} (h0 : 0 ≤ i) (h1 : i < xs.length) : ∃ x ∈ xs, D.ix (.lst xs) (.int i) = some x := by
  obtain ⟨n, rfl⟩ := Int.eq_ofNat_of_zero_le h0
  have hn : n < xs.length := by exact_mod_cast h1
  exact ⟨xs[n], List.getElem_mem hn, atI_nat (List.getElem?_eq_getElem hn)⟩
theorem p7 {d : D} (hs : SD n d) (hn : n ≤ 900000) {a8 a9 : Option D} : ∃ (d' : D) (w h : Nat) (l : List Nat) (w2 h2 : Nat) (l2 : List Nat), SD (n + 1) d' ∧ VB w h l ∧ VC l ∧ VB w2 h2 l2 ∧ VC l2 ∧
    c7 mg (LG ns s1 s2 (.ow d) s4 s5 s6 (.sh (.lst PAIRS)) (osl a8) (osl a9) s10 s11 s12) = .ok .nx (LG ns s1 s2 (.ow d') s4 s5 s6 (.sh (.lst PAIRS)) (.sh (.bd w h l)) (.sh (.bd w2 h2 l2)) s10 s11 s12) := by
  obtain ⟨x, d', x0, x1, sd, e⟩ := dig (i := 3) (s := .ow d) (Γ := LG ns s1 s2 (.ow d) s4 s5 s6 (.sh (.lst PAIRS)) (osl a8) (osl a9) s10 s11 s12) (b := 3) (m := ret (.int 3)) rfl rfl hs (by omega) (by omega) (by omega) rfl
  obtain ⟨y, hy, ey⟩ := ix_mem (xs := PAIRS) x0 (by simpa [PAIRS] using x1)
  obtain ⟨w, h, l, w2, h2, l2, rfl, v, c, v2, c2'⟩ := pairs_ok y hy
  exact ⟨d', w, h, l, w2, h2, l2, sd, v, c, v2, c2', cb_asg (cb_bin rfl e ey) (by cases a8 <;> cases a9 <;> rfl)⟩
theorem p8 {w2 h2 : Nat} {l2 : List Nat} (v : VB w h l) (c : VC l) (v2 : VB w2 h2 l2) (c2' : VC l2) : c8 mg (LG ns s1 s2 s3 s4 s5 s6 s7 (.sh (.bd w h l)) (.sh (.bd w2 h2 l2)) s10 s11 s12) = .ok .nx (LG ns s1 s2 s3 s4 s5 s6 s7 (.sh (.bd w h l)) (.sh (.bd w2 h2 l2)) s10 s11 s12) := by
  obtain ⟨p, m, k, s, g⟩ := gb_ex v c
  obtain ⟨p2, m2, k2, t, g2⟩ := gb_ex v2 c2'
  exact cb_ie (cb_o2 (Γ1 := LG ns s1 s2 s3 s4 s5 s6 s7 (.sh (.bd w h l)) (.sh (.bd w2 h2 l2)) s10 s11 s12) (cb_nt (cb_asB (cb_call (ds := [.bd w h l, .bd w2 h2 l2]) rfl (r_pair g g2)))) (cb_nt (cb_asB (cb_call (ds := [.bd w2 h2 l2, .bd w h l]) rfl (r_pair g2 g))))) rfl
end DL.K70
set_option Elab.async false
set_option linter.all false
set_option maxRecDepth 100000
set_option maxHeartbeats 4000000
set_option autoImplicit false
namespace DL.K70
open PySem L2 DL
variable {w h n : Nat} {l : List Nat} {mg : Str → Option Value} {K : PySem.W.Frag}
variable {ns : List Int} {s1 s2 s3 s4 s5 s6 s7 s8 s9 s10 s11 s12 : Sl}
theorem rep_len {q : List Nat} {n : Nat} : (List.replicate n q).flatten.length = n * q.length := by
  induction n with
  | zero => simp
  | succ n ih => rw [List.replicate_succ, List.flatten_cons, List.length_append, ih, Nat.succ_mul, Nat.add_comm]
theorem rep_tc {q : List Nat} {n : Nat} (h : TC q) : TC (List.replicate n q).flatten := fun c hc => by
  rw [List.mem_flatten] at hc
  obtain ⟨p, hp, hc⟩ := hc
  rw [List.eq_of_mem_replicate hp] at hc
  exact h c hc
theorem tc_of {q : List Nat} (h : q.all (· < 128) = true) : TC q := fun c hc => by simpa using List.all_eq_true.mp h c hc
theorem mulM {Γ : SEnv} {z : Str} {q : List Nat} {k : Nat} (h : z = SS q) (hk : k ≤ 100000) (hl : q.length * k ≤ 1000000) : bin D.mul (ret (.str z)) (ret (.int (k : Int))) Γ = .ok (.st (List.replicate k q).flatten) Γ := cb_bin (rs h) rfl (mul_st hk hl)
theorem t_nl : ("\n" : Str) = SS [10] := nl_eq
def lineA : List Nat := (List.replicate 40 [97]).flatten ++ [10]
theorem lineA_len : lineA.length = 41 := by unfold lineA; rw [List.length_append, rep_len]; rfl
theorem lineM {Γ : SEnv} : bin D.add (bin D.mul (ret (.str "a")) (ret (.int 40))) (ret (.str "\n")) Γ = .ok (.st lineA) Γ := cb_bin (mulM (k := 40) t_a (by omega) (by simp)) (rs t_nl) (add_st (by rw [rep_len]; simp))
theorem p9 {a10 : Option D} : ∃ b10, c9 mg (LG ns s1 s2 s3 s4 s5 s6 s7 s8 s9 (osl a10) s11 s12) = .ok .nx (LG ns s1 s2 s3 s4 s5 s6 s7 s8 s9 (osl b10) s11 s12) := by
  have la := lineA_len
  have ta : TC lineA := tc_app (rep_tc (tc_of (by decide))) (tc_of (by decide))
  have k4 : seqM (tupM (consA (bin D.mul (ret (.str "a\n")) (ret (.int 1000))) (consA (ret (.str "")) (consA (bin D.add (bin D.mul (ret (.str "a")) (ret (.int 1001))) (ret (.str "\n"))) (consA (bin D.mul (ret (.str "a\n")) (ret (.int 1001))) (consA (bin D.mul (bin D.add (bin D.mul (ret (.str "a")) (ret (.int 40))) (ret (.str "\n"))) (ret (.int 26))) (consA (bin D.mul (bin D.add (bin D.mul (ret (.str "a")) (ret (.int 40))) (ret (.str "\n"))) (ret (.int 25))) (nilA)))))))) (LG ns s1 s2 s3 s4 s5 s6 s7 s8 s9 (osl a10) s11 s12)
      = .ok [.st (List.replicate 1000 [97, 10]).flatten, .st [], .st ((List.replicate 1001 [97]).flatten ++ [10]), .st (List.replicate 1001 [97, 10]).flatten, .st (List.replicate 26 lineA).flatten, .st (List.replicate 25 lineA).flatten] (LG ns s1 s2 s3 s4 s5 s6 s7 s8 s9 (osl a10) s11 s12) := by
    refine cb_seqT (cb_tup (cb_cons (mulM (k := 1000) t_anl (by omega) (by simp)) (cb_cons (rs eS) (cb_cons (cb_bin (mulM (k := 1001) t_a (by omega) (by simp)) (rs t_nl) (add_st (by rw [rep_len]; simp))) (cb_cons (mulM (k := 1001) t_anl (by omega) (by simp)) (cb_cons (cb_bin lineM rfl (mul_st (n := 26) (by omega) (by omega))) (cb_cons (cb_bin lineM rfl (mul_st (n := 25) (by omega) (by omega))) rfl)))))) (by simp))
  have one : ∀ (u : List Nat) (f : Option D), TC u → u.length ≤ 400000 → stS 10 (.st u) (LG ns s1 s2 s3 s4 s5 s6 s7 s8 s9 (osl f) s11 s12) = .ok () (LG ns s1 s2 s3 s4 s5 s6 s7 s8 s9 (osl (some (.st u))) s11 s12) ∧
      ifM (asB (bin D.ne (appM D.repr (consA (callM (fnM 3 m__law_read) (consA (vr 10) (nilA))) (nilA))) (appM D.repr (consA (callM (fnM 5 m__law_due) (consA (vr 10) (nilA))) (nilA))))) (rtM (ret (.bl false))) (ret .nx) (LG ns s1 s2 s3 s4 s5 s6 s7 s8 s9 (osl (some (.st u))) s11 s12) = .ok .nx (LG ns s1 s2 s3 s4 s5 s6 s7 s8 s9 (osl (some (.st u))) s11 s12) := fun u f hu hl => by
    refine ⟨by cases f <;> rfl, ?_⟩
    exact cb_ie (read_due (m := vr 10) rfl hl hu) rfl
  have o1 := one (List.replicate 1000 [97, 10]).flatten a10 (rep_tc (tc_of (by decide))) (by rw [rep_len]; simp)
  have o2 := one [] (some (.st (List.replicate 1000 [97, 10]).flatten)) (tc_of (by decide)) (by simp)
  have o3 := one ((List.replicate 1001 [97]).flatten ++ [10]) (some (.st [])) (tc_app (rep_tc (tc_of (by decide))) (tc_of (by decide))) (by rw [List.length_append, rep_len]; simp)
  have o4 := one (List.replicate 1001 [97, 10]).flatten (some (.st ((List.replicate 1001 [97]).flatten ++ [10]))) (rep_tc (tc_of (by decide))) (by rw [rep_len]; simp)
  have o5 := one (List.replicate 26 lineA).flatten (some (.st (List.replicate 1001 [97, 10]).flatten)) (rep_tc ta) (by rw [rep_len, la]; decide)
  have o6 := one (List.replicate 25 lineA).flatten (some (.st (List.replicate 26 lineA).flatten)) (rep_tc ta) (by rw [rep_len, la]; decide)
  exact ⟨some (.st (List.replicate 25 lineA).flatten), (for_ok k4).trans ((forL_go o1.1 o1.2).trans ((forL_go o2.1 o2.2).trans ((forL_go o3.1 o3.2).trans ((forL_go o4.1 o4.2).trans ((forL_go o5.1 o5.2).trans ((forL_go o6.1 o6.2).trans forL_end))))))⟩
theorem p10 {d : D} (hs : SD n d) (hn : n ≤ 900000) : ∃ d', SD (n + 1) d' ∧ c10 mg (LG ns s1 s2 (.ow d) s4 s5 s6 s7 s8 s9 s10 s11 s12) = .ok .nx (LG ns s1 s2 (.ow d') s4 s5 s6 s7 s8 s9 s10 s11 s12) := by
  obtain ⟨x, d', x0, x1, sd, e⟩ := dig (i := 3) (s := .ow d) (Γ := LG ns s1 s2 (.ow d) s4 s5 s6 s7 s8 s9 s10 s11 s12) (b := 3) (m := ret (.int 3)) rfl rfl hs (by omega) (by omega) (by omega) rfl
  obtain ⟨y, hy, ey⟩ := ix_mem (xs := [.non, .int 5, .lst [.str "a\n"]]) x0 (by simpa using x1)
  have hy' : isiO "str" y = some (.bl false) := by
    simp only [List.mem_cons, List.not_mem_nil, or_false] at hy
    rcases hy with rfl | rfl | rfl <;> rfl
  have r1 : (D.tup [.str "text", .non]).rp = true := by
    have h2 : ("text" : Str).cps.all (· < 0x110000) = true := by decide +kernel
    simp only [D.rp, D.rps, h2, Bool.and_true]
  refine ⟨d', sd, cb_ie (cb_asB (cb_repr_ne (d := .tup [.str "text", .non]) (cb_cons (cb_call (ds := [y]) (cb_cons (cb_bin (cb_lst (ds := [.non, .int 5, .lst [.str "a\n"]]) (cb_cons rfl (cb_cons rfl (cb_cons (cb_lst (ds := [.str "a\n"]) rfl (by simp)) rfl))) (by simp)) e ey) rfl) (lread_no hy')) rfl) (cb_cons (cb_tup rfl (by simp)) rfl) r1 ?_ ?_)) rfl⟩
  · simp [D.py, D.pys, PyData.depth, PyData.depthAll]
  · have : ("text" : Str).cps.size = 4 := by decide
    simp [D.py, D.pys, PyData.weight, PyData.weightAll, this]
theorem p11 {a11 : Option D} : c11 mg (LG ns s1 s2 s3 s4 s5 s6 s7 s8 s9 s10 (ows a11) s12) = .ok .nx (LG ns s1 s2 s3 s4 s5 s6 s7 s8 s9 s10 (.ow (.lst [])) s12) := cb_asg (cb_lst (ds := []) rfl (by simp)) (by cases a11 <;> rfl)
/-- a call that raises, its place kept -/
theorem keep {tab : Addr → Option (M D)} {f : Addr} {m : M D} {ma : M (List D)} {ds L : List D} {e : D} {Δ : SEnv} (ht : tab f = some m) (ha : ma (LG ns s1 s2 s3 s4 s5 s6 s7 s8 s9 s10 (.ow (.lst L)) (.sh (.ptr f))) = .ok ds (LG ns s1 s2 s3 s4 s5 s6 s7 s8 s9 s10 (.ow (.lst L)) (.sh (.ptr f)))) (he : m (ds.map .sh) = .er ⟨"BadBand", "place", e⟩ Δ) (hl : L.length ≤ 1000) :
    tryM 13 (clB "BadBand") (dropM (callL 12 tab ma)) (fun x => appS 11 (attM "BadBand" "place" x)) (LG ns s1 s2 s3 s4 s5 s6 s7 s8 s9 s10 (.ow (.lst L)) (.sh (.ptr f))) = .ok .nx (LG ns s1 s2 s3 s4 s5 s6 s7 s8 s9 s10 (.ow (.lst (L ++ [e]))) (.sh (.ptr f))) :=
  cb_try_er (x := ⟨"BadBand", "place", e⟩) (cb_drop_er (cb_callL (f := f) rfl ht (cb_call_er ha he))) clB_self rfl (cb_appS (s := .ow (.lst L)) rfl rfl (cb_att rfl rfl) hl) rfl
theorem tab1 : tab_law_280 mg (adr mg "form_of_band") = some (fnM 1 m_form_of_band) := if_pos rfl
theorem tab2 (T : Txt K mg) : tab_law_280 mg (adr mg "form_motion") = some (fnM 1 m_form_motion) := by
  unfold tab_law_280
  rw [if_neg (df_ne T.d_form_motion T.d_form_of_band (by decide)), if_pos rfl]
theorem tab3 (T : Txt K mg) : tab_law_280 mg (adr mg "band_text") = some (fnM 7 m_band_text) := by
  unfold tab_law_280
  rw [if_neg (df_ne T.d_band_text T.d_form_of_band (by decide)), if_neg (df_ne T.d_band_text T.d_form_motion (by decide)), if_pos rfl]
theorem tab4 : tab_law_285 mg (adr mg "carrier_between") = some (fnM 4 m_carrier_between) := if_pos rfl
theorem tab5 (T : Txt K mg) : tab_law_285 mg (adr mg "parting_cell") = some (fnM 6 m_parting_cell) := by
  unfold tab_law_285
  rw [if_neg (df_ne T.d_parting_cell T.d_carrier_between (by decide)), if_pos rfl]
theorem p12 (T : Txt K mg) {a12 : Option D} : ∃ b12, c12 mg (LG ns s1 s2 s3 s4 s5 s6 s7 s8 s9 s10 (.ow (.lst [])) (osl a12)) = .ok .nx (LG ns s1 s2 s3 s4 s5 s6 s7 s8 s9 s10 (.ow (.lst [.non, .non, .non])) (osl b12)) := by
  have k4 : seqM (tupM (consA (ret (.ptr (adr mg "form_of_band"))) (consA (ret (.ptr (adr mg "form_motion"))) (consA (ret (.ptr (adr mg "band_text"))) (nilA))))) (LG ns s1 s2 s3 s4 s5 s6 s7 s8 s9 s10 (.ow (.lst [])) (osl a12))
      = .ok [.ptr (adr mg "form_of_band"), .ptr (adr mg "form_motion"), .ptr (adr mg "band_text")] (LG ns s1 s2 s3 s4 s5 s6 s7 s8 s9 s10 (.ow (.lst [])) (osl a12)) := cb_seqT (cb_tup rfl (by simp))
  have a2 : ∀ Γ : SEnv, consA (tupM (consA (ret (.int 1)) (consA (ret (.int 1)) (nilA)))) nilA Γ = .ok [.tup [.int 1, .int 1]] Γ := fun Γ => cb_cons (cb_tup rfl (by simp)) rfl
  have o1 := keep (ns := ns) (s1 := s1) (s2 := s2) (s3 := s3) (s4 := s4) (s5 := s5) (s6 := s6) (s7 := s7) (s8 := s8) (s9 := s9) (s10 := s10) (L := []) (tab1 (mg := mg)) (a2 _) (er_fob wr_two) (by simp)
  have o2 := keep (ns := ns) (s1 := s1) (s2 := s2) (s3 := s3) (s4 := s4) (s5 := s5) (s6 := s6) (s7 := s7) (s8 := s8) (s9 := s9) (s10 := s10) (L := [.non]) (tab2 T) (a2 _) (er_fmo wr_two) (by simp)
  have o3 := keep (ns := ns) (s1 := s1) (s2 := s2) (s3 := s3) (s4 := s4) (s5 := s5) (s6 := s6) (s7 := s7) (s8 := s8) (s9 := s9) (s10 := s10) (L := [.non, .non]) (tab3 T) (a2 _) (er_bt wr_two) (by simp)
  refine ⟨some (.ptr (adr mg "band_text")), (for_ok k4).trans ((forL_go ?_ o1).trans ((forL_go rfl o2).trans ((forL_go rfl o3).trans forL_end)))⟩
  cases a12 <;> rfl
theorem inner {tab : Addr → Option (M D)} {f : Addr} {m : M D} {L : List D} (v : VB w h l) (c : VC l) (ht : tab f = some m) (e1 : ∀ {x e y : D}, Wr x e → m [.sh x, .sh y] = .er ⟨"BadBand", "place", e⟩ [.sh x, .sh y]) (e2 : ∀ {x e : D}, Wr x e → m [.sh (.bd w h l), .sh x] = .er ⟨"BadBand", "place", e⟩ [.sh (.bd w h l), .sh x]) (hl : L.length ≤ 900) {a8 a9 : Option D} :
    ∃ b8 b9, forM (seqM (tupM (consA (tupM (consA (ret .non) (consA (vr 4) (nilA)))) (consA (tupM (consA (vr 4) (consA (ret .non) (nilA)))) (consA (tupM (consA (tupM (consA (ret (.int 1)) (consA (ret (.int 1)) (consA (ret (.str "?")) (nilA))))) (consA (ret .non) (nilA)))) (nilA)))))) (gtM 2 (unp1 (stS 8) (unp1 (stS 9) unp0))) (tryM 13 (clB "BadBand") (dropM (callL 12 tab (consA (vr 8) (consA (vr 9) (nilA))))) (fun x => appS 11 (attM "BadBand" "place" x)))
      (LG ns s1 s2 s3 (.sh (.bd w h l)) s5 s6 s7 (osl a8) (osl a9) s10 (.ow (.lst L)) (.sh (.ptr f))) = .ok .nx (LG ns s1 s2 s3 (.sh (.bd w h l)) s5 s6 s7 (osl b8) (osl b9) s10 (.ow (.lst (L ++ [.non] ++ [.non] ++ [.str "colours"]))) (.sh (.ptr f))) := by
  have k4 : seqM (tupM (consA (tupM (consA (ret .non) (consA (vr 4) (nilA)))) (consA (tupM (consA (vr 4) (consA (ret .non) (nilA)))) (consA (tupM (consA (tupM (consA (ret (.int 1)) (consA (ret (.int 1)) (consA (ret (.str "?")) (nilA))))) (consA (ret .non) (nilA)))) (nilA))))) (LG ns s1 s2 s3 (.sh (.bd w h l)) s5 s6 s7 (osl a8) (osl a9) s10 (.ow (.lst L)) (.sh (.ptr f)))
      = .ok [.tup [.non, .bd w h l], .tup [.bd w h l, .non], .tup [.tup [.int 1, .int 1, .str "?"], .non]] (LG ns s1 s2 s3 (.sh (.bd w h l)) s5 s6 s7 (osl a8) (osl a9) s10 (.ow (.lst L)) (.sh (.ptr f))) :=
    cb_seqT (cb_tup (cb_cons (cb_tup rfl (by simp)) (cb_cons (cb_tup rfl (by simp)) (cb_cons (cb_tup (cb_cons (cb_tup rfl (by simp)) rfl) (by simp)) rfl))) (by simp))
  have o1 := keep (ns := ns) (s1 := s1) (s2 := s2) (s3 := s3) (s4 := .sh (.bd w h l)) (s5 := s5) (s6 := s6) (s7 := s7) (s8 := .sh .non) (s9 := .sh (.bd w h l)) (s10 := s10) (L := L) (ma := consA (vr 8) (consA (vr 9) nilA)) (ds := [.non, .bd w h l]) ht rfl (e1 wr_non) (by omega)
  have o2 := keep (ns := ns) (s1 := s1) (s2 := s2) (s3 := s3) (s4 := .sh (.bd w h l)) (s5 := s5) (s6 := s6) (s7 := s7) (s8 := .sh (.bd w h l)) (s9 := .sh .non) (s10 := s10) (L := L ++ [.non]) (ma := consA (vr 8) (consA (vr 9) nilA)) (ds := [.bd w h l, .non]) ht rfl (e2 wr_non) (by simp; omega)
  have o3 := keep (ns := ns) (s1 := s1) (s2 := s2) (s3 := s3) (s4 := .sh (.bd w h l)) (s5 := s5) (s6 := s6) (s7 := s7) (s8 := .sh (.tup [.int 1, .int 1, .str "?"])) (s9 := .sh .non) (s10 := s10) (L := L ++ [.non] ++ [.non]) (ma := consA (vr 8) (consA (vr 9) nilA)) (ds := [.tup [.int 1, .int 1, .str "?"], .non]) ht rfl (e1 wr_col) (by simp; omega)
  refine ⟨some (.tup [.int 1, .int 1, .str "?"]), some .non, (for_ok k4).trans ((forL_go ?_ o1).trans ((forL_go rfl o2).trans ((forL_go rfl o3).trans forL_end)))⟩
  cases a8 <;> cases a9 <;> rfl
def PLACES : List D := [.non, .non, .non, .non, .non, .str "colours", .non, .non, .str "colours"]
theorem p13 (T : Txt K mg) (v : VB w h l) (c : VC l) {a8 a9 a12 : Option D} : ∃ b8 b9 b12, c13 mg (LG ns s1 s2 s3 (.sh (.bd w h l)) s5 s6 s7 (osl a8) (osl a9) s10 (.ow (.lst [.non, .non, .non])) (osl a12)) = .ok .nx (LG ns s1 s2 s3 (.sh (.bd w h l)) s5 s6 s7 (osl b8) (osl b9) s10 (.ow (.lst PLACES)) (osl b12)) := by
  have k4 : seqM (tupM (consA (ret (.ptr (adr mg "carrier_between"))) (consA (ret (.ptr (adr mg "parting_cell"))) (nilA)))) (LG ns s1 s2 s3 (.sh (.bd w h l)) s5 s6 s7 (osl a8) (osl a9) s10 (.ow (.lst [.non, .non, .non])) (osl a12)) = .ok [.ptr (adr mg "carrier_between"), .ptr (adr mg "parting_cell")] (LG ns s1 s2 s3 (.sh (.bd w h l)) s5 s6 s7 (osl a8) (osl a9) s10 (.ow (.lst [.non, .non, .non])) (osl a12)) := cb_seqT (cb_tup rfl (by simp))
  obtain ⟨b8, b9, o1⟩ := inner (ns := ns) (s1 := s1) (s2 := s2) (s3 := s3) (s5 := s5) (s6 := s6) (s7 := s7) (s10 := s10) (L := [.non, .non, .non]) (a8 := a8) (a9 := a9) v c (tab4 (mg := mg)) (fun q => er_car1 q) (fun q => er_car2 v c q) (by simp)
  obtain ⟨d8, d9, o2⟩ := inner (ns := ns) (s1 := s1) (s2 := s2) (s3 := s3) (s5 := s5) (s6 := s6) (s7 := s7) (s10 := s10) (L := [.non, .non, .non] ++ [.non] ++ [.non] ++ [.str "colours"]) (a8 := b8) (a9 := b9) v c (tab5 T) (fun q => er_par1 q) (fun q => er_par2 v c q) (by simp)
  refine ⟨d8, d9, some (.ptr (adr mg "parting_cell")), (for_ok k4).trans ((forL_go ?_ o1).trans ((forL_go rfl o2).trans forL_end))⟩
  cases a12 <;> rfl
theorem places_rp : (D.lst PLACES).rp = true := by
  have h2 : ("colours" : Str).cps.all (· < 0x110000) = true := by decide +kernel
  simp only [PLACES, D.rp, D.rps, h2, Bool.and_true]
theorem places_d : (D.lst PLACES).py.depth ≤ 60 := by simp [PLACES, D.py, D.pys, PyData.depth, PyData.depthAll]
theorem places_w : (D.lst PLACES).py.weight ≤ 1000000 := by
  have : ("colours" : Str).cps.size = 7 := by decide
  simp [PLACES, D.py, D.pys, PyData.weight, PyData.weightAll, this]
theorem p14 : c14 mg (LG ns s1 s2 s3 s4 s5 s6 s7 s8 s9 s10 (.ow (.lst PLACES)) s12) = .ok .nx (LG ns s1 s2 s3 s4 s5 s6 s7 s8 s9 s10 (.ow (.lst PLACES)) s12) := by
  have e := repr_ok places_rp places_d places_w
  have hs : deepOk (.str (D.lst PLACES).py.shown) = true := by simp [deepOk, D.pl, D.py, PyData.depth]
  have a : bin D.add (bin D.mul (lstM (consA (ret .non) (nilA))) (ret (.int 5))) (lstM (consA (ret (.str "colours")) (consA (ret .non) (consA (ret .non) (consA (ret (.str "colours")) (nilA)))))) (LG ns s1 s2 s3 s4 s5 s6 s7 s8 s9 s10 (.ow (.lst PLACES)) s12) = .ok (.lst PLACES) (LG ns s1 s2 s3 s4 s5 s6 s7 s8 s9 s10 (.ow (.lst PLACES)) s12) :=
    cb_bin (cb_bin (cb_lst (ds := [.non]) rfl (by simp)) rfl (rep_lst (n := 5) (by simp))) (cb_lst (ds := [.str "colours", .non, .non, .str "colours"]) rfl (by simp)) (cb_add (by simp))
  exact cb_ie (cb_asB (cb_bin (cb_pk1 (s := .ow (.lst PLACES)) rfl rfl e rfl) (cb_app (cb_cons a rfl) e) (cb_self hs).1)) rfl
/-- one cell of the script -/
abbrev bodyM (mg : Str → Option Value) : M Flow := sq (c1 mg) (sq (c2 mg) (sq (c3 mg) (sq (c4 mg) (sq (c5 mg) (sq (c6 mg) (sq (c7 mg) (sq (c8 mg) (sq (c9 mg) (sq (c10 mg) (sq (c11 mg) (sq (c12 mg) (sq (c13 mg) (c14 mg)))))))))))))
theorem body_ok (T : Txt K mg) {k c : Int} (hk : 0 ≤ k) (hk2 : k ≤ 60) {a3 a4 a5 a6 a7 a8 a9 a10 a11 a12 : Option D} : ∃ b3 b4 b5 b6 b7 b8 b9 b10 b11 b12, bodyM mg (LG ns (.sh (.int k)) (.sh (.int c)) (ows a3) (osl a4) (osl a5) (osl a6) (osl a7) (osl a8) (osl a9) (osl a10) (ows a11) (osl a12))
    = .ok .nx (LG ns (.sh (.int k)) (.sh (.int c)) (ows b3) (osl b4) (osl b5) (osl b6) (osl b7) (osl b8) (osl b9) (osl b10) (ows b11) (osl b12)) := by
  obtain ⟨d1, t1, e1⟩ := p1 (mg := mg) (ns := ns) (k := k) (c := c) hk hk2 (a3 := a3) (s4 := osl a4) (s5 := osl a5) (s6 := osl a6) (s7 := osl a7) (s8 := osl a8) (s9 := osl a9) (s10 := osl a10) (s11 := ows a11) (s12 := osl a12)
  obtain ⟨d2, w, h, l, t2, v, vc, hw, hh, e2⟩ := p2 (mg := mg) (ns := ns) (s1 := .sh (.int k)) (s2 := .sh (.int c)) t1 (by omega) (a4 := a4) (s5 := osl a5) (s6 := osl a6) (s7 := osl a7) (s8 := osl a8) (s9 := osl a9) (s10 := osl a10) (s11 := ows a11) (s12 := osl a12)
  obtain ⟨p, m, kk, s, g⟩ := gb_ex v vc
  obtain ⟨d3, w2, h2, l2, t3, v2, vc2, e3⟩ := p3 (mg := mg) (ns := ns) (s1 := .sh (.int k)) (s2 := .sh (.int c)) t2 (by omega) g hw hh (a5 := a5) (a6 := a6) (s7 := osl a7) (s8 := osl a8) (s9 := osl a9) (s10 := osl a10) (s11 := ows a11) (s12 := osl a12)
  obtain ⟨pp, mm, k2, ss, g2⟩ := gb_ex v2 vc2
  have e4 := p4 (mg := mg) (ns := ns) (s1 := .sh (.int k)) (s2 := .sh (.int c)) (s3 := .ow d3) (s5 := .sh (.bd w2 h2 l2)) g (s7 := osl a7) (s8 := osl a8) (s9 := osl a9) (s10 := osl a10) (s11 := ows a11) (s12 := osl a12)
  obtain ⟨d5, t5, e5⟩ := p5 (mg := mg) (ns := ns) (s1 := .sh (.int k)) (s2 := .sh (.int c)) t3 (by omega) g g2 (s6 := .sh (.bd p h m)) (s7 := osl a7) (s8 := osl a8) (s9 := osl a9) (s10 := osl a10) (s11 := ows a11) (s12 := osl a12)
  have e6 := p6 (mg := mg) (ns := ns) (s1 := .sh (.int k)) (s2 := .sh (.int c)) (s3 := .ow d5) (s4 := .sh (.bd w h l)) (s5 := .sh (.bd w2 h2 l2)) (s6 := .sh (.bd p h m)) (a7 := a7) (s8 := osl a8) (s9 := osl a9) (s10 := osl a10) (s11 := ows a11) (s12 := osl a12)
  obtain ⟨d7, w3, h3, l3, w4, h4, l4, t7, v3, vc3, v4, vc4, e7⟩ := p7 (mg := mg) (ns := ns) (s1 := .sh (.int k)) (s2 := .sh (.int c)) t5 (by omega) (s4 := .sh (.bd w h l)) (s5 := .sh (.bd w2 h2 l2)) (s6 := .sh (.bd p h m)) (a8 := a8) (a9 := a9) (s10 := osl a10) (s11 := ows a11) (s12 := osl a12)
  have e8 := p8 (mg := mg) (ns := ns) (s1 := .sh (.int k)) (s2 := .sh (.int c)) (s3 := .ow d7) (s4 := .sh (.bd w h l)) (s5 := .sh (.bd w2 h2 l2)) (s6 := .sh (.bd p h m)) (s7 := .sh (.lst PAIRS)) v3 vc3 v4 vc4 (s10 := osl a10) (s11 := ows a11) (s12 := osl a12)
  obtain ⟨b10, e9⟩ := p9 (mg := mg) (ns := ns) (s1 := .sh (.int k)) (s2 := .sh (.int c)) (s3 := .ow d7) (s4 := .sh (.bd w h l)) (s5 := .sh (.bd w2 h2 l2)) (s6 := .sh (.bd p h m)) (s7 := .sh (.lst PAIRS)) (s8 := .sh (.bd w3 h3 l3)) (s9 := .sh (.bd w4 h4 l4)) (a10 := a10) (s11 := ows a11) (s12 := osl a12)
  obtain ⟨d10, t10, e10⟩ := p10 (mg := mg) (ns := ns) (s1 := .sh (.int k)) (s2 := .sh (.int c)) t7 (by omega) (s4 := .sh (.bd w h l)) (s5 := .sh (.bd w2 h2 l2)) (s6 := .sh (.bd p h m)) (s7 := .sh (.lst PAIRS)) (s8 := .sh (.bd w3 h3 l3)) (s9 := .sh (.bd w4 h4 l4)) (s10 := osl b10) (s11 := ows a11) (s12 := osl a12)
  have e11 := p11 (mg := mg) (ns := ns) (s1 := .sh (.int k)) (s2 := .sh (.int c)) (s3 := .ow d10) (s4 := .sh (.bd w h l)) (s5 := .sh (.bd w2 h2 l2)) (s6 := .sh (.bd p h m)) (s7 := .sh (.lst PAIRS)) (s8 := .sh (.bd w3 h3 l3)) (s9 := .sh (.bd w4 h4 l4)) (s10 := osl b10) (a11 := a11) (s12 := osl a12)
  obtain ⟨b12, e12⟩ := p12 (ns := ns) (s1 := .sh (.int k)) (s2 := .sh (.int c)) (s3 := .ow d10) (s4 := .sh (.bd w h l)) (s5 := .sh (.bd w2 h2 l2)) (s6 := .sh (.bd p h m)) (s7 := .sh (.lst PAIRS)) (s8 := .sh (.bd w3 h3 l3)) (s9 := .sh (.bd w4 h4 l4)) (s10 := osl b10) T (a12 := a12)
  obtain ⟨b8, b9, f12, e13⟩ := p13 (ns := ns) (s1 := .sh (.int k)) (s2 := .sh (.int c)) (s3 := .ow d10) (s5 := .sh (.bd w2 h2 l2)) (s6 := .sh (.bd p h m)) (s7 := .sh (.lst PAIRS)) (s10 := osl b10) T v vc (a8 := some (.bd w3 h3 l3)) (a9 := some (.bd w4 h4 l4)) (a12 := b12)
  have e14 := p14 (mg := mg) (ns := ns) (s1 := .sh (.int k)) (s2 := .sh (.int c)) (s3 := .ow d10) (s4 := .sh (.bd w h l)) (s5 := .sh (.bd w2 h2 l2)) (s6 := .sh (.bd p h m)) (s7 := .sh (.lst PAIRS)) (s8 := osl b8) (s9 := osl b9) (s10 := osl b10) (s12 := osl f12)
  exact ⟨some d10, some (.bd w h l), some (.bd w2 h2 l2), some (.bd p h m), some (.lst PAIRS), b8, b9, b10, some (.lst PLACES), f12,
    (sq_nx e1).trans ((sq_nx e2).trans ((sq_nx e3).trans ((sq_nx e4).trans ((sq_nx e5).trans ((sq_nx e6).trans ((sq_nx e7).trans ((sq_nx e8).trans ((sq_nx e9).trans ((sq_nx e10).trans ((sq_nx e11).trans ((sq_nx e12).trans ((sq_nx e13).trans e14))))))))))))⟩
theorem cells_loop (T : Txt K mg) : ∀ {l : List D}, (∀ d ∈ l, ∃ (k : Nat) (c : Int), d = .tup [.int k, .int c] ∧ k ≤ 3) → ∀ {a1 a2 a3 a4 a5 a6 a7 a8 a9 a10 a11 a12 : Option D},
    ∃ Γ, forL (gtM 2 (unp1 (stS 1) (unp1 (stS 2) unp0))) (bodyM mg) l (LG ns (osl a1) (osl a2) (ows a3) (osl a4) (osl a5) (osl a6) (osl a7) (osl a8) (osl a9) (osl a10) (ows a11) (osl a12)) = .ok .nx Γ
  | [], _, a1, a2, a3, a4, a5, a6, a7, a8, a9, a10, a11, a12 => ⟨_, rfl⟩
  | d :: l, h, a1, a2, a3, a4, a5, a6, a7, a8, a9, a10, a11, a12 => by
    obtain ⟨k, c, rfl, hk⟩ := h _ List.mem_cons_self
    obtain ⟨b3, b4, b5, b6, b7, b8, b9, b10, b11, b12, e⟩ := body_ok (ns := ns) T (k := k) (c := c) (by omega) (by omega) (a3 := a3) (a4 := a4) (a5 := a5) (a6 := a6) (a7 := a7) (a8 := a8) (a9 := a9) (a10 := a10) (a11 := a11) (a12 := a12)
    obtain ⟨Γ, e2⟩ := cells_loop T (fun x hx => h x (List.mem_cons_of_mem _ hx)) (a1 := some (.int k)) (a2 := some (.int c)) (a3 := b3) (a4 := b4) (a5 := b5) (a6 := b6) (a7 := b7) (a8 := b8) (a9 := b9) (a10 := b10) (a11 := b11) (a12 := b12)
    refine ⟨Γ, (forL_go ?_ e).trans e2⟩
    cases a1 <;> cases a2 <;> rfl
end DL.K70
set_option Elab.async false
set_option linter.all false
set_option maxRecDepth 100000
set_option maxHeartbeats 4000000
set_option autoImplicit false
namespace DL
open PySem L2
theorem numD_mem : ∀ (ds : List D) (k : Nat) (d : D), d ∈ numD k ds → ∃ (j : Nat) (x : D), d = .tup [.int j, x] ∧ x ∈ ds ∧ k ≤ j ∧ j < k + ds.length
  | [], k, d, h => by cases h
  | y :: ds, k, d, h => by
    rcases List.mem_cons.mp h with rfl | h
    · exact ⟨k, y, rfl, List.mem_cons_self, Nat.le_refl _, by rw [List.length_cons]; omega⟩
    · obtain ⟨j, x, e, hx, h1, h2⟩ := numD_mem ds (k + 1) d h
      exact ⟨j, x, e, List.mem_cons_of_mem _ hx, by omega, by rw [List.length_cons]; omega⟩
/-- enumerate(script[:n] + [sum(script)]) -/
theorem cells_ok {n : Nat} (hn : n ≤ 60) {ns : List Int} (hl : ns.length ≤ 63) {Γ : SEnv} : ∃ l, enumM (bin D.add (sliceM (vr 0) (ret none) (someI (ret (.int (n : Int))))) (lstM (consA (appM D.sum (consA (vr 0) (nilA))) (nilA)))) (.sh (.scr ns) :: Γ) = .ok l (.sh (.scr ns) :: Γ) ∧
    ∀ d ∈ l, ∃ (k : Nat) (c : Int), d = .tup [.int k, .int c] ∧ k ≤ n := by
  have e1 : sliceM (vr 0) (ret none) (someI (ret (.int (n : Int)))) (.sh (.scr ns) :: Γ) = .ok (.lst ((ns.take n).map .int)) (.sh (.scr ns) :: Γ) := by
    have e : D.slice none (some (n : Int)) (.scr ns) = some (.lst ((ns.take n).map .int)) := by
      show some (D.lst ((cutD ns none (some (n : Int))).map D.int)) = _
      unfold cutD
      rw [HT.sIx_nat, HT.sIx_none, List.drop_zero, Nat.sub_zero]
      by_cases h : n ≤ ns.length
      · rw [Nat.min_eq_left h]
      · rw [Nat.min_eq_right (by omega), List.take_of_length_le (by omega), List.take_of_length_le (by omega)]
    exact cb_slice rfl rfl (cb_some rfl) e
  have e2 : lstM (consA (appM D.sum (consA (vr 0) (nilA))) (nilA)) (.sh (.scr ns) :: Γ) = .ok (.lst [.int ns.sum]) (.sh (.scr ns) :: Γ) := cb_lst (cb_cons rfl rfl) (by simp)
  have e3 : bin D.add (sliceM (vr 0) (ret none) (someI (ret (.int (n : Int))))) (lstM (consA (appM D.sum (consA (vr 0) (nilA))) (nilA))) (.sh (.scr ns) :: Γ) = .ok (.lst ((ns.take n).map .int ++ [.int ns.sum])) (.sh (.scr ns) :: Γ) :=
    cb_bin e1 e2 (cb_add (by rw [List.length_map, List.length_take, List.length_cons, List.length_nil]; omega))
  refine ⟨numD 0 ((ns.take n).map .int ++ [.int ns.sum]), ?_, fun d hd => ?_⟩
  · unfold enumM bnd
    rw [e3]
    rfl
  · obtain ⟨j, x, rfl, hx, _, hj⟩ := numD_mem _ _ _ hd
    rw [List.length_append, List.length_map, List.length_take, List.length_cons, List.length_nil] at hj
    rcases List.mem_append.mp hx with hx | hx
    · obtain ⟨c, _, rfl⟩ := List.mem_map.mp hx
      exact ⟨j, c, rfl, by omega⟩
    · rw [List.mem_singleton] at hx
      subst hx
      exact ⟨j, _, rfl, by omega⟩
end DL
namespace DL.K70
open PySem L2 DL
variable {mg : Str → Option Value} {K : PySem.W.Frag}
theorem plain (T : Txt K mg) {ns : List Int} (hl : ns.length ≤ 63) : ∃ Γ, fnM 14 (m_law mg) [.sh (.scr ns)] = .ok (.bl true) Γ := by
  obtain ⟨l, e0, hd⟩ := cells_ok (n := 3) (by omega) hl (Γ := [.no, .no, .no, .no, .no, .no, .no, .no, .no, .no, .no, .no, .no])
  obtain ⟨Γ, e1⟩ := cells_loop T (ns := ns) hd (a1 := none) (a2 := none) (a3 := none) (a4 := none) (a5 := none) (a6 := none) (a7 := none) (a8 := none) (a9 := none) (a10 := none) (a11 := none) (a12 := none)
  refine ⟨_, fnM_rt (Δ := Γ) ?_ rfl⟩
  show m_law mg [.sh (.scr ns), .no, .no, .no, .no, .no, .no, .no, .no, .no, .no, .no, .no, .no] = _
  unfold m_law
  exact (sq_nx ((for_ok e0).trans e1)).trans rfl
end DL.K70
open PySem PySem.W PyProof.Rows
set_option Elab.async false
set_option maxRecDepth 100000 in
set_option maxHeartbeats 0 in
theorem PySem.Challenge.cw_patternwright_k70_whole_forms_of_bands_a_holds : PySem.Challenge.rw_patternwright_k70_whole_forms_of_bands_a.Holds := by
  w_on; o_law; k_head; (case hw => w_witness2)
  k_fill
  refine DL.walk_G (l := PySem.Challenge.rw_patternwright_k70_whole_forms_of_bands_a) (n := 63) (k := 7) (x := "script") (m := fun _ mg => DL.fnM 14 (DL.K70.m_law mg)) rfl (by decide) rfl ⟨rfl, by decide, by decide⟩ (fun w h Y => PySem.W.kIn_of Y) ?F
  case F =>
    intro w mg fa h KX G hmg
    have T : DL.K70.Txt (L2.KOf KX) mg := by
      delta L2.KOf
      refine' ⟨(DL.df_mk KX G ?d0a ?d0l ?d0c ?d0k),
          (DL.df_mk KX G ?d1a ?d1l ?d1c ?d1k),
          (DL.df_mk KX G ?d2a ?d2l ?d2c ?d2k),
          (DL.df_mk KX G ?d3a ?d3l ?d3c ?d3k),
          (DL.df_mk KX G ?d4a ?d4l ?d4c ?d4k),
          (DL.df_mk KX G ?d5a ?d5l ?d5c ?d5k),
          (DL.df_mk KX G ?d6a ?d6l ?d6c ?d6k),
          (DL.df_mk KX G ?d7a ?d7l ?d7c ?d7k),
          (DL.df_mk KX G ?d8a ?d8l ?d8c ?d8k),
          (DL.df_mk KX G ?d9a ?d9l ?d9c ?d9k),
          (DL.df_mk KX G ?d10a ?d10l ?d10c ?d10k),
          (DL.df_mk KX G ?d11a ?d11l ?d11c ?d11k),
          (DL.df_mk KX G ?d12a ?d12l ?d12c ?d12k),
          (DL.df_mk KX G ?d13a ?d13l ?d13c ?d13k),
          (DL.df_mk KX G ?d14a ?d14l ?d14c ?d14k),
          (DL.df_mk KX G ?d15a ?d15l ?d15c ?d15k),
          (DL.df_mk KX G ?d16a ?d16l ?d16c ?d16k),
          (DL.df_mk KX G ?d17a ?d17l ?d17c ?d17k),
          (DL.df_mk KX G ?d18a ?d18l ?d18c ?d18k),
          (DL.df_mk KX G ?d19a ?d19l ?d19c ?d19k),
          (DL.df_mk KX G ?d20a ?d20l ?d20c ?d20k),
          (DL.df_mk KX G ?d21a ?d21l ?d21c ?d21k),
          (DL.df_mk KX G ?d22a ?d22l ?d22c ?d22k),
          (DL.df_mk KX G ?d23a ?d23l ?d23c ?d23k),
          (DL.df_mk KX G ?d24a ?d24l ?d24c ?d24k),
          (DL.df_mk KX G ?d25a ?d25l ?d25c ?d25k),
          (DL.df_mk KX G ?d26a ?d26l ?d26c ?d26k),
          (DL.df_mk KX G ?d27a ?d27l ?d27c ?d27k),
          (DL.df_mk KX G ?d28a ?d28l ?d28c ?d28k),
          (DL.df_mk KX G ?d29a ?d29l ?d29c ?d29k),
          (DL.df_mk KX G ?d30a ?d30l ?d30c ?d30k),
          (DL.df_mk KX G ?d31a ?d31l ?d31c ?d31k),
          (DL.df_mk KX G ?d32a ?d32l ?d32c ?d32k),
          (DL.df_mk KX G ?d33a ?d33l ?d33c ?d33k),
          (DL.df_mk KX G ?d34a ?d34l ?d34c ?d34k),
          (DL.df_mk KX G ?d35a ?d35l ?d35c ?d35k),
          (PySem.W.mg_none_of KX G ?b0),
          (PySem.W.mg_none_of KX G ?b1),
          (PySem.W.mg_none_of KX G ?b2),
          (PySem.W.mg_none_of KX G ?b3),
          (PySem.W.mg_none_of KX G ?b4),
          (PySem.W.mg_none_of KX G ?b5),
          (PySem.W.mg_none_of KX G ?b6),
          (PySem.W.mg_none_of KX G ?b7),
          (PySem.W.mg_none_of KX G ?b8),
          (PySem.W.mg_none_of KX G ?b9),
          (PySem.W.mg_none_of KX G ?b10),
          (PySem.W.mg_none_of KX G ?b11),
          (PySem.W.mg_none_of KX G ?b12),
          (DL.cst_int KX G ?c0),
          (DL.cst_int KX G ?c1),
          (DL.cst_str KX G ?c2),
          (DL.base_mk KX G ?o0a ?o0r ?o0g ?o0f),
          ?p0,
          (DL.ecl_mk KX G ?e0aC ?e0xL ?e0tb ?e0sa ?e0ga ?e0gg ?e0nb ?e0ai ?e0ti ?e0li ?e0ci ?e0ki ?e0lT ?e0dT ?e0kC ?e0eC ?e0tC ?e0hC ?e0iC ?e0sC ⟨rfl, rfl, rfl, by decide +kernel, rfl, by decide +kernel, by decide +kernel⟩ (fun _ _ _ _ _ _ _ us its h1 h2 => match us, its, h1, h2 with | [_, _], [_], _, _ => ⟨_, rfl, rfl⟩)),
          (DL.ecl_mk KX G ?e1aC ?e1xL ?e1tb ?e1sa ?e1ga ?e1gg ?e1nb ?e1ai ?e1ti ?e1li ?e1ci ?e1ki ?e1lT ?e1dT ?e1kC ?e1eC ?e1tC ?e1hC ?e1iC ?e1sC ⟨rfl, rfl, rfl, by decide +kernel, rfl, by decide +kernel, by decide +kernel⟩ (fun _ _ _ _ _ _ _ us its h1 h2 => match us, its, h1, h2 with | [_, _], [_], _, _ => ⟨_, rfl, rfl⟩)),
          (DL.ecl_mk KX G ?e2aC ?e2xL ?e2tb ?e2sa ?e2ga ?e2gg ?e2nb ?e2ai ?e2ti ?e2li ?e2ci ?e2ki ?e2lT ?e2dT ?e2kC ?e2eC ?e2tC ?e2hC ?e2iC ?e2sC ⟨rfl, rfl, rfl, by decide +kernel, rfl, by decide +kernel, by decide +kernel⟩ (fun _ _ _ _ _ _ _ us its h1 h2 => match us, its, h1, h2 with | [_, _], [_], _, _ => ⟨_, rfl, rfl⟩)),
          (DL.ecl_mk KX G ?e3aC ?e3xL ?e3tb ?e3sa ?e3ga ?e3gg ?e3nb ?e3ai ?e3ti ?e3li ?e3ci ?e3ki ?e3lT ?e3dT ?e3kC ?e3eC ?e3tC ?e3hC ?e3iC ?e3sC ⟨rfl, rfl, rfl, by decide +kernel, rfl, by decide +kernel, by decide +kernel⟩ (fun _ _ _ _ _ _ _ us its h1 h2 => match us, its, h1, h2 with | [_, _], [_], _, _ => ⟨_, rfl, rfl⟩))⟩
      (case d0a => k_is)
      (case d0l => k_is)
      (case d0c => k_is)
      (case d0k => k_is)
      (case d1a => k_is)
      (case d1l => k_is)
      (case d1c => k_is)
      (case d1k => k_is)
      (case d2a => k_is)
      (case d2l => k_is)
      (case d2c => k_is)
      (case d2k => k_is)
      (case d3a => k_is)
      (case d3l => k_is)
      (case d3c => k_is)
      (case d3k => k_is)
      (case d4a => k_is)
      (case d4l => k_is)
      (case d4c => k_is)
      (case d4k => k_is)
      (case d5a => k_is)
      (case d5l => k_is)
      (case d5c => k_is)
      (case d5k => k_is)
      (case d6a => k_is)
      (case d6l => k_is)
      (case d6c => k_is)
      (case d6k => k_is)
      (case d7a => k_is)
      (case d7l => k_is)
      (case d7c => k_is)
      (case d7k => k_is)
      (case d8a => k_is)
      (case d8l => k_is)
      (case d8c => k_is)
      (case d8k => k_is)
      (case d9a => k_is)
      (case d9l => k_is)
      (case d9c => k_is)
      (case d9k => k_is)
      (case d10a => k_is)
      (case d10l => k_is)
      (case d10c => k_is)
      (case d10k => k_is)
      (case d11a => k_is)
      (case d11l => k_is)
      (case d11c => k_is)
      (case d11k => k_is)
      (case d12a => k_is)
      (case d12l => k_is)
      (case d12c => k_is)
      (case d12k => k_is)
      (case d13a => k_is)
      (case d13l => k_is)
      (case d13c => k_is)
      (case d13k => k_is)
      (case d14a => k_is)
      (case d14l => k_is)
      (case d14c => k_is)
      (case d14k => k_is)
      (case d15a => k_is)
      (case d15l => k_is)
      (case d15c => k_is)
      (case d15k => k_is)
      (case d16a => k_is)
      (case d16l => k_is)
      (case d16c => k_is)
      (case d16k => k_is)
      (case d17a => k_is)
      (case d17l => k_is)
      (case d17c => k_is)
      (case d17k => k_is)
      (case d18a => k_is)
      (case d18l => k_is)
      (case d18c => k_is)
      (case d18k => k_is)
      (case d19a => k_is)
      (case d19l => k_is)
      (case d19c => k_is)
      (case d19k => k_is)
      (case d20a => k_is)
      (case d20l => k_is)
      (case d20c => k_is)
      (case d20k => k_is)
      (case d21a => k_is)
      (case d21l => k_is)
      (case d21c => k_is)
      (case d21k => k_is)
      (case d22a => k_is)
      (case d22l => k_is)
      (case d22c => k_is)
      (case d22k => k_is)
      (case d23a => k_is)
      (case d23l => k_is)
      (case d23c => k_is)
      (case d23k => k_is)
      (case d24a => k_is)
      (case d24l => k_is)
      (case d24c => k_is)
      (case d24k => k_is)
      (case d25a => k_is)
      (case d25l => k_is)
      (case d25c => k_is)
      (case d25k => k_is)
      (case d26a => k_is)
      (case d26l => k_is)
      (case d26c => k_is)
      (case d26k => k_is)
      (case d27a => k_is)
      (case d27l => k_is)
      (case d27c => k_is)
      (case d27k => k_is)
      (case d28a => k_is)
      (case d28l => k_is)
      (case d28c => k_is)
      (case d28k => k_is)
      (case d29a => k_is)
      (case d29l => k_is)
      (case d29c => k_is)
      (case d29k => k_is)
      (case d30a => k_is)
      (case d30l => k_is)
      (case d30c => k_is)
      (case d30k => k_is)
      (case d31a => k_is)
      (case d31l => k_is)
      (case d31c => k_is)
      (case d31k => k_is)
      (case d32a => k_is)
      (case d32l => k_is)
      (case d32c => k_is)
      (case d32k => k_is)
      (case d33a => k_is)
      (case d33l => k_is)
      (case d33c => k_is)
      (case d33k => k_is)
      (case d34a => k_is)
      (case d34l => k_is)
      (case d34c => k_is)
      (case d34k => k_is)
      (case d35a => k_is)
      (case d35l => k_is)
      (case d35c => k_is)
      (case d35k => k_is)
      (case b0 => k_is)
      (case b1 => k_is)
      (case b2 => k_is)
      (case b3 => k_is)
      (case b4 => k_is)
      (case b5 => k_is)
      (case b6 => k_is)
      (case b7 => k_is)
      (case b8 => k_is)
      (case b9 => k_is)
      (case b10 => k_is)
      (case b11 => k_is)
      (case b12 => k_is)
      (case c0 => k_is)
      (case c1 => k_is)
      (case c2 => k_is)
      (case o0a => k_is)
      (case o0r => k_is)
      (case o0g => k_is)
      (case o0f => k_is)
      (case p0 => k_is)
      (case e0aC => k_is)
      (case e0xL => k_is)
      (case e0tb => first | rfl | decide +kernel | kernel_rfl)
      (case e0sa => k_is)
      (case e0ga => k_is)
      (case e0gg => k_is)
      (case e0nb => k_is)
      (case e0ai => k_is)
      (case e0ti => k_is)
      (case e0li => k_is)
      (case e0ci => k_is)
      (case e0ki => k_is)
      (case e0lT => k_is)
      (case e0dT => rfl)
      (case e0kC => k_is)
      (case e0eC => k_is)
      (case e0tC => k_is)
      (case e0hC => k_is)
      (case e0iC => k_is)
      (case e0sC => first | rfl | k_is)
      (case e1aC => k_is)
      (case e1xL => k_is)
      (case e1tb => first | rfl | decide +kernel | kernel_rfl)
      (case e1sa => k_is)
      (case e1ga => k_is)
      (case e1gg => k_is)
      (case e1nb => k_is)
      (case e1ai => k_is)
      (case e1ti => k_is)
      (case e1li => k_is)
      (case e1ci => k_is)
      (case e1ki => k_is)
      (case e1lT => k_is)
      (case e1dT => rfl)
      (case e1kC => k_is)
      (case e1eC => k_is)
      (case e1tC => k_is)
      (case e1hC => k_is)
      (case e1iC => k_is)
      (case e1sC => first | rfl | k_is)
      (case e2aC => k_is)
      (case e2xL => k_is)
      (case e2tb => first | rfl | decide +kernel | kernel_rfl)
      (case e2sa => k_is)
      (case e2ga => k_is)
      (case e2gg => k_is)
      (case e2nb => k_is)
      (case e2ai => k_is)
      (case e2ti => k_is)
      (case e2li => k_is)
      (case e2ci => k_is)
      (case e2ki => k_is)
      (case e2lT => k_is)
      (case e2dT => rfl)
      (case e2kC => k_is)
      (case e2eC => k_is)
      (case e2tC => k_is)
      (case e2hC => k_is)
      (case e2iC => k_is)
      (case e2sC => first | rfl | k_is)
      (case e3aC => k_is)
      (case e3xL => k_is)
      (case e3tb => first | rfl | decide +kernel | kernel_rfl)
      (case e3sa => k_is)
      (case e3ga => k_is)
      (case e3gg => k_is)
      (case e3nb => k_is)
      (case e3ai => k_is)
      (case e3ti => k_is)
      (case e3li => k_is)
      (case e3ci => k_is)
      (case e3ki => k_is)
      (case e3lT => k_is)
      (case e3dT => rfl)
      (case e3kC => k_is)
      (case e3eC => k_is)
      (case e3tC => k_is)
      (case e3hC => k_is)
      (case e3iC => k_is)
      (case e3sC => first | rfl | k_is)

    obtain ⟨fd, hb, hF⟩ := DL.law_end (P := PySem.Challenge.rw_patternwright_k70_whole_forms_of_bands_a.prog) (w := w) hmg T.d_law (fun base => DL.K70.O_law (base := base) T) (fun _ _ _ _ _ _ us hl => match us, hl with | [_], _ => rfl)
    exact ⟨fd, hb, fun base _ _ => hF base, fun ns hl => DL.K70.plain T hl⟩
