import PyProof.Rows.All
import Wide.All
import OpenK.AllK
import Wide.FinOn
import PyProof.EqAt
import PyProof.EqKinds
import PyProof.TupleCall
import HandS.ForMost
import HandS.ForExc
import HandS.TupAny
import HandS.IsInst
import HandS.RevTup
import HandS.Rev
import HandS.Conv
import HandS.More
import HandS.ExcOwn
import HandS.WordsExc
import HandS.Small
import HandS.Comp
import HandS.SortInts
import HandS.Ends
import HandS.Words
import PySem.Challenge.RW_sortlore_k82_groups_walked
set_option Elab.async false
set_option linter.all false
set_option maxRecDepth 100000
set_option maxHeartbeats 1000000
namespace DL
open PySem PySem.Spec L2

/-! ## plain data -/
abbrev Txt := List Nat
abbrev DK := Sum Int Txt
inductive Sc where
  | non | bl (b : Bool) | int (i : Int) | str (s : Txt)
  deriving DecidableEq
inductive Kind where
  | lst (o : Bool) | scr | tup | dct (o : Bool) (ks : List DK) | dcT (o : Bool) (ks : List (List DK)) | ins (o : Bool) (c : Nat)
  deriving DecidableEq
inductive D where
  | sc (s : Sc) | nd (k : Kind) (ds : List D)
abbrev D.non : D := .sc .non
abbrev D.bl (b : Bool) : D := .sc (.bl b)
abbrev D.int (i : Int) : D := .sc (.int i)
abbrev D.str (s : Txt) : D := .sc (.str s)
abbrev D.lst (o : Bool) (xs : List D) : D := .nd (.lst o) xs
abbrev D.scr (xs : List D) : D := .nd .scr xs
abbrev D.tup (xs : List D) : D := .nd .tup xs
abbrev D.ins (o : Bool) (c : Nat) (xs : List D) : D := .nd (.ins o c) xs

/-- classes by number: where they stand, their fields in the turn in which they are stored -/
structure RT where
  cls : Nat → Addr
  lay : Nat → List Str

def strV (s : Txt) : Str := ⟨s.toArray⟩
theorem strV_list (s : Txt) : (strV s).cps.toList = s := by simp [strV]
theorem strV_inj {s t : Txt} (h : strV s = strV t) : s = t := by
  have := congrArg (fun z : Str => z.cps.toList) h
  simpa [strV] using this
theorem strV_len (s : Txt) : (strV s).length = s.length := by
  show (strV s).cps.size = s.length
  simp [strV]
def encS : Sc → V
  | .non => .non
  | .bl b => .bl b
  | .int i => .int i
  | .str s => .str (strV s)
def key : DK → Key
  | .inl i => .inl i
  | .inr s => .inr (strV s)
theorem key_inj {a b : DK} (h : key a = key b) : a = b := by
  cases a <;> cases b <;> simp [key] at h
  · rw [h]
  · rw [strV_inj h]
theorem kV_key (k : DK) : kV (key k) = encS (match k with | .inl i => .int i | .inr s => .str s) := by
  cases k <;> rfl

def zipK (ks : List DK) (vs : List V) : List (Key × V) := (ks.map key).zip vs
def zipT (ks : List (List DK)) (vs : List V) : List (List Key × V) := (ks.map (·.map key)).zip vs

section
variable (K : PySem.W.Frag) (R : RT)
/-- a node of one's own -/
def StO (H : Hp) (a : Addr) : Kind → List V → Prop
  | .lst o, vs => o = true ∧ H a = some (.lst vs)
  | .scr, _ => False
  | .tup, _ => False
  | .dct o ks, vs => o = true ∧ ks.length = vs.length ∧ H a = some (.dK (zipK ks vs))
  | .dcT o ks, vs => o = true ∧ ks.length = vs.length ∧ H a = some (.dT (zipT ks vs))
  | .ins o c, vs => o = true ∧ vs.length ≤ (R.lay c).length ∧ ∃ dx, H a = some (.ins (R.cls c) dx ((R.lay c).zip vs))
/-- a tuple: tracked, or an object of the module -/
def TupAt (H : Hp) (a : Addr) (xs : List V) : Prop :=
  H a = some (.tup xs) ∨ ∃ (o : Obj) (its : Array Value) (n : Nat), K.lookup a = some o ∧ o.cls = .type "tuple" ∧ o.data = .seq its n ∧ its.size ≤ sizeLine ∧ Vals xs its.toList
/-- a node that stays -/
def StF (H : Hp) (a : Addr) : Kind → List V → Prop
  | .lst o, vs => o = false ∧ H a = some (.lst vs)
  | .scr, vs => SqL K H a vs
  | .tup, vs => TupAt K H a vs
  | .dct o ks, vs => o = false ∧ ks.length = vs.length ∧ H a = some (.dK (zipK ks vs))
  | .dcT o ks, vs => o = false ∧ ks.length = vs.length ∧ H a = some (.dT (zipT ks vs))
  | .ins o c, vs => o = false ∧ vs.length ≤ (R.lay c).length ∧ ∃ dx, H a = some (.ins (R.cls c) dx ((R.lay c).zip vs))
mutual
/-- v is the data d: what stays stands in F, what is one's own in H alone, at the places of the list -/
inductive Rep (F H : Hp) : V → D → List Addr → Prop
  | sc (s : Sc) : Rep F H (encS s) (.sc s) []
  | fz {a : Addr} {k : Kind} {vs : List V} {ds : List D} {A : List Addr} : StF K R F a k vs → RepL F H vs ds A → ((k = .tup ∧ F a = some (.tup vs)) ∨ A = []) → Rep F H (.ref a) (.nd k ds) A
  | ow {a : Addr} {k : Kind} {vs : List V} {ds : List D} {A : List Addr} : StO R H a k vs → F a = none → RepL F H vs ds A → Rep F H (.ref a) (.nd k ds) (a :: A)
inductive RepL (F H : Hp) : List V → List D → List Addr → Prop
  | nil : RepL F H [] [] []
  | cons {v : V} {d : D} {A : List Addr} {vs : List V} {ds : List D} {B : List Addr} : Rep F H v d A → RepL F H vs ds B → RepL F H (v :: vs) (d :: ds) (A ++ B)
end
end

def Kind.cold : Kind → Bool
  | .lst o => !o
  | .scr => true
  | .tup => false
  | .dct o _ => !o
  | .dcT o _ => !o
  | .ins o _ => !o
def Kind.fr : Kind → Kind
  | .lst _ => .lst false
  | .scr => .scr
  | .tup => .tup
  | .dct _ ks => .dct false ks
  | .dcT _ ks => .dcT false ks
  | .ins _ c => .ins false c
mutual
/-- nothing of it is one's own -/
def fz : D → Bool
  | .sc _ => true
  | .nd k ds => k.cold || (decide (k = .tup) && fzL ds)
def fzL : List D → Bool
  | [] => true
  | d :: r => fz d && fzL r
end
mutual
/-- given up: nothing of it is one's own any more -/
def frz : D → D
  | .sc s => .sc s
  | .nd k ds => if k.cold = true then .nd k ds else .nd k.fr (frzL ds)
def frzL : List D → List D
  | [] => []
  | d :: r => frz d :: frzL r
end
theorem frzL_map : ∀ l : List D, frzL l = l.map frz
  | [] => rfl
  | d :: r => by rw [frzL, frzL_map r]; rfl
theorem fzL_all : ∀ l : List D, fzL l = l.all fz
  | [] => rfl
  | d :: r => by rw [fzL, fzL_all r]; rfl

section
variable {K : PySem.W.Frag} {R : RT} {F F' H H' : Hp}
theorem TupAt.sq {a : Addr} {vs : List V} (h : TupAt K F a vs) : SqT K F a vs := h.elim (fun e => .inl (.inl e)) .inr
theorem TupAt.mono {a : Addr} {vs : List V} (e : Same F F') (h : TupAt K F a vs) : TupAt K F' a vs := h.elim (fun q => .inl (e _ _ q)) .inr
theorem StF.mono {a : Addr} {k : Kind} {vs : List V} (e : Same F F') (h : StF K R F a k vs) : StF K R F' a k vs := by
  cases k with
  | lst o => exact ⟨h.1, e _ _ h.2⟩
  | scr => exact e.seq h
  | tup => exact TupAt.mono e h
  | dct o ks => exact ⟨h.1, h.2.1, e _ _ h.2.2⟩
  | dcT o ks => exact ⟨h.1, h.2.1, e _ _ h.2.2⟩
  | ins o c =>
    obtain ⟨h1, h2, dx, h3⟩ := h
    exact ⟨h1, h2, dx, e _ _ h3⟩
theorem StO.at {a : Addr} {k : Kind} {vs : List V} (e : H' a = H a) (h : StO R H a k vs) : StO R H' a k vs := by
  cases k with
  | lst o => exact ⟨h.1, e.trans h.2⟩
  | scr => exact h
  | tup => exact h
  | dct o ks => exact ⟨h.1, h.2.1, e.trans h.2.2⟩
  | dcT o ks => exact ⟨h.1, h.2.1, e.trans h.2.2⟩
  | ins o c =>
    obtain ⟨h1, h2, dx, h3⟩ := h
    exact ⟨h1, h2, dx, e.trans h3⟩
theorem StO.there {a : Addr} {k : Kind} {vs : List V} (h : StO R H a k vs) : ∃ o, H a = some o := by
  cases k with
  | lst o => exact ⟨_, h.2⟩
  | scr => exact h.elim
  | tup => exact h.elim
  | dct o ks => exact ⟨_, h.2.2⟩
  | dcT o ks => exact ⟨_, h.2.2⟩
  | ins o c =>
    obtain ⟨h1, h2, dx, h3⟩ := h
    exact ⟨_, h3⟩
theorem StO.cold {a : Addr} {k : Kind} {vs : List V} (h : StO R H a k vs) : k.cold = false ∧ k ≠ .tup := by
  cases k with
  | lst o => exact ⟨by rw [h.1] <;> rfl, by intro z; cases z⟩
  | scr => exact h.elim
  | tup => exact h.elim
  | dct o ks => exact ⟨by rw [h.1] <;> rfl, by intro z; cases z⟩
  | dcT o ks => exact ⟨by rw [h.1] <;> rfl, by intro z; cases z⟩
  | ins o c => exact ⟨by rw [h.1] <;> rfl, by intro z; cases z⟩
theorem StO.frz {a : Addr} {k : Kind} {vs : List V} (e : F' a = H a) (h : StO R H a k vs) : StF K R F' a k.fr vs := by
  cases k with
  | lst o => exact ⟨rfl, e.trans h.2⟩
  | scr => exact h.elim
  | tup => exact h.elim
  | dct o ks => exact ⟨rfl, h.2.1, e.trans h.2.2⟩
  | dcT o ks => exact ⟨rfl, h.2.1, e.trans h.2.2⟩
  | ins o c =>
    obtain ⟨h1, h2, dx, h3⟩ := h
    exact ⟨rfl, h2, dx, e.trans h3⟩
theorem StF.cold {a : Addr} {k : Kind} {vs : List V} (h : StF K R F a k vs) : k = .tup ∨ k.cold = true := by
  cases k with
  | lst o => exact .inr (by rw [h.1] <;> rfl)
  | scr => exact .inr rfl
  | tup => exact .inl rfl
  | dct o ks => exact .inr (by rw [h.1] <;> rfl)
  | dcT o ks => exact .inr (by rw [h.1] <;> rfl)
  | ins o c => exact .inr (by rw [h.1] <;> rfl)
mutual
theorem Rep.mono (e : Same F F') {v : V} {d : D} {A : List Addr} (h : Rep K R F H v d A) : (∀ a ∈ A, H' a = H a ∧ F' a = none) → Rep K R F' H' v d A := fun g =>
  match h with
  | .sc s => .sc s
  | .fz h1 h2 h3 => .fz (h1.mono e) (RepL.mono e h2 g) (h3.imp (fun z => ⟨z.1, e _ _ z.2⟩) id)
  | .ow h1 h2 h3 => .ow (h1.at (g _ List.mem_cons_self).1) (g _ List.mem_cons_self).2 (RepL.mono e h3 fun a ha => g a (List.mem_cons_of_mem _ ha))
theorem RepL.mono (e : Same F F') {v : List V} {d : List D} {A : List Addr} (h : RepL K R F H v d A) : (∀ a ∈ A, H' a = H a ∧ F' a = none) → RepL K R F' H' v d A := fun g =>
  match h with
  | .nil => .nil
  | .cons h1 h2 => .cons (Rep.mono e h1 fun a ha => g a (List.mem_append_left _ ha)) (RepL.mono e h2 fun a ha => g a (List.mem_append_right _ ha))
end
mutual
theorem Rep.own {v : V} {d : D} {A : List Addr} (h : Rep K R F H v d A) : ∀ a ∈ A, (∃ o, H a = some o) ∧ F a = none :=
  match h with
  | .sc s => fun _ z => by cases z
  | .fz h1 h2 h3 => RepL.own h2
  | .ow h1 h2 h3 => fun a ha => by
    rcases List.mem_cons.mp ha with e | ha
    · rw [e]; exact ⟨h1.there, h2⟩
    · exact RepL.own h3 a ha
theorem RepL.own {v : List V} {d : List D} {A : List Addr} (h : RepL K R F H v d A) : ∀ a ∈ A, (∃ o, H a = some o) ∧ F a = none :=
  match h with
  | .nil => fun _ z => by cases z
  | .cons h1 h2 => fun a ha => (List.mem_append.mp ha).elim (Rep.own h1 a) (RepL.own h2 a)
end
mutual
theorem Rep.none {v : V} {d : D} {A : List Addr} (h : Rep K R F H v d A) : fz d = true → A = [] := fun z =>
  match h with
  | .sc s => rfl
  | .fz (k := k) h1 h2 h3 => by
    rcases h3 with ⟨e, _⟩ | e
    · subst e
      exact RepL.none h2 (by simpa [fz, Kind.cold] using z)
    · exact e
  | .ow h1 h2 h3 => by
    obtain ⟨c1, c2⟩ := h1.cold
    rw [fz, c1, Bool.false_or, decide_eq_false c2, Bool.false_and] at z
    cases z
theorem RepL.none {v : List V} {d : List D} {A : List Addr} (h : RepL K R F H v d A) : fzL d = true → A = [] := fun z =>
  match h with
  | .nil => rfl
  | .cons h1 h2 => by
    rw [fzL, Bool.and_eq_true] at z
    rw [Rep.none h1 z.1, RepL.none h2 z.2] <;> rfl
end
mutual
theorem Rep.frz (e : Same F F') {v : V} {d : D} {A : List Addr} (h : Rep K R F H v d A) : (∀ a ∈ A, F' a = H a) → Rep K R F' H' v (frz d) [] := fun g =>
  match h with
  | .sc s => .sc s
  | .fz (k := k) h1 h2 h3 => by
    rw [DL.frz]
    by_cases hc : k.cold = true
    · rw [if_pos hc]
      have e0 : _ = [] := h3.elim (fun z => by rw [z.1] at hc; cases hc) id
      subst e0
      exact .fz (h1.mono e) (RepL.mono e h2 fun a ha => by cases ha) (.inr rfl)
    · rw [if_neg hc]
      have ek : k = .tup := (StF.cold h1).elim id fun z => absurd z hc
      subst ek
      exact .fz (k := .tup) (StF.mono e h1) (RepL.frz e h2 g) (.inr rfl)
  | .ow (k := k) h1 h2 h3 => by
    rw [DL.frz, if_neg (by rw [h1.cold.1]; decide)]
    exact .fz (h1.frz (g _ List.mem_cons_self)) (RepL.frz e h3 fun a ha => g a (List.mem_cons_of_mem _ ha)) (.inr rfl)
theorem RepL.frz (e : Same F F') {v : List V} {d : List D} {A : List Addr} (h : RepL K R F H v d A) : (∀ a ∈ A, F' a = H a) → RepL K R F' H' v (frzL d) [] := fun g =>
  match h with
  | .nil => .nil
  | .cons h1 h2 => .cons (A := []) (B := []) (Rep.frz e h1 fun a ha => g a (List.mem_append_left _ ha)) (RepL.frz e h2 fun a ha => g a (List.mem_append_right _ ha))
end
end

/-! ## heaps that grow -/
structure Grow (F H F' H' : Hp) : Prop where
  hh : Same H H'
  ff : Same F F'
  fh : Same F' H'
  nw : ∀ a o, H a = some o → F' a = F a
section
variable {K : PySem.W.Frag} {R : RT} {F F' F'' H H' H'' : Hp}
theorem Grow.refl (h : Same F H) : Grow F H F H := ⟨.refl _, .refl _, h, fun _ _ _ => rfl⟩
theorem Grow.trans (a : Grow F H F' H') (b : Grow F' H' F'' H'') : Grow F H F'' H'' :=
  ⟨a.hh.trans b.hh, a.ff.trans b.ff, b.fh, fun x o h => (b.nw x o (a.hh x o h)).trans (a.nw x o h)⟩
theorem Grow.free (a : Grow F H F' H') {p : Addr} (h : H' p = none) : H p = none := a.hh.free h
theorem Rep.grow {v : V} {d : D} {A : List Addr} (h : Rep K R F H v d A) (g : Grow F H F' H') : Rep K R F' H' v d A := h.mono g.ff fun a ha => by
  obtain ⟨⟨o, ho⟩, hf⟩ := h.own a ha
  exact ⟨by rw [ho]; exact g.hh _ _ ho, (g.nw _ _ ho).trans hf⟩
theorem RepL.grow {v : List V} {d : List D} {A : List Addr} (h : RepL K R F H v d A) (g : Grow F H F' H') : RepL K R F' H' v d A := h.mono g.ff fun a ha => by
  obtain ⟨⟨o, ho⟩, hf⟩ := h.own a ha
  exact ⟨by rw [ho]; exact g.hh _ _ ho, (g.nw _ _ ho).trans hf⟩
theorem same_upd {H : Hp} {p : Addr} {o : HO} (h : H p = none) : Same H (upd H p o) := fun b x e => by
  rw [upd_ne (ne_of_none e h)]
  exact e
/-- a new object of one's own -/
theorem Grow.new {p : Addr} {o : HO} (s : Same F H) (h : H p = none) : Grow F H F (upd H p o) := ⟨same_upd h, .refl _, s.trans (same_upd h), fun _ _ _ => rfl⟩
/-- a new object that stays -/
theorem Grow.newF {p : Addr} {o : HO} (s : Same F H) (h : H p = none) : Grow F H (upd F p o) (upd H p o) := by
  refine ⟨same_upd h, same_upd (s.free h), fun a u e => ?_, fun a u e => upd_ne (ne_of_none e h)⟩
  by_cases ha : a = p
  · subst ha; rw [upd_same] at e ⊢; exact e
  · rw [upd_ne ha] at e ⊢; exact s a u e
theorem same_none {F H : Hp} (s : Same F H) {p : Addr} (h : H p = none) : F p = none := s.free h
end

/-! ## slots -/
abbrev Sl := List (Option D)
structure EnvR (K : PySem.W.Frag) (R : RT) (F H : Hp) (σ : St) (env : Sl) (As : Nat → List Addr) : Prop where
  len : σ.length = env.length
  val : ∀ i d, env[i]? = some (some d) → ∃ v, σ[i]? = some (some v) ∧ Rep K R F H v d (As i)
  emp : ∀ i, (∀ d, env[i]? ≠ some (some d)) → As i = []
  dis : ∀ i j a, i ≠ j → a ∈ As i → a ∉ As j
  nod : ∀ i, (As i).Nodup
section
variable {K : PySem.W.Frag} {R : RT} {F F' H H' : Hp} {σ : St} {env : Sl} {As : Nat → List Addr}
theorem EnvR.own (h : EnvR K R F H σ env As) {i : Nat} {a : Addr} (ha : a ∈ As i) : (∃ o, H a = some o) ∧ F a = none := by
  cases e : env[i]? with
  | none => rw [h.emp i (fun d z => by rw [e] at z; cases z)] at ha; cases ha
  | some o =>
    cases o with
    | none => rw [h.emp i (fun d z => by rw [e] at z; cases z)] at ha; cases ha
    | some d =>
      obtain ⟨v, _, r⟩ := h.val i d e
      exact r.own a ha
theorem EnvR.grow (h : EnvR K R F H σ env As) (g : Grow F H F' H') : EnvR K R F' H' σ env As :=
  ⟨h.len, fun i d e => let ⟨v, e1, r⟩ := h.val i d e; ⟨v, e1, r.grow g⟩, h.emp, h.dis, h.nod⟩
/-- a slot is stored -/
theorem EnvR.set (h : EnvR K R F H σ env As) {i : Nat} {v : V} {d : D} {B : List Addr} (hi : i < env.length) (r : Rep K R F H v d B) (nb : B.Nodup) (db : ∀ j a, j ≠ i → a ∈ B → a ∉ As j) :
    EnvR K R F H (σ.set i (some v)) (env.set i (some d)) (fun j => if j = i then B else As j) := by
  refine ⟨by simpa using h.len, fun j x e => ?_, fun j hj => ?_, fun j l a hjl ha => ?_, fun j => ?_⟩
  · by_cases hji : j = i
    · subst hji
      rw [List.getElem?_set_self hi] at e
      cases e
      exact ⟨v, by rw [List.getElem?_set_self (by rw [h.len]; exact hi)], by simpa using r⟩
    · rw [List.getElem?_set_ne (Ne.symm hji)] at e
      obtain ⟨u, e1, r1⟩ := h.val j x e
      exact ⟨u, by rw [List.getElem?_set_ne (Ne.symm hji)]; exact e1, by simpa [hji] using r1⟩
  · by_cases hji : j = i
    · subst hji
      exact absurd (List.getElem?_set_self hi) (hj d)
    · simp only [if_neg hji]
      exact h.emp j fun x e => hj x (by rw [List.getElem?_set_ne (Ne.symm hji)]; exact e)
  · by_cases h1 : j = i
    · subst h1
      simp only [if_true] at ha
      simp only [if_neg (Ne.symm hjl)]
      exact db l a (Ne.symm hjl) ha
    · simp only [if_neg h1] at ha
      by_cases h2 : l = i
      · subst h2
        simp only [if_true]
        exact fun z => db j a h1 z ha
      · simp only [if_neg h2]
        exact h.dis j l a hjl ha
  · by_cases h1 : j = i
    · simp only [if_pos h1]; exact nb
    · simp only [if_neg h1]; exact h.nod j
/-- fresh things stand apart -/
theorem EnvR.apart (h : EnvR K R F H σ env As) {B : List Addr} {H0 : Hp} (s : Same H H0) (fr : ∀ a ∈ B, H a = none) : ∀ j a, a ∈ B → a ∉ As j := fun j a ha hj => by
  obtain ⟨⟨o, ho⟩, _⟩ := h.own hj
  rw [fr a ha] at ho; cases ho
end

/-! ## exceptions as data: the class's number, what it was made with -/
structure EX where
  c : Nat
  args : List D
def RepX (K : PySem.W.Frag) (R : RT) (F : Hp) (cls : Value) (dx : Option Addr) (x : EX) : Prop :=
  cls = .ref (R.cls x.c) ∧ ((x.args = [] ∧ dx = none) ∨ ∃ d vs, dx = some d ∧ vs.length = (R.lay x.c).length ∧ F d = some (.xd ((R.lay x.c).zip vs)) ∧ RepL K R F F vs x.args [])

/-! ## what an expression tells, over plain data; the Bool: it may be (or hold) what a slot owns -/
abbrev TEd := Sl → (Bool → D → Prop) → (EX → Prop) → Prop
abbrev TTd := Sl → (Bool → Prop) → (EX → Prop) → Prop
abbrev TAd := Sl → (List D → Prop) → (EX → Prop) → Prop
def safe (b : Bool) (d : D) : Prop := b = false ∨ fz d = true
def Fresh (H : Hp) (B : List Addr) : Prop := B.Nodup ∧ ∀ a ∈ B, H a = none

section
variable (K : PySem.W.Frag) (R : RT) (W : WX)
def ExW (F H : Hp) (σ : St) (Ed : EX → Prop) : Prop := ∀ F' H' cls dx x, Grow F H F' H' → RepX K R F' cls dx x → Ed x → W cls dx σ H'
def LE (t : TE) (td : TEd) : Prop := ∀ (F H : Hp) (σ : St) (env : Sl) (As : Nat → List Addr) (Q : VK) (Qd : Bool → D → Prop) (Ed : EX → Prop),
  Same F H → EnvR K R F H σ env As → td env Qd Ed →
  (∀ F' H' v d B b, Grow F H F' H' → Rep K R F' H' v d B → (b = false → Fresh H B) → Qd b d → Q v H') → ExW K R W F H σ Ed → t σ H Q
def LT (t : TT) (td : TTd) : Prop := ∀ (F H : Hp) (σ : St) (env : Sl) (As : Nat → List Addr) (Q : Bool → Hp → Prop) (Qd : Bool → Prop) (Ed : EX → Prop),
  Same F H → EnvR K R F H σ env As → td env Qd Ed → (∀ F' H' c, Grow F H F' H' → Qd c → Q c H') → ExW K R W F H σ Ed → t σ H Q
/-- arguments: all may be given away -/
def LA (t : TA) (td : TAd) : Prop := ∀ (F H : Hp) (σ : St) (env : Sl) (As : Nat → List Addr) (Q : List V → Hp → Prop) (Qd : List D → Prop) (Ed : EX → Prop),
  Same F H → EnvR K R F H σ env As → td env Qd Ed →
  (∀ F' H' vs ds B, Grow F H F' H' → RepL K R F' H' vs ds B → Fresh H B → Qd ds → Q vs H') → ExW K R W F H σ Ed → t σ H Q
/-- arguments that are only looked at -/
def LB (t : TA) (td : TAd) : Prop := ∀ (F H : Hp) (σ : St) (env : Sl) (As : Nat → List Addr) (Q : List V → Hp → Prop) (Qd : List D → Prop) (Ed : EX → Prop),
  Same F H → EnvR K R F H σ env As → td env Qd Ed →
  (∀ F' H' vs ds B, Grow F H F' H' → RepL K R F' H' vs ds B → Qd ds → Q vs H') → ExW K R W F H σ Ed → t σ H Q
end
section
variable (X : Cx) (R : RT)
def DE (e : Expr) (td : TEd) : Prop := ∀ W, Takes X W → ∃ t, PE X e t ∧ LE X.K R W t td
def DT (e : Expr) (td : TTd) : Prop := ∀ W, Takes X W → ∃ t, PT X e t ∧ LT X.K R W t td
def DW (e : Expr) (td : TTd) : Prop := ∀ W, Takes X W → ∃ t, PW X e t ∧ LT X.K R W t td
def DA (es : List Expr) (td : TAd) : Prop := ∀ W, Takes X W → ∃ t, PA X es t ∧ LA X.K R W t td
def DB (es : List Expr) (td : TAd) : Prop := ∀ W, Takes X W → ∃ t, PA X es t ∧ LB X.K R W t td
end
theorem ExW.grow {K : PySem.W.Frag} {R : RT} {W : WX} {F H F' H' : Hp} {σ : St} {Ed : EX → Prop} (h : ExW K R W F H σ Ed) (g : Grow F H F' H') : ExW K R W F' H' σ Ed :=
  fun F2 H2 cls dx x g2 r e => h F2 H2 cls dx x (g.trans g2) r e
theorem Fresh.back {F H F' H' : Hp} {B : List Addr} (h : Fresh H' B) (g : Grow F H F' H') : Fresh H B := ⟨h.1, fun a ha => g.free (h.2 a ha)⟩
theorem Fresh.nil {H : Hp} : Fresh H [] := ⟨List.nodup_nil, fun _ z => by cases z⟩
/-- of what may be given away -/
theorem Fresh.of_safe {K : PySem.W.Frag} {R : RT} {F H H0 : Hp} {v : V} {d : D} {B : List Addr} {b : Bool} (r : Rep K R F H v d B) (h : b = false → Fresh H0 B) (s : safe b d) : Fresh H0 B := by
  rcases s with s | s
  · exact h s
  · rw [r.none s]; exact .nil
theorem Fresh.append {K : PySem.W.Frag} {R : RT} {F H F1 H1 : Hp} {v : V} {d : D} {A B : List Addr} (g : Grow F H F1 H1) (r : Rep K R F1 H1 v d A) (h1 : Fresh H A) (h2 : Fresh H1 B) : Fresh H (A ++ B) := by
  refine ⟨List.nodup_append.mpr ⟨h1.1, h2.1, fun a ha b hb e => ?_⟩, fun a ha => ?_⟩
  · subst e
    obtain ⟨⟨o, ho⟩, _⟩ := r.own a ha
    rw [h2.2 a hb] at ho; cases ho
  · rcases List.mem_append.mp ha with ha | ha
    · exact h1.2 a ha
    · exact g.free (h2.2 a ha)
end DL

set_option Elab.async false
set_option linter.all false
set_option maxRecDepth 100000
set_option maxHeartbeats 1000000
namespace DL
open PySem PySem.Spec L2

/-! ## names, constants, displays -/
def dVar (i : Nat) : TEd := fun env Q _ => match env[i]? with
  | some (some d) => Q true d
  | _ => False
def dC (s : Sc) : TEd := fun _ Q _ => Q false (.sc s)
def dNil : TAd := fun _ Q _ => Q []
def dCons (ta : TEd) (tr : TAd) : TAd := fun env Q E => ta env (fun b d => safe b d ∧ tr env (fun ds => Q (d :: ds)) E) E
def bNil : TAd := fun _ Q _ => Q []
def bCons (ta : TEd) (tr : TAd) : TAd := fun env Q E => ta env (fun _ d => tr env (fun ds => Q (d :: ds)) E) E
def dLst (ta : TAd) : TEd := fun env Q E => ta env (fun ds => ds.length ≤ 1000 ∧ Q false (.lst true ds)) E
def dTup (ta : TAd) : TEd := fun env Q E => ta env (fun ds => ds.length ≤ 1000 ∧ Q false (.tup ds)) E
theorem sz1000 {n : Nat} (h : n ≤ 1000) : n ≤ sizeLine := by rw [sizeLine_eq]; omega

section
variable {K : PySem.W.Frag} {R : RT} {W : WX}
theorem le_var {i : Nat} : LE K R W (tVar i) (dVar i) := by
  intro F H σ env As Q Qd Ed s er h q _
  unfold dVar at h
  split at h
  · rename_i d e
    obtain ⟨v, e1, r⟩ := er.val i d e
    exact ⟨v, e1, q F H v d (As i) true (.refl s) r (by intro z; cases z) h⟩
  · exact h.elim
theorem le_c {s : Sc} : LE K R W (tC (encS s)) (dC s) := fun F H σ env As Q Qd Ed sm er h q _ => q F H _ _ [] false (.refl sm) (.sc s) (fun _ => .nil) h
theorem la_nil : LA K R W tNil dNil := fun F H σ env As Q Qd Ed sm er h q _ => q F H [] [] [] (.refl sm) .nil .nil h
theorem la_cons {ta : TE} {td : TEd} {ts : TA} {tds : TAd} (h1 : LE K R W ta td) (h2 : LA K R W ts tds) : LA K R W (tCons ta ts) (dCons td tds) := by
  intro F H σ env As Q Qd Ed s er h q x
  refine h1 F H σ env As _ _ Ed s er h (fun F1 H1 v d B b g1 r1 f1 hd => ?_) x
  obtain ⟨sf, hd⟩ := hd
  have fB := Fresh.of_safe r1 f1 sf
  refine h2 F1 H1 σ env As _ _ Ed g1.fh (er.grow g1) hd (fun F2 H2 vs ds C g2 r2 f2 hq => ?_) (x.grow g1)
  exact q F2 H2 (v :: vs) (d :: ds) (B ++ C) (g1.trans g2) (.cons (r1.grow g2) r2) (Fresh.append g1 r1 fB f2) hq
theorem lb_nil : LB K R W tNil bNil := fun F H σ env As Q Qd Ed sm er h q _ => q F H [] [] [] (.refl sm) .nil h
theorem lb_cons {ta : TE} {td : TEd} {ts : TA} {tds : TAd} (h1 : LE K R W ta td) (h2 : LB K R W ts tds) : LB K R W (tCons ta ts) (bCons td tds) := by
  intro F H σ env As Q Qd Ed s er h q x
  refine h1 F H σ env As _ _ Ed s er h (fun F1 H1 v d B b g1 r1 f1 hd => ?_) x
  refine h2 F1 H1 σ env As _ _ Ed g1.fh (er.grow g1) hd (fun F2 H2 vs ds C g2 r2 hq => ?_) (x.grow g1)
  exact q F2 H2 (v :: vs) (d :: ds) (B ++ C) (g1.trans g2) (.cons (r1.grow g2) r2) hq
theorem le_lst {ta : TA} {td : TAd} (h1 : LA K R W ta td) : LE K R W (tLst ta) (dLst td) := by
  intro F H σ env As Q Qd Ed s er h q x
  refine h1 F H σ env As _ _ Ed s er h (fun F1 H1 vs ds B g1 r1 f1 hd => ?_) x
  obtain ⟨hl, hq⟩ := hd
  have hlen : vs.length = ds.length := by
    clear hq hl q x h f1 g1
    generalize hA : B = B' at r1
    clear hA
    induction ds generalizing vs B' with
    | nil => cases r1; rfl
    | cons d r ih => cases r1 with | cons a b => simp [ih _ _ b]
  refine ⟨sz1000 (by rw [hlen]; exact hl), fun p hp => ?_⟩
  have g2 : Grow F1 H1 F1 (upd H1 p (.lst vs)) := Grow.new g1.fh hp
  refine q F1 _ (.ref p) (.lst true ds) (p :: B) false (g1.trans g2) (.ow (k := .lst true) ⟨rfl, upd_same⟩ (same_none g1.fh hp) (r1.grow g2)) (fun _ => ⟨List.nodup_cons.mpr ⟨fun z => ?_, f1.1⟩, fun a ha => ?_⟩) hq
  · obtain ⟨⟨o, ho⟩, _⟩ := r1.own p z
    rw [hp] at ho; cases ho
  · rcases List.mem_cons.mp ha with e | ha
    · rw [e]; exact g1.free hp
    · exact f1.2 a ha
theorem RepL.length {F H : Hp} {vs : List V} {ds : List D} {B : List Addr} (r : RepL K R F H vs ds B) : vs.length = ds.length := by
  generalize hA : B = B' at r
  clear hA
  induction ds generalizing vs B' with
  | nil => cases r; rfl
  | cons d t ih => cases r with | cons a b => simp [ih _ b]
theorem le_tup {ta : TA} {td : TAd} (h1 : LA K R W ta td) : LE K R W (tTup ta) (dTup td) := by
  intro F H σ env As Q Qd Ed s er h q x
  refine h1 F H σ env As _ _ Ed s er h (fun F1 H1 vs ds B g1 r1 f1 hd => ?_) x
  obtain ⟨hl, hq⟩ := hd
  refine ⟨sz1000 (by rw [r1.length]; exact hl), fun p hp => ?_⟩
  have g2 : Grow F1 H1 (upd F1 p (.tup vs)) (upd H1 p (.tup vs)) := Grow.newF g1.fh hp
  exact q _ _ (.ref p) (.tup ds) B false (g1.trans g2) (.fz (k := .tup) (.inl upd_same) (r1.grow g2) (.inl ⟨rfl, upd_same⟩)) (fun _ => f1) hq
end

section
variable {X : Cx} {R : RT} {e : Expr} {es : List Expr} {td : TEd} {tds : TAd} {pos : Pos}
theorem de_var (i : Nat) {x : Str} (hN : X.N[i]? = some x := by rfl) (hv : Vis X.env.scope x := by first | exact Or.inl rfl | exact Or.inr (Or.inl rfl) | exact Or.inr (Or.inr rfl)) (hd : (x == ("__debug__" : Str)) = false := by decide)
    (hcd : (x == ("__classdict__" : Str)) = false := by decide) : DE X R (.Name x pos) (dVar i) := fun W _ => ⟨_, pe_var hN hv hd hcd, le_var⟩
theorem de_int {i : Int} {j : Nat} : DE X R (.Constant (.int i) j pos) (dC (.int i)) := fun W _ => ⟨_, pe_int, le_c (s := .int i)⟩
theorem de_bl {b : Bool} {j : Nat} : DE X R (.Constant (.bool b) j pos) (dC (.bl b)) := fun W _ => ⟨_, pe_bl, le_c (s := .bl b)⟩
theorem de_non {j : Nat} : DE X R (.Constant .none j pos) (dC .non) := fun W _ => ⟨_, pe_non, le_c (s := .non)⟩
theorem de_str {x : Str} {s : Txt} {j : Nat} (h : x = strV s := by rfl) : DE X R (.Constant (.str x) j pos) (dC (.str s)) := fun W _ => by
  subst h
  exact ⟨_, pe_str, le_c (s := .str s)⟩
theorem da_nil : DA X R [] dNil := fun W _ => ⟨_, pa_nil, la_nil⟩
theorem da_cons (h1 : DE X R e td) (h2 : DA X R es tds) (hs : starEach (e :: es) X.env = (false, eval e X.env) :: starEach es X.env := by rfl) : DA X R (e :: es) (dCons td tds) := fun W tk =>
  let ⟨_, a1, a2⟩ := h1 W tk; let ⟨_, b1, b2⟩ := h2 W tk; ⟨_, pa_cons a1 b1 hs, la_cons a2 b2⟩
theorem db_nil : DB X R [] bNil := fun W _ => ⟨_, pa_nil, lb_nil⟩
theorem db_cons (h1 : DE X R e td) (h2 : DB X R es tds) (hs : starEach (e :: es) X.env = (false, eval e X.env) :: starEach es X.env := by rfl) : DB X R (e :: es) (bCons td tds) := fun W tk =>
  let ⟨_, a1, a2⟩ := h1 W tk; let ⟨_, b1, b2⟩ := h2 W tk; ⟨_, pa_cons a1 b1 hs, lb_cons a2 b2⟩
theorem de_lst (h : DA X R es tds) : DE X R (.List es pos) (dLst tds) := fun W tk => let ⟨_, a1, a2⟩ := h W tk; ⟨_, pe_lst a1, le_lst a2⟩
theorem de_tup {x1 : Nat} (h : DA X R es tds) : DE X R (.Tuple es x1 pos) (dTup tds) := fun W tk => let ⟨_, a1, a2⟩ := h W tk; ⟨_, pe_tup a1, le_tup a2⟩
end

/-! ## operators by values -/
/-- an answer: the data, from a heap that may grow -/
def Out (K : PySem.W.Frag) (R : RT) (F H : Hp) (Qd : D → Prop) (Q : VK) : Prop := ∀ F' H' v z C, Grow F H F' H' → Rep K R F' H' v z C → Fresh H C → Qd z → Q v H'
abbrev G2 := D → D → (D → Prop) → Prop
def OpL (X : Cx) (R : RT) (f : Value → Value → Sem Value) (g : G2) : Prop := ∃ r : R2, OpR X f r ∧ ∀ (F H : Hp) (x y : V) (d e : D) (A B : List Addr) (Q : VK) (Qd : D → Prop),
  Same F H → Rep X.K R F H x d A → Rep X.K R F H y e B → g d e Qd → Out X.K R F H Qd Q → r x y H Q
def dBin (g : G2) (ta tb : TEd) : TEd := fun env Q E => ta env (fun _ d => tb env (fun _ e => g d e (Q false)) E) E
def isB : D → (Bool → Prop) → Prop
  | .sc (.bl c), Q => Q c
  | _, _ => False
def dTst (t : TEd) : TTd := fun env Q E => t env (fun _ d => isB d Q) E
theorem isB_of {d : D} {Q : Bool → Prop} (h : isB d Q) : ∃ c, d = .bl c ∧ Q c := by
  unfold isB at h
  split at h
  · exact ⟨_, rfl, h⟩
  · exact h.elim
section
variable {X : Cx} {R : RT} {a b : Expr} {ta tb : TEd} {pos : Pos} {g : G2}
theorem le_bin {W : WX} {r : R2} {t1 t2 : TE} (hr : ∀ (F H : Hp) (x y : V) (d e : D) (A B : List Addr) (Q : VK) (Qd : D → Prop),
  Same F H → Rep X.K R F H x d A → Rep X.K R F H y e B → g d e Qd → Out X.K R F H Qd Q → r x y H Q) (h1 : LE X.K R W t1 ta) (h2 : LE X.K R W t2 tb) : LE X.K R W (tOp r t1 t2) (dBin g ta tb) := by
  intro F H σ env As Q Qd Ed s er h q x
  refine h1 F H σ env As _ _ Ed s er h (fun F1 H1 v d B b g1 r1 f1 hd => ?_) x
  refine h2 F1 H1 σ env As _ _ Ed g1.fh (er.grow g1) hd (fun F2 H2 w e C b2 g2 r2 f2 hq => ?_) (x.grow g1)
  exact hr F2 H2 v w d e B C Q (Qd false) g2.fh (r1.grow g2) r2 hq fun F3 H3 z dz Cz g3 r3 f3 hz => q F3 H3 z dz Cz false ((g1.trans g2).trans g3) r3 (fun _ => f3.back (g1.trans g2)) hz
theorem de_bin {op : Operator} (ho : OpL X R (binaryOp op) g) (h1 : DE X R a ta) (h2 : DE X R b tb) : DE X R (.BinOp a op b pos) (dBin g ta tb) := fun W tk => by
  obtain ⟨r, o1, o2⟩ := ho
  obtain ⟨_, a1, a2⟩ := h1 W tk
  obtain ⟨_, b1, b2⟩ := h2 W tk
  exact ⟨_, pe_op o1 a1 b1, le_bin o2 a2 b2⟩
theorem de_cmp {op : CmpOp} (ho : OpL X R (compareOp op) g) (h1 : DE X R a ta) (h2 : DE X R b tb) (hm : behindInMarks op b = false := by first | exact nomark _ | rfl) : DE X R (.Compare a [op] [b] pos) (dBin g ta tb) := fun W tk => by
  obtain ⟨r, o1, o2⟩ := ho
  obtain ⟨_, a1, a2⟩ := h1 W tk
  obtain ⟨_, b1, b2⟩ := h2 W tk
  exact ⟨_, pe_cmpR o1 a1 b1 hm, le_bin o2 a2 b2⟩
theorem lt_tst {W : WX} {t : TE} (h1 : LE X.K R W t ta) : LT X.K R W (tTest t) (dTst ta) := by
  intro F H σ env As Q Qd Ed s er h q x
  refine h1 F H σ env As _ _ Ed s er h (fun F1 H1 v d B b g1 r1 f1 hd => ?_) x
  obtain ⟨c, rfl, hq⟩ := isB_of hd
  cases r1
  exact ⟨c, rfl, q F1 H1 c g1 hq⟩
theorem dt_cmp {op : CmpOp} (ho : OpL X R (compareOp op) g) (h1 : DE X R a ta) (h2 : DE X R b tb) (hm : behindInMarks op b = false := by first | exact nomark _ | rfl) : DT X R (.Compare a [op] [b] pos) (dTst (dBin g ta tb)) := fun W tk => by
  obtain ⟨r, o1, o2⟩ := ho
  obtain ⟨_, a1, a2⟩ := h1 W tk
  obtain ⟨_, b1, b2⟩ := h2 W tk
  exact ⟨_, pt_cmpR o1 a1 b1 hm, lt_tst (le_bin o2 a2 b2)⟩
/-- any expression that gives a bool, as a test -/
theorem dt_val {e : Expr} {t : TEd} (h : DE X R e t) (he : ∀ whole, isTrue e X.env whole = (do let v ← whole; standAt e.pos; holding [v] (truthy v)) := by intro _; rfl) : DT X R e (dTst t) := fun W tk => by
  obtain ⟨_, a1, a2⟩ := h W tk
  exact ⟨_, pt_val a1 he, lt_tst a2⟩
end

/-! ### and, or, not -/
def dAndT (t u : TTd) : TTd := fun env Q E => t env (fun c => if c = true then u env Q E else Q false) E
def dOrT (t u : TTd) : TTd := fun env Q E => t env (fun c => if c = true then Q true else u env Q E) E
def dNotT (t : TTd) : TTd := fun env Q E => t env (fun c => Q (!c)) E
def dAnd (ta tb : TEd) : TEd := fun env Q E => ta env (fun _ d => isB d fun c => if c = true then tb env Q E else Q false (.bl false)) E
def dOr (ta tb : TEd) : TEd := fun env Q E => ta env (fun _ d => isB d fun c => if c = true then Q false (.bl true) else tb env Q E) E
def dNot (ta : TEd) : TEd := fun env Q E => ta env (fun _ d => isB d fun c => Q false (.bl (!c))) E
def dIf (t : TTd) (ta tb : TEd) : TEd := fun env Q E => t env (fun c => if c = true then ta env Q E else tb env Q E) E
section
variable {X : Cx} {R : RT} {a b : Expr} {rest : List Expr} {ta tb : TEd} {t u : TTd} {pos : Pos}
theorem lt_and {K : PySem.W.Frag} {W : WX} {t1 t2 : TT} (h1 : LT K R W t1 t) (h2 : LT K R W t2 u) : LT K R W (tAnd t1 t2) (dAndT t u) := by
  intro F H σ env As Q Qd Ed s er h q x
  refine h1 F H σ env As _ _ Ed s er h (fun F1 H1 c g1 hd => ?_) x
  cases c with
  | true =>
    rw [if_pos rfl] at hd ⊢
    exact h2 F1 H1 σ env As _ _ Ed g1.fh (er.grow g1) hd (fun F2 H2 c g2 hq => q F2 H2 c (g1.trans g2) hq) (x.grow g1)
  | false =>
    rw [if_neg Bool.false_ne_true] at hd ⊢
    exact q F1 H1 false g1 hd
theorem lt_or {K : PySem.W.Frag} {W : WX} {t1 t2 : TT} (h1 : LT K R W t1 t) (h2 : LT K R W t2 u) : LT K R W (tOr t1 t2) (dOrT t u) := by
  intro F H σ env As Q Qd Ed s er h q x
  refine h1 F H σ env As _ _ Ed s er h (fun F1 H1 c g1 hd => ?_) x
  cases c with
  | false =>
    rw [if_neg Bool.false_ne_true] at hd ⊢
    exact h2 F1 H1 σ env As _ _ Ed g1.fh (er.grow g1) hd (fun F2 H2 c g2 hq => q F2 H2 c (g1.trans g2) hq) (x.grow g1)
  | true =>
    rw [if_pos rfl] at hd ⊢
    exact q F1 H1 true g1 hd
theorem lt_not {K : PySem.W.Frag} {W : WX} {t1 : TT} (h1 : LT K R W t1 t) : LT K R W (tNot t1) (dNotT t) := by
  intro F H σ env As Q Qd Ed s er h q x
  exact h1 F H σ env As _ _ Ed s er h (fun F1 H1 c g1 hd => q F1 H1 (!c) g1 hd) x
theorem dw_and1 (h : DT X R a t) : DW X R (.BoolOp .And [a] pos) t := fun W tk => let ⟨_, a1, a2⟩ := h W tk; ⟨_, pw_and1 a1, a2⟩
theorem dw_or1 (h : DT X R a t) : DW X R (.BoolOp .Or [a] pos) t := fun W tk => let ⟨_, a1, a2⟩ := h W tk; ⟨_, pw_or1 a1, a2⟩
theorem dw_and (h1 : DT X R a t) (h2 : DW X R (.BoolOp .And (b :: rest) pos) u) : DW X R (.BoolOp .And (a :: b :: rest) pos) (dAndT t u) := fun W tk =>
  let ⟨_, a1, a2⟩ := h1 W tk; let ⟨_, b1, b2⟩ := h2 W tk; ⟨_, pw_and a1 b1, lt_and a2 b2⟩
theorem dw_or (h1 : DT X R a t) (h2 : DW X R (.BoolOp .Or (b :: rest) pos) u) : DW X R (.BoolOp .Or (a :: b :: rest) pos) (dOrT t u) := fun W tk =>
  let ⟨_, a1, a2⟩ := h1 W tk; let ⟨_, b1, b2⟩ := h2 W tk; ⟨_, pw_or a1 b1, lt_or a2 b2⟩
theorem dt_w (h : DW X R a t) : DT X R a t := fun W tk => let ⟨_, a1, a2⟩ := h W tk; ⟨_, a1.pt, a2⟩
theorem dt_not (h : DT X R a t) : DT X R (.UnaryOp .Not a pos) (dNotT t) := fun W tk => let ⟨_, a1, a2⟩ := h W tk; ⟨_, pt_not a1, lt_not a2⟩
theorem le_andV {K : PySem.W.Frag} {W : WX} {t1 t2 : TE} (h1 : LE K R W t1 ta) (h2 : LE K R W t2 tb) : LE K R W (tAndV t1 t2) (dAnd ta tb) := by
  intro F H σ env As Q Qd Ed s er h q x
  refine h1 F H σ env As _ _ Ed s er h (fun F1 H1 v d B b g1 r1 f1 hd => ?_) x
  obtain ⟨c, ec, hc⟩ := isB_of hd
  clear hd
  subst ec
  cases r1
  refine ⟨c, rfl, ?_⟩
  have hd := hc
  clear hc
  cases c with
  | true =>
    rw [if_pos rfl] at hd ⊢
    exact h2 F1 H1 σ env As _ _ Ed g1.fh (er.grow g1) hd (fun F2 H2 v d B b g2 r2 f2 hq => q F2 H2 v d B b (g1.trans g2) r2 (fun z => (f2 z).back g1) hq) (x.grow g1)
  | false =>
    rw [if_neg Bool.false_ne_true] at hd ⊢
    exact q F1 H1 _ _ [] false g1 (.sc (.bl false)) (fun _ => .nil) hd
theorem le_orV {K : PySem.W.Frag} {W : WX} {t1 t2 : TE} (h1 : LE K R W t1 ta) (h2 : LE K R W t2 tb) : LE K R W (tOrV t1 t2) (dOr ta tb) := by
  intro F H σ env As Q Qd Ed s er h q x
  refine h1 F H σ env As _ _ Ed s er h (fun F1 H1 v d B b g1 r1 f1 hd => ?_) x
  obtain ⟨c, ec, hc⟩ := isB_of hd
  clear hd
  subst ec
  cases r1
  refine ⟨c, rfl, ?_⟩
  have hd := hc
  clear hc
  cases c with
  | false =>
    rw [if_neg Bool.false_ne_true] at hd ⊢
    exact h2 F1 H1 σ env As _ _ Ed g1.fh (er.grow g1) hd (fun F2 H2 v d B b g2 r2 f2 hq => q F2 H2 v d B b (g1.trans g2) r2 (fun z => (f2 z).back g1) hq) (x.grow g1)
  | true =>
    rw [if_pos rfl] at hd ⊢
    exact q F1 H1 _ _ [] false g1 (.sc (.bl true)) (fun _ => .nil) hd
theorem le_notV {K : PySem.W.Frag} {W : WX} {t1 : TE} (h1 : LE K R W t1 ta) : LE K R W (tNotV t1) (dNot ta) := by
  intro F H σ env As Q Qd Ed s er h q x
  refine h1 F H σ env As _ _ Ed s er h (fun F1 H1 v d B b g1 r1 f1 hd => ?_) x
  obtain ⟨c, ec, hc⟩ := isB_of hd
  clear hd
  subst ec
  cases r1
  exact ⟨c, rfl, q F1 H1 _ _ [] false g1 (.sc (.bl (!c))) (fun _ => .nil) hc⟩
theorem de_one {op : BoolOp} (h : DE X R a ta) : DE X R (.BoolOp op [a] pos) ta := fun W tk => let ⟨_, a1, a2⟩ := h W tk; ⟨_, pe_one a1, a2⟩
theorem de_and (h1 : DE X R a ta) (h2 : DE X R (.BoolOp .And (b :: rest) pos) tb) : DE X R (.BoolOp .And (a :: b :: rest) pos) (dAnd ta tb) := fun W tk =>
  let ⟨_, a1, a2⟩ := h1 W tk; let ⟨_, b1, b2⟩ := h2 W tk; ⟨_, pe_and a1 b1, le_andV a2 b2⟩
theorem de_or (h1 : DE X R a ta) (h2 : DE X R (.BoolOp .Or (b :: rest) pos) tb) : DE X R (.BoolOp .Or (a :: b :: rest) pos) (dOr ta tb) := fun W tk =>
  let ⟨_, a1, a2⟩ := h1 W tk; let ⟨_, b1, b2⟩ := h2 W tk; ⟨_, pe_or a1 b1, le_orV a2 b2⟩
theorem de_not (h : DE X R a ta) : DE X R (.UnaryOp .Not a pos) (dNot ta) := fun W tk => let ⟨_, a1, a2⟩ := h W tk; ⟨_, pe_not a1, le_notV a2⟩
theorem de_if {c : Expr} (h0 : DT X R c t) (h1 : DE X R a ta) (h2 : DE X R b tb) : DE X R (.IfExp c a b pos) (dIf t ta tb) := fun W tk => by
  obtain ⟨_, c1, c2⟩ := h0 W tk
  obtain ⟨_, a1, a2⟩ := h1 W tk
  obtain ⟨_, b1, b2⟩ := h2 W tk
  refine ⟨_, pe_ifExp c1 a1 b1, ?_⟩
  intro F H σ env As Q Qd Ed s er h q x
  refine c2 F H σ env As _ _ Ed s er h (fun F1 H1 c g1 hd => ?_) x
  cases c with
  | true =>
    rw [if_pos rfl] at hd ⊢
    exact a2 F1 H1 σ env As _ _ Ed g1.fh (er.grow g1) hd (fun F2 H2 v d B b g2 r2 f2 hq => q F2 H2 v d B b (g1.trans g2) r2 (fun z => (f2 z).back g1) hq) (x.grow g1)
  | false =>
    rw [if_neg Bool.false_ne_true] at hd ⊢
    exact b2 F1 H1 σ env As _ _ Ed g1.fh (er.grow g1) hd (fun F2 H2 v d B b g2 r2 f2 hq => q F2 H2 v d B b (g1.trans g2) r2 (fun z => (f2 z).back g1) hq) (x.grow g1)
end
end DL

set_option Elab.async false
set_option linter.all false
set_option maxRecDepth 100000
set_option maxHeartbeats 1000000
namespace DL
open PySem PySem.Spec L2

/-! ## facts of representations -/
section
variable {K : PySem.W.Frag} {R : RT} {F H : Hp}
mutual
theorem Rep.fzOf {v : V} {d : D} {A : List Addr} (h : Rep K R F H v d A) : A = [] → fz d = true := fun z =>
  match h with
  | .sc s => by rw [fz]
  | .fz (k := k) h1 h2 h3 => by
    rw [fz]
    rcases h1.cold with e | e
    · subst e
      rw [RepL.fzOf h2 z]
      rfl
    · rw [e]; rfl
  | .ow h1 h2 h3 => by cases z
theorem RepL.fzOf {v : List V} {d : List D} {A : List Addr} (h : RepL K R F H v d A) : A = [] → fzL d = true := fun z =>
  match h with
  | .nil => by rw [fzL]
  | .cons h1 h2 => by
    obtain ⟨z1, z2⟩ := List.append_eq_nil_iff.mp z
    rw [fzL, Rep.fzOf h1 z1, RepL.fzOf h2 z2]
    rfl
end
theorem RepL.get {vs : List V} {ds : List D} {B : List Addr} (r : RepL K R F H vs ds B) {j : Nat} {d : D} (h : ds[j]? = some d) : ∃ v B', vs[j]? = some v ∧ Rep K R F H v d B' ∧ B'.Sublist B := by
  induction ds generalizing vs B j with
  | nil => simp at h
  | cons d0 t ih =>
    cases r with
    | cons a b =>
      rename_i v0 A0 vs0 B0
      cases j with
      | zero =>
        simp at h; subst h
        exact ⟨v0, A0, rfl, a, List.sublist_append_left _ _⟩
      | succ j =>
        obtain ⟨v, B', e, r', s⟩ := ih b (by simpa using h)
        exact ⟨v, B', by simpa using e, r', s.trans (List.sublist_append_right _ _)⟩
theorem RepL.get' {vs : List V} {ds : List D} {B : List Addr} (r : RepL K R F H vs ds B) {j : Nat} {v : V} (h : vs[j]? = some v) : ∃ d, ds[j]? = some d := by
  have hl := r.length
  have := (List.getElem?_eq_some_iff.mp h).1
  exact ⟨_, List.getElem?_eq_getElem (by omega)⟩
theorem RepL.append {vs ws : List V} {ds es : List D} {A B : List Addr} (r : RepL K R F H vs ds A) (r2 : RepL K R F H ws es B) : RepL K R F H (vs ++ ws) (ds ++ es) (A ++ B) := by
  induction ds generalizing vs A with
  | nil => cases r; exact r2
  | cons d t ih => cases r with | cons a b => rw [List.append_assoc]; exact .cons a (ih b)
theorem RepL.take {vs : List V} {ds : List D} {B : List Addr} (n : Nat) (r : RepL K R F H vs ds B) : ∃ B', RepL K R F H (vs.take n) (ds.take n) B' ∧ B'.Sublist B := by
  induction n generalizing vs ds B with
  | zero => exact ⟨[], .nil, List.nil_sublist _⟩
  | succ n ih =>
    cases r with
    | nil => exact ⟨[], .nil, List.nil_sublist _⟩
    | cons a b =>
      obtain ⟨B', r', s⟩ := ih b
      exact ⟨_, .cons a r', List.Sublist.append (List.Sublist.refl _) s⟩
theorem RepL.drop {vs : List V} {ds : List D} {B : List Addr} (n : Nat) (r : RepL K R F H vs ds B) : ∃ B', RepL K R F H (vs.drop n) (ds.drop n) B' ∧ B'.Sublist B := by
  induction n generalizing vs ds B with
  | zero => exact ⟨B, r, List.Sublist.refl _⟩
  | succ n ih =>
    cases r with
    | nil => exact ⟨[], .nil, List.nil_sublist _⟩
    | cons a b =>
      obtain ⟨B', r', s⟩ := ih b
      exact ⟨B', r', s.trans (List.sublist_append_right _ _)⟩
theorem RepL.noneOf {vs : List V} {ds : List D} {B : List Addr} (r : RepL K R F H vs ds B) (h : fzL ds = true) : B = [] := r.none h
end

/-! ## sequences -/
def Kind.isL : Kind → Bool
  | .lst _ => true
  | .scr => true
  | _ => false
def Kind.isSq : Kind → Bool
  | .lst _ => true
  | .scr => true
  | .tup => true
  | _ => false
/-- its items are not one's own -/
def stb (k : Kind) (ds : List D) : Bool := k.cold || fzL ds
section
variable {K : PySem.W.Frag} {R : RT} {F H : Hp} {v : V} {k : Kind} {ds : List D} {B : List Addr}
theorem nd_ref (r : Rep K R F H v (.nd k ds) B) (s : Same F H) : ∃ a vs B', v = .ref a ∧ RepL K R F H vs ds B' ∧ B'.Sublist B ∧ (k.isL = true → SqL K H a vs) ∧ (k = .tup → SqT K H a vs) ∧ (stb k ds = true → B' = []) := by
  cases r with
  | fz h1 h2 h3 =>
    rename_i a vs
    refine ⟨a, vs, B, rfl, h2, List.Sublist.refl _, fun hk => ?_, fun hk => ?_, fun hs => ?_⟩
    · cases k with
      | lst o => exact SqL.of (s _ _ h1.2)
      | scr => exact s.seq h1
      | _ => cases hk
    · subst hk
      exact (TupAt.mono s h1).sq
    · unfold stb at hs
      cases hc : k.cold with
      | true => exact h3.elim (fun z => by rw [z.1] at hc; cases hc) id
      | false => rw [hc, Bool.false_or] at hs; exact h2.none hs
  | ow h1 h2 h3 =>
    rename_i a vs A
    refine ⟨a, vs, A, rfl, h3, List.sublist_cons_self _ _, fun hk => ?_, fun hk => ?_, fun hs => ?_⟩
    · cases k with
      | lst o => exact SqL.of h1.2
      | scr => exact h1.elim
      | _ => cases hk
    · subst hk; exact h1.elim
    · unfold stb at hs
      rw [h1.cold.1, Bool.false_or] at hs
      exact h3.none hs
end

/-! ## arithmetic, text, lists: + - * // % ** -/
def addD : G2
  | .sc (.int i), .sc (.int j), Q => Q (.int (i + j))
  | .sc (.str s), .sc (.str t), Q => s.length + t.length ≤ 16777216 ∧ Q (.str (s ++ t))
  | .nd (.lst o) xs, .nd (.lst p) ys, Q => stb (.lst o) xs = true ∧ stb (.lst p) ys = true ∧ xs.length + ys.length ≤ 16777216 ∧ Q (.lst true (xs ++ ys))
  | .nd .tup xs, .nd .tup ys, Q => fzL xs = true ∧ fzL ys = true ∧ xs.length + ys.length ≤ 16777216 ∧ Q (.tup (xs ++ ys))
  | _, _, _ => False
def subD : G2
  | .sc (.int i), .sc (.int j), Q => Q (.int (i - j))
  | _, _, _ => False
def mulD : G2
  | .sc (.int i), .sc (.int j), Q => ((-(2 ^ 64) < i ∧ i < 2 ^ 64) ∨ (-(2 ^ 64) < j ∧ j < 2 ^ 64)) ∧ Q (.int (i * j))
  | _, _, _ => False
def fdivD : G2
  | .sc (.int i), .sc (.int j), Q => (0 < j ∧ j < 1073741824) ∧ Q (.int (i / j))
  | _, _, _ => False
def modD : G2
  | .sc (.int i), .sc (.int j), Q => 0 < j ∧ Q (.int (i % j))
  | _, _, _ => False
def powD : G2
  | .sc (.int i), .sc (.int j), Q => (0 ≤ j ∧ j ≤ 1000000 ∧ i.natAbs < 2 ^ 64) ∧ Q (.int (i ^ j.toNat))
  | _, _, _ => False

section
variable {X : Cx} {R : RT}
/-- an operator on two ints -/
theorem opl_int {f : Value → Value → Sem Value} {C : Int → Int → Prop} {h : Int → Int → Int} {g : G2} (o : OpR X f (rI C fun i j => .int (h i j)))
    (hg : ∀ d e Q, g d e Q → ∃ i j, d = .int i ∧ e = .int j ∧ C i j ∧ Q (.int (h i j))) : OpL X R f g := by
  refine ⟨_, o, fun F H x y d e A B Q Qd s rx ry hq out => ?_⟩
  obtain ⟨i, j, rfl, rfl, hc, hz⟩ := hg d e Qd hq
  cases rx
  cases ry
  exact ⟨i, j, rfl, rfl, hc, out F H _ _ [] (.refl s) (.sc (.int _)) .nil hz⟩
theorem opl_int0 {f : Value → Value → Sem Value} {h : Int → Int → Int} {g : G2} (o : OpR X f (rI0 fun i j => .int (h i j)))
    (hg : ∀ d e Q, g d e Q → ∃ i j, d = .int i ∧ e = .int j ∧ Q (.int (h i j))) : OpL X R f g := by
  refine ⟨_, o, fun F H x y d e A B Q Qd s rx ry hq out => ?_⟩
  obtain ⟨i, j, rfl, rfl, hz⟩ := hg d e Qd hq
  cases rx
  cases ry
  exact ⟨i, j, rfl, rfl, out F H _ _ [] (.refl s) (.sc (.int _)) .nil hz⟩
theorem subD_ok : OpL X R (binaryOp .Sub) subD := opl_int0 op_sub fun d e Q h => by
  unfold subD at h; split at h
  · exact ⟨_, _, rfl, rfl, h⟩
  · exact h.elim
theorem mulD_ok : OpL X R (binaryOp .Mult) mulD := opl_int op_mul fun d e Q h => by
  unfold mulD at h; split at h
  · exact ⟨_, _, rfl, rfl, h⟩
  · exact h.elim
theorem fdivD_ok : OpL X R (binaryOp .FloorDiv) fdivD := opl_int op_fdiv fun d e Q h => by
  unfold fdivD at h; split at h
  · exact ⟨_, _, rfl, rfl, h⟩
  · exact h.elim
theorem modD_ok : OpL X R (binaryOp .Mod) modD := opl_int op_mod fun d e Q h => by
  unfold modD at h; split at h
  · exact ⟨_, _, rfl, rfl, h⟩
  · exact h.elim
theorem powD_ok : OpL X R (binaryOp .Pow) powD := opl_int op_pow fun d e Q h => by
  unfold powD at h; split at h
  · exact ⟨_, _, rfl, rfl, h⟩
  · exact h.elim
theorem strV_app (s t : Txt) : strV s ++ strV t = strV (s ++ t) := by
  show (⟨_ ++ _⟩ : Str) = ⟨_⟩
  congr 1
  simp [strV]
/-- what a list of one's own, or one that stays, is -/
theorem lst_at {K : PySem.W.Frag} {F H : Hp} {v : V} {o : Bool} {ds : List D} {B : List Addr} (r : Rep K R F H v (.nd (.lst o) ds) B) (s : Same F H) : ∃ a vs B', v = .ref a ∧ RepL K R F H vs ds B' ∧ H a = some (.lst vs) ∧ (stb (.lst o) ds = true → B' = []) := by
  cases r with
  | fz h1 h2 h3 =>
    refine ⟨_, _, _, rfl, h2, s _ _ h1.2, fun _ => h3.elim (fun z => by cases z.1) id⟩
  | ow h1 h2 h3 =>
    refine ⟨_, _, _, rfl, h3, h1.2, fun hs => ?_⟩
    unfold stb at hs
    rw [h1.cold.1, Bool.false_or] at hs
    exact h3.none hs
theorem sizeL {n : Nat} (h : n ≤ 16777216) : n ≤ sizeLine := by rw [sizeLine_eq]; exact h
theorem new_list {K : PySem.W.Frag} {F H : Hp} {vs : List V} {ds : List D} {Qd : D → Prop} {Q : VK} (s : Same F H) (r : RepL K R F H vs ds []) (out : Out K R F H Qd Q) (h : Qd (.lst true ds)) {p : Addr} (hp : H p = none) : Q (.ref p) (upd H p (.lst vs)) := by
  have g : Grow F H F (upd H p (.lst vs)) := Grow.new s hp
  exact out _ _ _ _ [p] g (.ow (k := .lst true) ⟨rfl, upd_same⟩ (same_none s hp) (r.grow g)) ⟨by simp, fun a ha => by rw [List.mem_singleton] at ha; rw [ha]; exact hp⟩ h
theorem new_tup {K : PySem.W.Frag} {F H : Hp} {vs : List V} {ds : List D} {Qd : D → Prop} {Q : VK} (s : Same F H) (r : RepL K R F H vs ds []) (out : Out K R F H Qd Q) (h : Qd (.tup ds)) {p : Addr} (hp : H p = none) : Q (.ref p) (upd H p (.tup vs)) := by
  have g : Grow F H (upd F p (.tup vs)) (upd H p (.tup vs)) := Grow.newF s hp
  exact out _ _ _ _ [] g (.fz (k := .tup) (.inl upd_same) (r.grow g) (.inl ⟨rfl, upd_same⟩)) .nil h
theorem addD_ok : OpL X R (binaryOp .Add) addD := by
  refine ⟨_, op_add.or (op_add_str.or (op_cat.or op_catA)), fun F H x y d e A B Q Qd s rx ry hq out => ?_⟩
  unfold addD at hq
  split at hq
  · cases rx; cases ry
    exact .inl ⟨_, _, rfl, rfl, out F H _ _ [] (.refl s) (.sc (.int _)) .nil hq⟩
  · rename_i sx sy
    cases rx; cases ry
    refine .inr (.inl ⟨_, _, rfl, rfl, by rw [strV_len, strV_len]; exact sizeL hq.1, ?_⟩)
    rw [strV_app]
    exact out F H _ _ [] (.refl s) (.sc (.str _)) .nil hq.2
  · obtain ⟨h1, h2, h3, h4⟩ := hq
    obtain ⟨a, vs, B1, rfl, r1, e1, z1⟩ := lst_at rx s
    obtain ⟨b, ws, B2, rfl, r2, e2, z2⟩ := lst_at ry s
    have q1 := z1 h1
    have q2 := z2 h2
    subst q1 q2
    exact .inr (.inr (.inl ⟨a, b, vs, ws, rfl, rfl, e1, e2, by rw [r1.length, r2.length]; exact sizeL h3, fun p hp => new_list s (r1.append r2) out h4 hp⟩))
  · rename_i xs ys
    obtain ⟨h1, h2, h3, h4⟩ := hq
    obtain ⟨a, vs, B1, rfl, r1, _, _, e1, z1⟩ := nd_ref rx s
    obtain ⟨b, ws, B2, rfl, r2, _, _, e2, z2⟩ := nd_ref ry s
    have q1 := r1.none h1
    have q2 := r2.none h2
    subst q1 q2
    refine .inr (.inr (.inr ⟨a, b, vs, ws, rfl, rfl, e1 rfl, e2 rfl, by rw [r1.length, r2.length]; exact sizeL h3, fun hn => ?_, fun hn hm => ?_, fun hn hm p hp => new_tup s (r1.append r2) out h4 hp⟩))
    · subst hn
      have e0 := r1.length
      have ex : xs = [] := List.length_eq_zero_iff.mp e0.symm
      subst ex
      have z0 := ry.none (by rw [fz]; simp [h2])
      subst z0
      exact out F H _ _ [] (.refl s) ry .nil (by simpa using h4)
    · subst hm
      have e0 := r2.length
      have ex : ys = [] := List.length_eq_zero_iff.mp e0.symm
      subst ex
      have z0 := rx.none (by rw [fz]; simp [h1])
      subst z0
      exact out F H _ _ [] (.refl s) rx .nil (by simpa using h4)
  · exact hq.elim
end

/-! ## == and != -/
def eqS : Sc → Sc → Bool
  | .bl a, .int j => (if a then 1 else 0) == j
  | .int i, .bl b => i == (if b then 1 else 0)
  | a, b => decide (a = b)
mutual
def eqv : D → D → Bool
  | .sc a, .sc b => eqS a b
  | .nd k xs, .nd l ys => ((k.isL && l.isL) || (decide (k = .tup) && decide (l = .tup))) && eqvL xs ys
  | .sc _, .nd _ _ => false
  | .nd _ _, .sc _ => false
def eqvL : List D → List D → Bool
  | [], [] => true
  | x :: xs, y :: ys => eqv x y && eqvL xs ys
  | [], _ :: _ => false
  | _ :: _, [] => false
end
mutual
/-- what may stand beside ==: no dict, no instance, plain texts, not too deep -/
def okE : Nat → D → Bool
  | _, .sc (.str s) => s.all (· < 1114112)
  | _, .sc _ => true
  | 0, .nd _ _ => false
  | n + 1, .nd k ds => k.isSq && okEL n ds
def okEL : Nat → List D → Bool
  | _, [] => true
  | n, d :: r => okE n d && okEL n r
end
theorem okEL_all (n : Nat) : ∀ l : List D, okEL n l = l.all (okE n)
  | [] => rfl
  | d :: r => by rw [okEL, okEL_all n r]; rfl
mutual
def toP : D → PyData
  | .sc .non => .none
  | .sc (.bl b) => .bool b
  | .sc (.int i) => .int i
  | .sc (.str s) => .str (strV s)
  | .nd k ds => if k = .tup then .tuple (toPL ds) else .list (toPL ds)
def toPL : List D → List PyData
  | [] => []
  | d :: r => toP d :: toPL r
end
mutual
theorem canLay_of : ∀ (n : Nat) (d : D), okE n d = true → (toP d).canLay0 = true ∧ (toP d).depth ≤ n
  | _, .sc .non, _ => ⟨rfl, Nat.zero_le _⟩
  | _, .sc (.bl _), _ => ⟨rfl, Nat.zero_le _⟩
  | _, .sc (.int _), _ => ⟨rfl, Nat.zero_le _⟩
  | _, .sc (.str s), h => by
    rw [okE] at h
    refine ⟨?_, by rw [toP, PyData.depth]; exact Nat.zero_le _⟩
    rw [toP, PyData.canLay0]
    show (strV s).cps.all _ = true
    unfold strV
    rw [← Array.all_toList]
    exact h
  | 0, .nd _ _, h => by rw [okE] at h; cases h
  | n + 1, .nd k ds, h => by
    rw [okE, Bool.and_eq_true] at h
    obtain ⟨h1, h2⟩ := canLayL_of n ds h.2
    rw [toP]
    split
    · rw [PyData.canLay0, PyData.depth]; exact ⟨h1, Nat.succ_le_succ h2⟩
    · rw [PyData.canLay0, PyData.depth]; exact ⟨h1, Nat.succ_le_succ h2⟩
theorem canLayL_of : ∀ (n : Nat) (ds : List D), okEL n ds = true → PyData.canLayAll0 (toPL ds) = true ∧ PyData.depthAll (toPL ds) ≤ n
  | _, [], _ => ⟨by rw [toPL, PyData.canLayAll0], by rw [toPL, PyData.depthAll]; exact Nat.zero_le _⟩
  | n, d :: r, h => by
    rw [okEL, Bool.and_eq_true] at h
    obtain ⟨h1, h2⟩ := canLay_of n d h.1
    obtain ⟨h3, h4⟩ := canLayL_of n r h.2
    rw [toPL, PyData.canLayAll0, PyData.depthAll, h1, h3]
    exact ⟨rfl, Nat.max_le.mpr ⟨h2, h4⟩⟩
end
theorem strV_beq (s t : Txt) : (strV s == strV t) = decide (s = t) := by
  by_cases e : s = t
  · subst e; simp
  · rw [decide_eq_false e]
    exact beq_eq_false_iff_ne.mpr fun z => e (strV_inj z)
mutual
theorem eqv_of : ∀ (n m : Nat) (d e : D), okE n d = true → okE m e = true → PyData.eqv (toP d) (toP e) = eqv d e
  | n, m, .sc a, .sc b, _, _ => by
    cases a <;> cases b <;> simp only [toP, PyData.eqv, eqv, eqS, strV_beq] <;> simp [Bool.beq_eq_decide_eq]
  | n, m, .sc a, .nd k ys, _, _ => by
    cases a <;> rw [eqv] <;> simp only [toP] <;> split <;> simp only [PyData.eqv]
  | n, m, .nd k xs, .sc b, _, _ => by
    cases b <;> rw [eqv] <;> simp only [toP] <;> split <;> simp only [PyData.eqv]
  | 0, _, .nd k xs, .nd l ys, h, _ => by rw [okE] at h; cases h
  | n + 1, 0, .nd k xs, .nd l ys, _, h => by rw [okE] at h; cases h
  | n + 1, m + 1, .nd k xs, .nd l ys, h1, h2 => by
    rw [okE, Bool.and_eq_true] at h1 h2
    have ih := eqvL_of n m xs ys h1.2 h2.2
    obtain ⟨h1, _⟩ := h1
    obtain ⟨h2, _⟩ := h2
    rw [eqv, toP, toP]
    cases k <;> cases l <;> simp [Kind.isSq, Kind.isL] at h1 h2 ⊢ <;> simp [PyData.eqv, ih]
theorem eqvL_of : ∀ (n m : Nat) (xs ys : List D), okEL n xs = true → okEL m ys = true → PyData.eqvAll (toPL xs) (toPL ys) = eqvL xs ys
  | _, _, [], [], _, _ => by rw [toPL, PyData.eqvAll, eqvL]
  | _, _, [], _ :: _, _, _ => by rw [toPL, toPL, PyData.eqvAll, eqvL]
  | _, _, _ :: _, [], _, _ => by rw [toPL, toPL, PyData.eqvAll, eqvL]
  | n, m, x :: xs, y :: ys, h1, h2 => by
    rw [okEL, Bool.and_eq_true] at h1 h2
    rw [toPL, toPL, PyData.eqvAll, eqvL, eqv_of n m x y h1.1 h2.1, eqvL_of n m xs ys h1.2 h2.2]
end
section
variable {K : PySem.W.Frag} {R : RT} {F H : Hp}
mutual
theorem Rep.dp (s : Same F H) {v : V} {A : List Addr} : ∀ {n : Nat} {d : D}, Rep K R F H v d A → okE n d = true → Dp K H v (toP d)
  | n, .sc .non, .sc _, _ => by rw [toP]; exact .non
  | n, .sc (.bl b), .sc _, _ => by rw [toP]; exact .bl b
  | n, .sc (.int i), .sc _, _ => by rw [toP]; exact .int i
  | n, .sc (.str t), .sc _, _ => by rw [toP]; exact .str _
  | 0, .nd k ds, _, h => by rw [okE] at h; cases h
  | n + 1, .nd k ds, r, h => by
    rw [okE, Bool.and_eq_true] at h
    rw [toP]
    cases r with
    | fz h1 h2 h3 =>
      have q := RepL.dp s h2 h.2
      cases k with
      | tup => rw [if_pos rfl]; exact .tup (TupAt.mono s h1).sq q
      | lst o => rw [if_neg (by intro z; cases z)]; exact .lst (SqL.of (s _ _ h1.2)) q
      | scr => rw [if_neg (by intro z; cases z)]; exact .lst (s.seq h1) q
      | dct o ks => cases h.1
      | dcT o ks => cases h.1
      | ins o c => cases h.1
    | ow h1 h2 h3 =>
      have q := RepL.dp s h3 h.2
      cases k with
      | tup => exact h1.elim
      | lst o => rw [if_neg (by intro z; cases z)]; exact .lst (SqL.of h1.2) q
      | scr => exact h1.elim
      | dct o ks => cases h.1
      | dcT o ks => cases h.1
      | ins o c => cases h.1
theorem RepL.dp (s : Same F H) {v : List V} {A : List Addr} : ∀ {n : Nat} {d : List D}, RepL K R F H v d A → okEL n d = true → DpAll K H v (toPL d)
  | n, [], .nil, _ => by rw [toPL]; exact .nil
  | n, d :: r, .cons h1 h2, h => by
    rw [okEL, Bool.and_eq_true] at h
    rw [toPL]
    exact .cons (Rep.dp s h1 h.1) (RepL.dp s h2 h.2)
end
end
def scalS : Sc → Sc → Bool
  | .bl _, .int _ => false
  | .int _, .bl _ => false
  | _, _ => true
theorem scal_enc (a b : Sc) : scal (encS a) (encS b) = scalS a b := by cases a <;> cases b <;> rfl
theorem enc_inj {a b : Sc} : encS a = encS b ↔ a = b := by
  cases a <;> cases b <;> simp [encS]
  exact ⟨strV_inj, fun e => by rw [e]⟩
theorem eqS_of {a b : Sc} (h : scalS a b = true) : eqS a b = decide (encS a = encS b) := by
  cases a <;> cases b <;> first | (cases h; done) | (simp only [eqS, enc_inj])
/-- == : of scalars, of lists and tuples -/
def eqD : G2
  | .sc a, .sc b, Q => Q (.bl (eqS a b))
  | d, e, Q => okE 8 d = true ∧ okE 8 e = true ∧ Q (.bl (eqv d e))
def neD : G2
  | .sc a, .sc b, Q => Q (.bl (!eqS a b))
  | d, e, Q => okE 8 d = true ∧ okE 8 e = true ∧ Q (.bl (!eqv d e))
section
variable {X : Cx} {R : RT}
theorem shaped_ok {n : Nat} {d : D} (hn : n ≤ 64) (h : okE n d = true) : SeqAt.shaped (toP d) = true := by
  obtain ⟨h1, h2⟩ := canLay_of n d h
  unfold SeqAt.shaped
  rw [h1, decide_eq_true (Nat.le_trans h2 hn)]
  rfl
theorem okE_bi {n : Nat} {i : Int} {b : Bool} : okE n (.int i) = true ∧ okE n (.bl b) = true := ⟨by simp [okE], by simp [okE]⟩
theorem eqD_ok (hu : X.A.units + 64 < cLine) : OpL X R (compareOp .Eq) eqD := by
  refine ⟨_, op_eq.or (op_eqD hu), fun F H x y d e A B Q Qd s rx ry hq out => ?_⟩
  have hp : ∀ {d e : D} {x y : V} {A B : List Addr}, Rep X.K R F H x d A → Rep X.K R F H y e B → okE 8 d = true → okE 8 e = true → Qd (.bl (eqv d e)) → rEqD X.K x y H Q := fun {d e x y A B} rx ry h1 h2 h3 =>
    ⟨_, _, rx.dp s h1, ry.dp s h2, shaped_ok (by decide) h1, shaped_ok (by decide) h2, by rw [eqv_of 8 8 d e h1 h2]; exact out F H _ _ [] (.refl s) (.sc (.bl _)) .nil h3⟩
  cases d with
  | sc a =>
    cases e with
    | sc b =>
      have hq' : Qd (.bl (eqS a b)) := hq
      by_cases hs : scalS a b = true
      · cases rx; cases ry
        refine .inl ⟨by rw [scal_enc]; exact hs, ?_⟩
        rw [← eqS_of hs]
        exact out F H _ _ [] (.refl s) (.sc (.bl _)) .nil hq'
      · refine .inr (hp rx ry ?_ ?_ hq') <;> (cases a <;> cases b <;> first | rfl | exact absurd rfl hs)
    | nd k ys => exact .inr (hp rx ry hq.1 hq.2.1 hq.2.2)
  | nd k xs => exact .inr (hp rx ry hq.1 hq.2.1 hq.2.2)
theorem neD_ok (hu : X.A.units + 64 < cLine) : OpL X R (compareOp .NotEq) neD := by
  refine ⟨_, op_ne.or (op_neD hu), fun F H x y d e A B Q Qd s rx ry hq out => ?_⟩
  have hp : ∀ {d e : D} {x y : V} {A B : List Addr}, Rep X.K R F H x d A → Rep X.K R F H y e B → okE 8 d = true → okE 8 e = true → Qd (.bl (!eqv d e)) → rNeD X.K x y H Q := fun {d e x y A B} rx ry h1 h2 h3 =>
    ⟨_, _, rx.dp s h1, ry.dp s h2, shaped_ok (by decide) h1, shaped_ok (by decide) h2, by rw [eqv_of 8 8 d e h1 h2]; exact out F H _ _ [] (.refl s) (.sc (.bl _)) .nil h3⟩
  cases d with
  | sc a =>
    cases e with
    | sc b =>
      have hq' : Qd (.bl (!eqS a b)) := hq
      by_cases hs : scalS a b = true
      · cases rx; cases ry
        refine .inl ⟨by rw [scal_enc]; exact hs, ?_⟩
        rw [← eqS_of hs]
        exact out F H _ _ [] (.refl s) (.sc (.bl _)) .nil hq'
      · refine .inr (hp rx ry ?_ ?_ hq') <;> (cases a <;> cases b <;> first | rfl | exact absurd rfl hs)
    | nd k ys => exact .inr (hp rx ry hq.1 hq.2.1 hq.2.2)
  | nd k xs => exact .inr (hp rx ry hq.1 hq.2.1 hq.2.2)
end
end DL

set_option Elab.async false
set_option linter.all false
set_option maxRecDepth 100000
set_option maxHeartbeats 1000000
/-! list(reversed(a list)) -/
namespace DL
open PySem PySem.Spec PyProof.Rows _root_.RT
open L2 (Inv Cx PE TE VK SqL PA Gl Room V HO Hp upd)
section
variable {prog : Program} {w : World} {A : Around} {E : Value → Shared → Prop} {s : Shared}
theorem extend_rev {R : Result → Shared → Prop} {it l : Addr} {items : Array Value} (hh : A.handled = none) (hit : s.heap.IsRevIter it l ((items.size : Int) - 1)) (hl : s.heap.IsList l items) (hne : l ≠ it) (hn : items.size ≤ sizeLine)
    (S : Addr) (res : Value) (c₀ : Nat) (hSi : S ≠ it) (hSl : S ≠ l) (hS : s.heap.get? S = some { cls := .type "list", data := .seq #[] c₀ })
    (hR : ∀ h' tk acc' c', (∀ b o, b ≠ S → b ≠ it → s.heap.get? b = some o → h'.get? b = some o) → h'.get? S = some { cls := .type "list", dict := none, data := .seq acc' c', slots := #[] } →
      ItemsOf (fun i v => items[items.size - 1 - i]? = some v) acc' items.size → R (.ok (.ret res)) { s with heap := h', toks := tk }) :
    wpAny (model prog w) A.in1 (Builtin.List.listExtendWith (.ref S) (.ref it) res)
      (fun fin s' => match fin with | .done f => R (.ok f) s' | .again c' => c'.quiet = true ∧ codeAny (model prog w) A c' R s') (fun e s' => R (.error e) s') s := by
  have W := (Walks.listRev (prog := prog) (w := w) (A := A.in1) hh it l hne items).toS
  have hSf : S ∉ [it, l] := by simp only [List.mem_cons, List.not_mem_nil, or_false, not_or]; exact ⟨hSi, hSl⟩
  have hT : s.TypeIs (.ref it) "list_reverseiterator" := hit.typeIs
  have h1 : Builtin.List.listSameRef (.ref S) (.ref it) = false := by simp [Builtin.List.listSameRef, hSi]
  unfold Builtin.List.listExtendWith
  refine wpAny_bind (wpAny_typeOf hT ?_)
  rw [if_neg (by rw [h1]; decide)]
  refine wpAny_bind (wpAny_pyIter_revIter hit ?_)
  refine wpAny_bind (wpAny_holding ?_)
  unfold Builtin.List.listLengthHint
  refine wpAny_bind (wpAny_specialOf hT nolen_lri ?_)
  show wpAny _ A.in1 (specialOf (Value.ref it) (Str.ofString "__length_hint__") >>= _) _ _ _
  refine wpAny_bind (wpAny_specialOf hT hint_lri ?_)
  generalize hid : ("list_reverseiterator.__length_hint__" : String) = id0
  wp_delta
  rw [show splitId id0 = some ("list_reverseiterator", "__length_hint__") from by subst hid; decide +kernel]
  subst hid
  refine wpAny_bind (wpAny_isInstance (b := true) hT (by rw [isSubtype_type]; kernel_rfl) ?_)
  refine wpAny_pure ?_
  rw [if_neg (by decide)]
  have e0 : ((items.size : Nat) : Int) - 1 - ((0 : Nat) : Int) = (items.size : Int) - 1 := by omega
  refine wpAny_pure ⟨plainId_quiet F.plain_extend_loop _, codeAny_extend_loopS W hn _ hSf _ items.size 0 _ _ _ rfl (Nat.zero_le _) ⟨Nat.zero_le _, by rw [e0]; exact hit, hl⟩ hS (ItemsOf.nil _) fun s' acc' c' hm hS' hacc => ?_⟩
  rw [Moved.eq_with hm]
  exact hR s'.heap s'.toks acc' c' (fun b o hb hi e => hm.heap b o (fun hmem => (List.mem_cons.mp hmem).elim hb fun z => hi (List.mem_singleton.mp z)) e) hS' hacc
theorem call_list_rev {it l : Addr} {items : Array Value} {Q : Value → Shared → Prop} (hh : A.handled = none) (hit : s.heap.IsRevIter it l ((items.size : Int) - 1)) (hl : s.heap.IsList l items) (hne : l ≠ it) (hn : items.size ≤ sizeLine)
    (hQ : ∀ h' tk acc' c', (∀ b o, b ≠ it → s.heap.get? b = some o → h'.get? b = some o) →
      h'.get? s.heap.objs.size = some { cls := .type "list", dict := none, data := .seq acc' c', slots := #[] } → ItemsOf (fun i v => items[items.size - 1 - i]? = some v) acc' items.size → Q (.ref s.heap.objs.size) { s with heap := h', toks := tk }) :
    wpAny (model prog w) A (call (.type "list") [.ref it]) Q E s := by
  obtain ⟨oi, hoi, _⟩ := id hit
  obtain ⟨ol, hol, _⟩ := id hl
  have hSi : s.heap.objs.size ≠ it := Nat.ne_of_gt (Heap.lt_size hoi)
  have hSl : s.heap.objs.size ≠ l := Nat.ne_of_gt (Heap.lt_size hol)
  refine callType_codes (Q₁ := fun obj s₁ => obj = .ref s.heap.objs.size ∧ s₁ = { s with heap := s.heap.push { cls := .type "list", data := .seq #[] } }) F.called_list (F.typeCall_list_1 _) F.entry_list_init
    (code_list_new _ ⟨rfl, rfl⟩) fun obj s₁ h₁ => ?_
  obtain ⟨rfl, rfl⟩ := h₁
  have hS : (s.heap.push { cls := .type "list", data := .seq #[] }).get? s.heap.objs.size = some { cls := .type "list", data := .seq #[] } := Heap.get?_push_size _ rfl
  have hit1 : (s.heap.push { cls := .type "list", data := .seq #[] }).IsRevIter it l ((items.size : Int) - 1) := hit.at fun o e => Heap.get?_push_of_some _ e
  have hl1 : (s.heap.push { cls := .type "list", data := .seq #[] }).IsList l items := hl.push _
  refine ⟨⟨_, hS, rfl⟩, F.args_list_init_2 _ _, ?_⟩
  show wpAny _ _ (do let old ← Builtin.List.listItems (.ref s.heap.objs.size); Builtin.List.listUpdate (.ref s.heap.objs.size) (fun _ => #[]); letGo old.toList.reverse; Builtin.List.listExtendWith (.ref s.heap.objs.size) (.ref it) .none) _ _ _
  refine wpAny_bind ?_
  unfold Builtin.List.listItems
  refine wpAny_bind (wpAny_seqItems hS rfl (wpAny_pure ?_))
  show wpAny _ _ (updateSeq s.heap.objs.size (fun _ => #[]) >>= fun _ => letGo (#[] : Array Value).toList.reverse >>= fun _ => Builtin.List.listExtendWith (.ref s.heap.objs.size) (.ref it) .none) _ _ _
  refine wpAny_bind (wpAny_updateSeq hS rfl ?_)
  have hS₂ := Heap.get?_update_self (Obj.mapSeq (fun _ => (#[] : Array Value))) hS rfl
  have oth : ∀ b o, b ≠ s.heap.objs.size → (s.heap.push { cls := .type "list", data := .seq #[] }).get? b = some o → ((s.heap.push { cls := .type "list", data := .seq #[] }).update s.heap.objs.size (Obj.mapSeq (fun _ => (#[] : Array Value)))).get? b = some o :=
    fun b o hb e => (Heap.get?_update_other _ _ (Ne.symm hb)).trans e
  refine wpAny_bind (wpAny_letGo ?_)
  have hS₃ : ((s.heap.push { cls := .type "list", data := .seq #[] }).update s.heap.objs.size (Obj.mapSeq (fun _ => (#[] : Array Value)))).get? s.heap.objs.size = some { cls := .type "list", data := .seq #[] 0 } := hS₂
  refine extend_rev (s := { s with heap := (s.heap.push { cls := .type "list", data := .seq #[] }).update s.heap.objs.size (Obj.mapSeq (fun _ => (#[] : Array Value))) }) (A := A.in1) hh (hit1.at fun o e => oth it o (Ne.symm hSi) e) ?_ hne hn _ .none _ hSi hSl hS₃ fun h' tk acc' c' hk hS' hacc => ?_
  · obtain ⟨o1, e1, r1⟩ := hl1
    exact ⟨o1, oth l o1 (Ne.symm hSl) e1, r1⟩
  · exact ⟨rfl, hQ h' tk acc' c' (fun b o hb e => hk b o (Nat.ne_of_lt (Heap.lt_size e)) hb (oth b o (Nat.ne_of_lt (Heap.lt_size e)) (Heap.get?_push_of_some _ e))) hS' hacc⟩
end
section
variable {X : Cx}
def tLstRev (K : PySem.W.Frag) (te : TE) : TE := fun σ H Q => te σ H fun v H1 => ∃ (a : Addr) (xs : List V), v = .ref a ∧ SqL K H1 a xs ∧ ∀ q, H1 q = none → Q (.ref q) (upd H1 q (.lst xs.reverse))
theorem pe_lstRev {e : Expr} {te : TE} {p p2 pos pos2 : Pos} (hc : X.calm = true) (hg : Gl X "list") (hm : X.mg "list" = none) (hg2 : Gl X "reversed") (hm2 : X.mg "reversed" = none) (he : PE X e te)
    (hs : starEach [e] X.env = (false, eval e X.env) :: starEach [] X.env := by rfl)
    (hs2 : starEach [.Call (.Name "reversed" p2) [e] [] pos2] X.env = (false, eval (.Call (.Name "reversed" p2) [e] [] pos2) X.env) :: starEach [] X.env := by rfl) :
    PE X (.Call (.Name "list" p) [.Call (.Name "reversed" p2) [e] [] pos2] [] pos) (tLstRev X.K te) := by
  refine ⟨fun pins s σ H Q I h => ?_⟩
  refine Call_ (L2.ld_blt I hg hm boot_list (PyProof.Rows.callWith_type1 (args_cons (Call_ (L2.ld_blt I hg2 hm2 PyProof.Rows.boot_reversed (PyProof.Rows.callWith_type1 (args_cons (L2.thn (he.run pins s σ H _ I h) fun u s1 ⟨v, H1, I1, r1, q1⟩ => args_nil ?_) hs) hs rfl))) hs2) hs2 rfl))
  obtain ⟨a, xs, ev, hq, q⟩ := q1
  subst ev
  obtain rfl : u = Value.ref a := r1
  obtain ⟨its, rv, p', hz⟩ := I1.list hq
  refine call_reversed_list p'.isList (args_nil ?_)
  have k0 : ∀ b o, s1.heap.get? b = some o → (s1.heap.push (revObj a ((its.toArray.size : Int) - 1))).get? b = some o := fun b o e => Heap.get?_push_of_some _ e
  have I2 : Inv X pins σ H1 { s1 with heap := s1.heap.push (revObj a ((its.toArray.size : Int) - 1)) } := I1.kept (t' := s1.toks) k0
  obtain ⟨f0, f1, f2, f3, f4, f5⟩ := I1.fpOk (H' := H1) (b := s1.heap.objs.size) (Nat.le_refl _) (I1.hok.fresh (Nat.le_refl _))
  have hl := p'.isList
  obtain ⟨ol, hol, _⟩ := id hl
  have hne : a ≠ s1.heap.objs.size := Nat.ne_of_lt (Heap.lt_size hol)
  have hn : its.toArray.size ≤ sizeLine := by rw [List.size_toArray, ← rv.length]; exact hz
  refine call_list_rev (s := { s1 with heap := s1.heap.push (revObj a ((its.toArray.size : Int) - 1)) }) (I1.ok.hd hc) ⟨_, Heap.get?_push_size _ rfl, rfl, rfl⟩ (hl.push _) hne hn fun h' tk acc c' hk hS' hi => ?_
  have hp : H1 (s1.heap.push (revObj a ((its.toArray.size : Int) - 1))).objs.size = none := I2.hok.fresh (Nat.le_refl _)
  have hlt : (s1.heap.push (revObj a ((its.toArray.size : Int) - 1))).objs.size ≠ s1.heap.objs.size := by rw [Heap.size_push]; omega
  have I3 : Inv X pins σ (upd H1 (s1.heap.push (revObj a ((its.toArray.size : Int) - 1))).objs.size (.lst xs.reverse)) { s1 with heap := h', toks := tk } := by
    refine I2.turnedNew (t' := tk) (ch := [s1.heap.objs.size]) (T := (s1.heap.push (revObj a ((its.toArray.size : Int) - 1))).objs.size) (fun b o hb e => hk b o (fun z => hb (by rw [z]; exact List.mem_singleton.mpr rfl)) e) (fun b hb => ?_) (Nat.le_refl _) ?_
    · have e : b = s1.heap.objs.size := List.mem_singleton.mp hb
      subst e
      exact ⟨f0, f1, f2, f3, f4, f5⟩
    · exact ⟨by rw [List.length_reverse]; exact hz, acc.toList, c', vals_rev rv hi, by rw [Array.toArray_toList]; exact hS'⟩
  exact ⟨.ref _, _, I3, rfl, q _ hp⟩
end
end DL

set_option Elab.async false
set_option linter.all false
set_option maxRecDepth 100000
set_option maxHeartbeats 1000000
namespace DL
open PySem PySem.Spec L2

/-! ## order, is None -/
section
variable {X : Cx} {R : RT}
theorem opl_cmpI {f : Value → Value → Sem Value} {p : Int → Int → Bool} {g : G2} (o : OpR X f (rI0 fun i j => .bl (p i j)))
    (hg : ∀ d e Q, g d e Q → ∃ i j, d = .int i ∧ e = .int j ∧ Q (.bl (p i j))) : OpL X R f g := by
  refine ⟨_, o, fun F H x y d e A B Q Qd s rx ry hq out => ?_⟩
  obtain ⟨i, j, rfl, rfl, hz⟩ := hg d e Qd hq
  cases rx; cases ry
  exact ⟨i, j, rfl, rfl, out F H _ _ [] (.refl s) (.sc (.bl _)) .nil hz⟩
end
def gtD : G2
  | .sc (.int i), .sc (.int j), Q => Q (.bl (decide (j < i)))
  | _, _, _ => False
def geD : G2
  | .sc (.int i), .sc (.int j), Q => Q (.bl (decide (j ≤ i)))
  | _, _, _ => False
def leD : G2
  | .sc (.int i), .sc (.int j), Q => Q (.bl (decide (i ≤ j)))
  | _, _, _ => False
/-- < of ints, of texts, of tuples of ints -/
def intsOf : List D → Option (List Int)
  | [] => some []
  | .sc (.int i) :: r => (intsOf r).map (i :: ·)
  | _ :: _ => none
def ltD : G2
  | .sc (.int i), .sc (.int j), Q => Q (.bl (decide (i < j)))
  | .sc (.str s), .sc (.str t), Q => Q (.bl (decide (s < t)))
  | .nd .tup xs, .nd .tup ys, Q => ∃ ns ms, intsOf xs = some ns ∧ intsOf ys = some ms ∧ Q (.bl (HT.lexLt ns ms))
  | _, _, _ => False
theorem intsOf_map : ∀ ns : List Int, intsOf (ns.map D.int) = some ns
  | [] => rfl
  | n :: r => by rw [List.map_cons, intsOf, intsOf_map r]; rfl
theorem intsOf_eq : ∀ {ds : List D} {ns : List Int}, intsOf ds = some ns → ds = ns.map D.int
  | [], ns, h => by simp [intsOf] at h; subst h; rfl
  | .sc (.int i) :: r, ns, h => by
    rw [intsOf] at h
    cases e : intsOf r with
    | none => rw [e] at h; cases h
    | some m =>
      rw [e] at h
      simp at h
      subst h
      rw [List.map_cons, ← intsOf_eq e]
  | .sc .non :: _, _, h => by simp [intsOf] at h
  | .sc (.bl _) :: _, _, h => by simp [intsOf] at h
  | .sc (.str _) :: _, _, h => by simp [intsOf] at h
  | .nd _ _ :: _, _, h => by simp [intsOf] at h
theorem RepL.ints {K : PySem.W.Frag} {R : RT} {F H : Hp} : ∀ {vs : List V} {ns : List Int} {B : List Addr}, RepL K R F H vs (ns.map D.int) B → vs = ns.map V.int
  | _, [], _, r => by cases r; rfl
  | _, n :: ns, _, r => by
    cases r with
    | cons a b => cases a; rw [List.map_cons, RepL.ints b]; rfl
def isNo : G2
  | .sc s, .sc .non, Q => Q (.bl (decide (s = .non)))
  | .nd _ _, .sc .non, Q => Q (.bl false)
  | _, _, _ => False
def isNt : G2
  | .sc s, .sc .non, Q => Q (.bl (!decide (s = .non)))
  | .nd _ _, .sc .non, Q => Q (.bl true)
  | _, _, _ => False
section
variable {X : Cx} {R : RT}
theorem gtD_ok : OpL X R (compareOp .Gt) gtD := opl_cmpI op_gt fun d e Q h => by
  unfold gtD at h; split at h
  · exact ⟨_, _, rfl, rfl, h⟩
  · exact h.elim
theorem geD_ok : OpL X R (compareOp .GtE) geD := opl_cmpI op_ge fun d e Q h => by
  unfold geD at h; split at h
  · exact ⟨_, _, rfl, rfl, h⟩
  · exact h.elim
theorem leD_ok : OpL X R (compareOp .LtE) leD := opl_cmpI op_le fun d e Q h => by
  unfold leD at h; split at h
  · exact ⟨_, _, rfl, rfl, h⟩
  · exact h.elim
theorem ltD_ok (hu : X.A.units < cLine) : OpL X R (compareOp .Lt) ltD := by
  refine ⟨_, op_lt.or (op_lt_str.or (op_ltT hu)), fun F H x y d e A B Q Qd s rx ry hq out => ?_⟩
  unfold ltD at hq
  split at hq
  · cases rx; cases ry
    exact .inl ⟨_, _, rfl, rfl, out F H _ _ [] (.refl s) (.sc (.bl _)) .nil hq⟩
  · cases rx; cases ry
    refine .inr (.inl ⟨_, _, rfl, rfl, ?_⟩)
    rw [strV_list, strV_list]
    exact out F H _ _ [] (.refl s) (.sc (.bl _)) .nil hq
  · obtain ⟨ns, ms, h1, h2, h3⟩ := hq
    have e1 := intsOf_eq h1
    have e2 := intsOf_eq h2
    subst e1 e2
    obtain ⟨a, vs, B1, rfl, r1, _, _, q1, _⟩ := nd_ref rx s
    obtain ⟨b, ws, B2, rfl, r2, _, _, q2, _⟩ := nd_ref ry s
    have f1 := r1.ints
    have f2 := r2.ints
    subst f1 f2
    exact .inr (.inr ⟨a, b, ns, ms, rfl, rfl, q1 rfl, q2 rfl, out F H _ _ [] (.refl s) (.sc (.bl _)) .nil h3⟩)
  · exact hq.elim
theorem enc_non {s : Sc} : decide (encS s = V.non) = decide (s = .non) := by
  cases s <;> simp [encS]
theorem isNo_ok : OpL X R (compareOp .Is) isNo := by
  refine ⟨_, op_isN, fun F H x y d e A B Q Qd s rx ry hq out => ?_⟩
  unfold isNo at hq
  split at hq
  · cases rx; cases ry
    refine ⟨rfl, ?_⟩
    rw [enc_non]
    exact out F H _ _ [] (.refl s) (.sc (.bl _)) .nil hq
  · cases ry
    obtain ⟨a, vs, B1, rfl, _⟩ := nd_ref rx s
    exact ⟨rfl, out F H _ _ [] (.refl s) (.sc (.bl _)) .nil (by simpa using hq)⟩
  · exact hq.elim
theorem isNt_ok : OpL X R (compareOp .IsNot) isNt := by
  refine ⟨_, op_notN, fun F H x y d e A B Q Qd s rx ry hq out => ?_⟩
  unfold isNt at hq
  split at hq
  · cases rx; cases ry
    refine ⟨rfl, ?_⟩
    rw [enc_non]
    exact out F H _ _ [] (.refl s) (.sc (.bl _)) .nil hq
  · cases ry
    obtain ⟨a, vs, B1, rfl, _⟩ := nd_ref rx s
    exact ⟨rfl, out F H _ _ [] (.refl s) (.sc (.bl _)) .nil (by simpa using hq)⟩
  · exact hq.elim
end

/-! ## tables -/
def keyS : Sc → Option DK
  | .int i => some (.inl i)
  | .str s => some (.inr s)
  | _ => none
def keysT : List D → Option (List DK)
  | [] => some []
  | .sc s :: r => (keyS s).bind fun k => (keysT r).map (k :: ·)
  | .nd _ _ :: _ => none
def lkp {κ α : Type} [DecidableEq κ] : List κ → List α → κ → Option α
  | k :: ks, x :: xs, y => if k = y then some x else lkp ks xs y
  | _, _, _ => none
def hasK {κ : Type} [DecidableEq κ] (ks : List κ) (y : κ) : Bool := ks.any fun k => decide (k = y)
theorem hasK_iff {κ : Type} [DecidableEq κ] {ks : List κ} {y : κ} : hasK ks y = true ↔ y ∈ ks := by
  unfold hasK
  rw [List.any_eq_true]
  exact ⟨fun ⟨x, h, e⟩ => by rw [← of_decide_eq_true e]; exact h, fun h => ⟨y, h, decide_eq_true rfl⟩⟩
theorem keyS_enc {s : Sc} {k : DK} (h : keyS s = some k) : encS s = kV (key k) := by
  cases s <;> simp [keyS] at h <;> subst h <;> rfl
theorem keysT_enc {K : PySem.W.Frag} {R : RT} {F H : Hp} : ∀ {ds : List D} {ks : List DK} {vs : List V} {B : List Addr}, keysT ds = some ks → RepL K R F H vs ds B → vs = (ks.map key).map kV
  | [], ks, _, _, h, r => by simp [keysT] at h; subst h; cases r; rfl
  | .sc s :: t, ks, _, _, h, r => by
    rw [keysT] at h
    cases e : keyS s with
    | none => rw [e] at h; cases h
    | some k =>
      rw [e] at h
      cases e2 : keysT t with
      | none => rw [e2] at h; cases h
      | some ks2 =>
        rw [e2] at h
        simp at h
        subst h
        cases r with
        | cons a b =>
          cases a
          rw [keysT_enc e2 b, keyS_enc e]
          rfl
  | .nd _ _ :: _, _, _, _, h, _ => by simp [keysT] at h
section
variable {κ κ' : Type} [DecidableEq κ] [DecidableEq κ'] {f : κ → κ'}
theorem valV_lkp (hf : ∀ a b, f a = f b → a = b) : ∀ (ks : List κ) (vs : List V) (k : κ), valV ((ks.map f).zip vs) (f k) = lkp ks vs k
  | [], _, _ => by simp [lkp, valV]
  | _ :: _, [], _ => by simp [lkp, valV]
  | a :: ks, v :: vs, k => by
    rw [List.map_cons, List.zip_cons_cons]
    by_cases e : a = k
    · subst e
      rw [valV_pos rfl, lkp, if_pos rfl]
    · rw [valV_neg (fun z => e (hf _ _ z)), lkp, if_neg e]
      exact valV_lkp hf ks vs k
end
theorem lkp_get {κ α : Type} [DecidableEq κ] : ∀ {ks : List κ} {xs : List α} {k : κ} {x : α}, lkp ks xs k = some x → ∃ j : Nat, ks[j]? = some k ∧ xs[j]? = some x
  | [], _, _, _, h => by simp [lkp] at h
  | _ :: _, [], _, _, h => by simp [lkp] at h
  | a :: ks, y :: xs, k, x, h => by
    rw [lkp] at h
    by_cases e : a = k
    · rw [if_pos e] at h; cases h; exact ⟨0, by simp [e], rfl⟩
    · rw [if_neg e] at h
      obtain ⟨j, h1, h2⟩ := lkp_get h
      exact ⟨j + 1, by simpa using h1, by simpa using h2⟩
section
variable {K : PySem.W.Frag} {R : RT} {F H : Hp} {κ : Type} [DecidableEq κ]
theorem lkp_rep : ∀ {ks : List κ} {vs : List V} {ds : List D} {B : List Addr} {k : κ} {d : D}, RepL K R F H vs ds B → lkp ks ds k = some d → ∃ v B', lkp ks vs k = some v ∧ Rep K R F H v d B' ∧ B'.Sublist B
  | [], _, _, _, _, _, _, h => by simp [lkp] at h
  | _ :: _, _, [], _, _, _, r, h => by simp [lkp] at h
  | a :: ks, _, d0 :: ds, _, k, d, r, h => by
    cases r with
    | cons r1 r2 =>
      rename_i v0 A0 vs B0
      rw [lkp] at h
      by_cases e : a = k
      · rw [if_pos e] at h; cases h
        exact ⟨v0, A0, by rw [lkp, if_pos e], r1, List.sublist_append_left _ _⟩
      · rw [if_neg e] at h
        obtain ⟨v, B', q, r', sl⟩ := lkp_rep r2 h
        exact ⟨v, B', by rw [lkp, if_neg e]; exact q, r', sl.trans (List.sublist_append_right _ _)⟩
theorem lkp_none : ∀ {ks : List κ} {vs : List V} {ds : List D} {k : κ}, vs.length = ds.length → (lkp ks vs k).isSome = (lkp ks ds k).isSome
  | [], _, _, _, _ => by simp [lkp]
  | _ :: _, [], [], _, _ => by simp [lkp]
  | a :: ks, v :: vs, d :: ds, k, h => by
    rw [lkp, lkp]
    by_cases e : a = k
    · rw [if_pos e, if_pos e]; rfl
    · rw [if_neg e, if_neg e]; exact lkp_none (by simpa using h)
theorem lkp_mem {α : Type} : ∀ {ks : List κ} {xs : List α} {k : κ}, ks.length = xs.length → (lkp ks xs k).isSome = hasK ks k
  | [], _, _, _ => by simp [lkp, hasK]
  | a :: ks, x :: xs, k, h => by
    rw [lkp]
    by_cases e : a = k
    · rw [if_pos e, hasK, List.any_cons, decide_eq_true e]; rfl
    · rw [if_neg e, lkp_mem (by simpa using h), hasK, hasK, List.any_cons, decide_eq_false e, Bool.false_or]
end
/-- what a dict of data is in the heap -/
theorem dct_at {K : PySem.W.Frag} {R : RT} {F H : Hp} {v : V} {o : Bool} {ks : List DK} {ds : List D} {B : List Addr} (r : Rep K R F H v (.nd (.dct o ks) ds) B) (s : Same F H) :
    ∃ a vs B', v = .ref a ∧ RepL K R F H vs ds B' ∧ B'.Sublist B ∧ ks.length = vs.length ∧ H a = some (.dK (zipK ks vs)) := by
  cases r with
  | fz h1 h2 h3 => exact ⟨_, _, _, rfl, h2, List.Sublist.refl _, h1.2.1, s _ _ h1.2.2⟩
  | ow h1 h2 h3 => exact ⟨_, _, _, rfl, h3, List.sublist_cons_self _ _, h1.2.1, h1.2.2⟩
theorem dcT_at {K : PySem.W.Frag} {R : RT} {F H : Hp} {v : V} {o : Bool} {ks : List (List DK)} {ds : List D} {B : List Addr} (r : Rep K R F H v (.nd (.dcT o ks) ds) B) (s : Same F H) :
    ∃ a vs B', v = .ref a ∧ RepL K R F H vs ds B' ∧ B'.Sublist B ∧ ks.length = vs.length ∧ H a = some (.dT (zipT ks vs)) := by
  cases r with
  | fz h1 h2 h3 => exact ⟨_, _, _, rfl, h2, List.Sublist.refl _, h1.2.1, s _ _ h1.2.2⟩
  | ow h1 h2 h3 => exact ⟨_, _, _, rfl, h3, List.sublist_cons_self _ _, h1.2.1, h1.2.2⟩
theorem keys_inj {a b : List DK} (h : a.map key = b.map key) : a = b := by
  induction a generalizing b with
  | nil => cases b with | nil => rfl | cons _ _ => simp at h
  | cons x a ih =>
    cases b with
    | nil => simp at h
    | cons y b =>
      simp only [List.map_cons, List.cons.injEq] at h
      rw [key_inj h.1, ih h.2]

/-! ## in, not in -/
def flatD : D → Bool
  | .sc _ => true
  | .nd _ _ => false
def inD (neg : Bool) : G2
  | .sc (.str [c]), .sc (.str t), Q => Q (.bl (neg ^^ decide (c ∈ t)))
  | .sc a, .nd k ds, Q => match k with
    | .dct _ ks => ∃ y : DK, keyS a = some y ∧ Q (.bl (neg ^^ hasK ks y))
    | .lst _ => ds.all flatD = true ∧ Q (.bl (neg ^^ ds.any fun d => eqv d (.sc a)))
    | .scr => ds.all flatD = true ∧ Q (.bl (neg ^^ ds.any fun d => eqv d (.sc a)))
    | .tup => ds.all flatD = true ∧ Q (.bl (neg ^^ ds.any fun d => eqv d (.sc a)))
    | _ => False
  | _, _, _ => False
section
variable {X : Cx} {R : RT}
def rInDc (neg : Bool) : R2 := fun x y H Q => ∃ a o, y = .ref a ∧ DGet H a x o ∧ Q (.bl (neg ^^ o.isSome)) H
theorem op_inDc (hu : X.A.units + 1 < cLine) : OpR X (compareOp .In) (rInDc false) := by
  intro pins s σ H x y v u Q I rx ry h
  obtain ⟨a, o, rfl, g, q⟩ := h
  cases ry
  exact d_in hu I g rx fun s' I' => ⟨.bl o.isSome, H, I', rfl, by simpa using q⟩
theorem op_notInDc (hu : X.A.units + 1 < cLine) : OpR X (compareOp .NotIn) (rInDc true) := by
  intro pins s σ H x y v u Q I rx ry h
  obtain ⟨a, o, rfl, g, q⟩ := h
  cases ry
  exact d_notIn hu I g rx fun s' I' => ⟨.bl (!o.isSome), H, I', rfl, by simpa using q⟩
theorem flat_enc : ∀ (s : Sc), flatV (encS s) = true := by intro s; cases s <;> rfl
theorem eqV_enc (a b : Sc) : eqV (encS a) (encS b) = eqS a b := by
  cases a <;> cases b <;> simp [encS, eqV, eqS, strV_beq] <;> rfl
theorem RepL.flat {K : PySem.W.Frag} {F H : Hp} (a : Sc) : ∀ {vs : List V} {ds : List D} {B : List Addr}, RepL K R F H vs ds B → ds.all flatD = true → vs.all flatV = true ∧ inV (encS a) vs = ds.any fun d => eqv d (.sc a)
  | _, [], _, r, _ => by cases r; exact ⟨rfl, rfl⟩
  | _, .sc s :: t, _, r, h => by
    cases r with
    | cons r1 r2 =>
      cases r1
      rw [List.all_cons, Bool.and_eq_true] at h
      obtain ⟨h1, h2⟩ := RepL.flat a r2 h.2
      refine ⟨by rw [List.all_cons, flat_enc, h1]; rfl, ?_⟩
      unfold inV at h2 ⊢
      rw [List.any_cons, List.any_cons, h2, eqV_enc, eqv]
  | _, .nd _ _ :: t, _, r, h => by simp [flatD] at h
theorem inD_gen {f : Value → Value → Sem Value} {neg : Bool} (o1 : OpR X f (fun x y H Q => ∃ (c : Nat) (z : Str), x = .str ⟨#[c]⟩ ∧ y = .str z ∧ Q (.bl (neg ^^ decide (c ∈ z.cps.toList))) H))
    (o2 : OpR X f (rIn X.K neg)) (o3 : OpR X f (rInDc neg)) : OpL X R f (inD neg) := by
  refine ⟨_, o1.or (o2.or o3), fun F H x y d e A B Q Qd s rx ry hq out => ?_⟩
  have fin : ∀ {b : Bool}, Qd (.bl b) → Q (.bl b) H := fun {b} h => out F H _ _ [] (.refl s) (.sc (.bl b)) .nil h
  have sq : ∀ {a : Sc} {k : Kind} {ds : List D}, Rep X.K R F H y (.nd k ds) B → x = encS a → k.isSq = true → ds.all flatD = true → Qd (.bl (neg ^^ ds.any fun d => eqv d (.sc a))) → rIn X.K neg x y H Q := fun {a k ds} ry ex hk h1 h2 => by
    obtain ⟨p, vs, B1, rfl, r1, _, q1, q2, _⟩ := nd_ref ry s
    obtain ⟨f1, f2⟩ := r1.flat a h1
    refine ⟨p, vs, rfl, ?_, by rw [ex]; exact flat_enc a, f1, ?_⟩
    · cases k with
      | lst o => exact .inl (q1 rfl)
      | scr => exact .inl (q1 rfl)
      | tup => exact .inr (q2 rfl)
      | _ => cases hk
    · rw [ex, f2]
      cases neg with
      | true => rw [if_pos rfl]; exact fin (by simpa using h2)
      | false => rw [if_neg Bool.false_ne_true]; exact fin (by simpa using h2)
  unfold inD at hq
  split at hq
  · cases rx; cases ry
    exact .inl ⟨_, _, rfl, rfl, by rw [strV_list]; exact fin hq⟩
  · rename_i a k ds
    cases rx
    cases k with
    | lst o => exact .inr (.inl (sq ry rfl rfl hq.1 hq.2))
    | scr => exact .inr (.inl (sq ry rfl rfl hq.1 hq.2))
    | tup => exact .inr (.inl (sq ry rfl rfl hq.1 hq.2))
    | ins o c => exact hq.elim
    | dcT o ks => exact hq.elim
    | dct o ks =>
      obtain ⟨k, hk, hq⟩ := hq
      obtain ⟨p, vs, B1, rfl, r1, _, hl, hp⟩ := dct_at ry s
      refine .inr (.inr ⟨p, _, rfl, by rw [keyS_enc hk]; exact DGet.k hp, ?_⟩)
      unfold zipK
      rw [valV_lkp (fun a b z => key_inj z), lkp_mem hl]
      exact fin hq
  · exact hq.elim

theorem inD_in (hu : X.A.units + 1 < cLine) : OpL X R (compareOp .In) (inD false) := inD_gen (fun pins s σ H x y v u Q I rx ry h => op_in_sign pins s σ H x y v u Q I rx ry (by simpa using h)) op_in_seq (op_inDc hu)
theorem inD_no (hu : X.A.units + 1 < cLine) : OpL X R (compareOp .NotIn) (inD true) := inD_gen (fun pins s σ H x y v u Q I rx ry h => op_notIn_sign pins s σ H x y v u Q I rx ry (by simpa using h)) op_notIn_seq (op_notInDc hu)
end

/-! ## a[b] -/
def ixD : D → D → (D → Prop) → Prop
  | .sc (.str s), .sc (.int i), Q => s.length ≤ 16777216 ∧ ∃ c, atI s i = some c ∧ Q (.str [c])
  | .nd (.lst _) ds, .sc (.int i), Q => ∃ d, atI ds i = some d ∧ Q d
  | .nd .scr ds, .sc (.int i), Q => ∃ d, atI ds i = some d ∧ Q d
  | .nd .tup ds, .sc (.int i), Q => ∃ d, atI ds i = some d ∧ Q d
  | .nd (.dct _ ks) ds, .sc s, Q => ∃ k d, keyS s = some k ∧ lkp ks ds k = some d ∧ Q d
  | _, _, _ => False
def dIx (ta tb : TEd) : TEd := fun env Q E => ta env (fun b d => tb env (fun _ e => ixD d e (Q b)) E) E
section
variable {X : Cx} {R : RT}
def rIxD : R2 := fun x y H Q => ∃ a v, x = .ref a ∧ DGet H a y (some v) ∧ Q v H
theorem ix_dict (hu : X.A.units + 1 < cLine) : IxR X rIxD := by
  intro value slice pins s σ H x y v u Q I rx ry h hs
  obtain ⟨a, z, rfl, g, q⟩ := h
  cases rx
  exact PyProof.Rows.tail_any (dict_typeIs I g) PySem.F.slot_dict_getitem.lookup (d_getItem hu I g ry fun w' s' I' r' => ⟨z, H, I', r', q⟩) hs
theorem atI_rep {K : PySem.W.Frag} {F H : Hp} {vs : List V} {ds : List D} {B : List Addr} {i : Int} {d : D} (r : RepL K R F H vs ds B) (h : atI ds i = some d) : ∃ v B', atI vs i = some v ∧ Rep K R F H v d B' ∧ B'.Sublist B := by
  unfold atI at h ⊢
  rw [r.length]
  cases e : ixN ds.length i with
  | none => rw [e] at h; cases h
  | some j =>
    rw [e] at h
    obtain ⟨v, B', e1, r1, sl⟩ := r.get (show ds[j]? = some d from h)
    exact ⟨v, B', e1, r1, sl⟩
theorem atI_strV (s : Txt) (i : Int) : atI (strV s).cps.toList i = atI s i := by rw [strV_list]
theorem ixL {F H : Hp} {x y : V} {d e : D} {A B : List Addr} {Q : VK} {Qd : D → Prop} (s : Same F H) (rx : Rep X.K R F H x d A) (ry : Rep X.K R F H y e B) (hq : ixD d e Qd)
    (out : ∀ v z C, Rep X.K R F H v z C → (C.Sublist A) → Qd z → Q v H) : rIx X.K x y H Q ∨ rIxD x y H Q := by
  have sq : ∀ {k : Kind} {ds : List D} {i : Int} {x : V} {A : List Addr}, Rep X.K R F H x (.nd k ds) A → (∀ v z C, Rep X.K R F H v z C → C.Sublist A → Qd z → Q v H) → y = .int i → k.isSq = true → (∃ d, atI ds i = some d ∧ Qd d) → rIx X.K x y H Q := fun {k ds i x A} rx out ey hk h => by
    obtain ⟨d, h1, h2⟩ := h
    obtain ⟨p, vs, B1, rfl, r1, sl, q1, q2, _⟩ := nd_ref rx s
    obtain ⟨v, B2, h3, r3, sl3⟩ := atI_rep r1 h1
    have fin := out v d B2 r3 (sl3.trans sl) h2
    cases k with
    | lst o => exact .inl ⟨p, vs, i, v, rfl, ey, q1 rfl, h3, fin⟩
    | scr => exact .inl ⟨p, vs, i, v, rfl, ey, q1 rfl, h3, fin⟩
    | tup => exact .inr (.inl ⟨p, vs, i, v, rfl, ey, q2 rfl, h3, fin⟩)
    | _ => cases hk
  unfold ixD at hq
  split at hq
  · cases rx; cases ry
    obtain ⟨hl, c, h1, h2⟩ := hq
    exact .inl (.inr (.inr ⟨_, _, c, rfl, rfl, by rw [strV_len]; exact sizeL hl, by rw [atI_strV]; exact h1, out _ (.str [c]) [] (.sc (.str [c])) (List.nil_sublist _) h2⟩))
  · cases ry; exact .inl (sq rx out rfl rfl hq)
  · cases ry; exact .inl (sq rx out rfl rfl hq)
  · cases ry; exact .inl (sq rx out rfl rfl hq)
  · obtain ⟨k, d, hk, h1, h2⟩ := hq
    cases ry
    obtain ⟨p, vs, B1, rfl, r1, sl, hl, hp⟩ := dct_at rx s
    obtain ⟨v, B2, h3, r3, sl3⟩ := lkp_rep r1 h1
    refine .inr ⟨p, v, rfl, ?_, out v d B2 r3 (sl3.trans sl) h2⟩
    rw [keyS_enc hk, ← h3, ← valV_lkp (f := key) (fun a b z => key_inj z)]
    exact DGet.k hp
  · exact hq.elim
theorem Fresh.sub {H : Hp} {A B : List Addr} (h : Fresh H B) (s : A.Sublist B) : Fresh H A := ⟨s.nodup h.1, fun a ha => h.2 a (s.mem ha)⟩
theorem le_ix {W : WX} {t1 t2 : TE} {ta tb : TEd} (h1 : LE X.K R W t1 ta) (h2 : LE X.K R W t2 tb) : LE X.K R W (tOp (fun x y H Q => rIx X.K x y H Q ∨ rIxD x y H Q) t1 t2) (dIx ta tb) := by
  intro F H σ env As Q Qd Ed s er h q x
  refine h1 F H σ env As _ _ Ed s er h (fun F1 H1 v d B b g1 r1 f1 hd => ?_) x
  refine h2 F1 H1 σ env As _ _ Ed g1.fh (er.grow g1) hd (fun F2 H2 w e C b2 g2 r2 f2 hq => ?_) (x.grow g1)
  exact ixL g2.fh (r1.grow g2) r2 hq fun z dz Cz r3 sl hz => q F2 H2 z dz Cz b (g1.trans g2) r3 (fun eb => (f1 eb).sub sl) hz
theorem de_ix (hu : X.A.units + 1 < cLine) {a b : Expr} {ta tb : TEd} {pos : Pos} (h1 : DE X R a ta) (h2 : DE X R b tb) (hs : PlainIx b := by exact fun _ _ => rfl) : DE X R (.Subscript a b pos) (dIx ta tb) := fun W tk => by
  obtain ⟨_, a1, a2⟩ := h1 W tk
  obtain ⟨_, b1, b2⟩ := h2 W tk
  exact ⟨_, pe_ix (ix_seq.or (ix_dict hu)) a1 b1 hs, le_ix a2 b2⟩
end

/-! ## a[b:c] -/
def cutG {α : Type} (xs : List α) (lo hi : Option Int) : List α := (xs.drop (HT.sIx xs.length 0 lo)).take (HT.sIx xs.length xs.length hi - HT.sIx xs.length 0 lo)
abbrev TOd := Sl → (Option Int → Prop) → (EX → Prop) → Prop
def isI : D → (Int → Prop) → Prop
  | .sc (.int i), Q => Q i
  | _, _ => False
def oNo : TOd := fun _ Q _ => Q none
def oSm (t : TEd) : TOd := fun env Q E => t env (fun _ d => isI d fun i => Q (some i)) E
theorem isI_of {d : D} {Q : Int → Prop} (h : isI d Q) : ∃ i, d = .int i ∧ Q i := by
  unfold isI at h
  split at h
  · exact ⟨_, rfl, h⟩
  · exact h.elim
def slD (lo hi : Option Int) : D → (D → Prop) → Prop
  | .sc (.str s), Q => s.length ≤ 16777216 ∧ Q (.str (cutG s lo hi))
  | .nd (.lst o) ds, Q => stb (.lst o) ds = true ∧ Q (.lst true (cutG ds lo hi))
  | .nd .scr ds, Q => Q (.lst true (cutG ds lo hi))
  | .nd .tup ds, Q => fzL ds = true ∧ Q (.tup (cutG ds lo hi))
  | _, _ => False
def dSl (ta : TEd) (lo hi : TOd) : TEd := fun env Q E => ta env (fun _ d => lo env (fun l => hi env (fun h => slD l h d (Q false)) E) E) E
section
variable {X : Cx} {R : RT}
def LO (K : PySem.W.Frag) (R : RT) (W : WX) (t : TO) (td : TOd) : Prop := ∀ (F H : Hp) (σ : St) (env : Sl) (As : Nat → List Addr) (Q : Option Int → Hp → Prop) (Qd : Option Int → Prop) (Ed : EX → Prop),
  Same F H → EnvR K R F H σ env As → td env Qd Ed → (∀ F' H' c, Grow F H F' H' → Qd c → Q c H') → ExW K R W F H σ Ed → t σ H Q
def DO (X : Cx) (R : RT) (e : Option Expr) (td : TOd) : Prop := ∀ W, Takes X W → ∃ t, PO X e t ∧ LO X.K R W t td
theorem do_no : DO X R none oNo := fun W _ => ⟨_, po_none, fun F H σ env As Q Qd Ed s er h q _ => q F H none (.refl s) h⟩
theorem do_sm {e : Expr} {t : TEd} (h : DE X R e t) : DO X R (some e) (oSm t) := fun W tk => by
  obtain ⟨_, a1, a2⟩ := h W tk
  refine ⟨_, po_some a1, fun F H σ env As Q Qd Ed s er h q x => a2 F H σ env As _ _ Ed s er h (fun F1 H1 v d B b g1 r1 f1 hd => ?_) x⟩
  obtain ⟨i, rfl, hq⟩ := isI_of hd
  cases r1
  exact ⟨i, rfl, q F1 H1 (some i) g1 hq⟩
theorem RepL.cut {K : PySem.W.Frag} {F H : Hp} {vs : List V} {ds : List D} (lo hi : Option Int) (r : RepL K R F H vs ds []) : RepL K R F H (cutV vs lo hi) (cutG ds lo hi) [] := by
  unfold cutV cutG
  rw [r.length]
  obtain ⟨B1, r1, s1⟩ := r.drop (HT.sIx ds.length 0 lo)
  obtain ⟨B2, r2, s2⟩ := r1.take (HT.sIx ds.length ds.length hi - HT.sIx ds.length 0 lo)
  have e : B2 = [] := List.eq_nil_of_subset_nil fun a ha => s1.mem (s2.mem ha)
  rw [← e]
  exact r2
theorem slD_ok {F H : Hp} {x : V} {d : D} {A : List Addr} {lo hi : Option Int} {Q : VK} {Qd : D → Prop} (s : Same F H) (rx : Rep X.K R F H x d A) (hq : slD lo hi d Qd) (out : Out X.K R F H Qd Q) :
    rSlL X.K x lo hi H Q ∨ rSlA X.K x lo hi H Q ∨ rSlS x lo hi H Q := by
  unfold slD at hq
  split at hq
  · rename_i tx
    cases rx
    refine .inr (.inr ⟨_, rfl, by rw [strV_len]; exact sizeL hq.1, ?_⟩)
    have e : cutS (strV tx) lo hi = strV (cutG tx lo hi) := by
      unfold cutS cutG
      rw [strV_len, strV_list]
      rfl
    rw [e]
    exact out F H _ _ [] (.refl s) (.sc (.str _)) .nil hq.2
  · obtain ⟨p, vs, B1, rfl, r1, _, q1, _, z⟩ := nd_ref rx s
    have e := z hq.1
    subst e
    exact .inl ⟨p, vs, rfl, q1 rfl, fun l hl => new_list s (r1.cut lo hi) out hq.2 hl⟩
  · obtain ⟨p, vs, B1, rfl, r1, _, q1, _, z⟩ := nd_ref rx s
    have e := z rfl
    subst e
    exact .inl ⟨p, vs, rfl, q1 rfl, fun l hl => new_list s (r1.cut lo hi) out hq hl⟩
  · rename_i ds
    obtain ⟨p, vs, B1, rfl, r1, _, _, q2, z⟩ := nd_ref rx s
    have e := r1.none hq.1
    subst e
    refine .inr (.inl ⟨p, vs, rfl, q2 rfl, fun hw => ?_, fun hw t ht => new_tup s (r1.cut lo hi) out hq.2 ht⟩)
    have e1 := r1.cut lo hi
    have ev : cutV vs lo hi = vs := by
      unfold cutV
      rw [hw.1, hw.2]
      simp
    have ed : cutG ds lo hi = ds := by
      unfold cutG
      rw [← r1.length, hw.1, hw.2, r1.length]
      simp
    have ra := rx.none (by rw [fz]; simp [hq.1])
    subst ra
    rw [ed] at hq
    exact out F H _ _ [] (.refl s) rx .nil hq.2
  · exact hq.elim
theorem de_sl {a : Expr} {lo hi : Option Expr} {ta : TEd} {tl th : TOd} {pos p2 : Pos} (h1 : DE X R a ta) (h2 : DO X R lo tl) (h3 : DO X R hi th) : DE X R (.Subscript a (.Slice lo hi none p2) pos) (dSl ta tl th) := fun W tk => by
  obtain ⟨_, a1, a2⟩ := h1 W tk
  obtain ⟨_, b1, b2⟩ := h2 W tk
  obtain ⟨_, c1, c2⟩ := h3 W tk
  refine ⟨_, pe_slice (sl_list.or (sl_tupA.or sl_str)) a1 b1 c1, ?_⟩
  intro F H σ env As Q Qd Ed s er h q x
  refine a2 F H σ env As _ _ Ed s er h (fun F1 H1 v d B b g1 r1 f1 hd => ?_) x
  refine b2 F1 H1 σ env As _ _ Ed g1.fh (er.grow g1) hd (fun F2 H2 l g2 hd2 => ?_) (x.grow g1)
  refine c2 F2 H2 σ env As _ _ Ed g2.fh (er.grow (g1.trans g2)) hd2 (fun F3 H3 u g3 hq => ?_) (x.grow (g1.trans g2))
  exact slD_ok g3.fh (r1.grow (g2.trans g3)) hq fun F4 H4 z dz C g4 r4 f4 hz => q F4 H4 z dz C false (((g1.trans g2).trans g3).trans g4) r4 (fun _ => f4.back ((g1.trans g2).trans g3)) hz
end
end DL

set_option Elab.async false
set_option linter.all false
set_option maxRecDepth 100000
set_option maxHeartbeats 1000000
namespace DL
open PySem PySem.Spec L2

/-! ## calls of built-ins -/
abbrev GC := List D → (D → Prop) → Prop
def CallL (X : Cx) (R : RT) (f : Value) (g : GC) : Prop := ∃ r, CallR X f r ∧ ∀ (F H : Hp) (vs : List V) (ds : List D) (B : List Addr) (Q : VK) (Qd : D → Prop),
  Same F H → RepL X.K R F H vs ds B → g ds Qd → Out X.K R F H Qd Q → r vs H Q
def dCB (g : GC) (ta : TAd) : TEd := fun env Q E => ta env (fun ds => g ds (Q false)) E
section
variable {X : Cx} {R : RT} {e : Expr} {es : List Expr} {ta : TAd} {g : GC} {x : Str} {p pos : Pos}
theorem le_cb {W : WX} {r : List V → Hp → VK → Prop} {t : TA} (hr : ∀ (F H : Hp) (vs : List V) (ds : List D) (B : List Addr) (Q : VK) (Qd : D → Prop),
    Same F H → RepL X.K R F H vs ds B → g ds Qd → Out X.K R F H Qd Q → r vs H Q) (h : LB X.K R W t ta) : LE X.K R W (tCB r t) (dCB g ta) := by
  intro F H σ env As Q Qd Ed s er h0 q x
  refine h F H σ env As _ _ Ed s er h0 (fun F1 H1 vs ds B g1 r1 hd => ?_) x
  exact hr F1 H1 vs ds B Q (Qd false) g1.fh r1 hd fun F2 H2 z dz C g2 r2 f2 hz => q F2 H2 z dz C false (g1.trans g2) r2 (fun _ => f2.back g1) hz
theorem de_callB {id : String} (hc : CallL X R (.builtin id) g) (hg : Gl X x) (hm : X.mg x = none) (hv : bootBuiltins x = some (.builtin id)) (ha : DB X R (e :: es) ta) (hn : x ≠ "__name__" := by decide) (hdb : (x == ("__debug__" : Str)) = false := by decide)
    (he : starEach (e :: es) X.env = (false, eval e X.env) :: starEach es X.env := by rfl) (hpl : (backTo pos (starEach es X.env)).any (·.1) = false := by rfl) : DE X R (.Call (.Name x p) (e :: es) [] pos) (dCB g ta) := fun W tk => by
  obtain ⟨r, o1, o2⟩ := hc
  obtain ⟨_, a1, a2⟩ := ha W tk
  exact ⟨_, pe_callB o1 hg hm hv a1 hn hdb he hpl, le_cb o2 a2⟩
theorem de_callTy {T : String} (hc : CallL X R (.type T) g) (hg : Gl X x) (hm : X.mg x = none) (hv : bootBuiltins x = some (.type T)) (ha : DB X R (e :: es) ta) (hn : x ≠ "__name__" := by decide) (hdb : (x == ("__debug__" : Str)) = false := by decide)
    (he : starEach (e :: es) X.env = (false, eval e X.env) :: starEach es X.env := by rfl) (hpl : (backTo pos (starEach es X.env)).any (·.1) = false := by rfl) : DE X R (.Call (.Name x p) (e :: es) [] pos) (dCB g ta) := fun W tk => by
  obtain ⟨r, o1, o2⟩ := hc
  obtain ⟨_, a1, a2⟩ := ha W tk
  exact ⟨_, pe_callTy o1 hg hm hv a1 hn hdb he hpl, le_cb o2 a2⟩
end

def lenD : GC
  | [.sc (.str s)], Q => s.length ≤ 16777216 ∧ Q (.int s.length)
  | [.nd (.lst _) ds], Q => Q (.int ds.length)
  | [.nd .scr ds], Q => Q (.int ds.length)
  | [.nd .tup ds], Q => Q (.int ds.length)
  | [.nd (.dct _ _) ds], Q => Q (.int ds.length)
  | _, _ => False
def keyD : DK → D
  | .inl i => .int i
  | .inr s => .str s
def listD : GC
  | [.nd (.lst o) ds], Q => stb (.lst o) ds = true ∧ Q (.lst true ds)
  | [.nd .scr ds], Q => Q (.lst true ds)
  | [.nd .tup ds], Q => fzL ds = true ∧ Q (.lst true ds)
  | [.nd (.dct _ ks) _], Q => Q (.lst true (ks.map keyD))
  | _, _ => False
def tupleD : GC
  | [.nd (.lst o) ds], Q => stb (.lst o) ds = true ∧ Q (.tup ds)
  | [.nd .scr ds], Q => Q (.tup ds)
  | [.nd .tup ds], Q => fzL ds = true ∧ Q (.tup ds)
  | _, _ => False
def intD : GC
  | [.sc (.int i)], Q => Q (.int i)
  | [.sc (.bl b)], Q => Q (.int (if b then 1 else 0))
  | [.sc (.str s)], Q => s.length ≤ 640 ∧ ∃ n, PySem.intText? (strV s) = some n ∧ Q (.int n)
  | _, _ => False
def numT (i : Int) : Txt := (Str.ofString (toString i)).cps.toList
theorem numT_str (i : Int) : strV (numT i) = Str.ofString (toString i) := by
  unfold numT strV
  simp
def strD : GC
  | [.sc (.int i)], Q => i.natAbs.log2 < 1920 ∧ Q (.str (numT i))
  | _, _ => False
def ordD : GC
  | [.sc (.str [c])], Q => Q (.int (c : Nat))
  | _, _ => False
def maxD : GC
  | [.sc (.int i), .sc (.int j)], Q => Q (.int (if j > i then j else i))
  | _, _ => False
def minD : GC
  | [.sc (.int i), .sc (.int j)], Q => Q (.int (if j < i then j else i))
  | _, _ => False
def absD : GC
  | [.sc (.int i)], Q => Q (.int (if i < 0 then -i else i))
  | _, _ => False
def blsOf : List D → Option (List Bool)
  | [] => some []
  | .sc (.bl b) :: r => (blsOf r).map (b :: ·)
  | _ :: _ => none
theorem blsOf_map : ∀ bs : List Bool, blsOf (bs.map D.bl) = some bs
  | [] => rfl
  | n :: r => by rw [List.map_cons, blsOf, blsOf_map r]; rfl
theorem blsOf_eq : ∀ {ds : List D} {bs : List Bool}, blsOf ds = some bs → ds = bs.map D.bl
  | [], ns, h => by simp [blsOf] at h; subst h; rfl
  | .sc (.bl i) :: r, ns, h => by
    rw [blsOf] at h
    cases e : blsOf r with
    | none => rw [e] at h; cases h
    | some m =>
      rw [e] at h
      simp at h
      subst h
      rw [List.map_cons, ← blsOf_eq e]
  | .sc .non :: _, _, h => by simp [blsOf] at h
  | .sc (.int _) :: _, _, h => by simp [blsOf] at h
  | .sc (.str _) :: _, _, h => by simp [blsOf] at h
  | .nd _ _ :: _, _, h => by simp [blsOf] at h
def anyD : GC
  | [.nd (.lst _) ds], Q => ∃ bs, blsOf ds = some bs ∧ Q (.bl (bs.any id))
  | _, _ => False
def allD : GC
  | [.nd (.lst _) ds], Q => ∃ bs, blsOf ds = some bs ∧ Q (.bl (bs.all id))
  | _, _ => False
def sumD : GC
  | [.nd (.lst _) ds], Q => ∃ ns, intsOf ds = some ns ∧ Q (.int ns.sum)
  | _, _ => False
section
variable {X : Cx} {R : RT}
theorem repl1 {K : PySem.W.Frag} {F H : Hp} {vs : List V} {d : D} {B : List Addr} (r : RepL K R F H vs [d] B) : ∃ v, vs = [v] ∧ Rep K R F H v d B := by
  cases r with
  | cons a b =>
    cases b
    exact ⟨_, rfl, by rw [List.append_nil]; exact a⟩
theorem repl2 {K : PySem.W.Frag} {F H : Hp} {vs : List V} {d e : D} {B : List Addr} (r : RepL K R F H vs [d, e] B) : ∃ v w A C, vs = [v, w] ∧ Rep K R F H v d A ∧ Rep K R F H w e C := by
  cases r with
  | cons a b =>
    obtain ⟨w, rfl, b'⟩ := repl1 b
    exact ⟨_, w, _, _, rfl, a, b'⟩
theorem RepL.bls {K : PySem.W.Frag} {F H : Hp} : ∀ {vs : List V} {ns : List Bool} {B : List Addr}, RepL K R F H vs (ns.map D.bl) B → vs = ns.map V.bl
  | _, [], _, r => by cases r; rfl
  | _, n :: ns, _, r => by
    cases r with
    | cons a b => cases a; rw [List.map_cons, RepL.bls b]; rfl
theorem lenD_ok : CallL X R (.builtin "len") lenD := by
  refine ⟨_, call_len_seq.or (call_len_str.or call_lenD), fun F H vs ds B Q Qd s r hq out => ?_⟩
  have fin : ∀ {n : Nat}, Qd (.int n) → Q (.int n) H := fun {n} h => out F H _ _ [] (.refl s) (.sc (.int n)) .nil h
  unfold lenD at hq
  split at hq
  · obtain ⟨v, rfl, rx⟩ := repl1 r
    cases rx
    exact .inr (.inl ⟨_, rfl, by rw [strV_len]; exact sizeL hq.1, by rw [strV_len]; exact fin hq.2⟩)
  · obtain ⟨v, rfl, rx⟩ := repl1 r
    obtain ⟨p, vs, B1, rfl, r1, _, q1, q2, _⟩ := nd_ref rx s
    exact .inl ⟨p, vs, rfl, .inl (q1 rfl), by rw [r1.length]; exact fin hq⟩
  · obtain ⟨v, rfl, rx⟩ := repl1 r
    obtain ⟨p, vs, B1, rfl, r1, _, q1, q2, _⟩ := nd_ref rx s
    exact .inl ⟨p, vs, rfl, .inl (q1 rfl), by rw [r1.length]; exact fin hq⟩
  · obtain ⟨v, rfl, rx⟩ := repl1 r
    obtain ⟨p, vs, B1, rfl, r1, _, q1, q2, _⟩ := nd_ref rx s
    exact .inl ⟨p, vs, rfl, .inr (q2 rfl), by rw [r1.length]; exact fin hq⟩
  · rename_i o ks ds
    obtain ⟨v, rfl, rx⟩ := repl1 r
    obtain ⟨p, vs, B1, rfl, r1, _, hl, hp⟩ := dct_at rx s
    refine .inr (.inr ⟨p, _, rfl, hp, ?_⟩)
    have e : (zipK ks vs).length = ds.length := by
      unfold zipK
      rw [List.length_zip, List.length_map, hl, Nat.min_self, r1.length]
    rw [e]
    exact fin hq
  · exact hq.elim
theorem keys_rep {K : PySem.W.Frag} {F H : Hp} : ∀ (ks : List DK), RepL K R F H (ks.map fun k => kV (key k)) (ks.map keyD) []
  | [] => .nil
  | .inl i :: r => .cons (A := []) (B := []) (.sc (.int i)) (keys_rep r)
  | .inr s :: r => .cons (A := []) (B := []) (.sc (.str s)) (keys_rep r)
theorem listD_ok (hc : X.calm = true) : CallL X R (.type "list") listD := by
  refine ⟨_, call_list_of.or (call_list_dK hc), fun F H vs ds B Q Qd s r hq out => ?_⟩
  unfold listD at hq
  split at hq
  · obtain ⟨v, rfl, rx⟩ := repl1 r
    obtain ⟨p, vs, B1, rfl, r1, _, q1, q2, z⟩ := nd_ref rx s
    have e := z hq.1
    subst e
    exact .inl ⟨p, vs, rfl, .inl (q1 rfl), fun l hl => new_list s r1 out hq.2 hl⟩
  · obtain ⟨v, rfl, rx⟩ := repl1 r
    obtain ⟨p, vs, B1, rfl, r1, _, q1, q2, z⟩ := nd_ref rx s
    have e := z rfl
    subst e
    exact .inl ⟨p, vs, rfl, .inl (q1 rfl), fun l hl => new_list s r1 out hq hl⟩
  · obtain ⟨v, rfl, rx⟩ := repl1 r
    obtain ⟨p, vs, B1, rfl, r1, _, q1, q2, z⟩ := nd_ref rx s
    have e := r1.none hq.1
    subst e
    exact .inl ⟨p, vs, rfl, .inr (q2 rfl), fun l hl => new_list s r1 out hq.2 hl⟩
  · rename_i o ks ds
    obtain ⟨v, rfl, rx⟩ := repl1 r
    obtain ⟨p, vs, B1, rfl, r1, _, hl, hp⟩ := dct_at rx s
    refine .inr ⟨p, _, rfl, hp, fun l hl2 => ?_⟩
    have e : (zipK ks vs).map (fun kv => kV kv.1) = ks.map fun k => kV (key k) := by
      unfold zipK
      rw [show (fun kv : Key × V => kV kv.1) = kV ∘ Prod.fst from rfl, ← List.map_map, List.map_fst_zip (by rw [List.length_map, hl]; exact Nat.le_refl _), List.map_map]
      rfl
    rw [e]
    exact new_list s (keys_rep _) out hq hl2
  · exact hq.elim
theorem tupleD_ok : CallL X R (.type "tuple") tupleD := by
  refine ⟨_, call_tuple_of, fun F H vs ds B Q Qd s r hq out => ?_⟩
  unfold tupleD at hq
  split at hq
  · obtain ⟨v, rfl, rx⟩ := repl1 r
    obtain ⟨p, vs, B1, rfl, r1, _, q1, q2, z⟩ := nd_ref rx s
    have e := z hq.1
    subst e
    exact ⟨p, vs, rfl, .inl ⟨q1 rfl, fun l hl => new_tup s r1 out hq.2 hl⟩⟩
  · obtain ⟨v, rfl, rx⟩ := repl1 r
    obtain ⟨p, vs, B1, rfl, r1, _, q1, q2, z⟩ := nd_ref rx s
    have e := z rfl
    subst e
    exact ⟨p, vs, rfl, .inl ⟨q1 rfl, fun l hl => new_tup s r1 out hq hl⟩⟩
  · obtain ⟨v, rfl, rx⟩ := repl1 r
    obtain ⟨p, vs, B1, rfl, r1, _, q1, q2, z⟩ := nd_ref rx s
    have e := rx.none (by rw [fz]; simp [hq.1])
    subst e
    exact ⟨p, vs, rfl, .inr ⟨q2 rfl, out F H _ _ [] (.refl s) rx .nil hq.2⟩⟩
  · exact hq.elim
theorem intD_ok : CallL X R (.type "int") intD := by
  refine ⟨_, call_int1.or call_int_str, fun F H vs ds B Q Qd s r hq out => ?_⟩
  have fin : ∀ {n : Int}, Qd (.int n) → Q (.int n) H := fun {n} h => out F H _ _ [] (.refl s) (.sc (.int n)) .nil h
  unfold intD at hq
  split at hq
  · obtain ⟨v, rfl, rx⟩ := repl1 r
    cases rx
    exact .inl (.inl ⟨_, rfl, fin hq⟩)
  · obtain ⟨v, rfl, rx⟩ := repl1 r
    cases rx
    exact .inl (.inr ⟨_, rfl, fin hq⟩)
  · obtain ⟨v, rfl, rx⟩ := repl1 r
    cases rx
    obtain ⟨h1, n, h2, h3⟩ := hq
    exact .inr ⟨_, n, rfl, h2, by rw [strV_len]; exact h1, fin h3⟩
  · exact hq.elim
theorem strD_ok : CallL X R (.type "str") strD := by
  refine ⟨_, call_str_int, fun F H vs ds B Q Qd s r hq out => ?_⟩
  unfold strD at hq
  split at hq
  · obtain ⟨v, rfl, rx⟩ := repl1 r
    cases rx
    refine ⟨_, rfl, hq.1, ?_⟩
    rw [← numT_str]
    exact out F H _ _ [] (.refl s) (.sc (.str _)) .nil hq.2
  · exact hq.elim
theorem ordD_ok : CallL X R (.builtin "ord") ordD := by
  refine ⟨_, call_ord, fun F H vs ds B Q Qd s r hq out => ?_⟩
  unfold ordD at hq
  split at hq
  · obtain ⟨v, rfl, rx⟩ := repl1 r
    cases rx
    exact ⟨_, rfl, by rw [strV_len]; rfl, out F H _ _ [] (.refl s) (.sc (.int _)) .nil hq⟩
  · exact hq.elim
theorem maxD_ok (hc : X.calm = true) : CallL X R (.builtin "max") maxD := by
  refine ⟨_, call_max2 hc, fun F H vs ds B Q Qd s r hq out => ?_⟩
  unfold maxD at hq
  split at hq
  · obtain ⟨v, w, A, C, rfl, r1, r2⟩ := repl2 r
    cases r1; cases r2
    exact ⟨_, _, rfl, out F H _ _ [] (.refl s) (.sc (.int _)) .nil hq⟩
  · exact hq.elim
theorem minD_ok (hc : X.calm = true) : CallL X R (.builtin "min") minD := by
  refine ⟨_, call_min2 hc, fun F H vs ds B Q Qd s r hq out => ?_⟩
  unfold minD at hq
  split at hq
  · obtain ⟨v, w, A, C, rfl, r1, r2⟩ := repl2 r
    cases r1; cases r2
    exact ⟨_, _, rfl, out F H _ _ [] (.refl s) (.sc (.int _)) .nil hq⟩
  · exact hq.elim
theorem absD_ok : CallL X R (.builtin "abs") absD := by
  refine ⟨_, call_abs, fun F H vs ds B Q Qd s r hq out => ?_⟩
  unfold absD at hq
  split at hq
  · obtain ⟨v, rfl, rx⟩ := repl1 r
    cases rx
    exact ⟨_, rfl, out F H _ _ [] (.refl s) (.sc (.int _)) .nil hq⟩
  · exact hq.elim
theorem anyD_ok (hc : X.calm = true) : CallL X R (.builtin "any") anyD := by
  refine ⟨_, cr_any hc, fun F H vs ds B Q Qd s r hq out => ?_⟩
  unfold anyD at hq
  split at hq
  · obtain ⟨v, rfl, rx⟩ := repl1 r
    obtain ⟨bs, h1, h2⟩ := hq
    obtain ⟨p, vs, B1, rfl, r1, _, q1, q2, z⟩ := nd_ref rx s
    have e := blsOf_eq h1
    subst e
    have e2 := r1.bls
    subst e2
    exact ⟨p, bs, rfl, q1 rfl, out F H _ _ [] (.refl s) (.sc (.bl _)) .nil h2⟩
  · exact hq.elim
theorem allD_ok (hc : X.calm = true) : CallL X R (.builtin "all") allD := by
  refine ⟨_, cr_all hc, fun F H vs ds B Q Qd s r hq out => ?_⟩
  unfold allD at hq
  split at hq
  · obtain ⟨v, rfl, rx⟩ := repl1 r
    obtain ⟨bs, h1, h2⟩ := hq
    obtain ⟨p, vs, B1, rfl, r1, _, q1, q2, z⟩ := nd_ref rx s
    have e := blsOf_eq h1
    subst e
    have e2 := r1.bls
    subst e2
    exact ⟨p, bs, rfl, q1 rfl, out F H _ _ [] (.refl s) (.sc (.bl _)) .nil h2⟩
  · exact hq.elim
theorem sumD_ok (hc : X.calm = true) : CallL X R (.builtin "sum") sumD := by
  refine ⟨_, cr_sum hc, fun F H vs ds B Q Qd s r hq out => ?_⟩
  unfold sumD at hq
  split at hq
  · obtain ⟨v, rfl, rx⟩ := repl1 r
    obtain ⟨bs, h1, h2⟩ := hq
    obtain ⟨p, vs, B1, rfl, r1, _, q1, q2, z⟩ := nd_ref rx s
    have e := intsOf_eq h1
    subst e
    have e2 := r1.ints
    subst e2
    exact ⟨p, bs, rfl, q1 rfl, out F H _ _ [] (.refl s) (.sc (.int _)) .nil h2⟩
  · exact hq.elim
end

/-! ## isinstance(x, a built-in class) -/
/-- the type of data, by its name -/
def tyD : D → Option String
  | .sc .non => some "NoneType"
  | .sc (.bl _) => some "bool"
  | .sc (.int _) => some "int"
  | .sc (.str _) => some "str"
  | .nd (.lst _) _ => some "list"
  | .nd .tup _ => some "tuple"
  | .nd (.dct _ _) _ => some "dict"
  | _ => none
def isiD (T : String) (d : D) (Q : D → Prop) : Prop := ∃ t b, tyD d = some t ∧ kitB t T = some b ∧ Q (.bl b)
def dIsi (T : String) (ta : TEd) : TEd := fun env Q E => ta env (fun _ d => isiD T d (Q false)) E
section
variable {X : Cx} {R : RT}
theorem tyD_of {K : PySem.W.Frag} {F H : Hp} {v : V} {d : D} {A : List Addr} {t : String} (r : Rep K R F H v d A) (s : Same F H) (h : tyD d = some t) : TyX K H v (.type t) := by
  unfold tyD at h
  split at h
  · cases h; cases r; exact .base .non
  · cases h; cases r; exact .base (.bl _)
  · cases h; cases r; exact .base (.int _)
  · cases h; cases r; exact .base (.str _)
  · cases h
    obtain ⟨a, vs, B', rfl, _, e, _⟩ := lst_at r s
    exact .base (.lst e)
  · cases h
    cases r with
    | fz h1 h2 h3 =>
      rcases TupAt.mono s h1 with e | ⟨o, its, n, e1, e2, _⟩
      · exact .base (.tup e)
      · exact .kTuple e1 e2
    | ow h1 h2 h3 => exact h1.elim
  · cases h
    obtain ⟨p, vs, B1, rfl, r1, _, hl, hp⟩ := dct_at r s
    exact .base (.dK hp)
  · cases h
theorem de_isi {T : String} {e : Expr} {ta : TEd} {x : Str} {p p2 pos : Pos} (hg : Gl X "isinstance") (hm : X.mg "isinstance" = none) (hg2 : Gl X x) (hm2 : X.mg x = none) (hv : bootBuiltins x = some (.type T)) (ha : DE X R e ta)
    (hn : x ≠ "__name__" := by decide) (hdb : (x == ("__debug__" : Str)) = false := by decide)
    (hs : starEach [e, .Name x p2] X.env = (false, eval e X.env) :: starEach [.Name x p2] X.env := by rfl) (hpl : (backTo pos (starEach [.Name x p2] X.env)).any (·.1) = false := by rfl) :
    DE X R (.Call (.Name "isinstance" p) [e, .Name x p2] [] pos) (dIsi T ta) := fun W tk => by
  obtain ⟨_, a1, a2⟩ := ha W tk
  refine ⟨_, pe_callB call_isi hg hm (by decide +kernel) (pa_cons a1 (pa_cons (pe_bltn (v := .ty T) hg2 hm2 hv rfl hn hdb) pa_nil rfl) hs) (by decide) (by decide) hs hpl, ?_⟩
  intro F H σ env As Q Qd Ed s er h q xx
  refine a2 F H σ env As _ _ Ed s er h (fun F1 H1 v d B b g1 r1 f1 hd => ?_) xx
  obtain ⟨t, b, h1, h2, h3⟩ := hd
  exact ⟨v, .ty T, .type t, .type T, b, rfl, .ty T, tyD_of r1 g1.fh h1, kit_ty h2, q F1 H1 _ _ [] false g1 (.sc (.bl b)) (fun _ => .nil) h3⟩
end
end DL

set_option Elab.async false
set_option linter.all false
set_option maxRecDepth 100000
set_option maxHeartbeats 1000000
namespace DL
open PySem PySem.Spec L2

/-! ## statements: what stood at the entry, what may be changed of it -/
structure Ba where
  H0 : Hp
  F0 : Hp
  A0 : Addr → Prop
  σ0 : L2.St
  P : List Nat
structure Ok (K : PySem.W.Frag) (R : RT) (C : Ba) (F H : Hp) (σ : L2.St) (env : Sl) (As : Nat → List Addr) : Prop where
  er : EnvR K R F H σ env As
  fh : Same F H
  kp : ∀ a o, C.H0 a = some o → ¬ C.A0 a → H a = some o
  tr : ∀ a o, C.H0 a = some o → ∃ o', H a = some o'
  kf : Same C.F0 F
  fr : ∀ a o, C.H0 a = some o → ¬ C.A0 a → F a = C.F0 a
  ow : ∀ i a, a ∈ As i → C.A0 a ∨ C.H0 a = none
  pin : ∀ i ∈ C.P, σ[i]? = C.σ0[i]?
/-- places that are one's own and in no slot -/
def Own (C : Ba) (As : Nat → List Addr) (B : List Addr) : Prop := B.Nodup ∧ (∀ a ∈ B, C.A0 a ∨ C.H0 a = none) ∧ ∀ j, ∀ a ∈ B, a ∉ As j
section
variable {K : PySem.W.Frag} {R : RT} {C : Ba} {F F' H H' : Hp} {σ : L2.St} {env : Sl} {As : Nat → List Addr}
theorem Ok.grow (h : Ok K R C F H σ env As) (g : Grow F H F' H') : Ok K R C F' H' σ env As :=
  ⟨h.er.grow g, g.fh, fun a o e n => g.hh _ _ (h.kp a o e n), fun a o e => let ⟨o', q⟩ := h.tr a o e; ⟨o', g.hh _ _ q⟩, h.kf.trans g.ff,
    fun a o e n => let ⟨o', q⟩ := h.tr a o e; (g.nw a o' q).trans (h.fr a o e n), h.ow, h.pin⟩
theorem Ok.own (h : Ok K R C F H σ env As) {B : List Addr} (f : Fresh H B) : Own C As B := by
  refine ⟨f.1, fun a ha => .inr ?_, fun j a ha hj => ?_⟩
  · cases e : C.H0 a with
    | none => rfl
    | some o =>
      obtain ⟨o', q⟩ := h.tr a o e
      rw [f.2 a ha] at q; cases q
  · obtain ⟨⟨o, ho⟩, _⟩ := h.er.own hj
    rw [f.2 a ha] at ho; cases ho
theorem set_oob {α : Type} {l : List α} {i : Nat} {x : α} (h : ¬ i < l.length) : l.set i x = l := List.set_eq_of_length_le (by omega)
/-- a slot is stored -/
theorem Ok.set (h : Ok K R C F H σ env As) {i : Nat} {v : V} {d : D} {B : List Addr} (r : Rep K R F H v d B) (o : Own C As B) (hP : i ∉ C.P) :
    ∃ As', Ok K R C F H (σ.set i (some v)) (env.set i (some d)) As' ∧ (∀ j a, a ∈ As' j → a ∈ As j ∨ a ∈ B) := by
  by_cases hi : i < env.length
  · refine ⟨_, ⟨h.er.set hi r o.1 fun j a hj ha => o.2.2 j a ha, h.fh, h.kp, h.tr, h.kf, h.fr, fun j a ha => ?_, fun j hj => ?_⟩, fun j a ha => ?_⟩
    · by_cases hji : j = i
      · subst hji; exact o.2.1 a (by simpa using ha)
      · exact h.ow j a (by simpa [hji] using ha)
    · rw [List.getElem?_set_ne (fun e : i = j => hP (by rw [e]; exact hj))]
      exact h.pin j hj
    · by_cases hji : j = i
      · subst hji; exact .inr (by simpa using ha)
      · exact .inl (by simpa [hji] using ha)
  · refine ⟨As, ?_, fun j a ha => .inl ha⟩
    rw [set_oob hi, set_oob (by rw [h.er.len]; exact hi)]
    exact h
/-- a slot is forgotten -/
theorem EnvR.unset (h : EnvR K R F H σ env As) (i : Nat) (o : Option V) : EnvR K R F H (σ.set i o) (env.set i none) (fun j => if j = i then [] else As j) := by
  refine ⟨by simpa using h.len, fun j x e => ?_, fun j hj => ?_, fun j l a hjl ha => ?_, fun j => ?_⟩
  · by_cases hji : j = i
    · subst hji
      by_cases hl : j < env.length
      · rw [List.getElem?_set_self hl] at e; cases e
      · rw [List.getElem?_eq_none (by simpa using hl)] at e; cases e
    · rw [List.getElem?_set_ne (Ne.symm hji)] at e
      obtain ⟨u, e1, r1⟩ := h.val j x e
      exact ⟨u, by rw [List.getElem?_set_ne (Ne.symm hji)]; exact e1, by simpa [hji] using r1⟩
  · by_cases hji : j = i
    · simp only [if_pos hji]
    · simp only [if_neg hji]
      exact h.emp j fun x e => hj x (by rw [List.getElem?_set_ne (Ne.symm hji)]; exact e)
  · by_cases h1 : j = i
    · simp only [if_pos h1] at ha; cases ha
    · simp only [if_neg h1] at ha
      by_cases h2 : l = i
      · simp only [if_pos h2]; exact List.not_mem_nil
      · simp only [if_neg h2]
        exact h.dis j l a hjl ha
  · by_cases h1 : j = i
    · simp only [if_pos h1]; exact List.nodup_nil
    · simp only [if_neg h1]; exact h.nod j
theorem EnvR.unsetD (h : EnvR K R F H σ env As) (i : Nat) : EnvR K R F H σ (env.set i none) (fun j => if j = i then [] else As j) := by
  have q := h.unset i (σ[i]?.join)
  by_cases hi : i < σ.length
  · have e : σ.set i (σ[i]?.join) = σ := by
      apply List.ext_getElem?
      intro j
      by_cases hj : i = j
      · subst hj
        rw [List.getElem?_set_self hi, List.getElem?_eq_getElem hi]
        rfl
      · rw [List.getElem?_set_ne hj]
    rw [e] at q
    exact q
  · rw [set_oob hi] at q
    exact q
theorem Ok.unset (h : Ok K R C F H σ env As) (i : Nat) (o : Option V) (hP : i ∉ C.P) : Ok K R C F H (σ.set i o) (env.set i none) (fun j => if j = i then [] else As j) :=
  ⟨h.er.unset i o, h.fh, h.kp, h.tr, h.kf, h.fr, fun j a ha => by
    by_cases hji : j = i
    · simp only [if_pos hji] at ha; cases ha
    · exact h.ow j a (by simpa [hji] using ha), fun j hj => by
    rw [List.getElem?_set_ne (fun e : i = j => hP (by rw [e]; exact hj))]
    exact h.pin j hj⟩
theorem Ok.unsetD (h : Ok K R C F H σ env As) (i : Nat) : Ok K R C F H σ (env.set i none) (fun j => if j = i then [] else As j) :=
  ⟨h.er.unsetD i, h.fh, h.kp, h.tr, h.kf, h.fr, fun j a ha => by
    by_cases hji : j = i
    · simp only [if_pos hji] at ha; cases ha
    · exact h.ow j a (by simpa [hji] using ha), h.pin⟩
/-- a slot's things are given up: they stay from now on -/
theorem Ok.frz (h : Ok K R C F H σ env As) {i : Nat} {d : D} (e : env[i]? = some (some d)) (hP : i ∉ C.P) : ∃ F', Ok K R C F' H σ (env.set i (some (frz d))) (fun j => if j = i then [] else As j) ∧ Same F F' := by
  obtain ⟨v, ev, r⟩ := h.er.val i d e
  let F' : Hp := fun a => if a ∈ As i then H a else F a
  have s1 : Same F F' := fun a o q => by
    show (if a ∈ As i then H a else F a) = some o
    split
    · exact h.fh a o q
    · exact q
  have s2 : Same F' H := fun a o q => by
    have q' : (if a ∈ As i then H a else F a) = some o := q
    split at q'
    · exact q'
    · exact h.fh a o q'
  have hi : i < env.length := (List.getElem?_eq_some_iff.mp e).1
  have r' : Rep K R F' H v (DL.frz d) [] := r.frz s1 fun a ha => if_pos ha
  refine ⟨F', ⟨⟨by simpa using h.er.len, fun j x ej => ?_, fun j hj => ?_, fun j l a hjl ha => ?_, fun j => ?_⟩, s2, h.kp, h.tr, h.kf.trans s1, fun a o q n => ?_, fun j a ha => ?_, h.pin⟩, s1⟩
  · by_cases hji : j = i
    · subst hji
      rw [List.getElem?_set_self hi] at ej
      cases ej
      exact ⟨v, ev, by simpa using r'⟩
    · rw [List.getElem?_set_ne (Ne.symm hji)] at ej
      obtain ⟨u, e1, r1⟩ := h.er.val j x ej
      refine ⟨u, e1, ?_⟩
      simp only [if_neg hji]
      refine r1.mono s1 fun a ha => ⟨rfl, ?_⟩
      show (if a ∈ As i then H a else F a) = none
      rw [if_neg (h.er.dis j i a hji ha)]
      exact (h.er.own ha).2
  · by_cases hji : j = i
    · simp only [if_pos hji]
    · simp only [if_neg hji]
      exact h.er.emp j fun x ex => hj x (by rw [List.getElem?_set_ne (Ne.symm hji)]; exact ex)
  · by_cases h1 : j = i
    · simp only [if_pos h1] at ha; cases ha
    · simp only [if_neg h1] at ha
      by_cases h2 : l = i
      · simp only [if_pos h2]; exact List.not_mem_nil
      · simp only [if_neg h2]
        exact h.er.dis j l a hjl ha
  · by_cases h1 : j = i
    · simp only [if_pos h1]; exact List.nodup_nil
    · simp only [if_neg h1]; exact h.er.nod j
  · show (if a ∈ As i then H a else F a) = C.F0 a
    rw [if_neg (fun ha => ?_)]
    · exact h.fr a o q n
    · rcases h.ow i a ha with z | z
      · exact n z
      · rw [q] at z; cases z
  · by_cases hji : j = i
    · simp only [if_pos hji] at ha; cases ha
    · exact h.ow j a (by simpa [hji] using ha)
/-- the state taken as a new entry -/
def Ba.re (C : Ba) (F H : Hp) (σ : L2.St) (As : Nat → List Addr) : Ba := ⟨H, F, fun a => ∃ i, a ∈ As i, σ, C.P⟩
theorem Ok.re (h : Ok K R C F H σ env As) : Ok K R (C.re F H σ As) F H σ env As :=
  ⟨h.er, h.fh, fun _ _ e _ => e, fun a o e => ⟨o, e⟩, .refl _, fun _ _ _ _ => rfl, fun i a ha => .inl ⟨i, ha⟩, fun _ _ => rfl⟩
theorem Ok.back (h : Ok K R C F H σ env As) {F1 H1 : Hp} {σ1 : L2.St} {env1 : Sl} {As1 : Nat → List Addr} (h1 : Ok K R (C.re F H σ As) F1 H1 σ1 env1 As1) : Ok K R C F1 H1 σ1 env1 As1 := by
  have na : ∀ a o, C.H0 a = some o → ¬ C.A0 a → ¬ ∃ i, a ∈ As i := fun a o e n ⟨i, hi⟩ => by
    rcases h.ow i a hi with z | z
    · exact n z
    · rw [e] at z; cases z
  refine ⟨h1.er, h1.fh, fun a o e n => h1.kp a o (h.kp a o e n) (na a o e n), fun a o e => ?_, h.kf.trans h1.kf, fun a o e n => (h1.fr a o (h.kp a o e n) (na a o e n)).trans (h.fr a o e n), fun i a ha => ?_, fun i hi => (h1.pin i hi).trans (h.pin i hi)⟩
  · obtain ⟨o', q⟩ := h.tr a o e
    exact h1.tr a o' q
  · rcases h1.ow i a ha with ⟨j, hj⟩ | z
    · exact h.ow j a hj
    · cases e : C.H0 a with
      | none => exact .inr rfl
      | some o =>
        obtain ⟨o', q⟩ := h.tr a o e
        rw [show H a = none from z] at q; cases q
theorem Own.back (h : Ok K R C F H σ env As) {As1 : Nat → List Addr} {B : List Addr} (o : Own (C.re F H σ As) As1 B) : Own C As1 B := by
  refine ⟨o.1, fun a ha => ?_, o.2.2⟩
  rcases o.2.1 a ha with ⟨j, hj⟩ | z
  · exact h.ow j a hj
  · cases e : C.H0 a with
    | none => exact .inr rfl
    | some x =>
      obtain ⟨o', q⟩ := h.tr a x e
      rw [show H a = none from z] at q; cases q
end

/-! ## ends -/
structure ED where
  nx : Sl → Prop
  rt : D → Sl → Prop
  bk : Sl → Prop := fun _ => False
  ct : Sl → Prop := fun _ => False
  ex : EX → Sl → Prop
abbrev TSd := ED → Sl → Prop
structure Ends' (K : PySem.W.Frag) (R : RT) (W : WX) (C : Ba) (Dh : Ends) (Dd : ED) : Prop where
  nx : ∀ F H σ env As, Ok K R C F H σ env As → Dd.nx env → Dh.nx σ H
  rt : ∀ F H σ env As v d B, Ok K R C F H σ env As → Rep K R F H v d B → Own C As B → Dd.rt d env → Dh.rt v H
  bk : ∀ F H σ env As, Ok K R C F H σ env As → Dd.bk env → Dh.bk σ H
  ct : ∀ F H σ env As, Ok K R C F H σ env As → Dd.ct env → Dh.ct σ H
  ex : ∀ F H σ env As cls dx x, Ok K R C F H σ env As → RepX K R F cls dx x → Dd.ex x env → W cls dx σ H
def LS (K : PySem.W.Frag) (R : RT) (W : WX) (P : List Nat) (ts : TS) (td : TSd) : Prop := ∀ (C : Ba) (F H : Hp) (σ : L2.St) (env : Sl) (As : Nat → List Addr) (Dh : Ends) (Dd : ED),
  C.P = P → Ok K R C F H σ env As → Ends' K R W C Dh Dd → td Dd env → ts Dh σ H
def DS (X : Cx) (R : RT) (P : List Nat) (st : Stmt) (td : TSd) : Prop := ∀ W, Takes X W → ∃ ts, PS X st ts ∧ LS X.K R W P ts td
def DSs (X : Cx) (R : RT) (P : List Nat) (st : List Stmt) (td : TSd) : Prop := ∀ W, Takes X W → ∃ ts, PSs X st ts ∧ LS X.K R W P ts td
section
variable {K : PySem.W.Frag} {R : RT} {W : WX} {C : Ba} {Dh : Ends} {Dd : ED}
/-- an expression within a statement: what it raises goes where the statement's go -/
theorem Ends'.exw (E : Ends' K R W C Dh Dd) {F H : Hp} {σ : L2.St} {env : Sl} {As : Nat → List Addr} (ok : Ok K R C F H σ env As) : ExW K R W F H σ (fun x => Dd.ex x env) :=
  fun F' H' cls dx x g r e => E.ex F' H' σ env As cls dx x (ok.grow g) r e
theorem Ends'.re (E : Ends' K R W C Dh Dd) {F H : Hp} {σ : L2.St} {env : Sl} {As : Nat → List Addr} (ok : Ok K R C F H σ env As) : Ends' K R W (C.re F H σ As) Dh Dd :=
  ⟨fun F1 H1 σ1 env1 As1 o => E.nx F1 H1 σ1 env1 As1 (ok.back o), fun F1 H1 σ1 env1 As1 v d B o r w => E.rt F1 H1 σ1 env1 As1 v d B (ok.back o) r (w.back ok),
    fun F1 H1 σ1 env1 As1 o => E.bk F1 H1 σ1 env1 As1 (ok.back o), fun F1 H1 σ1 env1 As1 o => E.ct F1 H1 σ1 env1 As1 (ok.back o), fun F1 H1 σ1 env1 As1 cls dx x o => E.ex F1 H1 σ1 env1 As1 cls dx x (ok.back o)⟩
end

/-! ## simple statements -/
def dNext : TSd := fun D env => D.nx env
def dSeq (t u : TSd) : TSd := fun D env => t { D with nx := u D } env
def dBreak : TSd := fun D env => D.bk env
def dCont : TSd := fun D env => D.ct env
def dDrop (te : TEd) : TSd := fun D env => te env (fun _ _ => D.nx env) (fun x => D.ex x env)
def dRet (te : TEd) : TSd := fun D env => te env (fun b d => safe b d ∧ D.rt d env) (fun x => D.ex x env)
/-- what a slot owns is handed back -/
def dRetV (i : Nat) : TSd := fun D env => match env[i]? with
  | some (some d) => D.rt d (env.set i none)
  | _ => False
def dRetN : TSd := fun D env => D.rt .non env
def dIfS (c : TTd) (t u : TSd) : TSd := fun D env => c env (fun b => if b = true then t D env else u D env) (fun x => D.ex x env)
/-- slots are given up -/
def fzS : List Nat → Sl → Sl
  | [], env => env
  | i :: r, env => fzS r (match env[i]? with
    | some (some d) => env.set i (some (frz d))
    | _ => env)
def dFz (is : List Nat) (t : TSd) : TSd := fun D env => t D (fzS is env)
/-- targets -/
abbrev TGd := D → Sl → (Sl → Prop) → Prop
abbrev TGsd := List D → Sl → (Sl → Prop) → Prop
def gN (i : Nat) : TGd := fun d env Q => Q (env.set i (some d))
def gsNil : TGsd := fun ds env Q => ds = [] ∧ Q env
def gsCons (g : TGd) (gs : TGsd) : TGsd := fun ds env Q => match ds with
  | d :: r => g d env (fun env' => gs r env' Q)
  | [] => False
def gTu (n : Nat) (gs : TGsd) : TGd := fun d env Q => match d with
  | .nd .tup ds => ds.length = n ∧ gs ds env Q
  | _ => False
def dAsg (te : TEd) (g : TGd) : TSd := fun D env => te env (fun b d => safe b d ∧ g d env D.nx) (fun x => D.ex x env)
def LG (K : PySem.W.Frag) (R : RT) (P : List Nat) (g : TG) (gd : TGd) : Prop := ∀ (C : Ba) (F H : Hp) (σ : L2.St) (env : Sl) (As : Nat → List Addr) (v : V) (d : D) (B : List Addr) (Q : L2.St → Hp → Prop) (Qd : Sl → Prop),
  C.P = P → Ok K R C F H σ env As → Rep K R F H v d B → Own C As B → gd d env Qd → (∀ σ' env' As', Ok K R C F H σ' env' As' → (∀ j a, a ∈ As' j → a ∈ As j ∨ a ∈ B) → Qd env' → Q σ' H) → g v σ H Q
def LGs (K : PySem.W.Frag) (R : RT) (P : List Nat) (g : TGs) (gd : TGsd) : Prop := ∀ (C : Ba) (F H : Hp) (σ : L2.St) (env : Sl) (As : Nat → List Addr) (v : List V) (d : List D) (B : List Addr) (Q : L2.St → Hp → Prop) (Qd : Sl → Prop),
  C.P = P → Ok K R C F H σ env As → RepL K R F H v d B → Own C As B → gd d env Qd → (∀ σ' env' As', Ok K R C F H σ' env' As' → (∀ j a, a ∈ As' j → a ∈ As j ∨ a ∈ B) → Qd env' → Q σ' H) → g v σ H Q
def DG (X : Cx) (R : RT) (P : List Nat) (tg : Expr) (gd : TGd) : Prop := ∃ g, PG X tg g ∧ LG X.K R P g gd
def DGs (X : Cx) (R : RT) (P : List Nat) (tg : List Expr) (gd : TGsd) : Prop := ∃ g, PGs X tg g ∧ LGs X.K R P g gd
section
variable {X : Cx} {R : RT} {P : List Nat} {st : Stmt} {rest body : List Stmt} {t u : TSd} {e : Expr} {te : TEd} {pos : Pos}
theorem dg_name (i : Nat) {x : Str} (hN : X.N.Nodup) (hi : X.N[i]? = some x := by rfl) (hx : Loc X.env.scope x := by first | exact Or.inl rfl | exact Or.inr rfl) (hP : i ∉ P := by decide) (hf : X.fn x = true ∨ X.env.scope.names.lookup x = some .local := by first | exact .inl rfl | exact .inr rfl | assumption) : DG X R P (.Name x pos) (gN i) :=
  ⟨_, pg_name hN hi hx hf, fun C F H σ env As v d B Q Qd eP ok r o hq q => by
    obtain ⟨As', ok', sub⟩ := ok.set r o (by rw [eP]; exact hP)
    exact q _ _ As' ok' sub hq⟩
theorem dgs_nil : DGs X R P [] gsNil := ⟨_, pgs_nil, fun C F H σ env As v d B Q Qd eP ok r o hq q => by
  obtain ⟨rfl, hq⟩ := hq
  cases r
  exact ⟨rfl, q σ env As ok (fun j a ha => .inl ha) hq⟩⟩
theorem Own.left {C : Ba} {As : Nat → List Addr} {A B : List Addr} (o : Own C As (A ++ B)) : Own C As A :=
  ⟨(List.nodup_append.mp o.1).1, fun a ha => o.2.1 a (List.mem_append_left _ ha), fun j a ha => o.2.2 j a (List.mem_append_left _ ha)⟩
theorem Own.right {C : Ba} {As As' : Nat → List Addr} {A B : List Addr} (o : Own C As (A ++ B)) (s : ∀ j a, a ∈ As' j → a ∈ As j ∨ a ∈ A) : Own C As' B :=
  ⟨(List.nodup_append.mp o.1).2.1, fun a ha => o.2.1 a (List.mem_append_right _ ha), fun j a ha hj => by
    rcases s j a hj with z | z
    · exact o.2.2 j a (List.mem_append_right _ ha) z
    · exact (List.nodup_append.mp o.1).2.2 a z a ha rfl⟩
theorem Own.nil {C : Ba} {As : Nat → List Addr} : Own C As [] := ⟨List.nodup_nil, fun _ z => (by cases z), fun _ _ z => (by cases z)⟩
theorem dgs_cons {e : Expr} {es : List Expr} {g : TGd} {gs : TGsd} (h1 : DG X R P e g) (h2 : DGs X R P es gs)
    (hh : (assignEach (e :: es) X.env).map (·.2) = assign e X.env :: (assignEach es X.env).map (·.2) := by rfl) : DGs X R P (e :: es) (gsCons g gs) := by
  obtain ⟨_, a1, a2⟩ := h1
  obtain ⟨_, b1, b2⟩ := h2
  refine ⟨_, pgs_cons a1 b1 hh, fun C F H σ env As v d B Q Qd eP ok r o hq q => ?_⟩
  cases r with
  | nil => exact hq.elim
  | cons r1 r2 =>
    refine ⟨_, _, rfl, a2 C F H σ env As _ _ _ _ _ eP ok r1 o.left hq fun σ1 env1 As1 ok1 s1 hq1 => ?_⟩
    refine b2 C F H σ1 env1 As1 _ _ _ _ _ eP ok1 r2 (o.right s1) hq1 fun σ2 env2 As2 ok2 s2 hq2 => q σ2 env2 As2 ok2 (fun j a ha => ?_) hq2
    rcases s2 j a ha with z | z
    · rcases s1 j a z with z | z
      · exact .inl z
      · exact .inr (List.mem_append_left _ z)
    · exact .inr (List.mem_append_right _ z)
theorem dg_tup {es : List Expr} {k : Nat} {gs : TGsd} {n : Nat} (hc : X.calm = true) (h : DGs X R P es gs)
    (hn : (assignEach es X.env).length = n := by rfl) (hst : (assignEach es X.env).findIdx? (·.1) = none := by rfl) : DG X R P (.Tuple es k pos) (gTu n gs) := by
  obtain ⟨_, a1, a2⟩ := h
  refine ⟨_, pg_tup hc a1 hn hst, fun C F H σ env As v d B Q Qd eP ok r o hq q => ?_⟩
  unfold gTu at hq
  split at hq
  · cases r with
    | fz h1 h2 h3 => exact ⟨_, _, rfl, (TupAt.mono ok.fh h1).sq, h2.length.trans hq.1, a2 C F H σ env As _ _ _ _ _ eP ok h2 o hq.2 q⟩
    | ow h1 h2 h3 => exact h1.elim
  · exact hq.elim

theorem dss_nil : DSs X R P [] dNext := fun W _ => ⟨_, pss_nil, fun C F H σ env As Dh Dd eP ok E h => E.nx F H σ env As ok h⟩
theorem dss_cons (h1 : DS X R P st t) (h2 : DSs X R P rest u) : DSs X R P (st :: rest) (dSeq t u) := fun W tk => by
  obtain ⟨_, a1, a2⟩ := h1 W tk
  obtain ⟨_, b1, b2⟩ := h2 W tk
  exact ⟨_, pss_cons a1 b1, fun C F H σ env As Dh Dd eP ok E h => a2 C F H σ env As _ { Dd with nx := u Dd } eP ok ⟨fun F1 H1 σ1 env1 As1 o q => b2 C F1 H1 σ1 env1 As1 Dh Dd eP o E q, E.rt, E.bk, E.ct, E.ex⟩ h⟩
theorem dss_one (h1 : DS X R P st t) : DSs X R P [st] t := fun W tk => by
  obtain ⟨_, a1, a2⟩ := h1 W tk
  exact ⟨_, pss_one a1, a2⟩
theorem ds_pass : DS X R P (.Pass pos) dNext := fun W _ => ⟨_, ps_pass, fun C F H σ env As Dh Dd eP ok E h => E.nx F H σ env As ok h⟩
theorem ds_break : DS X R P (.Break pos) dBreak := fun W _ => ⟨_, ps_break, fun C F H σ env As Dh Dd eP ok E h => E.bk F H σ env As ok h⟩
theorem ds_cont : DS X R P (.Continue pos) dCont := fun W _ => ⟨_, ps_continue, fun C F H σ env As Dh Dd eP ok E h => E.ct F H σ env As ok h⟩
theorem ds_drop (h : DE X R e te) (hs : swapsWith e none pos.line X.env = pure false := by rfl) : DS X R P (.Expr e pos) (dDrop te) := fun W tk => by
  obtain ⟨_, a1, a2⟩ := h W tk
  exact ⟨_, ps_expr a1 hs, fun C F H σ env As Dh Dd eP ok E h => a2 F H σ env As _ _ _ ok.fh ok.er h (fun F1 H1 v d B b g r f hq => E.nx F1 H1 σ env As (ok.grow g) hq) (E.exw ok)⟩
theorem ds_ret (h : DE X R e te) : DS X R P (.Return (some e) pos) (dRet te) := fun W tk => by
  obtain ⟨_, a1, a2⟩ := h W tk
  exact ⟨_, ps_ret a1, fun C F H σ env As Dh Dd eP ok E h => a2 F H σ env As _ _ _ ok.fh ok.er h (fun F1 H1 v d B b g r f hq => E.rt F1 H1 σ env As v d B (ok.grow g) r (ok.own (Fresh.of_safe r f hq.1)) hq.2) (E.exw ok)⟩
theorem ds_retN : DS X R P (.Return none pos) dRetN := fun W _ => ⟨_, ps_retN, fun C F H σ env As Dh Dd eP ok E h => E.rt F H σ env As _ _ [] ok (.sc .non) .nil h⟩
theorem ds_retV (i : Nat) {x : Str} {p : Pos} (hP : i ∉ P := by decide) (hN : X.N[i]? = some x := by rfl) (hv : Vis X.env.scope x := by first | exact Or.inl rfl | exact Or.inr (Or.inl rfl) | exact Or.inr (Or.inr rfl)) (hd : (x == ("__debug__" : Str)) = false := by decide)
    (hcd : (x == ("__classdict__" : Str)) = false := by decide) : DS X R P (.Return (some (.Name x p)) pos) (dRetV i) := fun W _ => ⟨_, ps_ret (pe_var hN hv hd hcd), fun C F H σ env As Dh Dd eP ok E h => by
  unfold dRetV at h
  split at h
  · rename_i d e
    obtain ⟨v, ev, r⟩ := ok.er.val i d e
    refine ⟨v, ev, E.rt F H σ (env.set i none) _ v d (As i) (ok.unsetD i) r ⟨ok.er.nod i, fun a ha => ok.ow i a ha, fun j a ha hj => ?_⟩ h⟩
    by_cases hji : j = i
    · simp only [if_pos hji] at hj; cases hj
    · simp only [if_neg hji] at hj
      exact ok.er.dis j i a hji hj ha
  · exact h.elim⟩
theorem ds_if {c : Expr} {a b : List Stmt} {tc : TTd} (h0 : DT X R c tc) (h1 : DSs X R P a t) (h2 : DSs X R P b u) : DS X R P (.If c a b pos) (dIfS tc t u) := fun W tk => by
  obtain ⟨_, c1, c2⟩ := h0 W tk
  obtain ⟨_, a1, a2⟩ := h1 W tk
  obtain ⟨_, b1, b2⟩ := h2 W tk
  refine ⟨_, ps_if c1 a1 b1, fun C F H σ env As Dh Dd eP ok E h => c2 F H σ env As _ _ _ ok.fh ok.er h (fun F1 H1 c g hq => ?_) (E.exw ok)⟩
  cases c with
  | true =>
    rw [if_pos rfl] at hq ⊢
    exact a2 C F1 H1 σ env As Dh Dd eP (ok.grow g) E hq
  | false =>
    rw [if_neg Bool.false_ne_true] at hq ⊢
    exact b2 C F1 H1 σ env As Dh Dd eP (ok.grow g) E hq
theorem Ok.fzS {K : PySem.W.Frag} {C : Ba} {H : Hp} {σ : L2.St} : ∀ (is : List Nat) {F : Hp} {env : Sl} {As : Nat → List Addr}, Ok K R C F H σ env As → (∀ i ∈ is, i ∉ C.P) → ∃ F' As', Ok K R C F' H σ (fzS is env) As'
  | [], F, env, As, ok, _ => ⟨F, As, ok⟩
  | i :: r, F, env, As, ok, hP => by
    rw [DL.fzS]
    split
    · rename_i d e
      obtain ⟨F', ok', _⟩ := ok.frz e (hP i List.mem_cons_self)
      exact Ok.fzS r ok' fun j hj => hP j (List.mem_cons_of_mem _ hj)
    · exact Ok.fzS r ok fun j hj => hP j (List.mem_cons_of_mem _ hj)
theorem ds_fz (is : List Nat) (h : DS X R P st t) (hP : ∀ i ∈ is, i ∉ P := by decide) : DS X R P st (dFz is t) := fun W tk => by
  obtain ⟨_, a1, a2⟩ := h W tk
  refine ⟨_, a1, fun C F H σ env As Dh Dd eP ok E h => ?_⟩
  obtain ⟨F', As', ok'⟩ := ok.fzS is (by rw [eP]; exact hP)
  exact a2 C F' H σ _ As' Dh Dd eP ok' E h
theorem ds_asg {tg : Expr} {g : TGd} (h1 : DE X R e te) (h2 : DG X R P tg g) (hs : swapsWithSole [tg] e pos.line X.env = pure false := by rfl) (hw : swappedStores [tg] e X.env = pure none := by rfl) (hz : (assignEach [tg] X.env).map (·.2) = [assign tg X.env] := by rfl) : DS X R P (.Assign [tg] e pos) (dAsg te g) := fun W tk => by
  obtain ⟨_, a1, a2⟩ := h1 W tk
  obtain ⟨_, b1, b2⟩ := h2
  exact ⟨_, ps_asg a1 b1 hs hw hz, fun C F H σ env As Dh Dd eP ok E h => a2 F H σ env As _ _ _ ok.fh ok.er h (fun F1 H1 v d B b g1 r f hq =>
    b2 C F1 H1 σ env As v d B _ _ eP (ok.grow g1) r ((ok.own (Fresh.of_safe r f hq.1))) hq.2 fun σ' env' As' ok' _ hn => E.nx F1 H1 σ' env' As' ok' hn) (E.exw ok)⟩
end

/-! ## loops -/
def whD (c : TTd) (tb : TSd) (D : ED) : Nat → Sl → Prop
  | 0, _ => False
  | n + 1, env => c env (fun b => if b = true then tb { D with nx := whD c tb D n, ct := whD c tb D n, bk := D.nx } env else D.nx env) (fun x => D.ex x env)
def dWhile (c : TTd) (tb : TSd) : TSd := fun D env => ∃ n, whD c tb D n env
abbrev TId := Sl → (List D → Prop) → (EX → Prop) → Prop
/-- an iterator that tells these data, all of which stay -/
def Itm (K : PySem.W.Frag) (R : RT) (F0 : Hp) (J : It) (ds : List D) : Prop := ∀ F H, Same F0 F → Same F H →
  (∀ i, i < ds.length → J.go i H ∧ ∀ x H', J.yld i H x H' → ∃ F' d, ds[i]? = some d ∧ Grow F H F' H' ∧ Rep K R F' H' x d []) ∧ J.stop ds.length H
def LI (K : PySem.W.Frag) (R : RT) (W : WX) (wi : TI) (td : TId) : Prop := ∀ (F H : Hp) (σ : L2.St) (env : Sl) (As : Nat → List Addr) (Q : It → Hp → Prop) (Qd : List D → Prop) (Ed : EX → Prop),
  Same F H → EnvR K R F H σ env As → td env Qd Ed → (∀ F' H' J ds, Grow F H F' H' → Itm K R F' J ds → Qd ds → Q J H') → ExW K R W F H σ Ed → wi σ H Q
def DI (X : Cx) (R : RT) (tg iter : Expr) (td : TId) : Prop := ∀ W, Takes X W → ∃ wi, PI X tg iter wi ∧ LI X.K R W wi td
def forD (g : TGd) (tb : TSd) (D : ED) : List DL.D → Sl → Prop
  | [], env => D.nx env
  | x :: r, env => g x env (tb { D with nx := forD g tb D r, ct := forD g tb D r, bk := D.nx })
def dFor (ti : TId) (g : TGd) (tb : TSd) : TSd := fun D env => ti env (fun ds => forD g tb D ds env) (fun x => D.ex x env)
section
variable {X : Cx} {R : RT} {P : List Nat} {body : List Stmt} {tb : TSd} {pos : Pos}
theorem ds_while {c : Expr} {tc : TTd} (hp : PassesOwn (model X.prog X.w) X.A X.env X.xe) (h0 : DT X R c tc) (h1 : DSs X R P body tb) : DS X R P (.While c body [] pos) (dWhile tc tb) := fun W tk => by
  obtain ⟨_, c1, c2⟩ := h0 W tk
  obtain ⟨_, a1, a2⟩ := h1 W tk
  refine ⟨_, ps_while hp c1 a1, fun C F H σ env As Dh Dd eP ok E h => ?_⟩
  obtain ⟨n, h⟩ := h
  refine ⟨fun m σ H => ∃ F env As, Ok X.K R C F H σ env As ∧ whD tc tb Dd m env, ⟨n, F, env, As, ok, h⟩, fun m σ1 H1 w => ?_⟩
  obtain ⟨F1, env1, As1, ok1, w⟩ := w
  cases m with
  | zero => exact w.elim
  | succ m =>
    refine c2 F1 H1 σ1 env1 As1 _ _ _ ok1.fh ok1.er w (fun F2 H2 b g hq => ?_) (E.exw ok1)
    cases b with
    | true =>
      rw [if_pos rfl] at hq ⊢
      refine ⟨fun σ' H' => ∃ F env As, Ok X.K R C F H' σ' env As ∧ whD tc tb Dd m env, fun σ' H' ⟨F', env', As', o', w'⟩ => ⟨m, Nat.lt_succ_self m, F', env', As', o', w'⟩, ?_⟩
      exact a2 C F2 H2 σ1 env1 As1 _ { Dd with nx := whD tc tb Dd m, ct := whD tc tb Dd m, bk := Dd.nx } eP (ok1.grow g) ⟨fun F' H' σ' env' As' o q => ⟨F', env', As', o, q⟩, E.rt, E.nx, fun F' H' σ' env' As' o q => ⟨F', env', As', o, q⟩, E.ex⟩ hq
    | false =>
      rw [if_neg Bool.false_ne_true] at hq ⊢
      exact E.nx F2 H2 σ1 env1 As1 (ok1.grow g) hq
theorem ds_for {tg iter : Expr} {ti : TId} {g : TGd} (hp : PassesOwn (model X.prog X.w) X.A X.env X.xe) (hc : X.calm = true) (h0 : DI X R tg iter ti) (hg : DG X R P tg g) (h1 : DSs X R P body tb)
    (hs : ∀ x, foldedSetIterable iter X.env x = pure x := by intro _; rfl) : DS X R P (.For tg iter body [] pos) (dFor ti g tb) := fun W tk => by
  obtain ⟨_, i1, i2⟩ := h0 W tk
  obtain ⟨_, g1, g2⟩ := hg
  obtain ⟨_, a1, a2⟩ := h1 W tk
  refine ⟨_, ps_for hp hc i1 g1 a1 hs, fun C F H σ env As Dh Dd eP ok E h => i2 F H σ env As _ _ _ ok.fh ok.er h (fun F1 H1 J ds gr it hq => ?_) (E.exw ok)⟩
  have ok1 := ok.grow gr
  have E1 := E.re ok1
  let C1 := C.re F1 H1 σ As
  refine ⟨fun i m σ' H' => m = ds.length - i ∧ i ≤ ds.length ∧ ∃ F' env' As', Ok X.K R C1 F' H' σ' env' As' ∧ forD g tb Dd (ds.drop i) env', ⟨ds.length, rfl, Nat.zero_le _, F1, env, As, ok1.re, hq⟩, ?_⟩
  rintro i m σ2 H2 ⟨rfl, hi, F2, env2, As2, ok2, w⟩
  obtain ⟨it1, it2⟩ := it F2 H2 ok2.kf ok2.fh
  by_cases hlt : i < ds.length
  · obtain ⟨q1, q2⟩ := it1 i hlt
    refine .inr ⟨q1, fun σ' H' => ∃ F' env' As', Ok X.K R C1 F' H' σ' env' As' ∧ forD g tb Dd (ds.drop (i + 1)) env', fun σ' H' w' => ⟨ds.length - (i + 1), by omega, rfl, hlt, w'⟩, fun x H3 y => ?_⟩
    obtain ⟨F3, d, hd, g3, r3⟩ := q2 x H3 y
    rw [List.drop_eq_getElem_cons hlt] at w
    have ed : ds[i] = d := by rw [List.getElem?_eq_getElem hlt] at hd; exact Option.some.inj hd
    rw [ed] at w
    have w' : g d env2 (tb { Dd with nx := forD g tb Dd (ds.drop (i + 1)), ct := forD g tb Dd (ds.drop (i + 1)), bk := Dd.nx }) := w
    refine g2 C1 F3 H3 σ2 env2 As2 x d [] _ _ eP (ok2.grow g3) r3 .nil w' fun σ4 env4 As4 ok4 _ hb => ?_
    exact a2 C1 F3 H3 σ4 env4 As4 _ { Dd with nx := forD g tb Dd (ds.drop (i + 1)), ct := forD g tb Dd (ds.drop (i + 1)), bk := Dd.nx } eP ok4
      ⟨fun F' H' σ' env' As' o q => ⟨F', env', As', o, q⟩, E1.rt, E1.nx, fun F' H' σ' env' As' o q => ⟨F', env', As', o, q⟩, E1.ex⟩ hb
  · have e : i = ds.length := by omega
    subst e
    rw [List.drop_length] at w
    exact .inl ⟨it2, E1.nx F2 H2 σ2 env2 As2 ok2 w⟩
end
end DL

set_option Elab.async false
set_option linter.all false
set_option maxRecDepth 100000
set_option maxHeartbeats 1000000
namespace DL
open PySem PySem.Spec L2

/-! ## what is walked -/
/-- a list, a tuple or a text -/
def iSq (K : PySem.W.Frag) (te : TE) : TI := fun σ H R => te σ H fun x H1 => (∃ a, x = .ref a ∧ (∃ xs, SqL K H1 a xs) ∧ R (Itl K a) H1) ∨ (∃ a, x = .ref a ∧ (∃ xs, SqT K H1 a xs) ∧ R (Itt K a) H1) ∨ ∃ z, x = .str z ∧ R (Its z) H1
theorem pi_sq {X : Cx} {tg l : Expr} {tl : TE} (hl : PE X l tl) : PI X tg l (iSq X.K tl) := by
  refine ⟨fun pins s σ H R I h => ?_⟩
  refine thn (hl.run pins s σ H _ I h) fun v s1 ⟨x, H1, I1, r1, q1⟩ => ?_
  rcases q1 with ⟨a, e, ⟨xs, hq⟩, q⟩ | ⟨a, e, ⟨xs, hq⟩, q⟩ | ⟨x, ex, q⟩
  · subst e
    cases r1
    obtain ⟨its, rv, p, hz⟩ := I1.list hq
    refine wpAny_pyIter_list p.isList ?_
    refine ⟨s1.heap.objs.size, [s1.heap.objs.size], _, _, H1, rfl, I1.kept (t' := s1.toks) fun b o e => Heap.get?_push_of_some _ e, turn_list a _, ⟨_, Heap.get?_push_size _ rfl, rfl, rfl⟩, fun b hb => ?_, q⟩
    have e : b = s1.heap.objs.size := by simpa using hb
    subst e
    exact I1.fpOk (Nat.le_refl _) (I1.hok.fresh (Nat.le_refl _))
  · subst e
    cases r1
    obtain ⟨its, rv, p, hz⟩ := I1.tuple hq
    refine wpAny_pyIter_tuple (show s1.heap.IsTuple a its.toArray from p) ?_
    refine ⟨s1.heap.objs.size, [s1.heap.objs.size], _, _, H1, rfl, I1.kept (t' := s1.toks) fun b o e => Heap.get?_push_of_some _ e, turn_tuple a _, ⟨_, Heap.get?_push_size _ rfl, rfl, rfl⟩, fun b hb => ?_, q⟩
    have e : b = s1.heap.objs.size := by simpa using hb
    subst e
    exact I1.fpOk (Nat.le_refl _) (I1.hok.fresh (Nat.le_refl _))
  · subst ex
    obtain ⟨t, rfl⟩ := r1
    cases ha : x.cps.all (· < 128)
    · exact wpAny_pyIter_wide ha (pi_one (tk := s1.toks) I1 _ (turn_str _ x t "str_iterator" (.inr rfl)) ⟨_, Heap.get?_push_size _ rfl, rfl, rfl⟩ q)
    · exact wpAny_pyIter_ascii ha (pi_one (tk := s1.toks) I1 _ (turn_str _ x t "str_ascii_iterator" (.inl rfl)) ⟨_, Heap.get?_push_size _ rfl, rfl, rfl⟩ q)

/-- the items, as they stand once they are given up -/
def itD : D → (List D → Prop) → Prop
  | .sc (.str s), Q => Q (s.map fun c => .str [c])
  | .nd (.lst o) ds, Q => Q (if o = true then frzL ds else ds)
  | .nd .scr ds, Q => Q ds
  | .nd .tup ds, Q => Q (frzL ds)
  | _, _ => False
def dIt (te : TEd) : TId := fun env Q E => te env (fun b d => safe b d ∧ itD d Q) E
section
variable {K : PySem.W.Frag} {R : RT} {F H : Hp}
/-- what is fresh is given up -/
theorem give {F0 H0 : Hp} {B : List Addr} (s : Same F H) (g0 : Grow F0 H0 F H) (f : Fresh H0 B) : ∃ F', (∀ v d, Rep K R F H v d B → Rep K R F' H v (frz d) []) ∧ (∀ v d, RepL K R F H v d B → RepL K R F' H v (frzL d) []) ∧ Grow F0 H0 F' H ∧ Same F F' := by
  let F' : Hp := fun a => if a ∈ B then H a else F a
  have s1 : Same F F' := fun a o q => by
    show (if a ∈ B then H a else F a) = some o
    split
    · exact s a o q
    · exact q
  have s2 : Same F' H := fun a o q => by
    have q' : (if a ∈ B then H a else F a) = some o := q
    split at q'
    · exact q'
    · exact s a o q'
  refine ⟨F', fun v d r => r.frz s1 fun a ha => if_pos ha, fun v d r => r.frz s1 fun a ha => if_pos ha, ⟨g0.hh, g0.ff.trans s1, s2, fun a o e => ?_⟩, s1⟩
  show (if a ∈ B then H a else F a) = F0 a
  rw [if_neg (fun z => ?_)]
  · exact g0.nw a o e
  · rw [f.2 a z] at e; cases e
theorem itm_list {a : Addr} {vs : List V} {ds : List D} (h : ∀ F' H', Same F F' → Same F' H' → SqL K H' a vs) (r : RepL K R F H vs ds []) : Itm K R F (Itl K a) ds := by
  intro F2 H2 s1 s2
  have sq := h F2 H2 s1 s2
  refine ⟨fun i hi => ?_, ⟨vs, sq, by rw [r.length]; exact Nat.le_refl _⟩⟩
  have hd : ds[i]? = some ds[i] := List.getElem?_eq_getElem hi
  obtain ⟨v, B', hv, rv, sl⟩ := r.get hd
  refine ⟨⟨vs, v, sq, hv⟩, fun x H' y => ?_⟩
  obtain ⟨rfl, hx⟩ := y
  have e := hx vs sq
  rw [hv] at e; cases e
  have eB : B' = [] := List.eq_nil_of_subset_nil fun a ha => sl.mem ha
  subst eB
  exact ⟨F2, ds[i], hd, .refl s2, rv.mono s1 fun a ha => by cases ha⟩
theorem itm_tup {a : Addr} {vs : List V} {ds : List D} (h : ∀ F' H', Same F F' → Same F' H' → SqT K H' a vs) (r : RepL K R F H vs ds []) : Itm K R F (Itt K a) ds := by
  intro F2 H2 s1 s2
  have sq := h F2 H2 s1 s2
  refine ⟨fun i hi => ?_, ⟨vs, sq, by rw [r.length]; exact Nat.le_refl _⟩⟩
  have hd : ds[i]? = some ds[i] := List.getElem?_eq_getElem hi
  obtain ⟨v, B', hv, rv, sl⟩ := r.get hd
  refine ⟨⟨vs, v, sq, hv⟩, fun x H' y => ?_⟩
  obtain ⟨rfl, hx⟩ := y
  have e := hx vs sq
  rw [hv] at e; cases e
  have eB : B' = [] := List.eq_nil_of_subset_nil fun a ha => sl.mem ha
  subst eB
  exact ⟨F2, ds[i], hd, .refl s2, rv.mono s1 fun a ha => by cases ha⟩
theorem itm_str {z : Txt} : Itm K R F (Its (strV z)) (z.map fun c => D.str [c]) := by
  intro F2 H2 s1 s2
  have hz : (strV z).cps.size = z.length := by simp [strV]
  refine ⟨fun i hi => ?_, by show (strV z).cps.size ≤ _; rw [hz, List.length_map]; exact Nat.le_refl _⟩
  rw [List.length_map] at hi
  refine ⟨by show i < (strV z).cps.size; rw [hz]; exact hi, fun x H' y => ?_⟩
  obtain ⟨rfl, c, hc, rfl⟩ := y
  have hc' : z[i]? = some c := by simpa [strV] using hc
  exact ⟨F2, .str [c], by rw [List.getElem?_map, hc']; rfl, .refl s2, .sc (.str [c])⟩
theorem itm_range {lo : Int} {n : Nat} : Itm K R F (Itr lo n) ((List.range n).map fun (k : Nat) => D.int (lo + (k : Int))) := by
  intro F2 H2 s1 s2
  refine ⟨fun i hi => ?_, by show n ≤ _; rw [List.length_map, List.length_range]; exact Nat.le_refl _⟩
  rw [List.length_map, List.length_range] at hi
  refine ⟨hi, fun x H' y => ?_⟩
  obtain ⟨rfl, rfl⟩ := y
  exact ⟨F2, .int (lo + i), by rw [List.getElem?_map, List.getElem?_range hi]; rfl, .refl s2, .sc (.int _)⟩
theorem itm_rev {a : Addr} {vs : List V} {ds : List D} (h : ∀ F' H', Same F F' → Same F' H' → SqL K H' a vs) (r : RepL K R F H vs ds []) : Itm K R F (Itv K a vs.length) ds.reverse := by
  intro F2 H2 s1 s2
  have sq := h F2 H2 s1 s2
  have hl := r.length
  refine ⟨fun i hi => ?_, by show vs.length ≤ _; rw [List.length_reverse, hl]; exact Nat.le_refl _⟩
  rw [List.length_reverse] at hi
  have hd : ds[ds.length - 1 - i]? = some ds[ds.length - 1 - i] := List.getElem?_eq_getElem (by omega)
  obtain ⟨v, B', hv, rv, sl⟩ := r.get hd
  rw [← hl] at hv
  refine ⟨⟨by omega, vs, v, sq, hv⟩, fun x H' y => ?_⟩
  obtain ⟨rfl, hx⟩ := y
  have e := hx vs sq
  rw [hv] at e; cases e
  have eB : B' = [] := List.eq_nil_of_subset_nil fun a ha => sl.mem ha
  subst eB
  exact ⟨F2, _, by rw [List.getElem?_reverse (by omega)]; exact hd, .refl s2, rv.mono s1 fun a ha => by cases ha⟩
def enumL : Nat → List D → List D
  | _, [] => []
  | i, d :: r => .tup [.int (i : Nat), d] :: enumL (i + 1) r
theorem enumL_get : ∀ (ds : List D) (k i : Nat), (enumL k ds)[i]? = (ds[i]?).map fun d => D.tup [.int ((k + i : Nat) : Int), d]
  | [], _, _ => by simp [enumL]
  | d :: r, k, 0 => by simp [enumL]
  | d :: r, k, i + 1 => by
    rw [enumL, List.getElem?_cons_succ, List.getElem?_cons_succ, enumL_get r (k + 1) i]
    rw [show k + 1 + i = k + (i + 1) by omega]
theorem enumL_len : ∀ (ds : List D) (k : Nat), (enumL k ds).length = ds.length
  | [], _ => rfl
  | _ :: r, k => by rw [enumL, List.length_cons, List.length_cons, enumL_len r]
theorem itm_enum {a : Addr} {vs : List V} {ds : List D} (h : ∀ F' H', Same F F' → Same F' H' → SqL K H' a vs) (r : RepL K R F H vs ds []) : Itm K R F (Ite K a) (enumL 0 ds) := by
  intro F2 H2 s1 s2
  have sq := h F2 H2 s1 s2
  refine ⟨fun i hi => ?_, ⟨vs, sq, by rw [r.length, enumL_len]; exact Nat.le_refl _⟩⟩
  rw [enumL_len] at hi
  have hd : ds[i]? = some ds[i] := List.getElem?_eq_getElem hi
  obtain ⟨v, B', hv, rv, sl⟩ := r.get hd
  refine ⟨⟨vs, v, sq, hv⟩, fun x H' y => ?_⟩
  obtain ⟨T, x, rfl, hT, rfl, hx⟩ := y
  have e := hx vs sq
  rw [hv] at e; cases e
  have eB : B' = [] := List.eq_nil_of_subset_nil fun a ha => sl.mem ha
  subst eB
  have g : Grow F2 H2 (upd F2 T (.tup [.int (i : Nat), v])) (upd H2 T (.tup [.int (i : Nat), v])) := Grow.newF s2 hT
  refine ⟨_, .tup [.int (i : Nat), ds[i]], by rw [enumL_get, hd, Nat.zero_add]; rfl, g, ?_⟩
  have r2 : RepL K R (upd F2 T (.tup [.int (i : Nat), v])) (upd H2 T (.tup [.int (i : Nat), v])) [.int (i : Nat), v] [.int (i : Nat), ds[i]] [] :=
    .cons (A := []) (B := []) (.sc (.int _)) (.cons (A := []) (B := []) (rv.mono (s1.trans g.ff) fun a ha => by cases ha) .nil)
  exact .fz (k := .tup) (.inl upd_same) r2 (.inl ⟨rfl, upd_same⟩)
theorem itm_zip {a b : Addr} {vs ws : List V} {ds es : List D} (h : ∀ F' H', Same F F' → Same F' H' → SqL K H' a vs) (h' : ∀ F' H', Same F F' → Same F' H' → SqL K H' b ws) (r : RepL K R F H vs ds []) (r' : RepL K R F H ws es []) :
    Itm K R F (Itz K a b) ((ds.zip es).map fun p => D.tup [p.1, p.2]) := by
  intro F2 H2 s1 s2
  have sq := h F2 H2 s1 s2
  have sq' := h' F2 H2 s1 s2
  refine ⟨fun i hi => ?_, ⟨vs, ws, sq, sq', ?_⟩⟩
  · rw [List.length_map, List.length_zip] at hi
    have hd : ds[i]? = some ds[i] := List.getElem?_eq_getElem (by omega)
    have he : es[i]? = some es[i] := List.getElem?_eq_getElem (by omega)
    obtain ⟨v, B', hv, rv, sl⟩ := r.get hd
    obtain ⟨w, B2, hw, rw', sl2⟩ := r'.get he
    refine ⟨⟨vs, ws, v, w, sq, sq', hv, hw⟩, fun x H' y => ?_⟩
    obtain ⟨T, x, y, rfl, hT, rfl, hx, hy⟩ := y
    have e := hx vs sq
    rw [hv] at e; cases e
    have e := hy ws sq'
    rw [hw] at e; cases e
    have eB : B' = [] := List.eq_nil_of_subset_nil fun a ha => sl.mem ha
    have eB2 : B2 = [] := List.eq_nil_of_subset_nil fun a ha => sl2.mem ha
    subst eB eB2
    have g : Grow F2 H2 (upd F2 T (.tup [v, w])) (upd H2 T (.tup [v, w])) := Grow.newF s2 hT
    refine ⟨_, .tup [ds[i], es[i]], by rw [List.getElem?_map, show (ds.zip es)[i]? = some (ds[i], es[i]) from List.getElem?_zip_eq_some.mpr ⟨hd, he⟩]; rfl, g, ?_⟩
    have r2 : RepL K R (upd F2 T (.tup [v, w])) (upd H2 T (.tup [v, w])) [v, w] [ds[i], es[i]] [] :=
      .cons (A := []) (B := []) (rv.mono (s1.trans g.ff) fun a ha => by cases ha) (.cons (A := []) (B := []) (rw'.mono (s1.trans g.ff) fun a ha => by cases ha) .nil)
    exact .fz (k := .tup) (.inl upd_same) r2 (.inl ⟨rfl, upd_same⟩)
  · rw [List.length_map, List.length_zip, r.length, r'.length]
    omega
end

/-- a list's items, once it is given up -/
def lsD : D → (List D → Prop) → Prop
  | .nd (.lst o) ds, Q => Q (if o = true then frzL ds else ds)
  | .nd .scr ds, Q => Q ds
  | _, _ => False
def dRg1 (ta : TAd) : TId := fun env Q E => ta env (fun ds => match ds with
  | [.sc (.int j)] => -(2 ^ 62) ≤ j ∧ j < 2 ^ 62 ∧ Q ((List.range j.toNat).map fun (k : Nat) => .int (k : Int))
  | _ => False) E
def dRg2 (ta : TAd) : TId := fun env Q E => ta env (fun ds => match ds with
  | [.sc (.int i), .sc (.int j)] => (-(2 ^ 62) ≤ i ∧ i < 2 ^ 62 ∧ -(2 ^ 62) ≤ j ∧ j < 2 ^ 62) ∧ Q ((List.range (j - i).toNat).map fun (k : Nat) => .int (i + (k : Int)))
  | _ => False) E
def dEnum (te : TEd) : TId := fun env Q E => te env (fun b d => safe b d ∧ lsD d fun ds => Q (enumL 0 ds)) E
def dRev (te : TEd) : TId := fun env Q E => te env (fun b d => safe b d ∧ lsD d fun ds => Q ds.reverse) E
def dZip (ta tb : TEd) : TId := fun env Q E => ta env (fun b d => safe b d ∧ tb env (fun b2 e => safe b2 e ∧ lsD d fun ds => lsD e fun es => Q ((ds.zip es).map fun p => D.tup [p.1, p.2])) E) E
def dLRev (te : TEd) : TEd := fun env Q E => te env (fun b d => match d with
  | .nd (.lst o) ds => stb (.lst o) ds = true ∧ Q false (.lst true ds.reverse)
  | .nd .scr ds => Q false (.lst true ds.reverse)
  | _ => False) E
section
variable {X : Cx} {R : RT} {tg e : Expr} {es : List Expr} {te : TEd} {ta : TAd}
theorem RepL.reverse {K : PySem.W.Frag} {F H : Hp} {vs : List V} {ds : List D} (r : RepL K R F H vs ds []) : RepL K R F H vs.reverse ds.reverse [] := by
  induction ds generalizing vs with
  | nil => cases r; exact .nil
  | cons d t ih =>
    generalize hA : ([] : List Addr) = A0 at r
    cases r with
    | cons a b =>
      obtain ⟨z1, z2⟩ := List.append_eq_nil_iff.mp hA.symm
      subst z1 z2
      rw [List.reverse_cons, List.reverse_cons]
      exact RepL.append (A := []) (B := []) (ih b) (.cons (A := []) (B := []) a .nil)
theorem lsD_of {K : PySem.W.Frag} {F H : Hp} {v : V} {d : D} {Q : List D → Prop} (r : Rep K R F H v (frz d) []) (s : Same F H) (h : lsD d Q) : ∃ a vs ds, v = .ref a ∧ RepL K R F H vs ds [] ∧ Q ds ∧ (∀ F' H', Same F F' → Same F' H' → SqL K H' a vs) := by
  have nilA : ∀ {k : Kind} {ds : List D}, Rep K R F H v (.nd k ds) [] → k.isL = true → k.cold = true → ∃ a vs, v = .ref a ∧ RepL K R F H vs ds [] ∧ (∀ F' H', Same F F' → Same F' H' → SqL K H' a vs) := fun {k ds} r hk hc => by
    generalize hA : ([] : List Addr) = A0 at r
    cases r with
    | fz h1 h2 h3 =>
      subst hA
      refine ⟨_, _, rfl, h2, fun F' H' s1 s2 => ?_⟩
      cases k with
      | lst o => exact SqL.of (s2 _ _ (s1 _ _ h1.2))
      | scr => exact s2.seq (s1.seq h1)
      | _ => cases hk
    | ow h1 h2 h3 => cases hA
  unfold lsD at h
  split at h
  · rename_i o ds
    cases o with
    | true =>
      rw [frz, if_neg (by decide)] at r
      obtain ⟨a, vs, e, r2, q⟩ := nilA r rfl rfl
      exact ⟨a, vs, _, e, r2, by simpa using h, q⟩
    | false =>
      rw [frz, if_pos (by rfl)] at r
      obtain ⟨a, vs, e, r2, q⟩ := nilA r rfl rfl
      exact ⟨a, vs, _, e, r2, by simpa using h, q⟩
  · rw [frz, if_pos (by rfl)] at r
    obtain ⟨a, vs, e, r2, q⟩ := nilA r rfl rfl
    exact ⟨a, vs, _, e, r2, h, q⟩
  · exact h.elim
theorem di_it (h : DE X R e te) : DI X R tg e (dIt te) := fun W tk => by
  obtain ⟨_, a1, a2⟩ := h W tk
  refine ⟨_, pi_sq a1, fun F H σ env As Q Qd Ed s er h q x => a2 F H σ env As _ _ Ed s er h (fun F1 H1 v d B b g1 r1 f1 hq => ?_) x⟩
  obtain ⟨sf, hq⟩ := hq
  obtain ⟨F', gv, _, g2, s12⟩ := give (K := X.K) (R := R) g1.fh g1 (Fresh.of_safe r1 f1 sf)
  have rz := gv v d r1
  have lst : lsD d Qd → (∃ a, v = .ref a ∧ (∃ xs, SqL X.K H1 a xs) ∧ Q (Itl X.K a) H1) := fun hq => by
    obtain ⟨a, vs, ds, e, r2, h2, h3⟩ := lsD_of rz g2.fh hq
    exact ⟨a, e, ⟨vs, h3 F' H1 (.refl _) g2.fh⟩, q F' H1 _ ds g2 (itm_list h3 r2) h2⟩
  unfold itD at hq
  split at hq
  · cases r1
    exact .inr (.inr ⟨_, rfl, q F1 H1 _ _ g1 itm_str hq⟩)
  · exact .inl (lst hq)
  · exact .inl (lst hq)
  · refine .inr (.inl ?_)
    rw [frz, if_neg (by decide)] at rz
    generalize hA : ([] : List Addr) = A0 at rz
    cases rz with
    | fz h1 h2 h3 =>
      subst hA
      exact ⟨_, rfl, ⟨_, (TupAt.mono g2.fh h1).sq⟩, q F' H1 _ _ g2 (itm_tup (fun F2 H2 s1 s2 => ((TupAt.mono s1 h1).mono s2).sq) h2) hq⟩
    | ow h1 h2 h3 => cases hA
  · exact hq.elim
theorem di_range1 {p pos : Pos} (hg : Gl X "range") (hm : X.mg "range" = none) (ha : DA X R [e] ta) (hs : starEach [e] X.env = [(false, eval e X.env)] := by rfl) : DI X R tg (.Call (.Name "range" p) [e] [] pos) (dRg1 ta) := fun W tk => by
  obtain ⟨_, a1, a2⟩ := ha W tk
  refine ⟨_, pi_range1 hg hm a1 hs, fun F H σ env As Q Qd Ed s er h q x => a2 F H σ env As _ _ Ed s er h (fun F1 H1 vs ds B g1 r1 f1 hq => ?_) x⟩
  split at hq
  · obtain ⟨v, rfl, rx⟩ := repl1 r1
    cases rx
    refine ⟨_, rfl, hq.1, hq.2.1, q F1 H1 _ _ g1 itm_range ?_⟩
    simpa using hq.2.2
  · exact hq.elim
theorem di_range2 {a b : Expr} {p pos : Pos} (hg : Gl X "range") (hm : X.mg "range" = none) (ha : DA X R [a, b] ta) (hs : starEach [a, b] X.env = [(false, eval a X.env), (false, eval b X.env)] := by rfl) (hs2 : starEach [b] X.env = [(false, eval b X.env)] := by rfl) :
    DI X R tg (.Call (.Name "range" p) [a, b] [] pos) (dRg2 ta) := fun W tk => by
  obtain ⟨_, a1, a2⟩ := ha W tk
  refine ⟨_, pi_range2 hg hm a1 hs hs2, fun F H σ env As Q Qd Ed s er h q x => a2 F H σ env As _ _ Ed s er h (fun F1 H1 vs ds B g1 r1 f1 hq => ?_) x⟩
  split at hq
  · obtain ⟨v, w, A, C, rfl, rx, ry⟩ := repl2 r1
    cases rx; cases ry
    exact ⟨_, _, rfl, hq.1, q F1 H1 _ _ g1 itm_range hq.2⟩
  · exact hq.elim
theorem di_enum {p pos tpos : Pos} {elts : List Expr} {kk : Nat} (hg : Gl X "enumerate") (hm : X.mg "enumerate" = none) (ha : DE X R e te) (hs : starEach [e] X.env = [(false, eval e X.env)] := by rfl) :
    DI X R (.Tuple elts kk tpos) (.Call (.Name "enumerate" p) [e] [] pos) (dEnum te) := fun W tk => by
  obtain ⟨_, a1, a2⟩ := ha W tk
  refine ⟨_, pi_enum hg hm (pa_cons a1 pa_nil hs) hs, fun F H σ env As Q Qd Ed s er h q x => a2 F H σ env As _ _ Ed s er h (fun F1 H1 v d B b g1 r1 f1 hq => ?_) x⟩
  obtain ⟨sf, hq⟩ := hq
  obtain ⟨F', gv, _, g2, s12⟩ := give (K := X.K) (R := R) g1.fh g1 (Fresh.of_safe r1 f1 sf)
  obtain ⟨a, vs, ds, e, r2, h2, h3⟩ := lsD_of (gv v d r1) g2.fh hq
  subst e
  exact ⟨a, vs, rfl, h3 F' H1 (.refl _) g2.fh, q F' H1 _ _ g2 (itm_enum h3 r2) h2⟩
theorem di_rev {p pos : Pos} (hg : Gl X "reversed") (hm : X.mg "reversed" = none) (ha : DE X R e te) (hs : starEach [e] X.env = [(false, eval e X.env)] := by rfl) :
    DI X R tg (.Call (.Name "reversed" p) [e] [] pos) (dRev te) := fun W tk => by
  obtain ⟨_, a1, a2⟩ := ha W tk
  refine ⟨_, pi_reversed hg hm (pa_cons a1 pa_nil hs) hs, fun F H σ env As Q Qd Ed s er h q x => a2 F H σ env As _ _ Ed s er h (fun F1 H1 v d B b g1 r1 f1 hq => ?_) x⟩
  obtain ⟨sf, hq⟩ := hq
  obtain ⟨F', gv, _, g2, s12⟩ := give (K := X.K) (R := R) g1.fh g1 (Fresh.of_safe r1 f1 sf)
  obtain ⟨a, vs, ds, e, r2, h2, h3⟩ := lsD_of (gv v d r1) g2.fh hq
  subst e
  exact ⟨a, vs, rfl, h3 F' H1 (.refl _) g2.fh, q F' H1 _ _ g2 (itm_rev h3 r2) h2⟩
theorem di_zip {e2 : Expr} {te2 : TEd} {p pos tpos : Pos} {elts : List Expr} {kk : Nat} (hg : Gl X "zip") (hm : X.mg "zip" = none) (ha : DE X R e te) (hb : DE X R e2 te2)
    (hs : starEach [e, e2] X.env = (false, eval e X.env) :: starEach [e2] X.env := by rfl) (hs2 : starEach [e2] X.env = [(false, eval e2 X.env)] := by rfl) (hpl : (backTo pos (starEach [e2] X.env)).any (·.1) = false := by rfl) :
    DI X R (.Tuple elts kk tpos) (.Call (.Name "zip" p) [e, e2] [] pos) (dZip te te2) := fun W tk => by
  obtain ⟨_, a1, a2⟩ := ha W tk
  obtain ⟨_, b1, b2⟩ := hb W tk
  refine ⟨_, pi_zip hg hm (pa_cons a1 (pa_cons b1 pa_nil hs2) hs) hs hpl, fun F H σ env As Q Qd Ed s er h q x => a2 F H σ env As _ _ Ed s er h (fun F1 H1 v d B b g1 r1 f1 hq => ?_) x⟩
  obtain ⟨sf, hq⟩ := hq
  obtain ⟨F', gv, _, g2, s12⟩ := give (K := X.K) (R := R) g1.fh g1 (Fresh.of_safe r1 f1 sf)
  refine b2 F' H1 σ env As _ _ Ed g2.fh (er.grow g2) hq (fun F3 H3 w e3 C b3 g3 r3 f3 hq => ?_) (x.grow g2)
  obtain ⟨sf3, hq⟩ := hq
  obtain ⟨F4, gv4, _, g4, s34⟩ := give (K := X.K) (R := R) g3.fh g3 (Fresh.of_safe r3 f3 sf3)
  obtain ⟨a, vs, ds, e, ra, hq, ha3⟩ := lsD_of ((gv v d r1).grow g4) g4.fh hq
  obtain ⟨b', ws, es, e', rb, hq, hb3⟩ := lsD_of (gv4 w e3 r3) g4.fh hq
  subst e e'
  exact ⟨a, b', vs, ws, rfl, ha3 F4 H3 (.refl _) g4.fh, hb3 F4 H3 (.refl _) g4.fh, q F4 H3 _ _ (g2.trans g4) (itm_zip ha3 hb3 ra rb) hq⟩
theorem de_lstRev {p p2 pos pos2 : Pos} (hc : X.calm = true) (hg : Gl X "list") (hm : X.mg "list" = none) (hg2 : Gl X "reversed") (hm2 : X.mg "reversed" = none) (he : DE X R e te)
    (hs : starEach [e] X.env = (false, eval e X.env) :: starEach [] X.env := by rfl)
    (hs2 : starEach [.Call (.Name "reversed" p2) [e] [] pos2] X.env = (false, eval (.Call (.Name "reversed" p2) [e] [] pos2) X.env) :: starEach [] X.env := by rfl) :
    DE X R (.Call (.Name "list" p) [.Call (.Name "reversed" p2) [e] [] pos2] [] pos) (dLRev te) := fun W tk => by
  obtain ⟨_, a1, a2⟩ := he W tk
  refine ⟨_, pe_lstRev hc hg hm hg2 hm2 a1 hs hs2, fun F H σ env As Q Qd Ed s er h q x => a2 F H σ env As _ _ Ed s er h (fun F1 H1 v d B b g1 r1 f1 hq => ?_) x⟩
  split at hq
  · obtain ⟨a, vs, B', rfl, r2, _, q1, _, z⟩ := nd_ref r1 g1.fh
    have e := z hq.1
    subst e
    exact ⟨a, vs, rfl, q1 rfl, fun p hp => new_list (K := X.K) (R := R) (Qd := Qd false) g1.fh r2.reverse (fun F2 H2 v2 z2 C g2 r2 f2 hz => q F2 H2 v2 z2 C false (g1.trans g2) r2 (fun _ => f2.back g1) hz) hq.2 hp⟩
  · obtain ⟨a, vs, B', rfl, r2, _, q1, _, z⟩ := nd_ref r1 g1.fh
    have e := z rfl
    subst e
    exact ⟨a, vs, rfl, q1 rfl, fun p hp => new_list (K := X.K) (R := R) (Qd := Qd false) g1.fh r2.reverse (fun F2 H2 v2 z2 C g2 r2 f2 hz => q F2 H2 v2 z2 C false (g1.trans g2) r2 (fun _ => f2.back g1) hz) hq hp⟩
  · exact hq.elim
end
end DL

set_option Elab.async false
set_option linter.all false
set_option maxRecDepth 100000
set_option maxHeartbeats 1000000
namespace DL
open PySem PySem.Spec L2

/-! ## places within what a slot owns -/
inductive Walk (R : RT) (H : Hp) : V → List Nat → V → Prop
  | nil (v : V) : Walk R H v [] v
  | lst {a : Addr} {vs : List V} {j : Nat} {v w : V} {p : List Nat} : H a = some (.lst vs) → vs[j]? = some v → Walk R H v p w → Walk R H (.ref a) (j :: p) w
  | tup {a : Addr} {vs : List V} {j : Nat} {v w : V} {p : List Nat} : H a = some (.tup vs) → vs[j]? = some v → Walk R H v p w → Walk R H (.ref a) (j :: p) w
  | dct {a : Addr} {ks : List DK} {vs : List V} {j : Nat} {v w : V} {p : List Nat} : H a = some (.dK (zipK ks vs)) → ks.length = vs.length → vs[j]? = some v → Walk R H v p w → Walk R H (.ref a) (j :: p) w
  | ins {a dx : Addr} {c : Nat} {vs : List V} {j : Nat} {v w : V} {p : List Nat} : H a = some (.ins (R.cls c) dx ((R.lay c).zip vs)) → vs.length ≤ (R.lay c).length → vs[j]? = some v → Walk R H v p w → Walk R H (.ref a) (j :: p) w
theorem Walk.grow {R : RT} {H H' : Hp} (s : Same H H') {v w : V} {p : List Nat} (h : Walk R H v p w) : Walk R H' v p w := by
  induction h with
  | nil v => exact .nil v
  | lst h1 h2 _ ih => exact .lst (s _ _ h1) h2 ih
  | tup h1 h2 _ ih => exact .tup (s _ _ h1) h2 ih
  | dct h1 h2 h3 _ ih => exact .dct (s _ _ h1) h2 h3 ih
  | ins h1 h2 h3 _ ih => exact .ins (s _ _ h1) h2 h3 ih
theorem Walk.snoc {R : RT} {H : Hp} {v w u : V} {p q : List Nat} (h : Walk R H v p w) (h2 : Walk R H w q u) : Walk R H v (p ++ q) u := by
  induction h with
  | nil v => exact h2
  | lst a b _ ih => exact .lst a b (ih h2)
  | tup a b _ ih => exact .tup a b (ih h2)
  | dct a b c _ ih => exact .dct a b c (ih h2)
  | ins a b c _ ih => exact .ins a b c (ih h2)
def getP : List Nat → D → Option D
  | [], d => some d
  | j :: p, d => match d with
    | .nd k ds => if fz (.nd k ds) = true then none else (ds[j]?).bind (getP p)
    | .sc _ => none
def setP : List Nat → D → D → D
  | [], _, x => x
  | j :: p, d, x => match d with
    | .nd k ds => match ds[j]? with
      | some dj => .nd k (ds.set j (setP p dj x))
      | none => d
    | .sc _ => d
theorem getP_app : ∀ (p q : List Nat) (d : D), getP (p ++ q) d = (getP p d).bind (getP q)
  | [], q, d => rfl
  | j :: p, q, d => by
    cases d with
    | sc s => rfl
    | nd k ds =>
      rw [List.cons_append, getP, getP]
      by_cases h : fz (.nd k ds) = true
      · rw [if_pos h, if_pos h]; rfl
      · rw [if_neg h, if_neg h]
        cases ds[j]? with
        | none => rfl
        | some dj => exact getP_app p q dj
theorem zip_snd {α β : Type} : ∀ {xs : List α} {ys : List β}, ys.length ≤ xs.length → (xs.zip ys).map (·.2) = ys
  | _, [], _ => by simp
  | [], _ :: _, h => by simp at h
  | x :: xs, y :: ys, h => by
    rw [List.zip_cons_cons, List.map_cons, zip_snd (by simpa using h)]
section
variable {K : PySem.W.Frag} {R : RT} {F H : Hp}
theorem RepL.at {vs : List V} {ds : List D} {A : List Addr} (r : RepL K R F H vs ds A) {j : Nat} {v : V} {d : D} (hv : vs[j]? = some v) (hd : ds[j]? = some d) :
    ∃ A1 Aj A2, A = A1 ++ (Aj ++ A2) ∧ Rep K R F H v d Aj ∧ ∀ H' d' Aj', (∀ b, b ∈ A1 ∨ b ∈ A2 → H' b = H b) → Rep K R F H' v d' Aj' → RepL K R F H' vs (ds.set j d') (A1 ++ (Aj' ++ A2)) := by
  induction ds generalizing vs A j with
  | nil => simp at hd
  | cons d0 t ih =>
    cases r with
    | cons r1 r2 =>
      rename_i v0 A0 vs0 B0
      cases j with
      | zero =>
        simp at hv hd
        subst hv hd
        refine ⟨[], A0, B0, rfl, r1, fun H' d' Aj' hb r' => ?_⟩
        exact RepL.cons (A := Aj') (B := B0) r' (r2.mono (.refl _) fun a ha => ⟨hb a (.inr ha), (r2.own a ha).2⟩)
      | succ j =>
        obtain ⟨A1, Aj, A2, e, ra, k⟩ := ih r2 (by simpa using hv) (by simpa using hd)
        refine ⟨A0 ++ A1, Aj, A2, by rw [e, List.append_assoc], ra, fun H' d' Aj' hb r' => ?_⟩
        have q := k H' d' Aj' (fun b h => hb b (h.imp (List.mem_append_right _) id)) r'
        rw [List.append_assoc, List.set_cons_succ]
        exact .cons (r1.mono (.refl _) fun a ha => ⟨hb a (.inl (List.mem_append_left _ ha)), (r1.own a ha).2⟩) q
/-- a child of a node that is not given up -/
theorem child {v : V} {k : Kind} {ds : List D} {A : List Addr} (r : Rep K R F H v (.nd k ds) A) (s : Same F H) (hf : ¬ fz (.nd k ds) = true) {j : Nat} {p : List Nat} {w : V} (wk : Walk R H v (j :: p) w) {d : D} (hd : ds[j]? = some d) :
    ∃ (a : Addr) (vs : List V) (v1 : V) (A1 Aj A2 A0 : List Addr), v = .ref a ∧ vs[j]? = some v1 ∧ Walk R H v1 p w ∧ A = A0 ++ (A1 ++ (Aj ++ A2)) ∧ Rep K R F H v1 d Aj ∧
      ∀ H' d' Aj', (∀ b, b ∈ A0 ∨ b ∈ A1 ∨ b ∈ A2 → H' b = H b) → Rep K R F H' v1 d' Aj' → Rep K R F H' v (.nd k (ds.set j d')) (A0 ++ (A1 ++ (Aj' ++ A2))) := by
  cases r with
  | fz h1 h2 h3 =>
    rename_i a vs
    rcases h3 with ⟨hk, e⟩ | e
    · subst hk
      have e' := s _ _ e
      have : ∃ v1, vs[j]? = some v1 ∧ Walk R H v1 p w := by
        cases wk with
        | lst q1 q2 q3 => rw [e'] at q1; cases q1
        | tup q1 q2 q3 => rw [e'] at q1; cases q1; exact ⟨_, q2, q3⟩
        | dct q1 q2 q3 q4 => rw [e'] at q1; cases q1
        | ins q1 q2 q3 q4 => rw [e'] at q1; cases q1
      obtain ⟨v1, hv, wk1⟩ := this
      obtain ⟨A1, Aj, A2, eA, rj, k⟩ := h2.at hv hd
      refine ⟨a, vs, v1, A1, Aj, A2, [], rfl, hv, wk1, by rw [eA]; rfl, rj, fun H' d' Aj' hb r' => ?_⟩
      exact .fz h1 (k H' d' Aj' (fun b h => hb b (.inr h)) r') (.inl ⟨rfl, e⟩)
    · subst e
      exact absurd ((Rep.fz h1 h2 (.inr rfl) : Rep K R F H _ (.nd k ds) []).fzOf rfl) hf
  | ow h1 h2 h3 =>
    rename_i a vs A'
    have hv : ∃ v1, vs[j]? = some v1 ∧ Walk R H v1 p w := by
      cases k with
      | scr => exact h1.elim
      | tup => exact h1.elim
      | lst o =>
        have e := h1.2
        cases wk with
        | lst q1 q2 q3 => rw [e] at q1; cases q1; exact ⟨_, q2, q3⟩
        | tup q1 q2 q3 => rw [e] at q1; cases q1
        | dct q1 q2 q3 q4 => rw [e] at q1; cases q1
        | ins q1 q2 q3 q4 => rw [e] at q1; cases q1
      | dct o ks =>
        have e := h1.2.2
        cases wk with
        | lst q1 q2 q3 => rw [e] at q1; cases q1
        | tup q1 q2 q3 => rw [e] at q1; cases q1
        | dct q1 q2 q3 q4 =>
          rename_i ks2 vs2 v1
          rw [e] at q1
          have z : zipK ks vs = zipK ks2 vs2 := HO.dK.inj (Option.some.inj q1)
          have z2 := congrArg (List.map (·.2)) z
          unfold zipK at z2
          rw [zip_snd (by rw [List.length_map, h1.2.1]; exact Nat.le_refl _), zip_snd (by rw [List.length_map, q2]; exact Nat.le_refl _)] at z2
          exact ⟨_, by rw [z2]; exact q3, q4⟩
        | ins q1 q2 q3 q4 => rw [e] at q1; cases q1
      | dcT o ks =>
        have e := h1.2.2
        cases wk with
        | lst q1 q2 q3 => rw [e] at q1; cases q1
        | tup q1 q2 q3 => rw [e] at q1; cases q1
        | dct q1 q2 q3 q4 => rw [e] at q1; cases q1
        | ins q1 q2 q3 q4 => rw [e] at q1; cases q1
      | ins o c =>
        obtain ⟨_, hl, dx, e⟩ := h1
        cases wk with
        | lst q1 q2 q3 => rw [e] at q1; cases q1
        | tup q1 q2 q3 => rw [e] at q1; cases q1
        | dct q1 q2 q3 q4 => rw [e] at q1; cases q1
        | ins q1 q2 q3 q4 =>
          rw [e] at q1
          have z := (HO.ins.inj (Option.some.inj q1)).2.2
          have z2 := congrArg (List.map (·.2)) z
          rw [zip_snd hl, zip_snd q2] at z2
          exact ⟨_, by rw [z2]; exact q3, q4⟩
    obtain ⟨v1, hv, wk1⟩ := hv
    obtain ⟨A1, Aj, A2, eA, rj, k⟩ := h3.at hv hd
    refine ⟨a, vs, v1, A1, Aj, A2, [a], rfl, hv, wk1, by rw [eA]; rfl, rj, fun H' d' Aj' hb r' => ?_⟩
    exact .ow (h1.at (hb a (.inl (List.mem_singleton.mpr rfl)))) h2 (k H' d' Aj' (fun b h => hb b (.inr h)) r')
theorem focus : ∀ (p : List Nat) {v w : V} {d dp : D} {A : List Addr}, Rep K R F H v d A → Same F H → getP p d = some dp → Walk R H v p w →
    ∃ Ap, Rep K R F H w dp Ap ∧ (∀ b ∈ Ap, b ∈ A) ∧ (A.Nodup → Ap.Nodup ∧ ∀ H' dp' Ap', (∀ b ∈ A, b ∉ Ap → H' b = H b) → Rep K R F H' w dp' Ap' → (∀ b ∈ Ap', b ∈ Ap ∨ b ∉ A) → Ap'.Nodup →
      ∃ A', Rep K R F H' v (setP p d dp') A' ∧ A'.Nodup ∧ ∀ b ∈ A', (b ∈ A ∧ b ∉ Ap) ∨ b ∈ Ap')
  | [], v, w, d, dp, A, r, s, hg, wk => by
    cases wk
    cases hg
    exact ⟨A, r, fun b h => h, fun nd => ⟨nd, fun H' dp' Ap' _ r' _ n' => ⟨Ap', r', n', fun b h => .inr h⟩⟩⟩
  | j :: p, v, w, d, dp, A, r, s, hg, wk => by
    cases d with
    | sc x => cases hg
    | nd k ds =>
      rw [getP] at hg
      by_cases hf : fz (.nd k ds) = true
      · rw [if_pos hf] at hg; cases hg
      · rw [if_neg hf] at hg
        cases hd : ds[j]? with
        | none => rw [hd] at hg; cases hg
        | some dj =>
          rw [hd] at hg
          have hg : getP p dj = some dp := hg
          obtain ⟨a, vs, v1, A1, Aj, A2, A0, ev, hv, wk1, eA, rj, kk⟩ := child r s hf wk hd
          obtain ⟨Ap, r1, sub, k2⟩ := focus p rj s hg wk1
          refine ⟨Ap, r1, fun b h => by rw [eA]; exact List.mem_append_right _ (List.mem_append_right _ (List.mem_append_left _ (sub b h))), fun nd => ?_⟩
          rw [eA] at nd
          obtain ⟨n0, nr, d0⟩ := List.nodup_append.mp nd
          obtain ⟨n1, nr2, d1⟩ := List.nodup_append.mp nr
          obtain ⟨nj, n2, d2⟩ := List.nodup_append.mp nr2
          obtain ⟨nAp, k3⟩ := k2 nj
          refine ⟨nAp, fun H' dp' Ap' hb r' hA' nA' => ?_⟩
          have inA : ∀ b, b ∈ Aj → b ∈ A := fun b h => by rw [eA]; exact List.mem_append_right _ (List.mem_append_right _ (List.mem_append_left _ h))
          have out0 : ∀ b, b ∈ A0 → b ∉ Aj := fun b h z => d0 b h b (List.mem_append_right _ (List.mem_append_left _ z)) rfl
          have out1 : ∀ b, b ∈ A1 → b ∉ Aj := fun b h z => d1 b h b (List.mem_append_left _ z) rfl
          have out2 : ∀ b, b ∈ A2 → b ∉ Aj := fun b h z => d2 b z b h rfl
          obtain ⟨Aj', rj', nj', sj'⟩ := k3 H' dp' Ap' (fun b h hn => hb b (inA b h) hn) r' (fun b h => (hA' b h).imp id fun z y => z (inA b y)) nA'
          have outsj : ∀ b, b ∈ Aj' → b ∈ Aj ∨ b ∉ A := fun b h => by
            rcases sj' b h with z | z
            · exact .inl z.1
            · rcases hA' b z with y | y
              · exact .inl (sub b y)
              · exact .inr y
          have m0 : ∀ b, b ∈ A0 → b ∈ A := fun b h => by rw [eA]; exact List.mem_append_left _ h
          have m1 : ∀ b, b ∈ A1 → b ∈ A := fun b h => by rw [eA]; exact List.mem_append_right _ (List.mem_append_left _ h)
          have m2 : ∀ b, b ∈ A2 → b ∈ A := fun b h => by rw [eA]; exact List.mem_append_right _ (List.mem_append_right _ (List.mem_append_right _ h))
          refine ⟨A0 ++ (A1 ++ (Aj' ++ A2)), ?_, ?_, ?_⟩
          · rw [setP]
            simp only [hd]
            refine kk H' _ Aj' (fun b h => ?_) rj'
            rcases h with h | h | h
            · exact hb b (m0 b h) fun z => out0 b h (sub b z)
            · exact hb b (m1 b h) fun z => out1 b h (sub b z)
            · exact hb b (m2 b h) fun z => out2 b h (sub b z)
          · refine List.nodup_append.mpr ⟨n0, List.nodup_append.mpr ⟨n1, List.nodup_append.mpr ⟨nj', n2, fun x hx y hy e => ?_⟩, fun x hx y hy e => ?_⟩, fun x hx y hy e => ?_⟩
            · subst e
              rcases outsj x hx with z | z
              · exact out2 x hy z
              · exact z (m2 x hy)
            · subst e
              rcases List.mem_append.mp hy with hy | hy
              · rcases outsj x hy with z | z
                · exact out1 x hx z
                · exact z (m1 x hx)
              · exact d1 x hx x (List.mem_append_right _ hy) rfl
            · subst e
              rcases List.mem_append.mp hy with hy | hy
              · exact d0 x hx x (List.mem_append_left _ hy) rfl
              · rcases List.mem_append.mp hy with hy | hy
                · rcases outsj x hy with z | z
                  · exact out0 x hx z
                  · exact z (m0 x hx)
                · exact d0 x hx x (List.mem_append_right _ (List.mem_append_right _ hy)) rfl
          · intro b h
            rcases List.mem_append.mp h with h | h
            · exact .inl ⟨m0 b h, fun z => out0 b h (sub b z)⟩
            · rcases List.mem_append.mp h with h | h
              · exact .inl ⟨m1 b h, fun z => out1 b h (sub b z)⟩
              · rcases List.mem_append.mp h with h | h
                · rcases sj' b h with z | z
                  · exact .inl ⟨inA b z.1, z.2⟩
                  · exact .inr z
                · exact .inl ⟨m2 b h, fun z => out2 b h (sub b z)⟩
end

/-! ## a slot's thing is changed at a place -/
section
variable {K : PySem.W.Frag} {R : RT} {C : Ba} {F H : Hp} {σ : L2.St} {env : Sl} {As : Nat → List Addr}
/-- the whole of a slot becomes another thing at the same place -/
theorem Ok.mut (h : Ok K R C F H σ env As) {i : Nat} {v : V} {d d' : D} {A' : List Addr} {H' : Hp} (e : env[i]? = some (some d)) (ev : σ[i]? = some (some v)) (hH : ∀ b, b ∉ As i → H' b = H b) (ht : ∀ b ∈ As i, ∃ o, H' b = some o)
    (s : Same F H') (r : Rep K R F H' v d' A') (n : A'.Nodup) (ha : ∀ b ∈ A', b ∈ As i ∨ ((C.A0 b ∨ C.H0 b = none) ∧ ∀ j, b ∉ As j)) : Ok K R C F H' σ (env.set i (some d')) (fun j => if j = i then A' else As j) := by
  have hi : i < env.length := (List.getElem?_eq_some_iff.mp e).1
  refine ⟨⟨by simpa using h.er.len, fun j x ej => ?_, fun j hj => ?_, fun j l a hjl hj => ?_, fun j => ?_⟩, s, fun a o q nA => ?_, fun a o q => ?_, h.kf, h.fr, fun j a hj => ?_, h.pin⟩
  · by_cases hji : j = i
    · subst hji
      rw [List.getElem?_set_self hi] at ej
      cases ej
      exact ⟨v, ev, by simpa using r⟩
    · rw [List.getElem?_set_ne (Ne.symm hji)] at ej
      obtain ⟨u, e1, r1⟩ := h.er.val j x ej
      refine ⟨u, e1, ?_⟩
      simp only [if_neg hji]
      exact r1.mono (.refl _) fun a hj => ⟨hH a (h.er.dis j i a hji hj), (h.er.own hj).2⟩
  · by_cases hji : j = i
    · subst hji
      exact absurd (List.getElem?_set_self hi) (hj d')
    · simp only [if_neg hji]
      exact h.er.emp j fun x ex => hj x (by rw [List.getElem?_set_ne (Ne.symm hji)]; exact ex)
  · have apart : ∀ k, k ≠ i → ∀ a, a ∈ A' → a ∉ As k := fun k hk a hA hk' => by
      rcases ha a hA with z | z
      · exact h.er.dis i k a (Ne.symm hk) z hk'
      · exact z.2 k hk'
    by_cases h1 : j = i
    · simp only [if_pos h1] at hj
      simp only [if_neg (fun z : l = i => hjl (h1.trans z.symm))]
      exact apart l (fun z => hjl (h1.trans z.symm)) a hj
    · simp only [if_neg h1] at hj
      by_cases h2 : l = i
      · simp only [if_pos h2]
        exact fun z => apart j h1 a z hj
      · simp only [if_neg h2]
        exact h.er.dis j l a hjl hj
  · by_cases h1 : j = i
    · simp only [if_pos h1]; exact n
    · simp only [if_neg h1]; exact h.er.nod j
  · rw [hH a (fun z => ?_)]
    · exact h.kp a o q nA
    · rcases h.ow i a z with y | y
      · exact nA y
      · rw [q] at y; cases y
  · by_cases z : a ∈ As i
    · exact ht a z
    · rw [hH a z]; exact h.tr a o q
  · by_cases h1 : j = i
    · simp only [if_pos h1] at hj
      rcases ha a hj with z | z
      · exact h.ow i a z
      · exact z.1
    · simp only [if_neg h1] at hj
      exact h.ow j a hj
/-- .. at a place of it; B: new things that come in -/
theorem Ok.mutP (h : Ok K R C F H σ env As) {i : Nat} {v w : V} {d dp : D} {p : List Nat} (e : env[i]? = some (some d)) (ev : σ[i]? = some (some v)) (hg : getP p d = some dp) (wk : Walk R H v p w) :
    ∃ Ap, Rep K R F H w dp Ap ∧ (∀ b ∈ Ap, b ∈ As i) ∧ Ap.Nodup ∧ ∀ H' dp' Ap' B, Own C As B → (∀ b, b ∉ Ap → H' b = H b) → (∀ b ∈ Ap, ∃ o, H' b = some o) → Same F H' → Rep K R F H' w dp' Ap' → Ap'.Nodup → (∀ b ∈ Ap', b ∈ Ap ∨ b ∈ B) →
      ∃ As', Ok K R C F H' σ (env.set i (some (setP p d dp'))) As' ∧ ∀ j a, a ∈ As' j → (a ∈ As j ∧ a ∉ Ap) ∨ a ∈ Ap' := by
  obtain ⟨v0, e0, r⟩ := h.er.val i d e
  rw [ev] at e0
  cases e0
  obtain ⟨Ap, r1, sub, k⟩ := focus p r h.fh hg wk
  obtain ⟨nAp, k⟩ := k (h.er.nod i)
  refine ⟨Ap, r1, sub, nAp, fun H' dp' Ap' B o hb ht s r' n' hA' => ?_⟩
  obtain ⟨A', rr, nn, ss⟩ := k H' dp' Ap' (fun b _ hn => hb b hn) r' (fun b hb' => (hA' b hb').imp id fun z => o.2.2 i b z) n'
  refine ⟨_, h.mut e ev (fun b hn => hb b fun z => hn (sub b z)) (fun b hb' => ?_) s rr nn (fun b hb' => ?_), fun j a hj => ?_⟩
  · by_cases z : b ∈ Ap
    · exact ht b z
    · rw [hb b z]; exact (h.er.own hb').1
  · rcases ss b hb' with z | z
    · exact .inl z.1
    · rcases hA' b z with y | y
      · exact .inl (sub b y)
      · exact .inr ⟨o.2.1 b y, fun j => o.2.2 j b y⟩
  · by_cases h1 : j = i
    · subst h1
      simp only [if_true] at hj
      exact ss a hj
    · simp only [if_neg h1] at hj
      exact .inl ⟨hj, fun z => h.er.dis j i a h1 hj (sub a z)⟩
end
end DL

set_option Elab.async false
set_option linter.all false
set_option maxRecDepth 100000
set_option maxHeartbeats 1000000
namespace DL
open PySem PySem.Spec L2

/-! ## the place that an expression means -/
abbrev TPd := Sl → (List Nat → Prop) → (EX → Prop) → Prop
def LP (K : PySem.W.Frag) (R : RT) (W : WX) (i : Nat) (t : TE) (pd : TPd) : Prop := ∀ (F H : Hp) (σ : L2.St) (env : Sl) (As : Nat → List Addr) (Q : VK) (Qd : List Nat → Prop) (Ed : EX → Prop),
  Same F H → EnvR K R F H σ env As → pd env Qd Ed →
  (∀ F' H' v w p d dp, Grow F H F' H' → σ[i]? = some (some v) → env[i]? = some (some d) → getP p d = some dp → Walk R H' v p w → Qd p → Q w H') → ExW K R W F H σ Ed → t σ H Q
def DP (X : Cx) (R : RT) (i : Nat) (e : Expr) (pd : TPd) : Prop := ∀ W, Takes X W → ∃ t, PE X e t ∧ LP X.K R W i t pd
def atP (i : Nat) (env : Sl) (p : List Nat) (Q : D → D → Prop) : Prop := match env[i]? with
  | some (some d) => match getP p d with
    | some dp => Q d dp
    | none => False
  | _ => False
theorem atP_of {i : Nat} {env : Sl} {p : List Nat} {Q : D → D → Prop} (h : atP i env p Q) {d dp : D} (e : env[i]? = some (some d)) (g : getP p d = some dp) : Q d dp := by
  unfold atP at h
  rw [e] at h
  simp only [g] at h
  exact h
def posOf {κ : Type} [DecidableEq κ] : List κ → κ → Option Nat
  | [], _ => none
  | a :: r, k => if a = k then some 0 else (posOf r k).map (· + 1)
/-- which child a subscript means -/
def posD : D → D → (Nat → Prop) → Prop
  | .nd (.lst o) ds, .sc (.int z), Q => fz (.nd (.lst o) ds) = false ∧ ∃ j, ixN ds.length z = some j ∧ Q j
  | .nd .tup ds, .sc (.int z), Q => fz (.nd .tup ds) = false ∧ ∃ j, ixN ds.length z = some j ∧ Q j
  | .nd (.dct o ks) ds, .sc s, Q => fz (.nd (.dct o ks) ds) = false ∧ ∃ k j, keyS s = some k ∧ posOf ks k = some j ∧ Q j
  | _, _, _ => False
theorem posD_of {dp e : D} {Q : Nat → Prop} (h : posD dp e Q) : (∃ o ds z j, dp = .nd (.lst o) ds ∧ e = .int z ∧ fz (.nd (.lst o) ds) = false ∧ ixN ds.length z = some j ∧ Q j) ∨
    (∃ ds z j, dp = .nd .tup ds ∧ e = .int z ∧ fz (.nd .tup ds) = false ∧ ixN ds.length z = some j ∧ Q j) ∨
    ∃ o ks ds s k j, dp = .nd (.dct o ks) ds ∧ e = .sc s ∧ fz (.nd (.dct o ks) ds) = false ∧ keyS s = some k ∧ posOf ks k = some j ∧ Q j := by
  unfold posD at h
  split at h
  · obtain ⟨h1, j, h2, h3⟩ := h
    exact .inl ⟨_, _, _, j, rfl, rfl, h1, h2, h3⟩
  · obtain ⟨h1, j, h2, h3⟩ := h
    exact .inr (.inl ⟨_, _, j, rfl, rfl, h1, h2, h3⟩)
  · obtain ⟨h1, k, j, h2, h3, h4⟩ := h
    exact .inr (.inr ⟨_, _, _, _, k, j, rfl, rfl, h1, h2, h3, h4⟩)
  · exact h.elim
def pVar (i : Nat) : TPd := fun env Q _ => match env[i]? with
  | some (some _) => Q []
  | _ => False
def pIx (i : Nat) (pd : TPd) (te : TEd) : TPd := fun env Q E => pd env (fun p => te env (fun _ e => atP i env p fun _ dp => posD dp e fun j => Q (p ++ [j])) E) E
/-- the j-th field of an instance of the class c -/
def pFl (i : Nat) (pd : TPd) (c j : Nat) : TPd := fun env Q E => pd env (fun p => atP i env p fun _ dp => match dp with
  | .nd (.ins true c') ds => c' = c ∧ j < ds.length ∧ Q (p ++ [j])
  | _ => False) E
/-- what is known of a class of the program's own -/
structure ClsF (K : PySem.W.Frag) (R : RT) (c : Nat) : Prop where
  cls : Cls K (R.cls c)
  no : ∀ (j : Nat) (f : Str), (R.lay c)[j]? = some f → NoAttr K (R.cls c) f
  nd : (R.lay c).Nodup
  few : (R.lay c).length < 1000
theorem lookup_zip : ∀ {fs : List Str} {vs : List V} {j : Nat} {f : Str} {v : V}, fs.Nodup → fs[j]? = some f → vs[j]? = some v → (fs.zip vs).lookup f = some v
  | [], _, _, _, _, _, h, _ => by simp at h
  | _ :: _, [], _, _, _, _, _, h => by simp at h
  | g :: fs, u :: vs, 0, f, v, _, h1, h2 => by
    simp at h1 h2
    subst h1 h2
    simp [List.lookup]
  | g :: fs, u :: vs, j + 1, f, v, nd, h1, h2 => by
    obtain ⟨n1, n2⟩ := List.nodup_cons.mp nd
    have hm : f ∈ fs := List.mem_of_getElem? (by simpa using h1)
    have hne : (f == g) = false := beq_eq_false_iff_ne.mpr fun e => n1 (by rw [← e]; exact hm)
    rw [List.zip_cons_cons, List.lookup_cons]
    simp only [hne]
    exact lookup_zip n2 (by simpa using h1) (by simpa using h2)
/-- o.f as a value -/
def dFld (c j : Nat) (te : TEd) : TEd := fun env Q E => te env (fun b d => match d with
  | .nd (.ins _ c') ds => c' = c ∧ ∃ x, ds[j]? = some x ∧ Q b x
  | _ => False) E
section
variable {X : Cx} {R : RT} {i : Nat} {e : Expr} {pd : TPd} {te : TEd} {pos : Pos}
theorem ins_at {K : PySem.W.Frag} {F H : Hp} {v : V} {o : Bool} {c : Nat} {ds : List D} {B : List Addr} (r : Rep K R F H v (.nd (.ins o c) ds) B) (s : Same F H) :
    ∃ a dx vs B', v = .ref a ∧ RepL K R F H vs ds B' ∧ B'.Sublist B ∧ vs.length ≤ (R.lay c).length ∧ H a = some (.ins (R.cls c) dx ((R.lay c).zip vs)) := by
  cases r with
  | fz h1 h2 h3 =>
    obtain ⟨_, h4, dx, h5⟩ := h1
    exact ⟨_, dx, _, _, rfl, h2, List.Sublist.refl _, h4, s _ _ h5⟩
  | ow h1 h2 h3 =>
    obtain ⟨_, h4, dx, h5⟩ := h1
    exact ⟨_, dx, _, _, rfl, h3, List.sublist_cons_self _ _, h4, h5⟩
theorem de_fld {c j : Nat} {f : Str} (hcl : ClsF X.K R c) (hj : (R.lay c)[j]? = some f) (h : DE X R e te) (hb : attributeBase e f X.env (eval e X.env) = eval e X.env := by rfl) : DE X R (.Attribute e f pos) (dFld c j te) := fun W tk => by
  obtain ⟨_, a1, a2⟩ := h W tk
  refine ⟨_, pe_fld a1 hb, fun F H σ env As Q Qd Ed s er h q x => a2 F H σ env As _ _ Ed s er h (fun F1 H1 v d B b g1 r1 f1 hq => ?_) x⟩
  split at hq
  · obtain ⟨rfl, z, hz, hq⟩ := hq
    obtain ⟨a, dx, vs, B', rfl, r2, sl, hl, ha⟩ := ins_at r1 g1.fh
    obtain ⟨u, B2, hu, r3, sl3⟩ := r2.get hz
    exact ⟨a, _, dx, _, u, rfl, ha, hcl.cls, hcl.no j f hj, lookup_zip hcl.nd hj hu, q F1 H1 u z B2 b g1 r3 (fun eb => (f1 eb).sub (sl3.trans sl)) hq⟩
  · exact hq.elim
theorem dp_var (i : Nat) {x : Str} (hN : X.N[i]? = some x := by rfl) (hv : Vis X.env.scope x := by first | exact Or.inl rfl | exact Or.inr (Or.inl rfl) | exact Or.inr (Or.inr rfl)) (hd : (x == ("__debug__" : Str)) = false := by decide)
    (hcd : (x == ("__classdict__" : Str)) = false := by decide) : DP X R i (.Name x pos) (pVar i) := fun W _ => ⟨_, pe_var hN hv hd hcd, fun F H σ env As Q Qd Ed s er h q _ => by
  unfold pVar at h
  split at h
  · rename_i d e
    obtain ⟨v, e1, r⟩ := er.val i d e
    exact ⟨v, e1, q F H v v [] d d (.refl s) e1 e rfl (.nil v) h⟩
  · exact h.elim⟩
theorem getP_snoc {p : List Nat} {d : D} {k : Kind} {ds : List D} {j : Nat} {x : D} (h : getP p d = some (.nd k ds)) (hf : fz (.nd k ds) = false) (hj : ds[j]? = some x) : getP (p ++ [j]) d = some x := by
  rw [getP_app, h]
  show getP [j] (.nd k ds) = some x
  rw [getP, if_neg (by rw [hf]; decide), hj]
  rfl
theorem ixN_lt {n : Nat} {z : Int} {j : Nat} (h : ixN n z = some j) : j < n := (ixN_seq h).2.1
theorem dp_ix (hu : X.A.units + 1 < cLine) {a b : Expr} (h1 : DP X R i a pd) (h2 : DE X R b te) (hs : PlainIx b := by exact fun _ _ => rfl) : DP X R i (.Subscript a b pos) (pIx i pd te) := fun W tk => by
  obtain ⟨_, a1, a2⟩ := h1 W tk
  obtain ⟨_, b1, b2⟩ := h2 W tk
  refine ⟨_, pe_ix (ix_seq.or (ix_dict hu)) a1 b1 hs, fun F H σ env As Q Qd Ed s er h q x => a2 F H σ env As _ _ Ed s er h (fun F1 H1 v w p d dp g1 ev ee hg wk hq => ?_) x⟩
  refine b2 F1 H1 σ env As _ _ Ed g1.fh (er.grow g1) hq (fun F2 H2 u eD C b2 g2 r2 f2 hq => ?_) (x.grow g1)
  have hq := atP_of hq ee hg
  have gg := g1.trans g2
  obtain ⟨v0, e0, rr⟩ := (er.grow gg).val i d ee
  rw [ev] at e0
  cases e0
  have wk2 := wk.grow g2.hh
  obtain ⟨Ap, rp, _, _⟩ := focus p rr gg.fh hg wk2
  rcases posD_of hq with ⟨o, ds, z, j, rfl, rfl, hf, hj, hq⟩ | ⟨ds, z, j, rfl, rfl, hf, hj, hq⟩ | ⟨o, ks, ds, s0, k, j, rfl, rfl, hf, hk, hj, hq⟩
  · cases r2
    obtain ⟨a', vs, B', rfl, r3, ha, _⟩ := lst_at rp gg.fh
    obtain ⟨dj, hd⟩ : ∃ x, ds[j]? = some x := ⟨_, List.getElem?_eq_getElem (ixN_lt hj)⟩
    obtain ⟨y, B2, hy, _, _⟩ := r3.get hd
    refine .inl (.inl ⟨a', vs, z, y, rfl, rfl, SqL.of ha, ?_, ?_⟩)
    · unfold atI; rw [r3.length, hj]; exact hy
    · exact q F2 H2 v y (p ++ [j]) d dj gg ev ee (getP_snoc hg hf hd) (wk2.snoc (.lst ha hy (.nil y))) hq
  · cases r2
    obtain ⟨dj, hd⟩ : ∃ x, ds[j]? = some x := ⟨_, List.getElem?_eq_getElem (ixN_lt hj)⟩
    cases rp with
    | fz h1 h2 h3 =>
      rename_i a' vs _
      rcases h3 with ⟨_, h3⟩ | h3
      · have ha := gg.fh _ _ h3
        obtain ⟨y, B2, hy, _, _⟩ := h2.get hd
        refine .inl (.inr (.inl ⟨a', vs, z, y, rfl, rfl, SqT.of ha, ?_, ?_⟩))
        · unfold atI; rw [h2.length, hj]; exact hy
        · exact q F2 H2 v y (p ++ [j]) d dj gg ev ee (getP_snoc hg hf hd) (wk2.snoc (.tup ha hy (.nil y))) hq
      · subst h3
        have z := (Rep.fz h1 h2 (.inr rfl) : Rep X.K R F2 H2 _ (.nd .tup ds) []).fzOf rfl
        rw [hf] at z; cases z
    | ow h1 h2 h3 => exact h1.elim
  · cases r2
    obtain ⟨a', vs, B', rfl, r3, sl, hl, ha⟩ := dct_at rp gg.fh
    have pl : ∀ {ks : List DK} {vs : List V} {j : Nat}, ks.length = vs.length → posOf ks k = some j → ∃ y, vs[j]? = some y ∧ lkp ks vs k = some y := by
      intro ks
      induction ks with
      | nil => intro vs j _ h; cases h
      | cons a r ih =>
        intro vs j hl h
        cases vs with
        | nil => simp at hl
        | cons v0 vs =>
          rw [posOf] at h
          by_cases e : a = k
          · rw [if_pos e] at h; cases h
            exact ⟨v0, rfl, by rw [lkp, if_pos e]⟩
          · rw [if_neg e] at h
            cases hp : posOf r k with
            | none => rw [hp] at h; cases h
            | some j' =>
              rw [hp] at h
              cases h
              obtain ⟨y, h1, h2⟩ := ih (by simpa using hl) hp
              exact ⟨y, by simpa using h1, by rw [lkp, if_neg e]; exact h2⟩
    obtain ⟨y, hy, hlk⟩ := pl hl hj
    have hjd : j < ds.length := by rw [← r3.length]; exact (List.getElem?_eq_some_iff.mp hy).1
    obtain ⟨dj, hd⟩ : ∃ x, ds[j]? = some x := ⟨_, List.getElem?_eq_getElem hjd⟩
    refine .inr ⟨a', y, rfl, ?_, q F2 H2 v y (p ++ [j]) d dj gg ev ee (getP_snoc hg hf hd) (wk2.snoc (.dct ha hl hy (.nil y))) hq⟩
    rw [keyS_enc hk, ← hlk, ← valV_lkp (f := key) (fun a b z => key_inj z)]
    exact DGet.k ha
theorem dp_fl {c j : Nat} {f : Str} (hcl : ClsF X.K R c) (hj : (R.lay c)[j]? = some f) {a : Expr} (h : DP X R i a pd) (hb : attributeBase a f X.env (eval a X.env) = eval a X.env := by rfl) : DP X R i (.Attribute a f pos) (pFl i pd c j) := fun W tk => by
  obtain ⟨_, a1, a2⟩ := h W tk
  refine ⟨_, pe_fld a1 hb, fun F H σ env As Q Qd Ed s er h q x => a2 F H σ env As _ _ Ed s er h (fun F1 H1 v w p d dp g1 ev ee hg wk hq => ?_) x⟩
  have hq := atP_of hq ee hg
  obtain ⟨v0, e0, rr⟩ := (er.grow g1).val i d ee
  rw [ev] at e0
  cases e0
  obtain ⟨Ap, rp, _, _⟩ := focus p rr g1.fh hg wk
  split at hq
  · rename_i c' ds
    obtain ⟨rfl, hlt, hq⟩ := hq
    obtain ⟨a', dx, vs, B', rfl, r2, sl, hl, ha⟩ := ins_at rp g1.fh
    obtain ⟨dj, hd⟩ : ∃ x, ds[j]? = some x := ⟨_, List.getElem?_eq_getElem hlt⟩
    obtain ⟨u, B2, hu, r3, sl3⟩ := r2.get hd
    have hf : fz (.nd (.ins true c') ds) = false := by rw [fz]; rfl
    exact ⟨a', _, dx, _, u, rfl, ha, hcl.cls, hcl.no j f hj, lookup_zip hcl.nd hj hu, q F1 H1 v u (p ++ [j]) d dj g1 ev ee (getP_snoc hg hf hd) (wk.snoc (.ins ha hl hu (.nil u))) hq⟩
  · exact hq.elim
end

/-! ## methods of built-ins that change what they are called on -/
abbrev GM := D → List D → (D → D → Prop) → Prop
def OpM (X : Cx) (R : RT) (T id : String) (g : GM) : Prop := ∃ r, MtR X id r ∧
  (∀ F H w dp A, Same F H → Rep X.K R F H w dp A → tyD dp = some T → fz dp = false → tyV X.K T w H) ∧
  ∀ (F H : Hp) (w : V) (dp : D) (A : List Addr) (vs : List V) (ds : List D) (B : List Addr) (Q : VK) (Qd : D → D → Prop),
    Same F H → Rep X.K R F H w dp A → A.Nodup → RepL X.K R F H vs ds B → B.Nodup → (∀ a ∈ B, a ∉ A) → g dp ds Qd →
    (∀ H' vr dr dp' A' Br, (∀ b, b ∉ A → H' b = H b) → (∀ b ∈ A, ∃ o, H' b = some o) → Same F H' → Rep X.K R F H' w dp' A' → Rep X.K R F H' vr dr Br → (A' ++ Br).Nodup → (∀ b ∈ A' ++ Br, b ∈ A ∨ b ∈ B) → Qd dr dp' → Q vr H') → r w vs H Q
/-- path.m(..) as a statement -/
def dMS (i : Nat) (pd : TPd) (T : String) (g : GM) (ta : TAd) : TSd := fun D env => pd env (fun p => atP i env p fun _ d0 => (tyD d0 = some T ∧ fz d0 = false) ∧ ta env (fun ds => atP i env p fun d dp => g dp ds fun _ dp' => D.nx (env.set i (some (setP p d dp')))) (fun x => D.ex x env)) (fun x => D.ex x env)
/-- target = path.m(..) -/
def dMA (i : Nat) (pd : TPd) (T : String) (g : GM) (ta : TAd) (gd : TGd) : TSd := fun D env => pd env (fun p => atP i env p fun _ d0 => (tyD d0 = some T ∧ fz d0 = false) ∧ ta env (fun ds => atP i env p fun d dp => g dp ds fun dr dp' => gd dr (env.set i (some (setP p d dp'))) D.nx) (fun x => D.ex x env)) (fun x => D.ex x env)
section
variable {X : Cx} {R : RT} {P : List Nat} {i : Nat} {o e : Expr} {es : List Expr} {pd : TPd} {ta : TAd} {name : Str} {apos cpos pos : Pos} {T id : String} {g : GM}
/-- the call of such a method, within a statement -/
theorem mt_core {W : WX} {r : V → List V → Hp → VK → Prop} {to : TE} {tt : TA} (b0 : ∀ F H w dp A, Same F H → Rep X.K R F H w dp A → tyD dp = some T → fz dp = false → tyV X.K T w H)
    (br : ∀ (F H : Hp) (w : V) (dp : D) (A : List Addr) (vs : List V) (ds : List D) (B : List Addr) (Q : VK) (Qd : D → D → Prop),
      Same F H → Rep X.K R F H w dp A → A.Nodup → RepL X.K R F H vs ds B → B.Nodup → (∀ a ∈ B, a ∉ A) → g dp ds Qd →
      (∀ H' vr dr dp' A' Br, (∀ b, b ∉ A → H' b = H b) → (∀ b ∈ A, ∃ o, H' b = some o) → Same F H' → Rep X.K R F H' w dp' A' → Rep X.K R F H' vr dr Br → (A' ++ Br).Nodup → (∀ b ∈ A' ++ Br, b ∈ A ∨ b ∈ B) → Qd dr dp' → Q vr H') → r w vs H Q)
    (h1 : LP X.K R W i to pd) (h2 : LA X.K R W tt ta) {C : Ba} {F H : Hp} {σ : L2.St} {env : Sl} {As : Nat → List Addr} {Q : VK} {Ed : EX → Prop} {Qd : D → D → List Nat → D → Prop} (ok : Ok X.K R C F H σ env As)
    (h : pd env (fun p => atP i env p fun _ d0 => (tyD d0 = some T ∧ fz d0 = false) ∧ ta env (fun ds => atP i env p fun d dp => g dp ds fun dr dp' => Qd d dr p dp') Ed) Ed)
    (q : ∀ F' H' As' p d dr dp' vr Br, Ok X.K R C F' H' σ (env.set i (some (setP p d dp'))) As' → Rep X.K R F' H' vr dr Br → Own C As' Br → Qd d dr p dp' → Q vr H') (x : ExW X.K R W F H σ Ed) :
    tBM X.K T r to tt σ H Q := by
  refine h1 F H σ env As _ _ Ed ok.fh ok.er h (fun F1 H1 v w p d dp g1 ev ee hg wk hq => ?_) x
  have ok1 := ok.grow g1
  have hq := atP_of hq ee hg
  obtain ⟨⟨ht, hf⟩, hq⟩ := hq
  obtain ⟨Ap1, rp1, _⟩ := ok1.mutP ee ev hg wk
  refine ⟨b0 F1 H1 w dp Ap1 ok1.fh rp1 ht hf, h2 F1 H1 σ env As _ _ Ed ok1.fh ok1.er hq (fun F2 H2 vs ds B g2 r2 f2 hq => ?_) (x.grow g1)⟩
  have ok2 := ok1.grow g2
  have hq := atP_of hq ee hg
  obtain ⟨Ap, rp, sub, nAp, k⟩ := ok2.mutP ee ev hg (wk.grow g2.hh)
  have oB : Own C As B := ok1.own f2
  refine br F2 H2 w dp Ap vs ds B Q _ ok2.fh rp nAp r2 f2.1 (fun a ha hA => oB.2.2 i a ha (sub a hA)) hq fun H3 vr dr dp' A' Br e1 e2 e3 e4 e5 e6 e7 e8 => ?_
  obtain ⟨n1, n2, n3⟩ := List.nodup_append.mp e6
  obtain ⟨As', ok3, ss⟩ := k H3 dp' A' B oB e1 e2 e3 e4 n1 (fun b hb => e7 b (List.mem_append_left _ hb))
  refine q F2 H3 As' p d dr dp' vr Br ok3 e5 ⟨n2, fun a ha => ?_, fun j a ha hj => ?_⟩ e8
  · rcases e7 a (List.mem_append_right _ ha) with z | z
    · exact ok.ow i a (sub a z)
    · exact oB.2.1 a z
  · rcases ss j a hj with z | z
    · rcases e7 a (List.mem_append_right _ ha) with y | y
      · exact z.2 y
      · exact oB.2.2 j a y z.1
    · exact n3 a z a ha rfl
theorem ds_mS (hm : OpM X R T id g) (pa : PlainAttrs T) (slot : Slot T name id) (hty : typeOf (.builtin id) = pure (.type "method_descriptor")) (h1 : DP X R i o pd) (h2 : DA X R (e :: es) ta)
    (hbase : attributeBase o name X.env (eval o X.env) = eval o X.env := by rfl)
    (hfew : ((backTo cpos (starEach (e :: es) X.env)).all (fun x => !x.1) && (backToKw cpos (keywordEach [] X.env)).all (fun x => x.1.isSome)
      && decide ((e :: es).length + ([] : List Keyword).length + (if ([] : List Keyword).isEmpty then 0 else 1) < 30)) = true := by rfl)
    (hline : (apos.endLine == cpos.line) = true := by rfl) (hs : starEach (e :: es) X.env = (false, eval e X.env) :: starEach es X.env := by rfl) (hplain : (backTo cpos (starEach es X.env)).any (·.1) = false := by rfl)
    (hsw : swapsWith (.Call (.Attribute o name apos) (e :: es) [] cpos) none pos.line X.env = pure false := by rfl) : DS X R P (.Expr (.Call (.Attribute o name apos) (e :: es) [] cpos) pos) (dMS i pd T g ta) := fun W tk => by
  obtain ⟨r, m1, m2, m3⟩ := hm
  obtain ⟨_, a1, a2⟩ := h1 W tk
  obtain ⟨_, b1, b2⟩ := h2 W tk
  exact ⟨_, ps_expr (pe_bm pa slot hty m1 a1 b1 hbase hfew hline hs hplain) hsw, fun C F H σ env As Dh Dd eP ok E h =>
    mt_core (Qd := fun d _ p dp' => Dd.nx (env.set i (some (setP p d dp')))) m2 m3 a2 b2 ok h (fun F' H' As' p d dr dp' vr Br ok' _ _ hq => E.nx F' H' σ _ As' ok' hq) (E.exw ok)⟩
theorem ds_mA {x : Str} {tp : Pos} {j : Nat} (hm : OpM X R T id g) (pa : PlainAttrs T) (slot : Slot T name id) (hty : typeOf (.builtin id) = pure (.type "method_descriptor")) (h1 : DP X R i o pd) (h2 : DA X R (e :: es) ta)
    (hN : X.N.Nodup) (hi : X.N[j]? = some x := by rfl) (hx : Loc X.env.scope x := by first | exact Or.inl rfl | exact Or.inr rfl) (hP : j ∉ P := by decide)
    (hbase : attributeBase o name X.env (eval o X.env) = eval o X.env := by rfl)
    (hfew : ((backTo cpos (starEach (e :: es) X.env)).all (fun x => !x.1) && (backToKw cpos (keywordEach [] X.env)).all (fun x => x.1.isSome)
      && decide ((e :: es).length + ([] : List Keyword).length + (if ([] : List Keyword).isEmpty then 0 else 1) < 30)) = true := by rfl)
    (hline : (apos.endLine == cpos.line) = true := by rfl) (hs : starEach (e :: es) X.env = (false, eval e X.env) :: starEach es X.env := by rfl) (hplain : (backTo cpos (starEach es X.env)).any (·.1) = false := by rfl)
    (hsw : swapsWith (.Call (.Attribute o name apos) (e :: es) [] cpos) (some (.Name x tp)) pos.line X.env = pure false := by rfl)
    (hf : X.fn x = true ∨ X.env.scope.names.lookup x = some .local := by first | exact .inl rfl | exact .inr rfl | assumption) :
    DS X R P (.Assign [.Name x tp] (.Call (.Attribute o name apos) (e :: es) [] cpos) pos) (dMA i pd T g ta (gN j)) := fun W tk => by
  obtain ⟨r, m1, m2, m3⟩ := hm
  obtain ⟨_, a1, a2⟩ := h1 W tk
  obtain ⟨_, b1, b2⟩ := h2 W tk
  exact ⟨_, ps_set hN hi hx (pe_bm pa slot hty m1 a1 b1 hbase hfew hline hs hplain) hsw hf, fun C F H σ env As Dh Dd eP ok E h =>
    mt_core (Qd := fun d dr p dp' => Dd.nx ((env.set i (some (setP p d dp'))).set j (some dr))) m2 m3 a2 b2 ok h (fun F' H' As' p d dr dp' vr Br ok' r' o' hq => by
      obtain ⟨As2, ok2, _⟩ := ok'.set r' o' (by rw [eP]; exact hP)
      exact E.nx F' H' _ _ As2 ok2 hq) (E.exw ok)⟩
/-- .. without arguments -/
theorem ds_mS0 (hm : OpM X R T id g) (pa : PlainAttrs T) (slot : Slot T name id) (hty : typeOf (.builtin id) = pure (.type "method_descriptor")) (h1 : DP X R i o pd)
    (hbase : attributeBase o name X.env (eval o X.env) = eval o X.env := by rfl) (hline : (apos.endLine == cpos.line) = true := by rfl)
    (hsw : swapsWith (.Call (.Attribute o name apos) [] [] cpos) none pos.line X.env = pure false := by rfl) : DS X R P (.Expr (.Call (.Attribute o name apos) [] [] cpos) pos) (dMS i pd T g dNil) := fun W tk => by
  obtain ⟨r, m1, m2, m3⟩ := hm
  obtain ⟨_, a1, a2⟩ := h1 W tk
  exact ⟨_, ps_expr (pe_bm0 pa slot hty m1 a1 hbase hline) hsw, fun C F H σ env As Dh Dd eP ok E h =>
    mt_core (tt := tNil) (ta := dNil) (Qd := fun d _ p dp' => Dd.nx (env.set i (some (setP p d dp')))) m2 m3 a2 la_nil ok h (fun F' H' As' p d dr dp' vr Br ok' _ _ hq => E.nx F' H' σ _ As' ok' hq) (E.exw ok)⟩
end
end DL

set_option Elab.async false
set_option linter.all false
set_option maxRecDepth 100000
set_option maxHeartbeats 1000000
namespace DL
open PySem PySem.Spec L2

def appM : GM
  | .nd (.lst true) xs, [y], Q => xs.length < 1000000 ∧ Q .non (.nd (.lst true) (xs ++ [y]))
  | _, _, _ => False
def extM : GM
  | .nd (.lst true) xs, [.nd (.lst o) ys], Q => xs.length + ys.length ≤ 1000000 ∧ stb (.lst o) ys = true ∧ Q .non (.nd (.lst true) (xs ++ ys))
  | _, _, _ => False
def insM : GM
  | .nd (.lst true) xs, [.sc (.int z), y], Q => xs.length < 1000000 ∧ 0 ≤ z ∧ z < 2 ^ 63 ∧ Q .non (.nd (.lst true) (xs.take z.toNat ++ y :: xs.drop z.toNat))
  | _, _, _ => False
def popM : GM
  | .nd (.lst true) xs, [.sc (.int z)], Q => ∃ j y, xs.length ≤ 1000000 ∧ ixN xs.length z = some j ∧ xs[j]? = some y ∧ Q y (.nd (.lst true) (xs.eraseIdx j))
  | _, _, _ => False
def revM : GM
  | .nd (.lst true) xs, [], Q => Q .non (.nd (.lst true) xs.reverse)
  | _, _, _ => False
def clrM : GM
  | .nd (.lst true) _, [], Q => Q .non (.nd (.lst true) [])
  | _, _, _ => False
section
variable {X : Cx} {R : RT}
theorem lst_own {K : PySem.W.Frag} {F H : Hp} {w : V} {xs : List D} {A : List Addr} (r : Rep K R F H w (.nd (.lst true) xs) A) : ∃ a vs A', w = .ref a ∧ A = a :: A' ∧ H a = some (.lst vs) ∧ F a = none ∧ RepL K R F H vs xs A' := by
  cases r with
  | fz h1 h2 h3 => exact absurd h1.1 (by decide)
  | ow h1 h2 h3 => exact ⟨_, _, _, rfl, rfl, h1.2, h2, h3⟩
theorem ty_lst {F H : Hp} {w : V} {dp : D} {A : List Addr} (s : Same F H) (r : Rep X.K R F H w dp A) (h : tyD dp = some "list") (hf : fz dp = false) : tyV X.K "list" w H := by
  cases dp with
  | sc x => cases x <;> simp [tyD] at h
  | nd k ds =>
    cases k with
    | lst o =>
      obtain ⟨a, vs, B', rfl, _, e, _⟩ := lst_at r s
      exact .inl ⟨rfl, vs, SqL.of e⟩
    | scr => simp [tyD] at h
    | tup => simp [tyD] at h
    | dct o ks => simp [tyD] at h
    | dcT o ks => simp [tyD] at h
    | ins o c => simp [tyD] at h
/-- a list of one's own gets other items -/
theorem relist {F H : Hp} {a : Addr} {A B C : List Addr} {vs ws : List V} {xs ys : List D} (s : Same F H) (hF : F a = none) (nA : (a :: A).Nodup) (ra : RepL X.K R F H vs xs C) (sub : ∀ b ∈ C, b ∈ A ∨ b ∈ B) (hB : ∀ b ∈ B, b ∉ a :: A) :
    Rep X.K R F (upd H a (.lst vs)) (.ref a) (.nd (.lst true) xs) (a :: C) ∧ Same F (upd H a (.lst vs)) ∧ (∀ b, b ∉ a :: A → upd H a (.lst vs) b = H b) ∧ (∀ b, b ∈ a :: A → (∃ o, H b = some o) → ∃ o, upd H a (.lst vs) b = some o) ∧ a ∉ C := by
  have ha : a ∉ C := fun z => by
    rcases sub a z with y | y
    · exact (List.nodup_cons.mp nA).1 y
    · exact hB a y List.mem_cons_self
  have s' : Same F (upd H a (.lst vs)) := fun b o e => by
    rw [upd_ne (fun z => by rw [z, hF] at e; cases e)]
    exact s b o e
  refine ⟨.ow (k := .lst true) ⟨rfl, upd_same⟩ hF (ra.mono (.refl _) fun b hb => ⟨upd_ne (fun z => ha (z ▸ hb)), (ra.own b hb).2⟩), s', fun b hb => upd_ne (fun z => hb (by rw [z]; exact List.mem_cons_self)), fun b _ e => ?_, ha⟩
  by_cases z : b = a
  · subst z; exact ⟨_, upd_same⟩
  · rw [upd_ne z]; exact e
theorem appM_ok : OpM X R "list" "list.append" appM := by
  refine ⟨rAppend, mt_append, fun F H w dp A s r h hf => ty_lst s r h hf, fun F H w dp A vs ds B Q Qd s r nA ra nB dB hq q => ?_⟩
  unfold appM at hq
  split at hq
  · obtain ⟨a, us, A', rfl, rfl, ha, hF, rx⟩ := lst_own r
    obtain ⟨y, rfl, ry⟩ := repl1 ra
    obtain ⟨hl, hq⟩ := hq
    have rn : RepL X.K R F H (us ++ [y]) _ (A' ++ (B ++ [])) := rx.append (.cons ry .nil)
    rw [List.append_nil] at rn
    obtain ⟨k1, k2, k3, k4, k5⟩ := relist (X := X) (R := R) (A := A') (B := B) (vs := us ++ [y]) (ws := []) (ys := []) s hF nA rn (fun b hb => List.mem_append.mp hb) dB
    refine ⟨a, us, y, rfl, rfl, ha, ?_, q _ .non .non _ _ [] k3 (fun b hb => k4 b hb (r.own b hb).1) k2 k1 (.sc .non) ?_ ?_ hq⟩
    · rw [rx.length, sizeLine_eq]; omega
    · rw [List.append_nil]
      refine List.nodup_cons.mpr ⟨k5, List.nodup_append.mpr ⟨(List.nodup_cons.mp nA).2, nB, fun x hx y hy e => dB y hy (by rw [← e]; exact List.mem_cons_of_mem _ hx)⟩⟩
    · intro b hb
      rw [List.append_nil] at hb
      rcases List.mem_cons.mp hb with e | hb
      · exact .inl (by rw [e]; exact List.mem_cons_self)
      · exact (List.mem_append.mp hb).imp (List.mem_cons_of_mem _) id
  · exact hq.elim
theorem extM_ok : OpM X R "list" "list.extend" extM := by
  refine ⟨rExtend, mt_extend, fun F H w dp A s r h hf => ty_lst s r h hf, fun F H w dp A vs ds B Q Qd s r nA ra nB dB hq q => ?_⟩
  unfold extM at hq
  split at hq
  · obtain ⟨a, us, A', rfl, rfl, ha, hF, rx⟩ := lst_own r
    obtain ⟨y, rfl, ry⟩ := repl1 ra
    obtain ⟨hl, hst, hq⟩ := hq
    obtain ⟨b, ws, B', rfl, rb, hb, z⟩ := lst_at ry s
    have eB := z hst
    subst eB
    have rn : RepL X.K R F H (us ++ ws) _ (A' ++ []) := rx.append rb
    rw [List.append_nil] at rn
    obtain ⟨k1, k2, k3, k4, k5⟩ := relist (X := X) (R := R) (A := A') (B := []) (vs := us ++ ws) (ws := []) (ys := []) s hF nA rn (fun b hb => .inl hb) (fun _ z => by cases z)
    refine ⟨a, b, us, ws, rfl, rfl, ha, hb, ?_, q _ .non .non _ _ [] k3 (fun b hb => k4 b hb (r.own b hb).1) k2 k1 (.sc .non) ?_ ?_ hq⟩
    · rw [rx.length, rb.length, sizeLine_eq]; omega
    · rw [List.append_nil]; exact nA
    · intro b hb
      rw [List.append_nil] at hb
      exact .inl hb
  · exact hq.elim
theorem RepL.split {K : PySem.W.Frag} {F H : Hp} : ∀ (n : Nat) {vs : List V} {ds : List D} {A : List Addr}, RepL K R F H vs ds A → ∃ A1 A2, A = A1 ++ A2 ∧ RepL K R F H (vs.take n) (ds.take n) A1 ∧ RepL K R F H (vs.drop n) (ds.drop n) A2
  | 0, _, _, A, r => ⟨[], A, rfl, .nil, r⟩
  | n + 1, _, _, _, .nil => ⟨[], [], rfl, .nil, .nil⟩
  | n + 1, _, _, _, .cons a b => by
    obtain ⟨A1, A2, e, r1, r2⟩ := RepL.split n b
    exact ⟨_, A2, by rw [e, List.append_assoc], .cons a r1, r2⟩
theorem RepL.rev {K : PySem.W.Frag} {F H : Hp} : ∀ {vs : List V} {ds : List D} {A : List Addr}, RepL K R F H vs ds A → ∃ A', RepL K R F H vs.reverse ds.reverse A' ∧ A'.Perm A
  | _, _, _, .nil => ⟨[], .nil, .refl _⟩
  | _, _, _, .cons (A := A1) a b => by
    obtain ⟨A', r, p⟩ := RepL.rev b
    refine ⟨A' ++ (A1 ++ []), ?_, ?_⟩
    · rw [List.reverse_cons, List.reverse_cons]
      exact r.append (.cons a .nil)
    · rw [List.append_nil]
      exact List.perm_append_comm.trans (List.Perm.append_left _ p)
theorem insM_ok : OpM X R "list" "list.insert" insM := by
  refine ⟨_, mt_insert, fun F H w dp A s r h hf => ty_lst s r h hf, fun F H w dp A vs ds B Q Qd s r nA ra nB dB hq q => ?_⟩
  unfold insM at hq
  split at hq
  · obtain ⟨a, us, A', rfl, rfl, ha, hF, rx⟩ := lst_own r
    obtain ⟨hl, h0, h1, hq⟩ := hq
    rename_i xs z yd
    cases ra with
    | cons rz ra =>
      cases rz
      rename_i B0
      rw [List.nil_append] at nB dB q
      obtain ⟨y, rfl, ry⟩ := repl1 ra
      obtain ⟨A1, A2, eA, r1, r2⟩ := rx.split z.toNat
      have rn : RepL X.K R F H (us.take z.toNat ++ y :: us.drop z.toNat) (xs.take z.toNat ++ yd :: xs.drop z.toNat) (A1 ++ (B0 ++ A2)) := r1.append (.cons ry r2)
      have sub : ∀ b ∈ A1 ++ (B0 ++ A2), b ∈ A' ∨ b ∈ B0 := fun b hb => by
        rw [eA]
        rcases List.mem_append.mp hb with h | h
        · exact .inl (List.mem_append_left _ h)
        · rcases List.mem_append.mp h with h | h
          · exact .inr h
          · exact .inl (List.mem_append_right _ h)
      obtain ⟨k1, k2, k3, k4, k5⟩ := relist (X := X) (R := R) (A := A') (B := B0) (vs := us.take z.toNat ++ y :: us.drop z.toNat) (ws := []) (ys := []) s hF nA rn sub dB
      refine ⟨a, us, z, y, rfl, rfl, ha, ?_, h0, h1, ?_⟩
      · rw [rx.length, sizeLine_eq]; omega
      · rw [List.append_assoc]
        refine q _ .non .non _ _ [] k3 (fun b hb => k4 b hb (r.own b hb).1) k2 k1 (.sc .non) ?_ ?_ hq
        · rw [List.append_nil]
          refine List.nodup_cons.mpr ⟨k5, ?_⟩
          have n1 := (List.nodup_cons.mp nA).2
          rw [eA] at n1
          obtain ⟨m1, m2, m3⟩ := List.nodup_append.mp n1
          have inA : ∀ x, x ∈ A1 ++ A2 → x ∈ a :: A' := fun x hx => List.mem_cons_of_mem _ (by rw [eA]; exact hx)
          refine List.nodup_append.mpr ⟨m1, List.nodup_append.mpr ⟨nB, m2, fun x hx y hy e => ?_⟩, fun x hx y hy e => ?_⟩
          · exact dB x hx (by rw [e]; exact inA y (List.mem_append_right _ hy))
          · rcases List.mem_append.mp hy with hy | hy
            · exact dB y hy (by rw [← e]; exact inA x (List.mem_append_left _ hx))
            · exact m3 x hx y hy e
        · intro b hb
          rw [List.append_nil] at hb
          rcases List.mem_cons.mp hb with e | hb
          · exact .inl (by rw [e]; exact List.mem_cons_self)
          · exact (sub b hb).imp (List.mem_cons_of_mem _) id
  · exact hq.elim
theorem RepL.del {K : PySem.W.Frag} {F H : Hp} : ∀ {j : Nat} {vs : List V} {ds : List D} {A : List Addr} {d : D}, RepL K R F H vs ds A → ds[j]? = some d → ∃ v A1 Aj A2, vs[j]? = some v ∧ A = A1 ++ (Aj ++ A2) ∧ Rep K R F H v d Aj ∧ RepL K R F H (vs.eraseIdx j) (ds.eraseIdx j) (A1 ++ A2)
  | _, _, _, _, _, .nil, h => by simp at h
  | 0, _, _, _, d, .cons (A := A0) (B := B0) a b, h => by
    simp at h
    subst h
    exact ⟨_, [], A0, B0, rfl, rfl, a, b⟩
  | j + 1, _, _, _, d, .cons (A := A0) a b, h => by
    obtain ⟨v, A1, Aj, A2, e1, e2, e3, e4⟩ := RepL.del b (by simpa using h)
    refine ⟨v, A0 ++ A1, Aj, A2, by simpa using e1, by rw [e2, List.append_assoc], e3, ?_⟩
    rw [List.append_assoc]
    exact .cons a e4
theorem popM_ok : OpM X R "list" "list.pop" popM := by
  refine ⟨rPopAt, mt_popAt, fun F H w dp A s r h hf => ty_lst s r h hf, fun F H w dp A vs ds B Q Qd s r nA ra nB dB hq q => ?_⟩
  unfold popM at hq
  split at hq
  · obtain ⟨a, us, A', rfl, rfl, ha, hF, rx⟩ := lst_own r
    obtain ⟨zv, rfl, rz⟩ := repl1 ra
    cases rz
    obtain ⟨j, y, hl, hj, hy, hq⟩ := hq
    rename_i xs z
    obtain ⟨v, A1, Aj, A2, e1, eA, rv, rr⟩ := rx.del hy
    obtain ⟨s1, s2, s3, s4⟩ := ixN_seq hj
    have sub : ∀ b ∈ A1 ++ A2, b ∈ A' ∨ b ∈ ([] : List Addr) := fun b hb => .inl (by
      rw [eA]
      rcases List.mem_append.mp hb with h | h
      · exact List.mem_append_left _ h
      · exact List.mem_append_right _ (List.mem_append_right _ h))
    obtain ⟨k1, k2, k3, k4, k5⟩ := relist (X := X) (R := R) (A := A') (B := []) (vs := us.eraseIdx j) (ws := []) (ys := []) s hF nA rr sub (fun _ z => by cases z)
    have n1 := (List.nodup_cons.mp nA).2
    have na := (List.nodup_cons.mp nA).1
    rw [eA] at n1
    obtain ⟨m1, m2, m3⟩ := List.nodup_append.mp n1
    obtain ⟨m4, m5, m6⟩ := List.nodup_append.mp m2
    have rv' : Rep X.K R F (upd H a (.lst (us.eraseIdx j))) v y Aj := rv.mono (.refl _) fun b hb => ⟨upd_ne (fun e => na (by rw [eA, ← e]; exact List.mem_append_right _ (List.mem_append_left _ hb))), (rv.own b hb).2⟩
    refine ⟨a, us, z, j, v, rfl, rfl, ha, ?_, ?_, by rw [rx.length]; exact s1, e1, q _ v y _ _ Aj k3 (fun b hb => k4 b hb (r.own b hb).1) k2 k1 rv' ?_ ?_ hq⟩
    · omega
    · omega
    · show (a :: ((A1 ++ A2) ++ Aj)).Nodup
      refine List.nodup_cons.mpr ⟨fun h => ?_, ?_⟩
      · rcases List.mem_append.mp h with h | h
        · exact k5 h
        · exact na (by rw [eA]; exact List.mem_append_right _ (List.mem_append_left _ h))
      · refine List.nodup_append.mpr ⟨List.nodup_append.mpr ⟨m1, m5, fun x hx y hy e => m3 x hx y (List.mem_append_right _ hy) e⟩, m4, fun x hx y hy e => ?_⟩
        rcases List.mem_append.mp hx with hx | hx
        · exact m3 x hx y (List.mem_append_left _ hy) e
        · exact m6 y hy x hx e.symm
    · intro b hb
      left
      rcases List.mem_append.mp hb with h | h
      · rcases List.mem_cons.mp h with h | h
        · rw [h]; exact List.mem_cons_self
        · rcases sub b h with z | z
          · exact List.mem_cons_of_mem _ z
          · cases z
      · exact List.mem_cons_of_mem _ (by rw [eA]; exact List.mem_append_right _ (List.mem_append_left _ h))
  · exact hq.elim
theorem repl0 {K : PySem.W.Frag} {F H : Hp} {vs : List V} {A : List Addr} (r : RepL K R F H vs [] A) : vs = [] ∧ A = [] := by
  cases r
  exact ⟨rfl, rfl⟩
theorem revM_ok : OpM X R "list" "list.reverse" revM := by
  refine ⟨_, mt_reverse, fun F H w dp A s r h hf => ty_lst s r h hf, fun F H w dp A vs ds B Q Qd s r nA ra nB dB hq q => ?_⟩
  unfold revM at hq
  split at hq
  · obtain ⟨a, us, A', rfl, rfl, ha, hF, rx⟩ := lst_own r
    obtain ⟨rfl, rfl⟩ := repl0 ra
    obtain ⟨A2, rr, pm⟩ := rx.rev
    have sub : ∀ b ∈ A2, b ∈ A' ∨ b ∈ ([] : List Addr) := fun b hb => .inl (pm.mem_iff.mp hb)
    obtain ⟨k1, k2, k3, k4, k5⟩ := relist (X := X) (R := R) (A := A') (B := []) (vs := us.reverse) (ws := []) (ys := []) s hF nA rr sub (fun _ z => by cases z)
    refine ⟨a, us, rfl, rfl, ha, q _ .non .non _ _ [] k3 (fun b hb => k4 b hb (r.own b hb).1) k2 k1 (.sc .non) ?_ ?_ hq⟩
    · rw [List.append_nil]
      exact List.nodup_cons.mpr ⟨k5, pm.nodup_iff.mpr (List.nodup_cons.mp nA).2⟩
    · intro b hb
      rw [List.append_nil] at hb
      rcases List.mem_cons.mp hb with e | hb
      · exact .inl (by rw [e]; exact List.mem_cons_self)
      · exact (sub b hb).imp (List.mem_cons_of_mem _) id
  · exact hq.elim
theorem clrM_ok : OpM X R "list" "list.clear" clrM := by
  refine ⟨_, mt_clear, fun F H w dp A s r h hf => ty_lst s r h hf, fun F H w dp A vs ds B Q Qd s r nA ra nB dB hq q => ?_⟩
  unfold clrM at hq
  split at hq
  · obtain ⟨a, us, A', rfl, rfl, ha, hF, rx⟩ := lst_own r
    obtain ⟨rfl, rfl⟩ := repl0 ra
    obtain ⟨k1, k2, k3, k4, k5⟩ := relist (X := X) (R := R) (A := A') (B := []) (vs := []) (ws := []) (ys := []) (xs := []) (C := []) s hF nA .nil (fun _ z => by cases z) (fun _ z => by cases z)
    refine ⟨a, us, rfl, rfl, ha, q _ .non .non _ _ [] k3 (fun b hb => k4 b hb (r.own b hb).1) k2 k1 (.sc .non) ?_ ?_ hq⟩
    · rw [List.append_nil]
      exact List.nodup_cons.mpr ⟨List.not_mem_nil, List.nodup_nil⟩
    · intro b hb
      rw [List.append_nil] at hb
      rcases List.mem_cons.mp hb with e | hb
      · exact .inl (by rw [e]; exact List.mem_cons_self)
      · cases hb
  · exact hq.elim
end
end DL

set_option Elab.async false
set_option linter.all false
set_option maxRecDepth 100000
set_option maxHeartbeats 1000000
namespace DL
open PySem PySem.Spec L2
open PyProof.Rows (envOfC)

/-! ## defs -/
def pad (m : Nat) (ds : List D) : Sl := ds.map some ++ List.replicate m none
abbrev SPD := List D → (D → Sl → Prop) → (EX → Sl → Prop) → Prop
/-- what a body does from its arguments on; the slots at the end are told too: what is changed in place stands there -/
def spB (m : Nat) (b : TSd) : SPD := fun ds Qd Ed => b { nx := fun env => Qd .non env, rt := Qd, ex := Ed } (pad m ds)
def toSp (K : PySem.W.Frag) (R : RT) (P : List Nat) (n : Nat) (sp : SPD) : Sp := fun vs H Q E => ∃ (F : Hp) (ds : List D) (As : Nat → List Addr) (Qd : D → Sl → Prop) (Ed : EX → Sl → Prop),
  vs.length = n ∧ Same F H ∧ EnvR K R F H (vs.map some) (ds.map some) As ∧ (∀ i, i ∉ P → As i = []) ∧ sp ds Qd Ed ∧
  (∀ F' H' σ' env' As' v d B, Ok K R ⟨H, F, fun a => ∃ i, a ∈ As i, vs.map some, P⟩ F' H' σ' env' As' → Rep K R F' H' v d B → Own ⟨H, F, fun a => ∃ i, a ∈ As i, vs.map some, P⟩ As' B → Qd d env' → Q v H') ∧
  (∀ F' H' σ' env' As' cls dx x, Ok K R ⟨H, F, fun a => ∃ i, a ∈ As i, vs.map some, P⟩ F' H' σ' env' As' → RepX K R F' cls dx x → Ed x env' → E cls dx H')
section
variable {K : PySem.W.Frag} {R : RT} {F H : Hp}
theorem EnvR.pad {vs : List V} {ds : List D} {As : Nat → List Addr} (h : EnvR K R F H (vs.map some) (ds.map some) As) (m : Nat) : EnvR K R F H (vs.map some ++ List.replicate m none) (pad m ds) As := by
  have hl : vs.length = ds.length := by simpa using h.len
  have out : ∀ {i : Nat} {d : D}, (DL.pad m ds)[i]? = some (some d) → (ds.map some)[i]? = some (some d) := fun {i d} e => by
    unfold DL.pad at e
    by_cases hi : i < (ds.map some).length
    · rwa [List.getElem?_append_left hi] at e
    · rw [List.getElem?_append_right (by omega)] at e
      have := List.mem_of_getElem? e
      rw [List.mem_replicate] at this
      cases this.2
  refine ⟨by simp [DL.pad, hl], fun i d e => ?_, fun i hi => h.emp i fun d e => hi d ?_, h.dis, h.nod⟩
  · obtain ⟨v, e1, r⟩ := h.val i d (out e)
    refine ⟨v, ?_, r⟩
    rw [List.getElem?_append_left (List.getElem?_eq_some_iff.mp e1).1]
    exact e1
  · unfold DL.pad
    rw [List.getElem?_append_left (List.getElem?_eq_some_iff.mp e).1]
    exact e
theorem EnvR.args {vs : List V} {ds : List D} (h : RepL K R F H vs ds []) : EnvR K R F H (vs.map some) (ds.map some) (fun _ => []) := by
  refine ⟨by simp [h.length], fun i d e => ?_, fun _ _ => rfl, fun _ _ _ _ z => (by cases z), fun _ => List.nodup_nil⟩
  rw [List.getElem?_map] at e
  cases hd : ds[i]? with
  | none => rw [hd] at e; cases e
  | some d' =>
    rw [hd] at e
    cases e
    obtain ⟨v, B, hv, r, sl⟩ := h.get hd
    have eB : B = [] := List.sublist_nil.mp sl
    subst eB
    exact ⟨v, by rw [List.getElem?_map, hv]; rfl, r⟩
theorem Ok.pinned {C : Ba} {F' H' : Hp} {σ : L2.St} {env : Sl} {As : Nat → List Addr} {σ0 : L2.St} (h : Ok K R C F' H' σ env As) (e : ∀ i ∈ C.P, C.σ0[i]? = σ0[i]?) : Ok K R ⟨C.H0, C.F0, C.A0, σ0, C.P⟩ F' H' σ env As :=
  ⟨h.er, h.fh, h.kp, h.tr, h.kf, h.fr, h.ow, fun i hi => (h.pin i hi).trans (e i hi)⟩
theorem Ok.init {vs : List V} {ds : List D} {As : Nat → List Addr} {m : Nat} {P : List Nat} (s : Same F H) (h : EnvR K R F H (vs.map some) (ds.map some) As) : Ok K R ⟨H, F, fun a => ∃ i, a ∈ As i, vs.map some ++ List.replicate m none, P⟩ F H (vs.map some ++ List.replicate m none) (pad m ds) As :=
  ⟨h.pad m, s, fun _ _ e _ => e, fun a o e => ⟨o, e⟩, .refl _, fun _ _ _ _ => rfl, fun i a ha => .inl ⟨i, ha⟩, fun _ _ => rfl⟩
end
theorem fn_d {Pg : Program} {w : World} {K : PySem.W.Frag} {mg : Str → Option Value} {base : Heap} {R : RT} {Pm : List Nat} {m : Nat} {b : TSd} {x qual : Str} {st : Stmt} {f : Addr} {fd : FuncData} {N ps : List Str} {k : Nat} (F : Fun K x qual st f fd) (S : FnScope N ps (defScope st))
    (hm : N.length - ps.length = m) (hP : ∀ i ∈ Pm, i < ps.length)
    (h : ∀ (cdv : Value) (A : Around) (outer : List Env) (s : Shared) (H : Hp) (E : XK), Room k (A.deeper (envOfC qual (defScope st) s.heap.objs.size f cdv)) → DSs (cxOf (L2.CX Pg w) Pg w K mg base N qual (defScope st) f cdv A outer s H E) R Pm (defBody st) b) :
    FnOk Pg w K mg base (L2.CX Pg w) (k + 1) f fd ps (toSp K R Pm ps.length (spB m b)) := by
  refine F.okX S (fun vs H Q E h => ?_) (fun cdv A outer s H vs Q E hr h0 => ?_)
  · obtain ⟨F, ds, As, Qd, Ed, hl, _⟩ := h
    exact hl
  · obtain ⟨F, ds, As, Qd, Ed, hl, sf, er, emp, hsp, k1, k2⟩ := h0
    obtain ⟨ts, h1, h2⟩ := h cdv A outer s H E hr (fun cls d _ H => E cls d H) (takes_of rfl rfl rfl rfl)
    have em : N.length - vs.length = m := by rw [hl]; exact hm
    have pn : ∀ i ∈ Pm, (vs.map some ++ List.replicate m none : L2.St)[i]? = (vs.map some)[i]? := fun i hi => List.getElem?_append_left (by rw [List.length_map, hl]; exact hP i hi)
    refine ⟨ts, h1, ?_⟩
    have est : L2.start N vs = vs.map some ++ List.replicate m none := by unfold L2.start; rw [em]
    rw [est]
    refine h2 ⟨H, F, fun a => ∃ i, a ∈ As i, vs.map some ++ List.replicate m none, Pm⟩ F H _ (pad m ds) As _ { nx := fun env => Qd .non env, rt := Qd, ex := Ed } rfl (Ok.init sf er) ?_ hsp
    refine ⟨fun F1 H1 σ1 env1 As1 ok q => k1 F1 H1 σ1 env1 As1 _ _ [] (ok.pinned pn) (.sc .non) .nil q, fun F1 H1 σ1 env1 As1 v d B ok r o q => k1 F1 H1 σ1 env1 As1 v d B (ok.pinned pn) r o q, fun _ _ _ _ _ _ q => q.elim, fun _ _ _ _ _ _ q => q.elim,
      fun F1 H1 σ1 env1 As1 cls dx x ok r q => k2 F1 H1 σ1 env1 As1 cls dx x (ok.pinned pn) r q⟩

/-! ## calls -/
section
variable {X : Cx} {CX : CXT} {k : Nat} {f C : Addr} {fd : FuncData} {ps : List Str} {sp : Sp} {E : St → XK} {x m : Str} {p pos apos : Pos} {e o : Expr} {es : List Expr} {ta : TE} {t : TA} {dvs : List V} {dds : List Value}
theorem run_fnD {pins : List (Addr × Obj)} {σ : St} {H : Hp} {s : Shared} {Q : VK} {us : List Value} {vs : List V} (F : FnOk X.prog X.w X.K X.mg X.base CX k f fd ps sp) (hr : Room k X.A) (hb : Binds X.K fd ps dds) (hd : Vals dvs dds) (hx : PassesAt CX X σ (E σ))
    (I : Inv X pins σ H s) (r : Vals vs us) (h : sp (vs ++ dvs) H Q (E σ)) : wpAny (model X.prog X.w) X.A (call (.ref f) us) (EP X pins σ Q) X.xe s := by
  have r2 : Vals (vs ++ dvs) (us ++ dds) := r.append hd
  have hl : (us ++ dds).length = ps.length := by rw [← r2.length]; exact F.len _ _ _ _ h
  refine wpAny_call (codeAny_mono (F.run X.A X.stack s H ⟨us, []⟩ (us ++ dds) (vs ++ dvs) Q (E σ) hr I.env0 (hb s us I.kIn hl) r2 h) fun r s' hq => ?_)
  cases r with
  | error e => exact hx pins H s e s' I hq
  | ok fl =>
    cases fl with
    | ret u => exact I.after hq
    | next => exact False.elim hq
    | brk => exact False.elim hq
    | cont => exact False.elim hq
def tCallD (sp : Sp) (dvs : List V) (E : St → XK) (t : TA) : TE := fun σ H Q => t σ H fun vs H1 => sp (vs ++ dvs) H1 Q (E σ)
theorem pe_callD (F : FnOk X.prog X.w X.K X.mg X.base CX k f fd ps sp) (hr : Room k X.A) (hg : Gl X x) (hm : X.mg x = some (.ref f)) (hk : PySem.W.keepIn X.K (.ref f) = true) (hb : Binds X.K fd ps dds) (hd : Vals dvs dds) (hx : ∀ σ, PassesAt CX X σ (E σ))
    (ha : PA X (e :: es) t) (hdb : (x == ("__debug__" : Str)) = false := by decide) (he : starEach (e :: es) X.env = (false, eval e X.env) :: starEach es X.env := by rfl) (hpl : (backTo pos (starEach es X.env)).any (·.1) = false := by rfl) :
    PE X (.Call (.Name x p) (e :: es) [] pos) (tCallD sp dvs E t) := by
  refine ⟨fun pins s σ H Q I h => ?_⟩
  refine wpAny_Call_Name_kw (ld_glob I hg hm ?_ hdb)
  refine PySem.W.callWith_K (h₀ := X.base) I.ok.mod.kin hk (thn (ha.run pos pins s σ H _ I h) fun us s1 ⟨vs, H1, I1, r, q⟩ => ⟨I1.kIn, ?_⟩) he hpl
  exact run_fnD F hr hb hd (hx σ) I1 r q
end
mutual
def noC : D → Bool
  | .sc _ => true
  | .nd k ds => !k.cold && noCL ds
def noCL : List D → Bool
  | [] => true
  | d :: r => noC d && noCL r
end
def isSc : D → Bool
  | .sc _ => true
  | _ => false
section
variable {K : PySem.W.Frag} {R : RT} {F F' H H' : Hp}
def flatO : HO → Prop
  | .tup _ => False
  | .xd _ => False
  | _ => True
mutual
theorem Rep.kinds {v : V} {d : D} {A : List Addr} (h : Rep K R F H v d A) : ∀ a ∈ A, ∃ o, H a = some o ∧ flatO o :=
  match h with
  | .sc s => fun _ z => by cases z
  | .fz h1 h2 h3 => RepL.kinds h2
  | .ow (k := k) h1 h2 h3 => fun a ha => by
    rcases List.mem_cons.mp ha with e | ha
    · rw [e]
      cases k with
      | lst o => exact ⟨_, h1.2, trivial⟩
      | scr => exact h1.elim
      | tup => exact h1.elim
      | dct o ks => exact ⟨_, h1.2.2, trivial⟩
      | dcT o ks => exact ⟨_, h1.2.2, trivial⟩
      | ins o c =>
        obtain ⟨_, _, dx, h4⟩ := h1
        exact ⟨_, h4, trivial⟩
    · exact RepL.kinds h3 a ha
theorem RepL.kinds {v : List V} {d : List D} {A : List Addr} (h : RepL K R F H v d A) : ∀ a ∈ A, ∃ o, H a = some o ∧ flatO o :=
  match h with
  | .nil => fun _ z => by cases z
  | .cons h1 h2 => fun a ha => (List.mem_append.mp ha).elim (Rep.kinds h1 a) (RepL.kinds h2 a)
end
mutual
theorem Rep.thaw {v : V} {d : D} {A : List Addr} (h : Rep K R F H v d A) : noC d = true → (∀ a vs, F a = some (.tup vs) → F' a = some (.tup vs)) → (∀ a, F a = none → F' a = none) → Rep K R F' H v d A := fun n g1 g2 =>
  match h with
  | .sc s => .sc s
  | .fz (k := k) h1 h2 h3 => by
    rw [noC, Bool.and_eq_true] at n
    have ek : k = .tup := (StF.cold h1).elim id fun z => by rw [z] at n; cases n.1
    subst ek
    refine .fz (k := .tup) ?_ (RepL.thaw h2 n.2 g1 g2) (h3.imp (fun z => ⟨rfl, g1 _ _ z.2⟩) id)
    rcases h1 with h1 | h1
    · exact .inl (g1 _ _ h1)
    · exact .inr h1
  | .ow h1 h2 h3 => by
    rw [noC, Bool.and_eq_true] at n
    exact .ow h1 (g2 _ h2) (RepL.thaw h3 n.2 g1 g2)
theorem RepL.thaw {v : List V} {d : List D} {A : List Addr} (h : RepL K R F H v d A) : noCL d = true → (∀ a vs, F a = some (.tup vs) → F' a = some (.tup vs)) → (∀ a, F a = none → F' a = none) → RepL K R F' H v d A := fun n g1 g2 =>
  match h with
  | .nil => .nil
  | .cons h1 h2 => by
    rw [noCL, Bool.and_eq_true] at n
    exact .cons (Rep.thaw h1 n.1 g1 g2) (RepL.thaw h2 n.2 g1 g2)
end
theorem RepL.scs : ∀ {vs : List V} {ds : List D} {A : List Addr}, RepL K R F H vs ds A → ds.all isSc = true → RepL K R F' H' vs ds A
  | _, _, _, .nil, _ => .nil
  | _, _, _, .cons a b, h => by
    rw [List.all_cons, Bool.and_eq_true] at h
    cases a with
    | sc s => exact .cons (.sc s) (RepL.scs b h.2)
    | fz _ _ _ => cases h.1
    | ow _ _ _ => cases h.1
/-- arguments that the callee may only look at -/
theorem lend {vs : List V} {ds : List D} {B : List Addr} (s : Same F H) (r : RepL K R F H vs ds B) :
    ∃ F', Same F F' ∧ Same F' H ∧ RepL K R F' H vs (frzL ds) [] ∧ (∀ a, a ∉ B → F' a = F a) ∧ ∀ a ∈ B, F' a = H a := by
  let F' : Hp := fun a => if a ∈ B then H a else F a
  have e1 : ∀ a ∈ B, F' a = H a := fun a h => if_pos h
  have e2 : ∀ a, a ∉ B → F' a = F a := fun a h => if_neg h
  have s1 : Same F F' := fun a o q => by
    by_cases h : a ∈ B
    · rw [e1 a h]; exact s a o q
    · rw [e2 a h]; exact q
  refine ⟨F', s1, fun a o q => ?_, r.frz s1 e1, e2, e1⟩
  by_cases h : a ∈ B
  · rwa [e1 a h] at q
  · rw [e2 a h] at q; exact s a o q
end
theorem EnvR.argsD {K : PySem.W.Frag} {R : RT} {F H : Hp} {vs : List V} {ds : List D} (h : RepL K R F H vs ds []) (xs : List Sc) : RepL K R F H (vs ++ xs.map encS) (ds ++ xs.map .sc) [] := by
  have : RepL K R F H (xs.map encS) (xs.map D.sc) [] := by
    induction xs with
    | nil => exact .nil
    | cons a r ih => exact RepL.cons (A := []) (B := []) (.sc a) ih
  exact h.append this
/-- f(..): what is handed over is given away -/
def dCall (n : Nat) (sp : SPD) (xs : List Sc) (ta : TAd) : TEd := fun env Q E => ta env (fun ds => ds.length + xs.length = n ∧ sp (frzL ds ++ xs.map .sc) (fun d _ => Q false d) (fun x _ => E x)) E
/-- f(..): what is handed over is looked at; what comes back holds nothing of it -/
def dCallL (n : Nat) (sp : SPD) (xs : List Sc) (ta : TAd) : TEd := fun env Q E => ta env (fun ds => ds.length + xs.length = n ∧ sp (frzL ds ++ xs.map .sc) (fun d _ => noC d = true ∧ Q false d) (fun x _ => x.args.all isSc = true ∧ E x)) E
section
variable {X : Cx} {R : RT} {k n : Nat} {f : Addr} {fd : FuncData} {ps : List Str} {sp : SPD} {x : Str} {p pos : Pos} {e : Expr} {es : List Expr} {ta : TAd} {dds : List Value}
theorem vals_sc {xs : List Sc} {ds : List Value} (h : Vals (xs.map encS) ds) : Vals (xs.map encS) ds := h
theorem de_call (F : FnOk X.prog X.w X.K X.mg X.base (L2.CX X.prog X.w) k f fd ps (toSp X.K R [] n sp)) (hr : Room k X.A) (hm : X.mg x = some (.ref f)) (hk : PySem.W.keepIn X.K (.ref f) = true) {xs : List Sc} (hb : Binds X.K fd ps dds) (hd : Vals (xs.map encS) dds) (h : DA X R (e :: es) ta)
    (hg : Gl X x := by rfl) (hdb : (x == ("__debug__" : Str)) = false := by decide) (he : starEach (e :: es) X.env = (false, eval e X.env) :: starEach es X.env := by rfl) (hpl : (backTo pos (starEach es X.env)).any (·.1) = false := by rfl) :
    DE X R (.Call (.Name x p) (e :: es) [] pos) (dCall n sp xs ta) := fun W tk => by
  obtain ⟨_, a1, a2⟩ := h W tk
  refine ⟨_, pe_callD F hr hg hm hk hb hd (fun σ => passAt tk σ) a1 hdb he hpl, fun F0 H0 σ env As Q Qd Ed s er h q x => ?_⟩
  refine a2 F0 H0 σ env As _ _ Ed s er h (fun F1 H1 vs ds B g r fr hq => ?_) x
  obtain ⟨hl, hq⟩ := hq
  obtain ⟨F', s1, s2, r', e2, e1⟩ := lend g.fh r
  have rr := EnvR.argsD r' xs
  have k1 : ∀ {F2 H2 σ2 env2 As2}, Ok X.K R ⟨H1, F', fun a => ∃ i, a ∈ (fun _ => ([] : List Addr)) i, (vs ++ xs.map encS).map some, []⟩ F2 H2 σ2 env2 As2 → Grow F0 H0 F2 H2 := fun {F2 H2 σ2 env2 As2} ok => by
    have na : ∀ a : Addr, ¬ ∃ i : Nat, a ∈ (fun _ : Nat => ([] : List Addr)) i := fun a ⟨i, z⟩ => by cases z
    refine ⟨g.hh.trans fun a o q => ok.kp a o q (na a), (g.ff.trans s1).trans ok.kf, ok.fh, fun a o q => ?_⟩
    have hb : a ∉ B := fun z => by rw [fr.2 a z] at q; cases q
    rw [ok.fr a o (g.hh a o q) (na a)]
    show F' a = F0 a
    rw [e2 a hb, g.nw a o q]
  refine ⟨F', _, fun _ => [], _, _, ?_, s2, EnvR.args rr, fun _ _ => rfl, hq, fun F2 H2 σ2 env2 As2 v d B2 ok r2 o2 q2 => ?_, fun F2 H2 σ2 env2 As2 cls dx xx ok rx qx => ?_⟩
  · rw [List.length_append, List.length_map, r.length]; exact hl
  · refine q F2 H2 v d B2 false (k1 ok) r2 (fun _ => ⟨o2.1, fun a ha => ?_⟩) q2
    rcases o2.2.1 a ha with ⟨i, z⟩ | z
    · cases z
    · exact g.free z
  · exact x F2 H2 cls dx xx (k1 ok) rx qx
theorem de_callL (F : FnOk X.prog X.w X.K X.mg X.base (L2.CX X.prog X.w) k f fd ps (toSp X.K R [] n sp)) (hr : Room k X.A) (hm : X.mg x = some (.ref f)) (hk : PySem.W.keepIn X.K (.ref f) = true) {xs : List Sc} (hb : Binds X.K fd ps dds) (hd : Vals (xs.map encS) dds) (h : DB X R (e :: es) ta)
    (hg : Gl X x := by rfl) (hdb : (x == ("__debug__" : Str)) = false := by decide) (he : starEach (e :: es) X.env = (false, eval e X.env) :: starEach es X.env := by rfl) (hpl : (backTo pos (starEach es X.env)).any (·.1) = false := by rfl) :
    DE X R (.Call (.Name x p) (e :: es) [] pos) (dCallL n sp xs ta) := fun W tk => by
  obtain ⟨_, a1, a2⟩ := h W tk
  refine ⟨_, pe_callD F hr hg hm hk hb hd (fun σ => passAt tk σ) a1 hdb he hpl, fun F0 H0 σ env As Q Qd Ed s er h q x => ?_⟩
  refine a2 F0 H0 σ env As _ _ Ed s er h (fun F1 H1 vs ds B g r hq => ?_) x
  obtain ⟨hl, hq⟩ := hq
  obtain ⟨F', s1, s2, r', e2, e1⟩ := lend g.fh r
  have rr := EnvR.argsD r' xs
  have na : ∀ a : Addr, ¬ ∃ i : Nat, a ∈ (fun _ : Nat => ([] : List Addr)) i := fun a ⟨i, z⟩ => by cases z
  have key : ∀ {F2 H2 σ2 env2 As2}, Ok X.K R ⟨H1, F', fun a => ∃ i, a ∈ (fun _ => ([] : List Addr)) i, (vs ++ xs.map encS).map some, []⟩ F2 H2 σ2 env2 As2 →
      ∃ F3, Grow F0 H0 F3 H2 ∧ (∀ a vs, F2 a = some (.tup vs) → F3 a = some (.tup vs)) ∧ (∀ a, F2 a = none → F3 a = none) ∧ ∀ a fs, F2 a = some (.xd fs) → F3 a = some (.xd fs) := fun {F2 H2 σ2 env2 As2} ok => by
    have at2 : ∀ a ∈ B, ∃ o, F2 a = some o ∧ flatO o := fun a ha => by
      obtain ⟨o, ho, hf⟩ := r.kinds a ha
      exact ⟨o, ok.kf a o (by show F' a = some o; rw [e1 a ha]; exact ho), hf⟩
    let F3 : Hp := fun a => if a ∈ B then F1 a else F2 a
    have f1 : ∀ a, a ∈ B → F3 a = none := fun a h => by show (if a ∈ B then F1 a else F2 a) = none; rw [if_pos h]; exact (r.own a h).2
    have f2 : ∀ a, a ∉ B → F3 a = F2 a := fun a h => if_neg h
    refine ⟨F3, g.trans ⟨fun a o q => ok.kp a o q (na a), fun a o q => ?_, fun a o q => ?_, fun a o q => ?_⟩, fun a vs q => ?_, fun a q => ?_, fun a fs q => ?_⟩
    · have hb : a ∉ B := fun z => by rw [(r.own a z).2] at q; cases q
      rw [f2 a hb]
      exact ok.kf a o (s1 a o q)
    · have hb : a ∉ B := fun z => by rw [f1 a z] at q; cases q
      rw [f2 a hb] at q
      exact ok.fh a o q
    · by_cases hb : a ∈ B
      · exact if_pos hb
      · rw [f2 a hb, ok.fr a o q (na a)]
        exact e2 a hb
    · have hb : a ∉ B := fun z => by
        obtain ⟨o, ho, hf⟩ := at2 a z
        rw [ho] at q
        cases q
        exact hf
      rw [f2 a hb]; exact q
    · by_cases hb : a ∈ B
      · exact f1 a hb
      · rw [f2 a hb]; exact q
    · have hb : a ∉ B := fun z => by
        obtain ⟨o, ho, hf⟩ := at2 a z
        rw [ho] at q
        cases q
        exact hf
      rw [f2 a hb]; exact q
  refine ⟨F', _, fun _ => [], _, _, ?_, s2, EnvR.args rr, fun _ _ => rfl, hq, fun F2 H2 σ2 env2 As2 v d B2 ok r2 o2 q2 => ?_, fun F2 H2 σ2 env2 As2 cls dx xx ok rx qx => ?_⟩
  · rw [List.length_append, List.length_map, r.length]; exact hl
  · obtain ⟨F3, g3, t1, t2, t3⟩ := key ok
    refine q F3 H2 v d B2 false g3 (r2.thaw q2.1 t1 t2) (fun _ => ⟨o2.1, fun a ha => ?_⟩) q2.2
    rcases o2.2.1 a ha with ⟨i, z⟩ | z
    · cases z
    · exact g.free z
  · obtain ⟨F3, g3, t1, t2, t3⟩ := key ok
    refine x F3 H2 cls dx xx g3 ⟨rx.1, ?_⟩ qx.2
    rcases rx.2 with z | ⟨d, vs, z1, z2, z3, z4⟩
    · exact .inl z
    · exact .inr ⟨d, vs, z1, z2, t3 _ _ z3, z4.scs qx.1⟩
end
end DL

set_option Elab.async false
set_option linter.all false
set_option maxRecDepth 100000
set_option maxHeartbeats 1000000
namespace DL
open PySem PySem.Spec L2

/-! ## stores -/
def putD : D → D → D → (D → Prop) → Prop
  | .nd (.lst true) xs, .sc (.int z), y, Q => ∃ j, ixN xs.length z = some j ∧ Q (.nd (.lst true) (xs.set j y))
  | .nd (.dct true ks) xs, .sc s, y, Q => ∃ k, keyS s = some k ∧ ks.length < 1000000 ∧ match posOf ks k with
    | some j => ks.Nodup ∧ Q (.nd (.dct true ks) (xs.set j y))
    | none => Q (.nd (.dct true (ks ++ [k])) (xs ++ [y]))
  | _, _, _, _ => False
/-- path[e] = v -/
def dSub (i : Nat) (pd : TPd) (te tv : TEd) : TSd := fun D env => tv env (fun b y => safe b y ∧ pd env (fun p => te env (fun _ e => atP i env p fun d dp => putD dp e y fun dp' => D.nx (env.set i (some (setP p d dp')))) (fun x => D.ex x env)) (fun x => D.ex x env)) (fun x => D.ex x env)
/-- path.f = v -/
def putFl (c j : Nat) : D → D → (D → Prop) → Prop
  | .nd (.ins true c') xs, y, Q => c' = c ∧ (j < xs.length ∧ Q (.nd (.ins true c) (xs.set j y)) ∨ (j = xs.length ∧ Q (.nd (.ins true c) (xs ++ [y]))))
  | _, _, _ => False
def dSfl (i : Nat) (pd : TPd) (c j : Nat) (tv : TEd) : TSd := fun D env => tv env (fun b y => safe b y ∧ pd env (fun p => atP i env p fun d dp => putFl c j dp y fun dp' => D.nx (env.set i (some (setP p d dp')))) (fun x => D.ex x env)) (fun x => D.ex x env)
section
variable {K : PySem.W.Frag} {R : RT} {F H : Hp}
theorem RepL.put : ∀ {vs : List V} {ds : List D} {A : List Addr} {j : Nat}, RepL K R F H vs ds A → j < ds.length → ∃ A1 Aj A2, A = A1 ++ (Aj ++ A2) ∧ ∀ v' d' B, Rep K R F H v' d' B → RepL K R F H (vs.set j v') (ds.set j d') (A1 ++ (B ++ A2))
  | _, _, _, _, .nil, h => by simp at h
  | _, _, _, 0, .cons (A := A0) (B := B0) a b, h => ⟨[], A0, B0, rfl, fun v' d' B r => RepL.cons (A := B) (B := B0) r b⟩
  | _, _, _, j + 1, .cons (A := A0) a b, h => by
    obtain ⟨A1, Aj, A2, e, k⟩ := RepL.put b (j := j) (by simpa using h)
    refine ⟨A0 ++ A1, Aj, A2, by rw [e, List.append_assoc], fun v' d' B r => ?_⟩
    rw [List.append_assoc]
    exact .cons a (k v' d' B r)
theorem renode {a : Addr} {A B C : List Addr} {vs : List V} {xs : List D} {k : Kind} {o : HO} (s : Same F H) (hF : F a = none) (nA : (a :: A).Nodup) (st : StO R (upd H a o) a k vs) (ra : RepL K R F H vs xs C) (sub : ∀ b ∈ C, b ∈ A ∨ b ∈ B) (hB : ∀ b ∈ B, b ∉ a :: A) :
    Rep K R F (upd H a o) (.ref a) (.nd k xs) (a :: C) ∧ Same F (upd H a o) ∧ (∀ b, b ∉ a :: A → upd H a o b = H b) ∧ (∀ b, b ∈ a :: A → (∃ o, H b = some o) → ∃ o', upd H a o b = some o') ∧ a ∉ C := by
  have ha : a ∉ C := fun z => by
    rcases sub a z with y | y
    · exact (List.nodup_cons.mp nA).1 y
    · exact hB a y List.mem_cons_self
  have s' : Same F (upd H a o) := fun b o e => by
    rw [upd_ne (fun z => by rw [z, hF] at e; cases e)]
    exact s b o e
  refine ⟨.ow st hF (ra.mono (.refl _) fun b hb => ⟨upd_ne (fun z => ha (z ▸ hb)), (ra.own b hb).2⟩), s', fun b hb => upd_ne (fun z => hb (by rw [z]; exact List.mem_cons_self)), fun b _ e => ?_, ha⟩
  by_cases z : b = a
  · subst z; exact ⟨_, upd_same⟩
  · rw [upd_ne z]; exact e
theorem dct_own {w : V} {ks : List DK} {xs : List D} {A : List Addr} (r : Rep K R F H w (.nd (.dct true ks) xs) A) : ∃ a vs A', w = .ref a ∧ A = a :: A' ∧ ks.length = vs.length ∧ H a = some (.dK (zipK ks vs)) ∧ F a = none ∧ RepL K R F H vs xs A' := by
  cases r with
  | fz h1 h2 h3 => exact absurd h1.1 (by decide)
  | ow h1 h2 h3 => exact ⟨_, _, _, rfl, rfl, h1.2.1, h1.2.2, h2, h3⟩
theorem ins_own {w : V} {c : Nat} {xs : List D} {A : List Addr} (r : Rep K R F H w (.nd (.ins true c) xs) A) : ∃ a dx vs A', w = .ref a ∧ A = a :: A' ∧ vs.length ≤ (R.lay c).length ∧ H a = some (.ins (R.cls c) dx ((R.lay c).zip vs)) ∧ F a = none ∧ RepL K R F H vs xs A' := by
  cases r with
  | fz h1 h2 h3 => exact absurd h1.1 (by decide)
  | ow h1 h2 h3 =>
    obtain ⟨_, h4, dx, h5⟩ := h1
    exact ⟨_, dx, _, _, rfl, rfl, h4, h5, h2, h3⟩
theorem valV_pos : ∀ {ks : List DK} {vs : List V} {k : DK}, ks.length = vs.length → (valV (zipK ks vs) (key k)).isSome = (posOf ks k).isSome
  | [], [], _, _ => rfl
  | a :: ks, v :: vs, k, hl => by
    have ih := valV_pos (ks := ks) (vs := vs) (k := k) (by simpa using hl)
    rw [posOf]
    by_cases e : a = k
    · rw [if_pos e, show zipK (a :: ks) (v :: vs) = (key a, v) :: zipK ks vs from rfl, L2.valV_pos (p := (key a, v)) (by rw [e])]; rfl
    · rw [if_neg e, show zipK (a :: ks) (v :: vs) = (key a, v) :: zipK ks vs from rfl, L2.valV_neg (p := (key a, v)) (fun z => e (key_inj z)), ih]
      cases posOf ks k <;> rfl
theorem putK_no {ks : List DK} {vs : List V} {k : DK} {v : V} (hl : ks.length = vs.length) (h : posOf ks k = none) : putK (zipK ks vs) (key k) v = zipK (ks ++ [k]) (vs ++ [v]) := by
  have e := valV_pos (k := k) hl
  rw [h] at e
  rw [putK_new v (Option.isNone_iff_eq_none.mp (by simpa using e))]
  unfold zipK
  rw [List.map_append, List.zip_append (by simpa using hl)]
  rfl
theorem map_no : ∀ {ks : List DK} {vs : List V} {k : DK} {v : V}, k ∉ ks → (zipK ks vs).map (fun kv => if kv.1 = key k then (kv.1, v) else kv) = zipK ks vs
  | [], _, _, _, _ => rfl
  | _ :: _, [], _, _, _ => by simp [zipK]
  | a :: ks, u :: vs, k, v, h => by
    have ne : a ≠ k := fun e => h (by rw [e]; exact List.mem_cons_self)
    rw [show zipK (a :: ks) (u :: vs) = (key a, u) :: zipK ks vs from rfl, List.map_cons, if_neg (fun z => ne (key_inj z)), map_no fun z => h (List.mem_cons_of_mem _ z)]
theorem posOf_none {κ : Type} [DecidableEq κ] : ∀ {ks : List κ} {k : κ}, posOf ks k = none ↔ k ∉ ks
  | [], k => by simp [posOf]
  | a :: ks, k => by
    rw [posOf]
    by_cases e : a = k
    · subst e; simp
    · rw [if_neg e]
      rw [Option.map_eq_none_iff, posOf_none]
      simp [Ne.symm e]
theorem putK_at : ∀ {ks : List DK} {vs : List V} {k : DK} {v : V} {j : Nat}, ks.Nodup → ks.length = vs.length → posOf ks k = some j → putK (zipK ks vs) (key k) v = zipK ks (vs.set j v) := by
  intro ks vs k v j nd hl h
  have e := valV_pos (k := k) hl
  rw [h] at e
  unfold putK
  rw [if_pos (by rw [valV_any]; simpa using e)]
  induction ks generalizing vs j with
  | nil => cases h
  | cons a ks ih =>
    cases vs with
    | nil => simp at hl
    | cons u vs =>
      rw [posOf] at h
      rw [show zipK (a :: ks) (u :: vs) = (key a, u) :: zipK ks vs from rfl, List.map_cons]
      obtain ⟨n1, n2⟩ := List.nodup_cons.mp nd
      by_cases ea : a = k
      · rw [if_pos ea] at h
        cases h
        rw [if_pos (show (key a, u).1 = key k from congrArg key ea), map_no (fun z => n1 (by rw [ea]; exact z))]
        rfl
      · rw [if_neg ea] at h
        cases hp : posOf ks k with
        | none => rw [hp] at h; cases h
        | some j' =>
          rw [hp] at h
          cases h
          have hl' : ks.length = vs.length := by simpa using hl
          have e' := valV_pos (k := k) hl'
          rw [hp] at e'
          rw [if_neg (show ¬ (key a, u).1 = key k from fun z => ea (key_inj z)), ih n2 hl' hp e']
          rfl
theorem putF_zip : ∀ {fs : List Str} {vs : List V} {j : Nat} {f : Str} {v : V}, fs.Nodup → fs[j]? = some f → j ≤ vs.length → vs.length ≤ fs.length → putF f v (fs.zip vs) = fs.zip (if j < vs.length then vs.set j v else vs ++ [v])
  | [], _, _, _, _, _, h, _, _ => by simp at h
  | g :: fs, [], j, f, v, nd, h, hj, _ => by
    have ej : j = 0 := by simpa using hj
    subst ej
    have eg : g = f := by simpa using h
    subst eg
    rw [if_neg (by simp)]
    simp [putF]
  | g :: fs, u :: vs, 0, f, v, nd, h, _, _ => by
    have eg : g = f := by simpa using h
    subst eg
    rw [if_pos (by simp)]
    show (if g = g then (g, v) :: fs.zip vs else _) = _
    rw [if_pos rfl]
    rfl
  | g :: fs, u :: vs, j + 1, f, v, nd, h, hj, hl => by
    obtain ⟨n1, n2⟩ := List.nodup_cons.mp nd
    have hm : f ∈ fs := List.mem_of_getElem? (by simpa using h)
    have ne : ¬ g = f := fun e => n1 (by rw [e]; exact hm)
    have ih := putF_zip (v := v) n2 (j := j) (vs := vs) (by simpa using h) (by simpa using hj) (by simpa using hl)
    show (if g = f then _ else (g, u) :: putF f v (fs.zip vs)) = _
    rw [if_neg ne, ih]
    by_cases hlt : j < vs.length
    · rw [if_pos hlt, if_pos (by simpa using hlt)]; rfl
    · rw [if_neg hlt, if_neg (by simpa using hlt)]; rfl
end
/-! ### the rules -/
section
variable {X : Cx} {R : RT} {P : List Nat} {i : Nat} {o e v : Expr} {pd : TPd} {te tv : TEd} {pos pos' : Pos}
theorem ps_subS {t : TSet} {to ti tw : TE} (ho : PE X o to) (hi : PE X e ti) (hv : PE X v tw) (ht : PSet X t) (hs : swapsWith v (some (.Subscript o e pos')) pos.line X.env = pure false) :
    PS X (.Assign [.Subscript o e pos'] v pos) (fun D σ H => tw σ H fun v H1 => to σ H1 fun x H2 => ti σ H2 fun y H3 => t x y v H3 fun H4 => D.nx σ H4) := by
  refine ⟨fun pins s σ H D I h => ?_⟩
  refine wpAny_Assign_Subscript (thn (hv.run pins s σ H _ I h) fun r s1 ⟨v, H1, I1, rv, q1⟩ => thn (ho.run pins s1 σ H1 _ I1 q1) fun u s2 ⟨x, H2, I2, rx, q2⟩ => thn (hi.run pins s2 σ H2 _ I2 q2) fun iv s3 ⟨y, H3, I3, ry, q3⟩ => ?_) hs
  exact thn (ht pins s3 σ H3 x y v u iv r _ I3 rx ry rv q3) fun _ s4 ⟨H4, I4, q4⟩ => ⟨σ, H4, I4, q4⟩
theorem PSet.or {t u : TSet} (h1 : PSet X t) (h2 : PSet X u) : PSet X (fun o i v H Q => t o i v H Q ∨ u o i v H Q) := by
  intro pins s σ H o i v ov iv uu Q I ro ri rv h
  exact h.elim (fun h => h1 pins s σ H o i v ov iv uu Q I ro ri rv h) (fun h => h2 pins s σ H o i v ov iv uu Q I ro ri rv h)
/-- the place that a path means becomes another node, at the same place -/
theorem st_core {W : WX} {tw to ti : TE} {t : TSet} {pu : D → D → D → (D → Prop) → Prop} (h1 : LE X.K R W tw tv) (h2 : LP X.K R W i to pd) (h3 : LE X.K R W ti te)
    (br : ∀ (F H : Hp) (w : V) (dp : D) (A : List Addr) (ve : V) (ed : D) (Be : List Addr) (vy : V) (y : D) (B : List Addr) (Q : Hp → Prop) (Qd : D → Prop),
      Same F H → Rep X.K R F H w dp A → A.Nodup → Rep X.K R F H ve ed Be → Rep X.K R F H vy y B → B.Nodup → (∀ a ∈ B, a ∉ A) → pu dp ed y Qd →
      (∀ H' dp' A', (∀ b, b ∉ A → H' b = H b) → (∀ b ∈ A, ∃ o, H' b = some o) → Same F H' → Rep X.K R F H' w dp' A' → A'.Nodup → (∀ b ∈ A', b ∈ A ∨ b ∈ B) → Qd dp' → Q H') → t w ve vy H Q) :
    LS X.K R W P (fun D σ H => tw σ H fun v H1 => to σ H1 fun x H2 => ti σ H2 fun y H3 => t x y v H3 fun H4 => D.nx σ H4)
      (fun D env => tv env (fun b y => safe b y ∧ pd env (fun p => te env (fun _ e => atP i env p fun d dp => pu dp e y fun dp' => D.nx (env.set i (some (setP p d dp')))) (fun x => D.ex x env)) (fun x => D.ex x env)) (fun x => D.ex x env)) := by
  intro C F H σ env As Dh Dd eP ok E h
  refine h1 F H σ env As _ _ _ ok.fh ok.er h (fun F1 H1 vy y B b g1 r1 f1 hq => ?_) (E.exw ok)
  have ok1 := ok.grow g1
  have fB := Fresh.of_safe r1 f1 hq.1
  refine h2 F1 H1 σ env As _ _ _ ok1.fh ok1.er hq.2 (fun F2 H2 v w p d dp g2 ev ee hg wk hq => ?_) (E.exw ok1)
  have ok2 := ok1.grow g2
  refine h3 F2 H2 σ env As _ _ _ ok2.fh ok2.er hq (fun F3 H3 ve ed Be b3 g3 r3 f3 hq => ?_) (E.exw ok2)
  have ok3 := ok2.grow g3
  have hq := atP_of hq ee hg
  have ry := (r1.grow g2).grow g3
  obtain ⟨Ap, rp, sub, nAp, k⟩ := ok3.mutP ee ev hg (wk.grow g3.hh)
  have oB : Own C As B := ok.own fB
  refine br F3 H3 w dp Ap ve ed Be vy y B _ _ ok3.fh rp nAp r3 ry oB.1 (fun a ha hA => oB.2.2 i a ha (sub a hA)) hq fun H4 dp' A' e1 e2 e3 e4 e5 e6 e7 => ?_
  obtain ⟨As', ok4, _⟩ := k H4 dp' A' B oB e1 e2 e3 e4 e5 e6
  exact E.nx F3 H4 σ _ As' ok4 e7
theorem nodup3 {A1 Aj A2 B : List Addr} (n : (A1 ++ (Aj ++ A2)).Nodup) (nB : B.Nodup) (d : ∀ b ∈ B, b ∉ A1 ++ (Aj ++ A2)) : (A1 ++ (B ++ A2)).Nodup := by
  obtain ⟨n1, n2, n3⟩ := List.nodup_append.mp n
  obtain ⟨n4, n5, n6⟩ := List.nodup_append.mp n2
  refine List.nodup_append.mpr ⟨n1, List.nodup_append.mpr ⟨nB, n5, fun x hx y hy e => d x hx (by rw [e]; exact List.mem_append_right _ (List.mem_append_right _ hy))⟩, fun x hx y hy e => ?_⟩
  rcases List.mem_append.mp hy with hy | hy
  · exact d y hy (by rw [← e]; exact List.mem_append_left _ hx)
  · exact n3 x hx y (List.mem_append_right _ hy) e
theorem mem3 {A1 Aj A2 B : List Addr} {b : Addr} (h : b ∈ A1 ++ (B ++ A2)) : b ∈ A1 ++ (Aj ++ A2) ∨ b ∈ B := by
  rcases List.mem_append.mp h with h | h
  · exact .inl (List.mem_append_left _ h)
  · rcases List.mem_append.mp h with h | h
    · exact .inr h
    · exact .inl (List.mem_append_right _ (List.mem_append_right _ h))
theorem ds_sub (hu : X.A.units + 1 < cLine) (h1 : DE X R v tv) (h2 : DP X R i o pd) (h3 : DE X R e te) (hs : swapsWith v (some (.Subscript o e pos')) pos.line X.env = pure false := by rfl) :
    DS X R P (.Assign [.Subscript o e pos'] v pos) (dSub i pd te tv) := fun W tk => by
  obtain ⟨_, a1, a2⟩ := h1 W tk
  obtain ⟨_, b1, b2⟩ := h2 W tk
  obtain ⟨_, c1, c2⟩ := h3 W tk
  refine ⟨_, ps_subS b1 c1 a1 (PSet.or set_list (set_dict hu)) hs, st_core (t := fun o i v H Q => rSetL o i v H Q ∨ rSetD o i v H Q) (pu := putD) a2 b2 c2 fun F H w dp A ve ed Be vy y B Q Qd s rp nA re ry nB dB hq q => ?_⟩
  unfold putD at hq
  split at hq
  · rename_i xs z
    cases re
    obtain ⟨j, hj, hq⟩ := hq
    obtain ⟨a, us, A', rfl, rfl, ha, hF, rx⟩ := lst_own rp
    obtain ⟨A1, Aj, A2, eA, kk⟩ := rx.put (ixN_lt hj)
    have rn := kk vy _ B ry
    obtain ⟨k1, k2, k3, k4, k5⟩ := renode (k := .lst true) (o := .lst (us.set j vy)) s hF nA ⟨rfl, upd_same⟩ rn (fun b hb => by rw [eA]; exact mem3 hb) dB
    refine .inl ⟨a, us, z, j, rfl, rfl, ha, by rw [rx.length]; exact hj, q _ _ _ k3 (fun b hb => k4 b hb (rp.own b hb).1) k2 k1 ?_ ?_ hq⟩
    · refine List.nodup_cons.mpr ⟨k5, nodup3 (by rw [← eA]; exact (List.nodup_cons.mp nA).2) nB fun b hb hA => dB b hb (by rw [eA]; exact List.mem_cons_of_mem _ hA)⟩
    · intro b hb
      rcases List.mem_cons.mp hb with e | hb
      · exact .inl (by rw [e]; exact List.mem_cons_self)
      · exact (mem3 hb).imp (fun z => List.mem_cons_of_mem _ (by rw [eA]; exact z)) id
  · rename_i ks xs sc
    cases re
    obtain ⟨kk, hk, hl, hq⟩ := hq
    obtain ⟨a, us, A', rfl, rfl, hlen, ha, hF, rx⟩ := dct_own rp
    have hz : (zipK ks us).length < sizeLine := by
      unfold zipK
      rw [List.length_zip, List.length_map, hlen, Nat.min_self, sizeLine_eq]
      omega
    split at hq
    · rename_i j hj
      obtain ⟨nd, hq⟩ := hq
      have hjl : j < xs.length := by
        have : ∀ {l : List DK} {k : DK} {j : Nat}, posOf l k = some j → j < l.length := by
          intro l
          induction l with
          | nil => intro k j h; cases h
          | cons a r ih =>
            intro k j h
            rw [posOf] at h
            by_cases e : a = k
            · rw [if_pos e] at h; cases h; simp
            · rw [if_neg e] at h
              cases hp : posOf r k with
              | none => rw [hp] at h; cases h
              | some j' => rw [hp] at h; cases h; have := ih hp; simp; omega
        rw [← rx.length, ← hlen]
        exact this hj
      obtain ⟨A1, Aj, A2, eA, pp⟩ := rx.put hjl
      have rn := pp vy _ B ry
      obtain ⟨k1, k2, k3, k4, k5⟩ := renode (k := .dct true ks) (o := .dK (zipK ks (us.set j vy))) s hF nA ⟨rfl, by rw [List.length_set]; exact hlen, upd_same⟩ rn (fun b hb => by rw [eA]; exact mem3 hb) dB
      refine .inr ⟨a, _, rfl, ?_, q _ _ _ k3 (fun b hb => k4 b hb (rp.own b hb).1) k2 k1 ?_ ?_ hq⟩
      · rw [keyS_enc hk, ← putK_at nd hlen hj]
        exact DPut.k ha hz
      · refine List.nodup_cons.mpr ⟨k5, nodup3 (by rw [← eA]; exact (List.nodup_cons.mp nA).2) nB fun b hb hA => dB b hb (by rw [eA]; exact List.mem_cons_of_mem _ hA)⟩
      · intro b hb
        rcases List.mem_cons.mp hb with e | hb
        · exact .inl (by rw [e]; exact List.mem_cons_self)
        · exact (mem3 hb).imp (fun z => List.mem_cons_of_mem _ (by rw [eA]; exact z)) id
    · rename_i hj
      have rn : RepL X.K R F H (us ++ [vy]) _ (A' ++ (B ++ [])) := rx.append (.cons ry .nil)
      rw [List.append_nil] at rn
      obtain ⟨k1, k2, k3, k4, k5⟩ := renode (k := .dct true (ks ++ [kk])) (o := .dK (zipK (ks ++ [kk]) (us ++ [vy]))) s hF nA ⟨rfl, by simp [hlen], upd_same⟩ rn (fun b hb => List.mem_append.mp hb) dB
      refine .inr ⟨a, _, rfl, ?_, q _ _ _ k3 (fun b hb => k4 b hb (rp.own b hb).1) k2 k1 ?_ ?_ hq⟩
      · rw [keyS_enc hk, ← putK_no hlen hj]
        exact DPut.k ha hz
      · refine List.nodup_cons.mpr ⟨k5, List.nodup_append.mpr ⟨(List.nodup_cons.mp nA).2, nB, fun x hx y hy e => dB y hy (by rw [← e]; exact List.mem_cons_of_mem _ hx)⟩⟩
      · intro b hb
        rcases List.mem_cons.mp hb with e | hb
        · exact .inl (by rw [e]; exact List.mem_cons_self)
        · exact (List.mem_append.mp hb).imp (List.mem_cons_of_mem _) id
  · exact hq.elim
end
end DL

set_option Elab.async false
set_option linter.all false
set_option maxRecDepth 100000
set_option maxHeartbeats 1000000
namespace DL
open PySem PySem.Spec L2

/-! ## path.f = v -/
section
variable {X : Cx} {R : RT} {P : List Nat} {i : Nat} {o e v : Expr} {pd : TPd} {te tv : TEd} {pos pos' : Pos}
theorem ds_sfl {c j : Nat} {f : Str} (hcl : ClsF X.K R c) (hj : (R.lay c)[j]? = some f) (h1 : DE X R v tv) (h2 : DP X R i o pd) (hs : swapsWith v (some (.Attribute o f pos')) pos.line X.env = pure false := by rfl) :
    DS X R P (.Assign [.Attribute o f pos'] v pos) (dSfl i pd c j tv) := fun W tk => by
  obtain ⟨_, a1, a2⟩ := h1 W tk
  obtain ⟨_, b1, b2⟩ := h2 W tk
  refine ⟨_, ps_fld b1 a1 hs, ?_⟩
  intro C F H σ env As Dh Dd eP ok E h
  refine a2 F H σ env As _ _ _ ok.fh ok.er h (fun F1 H1 vy y B b g1 r1 f1 hq => ?_) (E.exw ok)
  have ok1 := ok.grow g1
  have fB := Fresh.of_safe r1 f1 hq.1
  refine b2 F1 H1 σ env As _ _ _ ok1.fh ok1.er hq.2 (fun F2 H2 v w p d dp g2 ev ee hg wk hq2 => ?_) (E.exw ok1)
  have ok2 := ok1.grow g2
  replace hq2 := atP_of hq2 ee hg
  clear hq
  have ry := r1.grow g2
  obtain ⟨Ap, rp, sub, nAp, k⟩ := ok2.mutP ee ev hg wk
  have oB : Own C As B := ok.own fB
  have dB : ∀ a ∈ B, a ∉ Ap := fun a ha hA => oB.2.2 i a ha (sub a hA)
  unfold putFl at hq2
  split at hq2
  · rename_i c' xs
    obtain ⟨rfl, hq⟩ := hq2
    obtain ⟨a, dx, us, A', rfl, rfl, hlen, ha, hF, rx⟩ := ins_own rp
    have hjl : j < (R.lay c').length := (List.getElem?_eq_some_iff.mp hj).1
    have hfew : ((R.lay c').zip us).length < 1000 := by
      rw [List.length_zip]
      have := hcl.few
      omega
    rcases hq with ⟨hlt, hq⟩ | ⟨rfl, hq⟩
    · obtain ⟨A1, Aj, A2, eA, pp⟩ := rx.put hlt
      have rn := pp vy _ B ry
      obtain ⟨k1, k2, k3, k4, k5⟩ := renode (k := .ins true c') (o := .ins (R.cls c') dx ((R.lay c').zip (us.set j vy))) ok2.fh hF nAp ⟨rfl, by rw [List.length_set]; exact hlen, dx, upd_same⟩ rn (fun b hb => by rw [eA]; exact mem3 hb) dB
      obtain ⟨As', ok4, _⟩ := k _ _ _ B oB k3 (fun b hb => k4 b hb (rp.own b hb).1) k2 k1
        (List.nodup_cons.mpr ⟨k5, nodup3 (by rw [← eA]; exact (List.nodup_cons.mp nAp).2) oB.1 fun b hb hA => dB b hb (by rw [eA]; exact List.mem_cons_of_mem _ hA)⟩)
        (fun b hb => by
          rcases List.mem_cons.mp hb with e | hb
          · exact .inl (by rw [e]; exact List.mem_cons_self)
          · exact (mem3 hb).imp (fun z => List.mem_cons_of_mem _ (by rw [eA]; exact z)) id)
      refine ⟨a, _, dx, _, rfl, ha, hcl.cls, hcl.no j f hj, hfew, ?_⟩
      rw [putF_zip hcl.nd hj (by rw [rx.length]; omega) hlen, if_pos (by rw [rx.length]; exact hlt)]
      exact E.nx F2 _ σ _ As' ok4 hq
    · have rn : RepL X.K R F2 H2 (us ++ [vy]) _ (A' ++ (B ++ [])) := rx.append (.cons ry .nil)
      rw [List.append_nil] at rn
      have hl1 : us.length < (R.lay c').length := by rw [rx.length]; exact hjl
      obtain ⟨k1, k2, k3, k4, k5⟩ := renode (k := .ins true c') (o := .ins (R.cls c') dx ((R.lay c').zip (us ++ [vy]))) ok2.fh hF nAp ⟨rfl, by rw [List.length_append]; exact hl1, dx, upd_same⟩ rn (fun b hb => List.mem_append.mp hb) dB
      obtain ⟨As', ok4, _⟩ := k _ _ _ B oB k3 (fun b hb => k4 b hb (rp.own b hb).1) k2 k1
        (List.nodup_cons.mpr ⟨k5, List.nodup_append.mpr ⟨(List.nodup_cons.mp nAp).2, oB.1, fun x hx y hy e => dB y hy (by rw [← e]; exact List.mem_cons_of_mem _ hx)⟩⟩)
        (fun b hb => by
          rcases List.mem_cons.mp hb with e | hb
          · exact .inl (by rw [e]; exact List.mem_cons_self)
          · exact (List.mem_append.mp hb).imp (List.mem_cons_of_mem _) id)
      refine ⟨a, _, dx, _, rfl, ha, hcl.cls, hcl.no _ f hj, hfew, ?_⟩
      rw [putF_zip hcl.nd hj (by rw [rx.length]; omega) hlen, if_neg (by rw [rx.length]; omega)]
      exact E.nx F2 _ σ _ As' ok4 hq
  · exact hq2.elim
end

/-! ## things of one's own are handed on -/
/-- expressions, some of them names whose things are moved -/
def LM (K : PySem.W.Frag) (R : RT) (W : WX) (mv : List Nat) (t : TA) (td : TAd) : Prop := ∀ (F H : Hp) (σ : L2.St) (env : Sl) (As : Nat → List Addr) (Q : List V → Hp → Prop) (Qd : List D → Prop) (Ed : EX → Prop),
  Same F H → EnvR K R F H σ env As → td env Qd Ed →
  (∀ F' H' vs ds B, Grow F H F' H' → RepL K R F' H' vs ds B → B.Nodup → (∀ a ∈ B, H a = none ∨ ∃ i ∈ mv, a ∈ As i) → Qd ds → Q vs H') → ExW K R W F H σ Ed → t σ H Q
def DM (X : Cx) (R : RT) (mv : List Nat) (es : List Expr) (td : TAd) : Prop := ∀ W, Takes X W → ∃ t, PA X es t ∧ LM X.K R W mv t td
def dConsV (i : Nat) (tr : TAd) : TAd := fun env Q E => match env[i]? with
  | some (some d) => tr env (fun ds => Q (d :: ds)) E
  | _ => False
def unsetL : List Nat → Sl → Sl
  | [], env => env
  | i :: r, env => unsetL r (env.set i none)
def dRetT (mv : List Nat) (ta : TAd) : TSd := fun D env => ta env (fun ds => ds.length ≤ 1000 ∧ D.rt (.tup ds) (unsetL mv env)) (fun x => D.ex x env)
theorem Ok.unsetL {K : PySem.W.Frag} {R : RT} {C : Ba} {F H : Hp} {σ : L2.St} : ∀ (mv : List Nat) {env : Sl} {As : Nat → List Addr}, Ok K R C F H σ env As → Ok K R C F H σ (unsetL mv env) (fun j => if j ∈ mv then [] else As j)
  | [], env, As, ok => by
    have e : (fun j => if j ∈ ([] : List Nat) then [] else As j) = As := by funext j; simp
    rw [e]
    exact ok
  | i :: r, env, As, ok => by
    have q := Ok.unsetL r (ok.unsetD i)
    have e : (fun j => if j ∈ r then [] else if j = i then [] else As j) = (fun j => if j ∈ i :: r then [] else As j) := by
      funext j
      by_cases h1 : j ∈ r
      · rw [if_pos h1, if_pos (List.mem_cons_of_mem _ h1)]
      · rw [if_neg h1]
        by_cases h2 : j = i
        · rw [if_pos h2, if_pos (by rw [h2]; exact List.mem_cons_self)]
        · rw [if_neg h2, if_neg (fun z => (List.mem_cons.mp z).elim h2 h1)]
    rw [e] at q
    exact q
section
variable {X : Cx} {R : RT} {P mv : List Nat} {i : Nat} {e : Expr} {es : List Expr} {te : TEd} {ta : TAd} {pos : Pos}
theorem dm_nil : DM X R [] [] dNil := fun W _ => ⟨_, pa_nil, fun F H σ env As Q Qd Ed s er h q x => q F H [] [] [] (.refl s) .nil List.nodup_nil (fun _ z => by cases z) h⟩
theorem dm_cons (h1 : DE X R e te) (h2 : DM X R mv es ta) (hs : starEach (e :: es) X.env = (false, eval e X.env) :: starEach es X.env := by rfl) : DM X R mv (e :: es) (dCons te ta) := fun W tk => by
  obtain ⟨_, a1, a2⟩ := h1 W tk
  obtain ⟨_, b1, b2⟩ := h2 W tk
  refine ⟨_, pa_cons a1 b1 hs, fun F H σ env As Q Qd Ed s er h q x => a2 F H σ env As _ _ Ed s er h (fun F1 H1 v d B b g1 r1 f1 hq => ?_) x⟩
  have fB := Fresh.of_safe r1 f1 hq.1
  refine b2 F1 H1 σ env As _ _ Ed g1.fh (er.grow g1) hq.2 (fun F2 H2 vs ds B2 g2 r2 n2 o2 hq => ?_) (x.grow g1)
  refine q F2 H2 (v :: vs) (d :: ds) (B ++ B2) (g1.trans g2) (.cons (r1.grow g2) r2) (List.nodup_append.mpr ⟨fB.1, n2, fun a ha b hb e => ?_⟩) (fun a ha => ?_) hq
  · subst e
    rcases o2 a hb with z | ⟨j, hj, z⟩
    · obtain ⟨⟨o, ho⟩, _⟩ := r1.own a ha
      rw [ho] at z; cases z
    · exact er.apart g1.hh fB.2 j a ha z
  · rcases List.mem_append.mp ha with ha | ha
    · exact .inl (fB.2 a ha)
    · exact (o2 a ha).imp g1.free id
theorem dm_consV {x : Str} {p : Pos} (i : Nat) (h2 : DM X R mv es ta) (hi : i ∉ mv := by decide) (hN : X.N[i]? = some x := by rfl) (hv : Vis X.env.scope x := by first | exact Or.inl rfl | exact Or.inr (Or.inl rfl) | exact Or.inr (Or.inr rfl)) (hd : (x == ("__debug__" : Str)) = false := by decide)
    (hcd : (x == ("__classdict__" : Str)) = false := by decide) (hs : starEach (.Name x p :: es) X.env = (false, eval (.Name x p) X.env) :: starEach es X.env := by rfl) : DM X R (i :: mv) (.Name x p :: es) (dConsV i ta) := fun W tk => by
  obtain ⟨_, b1, b2⟩ := h2 W tk
  refine ⟨_, pa_cons (pe_var hN hv hd hcd) b1 hs, fun F H σ env As Q Qd Ed s er h q x => ?_⟩
  unfold dConsV at h
  split at h
  · rename_i d ed
    obtain ⟨v, ev, r⟩ := er.val i d ed
    refine ⟨v, ev, b2 F H σ env As _ _ Ed s er h (fun F2 H2 vs ds B2 g2 r2 n2 o2 hq => ?_) x⟩
    refine q F2 H2 (v :: vs) (d :: ds) (As i ++ B2) g2 (.cons (r.grow g2) r2) (List.nodup_append.mpr ⟨er.nod i, n2, fun a ha b hb e => ?_⟩) (fun a ha => ?_) hq
    · subst e
      rcases o2 a hb with z | ⟨j, hj, z⟩
      · obtain ⟨⟨o, ho⟩, _⟩ := r.own a ha
        rw [ho] at z; cases z
      · exact er.dis i j a (fun e => hi (by rw [e]; exact hj)) ha z
    · rcases List.mem_append.mp ha with ha | ha
      · exact .inr ⟨i, List.mem_cons_self, ha⟩
      · exact (o2 a ha).imp id fun ⟨j, hj, z⟩ => ⟨j, List.mem_cons_of_mem _ hj, z⟩
  · exact h.elim
theorem ds_retT {k : Nat} {p : Pos} (h : DM X R mv es ta) : DS X R P (.Return (some (.Tuple es k p)) pos) (dRetT mv ta) := fun W tk => by
  obtain ⟨_, a1, a2⟩ := h W tk
  refine ⟨_, ps_ret (pe_tup a1), fun C F H σ env As Dh Dd eP ok E h => a2 F H σ env As _ _ _ ok.fh ok.er h (fun F1 H1 vs ds B g1 r1 n1 o1 hq => ?_) (E.exw ok)⟩
  refine ⟨by rw [r1.length]; exact sz1000 hq.1, fun p hp => ?_⟩
  have g2 : Grow F1 H1 (upd F1 p (.tup vs)) (upd H1 p (.tup vs)) := Grow.newF g1.fh hp
  refine E.rt _ _ σ _ _ (.ref p) (.tup ds) B ((ok.grow (g1.trans g2)).unsetL mv) (.fz (k := .tup) (.inl upd_same) (r1.grow g2) (.inl ⟨rfl, upd_same⟩)) ⟨n1, fun a ha => ?_, fun j a ha hj => ?_⟩ hq.2
  · rcases o1 a ha with z | ⟨j, _, z⟩
    · right
      cases e : C.H0 a with
      | none => rfl
      | some o =>
        obtain ⟨o', q⟩ := ok.tr a o e
        rw [q] at z; cases z
    · exact ok.ow j a z
  · by_cases hm : j ∈ mv
    · simp only [if_pos hm] at hj; cases hj
    · simp only [if_neg hm] at hj
      rcases o1 a ha with z | ⟨l, hl, z⟩
      · obtain ⟨⟨o, ho⟩, _⟩ := ok.er.own hj
        rw [ho] at z; cases z
      · exact ok.er.dis j l a (fun e => hm (by rw [e]; exact hl)) hj z
end

/-! ## methods of built-ins that only look -/
abbrev GV := D → GC
def OpV (X : Cx) (R : RT) (T id : String) (g : GV) : Prop := ∃ r, MtR X id r ∧
  (∀ F H w d A, Same F H → Rep X.K R F H w d A → tyD d = some T → tyV X.K T w H) ∧
  ∀ (F H : Hp) (w : V) (d : D) (A : List Addr) (vs : List V) (ds : List D) (B : List Addr) (Q : VK) (Qd : D → Prop), Same F H → Rep X.K R F H w d A → RepL X.K R F H vs ds B → g d ds Qd → Out X.K R F H Qd Q → r w vs H Q
def dMV (T : String) (g : GV) (td : TEd) (ta : TAd) : TEd := fun env Q E => td env (fun _ d => tyD d = some T ∧ ta env (fun ds => g d ds (Q false)) E) E
section
variable {X : Cx} {R : RT} {o e : Expr} {es : List Expr} {td : TEd} {ta : TAd} {name : Str} {apos cpos : Pos} {T id : String} {g : GV}
theorem de_mV (hm : OpV X R T id g) (pa : PlainAttrs T) (slot : Slot T name id) (hty : typeOf (.builtin id) = pure (.type "method_descriptor")) (h1 : DE X R o td) (h2 : DB X R (e :: es) ta)
    (hbase : attributeBase o name X.env (eval o X.env) = eval o X.env := by rfl)
    (hfew : ((backTo cpos (starEach (e :: es) X.env)).all (fun x => !x.1) && (backToKw cpos (keywordEach [] X.env)).all (fun x => x.1.isSome)
      && decide ((e :: es).length + ([] : List Keyword).length + (if ([] : List Keyword).isEmpty then 0 else 1) < 30)) = true := by rfl)
    (hline : (apos.endLine == cpos.line) = true := by rfl) (hs : starEach (e :: es) X.env = (false, eval e X.env) :: starEach es X.env := by rfl) (hplain : (backTo cpos (starEach es X.env)).any (·.1) = false := by rfl) :
    DE X R (.Call (.Attribute o name apos) (e :: es) [] cpos) (dMV T g td ta) := fun W tk => by
  obtain ⟨r, m1, m2, m3⟩ := hm
  obtain ⟨_, a1, a2⟩ := h1 W tk
  obtain ⟨_, b1, b2⟩ := h2 W tk
  refine ⟨_, pe_bm pa slot hty m1 a1 b1 hbase hfew hline hs hplain, fun F H σ env As Q Qd Ed s er h q x => a2 F H σ env As _ _ Ed s er h (fun F1 H1 v d B b g1 r1 f1 hq => ?_) x⟩
  refine ⟨m2 F1 H1 v d B g1.fh r1 hq.1, b2 F1 H1 σ env As _ _ Ed g1.fh (er.grow g1) hq.2 (fun F2 H2 vs ds B2 g2 r2 hq => ?_) (x.grow g1)⟩
  exact m3 F2 H2 v d B vs ds B2 Q (Qd false) g2.fh (r1.grow g2) r2 hq fun F3 H3 z dz C g3 r3 f3 hz => q F3 H3 z dz C false ((g1.trans g2).trans g3) r3 (fun _ => f3.back (g1.trans g2)) hz
theorem de_mV0 (hm : OpV X R T id g) (pa : PlainAttrs T) (slot : Slot T name id) (hty : typeOf (.builtin id) = pure (.type "method_descriptor")) (h1 : DE X R o td)
    (hbase : attributeBase o name X.env (eval o X.env) = eval o X.env := by rfl) (hline : (apos.endLine == cpos.line) = true := by rfl) :
    DE X R (.Call (.Attribute o name apos) [] [] cpos) (dMV T g td bNil) := fun W tk => by
  obtain ⟨r, m1, m2, m3⟩ := hm
  obtain ⟨_, a1, a2⟩ := h1 W tk
  refine ⟨_, pe_bm0 pa slot hty m1 a1 hbase hline, fun F H σ env As Q Qd Ed s er h q x => a2 F H σ env As _ _ Ed s er h (fun F1 H1 v d B b g1 r1 f1 hq => ?_) x⟩
  refine ⟨m2 F1 H1 v d B g1.fh r1 hq.1, ?_⟩
  exact m3 F1 H1 v d B [] [] [] Q (Qd false) g1.fh r1 .nil hq.2 fun F3 H3 z dz C g3 r3 f3 hz => q F3 H3 z dz C false (g1.trans g3) r3 (fun _ => f3.back g1) hz
theorem ty_lst' {F H : Hp} {w : V} {dp : D} {A : List Addr} (s : Same F H) (r : Rep X.K R F H w dp A) (h : tyD dp = some "list") : tyV X.K "list" w H := by
  cases dp with
  | sc x => cases x <;> simp [tyD] at h
  | nd k ds =>
    cases k with
    | lst o =>
      obtain ⟨a, vs, B', rfl, _, e, _⟩ := lst_at r s
      exact .inl ⟨rfl, vs, SqL.of e⟩
    | scr => simp [tyD] at h
    | tup => simp [tyD] at h
    | dct o ks => simp [tyD] at h
    | dcT o ks => simp [tyD] at h
    | ins o c => simp [tyD] at h
/-- where the first item stands that is equal -/
def idxS : List D → Sc → Option Nat
  | [], _ => none
  | d :: r, a => if eqv d (.sc a) = true then some 0 else (idxS r a).map (· + 1)
def idxD : GV
  | .nd (.lst _) ds, [.sc a], Q => ds.all flatD = true ∧ ∃ j, idxS ds a = some j ∧ Q (.int j)
  | _, _, _ => False
theorem idx_at {K : PySem.W.Frag} {F H : Hp} (a : Sc) : ∀ {vs : List V} {ds : List D} {B : List Addr} {j : Nat}, RepL K R F H vs ds B → ds.all flatD = true → idxS ds a = some j →
    ∃ z, vs[j]? = some z ∧ eqV z (encS a) = true ∧ ∀ (m : Nat) (z' : V), m < j → vs[m]? = some z' → eqV z' (encS a) = false
  | _, [], _, _, r, _, h => by cases h
  | _, .sc s :: t, _, j, r, hf, h => by
    cases r with
    | cons r1 r2 =>
      cases r1
      rw [List.all_cons, Bool.and_eq_true] at hf
      rw [idxS] at h
      by_cases e : eqv (.sc s) (.sc a) = true
      · rw [if_pos e] at h
        cases h
        exact ⟨_, rfl, by rw [eqV_enc, ← e, eqv], fun m z' hm => by cases hm⟩
      · rw [if_neg e] at h
        cases hp : idxS t a with
        | none => rw [hp] at h; cases h
        | some j' =>
          rw [hp] at h
          cases h
          obtain ⟨z, h1, h2, h3⟩ := idx_at a r2 hf.2 hp
          refine ⟨z, by simpa using h1, h2, fun m z' hm hz => ?_⟩
          cases m with
          | zero =>
            simp at hz
            subst hz
            rw [eqV_enc]
            rw [eqv] at e
            exact Bool.eq_false_iff.mpr e
          | succ m => exact h3 m z' (Nat.lt_of_succ_lt_succ hm) (by simpa using hz)
  | _, .nd _ _ :: t, _, _, r, h, _ => by simp [flatD] at h
theorem idxD_ok : OpV X R "list" "list.index" idxD := by
  refine ⟨rIndex X.K, mt_index, fun F H w d A s r h => ty_lst' s r h, fun F H w d A vs ds B Q Qd s r ra hq out => ?_⟩
  unfold idxD at hq
  split at hq
  · obtain ⟨hf, j, hj, hq⟩ := hq
    obtain ⟨a, us, B', rfl, rx, e, _⟩ := lst_at r s
    obtain ⟨y, rfl, ry⟩ := repl1 ra
    cases ry
    obtain ⟨z, h1, h2, h3⟩ := idx_at _ rx hf hj
    refine ⟨a, us, _, j, z, rfl, rfl, SqL.of e, flat_enc _, (rx.flat .non hf).1, h1, h2, h3, out F H _ _ [] (.refl s) (.sc (.int _)) .nil hq⟩
  · exact hq.elim
end
end DL

set_option Elab.async false
set_option linter.all false
set_option maxRecDepth 100000
set_option maxHeartbeats 1000000
namespace DL
open PySem PySem.Spec L2

def dNeg (ta : TEd) : TEd := fun env Q E => ta env (fun _ d => match d with
  | .sc (.int i) => Q false (.int (-i))
  | _ => False) E
def dDct0 : TEd := fun _ Q _ => Q false (.nd (.dct true []) [])
def dDcT0 : TEd := fun _ Q _ => Q false (.nd (.dcT true []) [])
section
variable {X : Cx} {R : RT} {e : Expr} {te : TEd} {pos : Pos}
theorem de_neg (h : DE X R e te) : DE X R (.UnaryOp .USub e pos) (dNeg te) := fun W tk => by
  obtain ⟨_, a1, a2⟩ := h W tk
  refine ⟨_, pe_un un_neg a1, fun F H σ env As Q Qd Ed s er h q x => a2 F H σ env As _ _ Ed s er h (fun F1 H1 v d B b g1 r1 f1 hq => ?_) x⟩
  split at hq
  · cases r1
    exact ⟨_, rfl, q F1 H1 _ _ [] false g1 (.sc (.int _)) (fun _ => .nil) hq⟩
  · exact hq.elim
theorem de_dct0 : DE X R (.Dict [] [] pos) dDct0 := fun W _ => ⟨_, pe_dnewK, fun F H σ env As Q Qd Ed s er h q x p hp =>
  q F (upd H p (.dK [])) (.ref p) (.nd (.dct true []) []) [p] false (Grow.new s hp) (.ow (k := .dct true []) (vs := []) ⟨rfl, rfl, upd_same⟩ (same_none s hp) .nil) (fun _ => ⟨by simp, fun a ha => by rw [List.mem_singleton] at ha; rw [ha]; exact hp⟩) h⟩
theorem de_dcT0 : DE X R (.Dict [] [] pos) dDcT0 := fun W _ => ⟨_, pe_dnewT, fun F H σ env As Q Qd Ed s er h q x p hp =>
  q F (upd H p (.dT [])) (.ref p) (.nd (.dcT true []) []) [p] false (Grow.new s hp) (.ow (k := .dcT true []) (vs := []) ⟨rfl, rfl, upd_same⟩ (same_none s hp) .nil) (fun _ => ⟨by simp, fun a ha => by rw [List.mem_singleton] at ha; rw [ha]; exact hp⟩) h⟩
end

/-! ## x.m(path.n(..)): the inner one first changes another slot -/
/-- slot i .m( slot j's path .n(args) ) -/
def dMN (i : Nat) (T : String) (g : GM) (j : Nat) (pd : TPd) (T2 : String) (g2 : GM) (ta : TAd) : TSd := fun D env => (match env[i]? with
  | some (some d0) => tyD d0 = some T ∧ fz d0 = false
  | _ => False) ∧ pd env (fun p => atP j env p fun _ e0 => (tyD e0 = some T2 ∧ fz e0 = false) ∧ ta env (fun ds => atP j env p fun e ep => g2 ep ds fun dr ep' => match env[i]? with
    | some (some d) => g d [dr] fun _ d' => D.nx ((env.set j (some (setP p e ep'))).set i (some d'))
    | _ => False) (fun x => D.ex x env)) (fun x => D.ex x env)
section
variable {X : Cx} {R : RT} {P : List Nat} {i j : Nat} {o e : Expr} {es : List Expr} {pd : TPd} {ta : TAd} {name name2 x : Str} {px apos cpos apos2 cpos2 pos : Pos} {T id T2 id2 : String} {g g2 : GM}
theorem ds_mN (hij : i ≠ j) (hm : OpM X R T id g) (pa : PlainAttrs T) (slot : Slot T name id) (hty : typeOf (.builtin id) = pure (.type "method_descriptor"))
    (hm2 : OpM X R T2 id2 g2) (pa2 : PlainAttrs T2) (slot2 : Slot T2 name2 id2) (hty2 : typeOf (.builtin id2) = pure (.type "method_descriptor")) (h1 : DP X R j o pd) (h2 : DA X R (e :: es) ta)
    (hN : X.N[i]? = some x := by rfl) (hv : Vis X.env.scope x := by first | exact Or.inl rfl | exact Or.inr (Or.inl rfl) | exact Or.inr (Or.inr rfl)) (hd : (x == ("__debug__" : Str)) = false := by decide)
    (hcd : (x == ("__classdict__" : Str)) = false := by decide)
    (hbase : attributeBase o name2 X.env (eval o X.env) = eval o X.env := by rfl)
    (hfew : ((backTo cpos2 (starEach (e :: es) X.env)).all (fun x => !x.1) && (backToKw cpos2 (keywordEach [] X.env)).all (fun x => x.1.isSome)
      && decide ((e :: es).length + ([] : List Keyword).length + (if ([] : List Keyword).isEmpty then 0 else 1) < 30)) = true := by rfl)
    (hline : (apos2.endLine == cpos2.line) = true := by rfl) (hs : starEach (e :: es) X.env = (false, eval e X.env) :: starEach es X.env := by rfl) (hplain : (backTo cpos2 (starEach es X.env)).any (·.1) = false := by rfl)
    (hbase' : attributeBase (.Name x px) name X.env (eval (.Name x px) X.env) = eval (.Name x px) X.env := by rfl)
    (hfew' : ((backTo cpos (starEach (.Call (.Attribute o name2 apos2) (e :: es) [] cpos2 :: []) X.env)).all (fun x => !x.1) && (backToKw cpos (keywordEach [] X.env)).all (fun x => x.1.isSome)
      && decide ((Expr.Call (.Attribute o name2 apos2) (e :: es) [] cpos2 :: []).length + ([] : List Keyword).length + (if ([] : List Keyword).isEmpty then 0 else 1) < 30)) = true := by rfl)
    (hline' : (apos.endLine == cpos.line) = true := by rfl) (hs' : starEach (.Call (.Attribute o name2 apos2) (e :: es) [] cpos2 :: []) X.env = (false, eval (.Call (.Attribute o name2 apos2) (e :: es) [] cpos2) X.env) :: starEach [] X.env := by rfl) (hplain' : (backTo cpos (starEach [] X.env)).any (·.1) = false := by rfl)
    (hsw : swapsWith (.Call (.Attribute (.Name x px) name apos) [.Call (.Attribute o name2 apos2) (e :: es) [] cpos2] [] cpos) none pos.line X.env = pure false := by rfl) :
    DS X R P (.Expr (.Call (.Attribute (.Name x px) name apos) [.Call (.Attribute o name2 apos2) (e :: es) [] cpos2] [] cpos) pos) (dMN i T g j pd T2 g2 ta) := fun W tk => by
  obtain ⟨r, m1, m2, m3⟩ := hm
  obtain ⟨r2, n1, n2, n3⟩ := hm2
  obtain ⟨_, a1, a2⟩ := h1 W tk
  obtain ⟨_, b1, b2⟩ := h2 W tk
  refine ⟨_, ps_expr (pe_bm pa slot hty m1 (pe_var hN hv hd hcd) (pa_cons (pe_bm pa2 slot2 hty2 n1 a1 b1 hbase hfew hline hs hplain) pa_nil hs') hbase' hfew' hline' hs' hplain') hsw, fun C F H σ env As Dh Dd eP ok E h => ?_⟩
  obtain ⟨h0, h⟩ := h
  split at h0
  · rename_i d0 ed
    obtain ⟨v0, ev, r0⟩ := ok.er.val i d0 ed
    refine ⟨v0, ev, m2 F H v0 d0 (As i) ok.fh r0 h0.1 h0.2, ?_⟩
    refine mt_core (Qd := fun e dr p ep' => g d0 [dr] fun _ d' => Dd.nx ((env.set j (some (setP p e ep'))).set i (some d'))) n2 n3 a2 b2 ok (by simpa only [ed] using h) (fun F' H' As' p e dr ep' vr Br ok' rr oo hq => ?_) (E.exw ok)
    have ed' : (env.set j (some (setP p e ep')))[i]? = some (some d0) := by rw [List.getElem?_set_ne (Ne.symm hij)]; exact ed
    obtain ⟨Ap, rp, sub, nAp, k⟩ := ok'.mutP (p := []) ed' ev rfl (.nil v0)
    refine m3 F' H' v0 d0 Ap [vr] [dr] (Br ++ []) _ _ ok'.fh rp nAp (.cons rr .nil) (by rw [List.append_nil]; exact oo.1) (fun a ha hA => oo.2.2 i a (by rwa [List.append_nil] at ha) (sub a hA)) hq fun H3 vr2 dr2 dp' A' Br2 e1 e2 e3 e4 e5 e6 e7 e8 => ?_
    obtain ⟨As2, ok3, _⟩ := k H3 dp' A' Br oo e1 e2 e3 e4 (List.nodup_append.mp e6).1 (fun b hb => by
      have := e7 b (List.mem_append_left _ hb)
      rwa [List.append_nil] at this)
    exact E.nx F' H3 σ _ As2 ok3 e8
  · exact h0.elim
end
end DL

set_option Elab.async false
set_option linter.all false
set_option maxRecDepth 100000
set_option maxHeartbeats 1000000
namespace DL
open PySem PySem.Spec L2

/-! ## the weakest readings: one for all contexts -/
section
variable (K : PySem.W.Frag) (R : RT) (W : WX)
def canE (td : TEd) : TE := fun σ H Q => ∃ (F : Hp) (env : Sl) (As : Nat → List Addr) (Qd : Bool → D → Prop) (Ed : EX → Prop),
  Same F H ∧ EnvR K R F H σ env As ∧ td env Qd Ed ∧
  (∀ F' H' v d B b, Grow F H F' H' → Rep K R F' H' v d B → (b = false → Fresh H B) → Qd b d → Q v H') ∧ ExW K R W F H σ Ed
def canT (td : TTd) : TT := fun σ H Q => ∃ (F : Hp) (env : Sl) (As : Nat → List Addr) (Qd : Bool → Prop) (Ed : EX → Prop),
  Same F H ∧ EnvR K R F H σ env As ∧ td env Qd Ed ∧ (∀ F' H' c, Grow F H F' H' → Qd c → Q c H') ∧ ExW K R W F H σ Ed
def canG (P : List Nat) (gd : TGd) : TG := fun v σ H Q => ∃ (C : Ba) (F : Hp) (env : Sl) (As : Nat → List Addr) (d : D) (B : List Addr) (Qd : Sl → Prop),
  C.P = P ∧ Ok K R C F H σ env As ∧ Rep K R F H v d B ∧ Own C As B ∧ gd d env Qd ∧ (∀ σ' env' As', Ok K R C F H σ' env' As' → (∀ j a, a ∈ As' j → a ∈ As j ∨ a ∈ B) → Qd env' → Q σ' H)
end
section
variable {X : Cx} {R : RT} {W : WX} {P : List Nat} {e : Expr}
theorem pe_can {td : TEd} (tk : Takes X W) (h : DE X R e td) : PE X e (canE X.K R W td) := by
  obtain ⟨t, a1, a2⟩ := h W tk
  refine ⟨fun pins s σ H Q I q => ?_⟩
  obtain ⟨F, env, As, Qd, Ed, s1, er, h, k, x⟩ := q
  exact a1.run pins s σ H Q I (a2 F H σ env As Q Qd Ed s1 er h k x)
theorem pt_can {td : TTd} (tk : Takes X W) (h : DT X R e td) : PT X e (canT X.K R W td) := by
  obtain ⟨t, a1, a2⟩ := h W tk
  refine ⟨fun pins s σ H Q I q => ?_⟩
  obtain ⟨F, env, As, Qd, Ed, s1, er, h, k, x⟩ := q
  exact a1.run pins s σ H Q I (a2 F H σ env As Q Qd Ed s1 er h k x)
theorem pg_can {gd : TGd} (h : DG X R P e gd) : PG X e (canG X.K R P gd) := by
  obtain ⟨g, a1, a2⟩ := h
  refine ⟨fun pins s σ H v u Q I r q => ?_⟩
  obtain ⟨C, F, env, As, d, B, Qd, eP, ok, rv, o, h, k⟩ := q
  exact a1.run pins s σ H v u Q I r (a2 C F H σ env As v d B Q Qd eP ok rv o h k)
end

/-! ## [elt for target in iter if test] -/
def noX : WX := fun _ _ _ _ => False
def wipeD (env : Sl) : List Nat → Sl
  | [] => env
  | v :: vs => (wipeD env vs).set v none
/-- all slots but these -/
def pinsOf (n : Nat) (vs : List Nat) : List Nat := (List.range n).filter fun i => !vs.contains i
def lcD (g : TGd) (tt : TTd) (te : TEd) (env : Sl) (Q : List D → Prop) : List D → List D → Prop
  | [], acc => Q acc
  | d :: r, acc => g d env fun env' => env'.length = env.length ∧ tt env' (fun b => if b = true then te env' (fun b y => safe b y ∧ acc.length < 1000000 ∧ lcD g tt te env Q r (acc ++ [y])) (fun _ => False) else lcD g tt te env Q r acc) (fun _ => False)
def dLc (ti : TId) (g : TGd) (tt : TTd) (te : TEd) (vs : List Nat) : TEd := fun env Q E => ti env (fun ds => lcD g tt te (wipeD env vs) (fun out => Q false (.lst true out)) ds []) E
def dYes : TTd := fun _ Q _ => Q true
section
variable {K : PySem.W.Frag} {R : RT} {F H : Hp}
theorem EnvR.wipe {σ : L2.St} {env : Sl} {As : Nat → List Addr} (h : EnvR K R F H σ env As) : ∀ vs : List Nat, ∃ As', EnvR K R F H (wipe σ vs) (wipeD env vs) As' ∧ ∀ j a, a ∈ As' j → a ∈ As j
  | [] => ⟨As, h, fun j a z => z⟩
  | v :: vs => by
    obtain ⟨As', h1, s1⟩ := EnvR.wipe h vs
    refine ⟨_, h1.unset v none, fun j a z => ?_⟩
    by_cases hj : j = v
    · simp only [if_pos hj] at z; cases z
    · simp only [if_neg hj] at z; exact s1 j a z
theorem wipe_at {vs : List Nat} {σ : L2.St} {i : Nat} (h : i ∈ vs) (hl : i < σ.length) : (wipe σ vs)[i]? = some none := by
  induction vs with
  | nil => cases h
  | cons v vs ih =>
    rw [L2.wipe]
    by_cases e : v = i
    · subst e
      rw [List.getElem?_set_self (by rw [wipe_length]; exact hl)]
    · rw [List.getElem?_set_ne e]
      exact ih ((List.mem_cons.mp h).resolve_left fun z => e z.symm)
theorem wipe_eq {vs : List Nat} {σ σ' : L2.St} (hl : σ'.length = σ.length) (h : ∀ i, i < σ.length → i ∉ vs → σ'[i]? = (wipe σ vs)[i]?) : wipe σ' vs = wipe σ vs := by
  apply List.ext_getElem?
  intro i
  by_cases hi : i < σ.length
  · by_cases hv : i ∈ vs
    · rw [wipe_at hv hi, wipe_at hv (by rw [hl]; exact hi)]
    · rw [wipe_out hv, h i hi hv]
  · rw [List.getElem?_eq_none (by rw [wipe_length, hl]; omega), List.getElem?_eq_none (by rw [wipe_length]; omega)]
end
def DTs (X : Cx) (R : RT) (ifs : List Expr) (td : TTd) : Prop := ∀ W, Takes X W → ∃ t, PTs X ifs t ∧ LT X.K R W t td
theorem dts_nil {X : Cx} {R : RT} : DTs X R [] dYes := fun W _ => ⟨_, pts_nil, fun F H σ env As Q Qd Ed s er h q x => q F H true (.refl s) h⟩
theorem dts_one {X : Cx} {R : RT} {c : Expr} {td : TTd} (h : DT X R c td) : DTs X R [c] td := fun W tk => by
  obtain ⟨_, a1, a2⟩ := h W tk
  exact ⟨_, pts_one a1, a2⟩
theorem pts_can {X : Cx} {R : RT} {W : WX} {ifs : List Expr} {td : TTd} (tk : Takes X W) (h : DTs X R ifs td) : PTs X ifs (canT X.K R W td) := by
  obtain ⟨t, a1, a2⟩ := h W tk
  refine ⟨fun pins s σ H Q I q => ?_⟩
  obtain ⟨F, env, As, Qd, Ed, s1, er, h, k, x⟩ := q
  exact a1.run pins s σ H Q I (a2 F H σ env As Q Qd Ed s1 er h k x)
/-- .. the slots are that many -/
def dLC (n : Nat) (ti : TId) (g : TGd) (tt : TTd) (te : TEd) (vs : List Nat) : TEd := fun env Q E => env.length = n ∧ dLc ti g tt te vs env Q E
section
variable {K : PySem.W.Frag} {R : RT} {W : WX}
theorem le_lc {wi : TI} {ti : TId} {gd : TGd} {tt : TTd} {te : TEd} {vs : List Nat} {n : Nat} (i2 : LI K R W wi ti) : LE K R W (tLc wi (canG K R (pinsOf n vs) gd) (canT K R noX tt) (canE K R noX te) vs) (dLC n ti gd tt te vs) := by
  intro F H σ env As Q Qd Ed s er h q x
  obtain ⟨hn, h⟩ := h
  refine i2 F H σ env As _ _ Ed s er h (fun F1 H1 J ds g1 it hq => ?_) x
  intro D hD
  obtain ⟨As', erw, sub⟩ := (er.grow g1).wipe vs
  have sn : σ.length = n := by rw [er.len]; exact hn
  refine ⟨fun i m H' => m = ds.length - i ∧ i ≤ ds.length ∧ ∃ F' out vsl B, Grow F1 H1 F' H' ∧ F' D = none ∧ H' D = some (.lst vsl) ∧ RepL K R F' H' vsl out B ∧ B.Nodup ∧ D ∉ B ∧ (∀ a ∈ B, H1 a = none) ∧ lcD gd tt te (wipeD env vs) (fun out => Qd false (.lst true out)) (ds.drop i) out,
    ⟨ds.length, rfl, Nat.zero_le _, F1, [], [], [], Grow.new g1.fh hD, same_none g1.fh hD, upd_same, .nil, List.nodup_nil, List.not_mem_nil, fun _ z => (by cases z), hq⟩, ?_⟩
  rintro i m H' ⟨rfl, hi, F', out, vsl, B, gr, fD, hDD, rl, nB, dB, fB, w⟩
  obtain ⟨it1, it2⟩ := it F' H' gr.ff gr.fh
  by_cases hlt : i < ds.length
  · obtain ⟨q1, q2⟩ := it1 i hlt
    refine .inr ⟨q1, fun H'' => ∃ F' out vsl B, Grow F1 H1 F' H'' ∧ F' D = none ∧ H'' D = some (.lst vsl) ∧ RepL K R F' H'' vsl out B ∧ B.Nodup ∧ D ∉ B ∧ (∀ a ∈ B, H1 a = none) ∧ lcD gd tt te (wipeD env vs) (fun out => Qd false (.lst true out)) (ds.drop (i + 1)) out, fun H'' w' => ⟨ds.length - (i + 1), by omega, rfl, hlt, w'⟩, fun xv H2 y => ?_⟩
    obtain ⟨F2, d, hd, g2, r2⟩ := q2 xv H2 y
    rw [List.drop_eq_getElem_cons hlt] at w
    have ed : ds[i] = d := by rw [List.getElem?_eq_getElem hlt] at hd; exact Option.some.inj hd
    rw [ed] at w
    have w' : gd d (wipeD env vs) (fun env' => env'.length = (wipeD env vs).length ∧ tt env' (fun b => if b = true then te env' (fun b y => safe b y ∧ out.length < 1000000 ∧ lcD gd tt te (wipeD env vs) (fun out => Qd false (.lst true out)) (ds.drop (i + 1)) (out ++ [y])) (fun _ => False) else lcD gd tt te (wipeD env vs) (fun out => Qd false (.lst true out)) (ds.drop (i + 1)) out) (fun _ => False)) := w
    have g02 := gr.trans g2
    have er2 := erw.grow g02
    have ok0 : Ok K R ⟨H2, F2, fun a => ∃ i, a ∈ As' i, wipe σ vs, pinsOf n vs⟩ F2 H2 (wipe σ vs) (wipeD env vs) As' :=
      ⟨er2, g02.fh, fun _ _ e _ => e, fun a o e => ⟨o, e⟩, .refl _, fun _ _ _ _ => rfl, fun i a ha => .inl ⟨i, ha⟩, fun _ _ => rfl⟩
    refine ⟨_, F2, wipeD env vs, As', d, [], _, rfl, ok0, r2, .nil, w', fun σ3 env3 As3 ok3 sub3 w3 => ⟨wipe_eq ?_ fun j hj hv => ?_, ?_⟩⟩
    · have e1 : σ3.length = (wipe σ vs).length := by
        rw [ok3.er.len, w3.1, ← erw.len]
      rw [e1, wipe_length]
    · refine ok3.pin j ?_
      show j ∈ pinsOf n vs
      unfold pinsOf
      rw [List.mem_filter]
      exact ⟨List.mem_range.mpr (by rw [← sn]; exact hj), by simpa using hv⟩
    refine ⟨F2, env3, As3, _, fun _ => False, ok3.fh, ok3.er, w3.2, fun F4 H4 c g4 hq4 => ?_, fun _ _ _ _ _ _ _ z => z⟩
    have g04 := g02.trans g4
    have h4D : H4 D = some (.lst vsl) := (g2.trans g4).hh _ _ hDD
    have f4D : F4 D = none := by rw [(g2.trans g4).nw _ _ hDD]; exact fD
    cases c with
    | false =>
      rw [if_neg Bool.false_ne_true] at hq4
      show if false = true then _ else _
      rw [if_neg Bool.false_ne_true]
      exact ⟨F4, out, vsl, B, g04, f4D, h4D, rl.grow (g2.trans g4), nB, dB, fB, hq4⟩
    | true =>
      rw [if_pos rfl] at hq4
      show if true = true then _ else _
      rw [if_pos rfl]
      refine ⟨F4, env3, As3, _, fun _ => False, g4.fh, ok3.er.grow g4, hq4, fun F5 H5 v5 d5 B5 b5 g5 r5 f5 hq5 => ?_, fun _ _ _ _ _ _ _ z => z⟩
      obtain ⟨sb, hl, hq5⟩ := hq5
      have fB5 := Fresh.of_safe r5 f5 sb
      have g25 := (g2.trans g4).trans g5
      have g05 := g04.trans g5
      have h5D : H5 D = some (.lst vsl) := g25.hh _ _ hDD
      have f5D : F5 D = none := by rw [g25.nw _ _ hDD]; exact fD
      have dB5 : D ∉ B5 := fun z => by rw [fB5.2 D z] at h4D; cases h4D
      have rl5 : RepL K R F5 (upd H5 D (.lst (vsl ++ [v5]))) vsl out B := (rl.grow g25).mono (.refl _) fun a ha => ⟨upd_ne (fun e => dB (e ▸ ha)), ((rl.grow g25).own a ha).2⟩
      have r5' : Rep K R F5 (upd H5 D (.lst (vsl ++ [v5]))) v5 d5 B5 := r5.mono (.refl _) fun a ha => ⟨upd_ne (fun e => dB5 (e ▸ ha)), (r5.own a ha).2⟩
      refine ⟨vsl, h5D, by rw [rl.length, sizeLine_eq]; omega, F5, out ++ [d5], vsl ++ [v5], B ++ (B5 ++ []), ⟨fun a o e => ?_, g05.ff, fun a o e => ?_, g05.nw⟩, f5D, upd_same, rl5.append (.cons r5' .nil), ?_, ?_, ?_, hq5⟩
      · rw [upd_ne (fun z => by rw [z, hD] at e; cases e)]; exact g05.hh a o e
      · rw [upd_ne (fun z => by rw [z, f5D] at e; cases e)]; exact g05.fh a o e
      · rw [List.append_nil]
        refine List.nodup_append.mpr ⟨nB, fB5.1, fun a ha b hb e => ?_⟩
        obtain ⟨⟨o, ho⟩, _⟩ := rl.own a ha
        have := (g2.trans g4).hh _ _ ho
        rw [e, fB5.2 b hb] at this; cases this
      · rw [List.append_nil]
        exact fun z => (List.mem_append.mp z).elim dB dB5
      · rw [List.append_nil]
        exact fun a ha => (List.mem_append.mp ha).elim (fB a) fun z => g04.free (fB5.2 a z)
  · have e : i = ds.length := by omega
    subst e
    rw [List.drop_length] at w
    refine .inl ⟨it2, q F' H' (.ref D) (.lst true out) (D :: B) false (g1.trans gr) (.ow (k := .lst true) ⟨rfl, hDD⟩ fD rl) (fun _ => ⟨List.nodup_cons.mpr ⟨dB, nB⟩, fun a ha => ?_⟩) w⟩
    rcases List.mem_cons.mp ha with z | z
    · rw [z]; exact g1.free hD
    · exact g1.free (fB a z)
end
section
variable {X : Cx} {R : RT} {P : List Nat} {elt tg iter : Expr} {ifs : List Expr} {scope : Scope} {own : List (Str × Nat)} {pos : Pos} {ti : TId} {gd : TGd} {tt : TTd} {te : TEd} {n : Nat}
theorem de_lc (hc : X.calm = true) (hN : X.N.Nodup) (own : List (Str × Nat)) (ok : BlkOk X.N X.env.scope scope own) (hi : DI X R tg iter ti)
    (hg : ∀ (s : Shared) (H : Hp) (C : Addr) (cl : List (Str × Addr)) (fp : List Addr), DG (X.blk s H scope (compEnvC scope cl C X.env) fp) R (pinsOf n (own.map (·.2))) tg gd)
    (ht : ∀ (s : Shared) (H : Hp) (C : Addr) (cl : List (Str × Addr)) (fp : List Addr), DTs (X.blk s H scope (compEnvC scope cl C X.env) fp) R ifs tt)
    (he : ∀ (s : Shared) (H : Hp) (C : Addr) (cl : List (Str × Addr)) (fp : List Addr), DE (X.blk s H scope (compEnvC scope cl C X.env) fp) R elt te) (hs : ∀ x, foldedSetIterable iter X.env x = pure x := by intro _; rfl) :
    DE X R (.ListComp elt [⟨tg, iter, ifs, 0⟩] scope pos) (dLC n ti gd tt te (own.map (·.2))) := fun W tk => by
  obtain ⟨_, i1, i2⟩ := hi W tk
  exact ⟨_, pe_lc (g := canG X.K R (pinsOf n (own.map (·.2))) gd) (tt := canT X.K R noX tt) (te := canE X.K R noX te) hc hN i1 ok (fun s H C cl fp => pg_can (hg s H C cl fp)) (fun s H C cl fp => pts_can (W := noX) takes0 (ht s H C cl fp)) (fun s H C cl fp => pe_can (W := noX) takes0 (he s H C cl fp)) hs, le_lc i2⟩
/-- name = [..] -/
theorem ds_setLc {i : Nat} {y : Str} {py spos : Pos} (hc : X.calm = true) (hN : X.N.Nodup) (own : List (Str × Nat)) (ok : BlkOk X.N X.env.scope scope own) (hi : DI X R tg iter ti)
    (hg : ∀ (s : Shared) (H : Hp) (C : Addr) (cl : List (Str × Addr)) (fp : List Addr), DG (X.blk s H scope (compEnvC scope cl C X.env) fp) R (pinsOf n (own.map (·.2))) tg gd)
    (ht : ∀ (s : Shared) (H : Hp) (C : Addr) (cl : List (Str × Addr)) (fp : List Addr), DTs (X.blk s H scope (compEnvC scope cl C X.env) fp) R ifs tt)
    (he : ∀ (s : Shared) (H : Hp) (C : Addr) (cl : List (Str × Addr)) (fp : List Addr), DE (X.blk s H scope (compEnvC scope cl C X.env) fp) R elt te)
    (hsw : swapsWith (.ListComp elt [⟨tg, iter, ifs, 0⟩] scope pos) (some (.Name y py)) spos.line X.env = pure true)
    (hy : X.N[i]? = some y := by rfl) (hyl : X.env.scope.names.lookup y = some .local := by rfl) (hP : i ∉ P := by decide) (hs : ∀ x, foldedSetIterable iter X.env x = pure x := by intro _; rfl) :
    DS X R P (.Assign [.Name y py] (.ListComp elt [⟨tg, iter, ifs, 0⟩] scope pos) spos) (dAsg (dLC n ti gd tt te (own.map (·.2))) (gN i)) := fun W tk => by
  obtain ⟨_, i1, i2⟩ := hi W tk
  refine ⟨_, ps_setLc (g := canG X.K R (pinsOf n (own.map (·.2))) gd) (tt := canT X.K R noX tt) (te := canE X.K R noX te) hc hN hy hyl hsw i1 ok (fun s H C cl fp => pg_can (hg s H C cl fp)) (fun s H C cl fp => pts_can (W := noX) takes0 (ht s H C cl fp)) (fun s H C cl fp => pe_can (W := noX) takes0 (he s H C cl fp)) hs, ?_⟩
  intro C F H σ env As Dh Dd eP ok1 E h
  refine le_lc i2 F H σ env As _ _ _ ok1.fh ok1.er h (fun F1 H1 v d B b g1 r f hq => ?_) (E.exw ok1)
  obtain ⟨As', ok', _⟩ := (ok1.grow g1).set r (ok1.own (Fresh.of_safe r f hq.1)) (by rw [eP]; exact hP)
  exact E.nx F1 H1 _ _ As' ok' hq.2
end
/-- sorted(ints) -/
def sortedD : GC
  | [.nd (.lst _) ds], Q => ∃ ns, intsOf ds = some ns ∧ ∀ ns' : List Int, ns'.Perm ns → ns'.Pairwise (· ≤ ·) → Q (.lst true (ns'.map D.int))
  | _, _ => False
theorem repl_int {K : PySem.W.Frag} {R : RT} {F H : Hp} : ∀ ns : List Int, RepL K R F H (ns.map V.int) (ns.map D.int) []
  | [] => .nil
  | n :: r => RepL.cons (A := []) (B := []) (.sc (.int n)) (repl_int r)
theorem sortedD_ok {X : Cx} {R : RT} : CallL X R (.builtin "sorted") sortedD := by
  refine ⟨_, cr_sortedI, fun F H vs ds B Q Qd s r hq out => ?_⟩
  unfold sortedD at hq
  split at hq
  · obtain ⟨ns, hi, hq⟩ := hq
    obtain ⟨v, rfl, rx⟩ := repl1 r
    have e := intsOf_eq hi
    subst e
    obtain ⟨a, us, B', rfl, r1, ha, _⟩ := lst_at rx s
    have eu := r1.ints
    subst eu
    exact ⟨a, ns, rfl, SqL.of ha, fun ns' p h1 h2 hp => new_list s (repl_int ns') out (hq ns' h1 h2) hp⟩
  · exact hq.elim
end DL

set_option Elab.async false
set_option linter.all false
namespace DL
open L2
/-! ## small tools for the plain part -/
theorem fz_lst {xs : List D} : fz (.nd (.lst true) xs) = false := by simp [fz, Kind.cold]
theorem fz_lstF {xs : List D} : fz (.nd (.lst false) xs) = true := by simp [fz, Kind.cold]
theorem fz_dct {ks : List DK} {xs : List D} : fz (.nd (.dct true ks) xs) = false := by simp [fz, Kind.cold]
theorem fz_ins {c : Nat} {xs : List D} : fz (.nd (.ins true c) xs) = false := by simp [fz, Kind.cold]
theorem fz_sc {s : Sc} : fz (.sc s) = true := rfl
theorem fz_scr {xs : List D} : fz (.nd .scr xs) = true := by simp [fz, Kind.cold]
theorem fz_tup {xs : List D} : fz (.nd .tup xs) = fzL xs := by simp [fz, Kind.cold]
theorem frz_sc {s : Sc} : frz (.sc s) = .sc s := rfl
theorem frz_lst {xs : List D} : frz (.nd (.lst true) xs) = .nd (.lst false) (frzL xs) := by rw [frz, if_neg (by first | decide | exact Bool.false_ne_true)]; rfl
theorem frz_lstF {xs : List D} : frz (.nd (.lst false) xs) = .nd (.lst false) xs := by rw [frz, if_pos (by decide)]
theorem frz_scr {xs : List D} : frz (.nd .scr xs) = .nd .scr xs := by rw [frz, if_pos (by decide)]
theorem frz_tup {xs : List D} : frz (.nd .tup xs) = .nd .tup (frzL xs) := by rw [frz, if_neg (by first | decide | exact Bool.false_ne_true)]; rfl
theorem frz_dct {ks : List DK} {xs : List D} : frz (.nd (.dct true ks) xs) = .nd (.dct false ks) (frzL xs) := by rw [frz, if_neg (by first | decide | exact Bool.false_ne_true)]; rfl
theorem frz_dctF {ks : List DK} {xs : List D} : frz (.nd (.dct false ks) xs) = .nd (.dct false ks) xs := by rw [frz]; exact if_pos rfl
theorem frzL_nil : frzL [] = [] := rfl
theorem frzL_cons {d : D} {r : List D} : frzL (d :: r) = frz d :: frzL r := rfl
theorem fzL_nil : fzL [] = true := rfl
theorem fzL_cons {d : D} {r : List D} : fzL (d :: r) = (fz d && fzL r) := rfl
theorem frzL_sc {α : Type} (f : α → Sc) (l : List α) : frzL (l.map fun x => D.sc (f x)) = l.map fun x => D.sc (f x) := by
  induction l with
  | nil => rfl
  | cons a r ih => rw [List.map_cons, frzL_cons, ih]; rfl
theorem fzL_sc {α : Type} (f : α → Sc) (l : List α) : fzL (l.map fun x => D.sc (f x)) = true := by
  induction l with
  | nil => rfl
  | cons a r ih => rw [List.map_cons, fzL_cons, ih]; rfl
theorem frzL_ints {α : Type} (f : α → Int) (l : List α) : frzL (l.map fun x => D.int (f x)) = l.map fun x => D.int (f x) := frzL_sc _ l
theorem frzL_strs {α : Type} (f : α → Txt) (l : List α) : frzL (l.map fun x => D.str (f x)) = l.map fun x => D.str (f x) := frzL_sc _ l
theorem frzL_str (l : List Txt) : frzL (l.map D.str) = l.map D.str := frzL_sc _ l
theorem fzL_str (l : List Txt) : fzL (l.map D.str) = true := fzL_sc _ l
theorem frzL_int (l : List Int) : frzL (l.map D.int) = l.map D.int := frzL_sc _ l
theorem fzL_int (l : List Int) : fzL (l.map D.int) = true := fzL_sc _ l
theorem safe_f {d : D} : safe false d := .inl rfl
theorem safe_sc {b : Bool} {s : Sc} : safe b (.sc s) := .inr rfl
theorem safe_lstF {b : Bool} {xs : List D} : safe b (.nd (.lst false) xs) := .inr fz_lstF
theorem safe_scr {b : Bool} {xs : List D} : safe b (.nd .scr xs) := .inr fz_scr
theorem safe_tup {xs : List D} : safe true (.nd .tup xs) = (fzL xs = true) := propext ⟨fun h => by rw [← fz_tup]; exact h.resolve_left (by decide), fun h => .inr (by rw [fz_tup]; exact h)⟩
theorem safe_iff {b : Bool} {d : D} : safe b d ↔ (b = false ∨ fz d = true) := Iff.rfl
theorem ixN_at {n j : Nat} (h : j < n) : ixN n (j : Int) = some j := by
  unfold ixN
  rw [if_pos (by omega), if_pos (by omega)]
  rfl
theorem ixN_last {n : Nat} : ixN (n + 1) (-1) = some n := by
  unfold ixN
  rw [if_neg (by omega), if_pos (by omega)]
  congr 1
  omega
theorem ixN20 : ixN 2 0 = some 0 := by decide
theorem ixN21 : ixN 2 1 = some 1 := by decide
theorem posOf_map {α κ : Type} [DecidableEq κ] {f : α → κ} (hf : ∀ a b, f a = f b → a = b) [DecidableEq α] : ∀ (l : List α) (t : α), posOf (l.map f) (f t) = if t ∈ l then some (l.idxOf t) else none
  | [], t => by simp [posOf]
  | a :: r, t => by
    rw [List.map_cons, posOf]
    by_cases e : a = t
    · subst e; simp
    · rw [if_neg (fun z => e (hf _ _ z)), posOf_map hf r t]
      by_cases h : t ∈ r
      · have : t ∈ a :: r := List.mem_cons_of_mem _ h
        rw [if_pos h, if_pos this, List.idxOf_cons]
        have : (a == t) = false := by simpa using e
        rw [this]; rfl
      · have : ¬ t ∈ a :: r := fun z => (List.mem_cons.mp z).elim (fun z => e z.symm) h
        rw [if_neg h, if_neg this]; rfl
theorem lkp_map {α κ : Type} [DecidableEq κ] {f : α → κ} (hf : ∀ a b, f a = f b → a = b) {g : α → D} : ∀ (l : List α) (t : α), t ∈ l → lkp (l.map f) (l.map g) (f t) = some (g t)
  | [], t, h => by cases h
  | a :: r, t, h => by
    rw [List.map_cons, List.map_cons, lkp]
    by_cases e : a = t
    · subst e; rw [if_pos rfl]
    · rw [if_neg (fun z => e (hf _ _ z))]
      exact lkp_map hf r t ((List.mem_cons.mp h).resolve_left fun z => e z.symm)
theorem inr_inj {a b : Txt} (h : (Sum.inr a : DK) = Sum.inr b) : a = b := Sum.inr.inj h
theorem cutG_map {α β : Type} (f : α → β) (xs : List α) (lo hi : Option Int) : cutG (xs.map f) lo hi = (cutG xs lo hi).map f := by
  unfold cutG
  rw [List.length_map, ← List.map_drop, ← List.map_take]
theorem flat_str (l : List Txt) : (l.map D.str).all flatD = true := by simp [flatD]
theorem flat_int (l : List Int) : (l.map D.int).all flatD = true := by simp [flatD]
theorem eqv_str (a b : Txt) : eqv (.str a) (.str b) = decide (a = b) := by
  rw [eqv]
  by_cases h : a = b <;> simp [eqS, h]
theorem eqS_int {i j : Int} : eqS (.int i) (.int j) = decide (i = j) := by simp [eqS]
theorem eqv_lst {o p : Bool} {xs ys : List D} : eqv (.nd (.lst o) xs) (.nd (.lst p) ys) = eqvL xs ys := by rw [eqv]; rfl
theorem eqv_tup {xs ys : List D} : eqv (.nd .tup xs) (.nd .tup ys) = eqvL xs ys := by rw [eqv]; rfl
theorem eqvL_nil : eqvL [] [] = true := by rw [eqvL]
theorem eqvL_cons {x y : D} {xs ys : List D} : eqvL (x :: xs) (y :: ys) = (eqv x y && eqvL xs ys) := by rw [eqvL]
theorem eqvL_str : ∀ a b : List Txt, eqvL (a.map D.str) (b.map D.str) = decide (a = b)
  | [], [] => by rw [List.map_nil, eqvL]; rfl
  | [], _ :: _ => by rw [List.map_nil, List.map_cons, eqvL]; simp
  | _ :: _, [] => by rw [List.map_nil, List.map_cons, eqvL]; simp
  | x :: a, y :: b => by
    rw [List.map_cons, List.map_cons, eqvL, eqvL_str a b, eqv_str]
    by_cases h1 : x = y <;> by_cases h2 : a = b <;> simp [h1, h2]
theorem any_str (l : List Txt) (t : Txt) : ((l.map D.str).any fun d => eqv d (.str t)) = decide (t ∈ l) := by
  induction l with
  | nil => simp
  | cons a r ih =>
    rw [List.map_cons, List.any_cons, ih, eqv_str]
    by_cases h : a = t
    · simp [h]
    · have : t ∈ a :: r ↔ t ∈ r := ⟨fun z => (List.mem_cons.mp z).resolve_left fun e => h e.symm, List.mem_cons_of_mem _⟩
      rw [decide_eq_false h, Bool.false_or]
      exact decide_eq_decide.mpr this.symm
theorem idx_str : ∀ (l : List Txt) (t : Txt), idxS (l.map D.str) (.str t) = if t ∈ l then some (l.idxOf t) else none
  | [], t => by simp [idxS]
  | a :: r, t => by
    rw [List.map_cons, idxS, eqv_str]
    by_cases e : a = t
    · subst e; simp
    · rw [decide_eq_false e, if_neg (by decide), idx_str r t]
      by_cases h : t ∈ r
      · have h' : t ∈ a :: r := List.mem_cons_of_mem _ h
        have e' : (a == t) = false := by simpa using e
        rw [if_pos h, if_pos h', List.idxOf_cons, e']; rfl
      · have h' : ¬ t ∈ a :: r := fun z => (List.mem_cons.mp z).elim (fun z => e z.symm) h
        rw [if_neg h, if_neg h']; rfl
theorem isB_bl {b : Bool} {Q : Bool → Prop} (h : Q b) : isB (.bl b) Q := h
/-! ### operations at known shapes -/
section
variable {Q : D → Prop} {i j : Int} {s t : Txt} {o p : Bool} {xs ys : List D} {ks : List DK} {d e y : D} {a b : Sc}
theorem o_lt : ltD (.sc (.int i)) (.sc (.int j)) Q = Q (.bl (decide (i < j))) := rfl
theorem o_ltS : ltD (.sc (.str s)) (.sc (.str t)) Q = Q (.bl (decide (s < t))) := rfl
theorem o_gt : gtD (.sc (.int i)) (.sc (.int j)) Q = Q (.bl (decide (j < i))) := rfl
theorem o_le : leD (.sc (.int i)) (.sc (.int j)) Q = Q (.bl (decide (i ≤ j))) := rfl
theorem o_ge : geD (.sc (.int i)) (.sc (.int j)) Q = Q (.bl (decide (j ≤ i))) := rfl
theorem o_add : addD (.sc (.int i)) (.sc (.int j)) Q = Q (.int (i + j)) := rfl
theorem o_addS : addD (.sc (.str s)) (.sc (.str t)) Q = (s.length + t.length ≤ 16777216 ∧ Q (.str (s ++ t))) := rfl
theorem o_addL : addD (.nd (.lst o) xs) (.nd (.lst p) ys) Q = (stb (.lst o) xs = true ∧ stb (.lst p) ys = true ∧ xs.length + ys.length ≤ 16777216 ∧ Q (.lst true (xs ++ ys))) := rfl
theorem o_addT : addD (.nd .tup xs) (.nd .tup ys) Q = (fzL xs = true ∧ fzL ys = true ∧ xs.length + ys.length ≤ 16777216 ∧ Q (.tup (xs ++ ys))) := rfl
theorem o_sub : subD (.sc (.int i)) (.sc (.int j)) Q = Q (.int (i - j)) := rfl
theorem o_mul : mulD (.sc (.int i)) (.sc (.int j)) Q = (((-(2 ^ 64) < i ∧ i < 2 ^ 64) ∨ (-(2 ^ 64) < j ∧ j < 2 ^ 64)) ∧ Q (.int (i * j))) := rfl
theorem o_fdiv : fdivD (.sc (.int i)) (.sc (.int j)) Q = ((0 < j ∧ j < 1073741824) ∧ Q (.int (i / j))) := rfl
theorem o_mod : modD (.sc (.int i)) (.sc (.int j)) Q = (0 < j ∧ Q (.int (i % j))) := rfl
theorem o_pow : powD (.sc (.int i)) (.sc (.int j)) Q = ((0 ≤ j ∧ j ≤ 1000000 ∧ i.natAbs < 2 ^ 64) ∧ Q (.int (i ^ j.toNat))) := rfl
theorem o_eq : eqD (.sc a) (.sc b) Q = Q (.bl (eqS a b)) := rfl
theorem o_eqN {k l : Kind} : eqD (.nd k xs) (.nd l ys) Q = (okE 8 (.nd k xs) = true ∧ okE 8 (.nd l ys) = true ∧ Q (.bl (eqv (.nd k xs) (.nd l ys)))) := rfl
theorem o_ne : neD (.sc a) (.sc b) Q = Q (.bl (!eqS a b)) := rfl
theorem o_neN {k l : Kind} : neD (.nd k xs) (.nd l ys) Q = (okE 8 (.nd k xs) = true ∧ okE 8 (.nd l ys) = true ∧ Q (.bl (!eqv (.nd k xs) (.nd l ys)))) := rfl
theorem o_isB {c : Bool} {Q : Bool → Prop} : isB (.sc (.bl c)) Q = Q c := rfl
theorem o_isI {Q : Int → Prop} : isI (.sc (.int i)) Q = Q i := rfl
theorem o_len : lenD [.nd (.lst o) xs] Q = Q (.int xs.length) := rfl
theorem o_lenC : lenD [.nd .scr xs] Q = Q (.int xs.length) := rfl
theorem o_lenT : lenD [.nd .tup xs] Q = Q (.int xs.length) := rfl
theorem o_lenD : lenD [.nd (.dct o ks) xs] Q = Q (.int xs.length) := rfl
theorem o_lenS : lenD [.sc (.str s)] Q = (s.length ≤ 16777216 ∧ Q (.int s.length)) := rfl
theorem o_ix : ixD (.nd (.lst o) xs) (.sc (.int i)) Q = ∃ d, atI xs i = some d ∧ Q d := rfl
theorem o_ixC : ixD (.nd .scr xs) (.sc (.int i)) Q = ∃ d, atI xs i = some d ∧ Q d := rfl
theorem o_ixT : ixD (.nd .tup xs) (.sc (.int i)) Q = ∃ d, atI xs i = some d ∧ Q d := rfl
theorem o_ixS : ixD (.sc (.str s)) (.sc (.int i)) Q = (s.length ≤ 16777216 ∧ ∃ c, atI s i = some c ∧ Q (.str [c])) := rfl
theorem o_ixDs : ixD (.nd (.dct o ks) xs) (.sc (.str s)) Q = ∃ d, lkp ks xs (.inr s) = some d ∧ Q d := propext ⟨fun ⟨k, d, h1, h2, h3⟩ => by cases h1; exact ⟨d, h2, h3⟩, fun ⟨d, h2, h3⟩ => ⟨_, d, rfl, h2, h3⟩⟩
theorem o_ixDi : ixD (.nd (.dct o ks) xs) (.sc (.int i)) Q = ∃ d, lkp ks xs (.inl i) = some d ∧ Q d := propext ⟨fun ⟨k, d, h1, h2, h3⟩ => by cases h1; exact ⟨d, h2, h3⟩, fun ⟨d, h2, h3⟩ => ⟨_, d, rfl, h2, h3⟩⟩
theorem o_put : putD (.nd (.lst true) xs) (.sc (.int i)) y Q = ∃ j, ixN xs.length i = some j ∧ Q (.nd (.lst true) (xs.set j y)) := rfl
theorem o_putN {k : DK} {a : Sc} (hk : keyS a = some k) (h : posOf ks k = none) : putD (.nd (.dct true ks) xs) (.sc a) y Q = (ks.length < 1000000 ∧ Q (.nd (.dct true (ks ++ [k])) (xs ++ [y]))) := by
  refine propext ⟨fun ⟨k', h1, h2, h3⟩ => ?_, fun ⟨h2, h3⟩ => ⟨k, hk, h2, ?_⟩⟩
  · rw [hk] at h1; cases h1
    rw [h] at h3
    exact ⟨h2, h3⟩
  · rw [h]; exact h3
theorem o_putNs (h : posOf ks (.inr s) = none) : putD (.nd (.dct true ks) xs) (.sc (.str s)) y Q = (ks.length < 1000000 ∧ Q (.nd (.dct true (ks ++ [.inr s])) (xs ++ [y]))) := o_putN rfl h
theorem o_putNi (h : posOf ks (.inl i) = none) : putD (.nd (.dct true ks) xs) (.sc (.int i)) y Q = (ks.length < 1000000 ∧ Q (.nd (.dct true (ks ++ [.inl i])) (xs ++ [y]))) := o_putN rfl h
theorem o_putK {k : DK} {a : Sc} {j : Nat} (hk : keyS a = some k) (h : posOf ks k = some j) : putD (.nd (.dct true ks) xs) (.sc a) y Q = (ks.length < 1000000 ∧ ks.Nodup ∧ Q (.nd (.dct true ks) (xs.set j y))) := by
  refine propext ⟨fun ⟨k', h1, h2, h3⟩ => ?_, fun ⟨h2, h3⟩ => ⟨k, hk, h2, ?_⟩⟩
  · rw [hk] at h1; cases h1
    rw [h] at h3
    exact ⟨h2, h3⟩
  · rw [h]; exact h3
theorem o_inD {neg : Bool} : inD neg (.sc (.str s)) (.nd (.dct o ks) xs) Q = Q (.bl (neg ^^ hasK ks (.inr s))) := by
  rcases s with _ | ⟨c, _ | ⟨c2, r⟩⟩ <;> exact propext ⟨fun ⟨k, h1, h2⟩ => by cases h1; exact h2, fun h => ⟨_, rfl, h⟩⟩
theorem o_inDi {neg : Bool} : inD neg (.sc (.int i)) (.nd (.dct o ks) xs) Q = Q (.bl (neg ^^ hasK ks (.inl i))) := propext ⟨fun ⟨k, h1, h2⟩ => by cases h1; exact h2, fun h => ⟨_, rfl, h⟩⟩
theorem o_inL {neg : Bool} : inD neg (.sc a) (.nd (.lst o) xs) Q = (xs.all flatD = true ∧ Q (.bl (neg ^^ xs.any fun d => eqv d (.sc a)))) := by
  cases a with
  | str s => rcases s with _ | ⟨c, _ | ⟨c2, r⟩⟩ <;> rfl
  | _ => rfl
theorem o_inT {neg : Bool} : inD neg (.sc a) (.nd .tup xs) Q = (xs.all flatD = true ∧ Q (.bl (neg ^^ xs.any fun d => eqv d (.sc a)))) := by
  cases a with
  | str s => rcases s with _ | ⟨c, _ | ⟨c2, r⟩⟩ <;> rfl
  | _ => rfl
theorem o_inS {neg : Bool} {c : Nat} : inD neg (.sc (.str [c])) (.sc (.str t)) Q = Q (.bl (neg ^^ decide (c ∈ t))) := rfl
theorem o_idx : idxD (.nd (.lst o) xs) [.sc a] Q = (xs.all flatD = true ∧ ∃ j, idxS xs a = some j ∧ Q (.int j)) := rfl
theorem o_list : listD [.nd (.lst o) xs] Q = (stb (.lst o) xs = true ∧ Q (.lst true xs)) := rfl
theorem o_listC : listD [.nd .scr xs] Q = Q (.lst true xs) := rfl
theorem o_listT : listD [.nd .tup xs] Q = (fzL xs = true ∧ Q (.lst true xs)) := rfl
theorem o_listD : listD [.nd (.dct o ks) xs] Q = Q (.lst true (ks.map keyD)) := rfl
theorem o_tuple : tupleD [.nd (.lst o) xs] Q = (stb (.lst o) xs = true ∧ Q (.tup xs)) := rfl
theorem o_tupleT : tupleD [.nd .tup xs] Q = (fzL xs = true ∧ Q (.tup xs)) := rfl
theorem o_intI : intD [.sc (.int i)] Q = Q (.int i) := rfl
theorem o_intB {c : Bool} : intD [.sc (.bl c)] Q = Q (.int (if c then 1 else 0)) := rfl
theorem o_ord {c : Nat} : ordD [.sc (.str [c])] Q = Q (.int (c : Nat)) := rfl
theorem o_str : strD [.sc (.int i)] Q = (i.natAbs.log2 < 1920 ∧ Q (.str (numT i))) := rfl
theorem o_max : maxD [.sc (.int i), .sc (.int j)] Q = Q (.int (if j > i then j else i)) := rfl
theorem o_min : minD [.sc (.int i), .sc (.int j)] Q = Q (.int (if j < i then j else i)) := rfl
theorem o_isNo {x : Sc} : isNo (.sc x) (.sc .non) Q = Q (.bl (decide (x = .non))) := by cases x <;> rfl
theorem o_tyL : tyD (.nd (.lst o) xs) = some "list" := rfl
theorem o_tyT : tyD (.nd .tup xs) = some "tuple" := rfl
theorem o_tyD : tyD (.nd (.dct o ks) xs) = some "dict" := rfl
theorem o_tyS : tyD (.sc (.str s)) = some "str" := rfl
theorem o_tyI : tyD (.sc (.int i)) = some "int" := rfl
theorem o_sl {lo hi : Option Int} : slD lo hi (.nd (.lst o) xs) Q = (stb (.lst o) xs = true ∧ Q (.lst true (cutG xs lo hi))) := rfl
theorem o_slC {lo hi : Option Int} : slD lo hi (.nd .scr xs) Q = Q (.lst true (cutG xs lo hi)) := rfl
theorem o_slS {lo hi : Option Int} : slD lo hi (.sc (.str s)) Q = (s.length ≤ 16777216 ∧ Q (.str (cutG s lo hi))) := rfl
theorem o_slT {lo hi : Option Int} : slD lo hi (.nd .tup xs) Q = (fzL xs = true ∧ Q (.tup (cutG xs lo hi))) := rfl
theorem isi_of {T t : String} {b : Bool} (h : tyD d = some t) (hk : kitB t T = some b) : isiD T d Q = Q (.bl b) := propext ⟨fun ⟨t', b', h1, h2, h3⟩ => by rw [h] at h1; cases h1; rw [hk] at h2; cases h2; exact h3, fun q => ⟨t, b, h, hk, q⟩⟩
theorem o_isiT : isiD "tuple" (.nd .tup xs) Q = Q (.bl true) := isi_of rfl (by decide)
theorem o_isiL : isiD "list" (.nd (.lst o) xs) Q = Q (.bl true) := isi_of rfl (by decide)
theorem o_isiS : isiD "str" (.sc (.str s)) Q = Q (.bl true) := isi_of rfl (by decide)
theorem o_isiI : isiD "int" (.sc (.int i)) Q = Q (.bl true) := isi_of rfl (by decide)
theorem atI_0 {α : Type} {a : α} {r : List α} : atI (a :: r) 0 = some a := atI_nat (j := 0) rfl
theorem atI_1 {α : Type} {a b : α} {r : List α} : atI (a :: b :: r) 1 = some b := atI_nat (j := 1) rfl
theorem atI_2 {α : Type} {a b c : α} {r : List α} : atI (a :: b :: c :: r) 2 = some c := atI_nat (j := 2) rfl
theorem atI_3 {α : Type} {a b c d : α} {r : List α} : atI (a :: b :: c :: d :: r) 3 = some d := atI_nat (j := 3) rfl
theorem o_lsD {Q : List D → Prop} : lsD (.nd (.lst o) xs) Q = Q (if o = true then frzL xs else xs) := rfl
theorem o_lsC {Q : List D → Prop} : lsD (.nd .scr xs) Q = Q xs := rfl
theorem o_it {Q : List D → Prop} : itD (.nd (.lst o) xs) Q = Q (if o = true then frzL xs else xs) := rfl
theorem o_itC {Q : List D → Prop} : itD (.nd .scr xs) Q = Q xs := rfl
theorem o_itT {Q : List D → Prop} : itD (.nd .tup xs) Q = Q (frzL xs) := rfl
theorem o_itS {Q : List D → Prop} : itD (.sc (.str s)) Q = Q (s.map fun c => .str [c]) := rfl
end
section
variable {Q : D → D → Prop} {xs ys : List D} {y : D} {z : Int} {o : Bool}
theorem o_app : appM (.nd (.lst true) xs) [y] Q = (xs.length < 1000000 ∧ Q .non (.nd (.lst true) (xs ++ [y]))) := rfl
theorem o_ext : extM (.nd (.lst true) xs) [.nd (.lst o) ys] Q = (xs.length + ys.length ≤ 1000000 ∧ stb (.lst o) ys = true ∧ Q .non (.nd (.lst true) (xs ++ ys))) := rfl
theorem o_ins : insM (.nd (.lst true) xs) [.sc (.int z), y] Q = (xs.length < 1000000 ∧ 0 ≤ z ∧ z < 2 ^ 63 ∧ Q .non (.nd (.lst true) (xs.take z.toNat ++ y :: xs.drop z.toNat))) := rfl
theorem o_pop : popM (.nd (.lst true) xs) [.sc (.int z)] Q = (xs.length ≤ 1000000 ∧ ∃ j, ixN xs.length z = some j ∧ ∃ y, xs[j]? = some y ∧ Q y (.nd (.lst true) (xs.eraseIdx j))) := propext ⟨fun ⟨j, y, h1, h2, h3, h4⟩ => ⟨h1, j, h2, y, h3, h4⟩, fun ⟨h1, j, h2, y, h3, h4⟩ => ⟨j, y, h1, h2, h3, h4⟩⟩
theorem o_rev : revM (.nd (.lst true) xs) [] Q = Q .non (.nd (.lst true) xs.reverse) := rfl
theorem o_clr : clrM (.nd (.lst true) xs) [] Q = Q .non (.nd (.lst true) []) := rfl
end
section
variable {Q : Nat → Prop} {xs : List D} {z : Int} {o : Bool} {ks : List DK} {s : Txt}
theorem o_posL (h : fz (.nd (.lst o) xs) = false) : posD (.nd (.lst o) xs) (.sc (.int z)) Q = ∃ j, ixN xs.length z = some j ∧ Q j := propext ⟨fun h => h.2, fun q => ⟨h, q⟩⟩
theorem o_pos : posD (.nd (.lst true) xs) (.sc (.int z)) Q = ∃ j, ixN xs.length z = some j ∧ Q j := o_posL fz_lst
theorem o_posT (h : fz (.nd .tup xs) = false) : posD (.nd .tup xs) (.sc (.int z)) Q = ∃ j, ixN xs.length z = some j ∧ Q j := propext ⟨fun h => h.2, fun q => ⟨h, q⟩⟩
theorem o_posS : posD (.nd (.dct true ks) xs) (.sc (.str s)) Q = ∃ j, posOf ks (.inr s) = some j ∧ Q j := propext ⟨fun ⟨_, k, j, h1, h2, h3⟩ => by cases h1; exact ⟨j, h2, h3⟩, fun ⟨j, h2, h3⟩ => ⟨fz_dct, _, j, rfl, h2, h3⟩⟩
end
theorem noC_sc {s : Sc} : noC (.sc s) = true := rfl
theorem noC_lst {xs : List D} : noC (.nd (.lst true) xs) = noCL xs := by rw [noC]; rfl
theorem noC_tup {xs : List D} : noC (.nd .tup xs) = noCL xs := by rw [noC]; rfl
theorem noC_dct {ks : List DK} {xs : List D} : noC (.nd (.dct true ks) xs) = noCL xs := by rw [noC]; rfl
theorem noCL_nil : noCL [] = true := rfl
theorem noCL_cons {d : D} {r : List D} : noCL (d :: r) = (noC d && noCL r) := rfl
theorem noCL_all : ∀ l : List D, noCL l = l.all noC
  | [] => rfl
  | d :: r => by rw [noCL, noCL_all r]; rfl
theorem noCL_map {α : Type} {f : α → D} {l : List α} (h : ∀ x ∈ l, noC (f x) = true) : noCL (l.map f) = true := by
  rw [noCL_all, List.all_map]
  exact List.all_eq_true.mpr h
theorem noCL_str (l : List Txt) : noCL (l.map D.str) = true := noCL_map fun _ _ => rfl
theorem noCL_str2 {α : Type} (f : α → Txt) (l : List α) : noCL (l.map fun x => D.str (f x)) = true := noCL_map fun _ _ => rfl
theorem noCL_int (l : List Int) : noCL (l.map D.int) = true := noCL_map fun _ _ => rfl
theorem okE_str {n : Nat} {s : Txt} (h : ∀ c ∈ s, c < 1114112) : okE n (.str s) = true := by
  rw [okE]
  exact List.all_eq_true.mpr fun c hc => decide_eq_true (h c hc)
theorem okE_lst {n : Nat} {o : Bool} {xs : List D} (h : ∀ x ∈ xs, okE n x = true) : okE (n + 1) (.nd (.lst o) xs) = true := by
  rw [okE, okEL_all]
  exact Bool.and_eq_true_iff.mpr ⟨rfl, List.all_eq_true.mpr h⟩
theorem stb_lst {o : Bool} {xs : List D} (h : fzL xs = true) : stb (.lst o) xs = true := by
  unfold stb
  simp [h]
/-- texts whose signs are signs -/
def okT (t : Txt) : Prop := ∀ c ∈ t, c < 1114112
end DL

set_option Elab.async false
set_option linter.all false
namespace KM
open DL
/-! ## kept things, plainly -/
abbrev B2 := List (Txt × Txt)
def lastT (g : List Txt) : Txt := g.getLastD []
def lk : B2 → Txt → Option Txt
  | [], _ => none
  | (a, b) :: r, t => if a = t then some b else lk r t
def atOf (p : Txt → Nat) (t : Txt) : List (List Txt) → Nat
  | [] => 0
  | g :: r => if p (lastT g) < p t then atOf p t r + 1 else 0
def putG (t : Txt) : Nat → List (List Txt) → List (List Txt)
  | 0, [] => [[t]]
  | 0, g :: r => (g ++ [t]) :: r
  | n + 1, g :: r => g :: putG t n r
  | _ + 1, [] => [[t]]
def stepG (p : Txt → Nat) (s : List (List Txt) × B2) (t : Txt) : List (List Txt) × B2 :=
  let a := atOf p t s.1
  let G := putG t a s.1
  (G, if 0 < a then s.2 ++ [(t, lastT (G.getD (a - 1) []))] else s.2)
def groupsOf (p : Txt → Nat) (one : List Txt) : List (List Txt) × B2 := one.foldl (stepG p) ([], [])
def keptFrom (B : B2) : Nat → Txt → List Txt
  | 0, t => [t]
  | n + 1, t => t :: match lk B t with
    | some b => keptFrom B n b
    | none => []
def keptMost (p : Txt → Nat) (one : List Txt) : List Txt :=
  let s := groupsOf p one
  if s.1 = [] then [] else (keptFrom s.2 one.length (lastT (s.1.getLastD []))).reverse

theorem ne_len {α : Type} {l : List α} (h : l ≠ []) : 0 < l.length := List.length_pos_iff.mpr h
theorem lk_append (B C : B2) (t : Txt) : lk (B ++ C) t = (lk B t).or (lk C t) := by
  induction B with
  | nil => rfl
  | cons x r ih =>
    obtain ⟨a, b⟩ := x
    rw [List.cons_append, lk, lk]
    by_cases e : a = t
    · rw [if_pos e, if_pos e]; rfl
    · rw [if_neg e, if_neg e, ih]
theorem lk_none {B : B2} {t : Txt} (h : ∀ x ∈ B, x.1 ≠ t) : lk B t = none := by
  induction B with
  | nil => rfl
  | cons x r ih =>
    obtain ⟨a, b⟩ := x
    rw [lk, if_neg (h (a, b) List.mem_cons_self), ih fun y hy => h y (List.mem_cons_of_mem _ hy)]
theorem split_at (p : Txt → Nat) (t : Txt) : ∀ G : List (List Txt), ∃ pre post, G = pre ++ post ∧ atOf p t G = pre.length ∧ (∀ g ∈ pre, p (lastT g) < p t) ∧ (post = [] ∨ ∃ g r, post = g :: r ∧ ¬ p (lastT g) < p t)
  | [] => ⟨[], [], rfl, rfl, fun _ z => (by cases z), .inl rfl⟩
  | g :: r => by
    by_cases h : p (lastT g) < p t
    · obtain ⟨pre, post, e1, e2, e3, e4⟩ := split_at p t r
      refine ⟨g :: pre, post, by rw [e1]; rfl, by rw [atOf, if_pos h, e2]; rfl, fun x hx => ?_, e4⟩
      rcases List.mem_cons.mp hx with z | z
      · rw [z]; exact h
      · exact e3 x z
    · exact ⟨[], g :: r, rfl, by rw [atOf, if_neg h]; rfl, fun _ z => (by cases z), .inr ⟨g, r, rfl, h⟩⟩
theorem putG_split (t : Txt) (pre post : List (List Txt)) : putG t pre.length (pre ++ post) = pre ++ (match post with | [] => [[t]] | g :: r => (g ++ [t]) :: r) := by
  induction pre with
  | nil => cases post <;> rfl
  | cons g r ih => rw [List.cons_append, List.length_cons, putG, ih]; rfl
theorem lastT_snoc (g : List Txt) (t : Txt) : lastT (g ++ [t]) = t := by simp [lastT]
theorem lastT_mem {g : List Txt} (h : g ≠ []) : lastT g ∈ g := by
  unfold lastT
  cases g with
  | nil => exact absurd rfl h
  | cons a r => rw [List.getLastD_cons]; cases r with
    | nil => simp
    | cons b s => 
      rw [List.getLastD_cons]
      have : (b :: s).getLastD a ∈ b :: s := by
        rw [List.getLastD_eq_getLast?]
        rw [List.getLast?_eq_getLast (List.cons_ne_nil b s)]
        exact List.getLast_mem _
      rw [List.getLastD_cons] at this
      exact List.mem_cons_of_mem _ this
structure Inv (p : Txt → Nat) (done : List Txt) (G : List (List Txt)) (B : B2) : Prop where
  ne : ∀ g ∈ G, g ≠ []
  pm : G.flatten.Perm done
  fall : ∀ g ∈ G, g.Pairwise fun a b => p b < p a
  sub : ∀ g ∈ G, g.Sublist done
  low : ∀ g t, G[0]? = some g → t ∈ g → lk B t = none
  up : ∀ a g t, G[a + 1]? = some g → t ∈ g → ∃ b g', G[a]? = some g' ∧ b ∈ g' ∧ lk B t = some b ∧ p b < p t ∧ [b, t].Sublist done
  keys : ∀ x ∈ B, x.1 ∈ done
  few : B.length ≤ done.length
theorem Inv.init (p : Txt → Nat) : Inv p [] [] [] := ⟨fun _ z => (by cases z), .nil, fun _ z => (by cases z), fun _ z => (by cases z), fun _ _ z => (by cases z), fun _ _ _ z => (by simp at z), fun _ z => (by cases z), Nat.le_refl _⟩
theorem Inv.step {p : Txt → Nat} {done : List Txt} {G : List (List Txt)} {B : B2} (I : Inv p done G B) {t : Txt} (ht : t ∉ done) (inj : ∀ x ∈ done, p x ≠ p t) : Inv p (done ++ [t]) (stepG p (G, B) t).1 (stepG p (G, B) t).2 := by
  obtain ⟨pre, post, e1, e2, e3, e4⟩ := split_at p t G
  obtain ⟨h, r, hp, hpost, hh⟩ : ∃ h r, putG t (atOf p t G) G = pre ++ (h ++ [t]) :: r ∧ (post = [] ∧ h = [] ∧ r = [] ∨ post = h :: r) ∧ ∀ x ∈ h, p t < p x := by
    rw [e2, e1, putG_split]
    rcases e4 with z | ⟨g, r, z, hn⟩
    · subst z; exact ⟨[], [], rfl, .inl ⟨rfl, rfl, rfl⟩, fun _ z => (by cases z)⟩
    · subst z
      refine ⟨g, r, rfl, .inr rfl, fun x hx => ?_⟩
      have hg : g ∈ G := by rw [e1]; simp
      have hne := I.ne g hg
      have hl := lastT_mem hne
      have hd : lastT g ∈ done := (I.sub g hg).subset hl
      have h1 : p t < p (lastT g) := by
        have := inj _ hd
        omega
      by_cases e : x = lastT g
      · rw [e]; exact h1
      · have : p (lastT g) < p x := by
          have hf := I.fall g hg
          obtain ⟨init, el⟩ : ∃ init, g = init ++ [lastT g] := by
            refine ⟨g.dropLast, ?_⟩
            have := List.dropLast_concat_getLast hne
            rw [show lastT g = g.getLast hne by unfold lastT; rw [List.getLastD_eq_getLast?, List.getLast?_eq_getLast hne]; rfl]
            exact this.symm
          rw [el] at hf hx
          rcases List.mem_append.mp hx with z | z
          · exact (List.pairwise_append.mp hf).2.2 x z _ List.mem_cons_self
          · exact absurd (List.mem_singleton.mp z) (by rw [← el] at *; exact e)
        omega
  have hG : G.flatten = (pre ++ (if post = [] then [] else [h]) ++ r).flatten := by
    rcases hpost with ⟨a, b, c⟩ | a
    · subst a b c; rw [e1]; simp
    · subst a; rw [e1]; simp
  have hB : lk B t = none := lk_none fun x hx e => ht (e ▸ I.keys x hx)
  have es : stepG p (G, B) t = (pre ++ (h ++ [t]) :: r, if 0 < pre.length then B ++ [(t, lastT ((pre ++ (h ++ [t]) :: r).getD (pre.length - 1) []))] else B) := by
    unfold stepG
    simp only [hp]
    rw [e2]
  rw [es]
  have memG : ∀ g, g ∈ pre ++ (h ++ [t]) :: r → g ∈ G ∨ g = h ++ [t] := fun g hg => by
    rcases List.mem_append.mp hg with z | z
    · left; rw [e1]; exact List.mem_append_left _ z
    · rcases List.mem_cons.mp z with z | z
      · exact .inr z
      · left
        rcases hpost with ⟨a, b, c⟩ | a
        · subst c; cases z
        · rw [e1, a]; exact List.mem_append_right _ (List.mem_cons_of_mem _ z)
  have hhd : h = [] ∨ h ∈ G := by
    rcases hpost with ⟨a, b, c⟩ | a
    · exact .inl b
    · right; rw [e1, a]; simp
  have sd : done.Sublist (done ++ [t]) := List.sublist_append_left _ _
  -- what lookups tell
  have lkB : ∀ x ∈ done, lk (if 0 < pre.length then B ++ [(t, lastT ((pre ++ (h ++ [t]) :: r).getD (pre.length - 1) []))] else B) x = lk B x := fun x hx => by
    split
    · rw [lk_append]
      cases hl : lk B x with
      | some b => rfl
      | none =>
        show lk [(t, _)] x = none
        rw [lk, if_neg (fun e : t = x => ht (by rw [e]; exact hx))]; rfl
    · rfl
  have inD : ∀ g ∈ G, ∀ x ∈ g, x ∈ done := fun g hg x hx => (I.sub g hg).subset hx
  refine ⟨fun g hg => ?_, ?_, fun g hg => ?_, fun g hg => ?_, fun g x hg hx => ?_, fun a g x hg hx => ?_, fun x hx => ?_, ?_⟩
  · rcases memG g hg with z | z
    · exact I.ne g z
    · rw [z]; simp
  · have q := I.pm
    rcases hpost with ⟨a, b, c⟩ | a
    · subst a b c
      rw [e1] at q
      simp at q
      simpa using q.append_right [t]
    · subst a
      rw [e1] at q
      simp only [List.flatten_append, List.flatten_cons] at q ⊢
      refine List.Perm.trans ?_ (q.append_right [t])
      simp only [List.append_assoc]
      refine List.Perm.append_left _ (List.Perm.append_left _ ?_)
      exact List.perm_append_comm
  · rcases memG g hg with z | z
    · exact I.fall g z
    · subst z
      refine List.pairwise_append.mpr ⟨?_, List.pairwise_singleton _ _, fun x hx y hy => by rw [List.mem_singleton.mp hy]; exact hh x hx⟩
      rcases hhd with z | z
      · rw [z]; exact .nil
      · exact I.fall h z
  · rcases memG g hg with z | z
    · exact (I.sub g z).trans sd
    · subst z
      refine List.Sublist.append ?_ (List.Sublist.refl _)
      rcases hhd with z | z
      · rw [z]; exact List.nil_sublist _
      · exact I.sub h z
  · -- the first group
    cases hpre : pre with
    | nil =>
      rw [hpre] at hg
      simp at hg
      subst hg
      rw [if_neg (by simp)]
      rcases List.mem_append.mp hx with z | z
      · rcases hpost with ⟨a, b, c⟩ | a
        · subst b; cases z
        · exact I.low h x (by rw [e1, hpre, a]; rfl) z
      · rw [List.mem_singleton.mp z]; exact hB
    | cons g0 pr =>
      rw [hpre] at hg
      simp at hg
      subst hg
      have hg0 : G[0]? = some g0 := by rw [e1, hpre]; rfl
      have := lkB x (inD g0 (List.mem_of_getElem? hg0) x hx)
      rw [hpre] at this
      rw [this]
      exact I.low g0 x hg0 hx
  · -- above
    have old : ∀ (i : Nat) (gg : List Txt), (pre ++ (h ++ [t]) :: r)[i]? = some gg → (i ≠ pre.length → G[i]? = some gg) := fun i gg hi hn => by
      rw [e1]
      by_cases hl : i < pre.length
      · rw [List.getElem?_append_left hl] at hi ⊢
        exact hi
      · rw [List.getElem?_append_right (by omega)] at hi ⊢
        obtain ⟨k, hk⟩ : ∃ k, i - pre.length = k + 1 := ⟨i - pre.length - 1, by omega⟩
        rw [hk, List.getElem?_cons_succ] at hi
        rcases hpost with ⟨a, b, c⟩ | a
        · rw [c] at hi; simp at hi
        · rw [a, hk, List.getElem?_cons_succ]; exact hi
    have new : ∀ (i : Nat) (gg : List Txt), G[i]? = some gg → ∃ g', (pre ++ (h ++ [t]) :: r)[i]? = some g' ∧ ∀ y ∈ gg, y ∈ g' := fun i gg hi => by
      rw [e1] at hi
      by_cases hl : i < pre.length
      · rw [List.getElem?_append_left hl] at hi ⊢
        exact ⟨gg, hi, fun y hy => hy⟩
      · rw [List.getElem?_append_right (by omega)] at hi ⊢
        rcases hpost with ⟨a, b, c⟩ | a
        · rw [a] at hi; simp at hi
        · rw [a] at hi
          cases hk : i - pre.length with
          | zero =>
            rw [hk] at hi
            simp at hi
            subst hi
            exact ⟨h ++ [t], rfl, fun y hy => List.mem_append_left _ hy⟩
          | succ k =>
            rw [hk, List.getElem?_cons_succ] at hi
            exact ⟨gg, by rw [List.getElem?_cons_succ]; exact hi, fun y hy => hy⟩
    have viaOld : ∀ g0, G[a + 1]? = some g0 → x ∈ g0 → ∃ b g', (pre ++ (h ++ [t]) :: r)[a]? = some g' ∧ b ∈ g' ∧ lk (if 0 < pre.length then B ++ [(t, lastT ((pre ++ (h ++ [t]) :: r).getD (pre.length - 1) []))] else B) x = some b ∧ p b < p x ∧ [b, x].Sublist (done ++ [t]) := fun g0 h1 h2 => by
      obtain ⟨b, g', q1, q2, q3, q4, q5⟩ := I.up a g0 x h1 h2
      obtain ⟨g2, q6, q7⟩ := new a g' q1
      exact ⟨b, g2, q6, q7 b q2, by rw [lkB x (inD g0 (List.mem_of_getElem? h1) x h2)]; exact q3, q4, q5.trans sd⟩
    by_cases ha : a + 1 = pre.length
    · rw [ha] at hg
      rw [List.getElem?_append_right (Nat.le_refl _), Nat.sub_self] at hg
      simp at hg
      subst hg
      rcases List.mem_append.mp hx with z | z
      · rcases hpost with ⟨a1, b, c⟩ | a1
        · rw [b] at z; cases z
        · exact viaOld h (by rw [e1, a1, ha, List.getElem?_append_right (Nat.le_refl _), Nat.sub_self]; rfl) z
      · rw [List.mem_singleton.mp z]
        have hal : a < pre.length := by omega
        have hga : (pre ++ (h ++ [t]) :: r)[a]? = some pre[a] := by rw [List.getElem?_append_left hal, List.getElem?_eq_getElem hal]
        have hm : pre[a] ∈ pre := List.getElem_mem hal
        have hmG : pre[a] ∈ G := by rw [e1]; exact List.mem_append_left _ hm
        have hne := I.ne _ hmG
        refine ⟨lastT pre[a], pre[a], hga, lastT_mem hne, ?_, e3 _ hm, ?_⟩
        · rw [if_pos (by omega), lk_append, hB]
          show lk [(t, _)] t = _
          rw [lk, if_pos rfl, List.getD_eq_getElem?_getD, show pre.length - 1 = a by omega, hga]
          rfl
        · have := (List.singleton_sublist.mpr (inD _ hmG _ (lastT_mem hne))).append (List.Sublist.refl [t])
          exact this
    · exact viaOld g (old (a + 1) g hg ha) hx
  · split at hx
    · rcases List.mem_append.mp hx with z | z
      · exact List.mem_append_left _ (I.keys x z)
      · rw [List.mem_singleton.mp z]; simp
    · exact List.mem_append_left _ (I.keys x hx)
  · have := I.few
    split
    · simp; exact this
    · simp; omega
theorem step_split (p : Txt → Nat) (t : Txt) (G : List (List Txt)) (B : B2) : ∃ pre h rr, atOf p t G = pre.length ∧ ((G = pre ∧ h = [] ∧ rr = []) ∨ G = pre ++ h :: rr) ∧
    stepG p (G, B) t = (pre ++ (h ++ [t]) :: rr, if 0 < pre.length then B ++ [(t, lastT ((pre ++ (h ++ [t]) :: rr).getD (pre.length - 1) []))] else B) := by
  obtain ⟨pre, post, e1, e2, e3, e4⟩ := split_at p t G
  obtain ⟨h, rr, hp, hpost⟩ : ∃ h rr, putG t (atOf p t G) G = pre ++ (h ++ [t]) :: rr ∧ ((post = [] ∧ h = [] ∧ rr = []) ∨ post = h :: rr) := by
    rw [e2, e1, putG_split]
    cases post with
    | nil => exact ⟨[], [], rfl, .inl ⟨rfl, rfl, rfl⟩⟩
    | cons g r => exact ⟨g, r, rfl, .inr rfl⟩
  refine ⟨pre, h, rr, e2, ?_, ?_⟩
  · rcases hpost with ⟨x, y, z⟩ | x
    · subst x; rw [List.append_nil] at e1; exact .inl ⟨e1, y, z⟩
    · rw [x] at e1; exact .inr e1
  · unfold stepG
    simp only [hp]
    rw [e2]
theorem Inv.count {p : Txt → Nat} {done : List Txt} {G : List (List Txt)} {B : B2} (I : Inv p done G B) : G.length ≤ done.length := by
  rw [← I.pm.length_eq]
  have : ∀ G : List (List Txt), (∀ g ∈ G, g ≠ []) → G.length ≤ G.flatten.length := by
    intro G
    induction G with
    | nil => intro _; simp
    | cons g r ih =>
      intro h
      have := ih fun x hx => h x (List.mem_cons_of_mem _ hx)
      have := ne_len (h g List.mem_cons_self)
      rw [List.flatten_cons, List.length_append, List.length_cons]; omega
  exact this _ I.ne
theorem inv_fold {p : Txt → Nat} : ∀ (r : List Txt) {done : List Txt} {s : List (List Txt) × B2}, Inv p done s.1 s.2 → (done ++ r).Nodup → (∀ x ∈ done ++ r, ∀ y ∈ done ++ r, p x = p y → x = y) → Inv p (done ++ r) (r.foldl (stepG p) s).1 (r.foldl (stepG p) s).2
  | [], done, s, I, _, _ => by rw [List.append_nil]; exact I
  | t :: r, done, s, I, nd, inj => by
    have ht : t ∉ done := fun z => (List.nodup_append.mp nd).2.2 t z t List.mem_cons_self rfl
    have I2 := I.step ht fun x hx e => ht ((inj x (List.mem_append_left _ hx) t (by simp) e) ▸ hx)
    have := inv_fold r (s := stepG p s t) I2 (by simpa using nd) (by simpa using inj)
    simpa using this
theorem inv_groups {p : Txt → Nat} {one : List Txt} (nd : one.Nodup) (inj : ∀ x ∈ one, ∀ y ∈ one, p x = p y → x = y) : Inv p one (groupsOf p one).1 (groupsOf p one).2 := by
  have := inv_fold (p := p) one (done := []) (s := ([], [])) (Inv.init p) (by simpa using nd) (by simpa using inj)
  unfold groupsOf
  simpa using this
theorem idx_inj : ∀ {l : List Txt} {x y : Txt}, x ∈ l → y ∈ l → l.idxOf x = l.idxOf y → x = y
  | [], _, _, h, _, _ => by cases h
  | a :: r, x, y, hx, hy, e => by
    rw [List.idxOf_cons, List.idxOf_cons] at e
    by_cases h1 : a = x
    · by_cases h2 : a = y
      · rw [← h1, h2]
      · have e1 : (a == x) = true := by simpa using h1
        have e2 : (a == y) = false := by simpa using h2
        rw [e1, e2] at e
        simp at e
    · have e1 : (a == x) = false := by simpa using h1
      by_cases h2 : a = y
      · have e2 : (a == y) = true := by simpa using h2
        rw [e1, e2] at e
        simp at e
      · have e2 : (a == y) = false := by simpa using h2
        rw [e1, e2] at e
        refine idx_inj ((List.mem_cons.mp hx).resolve_left fun z => h1 z.symm) ((List.mem_cons.mp hy).resolve_left fun z => h2 z.symm) (by simpa using e)
theorem idx_get : ∀ {l : List Txt} {i : Nat}, l.Nodup → (h : i < l.length) → l.idxOf l[i] = i
  | [], _, _, h => absurd h (by simp)
  | a :: r, 0, _, _ => by simp
  | a :: r, i + 1, nd, h => by
    obtain ⟨n1, n2⟩ := List.nodup_cons.mp nd
    have hi : i < r.length := by simpa using h
    rw [List.getElem_cons_succ, List.idxOf_cons]
    have e : (a == r[i]) = false := by simp; intro e; exact n1 (e ▸ List.getElem_mem hi)
    rw [e, idx_get n2 hi]; rfl
theorem two_at {l : List Txt} (nd : l.Nodup) {x y : Txt} (h : [x, y].Sublist l) : l.idxOf x < l.idxOf y := by
  induction l with
  | nil => cases h
  | cons a r ih =>
    obtain ⟨n1, n2⟩ := List.nodup_cons.mp nd
    cases h with
    | cons _ h =>
      have hx : x ∈ r := h.subset (by simp)
      have hy : y ∈ r := h.subset (by simp)
      have := ih n2 h
      rw [List.idxOf_cons, List.idxOf_cons]
      have e1 : (a == x) = false := by simp; intro e; exact n1 (e ▸ hx)
      have e2 : (a == y) = false := by simp; intro e; exact n1 (e ▸ hy)
      rw [e1, e2]; simpa using this
    | cons_cons _ h =>
      have hy : y ∈ r := List.singleton_sublist.mp h
      rw [List.idxOf_cons, List.idxOf_cons]
      have e2 : (x == y) = false := by simp; intro e; exact n1 (e ▸ hy)
      rw [e2]; simp
/-- the chain of kept things from one in the group a: one of each group below -/
theorem kept_chain {p : Txt → Nat} {done : List Txt} {G : List (List Txt)} {B : B2} (nd : done.Nodup) (I : Inv p done G B) : ∀ (a n : Nat) (g : List Txt) (t : Txt), a ≤ n → G[a]? = some g → t ∈ g →
    (keptFrom B n t).length = a + 1 ∧ (keptFrom B n t).Pairwise (fun x y => p y < p x) ∧ (keptFrom B n t).head? = some t ∧ (∀ x ∈ keptFrom B n t, x ∈ done) ∧ (keptFrom B n t).Pairwise (fun x y => done.idxOf y < done.idxOf x)
  | 0, n, g, t, _, hg, ht => by
    have e : keptFrom B n t = [t] := by
      cases n with
      | zero => rfl
      | succ n => rw [keptFrom, I.low g t hg ht]
    rw [e]
    exact ⟨rfl, List.pairwise_singleton _ _, rfl, fun x hx => by rw [List.mem_singleton.mp hx]; exact (I.sub g (List.mem_of_getElem? hg)).subset ht, List.pairwise_singleton _ _⟩
  | a + 1, n, g, t, hn, hg, ht => by
    obtain ⟨n, rfl⟩ : ∃ m, n = m + 1 := ⟨n - 1, by omega⟩
    obtain ⟨b, g', q1, q2, q3, q4, q5⟩ := I.up a g t hg ht
    obtain ⟨h1, h2, h3, h4, h5⟩ := kept_chain nd I a n g' b (by omega) q1 q2
    have e : keptFrom B (n + 1) t = t :: keptFrom B n b := by rw [keptFrom, q3]
    rw [e]
    obtain ⟨tl, etl⟩ : ∃ tl, keptFrom B n b = b :: tl := by
      cases hk : keptFrom B n b with
      | nil => rw [hk] at h3; cases h3
      | cons x tl => rw [hk] at h3; simp at h3; exact ⟨tl, by rw [h3]⟩
    refine ⟨by rw [List.length_cons, h1], List.pairwise_cons.mpr ⟨fun y hy => ?_, h2⟩, rfl, fun x hx => ?_, ?_⟩
    · rw [etl] at hy h2
      rcases List.mem_cons.mp hy with z | z
      · rw [z]; exact q4
      · exact Nat.lt_trans ((List.pairwise_cons.mp h2).1 y z) q4
    · rcases List.mem_cons.mp hx with z | z
      · rw [z]; exact (I.sub g (List.mem_of_getElem? hg)).subset ht
      · exact h4 x z
    · refine List.pairwise_cons.mpr ⟨fun y hy => ?_, h5⟩
      rw [etl] at hy h5
      rcases List.mem_cons.mp hy with z | z
      · rw [z]; exact two_at nd q5
      · exact Nat.lt_trans ((List.pairwise_cons.mp h5).1 y z) (two_at nd q5)
theorem kept_ok {p : Txt → Nat} {one : List Txt} (nd : one.Nodup) (inj : ∀ x ∈ one, ∀ y ∈ one, p x = p y → x = y) :
    (keptMost p one).Pairwise (fun x y => p x < p y) ∧ (keptMost p one).Pairwise (fun x y => one.idxOf x < one.idxOf y) ∧ (∀ x ∈ keptMost p one, x ∈ one) ∧ (keptMost p one).length = (groupsOf p one).1.length := by
  have I := inv_groups nd inj
  unfold keptMost
  by_cases hG : (groupsOf p one).1 = []
  · simp only [hG, if_true]
    exact ⟨.nil, .nil, fun _ z => (by cases z), rfl⟩
  · simp only [if_neg hG]
    have hlen : 0 < (groupsOf p one).1.length := ne_len hG
    have hm : (groupsOf p one).1.length ≤ one.length := by
      rw [← I.pm.length_eq]
      have : ∀ G : List (List Txt), (∀ g ∈ G, g ≠ []) → G.length ≤ G.flatten.length := by
        intro G
        induction G with
        | nil => intro _; simp
        | cons g r ih =>
          intro h
          have := ih fun x hx => h x (List.mem_cons_of_mem _ hx)
          have := ne_len (h g List.mem_cons_self)
          rw [List.flatten_cons, List.length_append, List.length_cons]; omega
      exact this _ I.ne
    have hl : (groupsOf p one).1[(groupsOf p one).1.length - 1]? = some ((groupsOf p one).1.getLastD []) := by
      rw [List.getLastD_eq_getLast?, List.getLast?_eq_getElem?, List.getElem?_eq_getElem (by omega)]
      rfl
    obtain ⟨h1, h2, h3, h4, h5⟩ := kept_chain nd I ((groupsOf p one).1.length - 1) one.length _ (lastT ((groupsOf p one).1.getLastD [])) (by omega) hl (lastT_mem (I.ne _ (List.mem_of_getElem? hl)))
    refine ⟨List.pairwise_reverse.mpr h2, ?_, fun x hx => h4 x (List.mem_reverse.mp hx), by rw [List.length_reverse, h1]; omega⟩
    exact List.pairwise_reverse.mpr h5
end KM

set_option Elab.async false
set_option linter.all false
set_option maxRecDepth 100000
set_option maxHeartbeats 4000000
namespace LW
open PySem PySem.Spec L2 DL
def top (i : Nat) : Stmt := PySem.Challenge.pw_sortlore_k82_groups_walked.main.body.getD i (.Pass ⟨0, 0, 0, 0⟩)
abbrev st_groups_of : Stmt := top 1
abbrev st_kept_most : Stmt := top 2
abbrev st__law_cell_at : Stmt := top 4
abbrev st__law_pieces : Stmt := top 5
abbrev st__law_turns : Stmt := top 6
abbrev st__law_falling : Stmt := top 7
abbrev st_law : Stmt := top 8
def N_groups_of : List Str := ["one", "other", "place", "groups", "behind", "thing", "k", "at"]
abbrev ps_groups_of : List Str := ["one", "other"]
def N_kept_most : List Str := ["one", "other", "kept", "groups", "behind"]
abbrev ps_kept_most : List Str := ["one", "other"]
def N__law_cell_at : List Str := ["_law_script", "_law_k"]
abbrev ps__law_cell_at : List Str := ["_law_script", "_law_k"]
def N__law_pieces : List Str := ["_law_cell", "_law_many", "_law_signs", "_law_number", "_law_step", "_law_begin", "_law_shape", "_law_found", "_law_k", "_law_place"]
abbrev ps__law_pieces : List Str := ["_law_cell", "_law_many"]
def N__law_turns : List Str := ["_law_script", "_law_many", "_law_one", "_law_other", "_law_shape", "_law_left", "_law_k", "_law_cell", "_law_number", "_law_thing"]
abbrev ps__law_turns : List Str := ["_law_script", "_law_many"]
def N__law_falling : List Str := ["_law_group", "_law_place", "_law_second", "_law_ahead", "_law_k", "_law_thing"]
abbrev ps__law_falling : List Str := ["_law_group", "_law_place", "_law_second"]
def N_law : List Str := ["_law_script", "_law_many", "_law_got", "_law_place", "_law_second", "_law_k", "_law_met", "_law_group", "_law_one", "_law_other", "_law_thing"]
abbrev ps_law : List Str := ["_law_script"]
/-- what stands behind the top -/
structure Tx (K : PySem.W.Frag) (mg : Str → Option Value) where
  a_groups_of : Addr
  fd_groups_of : FuncData
  F_groups_of : Fun K "groups_of" "groups_of" st_groups_of a_groups_of fd_groups_of
  g_groups_of : mg "groups_of" = some (.ref a_groups_of)
  b_groups_of : Binds K fd_groups_of ps_groups_of []
  a_kept_most : Addr
  fd_kept_most : FuncData
  F_kept_most : Fun K "kept_most" "kept_most" st_kept_most a_kept_most fd_kept_most
  g_kept_most : mg "kept_most" = some (.ref a_kept_most)
  b_kept_most : Binds K fd_kept_most ps_kept_most []
  a__law_cell_at : Addr
  fd__law_cell_at : FuncData
  F__law_cell_at : Fun K "_law_cell_at" "_law_cell_at" st__law_cell_at a__law_cell_at fd__law_cell_at
  g__law_cell_at : mg "_law_cell_at" = some (.ref a__law_cell_at)
  b__law_cell_at : Binds K fd__law_cell_at ps__law_cell_at []
  a__law_pieces : Addr
  fd__law_pieces : FuncData
  F__law_pieces : Fun K "_law_pieces" "_law_pieces" st__law_pieces a__law_pieces fd__law_pieces
  g__law_pieces : mg "_law_pieces" = some (.ref a__law_pieces)
  b__law_pieces : Binds K fd__law_pieces ps__law_pieces []
  a__law_turns : Addr
  fd__law_turns : FuncData
  F__law_turns : Fun K "_law_turns" "_law_turns" st__law_turns a__law_turns fd__law_turns
  g__law_turns : mg "_law_turns" = some (.ref a__law_turns)
  b__law_turns : Binds K fd__law_turns ps__law_turns []
  a__law_falling : Addr
  fd__law_falling : FuncData
  F__law_falling : Fun K "_law_falling" "_law_falling" st__law_falling a__law_falling fd__law_falling
  g__law_falling : mg "_law_falling" = some (.ref a__law_falling)
  b__law_falling : Binds K fd__law_falling ps__law_falling []
  a_law : Addr
  fd_law : FuncData
  F_law : Fun K "law" "law" st_law a_law fd_law
  g_law : mg "law" = some (.ref a_law)
  b_law : Binds K fd_law ps_law []
  n_enumerate : mg "enumerate" = none
  n_isinstance : mg "isinstance" = none
  n_len : mg "len" = none
  n_list : mg "list" = none
  n_range : mg "range" = none
  n_reversed : mg "reversed" = none
  n_sorted : mg "sorted" = none
def RT0 {K : PySem.W.Frag} {mg : Str → Option Value} (T : Tx K mg) : RT := ⟨fun _ => 0, fun _ => []⟩
def wc_groups_of_0 : TTd := (dAndT (dTst (dBin ltD (dVar 7) (dCB lenD (bCons (dVar 3) bNil)))) (dTst (dBin ltD (dIx (dVar 2) (dIx (dIx (dVar 3) (dVar 7)) (dNeg (dC (.int 1))))) (dIx (dVar 2) (dVar 5)))))
theorem e_wc_groups_of_0 env Q E : wc_groups_of_0 env Q E = (dAndT (dTst (dBin ltD (dVar 7) (dCB lenD (bCons (dVar 3) bNil)))) (dTst (dBin ltD (dIx (dVar 2) (dIx (dIx (dVar 3) (dVar 7)) (dNeg (dC (.int 1))))) (dIx (dVar 2) (dVar 5))))) env Q E := rfl
def lb_groups_of_0 : TSd := (dAsg (dBin addD (dVar 7) (dC (.int 1))) (gN 7))
theorem e_lb_groups_of_0 D env : lb_groups_of_0 D env = (dAsg (dBin addD (dVar 7) (dC (.int 1))) (gN 7)) D env := rfl
def lb_groups_of_2 : TSd := (dSeq (dAsg (dC (.int 0)) (gN 7))
  (dSeq (dWhile wc_groups_of_0 lb_groups_of_0)
  (dSeq (dIfS (dTst (dBin eqD (dVar 7) (dCB lenD (bCons (dVar 3) bNil)))) (dMS 3 (pVar 3) "list" appM (dCons (dLst dNil) dNil)) dNext)
  (dSeq (dMS 3 (pIx 3 (pVar 3) (dVar 7)) "list" appM (dCons (dVar 5) dNil))
  (dIfS (dTst (dBin gtD (dVar 7) (dC (.int 0)))) (dSub 4 (pVar 4) (dVar 5) (dIx (dIx (dVar 3) (dBin subD (dVar 7) (dC (.int 1)))) (dNeg (dC (.int 1))))) dNext)))))
theorem e_lb_groups_of_2 D env : lb_groups_of_2 D env = (dSeq (dAsg (dC (.int 0)) (gN 7))
  (dSeq (dWhile wc_groups_of_0 lb_groups_of_0)
  (dSeq (dIfS (dTst (dBin eqD (dVar 7) (dCB lenD (bCons (dVar 3) bNil)))) (dMS 3 (pVar 3) "list" appM (dCons (dLst dNil) dNil)) dNext)
  (dSeq (dMS 3 (pIx 3 (pVar 3) (dVar 7)) "list" appM (dCons (dVar 5) dNil))
  (dIfS (dTst (dBin gtD (dVar 7) (dC (.int 0)))) (dSub 4 (pVar 4) (dVar 5) (dIx (dIx (dVar 3) (dBin subD (dVar 7) (dC (.int 1)))) (dNeg (dC (.int 1))))) dNext))))) D env := rfl
def lb_groups_of_3 : TSd := (dSub 2 (pVar 2) (dVar 5) (dVar 6))
theorem e_lb_groups_of_3 D env : lb_groups_of_3 D env = (dSub 2 (pVar 2) (dVar 5) (dVar 6)) D env := rfl
def b_groups_of : TSd := (dSeq (dAsg dDct0 (gN 2))
  (dSeq (dFor (dEnum (dVar 1)) (gTu 2 (gsCons (gN 6) (gsCons (gN 5) gsNil))) lb_groups_of_3)
  (dSeq (dAsg (dLst dNil) (gN 3))
  (dSeq (dAsg dDct0 (gN 4))
  (dSeq (dFor (dIt (dVar 0)) (gN 5) lb_groups_of_2)
  (dRetT [3, 4] (dConsV 3 (dConsV 4 dNil))))))))
theorem e_b_groups_of D env : b_groups_of D env = (dSeq (dAsg dDct0 (gN 2))
  (dSeq (dFor (dEnum (dVar 1)) (gTu 2 (gsCons (gN 6) (gsCons (gN 5) gsNil))) lb_groups_of_3)
  (dSeq (dAsg (dLst dNil) (gN 3))
  (dSeq (dAsg dDct0 (gN 4))
  (dSeq (dFor (dIt (dVar 0)) (gN 5) lb_groups_of_2)
  (dRetT [3, 4] (dConsV 3 (dConsV 4 dNil)))))))) D env := rfl
def sp_groups_of : SPD := spB 6 b_groups_of
theorem e_sp_groups_of (ds : List D) (Q : D → Sl → Prop) (E : EX → Sl → Prop) : sp_groups_of ds Q E = b_groups_of { nx := fun env => Q .non env, rt := Q, ex := E } (pad 6 ds) := rfl
def wc_kept_most_0 : TTd := (dTst (dBin (inD false) (dIx (dVar 2) (dNeg (dC (.int 1)))) (dVar 4)))
theorem e_wc_kept_most_0 env Q E : wc_kept_most_0 env Q E = (dTst (dBin (inD false) (dIx (dVar 2) (dNeg (dC (.int 1)))) (dVar 4))) env Q E := rfl
def lb_kept_most_0 : TSd := (dMS 2 (pVar 2) "list" appM (dCons (dIx (dVar 4) (dIx (dVar 2) (dNeg (dC (.int 1))))) dNil))
theorem e_lb_kept_most_0 D env : lb_kept_most_0 D env = (dMS 2 (pVar 2) "list" appM (dCons (dIx (dVar 4) (dIx (dVar 2) (dNeg (dC (.int 1))))) dNil)) D env := rfl
def b_kept_most : TSd := (dSeq (dAsg (dCallL 2 sp_groups_of [] (bCons (dVar 0) (bCons (dVar 1) bNil))) (gTu 2 (gsCons (gN 3) (gsCons (gN 4) gsNil))))
  (dSeq (dAsg (dLst dNil) (gN 2))
  (dSeq (dIfS (dTst (dBin neD (dVar 3) (dLst dNil))) (dSeq (dMS 2 (pVar 2) "list" appM (dCons (dIx (dIx (dVar 3) (dNeg (dC (.int 1)))) (dNeg (dC (.int 1)))) dNil))
  (dWhile wc_kept_most_0 lb_kept_most_0)) dNext)
  (dRetT [3] (dCons (dLRev (dVar 2)) (dConsV 3 dNil))))))
theorem e_b_kept_most D env : b_kept_most D env = (dSeq (dAsg (dCallL 2 sp_groups_of [] (bCons (dVar 0) (bCons (dVar 1) bNil))) (gTu 2 (gsCons (gN 3) (gsCons (gN 4) gsNil))))
  (dSeq (dAsg (dLst dNil) (gN 2))
  (dSeq (dIfS (dTst (dBin neD (dVar 3) (dLst dNil))) (dSeq (dMS 2 (pVar 2) "list" appM (dCons (dIx (dIx (dVar 3) (dNeg (dC (.int 1)))) (dNeg (dC (.int 1)))) dNil))
  (dWhile wc_kept_most_0 lb_kept_most_0)) dNext)
  (dRetT [3] (dCons (dLRev (dVar 2)) (dConsV 3 dNil)))))) D env := rfl
def sp_kept_most : SPD := spB 3 b_kept_most
theorem e_sp_kept_most (ds : List D) (Q : D → Sl → Prop) (E : EX → Sl → Prop) : sp_kept_most ds Q E = b_kept_most { nx := fun env => Q .non env, rt := Q, ex := E } (pad 3 ds) := rfl
def b__law_cell_at : TSd := (dSeq (dIfS (dTst (dBin ltD (dVar 1) (dCB lenD (bCons (dVar 0) bNil)))) (dRet (dIx (dVar 0) (dVar 1))) dNext)
  (dRet (dC (.int 0))))
theorem e_b__law_cell_at D env : b__law_cell_at D env = (dSeq (dIfS (dTst (dBin ltD (dVar 1) (dCB lenD (bCons (dVar 0) bNil)))) (dRet (dIx (dVar 0) (dVar 1))) dNext)
  (dRet (dC (.int 0)))) D env := rfl
def sp__law_cell_at : SPD := spB 0 b__law_cell_at
theorem e_sp__law_cell_at (ds : List D) (Q : D → Sl → Prop) (E : EX → Sl → Prop) : sp__law_cell_at ds Q E = b__law_cell_at { nx := fun env => Q .non env, rt := Q, ex := E } (pad 0 ds) := rfl
def lb__law_pieces_0 : TSd := (dSeq (dAsg (dBin modD (dBin addD (dVar 5) (dBin mulD (dVar 8) (dVar 4))) (dC (.int 8649))) (gN 9))
  (dIfS (dOrT (dTst (dBin eqD (dVar 6) (dC (.int 0)))) (dAndT (dTst (dBin eqD (dVar 6) (dC (.int 1)))) (dTst (dBin eqD (dBin modD (dVar 8) (dC (.int 2))) (dC (.int 1)))))) (dMS 7 (pVar 7) "list" appM (dCons (dIx (dVar 2) (dBin modD (dVar 9) (dC (.int 93)))) dNil)) (dMS 7 (pVar 7) "list" appM (dCons (dBin addD (dIx (dVar 2) (dBin fdivD (dVar 9) (dC (.int 93)))) (dIx (dVar 2) (dBin modD (dVar 9) (dC (.int 93))))) dNil))))
theorem e_lb__law_pieces_0 D env : lb__law_pieces_0 D env = (dSeq (dAsg (dBin modD (dBin addD (dVar 5) (dBin mulD (dVar 8) (dVar 4))) (dC (.int 8649))) (gN 9))
  (dIfS (dOrT (dTst (dBin eqD (dVar 6) (dC (.int 0)))) (dAndT (dTst (dBin eqD (dVar 6) (dC (.int 1)))) (dTst (dBin eqD (dBin modD (dVar 8) (dC (.int 2))) (dC (.int 1)))))) (dMS 7 (pVar 7) "list" appM (dCons (dIx (dVar 2) (dBin modD (dVar 9) (dC (.int 93)))) dNil)) (dMS 7 (pVar 7) "list" appM (dCons (dBin addD (dIx (dVar 2) (dBin fdivD (dVar 9) (dC (.int 93)))) (dIx (dVar 2) (dBin modD (dVar 9) (dC (.int 93))))) dNil)))) D env := rfl
def b__law_pieces : TSd := (dSeq (dAsg (dC (.str [33, 34, 35, 36, 38, 39, 40, 41, 42, 43, 44, 45, 46, 47, 48, 49, 50, 51, 52, 53, 54, 55, 56, 57, 58, 59, 60, 61, 62, 63, 64, 65, 66, 67, 68, 69, 70, 71, 72, 73, 74, 75, 76, 77, 78, 79, 80, 81, 82, 83, 84, 85, 86, 87, 88, 89, 90, 91, 92, 93, 94, 95, 96])) (gN 2))
  (dSeq (dAsg (dBin addD (dVar 2) (dC (.str [97, 98, 99, 100, 101, 102, 103, 104, 105, 106, 107, 108, 109, 110, 111, 112, 113, 114, 115, 116, 117, 118, 119, 120, 121, 122, 123, 124, 125, 126]))) (gN 2))
  (dSeq (dAsg (dBin modD (dBin mulD (dVar 0) (dC (.int 48271))) (dC (.int 2147483647))) (gN 3))
  (dSeq (dAsg (dIx (dLst (dCons (dC (.int 1)) (dCons (dC (.int 2)) (dCons (dC (.int 5)) (dCons (dC (.int 94)) (dCons (dC (.int 187)) (dCons (dC (.int 1000)) (dCons (dC (.int 4001)) (dCons (dC (.int 8648)) dNil))))))))) (dBin modD (dVar 3) (dC (.int 8)))) (gN 4))
  (dSeq (dAsg (dBin modD (dBin fdivD (dVar 3) (dC (.int 8))) (dC (.int 8649))) (gN 5))
  (dSeq (dAsg (dBin modD (dBin fdivD (dVar 3) (dC (.int 69192))) (dC (.int 3))) (gN 6))
  (dSeq (dAsg (dLst dNil) (gN 7))
  (dSeq (dFor (dRg1 (dCons (dVar 1) dNil)) (gN 8) lb__law_pieces_0)
  (dRetV 7)))))))))
theorem e_b__law_pieces D env : b__law_pieces D env = (dSeq (dAsg (dC (.str [33, 34, 35, 36, 38, 39, 40, 41, 42, 43, 44, 45, 46, 47, 48, 49, 50, 51, 52, 53, 54, 55, 56, 57, 58, 59, 60, 61, 62, 63, 64, 65, 66, 67, 68, 69, 70, 71, 72, 73, 74, 75, 76, 77, 78, 79, 80, 81, 82, 83, 84, 85, 86, 87, 88, 89, 90, 91, 92, 93, 94, 95, 96])) (gN 2))
  (dSeq (dAsg (dBin addD (dVar 2) (dC (.str [97, 98, 99, 100, 101, 102, 103, 104, 105, 106, 107, 108, 109, 110, 111, 112, 113, 114, 115, 116, 117, 118, 119, 120, 121, 122, 123, 124, 125, 126]))) (gN 2))
  (dSeq (dAsg (dBin modD (dBin mulD (dVar 0) (dC (.int 48271))) (dC (.int 2147483647))) (gN 3))
  (dSeq (dAsg (dIx (dLst (dCons (dC (.int 1)) (dCons (dC (.int 2)) (dCons (dC (.int 5)) (dCons (dC (.int 94)) (dCons (dC (.int 187)) (dCons (dC (.int 1000)) (dCons (dC (.int 4001)) (dCons (dC (.int 8648)) dNil))))))))) (dBin modD (dVar 3) (dC (.int 8)))) (gN 4))
  (dSeq (dAsg (dBin modD (dBin fdivD (dVar 3) (dC (.int 8))) (dC (.int 8649))) (gN 5))
  (dSeq (dAsg (dBin modD (dBin fdivD (dVar 3) (dC (.int 69192))) (dC (.int 3))) (gN 6))
  (dSeq (dAsg (dLst dNil) (gN 7))
  (dSeq (dFor (dRg1 (dCons (dVar 1) dNil)) (gN 8) lb__law_pieces_0)
  (dRetV 7))))))))) D env := rfl
def sp__law_pieces : SPD := spB 8 b__law_pieces
theorem e_sp__law_pieces (ds : List D) (Q : D → Sl → Prop) (E : EX → Sl → Prop) : sp__law_pieces ds Q E = b__law_pieces { nx := fun env => Q .non env, rt := Q, ex := E } (pad 8 ds) := rfl
def lb__law_turns_0 : TSd := (dSeq (dAsg (dBin modD (dBin mulD (dVar 7) (dC (.int 48271))) (dC (.int 2147483587))) (gN 8))
  (dSeq (dMA 3 (pVar 3) "list" popM (dCons (dBin modD (dVar 8) (dVar 1)) dNil) (gN 9))
  (dSeq (dIfS (dOrT (dTst (dBin gtD (dVar 4) (dC (.int 0)))) (dTst (dBin eqD (dBin modD (dBin fdivD (dVar 8) (dC (.int 3600))) (dC (.int 4))) (dC (.int 1))))) (dAsg (dBin fdivD (dVar 8) (dC (.int 60))) (gN 8)) dNext)
  (dMS 3 (pVar 3) "list" insM (dCons (dBin modD (dVar 8) (dVar 1)) (dCons (dVar 9) dNil))))))
theorem e_lb__law_turns_0 D env : lb__law_turns_0 D env = (dSeq (dAsg (dBin modD (dBin mulD (dVar 7) (dC (.int 48271))) (dC (.int 2147483587))) (gN 8))
  (dSeq (dMA 3 (pVar 3) "list" popM (dCons (dBin modD (dVar 8) (dVar 1)) dNil) (gN 9))
  (dSeq (dIfS (dOrT (dTst (dBin gtD (dVar 4) (dC (.int 0)))) (dTst (dBin eqD (dBin modD (dBin fdivD (dVar 8) (dC (.int 3600))) (dC (.int 4))) (dC (.int 1))))) (dAsg (dBin fdivD (dVar 8) (dC (.int 60))) (gN 8)) dNext)
  (dMS 3 (pVar 3) "list" insM (dCons (dBin modD (dVar 8) (dVar 1)) (dCons (dVar 9) dNil)))))) D env := rfl
def lb__law_turns_1 : TSd := (dSeq (dAsg (dCall 2 sp__law_cell_at [] (dCons (dVar 0) (dCons (dBin addD (dC (.int 2)) (dVar 6)) dNil))) (gN 7))
  (dMN 3 "list" appM 5 (pVar 5) "list" popM (dCons (dBin modD (dBin modD (dBin mulD (dVar 7) (dC (.int 16807))) (dC (.int 2147483629))) (dCB lenD (bCons (dVar 5) bNil))) dNil)))
theorem e_lb__law_turns_1 D env : lb__law_turns_1 D env = (dSeq (dAsg (dCall 2 sp__law_cell_at [] (dCons (dVar 0) (dCons (dBin addD (dC (.int 2)) (dVar 6)) dNil))) (gN 7))
  (dMN 3 "list" appM 5 (pVar 5) "list" popM (dCons (dBin modD (dBin modD (dBin mulD (dVar 7) (dC (.int 16807))) (dC (.int 2147483629))) (dCB lenD (bCons (dVar 5) bNil))) dNil))) D env := rfl
def b__law_turns : TSd := (dSeq (dAsg (dCall 2 sp__law_pieces [] (dCons (dCall 2 sp__law_cell_at [] (dCons (dVar 0) (dCons (dC (.int 0)) dNil))) (dCons (dVar 1) dNil))) (gN 2))
  (dSeq (dAsg (dCB listD (bCons (dVar 2) bNil)) (gN 3))
  (dSeq (dAsg (dBin modD (dCall 2 sp__law_cell_at [] (dCons (dVar 0) (dCons (dC (.int 1)) dNil))) (dC (.int 4))) (gN 4))
  (dSeq (dIfS (dTst (dBin eqD (dVar 4) (dC (.int 1)))) (dMS 3 (pVar 3) "list" revM dNil) dNext)
  (dSeq (dIfS (dTst (dBin eqD (dVar 4) (dC (.int 2)))) (dSeq (dAsg (dLst dNil) (gN 3))
  (dSeq (dAsg (dCB listD (bCons (dVar 2) bNil)) (gN 5))
  (dFor (dRg1 (dCons (dVar 1) dNil)) (gN 6) lb__law_turns_1))) dNext)
  (dSeq (dIfS (dTst (dBin gtD (dVar 1) (dC (.int 0)))) (dFor (dIt (dSl (dVar 0) (oSm (dC (.int 2))) (oSm (dC (.int 62))))) (gN 7) lb__law_turns_0) dNext)
  (dRetT [2, 3] (dConsV 2 (dConsV 3 dNil)))))))))
theorem e_b__law_turns D env : b__law_turns D env = (dSeq (dAsg (dCall 2 sp__law_pieces [] (dCons (dCall 2 sp__law_cell_at [] (dCons (dVar 0) (dCons (dC (.int 0)) dNil))) (dCons (dVar 1) dNil))) (gN 2))
  (dSeq (dAsg (dCB listD (bCons (dVar 2) bNil)) (gN 3))
  (dSeq (dAsg (dBin modD (dCall 2 sp__law_cell_at [] (dCons (dVar 0) (dCons (dC (.int 1)) dNil))) (dC (.int 4))) (gN 4))
  (dSeq (dIfS (dTst (dBin eqD (dVar 4) (dC (.int 1)))) (dMS 3 (pVar 3) "list" revM dNil) dNext)
  (dSeq (dIfS (dTst (dBin eqD (dVar 4) (dC (.int 2)))) (dSeq (dAsg (dLst dNil) (gN 3))
  (dSeq (dAsg (dCB listD (bCons (dVar 2) bNil)) (gN 5))
  (dFor (dRg1 (dCons (dVar 1) dNil)) (gN 6) lb__law_turns_1))) dNext)
  (dSeq (dIfS (dTst (dBin gtD (dVar 1) (dC (.int 0)))) (dFor (dIt (dSl (dVar 0) (oSm (dC (.int 2))) (oSm (dC (.int 62))))) (gN 7) lb__law_turns_0) dNext)
  (dRetT [2, 3] (dConsV 2 (dConsV 3 dNil))))))))) D env := rfl
def sp__law_turns : SPD := spB 8 b__law_turns
theorem e_sp__law_turns (ds : List D) (Q : D → Sl → Prop) (E : EX → Sl → Prop) : sp__law_turns ds Q E = b__law_turns { nx := fun env => Q .non env, rt := Q, ex := E } (pad 8 ds) := rfl
def lb__law_falling_0 : TSd := (dIfS (dTst (dBin leD (dIx (dVar 2) (dIx (dVar 3) (dBin subD (dVar 4) (dC (.int 1))))) (dIx (dVar 2) (dIx (dVar 3) (dVar 4))))) (dRet (dC (.bl false))) dNext)
theorem e_lb__law_falling_0 D env : lb__law_falling_0 D env = (dIfS (dTst (dBin leD (dIx (dVar 2) (dIx (dVar 3) (dBin subD (dVar 4) (dC (.int 1))))) (dIx (dVar 2) (dIx (dVar 3) (dVar 4))))) (dRet (dC (.bl false))) dNext) D env := rfl
def b__law_falling : TSd := (dSeq (dAsg (dCB sortedD (bCons (dLC 6 (dIt (dVar 0)) (gN 5) dYes (dIx (dVar 1) (dVar 5)) [5]) bNil)) (gN 3))
  (dSeq (dFor (dRg2 (dCons (dC (.int 1)) (dCons (dCB lenD (bCons (dVar 3) bNil)) dNil))) (gN 4) lb__law_falling_0)
  (dRet (dC (.bl true)))))
theorem e_b__law_falling D env : b__law_falling D env = (dSeq (dAsg (dCB sortedD (bCons (dLC 6 (dIt (dVar 0)) (gN 5) dYes (dIx (dVar 1) (dVar 5)) [5]) bNil)) (gN 3))
  (dSeq (dFor (dRg2 (dCons (dC (.int 1)) (dCons (dCB lenD (bCons (dVar 3) bNil)) dNil))) (gN 4) lb__law_falling_0)
  (dRet (dC (.bl true))))) D env := rfl
def sp__law_falling : SPD := spB 3 b__law_falling
theorem e_sp__law_falling (ds : List D) (Q : D → Sl → Prop) (E : EX → Sl → Prop) : sp__law_falling ds Q E = b__law_falling { nx := fun env => Q .non env, rt := Q, ex := E } (pad 3 ds) := rfl
def lb_law_0 : TSd := (dSeq (dIfS (dOrT (dTst (dBin (inD true) (dVar 10) (dVar 3))) (dTst (dBin (inD false) (dVar 10) (dVar 6)))) (dRet (dC (.bl false))) dNext)
  (dMS 6 (pVar 6) "list" appM (dCons (dVar 10) dNil)))
theorem e_lb_law_0 D env : lb_law_0 D env = (dSeq (dIfS (dOrT (dTst (dBin (inD true) (dVar 10) (dVar 3))) (dTst (dBin (inD false) (dVar 10) (dVar 6)))) (dRet (dC (.bl false))) dNext)
  (dMS 6 (pVar 6) "list" appM (dCons (dVar 10) dNil))) D env := rfl
def lb_law_1 : TSd := (dSeq (dIfS (dOrT (dNotT (dTst (dIsi "list" (dVar 7)))) (dTst (dBin eqD (dVar 7) (dLst dNil)))) (dRet (dC (.bl false))) dNext)
  (dSeq (dFor (dIt (dVar 7)) (gN 10) lb_law_0)
  (dIfS (dNotT (dTst (dCallL 3 sp__law_falling [] (bCons (dVar 7) (bCons (dVar 3) (bCons (dVar 4) bNil)))))) (dRet (dC (.bl false))) dNext)))
theorem e_lb_law_1 D env : lb_law_1 D env = (dSeq (dIfS (dOrT (dNotT (dTst (dIsi "list" (dVar 7)))) (dTst (dBin eqD (dVar 7) (dLst dNil)))) (dRet (dC (.bl false))) dNext)
  (dSeq (dFor (dIt (dVar 7)) (gN 10) lb_law_0)
  (dIfS (dNotT (dTst (dCallL 3 sp__law_falling [] (bCons (dVar 7) (bCons (dVar 3) (bCons (dVar 4) bNil)))))) (dRet (dC (.bl false))) dNext))) D env := rfl
def lb_law_2 : TSd := (dSub 4 (pVar 4) (dIx (dVar 3) (dIx (dVar 9) (dVar 5))) (dVar 5))
theorem e_lb_law_2 D env : lb_law_2 D env = (dSub 4 (pVar 4) (dIx (dVar 3) (dIx (dVar 9) (dVar 5))) (dVar 5)) D env := rfl
def lb_law_3 : TSd := (dSub 3 (pVar 3) (dIx (dVar 8) (dVar 5)) (dVar 5))
theorem e_lb_law_3 D env : lb_law_3 D env = (dSub 3 (pVar 3) (dIx (dVar 8) (dVar 5)) (dVar 5)) D env := rfl
def b_law : TSd := (dSeq (dAsg (dBin modD (dCall 2 sp__law_cell_at [] (dCons (dVar 0) (dCons (dC (.int 0)) dNil))) (dC (.int 61))) (gN 1))
  (dSeq (dAsg (dCall 2 sp__law_turns [] (dCons (dVar 0) (dCons (dVar 1) dNil))) (gTu 2 (gsCons (gN 8) (gsCons (gN 9) gsNil))))
  (dSeq (dAsg (dCallL 2 sp_kept_most [] (bCons (dCB listD (bCons (dVar 8) bNil)) (bCons (dCB listD (bCons (dVar 9) bNil)) bNil))) (gN 2))
  (dSeq (dAsg dDct0 (gN 3))
  (dSeq (dAsg dDct0 (gN 4))
  (dSeq (dFor (dRg1 (dCons (dVar 1) dNil)) (gN 5) lb_law_3)
  (dSeq (dFor (dRg1 (dCons (dVar 1) dNil)) (gN 5) lb_law_2)
  (dSeq (dAsg (dLst dNil) (gN 6))
  (dSeq (dFz [2] (dFor (dIt (dIx (dVar 2) (dC (.int 1)))) (gN 7) lb_law_1))
  (dRet (dAnd (dBin eqD (dCB lenD (bCons (dVar 6) bNil)) (dVar 1)) (dBin eqD (dCB lenD (bCons (dIx (dVar 2) (dC (.int 0))) bNil)) (dCB lenD (bCons (dIx (dVar 2) (dC (.int 1))) bNil))))))))))))))
theorem e_b_law D env : b_law D env = (dSeq (dAsg (dBin modD (dCall 2 sp__law_cell_at [] (dCons (dVar 0) (dCons (dC (.int 0)) dNil))) (dC (.int 61))) (gN 1))
  (dSeq (dAsg (dCall 2 sp__law_turns [] (dCons (dVar 0) (dCons (dVar 1) dNil))) (gTu 2 (gsCons (gN 8) (gsCons (gN 9) gsNil))))
  (dSeq (dAsg (dCallL 2 sp_kept_most [] (bCons (dCB listD (bCons (dVar 8) bNil)) (bCons (dCB listD (bCons (dVar 9) bNil)) bNil))) (gN 2))
  (dSeq (dAsg dDct0 (gN 3))
  (dSeq (dAsg dDct0 (gN 4))
  (dSeq (dFor (dRg1 (dCons (dVar 1) dNil)) (gN 5) lb_law_3)
  (dSeq (dFor (dRg1 (dCons (dVar 1) dNil)) (gN 5) lb_law_2)
  (dSeq (dAsg (dLst dNil) (gN 6))
  (dSeq (dFz [2] (dFor (dIt (dIx (dVar 2) (dC (.int 1)))) (gN 7) lb_law_1))
  (dRet (dAnd (dBin eqD (dCB lenD (bCons (dVar 6) bNil)) (dVar 1)) (dBin eqD (dCB lenD (bCons (dIx (dVar 2) (dC (.int 0))) bNil)) (dCB lenD (bCons (dIx (dVar 2) (dC (.int 1))) bNil)))))))))))))) D env := rfl
def sp_law : SPD := spB 10 b_law
theorem e_sp_law (ds : List D) (Q : D → Sl → Prop) (E : EX → Sl → Prop) : sp_law ds Q E = b_law { nx := fun env => Q .non env, rt := Q, ex := E } (pad 10 ds) := rfl
section
variable {Pg : Program} {w : World} {K : PySem.W.Frag} {mg : Str → Option Value} {base : Heap}
theorem sc_groups_of : FnScope N_groups_of ps_groups_of (defScope st_groups_of) := ⟨rfl, rfl, rfl, by decide +kernel, rfl, by decide +kernel, by decide +kernel⟩
theorem ok_groups_of (T : Tx K mg) : FnOk Pg w K mg base (L2.CX Pg w) 2 T.a_groups_of T.fd_groups_of ps_groups_of (toSp K (RT0 T) [] 2 sp_groups_of) := by
  have S := sc_groups_of
  refine fn_d T.F_groups_of S rfl (by decide) fun cdv A outer s H E hr => ?_
  exact (dss_cons (ds_asg de_dct0 (dg_name 2 S.nd))
  (dss_cons (ds_for (passes_of rfl) rfl (di_enum rfl (T.n_enumerate) (de_var 1)) (dg_tup rfl (dgs_cons (dg_name 6 S.nd) (dgs_cons (dg_name 5 S.nd) dgs_nil))) (dss_one (ds_sub (hu_of hr) (de_var 6) (dp_var 2) (de_var 5))))
  (dss_cons (ds_asg (de_lst da_nil) (dg_name 3 S.nd))
  (dss_cons (ds_asg de_dct0 (dg_name 4 S.nd))
  (dss_cons (ds_for (passes_of rfl) rfl (di_it (de_var 0)) (dg_name 5 S.nd) (dss_cons (ds_asg de_int (dg_name 7 S.nd))
  (dss_cons (ds_while (passes_of rfl) (dt_w (dw_and (dt_cmp (ltD_ok hr.units0) (de_var 7) (de_callB lenD_ok rfl (T.n_len) (by decide +kernel) (db_cons (de_var 3) db_nil))) (dw_and1 (dt_cmp (ltD_ok hr.units0) (de_ix (hu_of hr) (de_var 2) (de_ix (hu_of hr) (de_ix (hu_of hr) (de_var 3) (de_var 7)) (de_neg de_int))) (de_ix (hu_of hr) (de_var 2) (de_var 5)))))) (dss_one (ds_asg (de_bin addD_ok (de_var 7) de_int) (dg_name 7 S.nd))))
  (dss_cons (ds_if (dt_cmp (eqD_ok hr.units) (de_var 7) (de_callB lenD_ok rfl (T.n_len) (by decide +kernel) (db_cons (de_var 3) db_nil))) (dss_one (ds_mS appM_ok PySem.F.plainAttrs_list PySem.F.slot_list_append PySem.F.type_list_append (dp_var 3) (da_cons (de_lst da_nil) da_nil))) dss_nil)
  (dss_cons (ds_mS appM_ok PySem.F.plainAttrs_list PySem.F.slot_list_append PySem.F.type_list_append (dp_ix (hu_of hr) (dp_var 3) (de_var 7)) (da_cons (de_var 5) da_nil))
  (dss_one (ds_if (dt_cmp gtD_ok (de_var 7) de_int) (dss_one (ds_sub (hu_of hr) (de_ix (hu_of hr) (de_ix (hu_of hr) (de_var 3) (de_bin subD_ok (de_var 7) de_int)) (de_neg de_int)) (dp_var 4) (de_var 5))) dss_nil)))))))
  (dss_one (ds_retT (dm_consV 3 (dm_consV 4 dm_nil)))))))))
theorem sc_kept_most : FnScope N_kept_most ps_kept_most (defScope st_kept_most) := ⟨rfl, rfl, rfl, by decide +kernel, rfl, by decide +kernel, by decide +kernel⟩
theorem ok_kept_most (T : Tx K mg) : FnOk Pg w K mg base (L2.CX Pg w) 3 T.a_kept_most T.fd_kept_most ps_kept_most (toSp K (RT0 T) [] 2 sp_kept_most) := by
  have S := sc_kept_most
  refine fn_d T.F_kept_most S rfl (by decide) fun cdv A outer s H E hr => ?_
  exact (dss_cons (ds_asg (de_callL ((ok_groups_of T).mono (by decide)) hr T.g_groups_of T.F_groups_of.kp T.b_groups_of .nil (db_cons (de_var 0) (db_cons (de_var 1) db_nil))) (dg_tup rfl (dgs_cons (dg_name 3 S.nd) (dgs_cons (dg_name 4 S.nd) dgs_nil))))
  (dss_cons (ds_asg (de_lst da_nil) (dg_name 2 S.nd))
  (dss_cons (ds_if (dt_cmp (neD_ok hr.units) (de_var 3) (de_lst da_nil)) (dss_cons (ds_mS appM_ok PySem.F.plainAttrs_list PySem.F.slot_list_append PySem.F.type_list_append (dp_var 2) (da_cons (de_ix (hu_of hr) (de_ix (hu_of hr) (de_var 3) (de_neg de_int)) (de_neg de_int)) da_nil))
  (dss_one (ds_while (passes_of rfl) (dt_cmp (inD_in (hu_of hr)) (de_ix (hu_of hr) (de_var 2) (de_neg de_int)) (de_var 4)) (dss_one (ds_mS appM_ok PySem.F.plainAttrs_list PySem.F.slot_list_append PySem.F.type_list_append (dp_var 2) (da_cons (de_ix (hu_of hr) (de_var 4) (de_ix (hu_of hr) (de_var 2) (de_neg de_int))) da_nil)))))) dss_nil)
  (dss_one (ds_retT (dm_cons (de_lstRev rfl rfl (T.n_list) rfl (T.n_reversed) (de_var 2)) (dm_consV 3 dm_nil)))))))
theorem sc__law_cell_at : FnScope N__law_cell_at ps__law_cell_at (defScope st__law_cell_at) := ⟨rfl, rfl, rfl, by decide +kernel, rfl, by decide +kernel, by decide +kernel⟩
theorem ok__law_cell_at (T : Tx K mg) : FnOk Pg w K mg base (L2.CX Pg w) 2 T.a__law_cell_at T.fd__law_cell_at ps__law_cell_at (toSp K (RT0 T) [] 2 sp__law_cell_at) := by
  have S := sc__law_cell_at
  refine fn_d T.F__law_cell_at S rfl (by decide) fun cdv A outer s H E hr => ?_
  exact (dss_cons (ds_if (dt_cmp (ltD_ok hr.units0) (de_var 1) (de_callB lenD_ok rfl (T.n_len) (by decide +kernel) (db_cons (de_var 0) db_nil))) (dss_one (ds_ret (de_ix (hu_of hr) (de_var 0) (de_var 1)))) dss_nil)
  (dss_one (ds_ret de_int)))
theorem sc__law_pieces : FnScope N__law_pieces ps__law_pieces (defScope st__law_pieces) := ⟨rfl, rfl, rfl, by decide +kernel, rfl, by decide +kernel, by decide +kernel⟩
theorem ok__law_pieces (T : Tx K mg) : FnOk Pg w K mg base (L2.CX Pg w) 2 T.a__law_pieces T.fd__law_pieces ps__law_pieces (toSp K (RT0 T) [] 2 sp__law_pieces) := by
  have S := sc__law_pieces
  refine fn_d T.F__law_pieces S rfl (by decide) fun cdv A outer s H E hr => ?_
  exact (dss_cons (ds_asg (de_str (by decide +kernel)) (dg_name 2 S.nd))
  (dss_cons (ds_asg (de_bin addD_ok (de_var 2) (de_str (by rfl))) (dg_name 2 S.nd))
  (dss_cons (ds_asg (de_bin modD_ok (de_bin mulD_ok (de_var 0) de_int) de_int) (dg_name 3 S.nd))
  (dss_cons (ds_asg (de_ix (hu_of hr) (de_lst (da_cons de_int (da_cons de_int (da_cons de_int (da_cons de_int (da_cons de_int (da_cons de_int (da_cons de_int (da_cons de_int da_nil))))))))) (de_bin modD_ok (de_var 3) de_int)) (dg_name 4 S.nd))
  (dss_cons (ds_asg (de_bin modD_ok (de_bin fdivD_ok (de_var 3) de_int) de_int) (dg_name 5 S.nd))
  (dss_cons (ds_asg (de_bin modD_ok (de_bin fdivD_ok (de_var 3) de_int) de_int) (dg_name 6 S.nd))
  (dss_cons (ds_asg (de_lst da_nil) (dg_name 7 S.nd))
  (dss_cons (ds_for (passes_of rfl) rfl (di_range1 rfl (T.n_range) (da_cons (de_var 1) da_nil)) (dg_name 8 S.nd) (dss_cons (ds_asg (de_bin modD_ok (de_bin addD_ok (de_var 5) (de_bin mulD_ok (de_var 8) (de_var 4))) de_int) (dg_name 9 S.nd))
  (dss_one (ds_if (dt_w (dw_or (dt_cmp (eqD_ok hr.units) (de_var 6) de_int) (dw_or1 (dt_w (dw_and (dt_cmp (eqD_ok hr.units) (de_var 6) de_int) (dw_and1 (dt_cmp (eqD_ok hr.units) (de_bin modD_ok (de_var 8) de_int) de_int))))))) (dss_one (ds_mS appM_ok PySem.F.plainAttrs_list PySem.F.slot_list_append PySem.F.type_list_append (dp_var 7) (da_cons (de_ix (hu_of hr) (de_var 2) (de_bin modD_ok (de_var 9) de_int)) da_nil))) (dss_one (ds_mS appM_ok PySem.F.plainAttrs_list PySem.F.slot_list_append PySem.F.type_list_append (dp_var 7) (da_cons (de_bin addD_ok (de_ix (hu_of hr) (de_var 2) (de_bin fdivD_ok (de_var 9) de_int)) (de_ix (hu_of hr) (de_var 2) (de_bin modD_ok (de_var 9) de_int))) da_nil)))))))
  (dss_one (ds_retV 7))))))))))
theorem sc__law_turns : FnScope N__law_turns ps__law_turns (defScope st__law_turns) := ⟨rfl, rfl, rfl, by decide +kernel, rfl, by decide +kernel, by decide +kernel⟩
theorem ok__law_turns (T : Tx K mg) : FnOk Pg w K mg base (L2.CX Pg w) 3 T.a__law_turns T.fd__law_turns ps__law_turns (toSp K (RT0 T) [] 2 sp__law_turns) := by
  have S := sc__law_turns
  refine fn_d T.F__law_turns S rfl (by decide) fun cdv A outer s H E hr => ?_
  exact (dss_cons (ds_asg (de_call ((ok__law_pieces T).mono (by decide)) hr T.g__law_pieces T.F__law_pieces.kp T.b__law_pieces .nil (da_cons (de_call ((ok__law_cell_at T).mono (by decide)) hr T.g__law_cell_at T.F__law_cell_at.kp T.b__law_cell_at .nil (da_cons (de_var 0) (da_cons de_int da_nil))) (da_cons (de_var 1) da_nil))) (dg_name 2 S.nd))
  (dss_cons (ds_asg (de_callTy (listD_ok rfl) rfl (T.n_list) (by decide +kernel) (db_cons (de_var 2) db_nil)) (dg_name 3 S.nd))
  (dss_cons (ds_asg (de_bin modD_ok (de_call ((ok__law_cell_at T).mono (by decide)) hr T.g__law_cell_at T.F__law_cell_at.kp T.b__law_cell_at .nil (da_cons (de_var 0) (da_cons de_int da_nil))) de_int) (dg_name 4 S.nd))
  (dss_cons (ds_if (dt_cmp (eqD_ok hr.units) (de_var 4) de_int) (dss_one (ds_mS0 revM_ok PySem.F.plainAttrs_list PySem.F.slot_list_reverse PySem.F.type_list_reverse (dp_var 3))) dss_nil)
  (dss_cons (ds_if (dt_cmp (eqD_ok hr.units) (de_var 4) de_int) (dss_cons (ds_asg (de_lst da_nil) (dg_name 3 S.nd))
  (dss_cons (ds_asg (de_callTy (listD_ok rfl) rfl (T.n_list) (by decide +kernel) (db_cons (de_var 2) db_nil)) (dg_name 5 S.nd))
  (dss_one (ds_for (passes_of rfl) rfl (di_range1 rfl (T.n_range) (da_cons (de_var 1) da_nil)) (dg_name 6 S.nd) (dss_cons (ds_asg (de_call ((ok__law_cell_at T).mono (by decide)) hr T.g__law_cell_at T.F__law_cell_at.kp T.b__law_cell_at .nil (da_cons (de_var 0) (da_cons (de_bin addD_ok de_int (de_var 6)) da_nil))) (dg_name 7 S.nd))
  (dss_one (ds_mN (i := 3) (by decide) appM_ok PySem.F.plainAttrs_list PySem.F.slot_list_append PySem.F.type_list_append popM_ok PySem.F.plainAttrs_list PySem.F.slot_list_pop PySem.F.type_list_pop (dp_var 5) (da_cons (de_bin modD_ok (de_bin modD_ok (de_bin mulD_ok (de_var 7) de_int) de_int) (de_callB lenD_ok rfl (T.n_len) (by decide +kernel) (db_cons (de_var 5) db_nil))) da_nil)))))))) dss_nil)
  (dss_cons (ds_if (dt_cmp gtD_ok (de_var 1) de_int) (dss_one (ds_for (passes_of rfl) rfl (di_it (de_sl (de_var 0) (do_sm de_int) (do_sm de_int))) (dg_name 7 S.nd) (dss_cons (ds_asg (de_bin modD_ok (de_bin mulD_ok (de_var 7) de_int) de_int) (dg_name 8 S.nd))
  (dss_cons (ds_mA popM_ok PySem.F.plainAttrs_list PySem.F.slot_list_pop PySem.F.type_list_pop (dp_var 3) (da_cons (de_bin modD_ok (de_var 8) (de_var 1)) da_nil) S.nd)
  (dss_cons (ds_if (dt_w (dw_or (dt_cmp gtD_ok (de_var 4) de_int) (dw_or1 (dt_cmp (eqD_ok hr.units) (de_bin modD_ok (de_bin fdivD_ok (de_var 8) de_int) de_int) de_int)))) (dss_one (ds_asg (de_bin fdivD_ok (de_var 8) de_int) (dg_name 8 S.nd))) dss_nil)
  (dss_one (ds_mS insM_ok PySem.F.plainAttrs_list PySem.F.slot_list_insert PySem.F.type_list_insert (dp_var 3) (da_cons (de_bin modD_ok (de_var 8) (de_var 1)) (da_cons (de_var 9) da_nil))))))))) dss_nil)
  (dss_one (ds_retT (dm_consV 2 (dm_consV 3 dm_nil))))))))))
theorem sc__law_falling : FnScope N__law_falling ps__law_falling (defScope st__law_falling) := ⟨rfl, rfl, rfl, by decide +kernel, rfl, by decide +kernel, by decide +kernel⟩
theorem ok__law_falling (T : Tx K mg) : FnOk Pg w K mg base (L2.CX Pg w) 2 T.a__law_falling T.fd__law_falling ps__law_falling (toSp K (RT0 T) [] 3 sp__law_falling) := by
  have S := sc__law_falling
  refine fn_d T.F__law_falling S rfl (by decide) fun cdv A outer s H E hr => ?_
  exact (dss_cons (ds_asg (de_callB sortedD_ok rfl (T.n_sorted) (by decide +kernel) (db_cons (de_lc (n := 6) rfl S.nd [("_law_thing", 5)] (blkOk_by (by show blkC N__law_falling (defScope st__law_falling) _ _ = true; decide +kernel)) (di_it (de_var 0)) (fun s H C cl fp => (dg_name 5 S.nd)) (fun s H C cl fp => dts_nil) (fun s H C cl fp => (de_ix (hu_of hr) (de_var 1) (de_var 5)))) db_nil)) (dg_name 3 S.nd))
  (dss_cons (ds_for (passes_of rfl) rfl (di_range2 rfl (T.n_range) (da_cons de_int (da_cons (de_callB lenD_ok rfl (T.n_len) (by decide +kernel) (db_cons (de_var 3) db_nil)) da_nil))) (dg_name 4 S.nd) (dss_one (ds_if (dt_cmp leD_ok (de_ix (hu_of hr) (de_var 2) (de_ix (hu_of hr) (de_var 3) (de_bin subD_ok (de_var 4) de_int))) (de_ix (hu_of hr) (de_var 2) (de_ix (hu_of hr) (de_var 3) (de_var 4)))) (dss_one (ds_ret de_bl)) dss_nil)))
  (dss_one (ds_ret de_bl))))
theorem sc_law : FnScope N_law ps_law (defScope st_law) := ⟨rfl, rfl, rfl, by decide +kernel, rfl, by decide +kernel, by decide +kernel⟩
theorem ok_law (T : Tx K mg) : FnOk Pg w K mg base (L2.CX Pg w) 4 T.a_law T.fd_law ps_law (toSp K (RT0 T) [] 1 sp_law) := by
  have S := sc_law
  refine fn_d T.F_law S rfl (by decide) fun cdv A outer s H E hr => ?_
  exact (dss_cons (ds_asg (de_bin modD_ok (de_call ((ok__law_cell_at T).mono (by decide)) hr T.g__law_cell_at T.F__law_cell_at.kp T.b__law_cell_at .nil (da_cons (de_var 0) (da_cons de_int da_nil))) de_int) (dg_name 1 S.nd))
  (dss_cons (ds_asg (de_call ((ok__law_turns T).mono (by decide)) hr T.g__law_turns T.F__law_turns.kp T.b__law_turns .nil (da_cons (de_var 0) (da_cons (de_var 1) da_nil))) (dg_tup rfl (dgs_cons (dg_name 8 S.nd) (dgs_cons (dg_name 9 S.nd) dgs_nil))))
  (dss_cons (ds_asg (de_callL ((ok_kept_most T).mono (by decide)) hr T.g_kept_most T.F_kept_most.kp T.b_kept_most .nil (db_cons (de_callTy (listD_ok rfl) rfl (T.n_list) (by decide +kernel) (db_cons (de_var 8) db_nil)) (db_cons (de_callTy (listD_ok rfl) rfl (T.n_list) (by decide +kernel) (db_cons (de_var 9) db_nil)) db_nil))) (dg_name 2 S.nd))
  (dss_cons (ds_asg de_dct0 (dg_name 3 S.nd))
  (dss_cons (ds_asg de_dct0 (dg_name 4 S.nd))
  (dss_cons (ds_for (passes_of rfl) rfl (di_range1 rfl (T.n_range) (da_cons (de_var 1) da_nil)) (dg_name 5 S.nd) (dss_one (ds_sub (hu_of hr) (de_var 5) (dp_var 3) (de_ix (hu_of hr) (de_var 8) (de_var 5)))))
  (dss_cons (ds_for (passes_of rfl) rfl (di_range1 rfl (T.n_range) (da_cons (de_var 1) da_nil)) (dg_name 5 S.nd) (dss_one (ds_sub (hu_of hr) (de_var 5) (dp_var 4) (de_ix (hu_of hr) (de_var 3) (de_ix (hu_of hr) (de_var 9) (de_var 5))))))
  (dss_cons (ds_asg (de_lst da_nil) (dg_name 6 S.nd))
  (dss_cons (ds_fz [2] (ds_for (passes_of rfl) rfl (di_it (de_ix (hu_of hr) (de_var 2) de_int)) (dg_name 7 S.nd) (dss_cons (ds_if (dt_w (dw_or (dt_not (dt_val (de_isi rfl (T.n_isinstance) rfl (T.n_list) (by decide +kernel) (de_var 7)))) (dw_or1 (dt_cmp (eqD_ok hr.units) (de_var 7) (de_lst da_nil))))) (dss_one (ds_ret de_bl)) dss_nil)
  (dss_cons (ds_for (passes_of rfl) rfl (di_it (de_var 7)) (dg_name 10 S.nd) (dss_cons (ds_if (dt_w (dw_or (dt_cmp (inD_no (hu_of hr)) (de_var 10) (de_var 3)) (dw_or1 (dt_cmp (inD_in (hu_of hr)) (de_var 10) (de_var 6))))) (dss_one (ds_ret de_bl)) dss_nil)
  (dss_one (ds_mS appM_ok PySem.F.plainAttrs_list PySem.F.slot_list_append PySem.F.type_list_append (dp_var 6) (da_cons (de_var 10) da_nil)))))
  (dss_one (ds_if (dt_not (dt_val (de_callL ((ok__law_falling T).mono (by decide)) hr T.g__law_falling T.F__law_falling.kp T.b__law_falling .nil (db_cons (de_var 7) (db_cons (de_var 3) (db_cons (de_var 4) db_nil)))))) (dss_one (ds_ret de_bl)) dss_nil))))))
  (dss_one (ds_ret (de_and (de_cmp (eqD_ok hr.units) (de_callB lenD_ok rfl (T.n_len) (by decide +kernel) (db_cons (de_var 6) db_nil)) (de_var 1)) (de_one (de_cmp (eqD_ok hr.units) (de_callB lenD_ok rfl (T.n_len) (by decide +kernel) (db_cons (de_ix (hu_of hr) (de_var 2) de_int) db_nil)) (de_callB lenD_ok rfl (T.n_len) (by decide +kernel) (db_cons (de_ix (hu_of hr) (de_var 2) de_int) db_nil))))))))))))))))
end
end LW

set_option Elab.async false
set_option linter.all false
set_option maxRecDepth 100000
set_option maxHeartbeats 2000000
namespace LW
open L2 DL KM
/-! ## the law's own makers: cells, pieces, turns -/
abbrev gDl (g : List Txt) : D := .nd (.lst true) (g.map D.str)
theorem cell_at_d {ns : List Int} {k : Nat} {Q : D → Sl → Prop} {E : EX → Sl → Prop} (q : ∀ env, Q (.int (ns.getD k 0)) env) : sp__law_cell_at [.scr (ns.map D.int), .int (k : Int)] Q E := by
  rw [e_sp__law_cell_at, e_b__law_cell_at]
  by_cases h : k < ns.length
  · have h1 : ((k : Nat) : Int) < ((ns.length : Nat) : Int) := by omega
    have h2 : atI (ns.map D.int) ((k : Nat) : Int) = some (.int (ns.getD k 0)) := atI_nat (by rw [List.getElem?_map, List.getElem?_eq_getElem h, List.getD_eq_getElem?_getD, List.getElem?_eq_getElem h]; rfl)
    simp only [pad, dNext, dSeq, dAsg, dFor, dEnum, dIt, dWhile, dIfS, dMS, dMA, dMN, dSub, dSfl, dRet, dRetV, dRetN, dRetT, dDrop, dBreak, dCont, dFz, fzS, dConsV, dCons, dNil, bCons, bNil, dVar, dC, dBin, dIx, dNeg, dCB, dMV, dTst, dAndT, dOrT, dNotT, dAnd, dOr, dNot, dIf, dLst, dLC, dLc, lcD, dYes, wipeD, dTup, dDct0, dLRev, dIsi, dSl, oNo, oSm, dCall, dCallL, gN, gTu, gsCons, gsNil, dRg1, dRg2, dRev, dZip, pVar, pIx, atP, getP, setP, unsetL, List.map_cons, List.map_nil, List.replicate_succ, List.replicate_zero, List.cons_append, List.nil_append, List.set_cons_zero, List.set_cons_succ, List.getElem?_cons_zero, List.getElem?_cons_succ, List.length_cons, List.length_nil, o_lt, o_ltS, o_gt, o_le, o_ge, o_add, o_addS, o_addL, o_addT, o_sub, o_mul, o_fdiv, o_mod, o_pow, o_eq, o_eqN, o_ne, o_neN, o_isB, o_isI, o_len, o_lenC, o_lenT, o_lenD, o_lenS, o_ix, o_ixC, o_ixT, o_ixS, o_ixDs, o_ixDi, o_put, o_inD, o_inDi, o_inL, o_inT, o_inS, o_idx, o_list, o_listC, o_listT, o_listD, o_tuple, o_tupleT, o_intI, o_intB, o_ord, o_str, o_max, o_min, o_isNo, o_tyL, o_tyT, o_tyD, o_tyS, o_tyI, o_sl, o_slC, o_slS, o_slT, cutG_map, o_lsD, o_lsC, o_it, o_itC, o_itT, o_itS, o_app, o_ext, o_ins, o_pop, o_rev, o_clr, o_pos, o_posS, Option.bind_some, Option.map_some, List.length_map, if_true, Bool.not_false, Bool.not_true, Bool.false_bne, Bool.true_bne,  safe_sc, safe_lstF, safe_scr, safe_tup, safe_f, true_and, and_true, Option.some.injEq, exists_eq_left', exists_eq_left, decide_true, decide_false, Bool.false_eq_true, Bool.true_eq_false, reduceIte, Nat.zero_add, fz_lst, fz_dct, fz_ins, fz_sc, fz_lstF, fz_scr, Nat.zero_le, Nat.reduceLeDiff, Nat.reduceAdd, Nat.reduceLT, Int.reduceLT, Int.reduceLE, and_self, frz_lst, frz_dct, frz_dctF, frzL_ints, frzL_strs, frz_lstF, frz_scr, frz_tup, frz_sc, frzL_nil, frzL_cons, frzL_str, frzL_int, fzL_nil, fzL_cons, fzL_str, fzL_int, noC_sc, noC_lst, noC_tup, noC_dct, noCL_nil, noCL_cons, noCL_str, noCL_str2, noCL_int, Bool.and_self, Bool.and_true, Bool.true_and, List.append_nil, true_or, or_true, flat_str, flat_int, any_str, o_isiT, o_isiL, o_isiS, o_isiI, atI_0, atI_1, atI_2, atI_3, eqv_lst, eqv_tup, eqvL_nil, eqvL_cons, eqvL_str, eqv_str, eqS_int, ixN20, ixN21, fz_tup, Bool.false_and, Bool.and_false, o_posT, Int.cast_ofNat_Int, eq_self, h1, h2]
    exact q _
  · have h1 : ¬ ((k : Nat) : Int) < ((ns.length : Nat) : Int) := by omega
    have h2 : ns.getD k 0 = 0 := by rw [List.getD_eq_getElem?_getD, List.getElem?_eq_none (by omega)]; rfl
    rw [h2] at q
    simp only [pad, dNext, dSeq, dAsg, dFor, dEnum, dIt, dWhile, dIfS, dMS, dMA, dMN, dSub, dSfl, dRet, dRetV, dRetN, dRetT, dDrop, dBreak, dCont, dFz, fzS, dConsV, dCons, dNil, bCons, bNil, dVar, dC, dBin, dIx, dNeg, dCB, dMV, dTst, dAndT, dOrT, dNotT, dAnd, dOr, dNot, dIf, dLst, dLC, dLc, lcD, dYes, wipeD, dTup, dDct0, dLRev, dIsi, dSl, oNo, oSm, dCall, dCallL, gN, gTu, gsCons, gsNil, dRg1, dRg2, dRev, dZip, pVar, pIx, atP, getP, setP, unsetL, List.map_cons, List.map_nil, List.replicate_succ, List.replicate_zero, List.cons_append, List.nil_append, List.set_cons_zero, List.set_cons_succ, List.getElem?_cons_zero, List.getElem?_cons_succ, List.length_cons, List.length_nil, o_lt, o_ltS, o_gt, o_le, o_ge, o_add, o_addS, o_addL, o_addT, o_sub, o_mul, o_fdiv, o_mod, o_pow, o_eq, o_eqN, o_ne, o_neN, o_isB, o_isI, o_len, o_lenC, o_lenT, o_lenD, o_lenS, o_ix, o_ixC, o_ixT, o_ixS, o_ixDs, o_ixDi, o_put, o_inD, o_inDi, o_inL, o_inT, o_inS, o_idx, o_list, o_listC, o_listT, o_listD, o_tuple, o_tupleT, o_intI, o_intB, o_ord, o_str, o_max, o_min, o_isNo, o_tyL, o_tyT, o_tyD, o_tyS, o_tyI, o_sl, o_slC, o_slS, o_slT, cutG_map, o_lsD, o_lsC, o_it, o_itC, o_itT, o_itS, o_app, o_ext, o_ins, o_pop, o_rev, o_clr, o_pos, o_posS, Option.bind_some, Option.map_some, List.length_map, if_true, Bool.not_false, Bool.not_true, Bool.false_bne, Bool.true_bne,  safe_sc, safe_lstF, safe_scr, safe_tup, safe_f, true_and, and_true, Option.some.injEq, exists_eq_left', exists_eq_left, decide_true, decide_false, Bool.false_eq_true, Bool.true_eq_false, reduceIte, Nat.zero_add, fz_lst, fz_dct, fz_ins, fz_sc, fz_lstF, fz_scr, Nat.zero_le, Nat.reduceLeDiff, Nat.reduceAdd, Nat.reduceLT, Int.reduceLT, Int.reduceLE, and_self, frz_lst, frz_dct, frz_dctF, frzL_ints, frzL_strs, frz_lstF, frz_scr, frz_tup, frz_sc, frzL_nil, frzL_cons, frzL_str, frzL_int, fzL_nil, fzL_cons, fzL_str, fzL_int, noC_sc, noC_lst, noC_tup, noC_dct, noCL_nil, noCL_cons, noCL_str, noCL_str2, noCL_int, Bool.and_self, Bool.and_true, Bool.true_and, List.append_nil, true_or, or_true, flat_str, flat_int, any_str, o_isiT, o_isiL, o_isiS, o_isiI, atI_0, atI_1, atI_2, atI_3, eqv_lst, eqv_tup, eqvL_nil, eqvL_cons, eqvL_str, eqv_str, eqS_int, ixN20, ixN21, fz_tup, Bool.false_and, Bool.and_false, o_posT, Int.cast_ofNat_Int, eq_self, h1]
    exact q _
def signs : Txt := [33, 34, 35, 36, 38, 39, 40, 41, 42, 43, 44, 45, 46, 47, 48, 49, 50, 51, 52, 53, 54, 55, 56, 57, 58, 59, 60, 61, 62, 63, 64, 65, 66, 67, 68, 69, 70, 71, 72, 73, 74, 75, 76, 77, 78, 79, 80, 81, 82, 83, 84, 85, 86, 87, 88, 89, 90, 91, 92, 93, 94, 95, 96,
  97, 98, 99, 100, 101, 102, 103, 104, 105, 106, 107, 108, 109, 110, 111, 112, 113, 114, 115, 116, 117, 118, 119, 120, 121, 122, 123, 124, 125, 126]
def piece (shape begin' step k : Nat) : Txt :=
  let place := (begin' + k * step) % 8649
  if shape = 0 ∨ (shape = 1 ∧ k % 2 = 1) then [signs.getD (place % 93) 0] else [signs.getD (place / 93) 0, signs.getD (place % 93) 0]
def steps : List Nat := [1, 2, 5, 94, 187, 1000, 4001, 8648]
theorem signs_len : signs.length = 93 := by decide
theorem atI_signs {i : Nat} (h : i < 93) : atI signs ((i : Nat) : Int) = some (signs.getD i 0) := atI_nat (by rw [List.getD_eq_getElem?_getD, List.getElem?_eq_getElem (by rw [signs_len]; exact h)]; rfl)
theorem pieces_loop (Dd : ED) (c m : Option D) (c3 c9 : Option D) {shape begin' step : Nat} (hb : begin' < 8649) : ∀ (ks : List Nat) (acc : List Txt) (k9 k8 : Option D), acc.length + ks.length ≤ 1000 → (∀ k ∈ ks, k ≤ 1000) → step ≤ 10000 →
    (∀ k8 k9, Dd.nx [c, m, some (.str signs), c3, some (.int ((step : Nat) : Int)), some (.int ((begin' : Nat) : Int)), some (.int ((shape : Nat) : Int)), some (.nd (.lst true) ((acc ++ ks.map (piece shape begin' step)).map D.str)), k8, k9]) →
    forD (gN 8) lb__law_pieces_0 Dd (ks.map fun k => D.int ((k : Nat) : Int)) [c, m, some (.str signs), c3, some (.int ((step : Nat) : Int)), some (.int ((begin' : Nat) : Int)), some (.int ((shape : Nat) : Int)), some (.nd (.lst true) (acc.map D.str)), k8, k9]
  | [], acc, k9, k8, hl, hk, hs, q => by
    have := q k8 k9
    rw [List.map_nil, List.append_nil] at this
    exact this
  | k :: r, acc, k9, k8, hl, hk, hs, q => by
    have hk0 : k ≤ 1000 := hk k List.mem_cons_self
    have hm : -(2 ^ 64) < (k : Int) ∧ (k : Int) < 2 ^ 64 := by omega
    have hacc : acc.length < 1000000 := by rw [List.length_cons] at hl; omega
    have e1 : ((begin' : Nat) : Int) + ((k : Nat) : Int) * ((step : Nat) : Int) = ((begin' + k * step : Nat) : Int) := by push_cast; rfl
    have e2 : (((begin' + k * step : Nat) : Int)) % 8649 = (((begin' + k * step) % 8649 : Nat) : Int) := by omega
    have ih := pieces_loop Dd c m c3 c9 hb r (acc ++ [piece shape begin' step k]) (some (.int (((begin' + k * step) % 8649 : Nat) : Int))) (some (.int ((k : Nat) : Int))) (by simp at hl ⊢; omega) (fun x hx => hk x (List.mem_cons_of_mem _ hx)) hs (by simpa using q)
    have hp := Nat.mod_lt (begin' + k * step) (by decide : 0 < 8649)
    have e3 : ((((begin' + k * step) % 8649 : Nat) : Int)) % 93 = (((begin' + k * step) % 8649 % 93 : Nat) : Int) := by omega
    have e4 : ((((begin' + k * step) % 8649 : Nat) : Int)) / 93 = (((begin' + k * step) % 8649 / 93 : Nat) : Int) := by omega
    have e5 : ((k : Nat) : Int) % 2 = ((k % 2 : Nat) : Int) := by omega
    have a1 := atI_signs (i := (begin' + k * step) % 8649 % 93) (Nat.mod_lt _ (by decide))
    have a2 := atI_signs (i := (begin' + k * step) % 8649 / 93) (by omega)
    have l1 : signs.length ≤ 16777216 := by rw [signs_len]; decide
    have d1 : decide (((shape : Nat) : Int) = 0) = decide (shape = 0) := by by_cases h : shape = 0 <;> simp [h]
    have d2 : decide (((shape : Nat) : Int) = 1) = decide (shape = 1) := by by_cases h : shape = 1 <;> simp [h]; omega
    have d3 : decide (((k % 2 : Nat) : Int) = 1) = decide (k % 2 = 1) := by by_cases h : k % 2 = 1 <;> simp [h]; omega
    rw [List.map_append, List.map_cons, List.map_nil] at ih
    simp only [forD, e_lb__law_pieces_0, pad, dNext, dSeq, dAsg, dFor, dEnum, dIt, dWhile, dIfS, dMS, dMA, dMN, dSub, dSfl, dRet, dRetV, dRetN, dRetT, dDrop, dBreak, dCont, dFz, fzS, dConsV, dCons, dNil, bCons, bNil, dVar, dC, dBin, dIx, dNeg, dCB, dMV, dTst, dAndT, dOrT, dNotT, dAnd, dOr, dNot, dIf, dLst, dLC, dLc, lcD, dYes, wipeD, dTup, dDct0, dLRev, dIsi, dSl, oNo, oSm, dCall, dCallL, gN, gTu, gsCons, gsNil, dRg1, dRg2, dRev, dZip, pVar, pIx, atP, getP, setP, unsetL, List.map_cons, List.map_nil, List.replicate_succ, List.replicate_zero, List.cons_append, List.nil_append, List.set_cons_zero, List.set_cons_succ, List.getElem?_cons_zero, List.getElem?_cons_succ, List.length_cons, List.length_nil, o_lt, o_ltS, o_gt, o_le, o_ge, o_add, o_addS, o_addL, o_addT, o_sub, o_mul, o_fdiv, o_mod, o_pow, o_eq, o_eqN, o_ne, o_neN, o_isB, o_isI, o_len, o_lenC, o_lenT, o_lenD, o_lenS, o_ix, o_ixC, o_ixT, o_ixS, o_ixDs, o_ixDi, o_put, o_inD, o_inDi, o_inL, o_inT, o_inS, o_idx, o_list, o_listC, o_listT, o_listD, o_tuple, o_tupleT, o_intI, o_intB, o_ord, o_str, o_max, o_min, o_isNo, o_tyL, o_tyT, o_tyD, o_tyS, o_tyI, o_sl, o_slC, o_slS, o_slT, cutG_map, o_lsD, o_lsC, o_it, o_itC, o_itT, o_itS, o_app, o_ext, o_ins, o_pop, o_rev, o_clr, o_pos, o_posS, Option.bind_some, Option.map_some, List.length_map, if_true, Bool.not_false, Bool.not_true, Bool.false_bne, Bool.true_bne,  safe_sc, safe_lstF, safe_scr, safe_tup, safe_f, true_and, and_true, Option.some.injEq, exists_eq_left', exists_eq_left, decide_true, decide_false, Bool.false_eq_true, Bool.true_eq_false, reduceIte, Nat.zero_add, fz_lst, fz_dct, fz_ins, fz_sc, fz_lstF, fz_scr, Nat.zero_le, Nat.reduceLeDiff, Nat.reduceAdd, Nat.reduceLT, Int.reduceLT, Int.reduceLE, and_self, frz_lst, frz_dct, frz_dctF, frzL_ints, frzL_strs, frz_lstF, frz_scr, frz_tup, frz_sc, frzL_nil, frzL_cons, frzL_str, frzL_int, fzL_nil, fzL_cons, fzL_str, fzL_int, noC_sc, noC_lst, noC_tup, noC_dct, noCL_nil, noCL_cons, noCL_str, noCL_str2, noCL_int, Bool.and_self, Bool.and_true, Bool.true_and, List.append_nil, true_or, or_true, flat_str, flat_int, any_str, o_isiT, o_isiL, o_isiS, o_isiI, atI_0, atI_1, atI_2, atI_3, eqv_lst, eqv_tup, eqvL_nil, eqvL_cons, eqvL_str, eqv_str, eqS_int, ixN20, ixN21, fz_tup, Bool.false_and, Bool.and_false, o_posT, Int.cast_ofNat_Int, eq_self, hm, e1, e2, e3, e4, e5, a1, a2, l1, eqS_int, d1, d2, d3, hacc]
    unfold piece at ih
    by_cases h0 : shape = 0
    · rw [if_pos (.inl h0)] at ih
      rw [if_pos (decide_eq_true h0)]
      exact ih
    · rw [if_neg (by simpa using h0)]
      by_cases h1 : shape = 1
      · rw [if_pos (decide_eq_true h1)]
        by_cases h2 : k % 2 = 1
        · rw [if_pos (.inr ⟨h1, h2⟩)] at ih
          rw [if_pos (decide_eq_true h2)]
          exact ih
        · rw [if_neg (fun z => z.elim h0 fun z => h2 z.2)] at ih
          rw [if_neg (by simpa using h2)]
          exact ih
      · rw [if_neg (fun z => z.elim h0 fun z => h1 z.1)] at ih
        rw [if_neg (by simpa using h1)]
        exact ih
theorem steps_at (n : Nat) : ∃ s, atI (steps.map fun k => D.int ((k : Nat) : Int)) (((n % 8 : Nat)) : Int) = some (.int ((s : Nat) : Int)) ∧ s ∈ steps := by
  have h : n % 8 < steps.length := Nat.mod_lt _ (by decide)
  exact ⟨steps[n % 8], atI_nat (by rw [List.getElem?_map, List.getElem?_eq_getElem h]; rfl), List.getElem_mem h⟩
theorem steps_le : ∀ s ∈ steps, s ≤ 10000 := by decide
/-- what the pieces are -/
theorem pieces_d {c : Int} {m : Nat} (hm : m ≤ 61) {Q : D → Sl → Prop} {E : EX → Sl → Prop} (q : ∀ (shape begin' step : Nat) env, begin' < 8649 → step ∈ steps → Q (.nd (.lst true) (((List.range m).map (piece shape begin' step)).map D.str)) env) : sp__law_pieces [.int c, .int (m : Int)] Q E := by
  rw [e_sp__law_pieces, e_b__law_pieces]
  obtain ⟨n, hn⟩ : ∃ n : Nat, c * 48271 % 2147483647 = (n : Int) := ⟨(c * 48271 % 2147483647).toNat, (Int.toNat_of_nonneg (Int.emod_nonneg _ (by decide))).symm⟩
  have e1 : ((n : Nat) : Int) % 8 = ((n % 8 : Nat) : Int) := by omega
  have e2 : ((n : Nat) : Int) / 8 % 8649 = ((n / 8 % 8649 : Nat) : Int) := by omega
  have e3 : ((n : Nat) : Int) / 69192 % 3 = ((n / 69192 % 3 : Nat) : Int) := by omega
  obtain ⟨s, hs, hsm⟩ := steps_at n
  have hs' : atI [D.int 1, D.int 2, D.int 5, D.int 94, D.int 187, D.int 1000, D.int 4001, D.int 8648] ((n % 8 : Nat) : Int) = some (.int ((s : Nat) : Int)) := hs
  have m1 : -(2 ^ 64) < (48271 : Int) ∧ (48271 : Int) < 2 ^ 64 := by decide
  have m2 : -(2 ^ 62) ≤ ((m : Nat) : Int) ∧ ((m : Nat) : Int) < 2 ^ 62 := by omega
  have t1 : ((m : Nat) : Int).toNat = m := rfl
  simp only [pad, dNext, dSeq, dAsg, dFor, dEnum, dIt, dWhile, dIfS, dMS, dMA, dMN, dSub, dSfl, dRet, dRetV, dRetN, dRetT, dDrop, dBreak, dCont, dFz, fzS, dConsV, dCons, dNil, bCons, bNil, dVar, dC, dBin, dIx, dNeg, dCB, dMV, dTst, dAndT, dOrT, dNotT, dAnd, dOr, dNot, dIf, dLst, dLC, dLc, lcD, dYes, wipeD, dTup, dDct0, dLRev, dIsi, dSl, oNo, oSm, dCall, dCallL, gN, gTu, gsCons, gsNil, dRg1, dRg2, dRev, dZip, pVar, pIx, atP, getP, setP, unsetL, List.map_cons, List.map_nil, List.replicate_succ, List.replicate_zero, List.cons_append, List.nil_append, List.set_cons_zero, List.set_cons_succ, List.getElem?_cons_zero, List.getElem?_cons_succ, List.length_cons, List.length_nil, o_lt, o_ltS, o_gt, o_le, o_ge, o_add, o_addS, o_addL, o_addT, o_sub, o_mul, o_fdiv, o_mod, o_pow, o_eq, o_eqN, o_ne, o_neN, o_isB, o_isI, o_len, o_lenC, o_lenT, o_lenD, o_lenS, o_ix, o_ixC, o_ixT, o_ixS, o_ixDs, o_ixDi, o_put, o_inD, o_inDi, o_inL, o_inT, o_inS, o_idx, o_list, o_listC, o_listT, o_listD, o_tuple, o_tupleT, o_intI, o_intB, o_ord, o_str, o_max, o_min, o_isNo, o_tyL, o_tyT, o_tyD, o_tyS, o_tyI, o_sl, o_slC, o_slS, o_slT, cutG_map, o_lsD, o_lsC, o_it, o_itC, o_itT, o_itS, o_app, o_ext, o_ins, o_pop, o_rev, o_clr, o_pos, o_posS, Option.bind_some, Option.map_some, List.length_map, if_true, Bool.not_false, Bool.not_true, Bool.false_bne, Bool.true_bne,  safe_sc, safe_lstF, safe_scr, safe_tup, safe_f, true_and, and_true, Option.some.injEq, exists_eq_left', exists_eq_left, decide_true, decide_false, Bool.false_eq_true, Bool.true_eq_false, reduceIte, Nat.zero_add, fz_lst, fz_dct, fz_ins, fz_sc, fz_lstF, fz_scr, Nat.zero_le, Nat.reduceLeDiff, Nat.reduceAdd, Nat.reduceLT, Int.reduceLT, Int.reduceLE, and_self, frz_lst, frz_dct, frz_dctF, frzL_ints, frzL_strs, frz_lstF, frz_scr, frz_tup, frz_sc, frzL_nil, frzL_cons, frzL_str, frzL_int, fzL_nil, fzL_cons, fzL_str, fzL_int, noC_sc, noC_lst, noC_tup, noC_dct, noCL_nil, noCL_cons, noCL_str, noCL_str2, noCL_int, Bool.and_self, Bool.and_true, Bool.true_and, List.append_nil, true_or, or_true, flat_str, flat_int, any_str, o_isiT, o_isiL, o_isiS, o_isiI, atI_0, atI_1, atI_2, atI_3, eqv_lst, eqv_tup, eqvL_nil, eqvL_cons, eqvL_str, eqv_str, eqS_int, ixN20, ixN21, fz_tup, Bool.false_and, Bool.and_false, o_posT, Int.cast_ofNat_Int, eq_self, hn, e1, e2, e3, hs', m1, m2, t1]
  refine pieces_loop _ _ _ _ none (Nat.mod_lt _ (by decide)) (List.range m) [] none none (by simp; omega) (fun k hk => by have := List.mem_range.mp hk; omega) (steps_le s hsm) fun k8 k9 => ?_
  simp only [pad, dNext, dSeq, dAsg, dFor, dEnum, dIt, dWhile, dIfS, dMS, dMA, dMN, dSub, dSfl, dRet, dRetV, dRetN, dRetT, dDrop, dBreak, dCont, dFz, fzS, dConsV, dCons, dNil, bCons, bNil, dVar, dC, dBin, dIx, dNeg, dCB, dMV, dTst, dAndT, dOrT, dNotT, dAnd, dOr, dNot, dIf, dLst, dLC, dLc, lcD, dYes, wipeD, dTup, dDct0, dLRev, dIsi, dSl, oNo, oSm, dCall, dCallL, gN, gTu, gsCons, gsNil, dRg1, dRg2, dRev, dZip, pVar, pIx, atP, getP, setP, unsetL, List.map_cons, List.map_nil, List.replicate_succ, List.replicate_zero, List.cons_append, List.nil_append, List.set_cons_zero, List.set_cons_succ, List.getElem?_cons_zero, List.getElem?_cons_succ, List.length_cons, List.length_nil, o_lt, o_ltS, o_gt, o_le, o_ge, o_add, o_addS, o_addL, o_addT, o_sub, o_mul, o_fdiv, o_mod, o_pow, o_eq, o_eqN, o_ne, o_neN, o_isB, o_isI, o_len, o_lenC, o_lenT, o_lenD, o_lenS, o_ix, o_ixC, o_ixT, o_ixS, o_ixDs, o_ixDi, o_put, o_inD, o_inDi, o_inL, o_inT, o_inS, o_idx, o_list, o_listC, o_listT, o_listD, o_tuple, o_tupleT, o_intI, o_intB, o_ord, o_str, o_max, o_min, o_isNo, o_tyL, o_tyT, o_tyD, o_tyS, o_tyI, o_sl, o_slC, o_slS, o_slT, cutG_map, o_lsD, o_lsC, o_it, o_itC, o_itT, o_itS, o_app, o_ext, o_ins, o_pop, o_rev, o_clr, o_pos, o_posS, Option.bind_some, Option.map_some, List.length_map, if_true, Bool.not_false, Bool.not_true, Bool.false_bne, Bool.true_bne,  safe_sc, safe_lstF, safe_scr, safe_tup, safe_f, true_and, and_true, Option.some.injEq, exists_eq_left', exists_eq_left, decide_true, decide_false, Bool.false_eq_true, Bool.true_eq_false, reduceIte, Nat.zero_add, fz_lst, fz_dct, fz_ins, fz_sc, fz_lstF, fz_scr, Nat.zero_le, Nat.reduceLeDiff, Nat.reduceAdd, Nat.reduceLT, Int.reduceLT, Int.reduceLE, and_self, frz_lst, frz_dct, frz_dctF, frzL_ints, frzL_strs, frz_lstF, frz_scr, frz_tup, frz_sc, frzL_nil, frzL_cons, frzL_str, frzL_int, fzL_nil, fzL_cons, fzL_str, fzL_int, noC_sc, noC_lst, noC_tup, noC_dct, noCL_nil, noCL_cons, noCL_str, noCL_str2, noCL_int, Bool.and_self, Bool.and_true, Bool.true_and, List.append_nil, true_or, or_true, flat_str, flat_int, any_str, o_isiT, o_isiL, o_isiS, o_isiI, atI_0, atI_1, atI_2, atI_3, eqv_lst, eqv_tup, eqvL_nil, eqvL_cons, eqvL_str, eqv_str, eqS_int, ixN20, ixN21, fz_tup, Bool.false_and, Bool.and_false, o_posT, Int.cast_ofNat_Int, eq_self]
  exact q _ _ _ _ (Nat.mod_lt _ (by decide)) hsm
theorem signs_inj : ∀ i, i < 93 → ∀ j, j < 93 → signs.getD i 0 = signs.getD j 0 → i = j := by decide +kernel
theorem signs_ok : ∀ i, signs.getD i 0 < 1114112 := by
  intro i
  by_cases h : i < 93
  · revert i; decide +kernel
  · rw [List.getD_eq_getElem?_getD, List.getElem?_eq_none (by rw [signs_len]; omega)]; decide
theorem piece_ok (shape b s k : Nat) : okT (piece shape b s k) := by
  intro c hc
  unfold piece at hc
  simp only at hc
  split at hc
  · rw [List.mem_singleton.mp hc]; exact signs_ok _
  · rcases List.mem_cons.mp hc with z | z
    · rw [z]; exact signs_ok _
    · rw [List.mem_singleton.mp z]; exact signs_ok _
theorem place_inj {b s i j : Nat} (hs : s ∈ steps) (hi : i < 61) (hj : j < 61) (h : (b + i * s) % 8649 % 93 = (b + j * s) % 8649 % 93) : i = j := by
  simp only [steps, List.mem_cons, List.not_mem_nil, or_false] at hs
  rcases hs with z | z | z | z | z | z | z | z <;> subst z <;> omega
theorem piece_inj {shape b s i j : Nat} (hb : b < 8649) (hs : s ∈ steps) (hi : i < 61) (hj : j < 61) (h : piece shape b s i = piece shape b s j) : i = j := by
  have key : signs.getD ((b + i * s) % 8649 % 93) 0 = signs.getD ((b + j * s) % 8649 % 93) 0 := by
    unfold piece at h
    simp only at h
    split at h <;> split at h
    · exact (List.cons.inj h).1
    · cases (List.cons.inj h).2
    · cases (List.cons.inj h).2
    · exact (List.cons.inj (List.cons.inj h).2).1
  exact place_inj hs hi hj (signs_inj _ (Nat.mod_lt _ (by decide)) _ (Nat.mod_lt _ (by decide)) key)
theorem pieces_nd {shape b s m : Nat} (hb : b < 8649) (hs : s ∈ steps) (hm : m ≤ 61) : ((List.range m).map (piece shape b s)).Nodup := by
  rw [List.nodup_iff_pairwise_ne, List.pairwise_map]
  refine List.Pairwise.imp_of_mem ?_ List.nodup_range
  intro i j hi hj hne e
  exact hne (piece_inj hb hs (by have := List.mem_range.mp hi; omega) (by have := List.mem_range.mp hj; omega) e)
/-- at a place of a list that is not empty -/
theorem mod_at {z : Int} {n : Nat} (h : 0 < n) : ∃ j : Nat, z % ((n : Nat) : Int) = ((j : Nat) : Int) ∧ j < n :=
  ⟨(z % (n : Int)).toNat, (Int.toNat_of_nonneg (Int.emod_nonneg _ (by omega))).symm, by have := Int.emod_lt_of_pos z (show (0 : Int) < n by omega); have := Int.emod_nonneg z (show (n : Int) ≠ 0 by omega); omega⟩
theorem erase_perm {α : Type} {l : List α} {j : Nat} (h : j < l.length) : (l[j] :: l.eraseIdx j).Perm l := by
  induction l generalizing j with
  | nil => simp at h
  | cons a r ih =>
    cases j with
    | zero => exact .refl _
    | succ j =>
      have hj : j < r.length := by simpa using h
      exact (List.Perm.swap _ _ _).trans ((ih hj).cons a)
theorem eraseIdx_map' {α β : Type} (f : α → β) (l : List α) (j : Nat) : (l.map f).eraseIdx j = (l.eraseIdx j).map f := by
  induction l generalizing j with
  | nil => rfl
  | cons a r ih => cases j with
    | zero => rfl
    | succ j => rw [List.map_cons, List.eraseIdx_cons_succ, List.eraseIdx_cons_succ, ih, List.map_cons]
/-- one drawn by a cell each -/
theorem draw_loop (Dd : ED) {ns : List Int} (c1 c2 c4 c8 c9 : Option D) : ∀ (ks : List Nat) (other left : List Txt) (k6 k7 : Option D), ks.length = left.length → other.length + left.length ≤ 1000 →
    (∀ o2 k6 k7, o2.Perm (other ++ left) → Dd.nx [some (.scr (ns.map D.int)), c1, c2, some (gDl o2), c4, some (.nd (.lst true) []), k6, k7, c8, c9]) →
    forD (gN 6) lb__law_turns_1 Dd (ks.map fun k => D.int ((k : Nat) : Int)) [some (.scr (ns.map D.int)), c1, c2, some (gDl other), c4, some (gDl left), k6, k7, c8, c9]
  | [], other, left, k6, k7, hk, hl, q => by
    have e : left = [] := List.eq_nil_of_length_eq_zero hk.symm
    subst e
    exact q other k6 k7 (by rw [List.append_nil])
  | k :: r, other, left, k6, k7, hk, hl, q => by
    have hpos : 0 < left.length := by rw [← hk]; simp
    have e0 : (2 : Int) + ((k : Nat) : Int) = ((2 + k : Nat) : Int) := by omega
    simp only [forD, e_lb__law_turns_1, pad, dNext, dSeq, dAsg, dFor, dEnum, dIt, dWhile, dIfS, dMS, dMA, dMN, dSub, dSfl, dRet, dRetV, dRetN, dRetT, dDrop, dBreak, dCont, dFz, fzS, dConsV, dCons, dNil, bCons, bNil, dVar, dC, dBin, dIx, dNeg, dCB, dMV, dTst, dAndT, dOrT, dNotT, dAnd, dOr, dNot, dIf, dLst, dLC, dLc, lcD, dYes, wipeD, dTup, dDct0, dLRev, dIsi, dSl, oNo, oSm, dCall, dCallL, gN, gTu, gsCons, gsNil, dRg1, dRg2, dRev, dZip, pVar, pIx, atP, getP, setP, unsetL, List.map_cons, List.map_nil, List.replicate_succ, List.replicate_zero, List.cons_append, List.nil_append, List.set_cons_zero, List.set_cons_succ, List.getElem?_cons_zero, List.getElem?_cons_succ, List.length_cons, List.length_nil, o_lt, o_ltS, o_gt, o_le, o_ge, o_add, o_addS, o_addL, o_addT, o_sub, o_mul, o_fdiv, o_mod, o_pow, o_eq, o_eqN, o_ne, o_neN, o_isB, o_isI, o_len, o_lenC, o_lenT, o_lenD, o_lenS, o_ix, o_ixC, o_ixT, o_ixS, o_ixDs, o_ixDi, o_put, o_inD, o_inDi, o_inL, o_inT, o_inS, o_idx, o_list, o_listC, o_listT, o_listD, o_tuple, o_tupleT, o_intI, o_intB, o_ord, o_str, o_max, o_min, o_isNo, o_tyL, o_tyT, o_tyD, o_tyS, o_tyI, o_sl, o_slC, o_slS, o_slT, cutG_map, o_lsD, o_lsC, o_it, o_itC, o_itT, o_itS, o_app, o_ext, o_ins, o_pop, o_rev, o_clr, o_pos, o_posS, Option.bind_some, Option.map_some, List.length_map, if_true, Bool.not_false, Bool.not_true, Bool.false_bne, Bool.true_bne,  safe_sc, safe_lstF, safe_scr, safe_tup, safe_f, true_and, and_true, Option.some.injEq, exists_eq_left', exists_eq_left, decide_true, decide_false, Bool.false_eq_true, Bool.true_eq_false, reduceIte, Nat.zero_add, fz_lst, fz_dct, fz_ins, fz_sc, fz_lstF, fz_scr, Nat.zero_le, Nat.reduceLeDiff, Nat.reduceAdd, Nat.reduceLT, Int.reduceLT, Int.reduceLE, and_self, frz_lst, frz_dct, frz_dctF, frzL_ints, frzL_strs, frz_lstF, frz_scr, frz_tup, frz_sc, frzL_nil, frzL_cons, frzL_str, frzL_int, fzL_nil, fzL_cons, fzL_str, fzL_int, noC_sc, noC_lst, noC_tup, noC_dct, noCL_nil, noCL_cons, noCL_str, noCL_str2, noCL_int, Bool.and_self, Bool.and_true, Bool.true_and, List.append_nil, true_or, or_true, flat_str, flat_int, any_str, o_isiT, o_isiL, o_isiS, o_isiI, atI_0, atI_1, atI_2, atI_3, eqv_lst, eqv_tup, eqvL_nil, eqvL_cons, eqvL_str, eqv_str, eqS_int, ixN20, ixN21, fz_tup, Bool.false_and, Bool.and_false, o_posT, Int.cast_ofNat_Int, eq_self, e0]
    refine cell_at_d fun env => ?_
    obtain ⟨j, hj, hlt⟩ := mod_at (z := ns.getD (2 + k) 0 * 16807 % 2147483629) hpos
    have m1 : -(2 ^ 64) < (16807 : Int) ∧ (16807 : Int) < 2 ^ 64 := by decide
    have p1 : (0 : Int) < ((left.length : Nat) : Int) := by omega
    have p2 : left.length ≤ 1000000 := by omega
    have p3 : other.length < 1000000 := by omega
    have q1 := ixN_at hlt
    have q2 : (left.map D.str)[j]? = some (.str left[j]) := by rw [List.getElem?_map, List.getElem?_eq_getElem hlt]; rfl
    have q3 : other.map D.str ++ [D.str left[j]] = (other ++ [left[j]]).map D.str := by simp
    simp only [pad, dNext, dSeq, dAsg, dFor, dEnum, dIt, dWhile, dIfS, dMS, dMA, dMN, dSub, dSfl, dRet, dRetV, dRetN, dRetT, dDrop, dBreak, dCont, dFz, fzS, dConsV, dCons, dNil, bCons, bNil, dVar, dC, dBin, dIx, dNeg, dCB, dMV, dTst, dAndT, dOrT, dNotT, dAnd, dOr, dNot, dIf, dLst, dLC, dLc, lcD, dYes, wipeD, dTup, dDct0, dLRev, dIsi, dSl, oNo, oSm, dCall, dCallL, gN, gTu, gsCons, gsNil, dRg1, dRg2, dRev, dZip, pVar, pIx, atP, getP, setP, unsetL, List.map_cons, List.map_nil, List.replicate_succ, List.replicate_zero, List.cons_append, List.nil_append, List.set_cons_zero, List.set_cons_succ, List.getElem?_cons_zero, List.getElem?_cons_succ, List.length_cons, List.length_nil, o_lt, o_ltS, o_gt, o_le, o_ge, o_add, o_addS, o_addL, o_addT, o_sub, o_mul, o_fdiv, o_mod, o_pow, o_eq, o_eqN, o_ne, o_neN, o_isB, o_isI, o_len, o_lenC, o_lenT, o_lenD, o_lenS, o_ix, o_ixC, o_ixT, o_ixS, o_ixDs, o_ixDi, o_put, o_inD, o_inDi, o_inL, o_inT, o_inS, o_idx, o_list, o_listC, o_listT, o_listD, o_tuple, o_tupleT, o_intI, o_intB, o_ord, o_str, o_max, o_min, o_isNo, o_tyL, o_tyT, o_tyD, o_tyS, o_tyI, o_sl, o_slC, o_slS, o_slT, cutG_map, o_lsD, o_lsC, o_it, o_itC, o_itT, o_itS, o_app, o_ext, o_ins, o_pop, o_rev, o_clr, o_pos, o_posS, Option.bind_some, Option.map_some, List.length_map, if_true, Bool.not_false, Bool.not_true, Bool.false_bne, Bool.true_bne,  safe_sc, safe_lstF, safe_scr, safe_tup, safe_f, true_and, and_true, Option.some.injEq, exists_eq_left', exists_eq_left, decide_true, decide_false, Bool.false_eq_true, Bool.true_eq_false, reduceIte, Nat.zero_add, fz_lst, fz_dct, fz_ins, fz_sc, fz_lstF, fz_scr, Nat.zero_le, Nat.reduceLeDiff, Nat.reduceAdd, Nat.reduceLT, Int.reduceLT, Int.reduceLE, and_self, frz_lst, frz_dct, frz_dctF, frzL_ints, frzL_strs, frz_lstF, frz_scr, frz_tup, frz_sc, frzL_nil, frzL_cons, frzL_str, frzL_int, fzL_nil, fzL_cons, fzL_str, fzL_int, noC_sc, noC_lst, noC_tup, noC_dct, noCL_nil, noCL_cons, noCL_str, noCL_str2, noCL_int, Bool.and_self, Bool.and_true, Bool.true_and, List.append_nil, true_or, or_true, flat_str, flat_int, any_str, o_isiT, o_isiL, o_isiS, o_isiI, atI_0, atI_1, atI_2, atI_3, eqv_lst, eqv_tup, eqvL_nil, eqvL_cons, eqvL_str, eqv_str, eqS_int, ixN20, ixN21, fz_tup, Bool.false_and, Bool.and_false, o_posT, Int.cast_ofNat_Int, eq_self, m1, hj, p1, p2, q1, q2, p3, eraseIdx_map', q3]
    have hel : (left.eraseIdx j).length = left.length - 1 := List.length_eraseIdx_of_lt hlt
    refine draw_loop Dd c1 c2 c4 c8 c9 r (other ++ [left[j]]) (left.eraseIdx j) _ _ (by rw [hel, ← hk]; simp) (by rw [hel]; simp; omega) fun o2 k6 k7 pm => q o2 k6 k7 (pm.trans ?_)
    rw [List.append_assoc]
    exact List.Perm.append_left _ (erase_perm hlt)
/-- each cell takes one out and puts it in again -/
theorem move_loop (Dd : ED) (c0 c2 c5 c6 : Option D) {m sh : Nat} (hm : 0 < m) (hm2 : m ≤ 100) (one : List Txt) : ∀ (zs : List Int) (other : List Txt) (k7 k8 k9 : Option D), other.length = m → other.Perm one →
    (∀ o2 k7 k8 k9, o2.Perm one → Dd.nx [c0, some (.int (m : Int)), c2, some (gDl o2), some (.int (sh : Int)), c5, c6, k7, k8, k9]) →
    forD (gN 7) lb__law_turns_0 Dd (zs.map D.int) [c0, some (.int (m : Int)), c2, some (gDl other), some (.int (sh : Int)), c5, c6, k7, k8, k9]
  | [], other, k7, k8, k9, hk, hp, q => q other k7 k8 k9 hp
  | z :: r, other, k7, k8, k9, hk, hp, q => by
    have m1 : -(2 ^ 64) < (48271 : Int) ∧ (48271 : Int) < 2 ^ 64 := by decide
    have p1 : (0 : Int) < ((m : Nat) : Int) := by omega
    have p2 : other.length ≤ 1000000 := by omega
    obtain ⟨j, hj, hlt⟩ := mod_at (z := z * 48271 % 2147483587) hm
    have hlt' : j < other.length := by omega
    have q1 := ixN_at hlt'
    have q2 : (other.map D.str)[j]? = some (.str other[j]) := by rw [List.getElem?_map, List.getElem?_eq_getElem hlt']; rfl
    have hel : (other.eraseIdx j).length = other.length - 1 := List.length_eraseIdx_of_lt hlt'
    have fin : ∀ x : Int, forD (gN 7) lb__law_turns_0 Dd (r.map D.int) [c0, some (.int (m : Int)), c2, some (.nd (.lst true) (((other.eraseIdx j).map D.str).take (x % (m : Int)).toNat ++ D.str other[j] :: ((other.eraseIdx j).map D.str).drop (x % (m : Int)).toNat)), some (.int (sh : Int)), c5, c6, some (.int z), some (.int x), some (.str other[j])] := fun x => by
      have e : ((other.eraseIdx j).map D.str).take (x % (m : Int)).toNat ++ D.str other[j] :: ((other.eraseIdx j).map D.str).drop (x % (m : Int)).toNat = ((other.eraseIdx j).take (x % (m : Int)).toNat ++ other[j] :: (other.eraseIdx j).drop (x % (m : Int)).toNat).map D.str := by simp
      rw [e]
      have pm : ((other.eraseIdx j).take (x % (m : Int)).toNat ++ other[j] :: (other.eraseIdx j).drop (x % (m : Int)).toNat).Perm other := by
        refine List.perm_middle.trans ?_
        rw [List.take_append_drop]
        exact erase_perm hlt'
      exact move_loop Dd c0 c2 c5 c6 hm hm2 one r _ _ _ _ (by rw [pm.length_eq]; exact hk) (pm.trans hp) q
    have i1 : (other.eraseIdx j).length < 1000000 := by omega
    have i2 : ∀ x : Int, 0 ≤ x % (m : Int) := fun x => Int.emod_nonneg _ (by omega)
    have i3 : ∀ x : Int, x % (m : Int) < 2 ^ 63 := fun x => by have := Int.emod_lt_of_pos x p1; omega
    simp only [List.map_cons, forD, e_lb__law_turns_0, pad, dNext, dSeq, dAsg, dFor, dEnum, dIt, dWhile, dIfS, dMS, dMA, dMN, dSub, dSfl, dRet, dRetV, dRetN, dRetT, dDrop, dBreak, dCont, dFz, fzS, dConsV, dCons, dNil, bCons, bNil, dVar, dC, dBin, dIx, dNeg, dCB, dMV, dTst, dAndT, dOrT, dNotT, dAnd, dOr, dNot, dIf, dLst, dLC, dLc, lcD, dYes, wipeD, dTup, dDct0, dLRev, dIsi, dSl, oNo, oSm, dCall, dCallL, gN, gTu, gsCons, gsNil, dRg1, dRg2, dRev, dZip, pVar, pIx, atP, getP, setP, unsetL, List.map_cons, List.map_nil, List.replicate_succ, List.replicate_zero, List.cons_append, List.nil_append, List.set_cons_zero, List.set_cons_succ, List.getElem?_cons_zero, List.getElem?_cons_succ, List.length_cons, List.length_nil, o_lt, o_ltS, o_gt, o_le, o_ge, o_add, o_addS, o_addL, o_addT, o_sub, o_mul, o_fdiv, o_mod, o_pow, o_eq, o_eqN, o_ne, o_neN, o_isB, o_isI, o_len, o_lenC, o_lenT, o_lenD, o_lenS, o_ix, o_ixC, o_ixT, o_ixS, o_ixDs, o_ixDi, o_put, o_inD, o_inDi, o_inL, o_inT, o_inS, o_idx, o_list, o_listC, o_listT, o_listD, o_tuple, o_tupleT, o_intI, o_intB, o_ord, o_str, o_max, o_min, o_isNo, o_tyL, o_tyT, o_tyD, o_tyS, o_tyI, o_sl, o_slC, o_slS, o_slT, cutG_map, o_lsD, o_lsC, o_it, o_itC, o_itT, o_itS, o_app, o_ext, o_ins, o_pop, o_rev, o_clr, o_pos, o_posS, Option.bind_some, Option.map_some, List.length_map, if_true, Bool.not_false, Bool.not_true, Bool.false_bne, Bool.true_bne,  safe_sc, safe_lstF, safe_scr, safe_tup, safe_f, true_and, and_true, Option.some.injEq, exists_eq_left', exists_eq_left, decide_true, decide_false, Bool.false_eq_true, Bool.true_eq_false, reduceIte, Nat.zero_add, fz_lst, fz_dct, fz_ins, fz_sc, fz_lstF, fz_scr, Nat.zero_le, Nat.reduceLeDiff, Nat.reduceAdd, Nat.reduceLT, Int.reduceLT, Int.reduceLE, and_self, frz_lst, frz_dct, frz_dctF, frzL_ints, frzL_strs, frz_lstF, frz_scr, frz_tup, frz_sc, frzL_nil, frzL_cons, frzL_str, frzL_int, fzL_nil, fzL_cons, fzL_str, fzL_int, noC_sc, noC_lst, noC_tup, noC_dct, noCL_nil, noCL_cons, noCL_str, noCL_str2, noCL_int, Bool.and_self, Bool.and_true, Bool.true_and, List.append_nil, true_or, or_true, flat_str, flat_int, any_str, o_isiT, o_isiL, o_isiS, o_isiI, atI_0, atI_1, atI_2, atI_3, eqv_lst, eqv_tup, eqvL_nil, eqvL_cons, eqvL_str, eqv_str, eqS_int, ixN20, ixN21, fz_tup, Bool.false_and, Bool.and_false, o_posT, Int.cast_ofNat_Int, eq_self, m1, hj, p1, p2, q1, q2, eraseIdx_map', i1, i2, i3, eqS_int]
    split
    · exact fin _
    · split
      · exact fin _
      · refine ⟨by omega, by omega, ?_⟩
        have := fin (z * 48271 % 2147483587)
        rw [hj] at this
        exact this
/-- two turns of the same drawn texts -/
theorem turns_d {ns : List Int} {m : Nat} (hm : m ≤ 61) {Q : D → Sl → Prop} {E : EX → Sl → Prop} (q : ∀ (one other : List Txt) env, one.Nodup → other.Perm one → (∀ t ∈ one, okT t) → one.length = m → Q (.nd .tup [gDl one, gDl other]) env) :
    sp__law_turns [.scr (ns.map D.int), .int (m : Int)] Q E := by
  rw [e_sp__law_turns, e_b__law_turns]
  simp only [pad, dNext, dSeq, dAsg, dFor, dEnum, dIt, dWhile, dIfS, dMS, dMA, dMN, dSub, dSfl, dRet, dRetV, dRetN, dRetT, dDrop, dBreak, dCont, dFz, fzS, dConsV, dCons, dNil, bCons, bNil, dVar, dC, dBin, dIx, dNeg, dCB, dMV, dTst, dAndT, dOrT, dNotT, dAnd, dOr, dNot, dIf, dLst, dLC, dLc, lcD, dYes, wipeD, dTup, dDct0, dLRev, dIsi, dSl, oNo, oSm, dCall, dCallL, gN, gTu, gsCons, gsNil, dRg1, dRg2, dRev, dZip, pVar, pIx, atP, getP, setP, unsetL, List.map_cons, List.map_nil, List.replicate_succ, List.replicate_zero, List.cons_append, List.nil_append, List.set_cons_zero, List.set_cons_succ, List.getElem?_cons_zero, List.getElem?_cons_succ, List.length_cons, List.length_nil, o_lt, o_ltS, o_gt, o_le, o_ge, o_add, o_addS, o_addL, o_addT, o_sub, o_mul, o_fdiv, o_mod, o_pow, o_eq, o_eqN, o_ne, o_neN, o_isB, o_isI, o_len, o_lenC, o_lenT, o_lenD, o_lenS, o_ix, o_ixC, o_ixT, o_ixS, o_ixDs, o_ixDi, o_put, o_inD, o_inDi, o_inL, o_inT, o_inS, o_idx, o_list, o_listC, o_listT, o_listD, o_tuple, o_tupleT, o_intI, o_intB, o_ord, o_str, o_max, o_min, o_isNo, o_tyL, o_tyT, o_tyD, o_tyS, o_tyI, o_sl, o_slC, o_slS, o_slT, cutG_map, o_lsD, o_lsC, o_it, o_itC, o_itT, o_itS, o_app, o_ext, o_ins, o_pop, o_rev, o_clr, o_pos, o_posS, Option.bind_some, Option.map_some, List.length_map, if_true, Bool.not_false, Bool.not_true, Bool.false_bne, Bool.true_bne,  safe_sc, safe_lstF, safe_scr, safe_tup, safe_f, true_and, and_true, Option.some.injEq, exists_eq_left', exists_eq_left, decide_true, decide_false, Bool.false_eq_true, Bool.true_eq_false, reduceIte, Nat.zero_add, fz_lst, fz_dct, fz_ins, fz_sc, fz_lstF, fz_scr, Nat.zero_le, Nat.reduceLeDiff, Nat.reduceAdd, Nat.reduceLT, Int.reduceLT, Int.reduceLE, and_self, frz_lst, frz_dct, frz_dctF, frzL_ints, frzL_strs, frz_lstF, frz_scr, frz_tup, frz_sc, frzL_nil, frzL_cons, frzL_str, frzL_int, fzL_nil, fzL_cons, fzL_str, fzL_int, noC_sc, noC_lst, noC_tup, noC_dct, noCL_nil, noCL_cons, noCL_str, noCL_str2, noCL_int, Bool.and_self, Bool.and_true, Bool.true_and, List.append_nil, true_or, or_true, flat_str, flat_int, any_str, o_isiT, o_isiL, o_isiS, o_isiI, atI_0, atI_1, atI_2, atI_3, eqv_lst, eqv_tup, eqvL_nil, eqvL_cons, eqvL_str, eqv_str, eqS_int, ixN20, ixN21, fz_tup, Bool.false_and, Bool.and_false, o_posT, Int.cast_ofNat_Int, eq_self]
  refine cell_at_d (k := 0) fun env => ?_
  simp only [pad, dNext, dSeq, dAsg, dFor, dEnum, dIt, dWhile, dIfS, dMS, dMA, dMN, dSub, dSfl, dRet, dRetV, dRetN, dRetT, dDrop, dBreak, dCont, dFz, fzS, dConsV, dCons, dNil, bCons, bNil, dVar, dC, dBin, dIx, dNeg, dCB, dMV, dTst, dAndT, dOrT, dNotT, dAnd, dOr, dNot, dIf, dLst, dLC, dLc, lcD, dYes, wipeD, dTup, dDct0, dLRev, dIsi, dSl, oNo, oSm, dCall, dCallL, gN, gTu, gsCons, gsNil, dRg1, dRg2, dRev, dZip, pVar, pIx, atP, getP, setP, unsetL, List.map_cons, List.map_nil, List.replicate_succ, List.replicate_zero, List.cons_append, List.nil_append, List.set_cons_zero, List.set_cons_succ, List.getElem?_cons_zero, List.getElem?_cons_succ, List.length_cons, List.length_nil, o_lt, o_ltS, o_gt, o_le, o_ge, o_add, o_addS, o_addL, o_addT, o_sub, o_mul, o_fdiv, o_mod, o_pow, o_eq, o_eqN, o_ne, o_neN, o_isB, o_isI, o_len, o_lenC, o_lenT, o_lenD, o_lenS, o_ix, o_ixC, o_ixT, o_ixS, o_ixDs, o_ixDi, o_put, o_inD, o_inDi, o_inL, o_inT, o_inS, o_idx, o_list, o_listC, o_listT, o_listD, o_tuple, o_tupleT, o_intI, o_intB, o_ord, o_str, o_max, o_min, o_isNo, o_tyL, o_tyT, o_tyD, o_tyS, o_tyI, o_sl, o_slC, o_slS, o_slT, cutG_map, o_lsD, o_lsC, o_it, o_itC, o_itT, o_itS, o_app, o_ext, o_ins, o_pop, o_rev, o_clr, o_pos, o_posS, Option.bind_some, Option.map_some, List.length_map, if_true, Bool.not_false, Bool.not_true, Bool.false_bne, Bool.true_bne,  safe_sc, safe_lstF, safe_scr, safe_tup, safe_f, true_and, and_true, Option.some.injEq, exists_eq_left', exists_eq_left, decide_true, decide_false, Bool.false_eq_true, Bool.true_eq_false, reduceIte, Nat.zero_add, fz_lst, fz_dct, fz_ins, fz_sc, fz_lstF, fz_scr, Nat.zero_le, Nat.reduceLeDiff, Nat.reduceAdd, Nat.reduceLT, Int.reduceLT, Int.reduceLE, and_self, frz_lst, frz_dct, frz_dctF, frzL_ints, frzL_strs, frz_lstF, frz_scr, frz_tup, frz_sc, frzL_nil, frzL_cons, frzL_str, frzL_int, fzL_nil, fzL_cons, fzL_str, fzL_int, noC_sc, noC_lst, noC_tup, noC_dct, noCL_nil, noCL_cons, noCL_str, noCL_str2, noCL_int, Bool.and_self, Bool.and_true, Bool.true_and, List.append_nil, true_or, or_true, flat_str, flat_int, any_str, o_isiT, o_isiL, o_isiS, o_isiI, atI_0, atI_1, atI_2, atI_3, eqv_lst, eqv_tup, eqvL_nil, eqvL_cons, eqvL_str, eqv_str, eqS_int, ixN20, ixN21, fz_tup, Bool.false_and, Bool.and_false, o_posT, Int.cast_ofNat_Int, eq_self]
  refine pieces_d hm fun shape b s env hb hs => ?_
  generalize hone : (List.range m).map (piece shape b s) = one
  have nd : one.Nodup := by rw [← hone]; exact pieces_nd hb hs hm
  have hk : ∀ t ∈ one, okT t := fun t ht => by
    rw [← hone] at ht
    obtain ⟨k, _, rfl⟩ := List.mem_map.mp ht
    exact piece_ok _ _ _ _
  have hl : one.length = m := by rw [← hone]; simp
  have hst : stb (.lst true) (one.map D.str) = true := stb_lst (fzL_str _)
  simp only [pad, dNext, dSeq, dAsg, dFor, dEnum, dIt, dWhile, dIfS, dMS, dMA, dMN, dSub, dSfl, dRet, dRetV, dRetN, dRetT, dDrop, dBreak, dCont, dFz, fzS, dConsV, dCons, dNil, bCons, bNil, dVar, dC, dBin, dIx, dNeg, dCB, dMV, dTst, dAndT, dOrT, dNotT, dAnd, dOr, dNot, dIf, dLst, dLC, dLc, lcD, dYes, wipeD, dTup, dDct0, dLRev, dIsi, dSl, oNo, oSm, dCall, dCallL, gN, gTu, gsCons, gsNil, dRg1, dRg2, dRev, dZip, pVar, pIx, atP, getP, setP, unsetL, List.map_cons, List.map_nil, List.replicate_succ, List.replicate_zero, List.cons_append, List.nil_append, List.set_cons_zero, List.set_cons_succ, List.getElem?_cons_zero, List.getElem?_cons_succ, List.length_cons, List.length_nil, o_lt, o_ltS, o_gt, o_le, o_ge, o_add, o_addS, o_addL, o_addT, o_sub, o_mul, o_fdiv, o_mod, o_pow, o_eq, o_eqN, o_ne, o_neN, o_isB, o_isI, o_len, o_lenC, o_lenT, o_lenD, o_lenS, o_ix, o_ixC, o_ixT, o_ixS, o_ixDs, o_ixDi, o_put, o_inD, o_inDi, o_inL, o_inT, o_inS, o_idx, o_list, o_listC, o_listT, o_listD, o_tuple, o_tupleT, o_intI, o_intB, o_ord, o_str, o_max, o_min, o_isNo, o_tyL, o_tyT, o_tyD, o_tyS, o_tyI, o_sl, o_slC, o_slS, o_slT, cutG_map, o_lsD, o_lsC, o_it, o_itC, o_itT, o_itS, o_app, o_ext, o_ins, o_pop, o_rev, o_clr, o_pos, o_posS, Option.bind_some, Option.map_some, List.length_map, if_true, Bool.not_false, Bool.not_true, Bool.false_bne, Bool.true_bne,  safe_sc, safe_lstF, safe_scr, safe_tup, safe_f, true_and, and_true, Option.some.injEq, exists_eq_left', exists_eq_left, decide_true, decide_false, Bool.false_eq_true, Bool.true_eq_false, reduceIte, Nat.zero_add, fz_lst, fz_dct, fz_ins, fz_sc, fz_lstF, fz_scr, Nat.zero_le, Nat.reduceLeDiff, Nat.reduceAdd, Nat.reduceLT, Int.reduceLT, Int.reduceLE, and_self, frz_lst, frz_dct, frz_dctF, frzL_ints, frzL_strs, frz_lstF, frz_scr, frz_tup, frz_sc, frzL_nil, frzL_cons, frzL_str, frzL_int, fzL_nil, fzL_cons, fzL_str, fzL_int, noC_sc, noC_lst, noC_tup, noC_dct, noCL_nil, noCL_cons, noCL_str, noCL_str2, noCL_int, Bool.and_self, Bool.and_true, Bool.true_and, List.append_nil, true_or, or_true, flat_str, flat_int, any_str, o_isiT, o_isiL, o_isiS, o_isiI, atI_0, atI_1, atI_2, atI_3, eqv_lst, eqv_tup, eqvL_nil, eqvL_cons, eqvL_str, eqv_str, eqS_int, ixN20, ixN21, fz_tup, Bool.false_and, Bool.and_false, o_posT, Int.cast_ofNat_Int, eq_self, hst]
  refine cell_at_d (k := 1) fun env => ?_
  obtain ⟨sh, hsh, _⟩ := mod_at (z := ns.getD 1 0) (n := 4) (by decide)
  have hsh' : ns.getD 1 0 % 4 = ((sh : Nat) : Int) := hsh
  simp only [pad, dNext, dSeq, dAsg, dFor, dEnum, dIt, dWhile, dIfS, dMS, dMA, dMN, dSub, dSfl, dRet, dRetV, dRetN, dRetT, dDrop, dBreak, dCont, dFz, fzS, dConsV, dCons, dNil, bCons, bNil, dVar, dC, dBin, dIx, dNeg, dCB, dMV, dTst, dAndT, dOrT, dNotT, dAnd, dOr, dNot, dIf, dLst, dLC, dLc, lcD, dYes, wipeD, dTup, dDct0, dLRev, dIsi, dSl, oNo, oSm, dCall, dCallL, gN, gTu, gsCons, gsNil, dRg1, dRg2, dRev, dZip, pVar, pIx, atP, getP, setP, unsetL, List.map_cons, List.map_nil, List.replicate_succ, List.replicate_zero, List.cons_append, List.nil_append, List.set_cons_zero, List.set_cons_succ, List.getElem?_cons_zero, List.getElem?_cons_succ, List.length_cons, List.length_nil, o_lt, o_ltS, o_gt, o_le, o_ge, o_add, o_addS, o_addL, o_addT, o_sub, o_mul, o_fdiv, o_mod, o_pow, o_eq, o_eqN, o_ne, o_neN, o_isB, o_isI, o_len, o_lenC, o_lenT, o_lenD, o_lenS, o_ix, o_ixC, o_ixT, o_ixS, o_ixDs, o_ixDi, o_put, o_inD, o_inDi, o_inL, o_inT, o_inS, o_idx, o_list, o_listC, o_listT, o_listD, o_tuple, o_tupleT, o_intI, o_intB, o_ord, o_str, o_max, o_min, o_isNo, o_tyL, o_tyT, o_tyD, o_tyS, o_tyI, o_sl, o_slC, o_slS, o_slT, cutG_map, o_lsD, o_lsC, o_it, o_itC, o_itT, o_itS, o_app, o_ext, o_ins, o_pop, o_rev, o_clr, o_pos, o_posS, Option.bind_some, Option.map_some, List.length_map, if_true, Bool.not_false, Bool.not_true, Bool.false_bne, Bool.true_bne,  safe_sc, safe_lstF, safe_scr, safe_tup, safe_f, true_and, and_true, Option.some.injEq, exists_eq_left', exists_eq_left, decide_true, decide_false, Bool.false_eq_true, Bool.true_eq_false, reduceIte, Nat.zero_add, fz_lst, fz_dct, fz_ins, fz_sc, fz_lstF, fz_scr, Nat.zero_le, Nat.reduceLeDiff, Nat.reduceAdd, Nat.reduceLT, Int.reduceLT, Int.reduceLE, and_self, frz_lst, frz_dct, frz_dctF, frzL_ints, frzL_strs, frz_lstF, frz_scr, frz_tup, frz_sc, frzL_nil, frzL_cons, frzL_str, frzL_int, fzL_nil, fzL_cons, fzL_str, fzL_int, noC_sc, noC_lst, noC_tup, noC_dct, noCL_nil, noCL_cons, noCL_str, noCL_str2, noCL_int, Bool.and_self, Bool.and_true, Bool.true_and, List.append_nil, true_or, or_true, flat_str, flat_int, any_str, o_isiT, o_isiL, o_isiS, o_isiI, atI_0, atI_1, atI_2, atI_3, eqv_lst, eqv_tup, eqvL_nil, eqvL_cons, eqvL_str, eqv_str, eqS_int, ixN20, ixN21, fz_tup, Bool.false_and, Bool.and_false, o_posT, Int.cast_ofNat_Int, eq_self, hsh', eqS_int]
  -- the last part: cells move things
  have last : ∀ (other : List Txt) (c5 c6 c7 : Option D), other.Perm one →
      dSeq (dIfS (dTst (dBin gtD (dVar 1) (dC (.int 0)))) (dFor (dIt (dSl (dVar 0) (oSm (dC (.int 2))) (oSm (dC (.int 62))))) (gN 7) lb__law_turns_0) dNext) (dRetT [2, 3] (dConsV 2 (dConsV 3 dNil)))
        { nx := fun env => Q D.non env, rt := Q, ex := E } [some (.scr (ns.map D.int)), some (.int (m : Int)), some (gDl one), some (gDl other), some (.int (sh : Int)), c5, c6, c7, none, none] := fun other c5 c6 c7 hp => by
    have hlo : other.length = m := by rw [hp.length_eq, hl]
    by_cases h0 : 0 < m
    · have h0i : (0 : Int) < ((m : Nat) : Int) := by omega
      simp only [pad, dNext, dSeq, dAsg, dFor, dEnum, dIt, dWhile, dIfS, dMS, dMA, dMN, dSub, dSfl, dRet, dRetV, dRetN, dRetT, dDrop, dBreak, dCont, dFz, fzS, dConsV, dCons, dNil, bCons, bNil, dVar, dC, dBin, dIx, dNeg, dCB, dMV, dTst, dAndT, dOrT, dNotT, dAnd, dOr, dNot, dIf, dLst, dLC, dLc, lcD, dYes, wipeD, dTup, dDct0, dLRev, dIsi, dSl, oNo, oSm, dCall, dCallL, gN, gTu, gsCons, gsNil, dRg1, dRg2, dRev, dZip, pVar, pIx, atP, getP, setP, unsetL, List.map_cons, List.map_nil, List.replicate_succ, List.replicate_zero, List.cons_append, List.nil_append, List.set_cons_zero, List.set_cons_succ, List.getElem?_cons_zero, List.getElem?_cons_succ, List.length_cons, List.length_nil, o_lt, o_ltS, o_gt, o_le, o_ge, o_add, o_addS, o_addL, o_addT, o_sub, o_mul, o_fdiv, o_mod, o_pow, o_eq, o_eqN, o_ne, o_neN, o_isB, o_isI, o_len, o_lenC, o_lenT, o_lenD, o_lenS, o_ix, o_ixC, o_ixT, o_ixS, o_ixDs, o_ixDi, o_put, o_inD, o_inDi, o_inL, o_inT, o_inS, o_idx, o_list, o_listC, o_listT, o_listD, o_tuple, o_tupleT, o_intI, o_intB, o_ord, o_str, o_max, o_min, o_isNo, o_tyL, o_tyT, o_tyD, o_tyS, o_tyI, o_sl, o_slC, o_slS, o_slT, cutG_map, o_lsD, o_lsC, o_it, o_itC, o_itT, o_itS, o_app, o_ext, o_ins, o_pop, o_rev, o_clr, o_pos, o_posS, Option.bind_some, Option.map_some, List.length_map, if_true, Bool.not_false, Bool.not_true, Bool.false_bne, Bool.true_bne,  safe_sc, safe_lstF, safe_scr, safe_tup, safe_f, true_and, and_true, Option.some.injEq, exists_eq_left', exists_eq_left, decide_true, decide_false, Bool.false_eq_true, Bool.true_eq_false, reduceIte, Nat.zero_add, fz_lst, fz_dct, fz_ins, fz_sc, fz_lstF, fz_scr, Nat.zero_le, Nat.reduceLeDiff, Nat.reduceAdd, Nat.reduceLT, Int.reduceLT, Int.reduceLE, and_self, frz_lst, frz_dct, frz_dctF, frzL_ints, frzL_strs, frz_lstF, frz_scr, frz_tup, frz_sc, frzL_nil, frzL_cons, frzL_str, frzL_int, fzL_nil, fzL_cons, fzL_str, fzL_int, noC_sc, noC_lst, noC_tup, noC_dct, noCL_nil, noCL_cons, noCL_str, noCL_str2, noCL_int, Bool.and_self, Bool.and_true, Bool.true_and, List.append_nil, true_or, or_true, flat_str, flat_int, any_str, o_isiT, o_isiL, o_isiS, o_isiI, atI_0, atI_1, atI_2, atI_3, eqv_lst, eqv_tup, eqvL_nil, eqvL_cons, eqvL_str, eqv_str, eqS_int, ixN20, ixN21, fz_tup, Bool.false_and, Bool.and_false, o_posT, Int.cast_ofNat_Int, eq_self, h0i]
      refine move_loop _ _ _ _ _ h0 (by omega) one _ other c7 none none hlo hp fun o2 k7 k8 k9 pm => ?_
      simp only [pad, dNext, dSeq, dAsg, dFor, dEnum, dIt, dWhile, dIfS, dMS, dMA, dMN, dSub, dSfl, dRet, dRetV, dRetN, dRetT, dDrop, dBreak, dCont, dFz, fzS, dConsV, dCons, dNil, bCons, bNil, dVar, dC, dBin, dIx, dNeg, dCB, dMV, dTst, dAndT, dOrT, dNotT, dAnd, dOr, dNot, dIf, dLst, dLC, dLc, lcD, dYes, wipeD, dTup, dDct0, dLRev, dIsi, dSl, oNo, oSm, dCall, dCallL, gN, gTu, gsCons, gsNil, dRg1, dRg2, dRev, dZip, pVar, pIx, atP, getP, setP, unsetL, List.map_cons, List.map_nil, List.replicate_succ, List.replicate_zero, List.cons_append, List.nil_append, List.set_cons_zero, List.set_cons_succ, List.getElem?_cons_zero, List.getElem?_cons_succ, List.length_cons, List.length_nil, o_lt, o_ltS, o_gt, o_le, o_ge, o_add, o_addS, o_addL, o_addT, o_sub, o_mul, o_fdiv, o_mod, o_pow, o_eq, o_eqN, o_ne, o_neN, o_isB, o_isI, o_len, o_lenC, o_lenT, o_lenD, o_lenS, o_ix, o_ixC, o_ixT, o_ixS, o_ixDs, o_ixDi, o_put, o_inD, o_inDi, o_inL, o_inT, o_inS, o_idx, o_list, o_listC, o_listT, o_listD, o_tuple, o_tupleT, o_intI, o_intB, o_ord, o_str, o_max, o_min, o_isNo, o_tyL, o_tyT, o_tyD, o_tyS, o_tyI, o_sl, o_slC, o_slS, o_slT, cutG_map, o_lsD, o_lsC, o_it, o_itC, o_itT, o_itS, o_app, o_ext, o_ins, o_pop, o_rev, o_clr, o_pos, o_posS, Option.bind_some, Option.map_some, List.length_map, if_true, Bool.not_false, Bool.not_true, Bool.false_bne, Bool.true_bne,  safe_sc, safe_lstF, safe_scr, safe_tup, safe_f, true_and, and_true, Option.some.injEq, exists_eq_left', exists_eq_left, decide_true, decide_false, Bool.false_eq_true, Bool.true_eq_false, reduceIte, Nat.zero_add, fz_lst, fz_dct, fz_ins, fz_sc, fz_lstF, fz_scr, Nat.zero_le, Nat.reduceLeDiff, Nat.reduceAdd, Nat.reduceLT, Int.reduceLT, Int.reduceLE, and_self, frz_lst, frz_dct, frz_dctF, frzL_ints, frzL_strs, frz_lstF, frz_scr, frz_tup, frz_sc, frzL_nil, frzL_cons, frzL_str, frzL_int, fzL_nil, fzL_cons, fzL_str, fzL_int, noC_sc, noC_lst, noC_tup, noC_dct, noCL_nil, noCL_cons, noCL_str, noCL_str2, noCL_int, Bool.and_self, Bool.and_true, Bool.true_and, List.append_nil, true_or, or_true, flat_str, flat_int, any_str, o_isiT, o_isiL, o_isiS, o_isiI, atI_0, atI_1, atI_2, atI_3, eqv_lst, eqv_tup, eqvL_nil, eqvL_cons, eqvL_str, eqv_str, eqS_int, ixN20, ixN21, fz_tup, Bool.false_and, Bool.and_false, o_posT, Int.cast_ofNat_Int, eq_self]
      exact q one o2 _ nd pm hk hl
    · have h0i : ¬ (0 : Int) < ((m : Nat) : Int) := by omega
      simp only [pad, dNext, dSeq, dAsg, dFor, dEnum, dIt, dWhile, dIfS, dMS, dMA, dMN, dSub, dSfl, dRet, dRetV, dRetN, dRetT, dDrop, dBreak, dCont, dFz, fzS, dConsV, dCons, dNil, bCons, bNil, dVar, dC, dBin, dIx, dNeg, dCB, dMV, dTst, dAndT, dOrT, dNotT, dAnd, dOr, dNot, dIf, dLst, dLC, dLc, lcD, dYes, wipeD, dTup, dDct0, dLRev, dIsi, dSl, oNo, oSm, dCall, dCallL, gN, gTu, gsCons, gsNil, dRg1, dRg2, dRev, dZip, pVar, pIx, atP, getP, setP, unsetL, List.map_cons, List.map_nil, List.replicate_succ, List.replicate_zero, List.cons_append, List.nil_append, List.set_cons_zero, List.set_cons_succ, List.getElem?_cons_zero, List.getElem?_cons_succ, List.length_cons, List.length_nil, o_lt, o_ltS, o_gt, o_le, o_ge, o_add, o_addS, o_addL, o_addT, o_sub, o_mul, o_fdiv, o_mod, o_pow, o_eq, o_eqN, o_ne, o_neN, o_isB, o_isI, o_len, o_lenC, o_lenT, o_lenD, o_lenS, o_ix, o_ixC, o_ixT, o_ixS, o_ixDs, o_ixDi, o_put, o_inD, o_inDi, o_inL, o_inT, o_inS, o_idx, o_list, o_listC, o_listT, o_listD, o_tuple, o_tupleT, o_intI, o_intB, o_ord, o_str, o_max, o_min, o_isNo, o_tyL, o_tyT, o_tyD, o_tyS, o_tyI, o_sl, o_slC, o_slS, o_slT, cutG_map, o_lsD, o_lsC, o_it, o_itC, o_itT, o_itS, o_app, o_ext, o_ins, o_pop, o_rev, o_clr, o_pos, o_posS, Option.bind_some, Option.map_some, List.length_map, if_true, Bool.not_false, Bool.not_true, Bool.false_bne, Bool.true_bne,  safe_sc, safe_lstF, safe_scr, safe_tup, safe_f, true_and, and_true, Option.some.injEq, exists_eq_left', exists_eq_left, decide_true, decide_false, Bool.false_eq_true, Bool.true_eq_false, reduceIte, Nat.zero_add, fz_lst, fz_dct, fz_ins, fz_sc, fz_lstF, fz_scr, Nat.zero_le, Nat.reduceLeDiff, Nat.reduceAdd, Nat.reduceLT, Int.reduceLT, Int.reduceLE, and_self, frz_lst, frz_dct, frz_dctF, frzL_ints, frzL_strs, frz_lstF, frz_scr, frz_tup, frz_sc, frzL_nil, frzL_cons, frzL_str, frzL_int, fzL_nil, fzL_cons, fzL_str, fzL_int, noC_sc, noC_lst, noC_tup, noC_dct, noCL_nil, noCL_cons, noCL_str, noCL_str2, noCL_int, Bool.and_self, Bool.and_true, Bool.true_and, List.append_nil, true_or, or_true, flat_str, flat_int, any_str, o_isiT, o_isiL, o_isiS, o_isiI, atI_0, atI_1, atI_2, atI_3, eqv_lst, eqv_tup, eqvL_nil, eqvL_cons, eqvL_str, eqv_str, eqS_int, ixN20, ixN21, fz_tup, Bool.false_and, Bool.and_false, o_posT, Int.cast_ofNat_Int, eq_self, h0i]
      exact q one other _ nd hp hk hl
  by_cases h1 : ((sh : Nat) : Int) = 1
  · have h2 : ¬ ((sh : Nat) : Int) = 2 := by omega
    have := last one.reverse none none none one.reverse_perm
    simp only [pad, dNext, dSeq, dAsg, dFor, dEnum, dIt, dWhile, dIfS, dMS, dMA, dMN, dSub, dSfl, dRet, dRetV, dRetN, dRetT, dDrop, dBreak, dCont, dFz, fzS, dConsV, dCons, dNil, bCons, bNil, dVar, dC, dBin, dIx, dNeg, dCB, dMV, dTst, dAndT, dOrT, dNotT, dAnd, dOr, dNot, dIf, dLst, dLC, dLc, lcD, dYes, wipeD, dTup, dDct0, dLRev, dIsi, dSl, oNo, oSm, dCall, dCallL, gN, gTu, gsCons, gsNil, dRg1, dRg2, dRev, dZip, pVar, pIx, atP, getP, setP, unsetL, List.map_cons, List.map_nil, List.replicate_succ, List.replicate_zero, List.cons_append, List.nil_append, List.set_cons_zero, List.set_cons_succ, List.getElem?_cons_zero, List.getElem?_cons_succ, List.length_cons, List.length_nil, o_lt, o_ltS, o_gt, o_le, o_ge, o_add, o_addS, o_addL, o_addT, o_sub, o_mul, o_fdiv, o_mod, o_pow, o_eq, o_eqN, o_ne, o_neN, o_isB, o_isI, o_len, o_lenC, o_lenT, o_lenD, o_lenS, o_ix, o_ixC, o_ixT, o_ixS, o_ixDs, o_ixDi, o_put, o_inD, o_inDi, o_inL, o_inT, o_inS, o_idx, o_list, o_listC, o_listT, o_listD, o_tuple, o_tupleT, o_intI, o_intB, o_ord, o_str, o_max, o_min, o_isNo, o_tyL, o_tyT, o_tyD, o_tyS, o_tyI, o_sl, o_slC, o_slS, o_slT, cutG_map, o_lsD, o_lsC, o_it, o_itC, o_itT, o_itS, o_app, o_ext, o_ins, o_pop, o_rev, o_clr, o_pos, o_posS, Option.bind_some, Option.map_some, List.length_map, if_true, Bool.not_false, Bool.not_true, Bool.false_bne, Bool.true_bne,  safe_sc, safe_lstF, safe_scr, safe_tup, safe_f, true_and, and_true, Option.some.injEq, exists_eq_left', exists_eq_left, decide_true, decide_false, Bool.false_eq_true, Bool.true_eq_false, reduceIte, Nat.zero_add, fz_lst, fz_dct, fz_ins, fz_sc, fz_lstF, fz_scr, Nat.zero_le, Nat.reduceLeDiff, Nat.reduceAdd, Nat.reduceLT, Int.reduceLT, Int.reduceLE, and_self, frz_lst, frz_dct, frz_dctF, frzL_ints, frzL_strs, frz_lstF, frz_scr, frz_tup, frz_sc, frzL_nil, frzL_cons, frzL_str, frzL_int, fzL_nil, fzL_cons, fzL_str, fzL_int, noC_sc, noC_lst, noC_tup, noC_dct, noCL_nil, noCL_cons, noCL_str, noCL_str2, noCL_int, Bool.and_self, Bool.and_true, Bool.true_and, List.append_nil, true_or, or_true, flat_str, flat_int, any_str, o_isiT, o_isiL, o_isiS, o_isiI, atI_0, atI_1, atI_2, atI_3, eqv_lst, eqv_tup, eqvL_nil, eqvL_cons, eqvL_str, eqv_str, eqS_int, ixN20, ixN21, fz_tup, Bool.false_and, Bool.and_false, o_posT, Int.cast_ofNat_Int, eq_self] at this
    simp only [decide_eq_true h1, decide_eq_false h2, if_true, ← List.map_reverse, Bool.false_eq_true, if_false]
    exact this
  · by_cases h2 : ((sh : Nat) : Int) = 2
    · have m2 : -(2 ^ 62) ≤ ((m : Nat) : Int) ∧ ((m : Nat) : Int) < 2 ^ 62 := by omega
      have t1 : ((m : Nat) : Int).toNat = m := rfl
      simp only [decide_eq_false h1, decide_eq_true h2, if_true, Bool.false_eq_true, if_false, m2, t1, true_and]
      refine draw_loop _ _ _ _ _ _ (List.range m) [] one none none (by rw [List.length_range, hl]) (by simp; omega) fun o2 k6 k7 pm => ?_
      exact last o2 _ k6 k7 pm
    · have := last one none none none (.refl _)
      simp only [pad, dNext, dSeq, dAsg, dFor, dEnum, dIt, dWhile, dIfS, dMS, dMA, dMN, dSub, dSfl, dRet, dRetV, dRetN, dRetT, dDrop, dBreak, dCont, dFz, fzS, dConsV, dCons, dNil, bCons, bNil, dVar, dC, dBin, dIx, dNeg, dCB, dMV, dTst, dAndT, dOrT, dNotT, dAnd, dOr, dNot, dIf, dLst, dLC, dLc, lcD, dYes, wipeD, dTup, dDct0, dLRev, dIsi, dSl, oNo, oSm, dCall, dCallL, gN, gTu, gsCons, gsNil, dRg1, dRg2, dRev, dZip, pVar, pIx, atP, getP, setP, unsetL, List.map_cons, List.map_nil, List.replicate_succ, List.replicate_zero, List.cons_append, List.nil_append, List.set_cons_zero, List.set_cons_succ, List.getElem?_cons_zero, List.getElem?_cons_succ, List.length_cons, List.length_nil, o_lt, o_ltS, o_gt, o_le, o_ge, o_add, o_addS, o_addL, o_addT, o_sub, o_mul, o_fdiv, o_mod, o_pow, o_eq, o_eqN, o_ne, o_neN, o_isB, o_isI, o_len, o_lenC, o_lenT, o_lenD, o_lenS, o_ix, o_ixC, o_ixT, o_ixS, o_ixDs, o_ixDi, o_put, o_inD, o_inDi, o_inL, o_inT, o_inS, o_idx, o_list, o_listC, o_listT, o_listD, o_tuple, o_tupleT, o_intI, o_intB, o_ord, o_str, o_max, o_min, o_isNo, o_tyL, o_tyT, o_tyD, o_tyS, o_tyI, o_sl, o_slC, o_slS, o_slT, cutG_map, o_lsD, o_lsC, o_it, o_itC, o_itT, o_itS, o_app, o_ext, o_ins, o_pop, o_rev, o_clr, o_pos, o_posS, Option.bind_some, Option.map_some, List.length_map, if_true, Bool.not_false, Bool.not_true, Bool.false_bne, Bool.true_bne,  safe_sc, safe_lstF, safe_scr, safe_tup, safe_f, true_and, and_true, Option.some.injEq, exists_eq_left', exists_eq_left, decide_true, decide_false, Bool.false_eq_true, Bool.true_eq_false, reduceIte, Nat.zero_add, fz_lst, fz_dct, fz_ins, fz_sc, fz_lstF, fz_scr, Nat.zero_le, Nat.reduceLeDiff, Nat.reduceAdd, Nat.reduceLT, Int.reduceLT, Int.reduceLE, and_self, frz_lst, frz_dct, frz_dctF, frzL_ints, frzL_strs, frz_lstF, frz_scr, frz_tup, frz_sc, frzL_nil, frzL_cons, frzL_str, frzL_int, fzL_nil, fzL_cons, fzL_str, fzL_int, noC_sc, noC_lst, noC_tup, noC_dct, noCL_nil, noCL_cons, noCL_str, noCL_str2, noCL_int, Bool.and_self, Bool.and_true, Bool.true_and, List.append_nil, true_or, or_true, flat_str, flat_int, any_str, o_isiT, o_isiL, o_isiS, o_isiI, atI_0, atI_1, atI_2, atI_3, eqv_lst, eqv_tup, eqvL_nil, eqvL_cons, eqvL_str, eqv_str, eqS_int, ixN20, ixN21, fz_tup, Bool.false_and, Bool.and_false, o_posT, Int.cast_ofNat_Int, eq_self] at this
      simp only [decide_eq_false h1, decide_eq_false h2, Bool.false_eq_true, if_false]
      exact this
end LW

set_option Elab.async false
set_option linter.all false
set_option maxRecDepth 100000
set_option maxHeartbeats 2000000
namespace LW
open L2 DL KM
/-! ## groups_of, kept_most over data -/
abbrev gD (g : List Txt) : D := .nd (.lst true) (g.map D.str)
abbrev plD (ks : List Txt) : D := .nd (.dct true (ks.map Sum.inr)) (ks.map fun t => D.int ((ks.idxOf t : Nat) : Int))
abbrev bhD (B : B2) : D := .nd (.dct true (B.map fun x => Sum.inr x.1)) (B.map fun x => D.str x.2)
theorem atI_lastT {g : List Txt} (hg : g ≠ []) : atI (g.map D.str) (-1) = some (.str (lastT g)) := by
  have hd := List.dropLast_concat_getLast hg
  have hl : lastT g = g.getLast hg := by unfold lastT; rw [List.getLastD_eq_getLast?, List.getLast?_eq_getLast hg]; rfl
  rw [hl]
  conv => lhs; rw [← hd]
  rw [List.map_append, List.map_cons, List.map_nil]
  exact atI_last _ _
theorem place_loop (Dd : ED) (a b c3 c4 c7 : Option D) : ∀ (r : List Txt) (ks : List Txt) (vs : List D) (th k : Option D), (ks ++ r).Nodup → (ks ++ r).length ≤ 1000 → vs = (List.range ks.length).map (fun i => D.int ((i : Nat) : Int)) →
    (∀ th k, Dd.nx [a, b, some (.nd (.dct true ((ks ++ r).map Sum.inr)) ((List.range (ks ++ r).length).map fun i => D.int ((i : Nat) : Int))), c3, c4, th, k, c7]) →
    forD (gTu 2 (gsCons (gN 6) (gsCons (gN 5) gsNil))) lb_groups_of_3 Dd (enumL ks.length (r.map D.str)) [a, b, some (.nd (.dct true (ks.map Sum.inr)) vs), c3, c4, th, k, c7]
  | [], ks, vs, th, k, nd, hl, hv, q => by
    subst hv
    have := q th k
    rw [List.append_nil] at this
    exact this
  | t :: r, ks, vs, th, k, nd, hl, hv, q => by
    have ht : t ∉ ks := fun z => (List.nodup_append.mp nd).2.2 t z t List.mem_cons_self rfl
    have hl2 : ks.length < 1000000 := by rw [List.length_append] at hl; omega
    have hp : posOf (ks.map Sum.inr) (Sum.inr t : DK) = none := by rw [posOf_map @inr_inj, if_neg ht]
    have ih := place_loop Dd a b c3 c4 c7 r (ks ++ [t]) (vs ++ [D.int ((ks.length : Nat) : Int)]) (some (.str t)) (some (.int ((ks.length : Nat) : Int))) (by simpa using nd) (by simpa using hl) (by rw [hv, List.length_append, List.length_singleton, List.range_succ, List.map_append]; rfl) (by simpa using q)
    rw [List.length_append, List.length_singleton, List.map_append] at ih
    simp only [enumL, forD, e_lb_groups_of_3, pad, dNext, dSeq, dAsg, dFor, dEnum, dIt, dWhile, dIfS, dMS, dMA, dMN, dSub, dSfl, dRet, dRetV, dRetN, dRetT, dDrop, dBreak, dCont, dFz, fzS, dConsV, dCons, dNil, bCons, bNil, dVar, dC, dBin, dIx, dNeg, dCB, dMV, dTst, dAndT, dOrT, dNotT, dAnd, dOr, dNot, dIf, dLst, dLC, dLc, lcD, dYes, wipeD, dTup, dDct0, dLRev, dIsi, dSl, oNo, oSm, dCall, dCallL, gN, gTu, gsCons, gsNil, dRg1, dRg2, dRev, dZip, pVar, pIx, atP, getP, setP, unsetL, List.map_cons, List.map_nil, List.replicate_succ, List.replicate_zero, List.cons_append, List.nil_append, List.set_cons_zero, List.set_cons_succ, List.getElem?_cons_zero, List.getElem?_cons_succ, List.length_cons, List.length_nil, o_lt, o_ltS, o_gt, o_le, o_ge, o_add, o_addS, o_addL, o_addT, o_sub, o_mul, o_fdiv, o_mod, o_pow, o_eq, o_eqN, o_ne, o_neN, o_isB, o_isI, o_len, o_lenC, o_lenT, o_lenD, o_lenS, o_ix, o_ixC, o_ixT, o_ixS, o_ixDs, o_ixDi, o_put, o_inD, o_inDi, o_inL, o_inT, o_inS, o_idx, o_list, o_listC, o_listT, o_listD, o_tuple, o_tupleT, o_intI, o_intB, o_ord, o_str, o_max, o_min, o_isNo, o_tyL, o_tyT, o_tyD, o_tyS, o_tyI, o_sl, o_slC, o_slS, o_slT, cutG_map, o_lsD, o_lsC, o_it, o_itC, o_itT, o_itS, o_app, o_ext, o_ins, o_pop, o_rev, o_clr, o_pos, o_posS, Option.bind_some, Option.map_some, List.length_map, if_true, Bool.not_false, Bool.not_true, Bool.false_bne, Bool.true_bne,  safe_sc, safe_lstF, safe_scr, safe_tup, safe_f, true_and, and_true, Option.some.injEq, exists_eq_left', exists_eq_left, decide_true, decide_false, Bool.false_eq_true, Bool.true_eq_false, reduceIte, Nat.zero_add, fz_lst, fz_dct, fz_ins, fz_sc, fz_lstF, fz_scr, Nat.zero_le, Nat.reduceLeDiff, Nat.reduceAdd, Nat.reduceLT, Int.reduceLT, Int.reduceLE, and_self, frz_lst, frz_dct, frz_dctF, frzL_ints, frzL_strs, frz_lstF, frz_scr, frz_tup, frz_sc, frzL_nil, frzL_cons, frzL_str, frzL_int, fzL_nil, fzL_cons, fzL_str, fzL_int, noC_sc, noC_lst, noC_tup, noC_dct, noCL_nil, noCL_cons, noCL_str, noCL_str2, noCL_int, Bool.and_self, Bool.and_true, Bool.true_and, List.append_nil, true_or, or_true, flat_str, flat_int, any_str, o_isiT, o_isiL, o_isiS, o_isiI, atI_0, atI_1, atI_2, atI_3, eqv_lst, eqv_tup, eqvL_nil, eqvL_cons, eqvL_str, eqv_str, eqS_int, ixN20, ixN21, fz_tup, Bool.false_and, Bool.and_false, o_posT, Int.cast_ofNat_Int, eq_self, o_putNs hp, List.length_map]
    exact ⟨hl2, ih⟩
theorem atOf_loop (Dd : ED) (a b c4 c6 : Option D) (other : List Txt) (t : Txt) (G : List (List Txt)) (ht : t ∈ other) : ∀ (post pre : List (List Txt)), G = pre ++ post → (∀ g ∈ post, g ≠ [] ∧ lastT g ∈ other) → 
    Dd.nx [a, b, some (plD other), some (.nd (.lst true) (G.map gD)), c4, some (.str t), c6, some (.int ((pre.length + atOf (fun x => other.idxOf x) t post : Nat) : Int))] →
    whD wc_groups_of_0 lb_groups_of_0 Dd (post.length + 1) [a, b, some (plD other), some (.nd (.lst true) (G.map gD)), c4, some (.str t), c6, some (.int ((pre.length : Nat) : Int))]
  | [], pre, e, hp, q => by
    have hn : ¬ ((pre.length : Nat) : Int) < ((G.length : Nat) : Int) := by rw [e]; simp
    rw [List.length_nil, whD]
    simp only [e_wc_groups_of_0, pad, dNext, dSeq, dAsg, dFor, dEnum, dIt, dWhile, dIfS, dMS, dMA, dMN, dSub, dSfl, dRet, dRetV, dRetN, dRetT, dDrop, dBreak, dCont, dFz, fzS, dConsV, dCons, dNil, bCons, bNil, dVar, dC, dBin, dIx, dNeg, dCB, dMV, dTst, dAndT, dOrT, dNotT, dAnd, dOr, dNot, dIf, dLst, dLC, dLc, lcD, dYes, wipeD, dTup, dDct0, dLRev, dIsi, dSl, oNo, oSm, dCall, dCallL, gN, gTu, gsCons, gsNil, dRg1, dRg2, dRev, dZip, pVar, pIx, atP, getP, setP, unsetL, List.map_cons, List.map_nil, List.replicate_succ, List.replicate_zero, List.cons_append, List.nil_append, List.set_cons_zero, List.set_cons_succ, List.getElem?_cons_zero, List.getElem?_cons_succ, List.length_cons, List.length_nil, o_lt, o_ltS, o_gt, o_le, o_ge, o_add, o_addS, o_addL, o_addT, o_sub, o_mul, o_fdiv, o_mod, o_pow, o_eq, o_eqN, o_ne, o_neN, o_isB, o_isI, o_len, o_lenC, o_lenT, o_lenD, o_lenS, o_ix, o_ixC, o_ixT, o_ixS, o_ixDs, o_ixDi, o_put, o_inD, o_inDi, o_inL, o_inT, o_inS, o_idx, o_list, o_listC, o_listT, o_listD, o_tuple, o_tupleT, o_intI, o_intB, o_ord, o_str, o_max, o_min, o_isNo, o_tyL, o_tyT, o_tyD, o_tyS, o_tyI, o_sl, o_slC, o_slS, o_slT, cutG_map, o_lsD, o_lsC, o_it, o_itC, o_itT, o_itS, o_app, o_ext, o_ins, o_pop, o_rev, o_clr, o_pos, o_posS, Option.bind_some, Option.map_some, List.length_map, if_true, Bool.not_false, Bool.not_true, Bool.false_bne, Bool.true_bne,  safe_sc, safe_lstF, safe_scr, safe_tup, safe_f, true_and, and_true, Option.some.injEq, exists_eq_left', exists_eq_left, decide_true, decide_false, Bool.false_eq_true, Bool.true_eq_false, reduceIte, Nat.zero_add, fz_lst, fz_dct, fz_ins, fz_sc, fz_lstF, fz_scr, Nat.zero_le, Nat.reduceLeDiff, Nat.reduceAdd, Nat.reduceLT, Int.reduceLT, Int.reduceLE, and_self, frz_lst, frz_dct, frz_dctF, frzL_ints, frzL_strs, frz_lstF, frz_scr, frz_tup, frz_sc, frzL_nil, frzL_cons, frzL_str, frzL_int, fzL_nil, fzL_cons, fzL_str, fzL_int, noC_sc, noC_lst, noC_tup, noC_dct, noCL_nil, noCL_cons, noCL_str, noCL_str2, noCL_int, Bool.and_self, Bool.and_true, Bool.true_and, List.append_nil, true_or, or_true, flat_str, flat_int, any_str, o_isiT, o_isiL, o_isiS, o_isiI, atI_0, atI_1, atI_2, atI_3, eqv_lst, eqv_tup, eqvL_nil, eqvL_cons, eqvL_str, eqv_str, eqS_int, ixN20, ixN21, fz_tup, Bool.false_and, Bool.and_false, o_posT, Int.cast_ofNat_Int, eq_self, List.length_map, hn]
    exact q
  | g :: r, pre, e, hp, q => by
    have hn : ((pre.length : Nat) : Int) < ((G.length : Nat) : Int) := by rw [e]; simp; omega
    obtain ⟨hg, hm⟩ := hp g List.mem_cons_self
    have h1 : atI (G.map gD) ((pre.length : Nat) : Int) = some (gD g) := atI_nat (by rw [e]; simp)
    have h2 := atI_lastT hg
    have h3 : ∀ x ∈ other, lkp (other.map Sum.inr) (other.map fun t => D.int ((other.idxOf t : Nat) : Int)) (Sum.inr x : DK) = some (D.int ((other.idxOf x : Nat) : Int)) := fun x hx => lkp_map @inr_inj other x hx
    have h4 := h3 _ hm
    have h5 := h3 _ ht
    rw [List.length_cons, whD]
    simp only [e_wc_groups_of_0, pad, dNext, dSeq, dAsg, dFor, dEnum, dIt, dWhile, dIfS, dMS, dMA, dMN, dSub, dSfl, dRet, dRetV, dRetN, dRetT, dDrop, dBreak, dCont, dFz, fzS, dConsV, dCons, dNil, bCons, bNil, dVar, dC, dBin, dIx, dNeg, dCB, dMV, dTst, dAndT, dOrT, dNotT, dAnd, dOr, dNot, dIf, dLst, dLC, dLc, lcD, dYes, wipeD, dTup, dDct0, dLRev, dIsi, dSl, oNo, oSm, dCall, dCallL, gN, gTu, gsCons, gsNil, dRg1, dRg2, dRev, dZip, pVar, pIx, atP, getP, setP, unsetL, List.map_cons, List.map_nil, List.replicate_succ, List.replicate_zero, List.cons_append, List.nil_append, List.set_cons_zero, List.set_cons_succ, List.getElem?_cons_zero, List.getElem?_cons_succ, List.length_cons, List.length_nil, o_lt, o_ltS, o_gt, o_le, o_ge, o_add, o_addS, o_addL, o_addT, o_sub, o_mul, o_fdiv, o_mod, o_pow, o_eq, o_eqN, o_ne, o_neN, o_isB, o_isI, o_len, o_lenC, o_lenT, o_lenD, o_lenS, o_ix, o_ixC, o_ixT, o_ixS, o_ixDs, o_ixDi, o_put, o_inD, o_inDi, o_inL, o_inT, o_inS, o_idx, o_list, o_listC, o_listT, o_listD, o_tuple, o_tupleT, o_intI, o_intB, o_ord, o_str, o_max, o_min, o_isNo, o_tyL, o_tyT, o_tyD, o_tyS, o_tyI, o_sl, o_slC, o_slS, o_slT, cutG_map, o_lsD, o_lsC, o_it, o_itC, o_itT, o_itS, o_app, o_ext, o_ins, o_pop, o_rev, o_clr, o_pos, o_posS, Option.bind_some, Option.map_some, List.length_map, if_true, Bool.not_false, Bool.not_true, Bool.false_bne, Bool.true_bne,  safe_sc, safe_lstF, safe_scr, safe_tup, safe_f, true_and, and_true, Option.some.injEq, exists_eq_left', exists_eq_left, decide_true, decide_false, Bool.false_eq_true, Bool.true_eq_false, reduceIte, Nat.zero_add, fz_lst, fz_dct, fz_ins, fz_sc, fz_lstF, fz_scr, Nat.zero_le, Nat.reduceLeDiff, Nat.reduceAdd, Nat.reduceLT, Int.reduceLT, Int.reduceLE, and_self, frz_lst, frz_dct, frz_dctF, frzL_ints, frzL_strs, frz_lstF, frz_scr, frz_tup, frz_sc, frzL_nil, frzL_cons, frzL_str, frzL_int, fzL_nil, fzL_cons, fzL_str, fzL_int, noC_sc, noC_lst, noC_tup, noC_dct, noCL_nil, noCL_cons, noCL_str, noCL_str2, noCL_int, Bool.and_self, Bool.and_true, Bool.true_and, List.append_nil, true_or, or_true, flat_str, flat_int, any_str, o_isiT, o_isiL, o_isiS, o_isiI, atI_0, atI_1, atI_2, atI_3, eqv_lst, eqv_tup, eqvL_nil, eqvL_cons, eqvL_str, eqv_str, eqS_int, ixN20, ixN21, fz_tup, Bool.false_and, Bool.and_false, o_posT, Int.cast_ofNat_Int, eq_self, List.length_map, hn, h1, h2, h4, h5]
    by_cases hc : other.idxOf (lastT g) < other.idxOf t
    · have hci : ((other.idxOf (lastT g) : Nat) : Int) < ((other.idxOf t : Nat) : Int) := by omega
      have ih := atOf_loop Dd a b c4 c6 other t G ht r (pre ++ [g]) (by rw [e]; simp) (fun x hx => hp x (List.mem_cons_of_mem _ hx))
        (by rw [atOf, if_pos hc] at q; rw [List.length_append, List.length_singleton, show pre.length + 1 + atOf (fun x => other.idxOf x) t r = pre.length + (atOf (fun x => other.idxOf x) t r + 1) by omega]; exact q)
      rw [List.length_append, List.length_singleton] at ih
      simp only [hci, pad, dNext, dSeq, dAsg, dFor, dEnum, dIt, dWhile, dIfS, dMS, dMA, dMN, dSub, dSfl, dRet, dRetV, dRetN, dRetT, dDrop, dBreak, dCont, dFz, fzS, dConsV, dCons, dNil, bCons, bNil, dVar, dC, dBin, dIx, dNeg, dCB, dMV, dTst, dAndT, dOrT, dNotT, dAnd, dOr, dNot, dIf, dLst, dLC, dLc, lcD, dYes, wipeD, dTup, dDct0, dLRev, dIsi, dSl, oNo, oSm, dCall, dCallL, gN, gTu, gsCons, gsNil, dRg1, dRg2, dRev, dZip, pVar, pIx, atP, getP, setP, unsetL, List.map_cons, List.map_nil, List.replicate_succ, List.replicate_zero, List.cons_append, List.nil_append, List.set_cons_zero, List.set_cons_succ, List.getElem?_cons_zero, List.getElem?_cons_succ, List.length_cons, List.length_nil, o_lt, o_ltS, o_gt, o_le, o_ge, o_add, o_addS, o_addL, o_addT, o_sub, o_mul, o_fdiv, o_mod, o_pow, o_eq, o_eqN, o_ne, o_neN, o_isB, o_isI, o_len, o_lenC, o_lenT, o_lenD, o_lenS, o_ix, o_ixC, o_ixT, o_ixS, o_ixDs, o_ixDi, o_put, o_inD, o_inDi, o_inL, o_inT, o_inS, o_idx, o_list, o_listC, o_listT, o_listD, o_tuple, o_tupleT, o_intI, o_intB, o_ord, o_str, o_max, o_min, o_isNo, o_tyL, o_tyT, o_tyD, o_tyS, o_tyI, o_sl, o_slC, o_slS, o_slT, cutG_map, o_lsD, o_lsC, o_it, o_itC, o_itT, o_itS, o_app, o_ext, o_ins, o_pop, o_rev, o_clr, o_pos, o_posS, Option.bind_some, Option.map_some, List.length_map, if_true, Bool.not_false, Bool.not_true, Bool.false_bne, Bool.true_bne,  safe_sc, safe_lstF, safe_scr, safe_tup, safe_f, true_and, and_true, Option.some.injEq, exists_eq_left', exists_eq_left, decide_true, decide_false, Bool.false_eq_true, Bool.true_eq_false, reduceIte, Nat.zero_add, fz_lst, fz_dct, fz_ins, fz_sc, fz_lstF, fz_scr, Nat.zero_le, Nat.reduceLeDiff, Nat.reduceAdd, Nat.reduceLT, Int.reduceLT, Int.reduceLE, and_self, frz_lst, frz_dct, frz_dctF, frzL_ints, frzL_strs, frz_lstF, frz_scr, frz_tup, frz_sc, frzL_nil, frzL_cons, frzL_str, frzL_int, fzL_nil, fzL_cons, fzL_str, fzL_int, noC_sc, noC_lst, noC_tup, noC_dct, noCL_nil, noCL_cons, noCL_str, noCL_str2, noCL_int, Bool.and_self, Bool.and_true, Bool.true_and, List.append_nil, true_or, or_true, flat_str, flat_int, any_str, o_isiT, o_isiL, o_isiS, o_isiI, atI_0, atI_1, atI_2, atI_3, eqv_lst, eqv_tup, eqvL_nil, eqvL_cons, eqvL_str, eqv_str, eqS_int, ixN20, ixN21, fz_tup, Bool.false_and, Bool.and_false, o_posT, Int.cast_ofNat_Int, eq_self, e_lb_groups_of_0]
      exact ih
    · have hci : ¬ ((other.idxOf (lastT g) : Nat) : Int) < ((other.idxOf t : Nat) : Int) := by omega
      rw [atOf, if_neg hc] at q
      simp only [hci, pad, dNext, dSeq, dAsg, dFor, dEnum, dIt, dWhile, dIfS, dMS, dMA, dMN, dSub, dSfl, dRet, dRetV, dRetN, dRetT, dDrop, dBreak, dCont, dFz, fzS, dConsV, dCons, dNil, bCons, bNil, dVar, dC, dBin, dIx, dNeg, dCB, dMV, dTst, dAndT, dOrT, dNotT, dAnd, dOr, dNot, dIf, dLst, dLC, dLc, lcD, dYes, wipeD, dTup, dDct0, dLRev, dIsi, dSl, oNo, oSm, dCall, dCallL, gN, gTu, gsCons, gsNil, dRg1, dRg2, dRev, dZip, pVar, pIx, atP, getP, setP, unsetL, List.map_cons, List.map_nil, List.replicate_succ, List.replicate_zero, List.cons_append, List.nil_append, List.set_cons_zero, List.set_cons_succ, List.getElem?_cons_zero, List.getElem?_cons_succ, List.length_cons, List.length_nil, o_lt, o_ltS, o_gt, o_le, o_ge, o_add, o_addS, o_addL, o_addT, o_sub, o_mul, o_fdiv, o_mod, o_pow, o_eq, o_eqN, o_ne, o_neN, o_isB, o_isI, o_len, o_lenC, o_lenT, o_lenD, o_lenS, o_ix, o_ixC, o_ixT, o_ixS, o_ixDs, o_ixDi, o_put, o_inD, o_inDi, o_inL, o_inT, o_inS, o_idx, o_list, o_listC, o_listT, o_listD, o_tuple, o_tupleT, o_intI, o_intB, o_ord, o_str, o_max, o_min, o_isNo, o_tyL, o_tyT, o_tyD, o_tyS, o_tyI, o_sl, o_slC, o_slS, o_slT, cutG_map, o_lsD, o_lsC, o_it, o_itC, o_itT, o_itS, o_app, o_ext, o_ins, o_pop, o_rev, o_clr, o_pos, o_posS, Option.bind_some, Option.map_some, List.length_map, if_true, Bool.not_false, Bool.not_true, Bool.false_bne, Bool.true_bne,  safe_sc, safe_lstF, safe_scr, safe_tup, safe_f, true_and, and_true, Option.some.injEq, exists_eq_left', exists_eq_left, decide_true, decide_false, Bool.false_eq_true, Bool.true_eq_false, reduceIte, Nat.zero_add, fz_lst, fz_dct, fz_ins, fz_sc, fz_lstF, fz_scr, Nat.zero_le, Nat.reduceLeDiff, Nat.reduceAdd, Nat.reduceLT, Int.reduceLT, Int.reduceLE, and_self, frz_lst, frz_dct, frz_dctF, frzL_ints, frzL_strs, frz_lstF, frz_scr, frz_tup, frz_sc, frzL_nil, frzL_cons, frzL_str, frzL_int, fzL_nil, fzL_cons, fzL_str, fzL_int, noC_sc, noC_lst, noC_tup, noC_dct, noCL_nil, noCL_cons, noCL_str, noCL_str2, noCL_int, Bool.and_self, Bool.and_true, Bool.true_and, List.append_nil, true_or, or_true, flat_str, flat_int, any_str, o_isiT, o_isiL, o_isiS, o_isiI, atI_0, atI_1, atI_2, atI_3, eqv_lst, eqv_tup, eqvL_nil, eqvL_cons, eqvL_str, eqv_str, eqS_int, ixN20, ixN21, fz_tup, Bool.false_and, Bool.and_false, o_posT, Int.cast_ofNat_Int, eq_self]
      exact q
theorem whD_mono : ∀ {c : TTd} {tb : TSd} {D : ED} {n : Nat} {env : Sl}, whD c tb D n env → dWhile c tb D env := fun h => ⟨_, h⟩
theorem main_loop (Dd : ED) (a b : Option D) (other : List Txt) : ∀ (r done : List Txt) (s : List (List Txt) × B2) (th k at' : Option D), Inv (fun x => other.idxOf x) done s.1 s.2 → (done ++ r).Nodup → (∀ t ∈ done ++ r, t ∈ other) → (done ++ r).length ≤ 1000 →
    (∀ th at', Dd.nx [a, b, some (plD other), some (.nd (.lst true) ((r.foldl (stepG fun x => other.idxOf x) s).1.map gD)), some (bhD (r.foldl (stepG fun x => other.idxOf x) s).2), th, k, at']) →
    forD (gN 5) lb_groups_of_2 Dd (r.map D.str) [a, b, some (plD other), some (.nd (.lst true) (s.1.map gD)), some (bhD s.2), th, k, at']
  | [], done, s, th, k, at', I, nd, ho, hl, q => q th at'
  | t :: r, done, (G, B), th, k, at', I, nd, ho, hl, q => by
    have ht : t ∉ done := fun z => (List.nodup_append.mp nd).2.2 t z t List.mem_cons_self rfl
    have hto : t ∈ other := ho t (by simp)
    have inj : ∀ x ∈ done, other.idxOf x ≠ other.idxOf t := fun x hx e => ht (idx_inj (ho x (List.mem_append_left _ hx)) hto e ▸ hx)
    have I2 := I.step ht inj
    have hp : ∀ g ∈ G, g ≠ [] ∧ lastT g ∈ other := fun g hg => ⟨I.ne g hg, ho _ (List.mem_append_left _ ((I.sub g hg).subset (lastT_mem (I.ne g hg))))⟩
    simp only [List.map_cons, forD, e_lb_groups_of_2, pad, dNext, dSeq, dAsg, dFor, dEnum, dIt, dWhile, dIfS, dMS, dMA, dMN, dSub, dSfl, dRet, dRetV, dRetN, dRetT, dDrop, dBreak, dCont, dFz, fzS, dConsV, dCons, dNil, bCons, bNil, dVar, dC, dBin, dIx, dNeg, dCB, dMV, dTst, dAndT, dOrT, dNotT, dAnd, dOr, dNot, dIf, dLst, dLC, dLc, lcD, dYes, wipeD, dTup, dDct0, dLRev, dIsi, dSl, oNo, oSm, dCall, dCallL, gN, gTu, gsCons, gsNil, dRg1, dRg2, dRev, dZip, pVar, pIx, atP, getP, setP, unsetL, List.map_cons, List.map_nil, List.replicate_succ, List.replicate_zero, List.cons_append, List.nil_append, List.set_cons_zero, List.set_cons_succ, List.getElem?_cons_zero, List.getElem?_cons_succ, List.length_cons, List.length_nil, o_lt, o_ltS, o_gt, o_le, o_ge, o_add, o_addS, o_addL, o_addT, o_sub, o_mul, o_fdiv, o_mod, o_pow, o_eq, o_eqN, o_ne, o_neN, o_isB, o_isI, o_len, o_lenC, o_lenT, o_lenD, o_lenS, o_ix, o_ixC, o_ixT, o_ixS, o_ixDs, o_ixDi, o_put, o_inD, o_inDi, o_inL, o_inT, o_inS, o_idx, o_list, o_listC, o_listT, o_listD, o_tuple, o_tupleT, o_intI, o_intB, o_ord, o_str, o_max, o_min, o_isNo, o_tyL, o_tyT, o_tyD, o_tyS, o_tyI, o_sl, o_slC, o_slS, o_slT, cutG_map, o_lsD, o_lsC, o_it, o_itC, o_itT, o_itS, o_app, o_ext, o_ins, o_pop, o_rev, o_clr, o_pos, o_posS, Option.bind_some, Option.map_some, List.length_map, if_true, Bool.not_false, Bool.not_true, Bool.false_bne, Bool.true_bne,  safe_sc, safe_lstF, safe_scr, safe_tup, safe_f, true_and, and_true, Option.some.injEq, exists_eq_left', exists_eq_left, decide_true, decide_false, Bool.false_eq_true, Bool.true_eq_false, reduceIte, Nat.zero_add, fz_lst, fz_dct, fz_ins, fz_sc, fz_lstF, fz_scr, Nat.zero_le, Nat.reduceLeDiff, Nat.reduceAdd, Nat.reduceLT, Int.reduceLT, Int.reduceLE, and_self, frz_lst, frz_dct, frz_dctF, frzL_ints, frzL_strs, frz_lstF, frz_scr, frz_tup, frz_sc, frzL_nil, frzL_cons, frzL_str, frzL_int, fzL_nil, fzL_cons, fzL_str, fzL_int, noC_sc, noC_lst, noC_tup, noC_dct, noCL_nil, noCL_cons, noCL_str, noCL_str2, noCL_int, Bool.and_self, Bool.and_true, Bool.true_and, List.append_nil, true_or, or_true, flat_str, flat_int, any_str, o_isiT, o_isiL, o_isiS, o_isiI, atI_0, atI_1, atI_2, atI_3, eqv_lst, eqv_tup, eqvL_nil, eqvL_cons, eqvL_str, eqv_str, eqS_int, ixN20, ixN21, fz_tup, Bool.false_and, Bool.and_false, o_posT, Int.cast_ofNat_Int, eq_self]
    refine ⟨_, atOf_loop _ a b (some (bhD B)) k other t G hto G [] rfl hp ?_⟩
    obtain ⟨pre, h, rr, e2, hG, es⟩ := step_split (fun x => other.idxOf x) t G B
    have ih := main_loop Dd a b other r (done ++ [t]) (stepG (fun x => other.idxOf x) (G, B) t) (some (.str t)) k (some (.int ((pre.length : Nat) : Int))) I2 (by simpa using nd) (by simpa using ho) (by simpa using hl) q
    have hGl : G.length ≤ 1000 := by
      have := I.count
      rw [List.length_append] at hl
      exact Nat.le_trans this (by omega)
    have hBl : B.length < 1000000 := by
      have := I.few
      rw [List.length_append] at hl
      have : B.length ≤ done.length := this
      omega
    have hpos : posOf (B.map fun x => Sum.inr x.1) (Sum.inr t : DK) = none := posOf_none.mpr fun z => by
      obtain ⟨x, hx, e⟩ := List.mem_map.mp z
      exact ht (Sum.inr.inj e ▸ I.keys x hx)
    rw [e2, List.length_nil, Nat.zero_add]
    rw [es] at ih I2
    -- behind the first if the group stands there
    have key : forD (gN 5) lb_groups_of_2 Dd (r.map D.str) [a, b, some (plD other), some (.nd (.lst true) ((pre ++ (h ++ [t]) :: rr).map gD)), some (bhD (if 0 < pre.length then B ++ [(t, lastT ((pre ++ (h ++ [t]) :: rr).getD (pre.length - 1) []))] else B)), some (.str t), k, some (.int ((pre.length : Nat) : Int))] →
        (pre ++ h :: rr).length ≤ 1001 → dSeq (dMS 3 (pIx 3 (pVar 3) (dVar 7)) "list" appM (dCons (dVar 5) dNil))
          (dIfS (dTst (dBin gtD (dVar 7) (dC (.int 0)))) (dSub 4 (pVar 4) (dVar 5) (dIx (dIx (dVar 3) (dBin subD (dVar 7) (dC (.int 1)))) (dNeg (dC (.int 1))))) dNext)
          { Dd with nx := forD (gN 5) lb_groups_of_2 Dd (r.map D.str), ct := forD (gN 5) lb_groups_of_2 Dd (r.map D.str), bk := Dd.nx }
          [a, b, some (plD other), some (.nd (.lst true) ((pre ++ h :: rr).map gD)), some (bhD B), some (.str t), k, some (.int ((pre.length : Nat) : Int))] := fun ih hlen => by
      have q1 : ixN ((pre ++ h :: rr).length) ((pre.length : Nat) : Int) = some pre.length := ixN_at (by simp)
      have q2 : ((pre ++ h :: rr).map gD)[pre.length]? = some (gD h) := by simp
      have q3 : ((pre ++ h :: rr).map gD).set pre.length (gD (h ++ [t])) = (pre ++ (h ++ [t]) :: rr).map gD := by simp
      have q4 : h.length < 1000000 := by
        have : h.length ≤ done.length := by
          rcases hG with ⟨_, z, _⟩ | z
          · rw [z]; exact Nat.zero_le _
          · exact (I.sub h (by rw [z]; simp)).length_le
        rw [List.length_append] at hl
        omega
      have q5 : (h.map D.str) ++ [D.str t] = (h ++ [t]).map D.str := by simp
      by_cases hz : 0 < pre.length
      · have hzi : (0 : Int) < ((pre.length : Nat) : Int) := by omega
        obtain ⟨g0, hg0⟩ : ∃ g0, (pre ++ (h ++ [t]) :: rr)[pre.length - 1]? = some g0 := ⟨_, List.getElem?_eq_getElem (by simp; omega)⟩
        have hgG : g0 ∈ G := by
          rw [List.getElem?_append_left (by omega)] at hg0
          have := List.mem_of_getElem? hg0
          rcases hG with ⟨z, _⟩ | z
          · rw [z]; exact this
          · rw [z]; exact List.mem_append_left _ this
        have hne := I.ne g0 hgG
        have q6 : atI ((pre ++ (h ++ [t]) :: rr).map gD) (((pre.length : Nat) : Int) - 1) = some (gD g0) := by
          rw [show ((pre.length : Nat) : Int) - 1 = ((pre.length - 1 : Nat) : Int) by omega]
          exact atI_nat (by rw [List.getElem?_map, hg0]; rfl)
        have q7 := atI_lastT hne
        rw [if_pos hz, List.getD_eq_getElem?_getD, hg0] at ih
        simp only [pad, dNext, dSeq, dAsg, dFor, dEnum, dIt, dWhile, dIfS, dMS, dMA, dMN, dSub, dSfl, dRet, dRetV, dRetN, dRetT, dDrop, dBreak, dCont, dFz, fzS, dConsV, dCons, dNil, bCons, bNil, dVar, dC, dBin, dIx, dNeg, dCB, dMV, dTst, dAndT, dOrT, dNotT, dAnd, dOr, dNot, dIf, dLst, dLC, dLc, lcD, dYes, wipeD, dTup, dDct0, dLRev, dIsi, dSl, oNo, oSm, dCall, dCallL, gN, gTu, gsCons, gsNil, dRg1, dRg2, dRev, dZip, pVar, pIx, atP, getP, setP, unsetL, List.map_cons, List.map_nil, List.replicate_succ, List.replicate_zero, List.cons_append, List.nil_append, List.set_cons_zero, List.set_cons_succ, List.getElem?_cons_zero, List.getElem?_cons_succ, List.length_cons, List.length_nil, o_lt, o_ltS, o_gt, o_le, o_ge, o_add, o_addS, o_addL, o_addT, o_sub, o_mul, o_fdiv, o_mod, o_pow, o_eq, o_eqN, o_ne, o_neN, o_isB, o_isI, o_len, o_lenC, o_lenT, o_lenD, o_lenS, o_ix, o_ixC, o_ixT, o_ixS, o_ixDs, o_ixDi, o_put, o_inD, o_inDi, o_inL, o_inT, o_inS, o_idx, o_list, o_listC, o_listT, o_listD, o_tuple, o_tupleT, o_intI, o_intB, o_ord, o_str, o_max, o_min, o_isNo, o_tyL, o_tyT, o_tyD, o_tyS, o_tyI, o_sl, o_slC, o_slS, o_slT, cutG_map, o_lsD, o_lsC, o_it, o_itC, o_itT, o_itS, o_app, o_ext, o_ins, o_pop, o_rev, o_clr, o_pos, o_posS, Option.bind_some, Option.map_some, List.length_map, if_true, Bool.not_false, Bool.not_true, Bool.false_bne, Bool.true_bne,  safe_sc, safe_lstF, safe_scr, safe_tup, safe_f, true_and, and_true, Option.some.injEq, exists_eq_left', exists_eq_left, decide_true, decide_false, Bool.false_eq_true, Bool.true_eq_false, reduceIte, Nat.zero_add, fz_lst, fz_dct, fz_ins, fz_sc, fz_lstF, fz_scr, Nat.zero_le, Nat.reduceLeDiff, Nat.reduceAdd, Nat.reduceLT, Int.reduceLT, Int.reduceLE, and_self, frz_lst, frz_dct, frz_dctF, frzL_ints, frzL_strs, frz_lstF, frz_scr, frz_tup, frz_sc, frzL_nil, frzL_cons, frzL_str, frzL_int, fzL_nil, fzL_cons, fzL_str, fzL_int, noC_sc, noC_lst, noC_tup, noC_dct, noCL_nil, noCL_cons, noCL_str, noCL_str2, noCL_int, Bool.and_self, Bool.and_true, Bool.true_and, List.append_nil, true_or, or_true, flat_str, flat_int, any_str, o_isiT, o_isiL, o_isiS, o_isiI, atI_0, atI_1, atI_2, atI_3, eqv_lst, eqv_tup, eqvL_nil, eqvL_cons, eqvL_str, eqv_str, eqS_int, ixN20, ixN21, fz_tup, Bool.false_and, Bool.and_false, o_posT, Int.cast_ofNat_Int, eq_self, q1, q2, q4, q5, q3, hzi, q6, q7, o_putNs hpos, hBl]
        have q8 : bhD (B ++ [(t, lastT g0)]) = .nd (.dct true ((B.map fun x => Sum.inr x.1) ++ [Sum.inr t])) ((B.map fun x => D.str x.2) ++ [D.str (lastT g0)]) := by simp [bhD]
        rw [show (some g0).getD [] = g0 from rfl, q8] at ih
        exact ih
      · have hzi : ¬ (0 : Int) < ((pre.length : Nat) : Int) := by omega
        rw [if_neg hz] at ih
        simp only [pad, dNext, dSeq, dAsg, dFor, dEnum, dIt, dWhile, dIfS, dMS, dMA, dMN, dSub, dSfl, dRet, dRetV, dRetN, dRetT, dDrop, dBreak, dCont, dFz, fzS, dConsV, dCons, dNil, bCons, bNil, dVar, dC, dBin, dIx, dNeg, dCB, dMV, dTst, dAndT, dOrT, dNotT, dAnd, dOr, dNot, dIf, dLst, dLC, dLc, lcD, dYes, wipeD, dTup, dDct0, dLRev, dIsi, dSl, oNo, oSm, dCall, dCallL, gN, gTu, gsCons, gsNil, dRg1, dRg2, dRev, dZip, pVar, pIx, atP, getP, setP, unsetL, List.map_cons, List.map_nil, List.replicate_succ, List.replicate_zero, List.cons_append, List.nil_append, List.set_cons_zero, List.set_cons_succ, List.getElem?_cons_zero, List.getElem?_cons_succ, List.length_cons, List.length_nil, o_lt, o_ltS, o_gt, o_le, o_ge, o_add, o_addS, o_addL, o_addT, o_sub, o_mul, o_fdiv, o_mod, o_pow, o_eq, o_eqN, o_ne, o_neN, o_isB, o_isI, o_len, o_lenC, o_lenT, o_lenD, o_lenS, o_ix, o_ixC, o_ixT, o_ixS, o_ixDs, o_ixDi, o_put, o_inD, o_inDi, o_inL, o_inT, o_inS, o_idx, o_list, o_listC, o_listT, o_listD, o_tuple, o_tupleT, o_intI, o_intB, o_ord, o_str, o_max, o_min, o_isNo, o_tyL, o_tyT, o_tyD, o_tyS, o_tyI, o_sl, o_slC, o_slS, o_slT, cutG_map, o_lsD, o_lsC, o_it, o_itC, o_itT, o_itS, o_app, o_ext, o_ins, o_pop, o_rev, o_clr, o_pos, o_posS, Option.bind_some, Option.map_some, List.length_map, if_true, Bool.not_false, Bool.not_true, Bool.false_bne, Bool.true_bne,  safe_sc, safe_lstF, safe_scr, safe_tup, safe_f, true_and, and_true, Option.some.injEq, exists_eq_left', exists_eq_left, decide_true, decide_false, Bool.false_eq_true, Bool.true_eq_false, reduceIte, Nat.zero_add, fz_lst, fz_dct, fz_ins, fz_sc, fz_lstF, fz_scr, Nat.zero_le, Nat.reduceLeDiff, Nat.reduceAdd, Nat.reduceLT, Int.reduceLT, Int.reduceLE, and_self, frz_lst, frz_dct, frz_dctF, frzL_ints, frzL_strs, frz_lstF, frz_scr, frz_tup, frz_sc, frzL_nil, frzL_cons, frzL_str, frzL_int, fzL_nil, fzL_cons, fzL_str, fzL_int, noC_sc, noC_lst, noC_tup, noC_dct, noCL_nil, noCL_cons, noCL_str, noCL_str2, noCL_int, Bool.and_self, Bool.and_true, Bool.true_and, List.append_nil, true_or, or_true, flat_str, flat_int, any_str, o_isiT, o_isiL, o_isiS, o_isiI, atI_0, atI_1, atI_2, atI_3, eqv_lst, eqv_tup, eqvL_nil, eqvL_cons, eqvL_str, eqv_str, eqS_int, ixN20, ixN21, fz_tup, Bool.false_and, Bool.and_false, o_posT, Int.cast_ofNat_Int, eq_self, q1, q2, q4, q5, q3, hzi]
        exact ih
    rcases hG with ⟨z, z2, z3⟩ | z
    · subst z z2 z3
      have q0 : eqS (.int ((G.length : Nat) : Int)) (.int ((G.length : Nat) : Int)) = true := by simp [eqS]
      have q1 : G.length < 1000000 := by omega
      have q2 : G.map gD ++ [D.nd (.lst true) []] = (G ++ [[]]).map gD := by simp
      have := key ih (by simp; omega)
      simp only [pad, dNext, dSeq, dAsg, dFor, dEnum, dIt, dWhile, dIfS, dMS, dMA, dMN, dSub, dSfl, dRet, dRetV, dRetN, dRetT, dDrop, dBreak, dCont, dFz, fzS, dConsV, dCons, dNil, bCons, bNil, dVar, dC, dBin, dIx, dNeg, dCB, dMV, dTst, dAndT, dOrT, dNotT, dAnd, dOr, dNot, dIf, dLst, dLC, dLc, lcD, dYes, wipeD, dTup, dDct0, dLRev, dIsi, dSl, oNo, oSm, dCall, dCallL, gN, gTu, gsCons, gsNil, dRg1, dRg2, dRev, dZip, pVar, pIx, atP, getP, setP, unsetL, List.map_cons, List.map_nil, List.replicate_succ, List.replicate_zero, List.cons_append, List.nil_append, List.set_cons_zero, List.set_cons_succ, List.getElem?_cons_zero, List.getElem?_cons_succ, List.length_cons, List.length_nil, o_lt, o_ltS, o_gt, o_le, o_ge, o_add, o_addS, o_addL, o_addT, o_sub, o_mul, o_fdiv, o_mod, o_pow, o_eq, o_eqN, o_ne, o_neN, o_isB, o_isI, o_len, o_lenC, o_lenT, o_lenD, o_lenS, o_ix, o_ixC, o_ixT, o_ixS, o_ixDs, o_ixDi, o_put, o_inD, o_inDi, o_inL, o_inT, o_inS, o_idx, o_list, o_listC, o_listT, o_listD, o_tuple, o_tupleT, o_intI, o_intB, o_ord, o_str, o_max, o_min, o_isNo, o_tyL, o_tyT, o_tyD, o_tyS, o_tyI, o_sl, o_slC, o_slS, o_slT, cutG_map, o_lsD, o_lsC, o_it, o_itC, o_itT, o_itS, o_app, o_ext, o_ins, o_pop, o_rev, o_clr, o_pos, o_posS, Option.bind_some, Option.map_some, List.length_map, if_true, Bool.not_false, Bool.not_true, Bool.false_bne, Bool.true_bne,  safe_sc, safe_lstF, safe_scr, safe_tup, safe_f, true_and, and_true, Option.some.injEq, exists_eq_left', exists_eq_left, decide_true, decide_false, Bool.false_eq_true, Bool.true_eq_false, reduceIte, Nat.zero_add, fz_lst, fz_dct, fz_ins, fz_sc, fz_lstF, fz_scr, Nat.zero_le, Nat.reduceLeDiff, Nat.reduceAdd, Nat.reduceLT, Int.reduceLT, Int.reduceLE, and_self, frz_lst, frz_dct, frz_dctF, frzL_ints, frzL_strs, frz_lstF, frz_scr, frz_tup, frz_sc, frzL_nil, frzL_cons, frzL_str, frzL_int, fzL_nil, fzL_cons, fzL_str, fzL_int, noC_sc, noC_lst, noC_tup, noC_dct, noCL_nil, noCL_cons, noCL_str, noCL_str2, noCL_int, Bool.and_self, Bool.and_true, Bool.true_and, List.append_nil, true_or, or_true, flat_str, flat_int, any_str, o_isiT, o_isiL, o_isiS, o_isiI, atI_0, atI_1, atI_2, atI_3, eqv_lst, eqv_tup, eqvL_nil, eqvL_cons, eqvL_str, eqv_str, eqS_int, ixN20, ixN21, fz_tup, Bool.false_and, Bool.and_false, o_posT, Int.cast_ofNat_Int, eq_self] at this
      simp only [pad, dNext, dSeq, dAsg, dFor, dEnum, dIt, dWhile, dIfS, dMS, dMA, dMN, dSub, dSfl, dRet, dRetV, dRetN, dRetT, dDrop, dBreak, dCont, dFz, fzS, dConsV, dCons, dNil, bCons, bNil, dVar, dC, dBin, dIx, dNeg, dCB, dMV, dTst, dAndT, dOrT, dNotT, dAnd, dOr, dNot, dIf, dLst, dLC, dLc, lcD, dYes, wipeD, dTup, dDct0, dLRev, dIsi, dSl, oNo, oSm, dCall, dCallL, gN, gTu, gsCons, gsNil, dRg1, dRg2, dRev, dZip, pVar, pIx, atP, getP, setP, unsetL, List.map_cons, List.map_nil, List.replicate_succ, List.replicate_zero, List.cons_append, List.nil_append, List.set_cons_zero, List.set_cons_succ, List.getElem?_cons_zero, List.getElem?_cons_succ, List.length_cons, List.length_nil, o_lt, o_ltS, o_gt, o_le, o_ge, o_add, o_addS, o_addL, o_addT, o_sub, o_mul, o_fdiv, o_mod, o_pow, o_eq, o_eqN, o_ne, o_neN, o_isB, o_isI, o_len, o_lenC, o_lenT, o_lenD, o_lenS, o_ix, o_ixC, o_ixT, o_ixS, o_ixDs, o_ixDi, o_put, o_inD, o_inDi, o_inL, o_inT, o_inS, o_idx, o_list, o_listC, o_listT, o_listD, o_tuple, o_tupleT, o_intI, o_intB, o_ord, o_str, o_max, o_min, o_isNo, o_tyL, o_tyT, o_tyD, o_tyS, o_tyI, o_sl, o_slC, o_slS, o_slT, cutG_map, o_lsD, o_lsC, o_it, o_itC, o_itT, o_itS, o_app, o_ext, o_ins, o_pop, o_rev, o_clr, o_pos, o_posS, Option.bind_some, Option.map_some, List.length_map, if_true, Bool.not_false, Bool.not_true, Bool.false_bne, Bool.true_bne,  safe_sc, safe_lstF, safe_scr, safe_tup, safe_f, true_and, and_true, Option.some.injEq, exists_eq_left', exists_eq_left, decide_true, decide_false, Bool.false_eq_true, Bool.true_eq_false, reduceIte, Nat.zero_add, fz_lst, fz_dct, fz_ins, fz_sc, fz_lstF, fz_scr, Nat.zero_le, Nat.reduceLeDiff, Nat.reduceAdd, Nat.reduceLT, Int.reduceLT, Int.reduceLE, and_self, frz_lst, frz_dct, frz_dctF, frzL_ints, frzL_strs, frz_lstF, frz_scr, frz_tup, frz_sc, frzL_nil, frzL_cons, frzL_str, frzL_int, fzL_nil, fzL_cons, fzL_str, fzL_int, noC_sc, noC_lst, noC_tup, noC_dct, noCL_nil, noCL_cons, noCL_str, noCL_str2, noCL_int, Bool.and_self, Bool.and_true, Bool.true_and, List.append_nil, true_or, or_true, flat_str, flat_int, any_str, o_isiT, o_isiL, o_isiS, o_isiI, atI_0, atI_1, atI_2, atI_3, eqv_lst, eqv_tup, eqvL_nil, eqvL_cons, eqvL_str, eqv_str, eqS_int, ixN20, ixN21, fz_tup, Bool.false_and, Bool.and_false, o_posT, Int.cast_ofNat_Int, eq_self, q0, q1, q2]
      exact this
    · have q0 : eqS (.int ((pre.length : Nat) : Int)) (.int ((G.length : Nat) : Int)) = false := by rw [z]; simp [eqS]; omega
      have := key ih (by rw [← z]; omega)
      rw [← z] at this
      simp only [pad, dNext, dSeq, dAsg, dFor, dEnum, dIt, dWhile, dIfS, dMS, dMA, dMN, dSub, dSfl, dRet, dRetV, dRetN, dRetT, dDrop, dBreak, dCont, dFz, fzS, dConsV, dCons, dNil, bCons, bNil, dVar, dC, dBin, dIx, dNeg, dCB, dMV, dTst, dAndT, dOrT, dNotT, dAnd, dOr, dNot, dIf, dLst, dLC, dLc, lcD, dYes, wipeD, dTup, dDct0, dLRev, dIsi, dSl, oNo, oSm, dCall, dCallL, gN, gTu, gsCons, gsNil, dRg1, dRg2, dRev, dZip, pVar, pIx, atP, getP, setP, unsetL, List.map_cons, List.map_nil, List.replicate_succ, List.replicate_zero, List.cons_append, List.nil_append, List.set_cons_zero, List.set_cons_succ, List.getElem?_cons_zero, List.getElem?_cons_succ, List.length_cons, List.length_nil, o_lt, o_ltS, o_gt, o_le, o_ge, o_add, o_addS, o_addL, o_addT, o_sub, o_mul, o_fdiv, o_mod, o_pow, o_eq, o_eqN, o_ne, o_neN, o_isB, o_isI, o_len, o_lenC, o_lenT, o_lenD, o_lenS, o_ix, o_ixC, o_ixT, o_ixS, o_ixDs, o_ixDi, o_put, o_inD, o_inDi, o_inL, o_inT, o_inS, o_idx, o_list, o_listC, o_listT, o_listD, o_tuple, o_tupleT, o_intI, o_intB, o_ord, o_str, o_max, o_min, o_isNo, o_tyL, o_tyT, o_tyD, o_tyS, o_tyI, o_sl, o_slC, o_slS, o_slT, cutG_map, o_lsD, o_lsC, o_it, o_itC, o_itT, o_itS, o_app, o_ext, o_ins, o_pop, o_rev, o_clr, o_pos, o_posS, Option.bind_some, Option.map_some, List.length_map, if_true, Bool.not_false, Bool.not_true, Bool.false_bne, Bool.true_bne,  safe_sc, safe_lstF, safe_scr, safe_tup, safe_f, true_and, and_true, Option.some.injEq, exists_eq_left', exists_eq_left, decide_true, decide_false, Bool.false_eq_true, Bool.true_eq_false, reduceIte, Nat.zero_add, fz_lst, fz_dct, fz_ins, fz_sc, fz_lstF, fz_scr, Nat.zero_le, Nat.reduceLeDiff, Nat.reduceAdd, Nat.reduceLT, Int.reduceLT, Int.reduceLE, and_self, frz_lst, frz_dct, frz_dctF, frzL_ints, frzL_strs, frz_lstF, frz_scr, frz_tup, frz_sc, frzL_nil, frzL_cons, frzL_str, frzL_int, fzL_nil, fzL_cons, fzL_str, fzL_int, noC_sc, noC_lst, noC_tup, noC_dct, noCL_nil, noCL_cons, noCL_str, noCL_str2, noCL_int, Bool.and_self, Bool.and_true, Bool.true_and, List.append_nil, true_or, or_true, flat_str, flat_int, any_str, o_isiT, o_isiL, o_isiS, o_isiI, atI_0, atI_1, atI_2, atI_3, eqv_lst, eqv_tup, eqvL_nil, eqvL_cons, eqvL_str, eqv_str, eqS_int, ixN20, ixN21, fz_tup, Bool.false_and, Bool.and_false, o_posT, Int.cast_ofNat_Int, eq_self] at this
      simp only [pad, dNext, dSeq, dAsg, dFor, dEnum, dIt, dWhile, dIfS, dMS, dMA, dMN, dSub, dSfl, dRet, dRetV, dRetN, dRetT, dDrop, dBreak, dCont, dFz, fzS, dConsV, dCons, dNil, bCons, bNil, dVar, dC, dBin, dIx, dNeg, dCB, dMV, dTst, dAndT, dOrT, dNotT, dAnd, dOr, dNot, dIf, dLst, dLC, dLc, lcD, dYes, wipeD, dTup, dDct0, dLRev, dIsi, dSl, oNo, oSm, dCall, dCallL, gN, gTu, gsCons, gsNil, dRg1, dRg2, dRev, dZip, pVar, pIx, atP, getP, setP, unsetL, List.map_cons, List.map_nil, List.replicate_succ, List.replicate_zero, List.cons_append, List.nil_append, List.set_cons_zero, List.set_cons_succ, List.getElem?_cons_zero, List.getElem?_cons_succ, List.length_cons, List.length_nil, o_lt, o_ltS, o_gt, o_le, o_ge, o_add, o_addS, o_addL, o_addT, o_sub, o_mul, o_fdiv, o_mod, o_pow, o_eq, o_eqN, o_ne, o_neN, o_isB, o_isI, o_len, o_lenC, o_lenT, o_lenD, o_lenS, o_ix, o_ixC, o_ixT, o_ixS, o_ixDs, o_ixDi, o_put, o_inD, o_inDi, o_inL, o_inT, o_inS, o_idx, o_list, o_listC, o_listT, o_listD, o_tuple, o_tupleT, o_intI, o_intB, o_ord, o_str, o_max, o_min, o_isNo, o_tyL, o_tyT, o_tyD, o_tyS, o_tyI, o_sl, o_slC, o_slS, o_slT, cutG_map, o_lsD, o_lsC, o_it, o_itC, o_itT, o_itS, o_app, o_ext, o_ins, o_pop, o_rev, o_clr, o_pos, o_posS, Option.bind_some, Option.map_some, List.length_map, if_true, Bool.not_false, Bool.not_true, Bool.false_bne, Bool.true_bne,  safe_sc, safe_lstF, safe_scr, safe_tup, safe_f, true_and, and_true, Option.some.injEq, exists_eq_left', exists_eq_left, decide_true, decide_false, Bool.false_eq_true, Bool.true_eq_false, reduceIte, Nat.zero_add, fz_lst, fz_dct, fz_ins, fz_sc, fz_lstF, fz_scr, Nat.zero_le, Nat.reduceLeDiff, Nat.reduceAdd, Nat.reduceLT, Int.reduceLT, Int.reduceLE, and_self, frz_lst, frz_dct, frz_dctF, frzL_ints, frzL_strs, frz_lstF, frz_scr, frz_tup, frz_sc, frzL_nil, frzL_cons, frzL_str, frzL_int, fzL_nil, fzL_cons, fzL_str, fzL_int, noC_sc, noC_lst, noC_tup, noC_dct, noCL_nil, noCL_cons, noCL_str, noCL_str2, noCL_int, Bool.and_self, Bool.and_true, Bool.true_and, List.append_nil, true_or, or_true, flat_str, flat_int, any_str, o_isiT, o_isiL, o_isiS, o_isiI, atI_0, atI_1, atI_2, atI_3, eqv_lst, eqv_tup, eqvL_nil, eqvL_cons, eqvL_str, eqv_str, eqS_int, ixN20, ixN21, fz_tup, Bool.false_and, Bool.and_false, o_posT, Int.cast_ofNat_Int, eq_self, q0]
      exact this
/-- groups_of: the groups, and what is behind each thing -/
theorem groups_of_d {one other : List Txt} {Q : D → Sl → Prop} {E : EX → Sl → Prop} (nd1 : one.Nodup) (nd2 : other.Nodup) (hs : ∀ t ∈ one, t ∈ other) (h1 : one.length ≤ 1000) (h2 : other.length ≤ 1000)
    (q : ∀ env, Q (.nd .tup [.nd (.lst true) ((groupsOf (fun x => other.idxOf x) one).1.map gD), bhD (groupsOf (fun x => other.idxOf x) one).2]) env) : sp_groups_of [.nd (.lst false) (one.map D.str), .nd (.lst false) (other.map D.str)] Q E := by
  rw [e_sp_groups_of, e_b_groups_of]
  simp only [pad, dNext, dSeq, dAsg, dFor, dEnum, dIt, dWhile, dIfS, dMS, dMA, dMN, dSub, dSfl, dRet, dRetV, dRetN, dRetT, dDrop, dBreak, dCont, dFz, fzS, dConsV, dCons, dNil, bCons, bNil, dVar, dC, dBin, dIx, dNeg, dCB, dMV, dTst, dAndT, dOrT, dNotT, dAnd, dOr, dNot, dIf, dLst, dLC, dLc, lcD, dYes, wipeD, dTup, dDct0, dLRev, dIsi, dSl, oNo, oSm, dCall, dCallL, gN, gTu, gsCons, gsNil, dRg1, dRg2, dRev, dZip, pVar, pIx, atP, getP, setP, unsetL, List.map_cons, List.map_nil, List.replicate_succ, List.replicate_zero, List.cons_append, List.nil_append, List.set_cons_zero, List.set_cons_succ, List.getElem?_cons_zero, List.getElem?_cons_succ, List.length_cons, List.length_nil, o_lt, o_ltS, o_gt, o_le, o_ge, o_add, o_addS, o_addL, o_addT, o_sub, o_mul, o_fdiv, o_mod, o_pow, o_eq, o_eqN, o_ne, o_neN, o_isB, o_isI, o_len, o_lenC, o_lenT, o_lenD, o_lenS, o_ix, o_ixC, o_ixT, o_ixS, o_ixDs, o_ixDi, o_put, o_inD, o_inDi, o_inL, o_inT, o_inS, o_idx, o_list, o_listC, o_listT, o_listD, o_tuple, o_tupleT, o_intI, o_intB, o_ord, o_str, o_max, o_min, o_isNo, o_tyL, o_tyT, o_tyD, o_tyS, o_tyI, o_sl, o_slC, o_slS, o_slT, cutG_map, o_lsD, o_lsC, o_it, o_itC, o_itT, o_itS, o_app, o_ext, o_ins, o_pop, o_rev, o_clr, o_pos, o_posS, Option.bind_some, Option.map_some, List.length_map, if_true, Bool.not_false, Bool.not_true, Bool.false_bne, Bool.true_bne,  safe_sc, safe_lstF, safe_scr, safe_tup, safe_f, true_and, and_true, Option.some.injEq, exists_eq_left', exists_eq_left, decide_true, decide_false, Bool.false_eq_true, Bool.true_eq_false, reduceIte, Nat.zero_add, fz_lst, fz_dct, fz_ins, fz_sc, fz_lstF, fz_scr, Nat.zero_le, Nat.reduceLeDiff, Nat.reduceAdd, Nat.reduceLT, Int.reduceLT, Int.reduceLE, and_self, frz_lst, frz_dct, frz_dctF, frzL_ints, frzL_strs, frz_lstF, frz_scr, frz_tup, frz_sc, frzL_nil, frzL_cons, frzL_str, frzL_int, fzL_nil, fzL_cons, fzL_str, fzL_int, noC_sc, noC_lst, noC_tup, noC_dct, noCL_nil, noCL_cons, noCL_str, noCL_str2, noCL_int, Bool.and_self, Bool.and_true, Bool.true_and, List.append_nil, true_or, or_true, flat_str, flat_int, any_str, o_isiT, o_isiL, o_isiS, o_isiI, atI_0, atI_1, atI_2, atI_3, eqv_lst, eqv_tup, eqvL_nil, eqvL_cons, eqvL_str, eqv_str, eqS_int, ixN20, ixN21, fz_tup, Bool.false_and, Bool.and_false, o_posT, Int.cast_ofNat_Int, eq_self]
  have hv : (List.range other.length).map (fun i => D.int ((i : Nat) : Int)) = other.map fun t => D.int ((other.idxOf t : Nat) : Int) := by
    apply List.ext_getElem?
    intro i
    rw [List.getElem?_map, List.getElem?_map]
    by_cases hi : i < other.length
    · rw [List.getElem?_range hi, List.getElem?_eq_getElem hi]
      show some (D.int ((i : Nat) : Int)) = some (D.int ((other.idxOf other[i] : Nat) : Int))
      rw [idx_get nd2 hi]
    · rw [List.getElem?_eq_none (by simpa using hi), List.getElem?_eq_none (by simpa using hi)]; rfl
  refine place_loop _ _ _ _ _ _ other [] [] none none (by simpa using nd2) (by simpa using h2) rfl fun th k => ?_
  rw [List.nil_append, hv]
  simp only [pad, dNext, dSeq, dAsg, dFor, dEnum, dIt, dWhile, dIfS, dMS, dMA, dMN, dSub, dSfl, dRet, dRetV, dRetN, dRetT, dDrop, dBreak, dCont, dFz, fzS, dConsV, dCons, dNil, bCons, bNil, dVar, dC, dBin, dIx, dNeg, dCB, dMV, dTst, dAndT, dOrT, dNotT, dAnd, dOr, dNot, dIf, dLst, dLC, dLc, lcD, dYes, wipeD, dTup, dDct0, dLRev, dIsi, dSl, oNo, oSm, dCall, dCallL, gN, gTu, gsCons, gsNil, dRg1, dRg2, dRev, dZip, pVar, pIx, atP, getP, setP, unsetL, List.map_cons, List.map_nil, List.replicate_succ, List.replicate_zero, List.cons_append, List.nil_append, List.set_cons_zero, List.set_cons_succ, List.getElem?_cons_zero, List.getElem?_cons_succ, List.length_cons, List.length_nil, o_lt, o_ltS, o_gt, o_le, o_ge, o_add, o_addS, o_addL, o_addT, o_sub, o_mul, o_fdiv, o_mod, o_pow, o_eq, o_eqN, o_ne, o_neN, o_isB, o_isI, o_len, o_lenC, o_lenT, o_lenD, o_lenS, o_ix, o_ixC, o_ixT, o_ixS, o_ixDs, o_ixDi, o_put, o_inD, o_inDi, o_inL, o_inT, o_inS, o_idx, o_list, o_listC, o_listT, o_listD, o_tuple, o_tupleT, o_intI, o_intB, o_ord, o_str, o_max, o_min, o_isNo, o_tyL, o_tyT, o_tyD, o_tyS, o_tyI, o_sl, o_slC, o_slS, o_slT, cutG_map, o_lsD, o_lsC, o_it, o_itC, o_itT, o_itS, o_app, o_ext, o_ins, o_pop, o_rev, o_clr, o_pos, o_posS, Option.bind_some, Option.map_some, List.length_map, if_true, Bool.not_false, Bool.not_true, Bool.false_bne, Bool.true_bne,  safe_sc, safe_lstF, safe_scr, safe_tup, safe_f, true_and, and_true, Option.some.injEq, exists_eq_left', exists_eq_left, decide_true, decide_false, Bool.false_eq_true, Bool.true_eq_false, reduceIte, Nat.zero_add, fz_lst, fz_dct, fz_ins, fz_sc, fz_lstF, fz_scr, Nat.zero_le, Nat.reduceLeDiff, Nat.reduceAdd, Nat.reduceLT, Int.reduceLT, Int.reduceLE, and_self, frz_lst, frz_dct, frz_dctF, frzL_ints, frzL_strs, frz_lstF, frz_scr, frz_tup, frz_sc, frzL_nil, frzL_cons, frzL_str, frzL_int, fzL_nil, fzL_cons, fzL_str, fzL_int, noC_sc, noC_lst, noC_tup, noC_dct, noCL_nil, noCL_cons, noCL_str, noCL_str2, noCL_int, Bool.and_self, Bool.and_true, Bool.true_and, List.append_nil, true_or, or_true, flat_str, flat_int, any_str, o_isiT, o_isiL, o_isiS, o_isiI, atI_0, atI_1, atI_2, atI_3, eqv_lst, eqv_tup, eqvL_nil, eqvL_cons, eqvL_str, eqv_str, eqS_int, ixN20, ixN21, fz_tup, Bool.false_and, Bool.and_false, o_posT, Int.cast_ofNat_Int, eq_self]
  refine main_loop _ _ _ other one [] ([], []) th k none (Inv.init _) (by simpa using nd1) (by simpa using hs) (by simpa using h1) fun th at' => ?_
  simp only [pad, dNext, dSeq, dAsg, dFor, dEnum, dIt, dWhile, dIfS, dMS, dMA, dMN, dSub, dSfl, dRet, dRetV, dRetN, dRetT, dDrop, dBreak, dCont, dFz, fzS, dConsV, dCons, dNil, bCons, bNil, dVar, dC, dBin, dIx, dNeg, dCB, dMV, dTst, dAndT, dOrT, dNotT, dAnd, dOr, dNot, dIf, dLst, dLC, dLc, lcD, dYes, wipeD, dTup, dDct0, dLRev, dIsi, dSl, oNo, oSm, dCall, dCallL, gN, gTu, gsCons, gsNil, dRg1, dRg2, dRev, dZip, pVar, pIx, atP, getP, setP, unsetL, List.map_cons, List.map_nil, List.replicate_succ, List.replicate_zero, List.cons_append, List.nil_append, List.set_cons_zero, List.set_cons_succ, List.getElem?_cons_zero, List.getElem?_cons_succ, List.length_cons, List.length_nil, o_lt, o_ltS, o_gt, o_le, o_ge, o_add, o_addS, o_addL, o_addT, o_sub, o_mul, o_fdiv, o_mod, o_pow, o_eq, o_eqN, o_ne, o_neN, o_isB, o_isI, o_len, o_lenC, o_lenT, o_lenD, o_lenS, o_ix, o_ixC, o_ixT, o_ixS, o_ixDs, o_ixDi, o_put, o_inD, o_inDi, o_inL, o_inT, o_inS, o_idx, o_list, o_listC, o_listT, o_listD, o_tuple, o_tupleT, o_intI, o_intB, o_ord, o_str, o_max, o_min, o_isNo, o_tyL, o_tyT, o_tyD, o_tyS, o_tyI, o_sl, o_slC, o_slS, o_slT, cutG_map, o_lsD, o_lsC, o_it, o_itC, o_itT, o_itS, o_app, o_ext, o_ins, o_pop, o_rev, o_clr, o_pos, o_posS, Option.bind_some, Option.map_some, List.length_map, if_true, Bool.not_false, Bool.not_true, Bool.false_bne, Bool.true_bne,  safe_sc, safe_lstF, safe_scr, safe_tup, safe_f, true_and, and_true, Option.some.injEq, exists_eq_left', exists_eq_left, decide_true, decide_false, Bool.false_eq_true, Bool.true_eq_false, reduceIte, Nat.zero_add, fz_lst, fz_dct, fz_ins, fz_sc, fz_lstF, fz_scr, Nat.zero_le, Nat.reduceLeDiff, Nat.reduceAdd, Nat.reduceLT, Int.reduceLT, Int.reduceLE, and_self, frz_lst, frz_dct, frz_dctF, frzL_ints, frzL_strs, frz_lstF, frz_scr, frz_tup, frz_sc, frzL_nil, frzL_cons, frzL_str, frzL_int, fzL_nil, fzL_cons, fzL_str, fzL_int, noC_sc, noC_lst, noC_tup, noC_dct, noCL_nil, noCL_cons, noCL_str, noCL_str2, noCL_int, Bool.and_self, Bool.and_true, Bool.true_and, List.append_nil, true_or, or_true, flat_str, flat_int, any_str, o_isiT, o_isiL, o_isiS, o_isiI, atI_0, atI_1, atI_2, atI_3, eqv_lst, eqv_tup, eqvL_nil, eqvL_cons, eqvL_str, eqv_str, eqS_int, ixN20, ixN21, fz_tup, Bool.false_and, Bool.and_false, o_posT, Int.cast_ofNat_Int, eq_self]
  exact q _
theorem lkp_bh : ∀ (B : B2) (t : Txt), lkp (B.map fun x => Sum.inr x.1) (B.map fun x => D.str x.2) (Sum.inr t : DK) = (lk B t).map D.str
  | [], _ => rfl
  | (a, b) :: r, t => by
    rw [List.map_cons, List.map_cons, lkp, lk]
    by_cases e : a = t
    · rw [if_pos (by rw [e]), if_pos e]; rfl
    · rw [if_neg (fun z => e (Sum.inr.inj z)), if_neg e, lkp_bh r t]
theorem has_bh : ∀ (B : B2) (t : Txt), hasK (B.map fun x => Sum.inr x.1) (Sum.inr t : DK) = (lk B t).isSome
  | [], _ => rfl
  | (a, b) :: r, t => by
    have ih := has_bh r t
    unfold hasK at ih ⊢
    rw [List.map_cons, List.any_cons, lk, ih]
    by_cases e : a = t
    · rw [decide_eq_true (by rw [e]), if_pos e]; rfl
    · rw [decide_eq_false (fun z => e (Sum.inr.inj z)), if_neg e]; rfl
theorem kept_loop (Dd : ED) (a b c3 : Option D) {p : Txt → Nat} {done : List Txt} {G : List (List Txt)} {B : B2} (I : Inv p done G B) : ∀ (k n : Nat) (g acc : List Txt) (t : Txt), k ≤ n → G[k]? = some g → t ∈ g → acc.length + k ≤ 1000 →
    Dd.nx [a, b, some (gD (acc ++ keptFrom B n t)), c3, some (bhD B)] → whD wc_kept_most_0 lb_kept_most_0 Dd (k + 1) [a, b, some (gD (acc ++ [t])), c3, some (bhD B)]
  | 0, n, g, acc, t, hn, hg, ht, hl, q => by
    have e : keptFrom B n t = [t] := by
      cases n with
      | zero => rfl
      | succ n => rw [keptFrom, I.low g t hg ht]
    rw [e] at q
    have h1 : atI ((acc ++ [t]).map D.str) (-1) = some (.str t) := by rw [List.map_append]; exact atI_last _ _
    have h2 : (false ^^ hasK (B.map fun x => Sum.inr x.1) (Sum.inr t : DK)) = false := by rw [has_bh, I.low g t hg ht]; rfl
    rw [whD]
    simp only [e_wc_kept_most_0, pad, dNext, dSeq, dAsg, dFor, dEnum, dIt, dWhile, dIfS, dMS, dMA, dMN, dSub, dSfl, dRet, dRetV, dRetN, dRetT, dDrop, dBreak, dCont, dFz, fzS, dConsV, dCons, dNil, bCons, bNil, dVar, dC, dBin, dIx, dNeg, dCB, dMV, dTst, dAndT, dOrT, dNotT, dAnd, dOr, dNot, dIf, dLst, dLC, dLc, lcD, dYes, wipeD, dTup, dDct0, dLRev, dIsi, dSl, oNo, oSm, dCall, dCallL, gN, gTu, gsCons, gsNil, dRg1, dRg2, dRev, dZip, pVar, pIx, atP, getP, setP, unsetL, List.map_cons, List.map_nil, List.replicate_succ, List.replicate_zero, List.cons_append, List.nil_append, List.set_cons_zero, List.set_cons_succ, List.getElem?_cons_zero, List.getElem?_cons_succ, List.length_cons, List.length_nil, o_lt, o_ltS, o_gt, o_le, o_ge, o_add, o_addS, o_addL, o_addT, o_sub, o_mul, o_fdiv, o_mod, o_pow, o_eq, o_eqN, o_ne, o_neN, o_isB, o_isI, o_len, o_lenC, o_lenT, o_lenD, o_lenS, o_ix, o_ixC, o_ixT, o_ixS, o_ixDs, o_ixDi, o_put, o_inD, o_inDi, o_inL, o_inT, o_inS, o_idx, o_list, o_listC, o_listT, o_listD, o_tuple, o_tupleT, o_intI, o_intB, o_ord, o_str, o_max, o_min, o_isNo, o_tyL, o_tyT, o_tyD, o_tyS, o_tyI, o_sl, o_slC, o_slS, o_slT, cutG_map, o_lsD, o_lsC, o_it, o_itC, o_itT, o_itS, o_app, o_ext, o_ins, o_pop, o_rev, o_clr, o_pos, o_posS, Option.bind_some, Option.map_some, List.length_map, if_true, Bool.not_false, Bool.not_true, Bool.false_bne, Bool.true_bne,  safe_sc, safe_lstF, safe_scr, safe_tup, safe_f, true_and, and_true, Option.some.injEq, exists_eq_left', exists_eq_left, decide_true, decide_false, Bool.false_eq_true, Bool.true_eq_false, reduceIte, Nat.zero_add, fz_lst, fz_dct, fz_ins, fz_sc, fz_lstF, fz_scr, Nat.zero_le, Nat.reduceLeDiff, Nat.reduceAdd, Nat.reduceLT, Int.reduceLT, Int.reduceLE, and_self, frz_lst, frz_dct, frz_dctF, frzL_ints, frzL_strs, frz_lstF, frz_scr, frz_tup, frz_sc, frzL_nil, frzL_cons, frzL_str, frzL_int, fzL_nil, fzL_cons, fzL_str, fzL_int, noC_sc, noC_lst, noC_tup, noC_dct, noCL_nil, noCL_cons, noCL_str, noCL_str2, noCL_int, Bool.and_self, Bool.and_true, Bool.true_and, List.append_nil, true_or, or_true, flat_str, flat_int, any_str, o_isiT, o_isiL, o_isiS, o_isiI, atI_0, atI_1, atI_2, atI_3, eqv_lst, eqv_tup, eqvL_nil, eqvL_cons, eqvL_str, eqv_str, eqS_int, ixN20, ixN21, fz_tup, Bool.false_and, Bool.and_false, o_posT, Int.cast_ofNat_Int, eq_self, h1, h2]
    exact q
  | k + 1, n, g, acc, t, hn, hg, ht, hl, q => by
    obtain ⟨n, rfl⟩ : ∃ m, n = m + 1 := ⟨n - 1, by omega⟩
    obtain ⟨x, g', q1, q2, q3, q4, q5⟩ := I.up k g t hg ht
    have e : keptFrom B (n + 1) t = t :: keptFrom B n x := by rw [keptFrom, q3]
    rw [e] at q
    have h1 : atI ((acc ++ [t]).map D.str) (-1) = some (.str t) := by rw [List.map_append]; exact atI_last _ _
    have h2 : (false ^^ hasK (B.map fun x => Sum.inr x.1) (Sum.inr t : DK)) = true := by rw [has_bh, q3]; rfl
    have h3 : lkp (B.map fun x => Sum.inr x.1) (B.map fun x => D.str x.2) (Sum.inr t : DK) = some (.str x) := by rw [lkp_bh, q3]; rfl
    have h4 : (acc ++ [t]).length < 1000000 := by rw [List.length_append, List.length_singleton]; omega
    have h5 : (acc ++ [t]).map D.str ++ [D.str x] = (acc ++ [t] ++ [x]).map D.str := by simp
    have ih := kept_loop Dd a b c3 I k n g' (acc ++ [t]) x (by omega) q1 q2 (by simp; omega) (by simpa using q)
    rw [whD]
    simp only [e_wc_kept_most_0, pad, dNext, dSeq, dAsg, dFor, dEnum, dIt, dWhile, dIfS, dMS, dMA, dMN, dSub, dSfl, dRet, dRetV, dRetN, dRetT, dDrop, dBreak, dCont, dFz, fzS, dConsV, dCons, dNil, bCons, bNil, dVar, dC, dBin, dIx, dNeg, dCB, dMV, dTst, dAndT, dOrT, dNotT, dAnd, dOr, dNot, dIf, dLst, dLC, dLc, lcD, dYes, wipeD, dTup, dDct0, dLRev, dIsi, dSl, oNo, oSm, dCall, dCallL, gN, gTu, gsCons, gsNil, dRg1, dRg2, dRev, dZip, pVar, pIx, atP, getP, setP, unsetL, List.map_cons, List.map_nil, List.replicate_succ, List.replicate_zero, List.cons_append, List.nil_append, List.set_cons_zero, List.set_cons_succ, List.getElem?_cons_zero, List.getElem?_cons_succ, List.length_cons, List.length_nil, o_lt, o_ltS, o_gt, o_le, o_ge, o_add, o_addS, o_addL, o_addT, o_sub, o_mul, o_fdiv, o_mod, o_pow, o_eq, o_eqN, o_ne, o_neN, o_isB, o_isI, o_len, o_lenC, o_lenT, o_lenD, o_lenS, o_ix, o_ixC, o_ixT, o_ixS, o_ixDs, o_ixDi, o_put, o_inD, o_inDi, o_inL, o_inT, o_inS, o_idx, o_list, o_listC, o_listT, o_listD, o_tuple, o_tupleT, o_intI, o_intB, o_ord, o_str, o_max, o_min, o_isNo, o_tyL, o_tyT, o_tyD, o_tyS, o_tyI, o_sl, o_slC, o_slS, o_slT, cutG_map, o_lsD, o_lsC, o_it, o_itC, o_itT, o_itS, o_app, o_ext, o_ins, o_pop, o_rev, o_clr, o_pos, o_posS, Option.bind_some, Option.map_some, List.length_map, if_true, Bool.not_false, Bool.not_true, Bool.false_bne, Bool.true_bne,  safe_sc, safe_lstF, safe_scr, safe_tup, safe_f, true_and, and_true, Option.some.injEq, exists_eq_left', exists_eq_left, decide_true, decide_false, Bool.false_eq_true, Bool.true_eq_false, reduceIte, Nat.zero_add, fz_lst, fz_dct, fz_ins, fz_sc, fz_lstF, fz_scr, Nat.zero_le, Nat.reduceLeDiff, Nat.reduceAdd, Nat.reduceLT, Int.reduceLT, Int.reduceLE, and_self, frz_lst, frz_dct, frz_dctF, frzL_ints, frzL_strs, frz_lstF, frz_scr, frz_tup, frz_sc, frzL_nil, frzL_cons, frzL_str, frzL_int, fzL_nil, fzL_cons, fzL_str, fzL_int, noC_sc, noC_lst, noC_tup, noC_dct, noCL_nil, noCL_cons, noCL_str, noCL_str2, noCL_int, Bool.and_self, Bool.and_true, Bool.true_and, List.append_nil, true_or, or_true, flat_str, flat_int, any_str, o_isiT, o_isiL, o_isiS, o_isiI, atI_0, atI_1, atI_2, atI_3, eqv_lst, eqv_tup, eqvL_nil, eqvL_cons, eqvL_str, eqv_str, eqS_int, ixN20, ixN21, fz_tup, Bool.false_and, Bool.and_false, o_posT, Int.cast_ofNat_Int, eq_self, h1, h2, e_lb_kept_most_0, h3, h4, h5]
    exact ih
theorem kept_most_d {one other : List Txt} {Q : D → Sl → Prop} {E : EX → Sl → Prop} (nd1 : one.Nodup) (nd2 : other.Nodup) (hs : ∀ t ∈ one, t ∈ other) (h1 : one.length ≤ 1000) (h2 : other.length ≤ 1000) (hk : ∀ t ∈ one, okT t)
    (q : ∀ env, Q (.nd .tup [gD (keptMost (fun x => other.idxOf x) one), .nd (.lst true) ((groupsOf (fun x => other.idxOf x) one).1.map gD)]) env) : sp_kept_most [.nd (.lst false) (one.map D.str), .nd (.lst false) (other.map D.str)] Q E := by
  rw [e_sp_kept_most, e_b_kept_most]
  have I := inv_groups (p := fun x => other.idxOf x) nd1 fun x hx y hy e => idx_inj (hs x hx) (hs y hy) e
  have hG : (groupsOf (fun x => other.idxOf x) one).1.length ≤ 1000 := Nat.le_trans I.count h1
  have ok : okE 8 (.nd (.lst true) ((groupsOf (fun x => other.idxOf x) one).1.map gD)) = true := okE_lst fun x hx => by
    obtain ⟨g, hg, rfl⟩ := List.mem_map.mp hx
    refine okE_lst fun y hy => ?_
    obtain ⟨t, ht, rfl⟩ := List.mem_map.mp hy
    exact okE_str (hk t ((I.sub g hg).subset ht))
  have ok0 : okE 8 (.nd (.lst true) []) = true := okE_lst fun _ z => by cases z
  have nc : noCL ((groupsOf (fun x => other.idxOf x) one).1.map gD) = true := noCL_map fun g _ => by simp only [pad, dNext, dSeq, dAsg, dFor, dEnum, dIt, dWhile, dIfS, dMS, dMA, dMN, dSub, dSfl, dRet, dRetV, dRetN, dRetT, dDrop, dBreak, dCont, dFz, fzS, dConsV, dCons, dNil, bCons, bNil, dVar, dC, dBin, dIx, dNeg, dCB, dMV, dTst, dAndT, dOrT, dNotT, dAnd, dOr, dNot, dIf, dLst, dLC, dLc, lcD, dYes, wipeD, dTup, dDct0, dLRev, dIsi, dSl, oNo, oSm, dCall, dCallL, gN, gTu, gsCons, gsNil, dRg1, dRg2, dRev, dZip, pVar, pIx, atP, getP, setP, unsetL, List.map_cons, List.map_nil, List.replicate_succ, List.replicate_zero, List.cons_append, List.nil_append, List.set_cons_zero, List.set_cons_succ, List.getElem?_cons_zero, List.getElem?_cons_succ, List.length_cons, List.length_nil, o_lt, o_ltS, o_gt, o_le, o_ge, o_add, o_addS, o_addL, o_addT, o_sub, o_mul, o_fdiv, o_mod, o_pow, o_eq, o_eqN, o_ne, o_neN, o_isB, o_isI, o_len, o_lenC, o_lenT, o_lenD, o_lenS, o_ix, o_ixC, o_ixT, o_ixS, o_ixDs, o_ixDi, o_put, o_inD, o_inDi, o_inL, o_inT, o_inS, o_idx, o_list, o_listC, o_listT, o_listD, o_tuple, o_tupleT, o_intI, o_intB, o_ord, o_str, o_max, o_min, o_isNo, o_tyL, o_tyT, o_tyD, o_tyS, o_tyI, o_sl, o_slC, o_slS, o_slT, cutG_map, o_lsD, o_lsC, o_it, o_itC, o_itT, o_itS, o_app, o_ext, o_ins, o_pop, o_rev, o_clr, o_pos, o_posS, Option.bind_some, Option.map_some, List.length_map, if_true, Bool.not_false, Bool.not_true, Bool.false_bne, Bool.true_bne,  safe_sc, safe_lstF, safe_scr, safe_tup, safe_f, true_and, and_true, Option.some.injEq, exists_eq_left', exists_eq_left, decide_true, decide_false, Bool.false_eq_true, Bool.true_eq_false, reduceIte, Nat.zero_add, fz_lst, fz_dct, fz_ins, fz_sc, fz_lstF, fz_scr, Nat.zero_le, Nat.reduceLeDiff, Nat.reduceAdd, Nat.reduceLT, Int.reduceLT, Int.reduceLE, and_self, frz_lst, frz_dct, frz_dctF, frzL_ints, frzL_strs, frz_lstF, frz_scr, frz_tup, frz_sc, frzL_nil, frzL_cons, frzL_str, frzL_int, fzL_nil, fzL_cons, fzL_str, fzL_int, noC_sc, noC_lst, noC_tup, noC_dct, noCL_nil, noCL_cons, noCL_str, noCL_str2, noCL_int, Bool.and_self, Bool.and_true, Bool.true_and, List.append_nil, true_or, or_true, flat_str, flat_int, any_str, o_isiT, o_isiL, o_isiS, o_isiI, atI_0, atI_1, atI_2, atI_3, eqv_lst, eqv_tup, eqvL_nil, eqvL_cons, eqvL_str, eqv_str, eqS_int, ixN20, ixN21, fz_tup, Bool.false_and, Bool.and_false, o_posT, Int.cast_ofNat_Int, eq_self]
  simp only [pad, dNext, dSeq, dAsg, dFor, dEnum, dIt, dWhile, dIfS, dMS, dMA, dMN, dSub, dSfl, dRet, dRetV, dRetN, dRetT, dDrop, dBreak, dCont, dFz, fzS, dConsV, dCons, dNil, bCons, bNil, dVar, dC, dBin, dIx, dNeg, dCB, dMV, dTst, dAndT, dOrT, dNotT, dAnd, dOr, dNot, dIf, dLst, dLC, dLc, lcD, dYes, wipeD, dTup, dDct0, dLRev, dIsi, dSl, oNo, oSm, dCall, dCallL, gN, gTu, gsCons, gsNil, dRg1, dRg2, dRev, dZip, pVar, pIx, atP, getP, setP, unsetL, List.map_cons, List.map_nil, List.replicate_succ, List.replicate_zero, List.cons_append, List.nil_append, List.set_cons_zero, List.set_cons_succ, List.getElem?_cons_zero, List.getElem?_cons_succ, List.length_cons, List.length_nil, o_lt, o_ltS, o_gt, o_le, o_ge, o_add, o_addS, o_addL, o_addT, o_sub, o_mul, o_fdiv, o_mod, o_pow, o_eq, o_eqN, o_ne, o_neN, o_isB, o_isI, o_len, o_lenC, o_lenT, o_lenD, o_lenS, o_ix, o_ixC, o_ixT, o_ixS, o_ixDs, o_ixDi, o_put, o_inD, o_inDi, o_inL, o_inT, o_inS, o_idx, o_list, o_listC, o_listT, o_listD, o_tuple, o_tupleT, o_intI, o_intB, o_ord, o_str, o_max, o_min, o_isNo, o_tyL, o_tyT, o_tyD, o_tyS, o_tyI, o_sl, o_slC, o_slS, o_slT, cutG_map, o_lsD, o_lsC, o_it, o_itC, o_itT, o_itS, o_app, o_ext, o_ins, o_pop, o_rev, o_clr, o_pos, o_posS, Option.bind_some, Option.map_some, List.length_map, if_true, Bool.not_false, Bool.not_true, Bool.false_bne, Bool.true_bne,  safe_sc, safe_lstF, safe_scr, safe_tup, safe_f, true_and, and_true, Option.some.injEq, exists_eq_left', exists_eq_left, decide_true, decide_false, Bool.false_eq_true, Bool.true_eq_false, reduceIte, Nat.zero_add, fz_lst, fz_dct, fz_ins, fz_sc, fz_lstF, fz_scr, Nat.zero_le, Nat.reduceLeDiff, Nat.reduceAdd, Nat.reduceLT, Int.reduceLT, Int.reduceLE, and_self, frz_lst, frz_dct, frz_dctF, frzL_ints, frzL_strs, frz_lstF, frz_scr, frz_tup, frz_sc, frzL_nil, frzL_cons, frzL_str, frzL_int, fzL_nil, fzL_cons, fzL_str, fzL_int, noC_sc, noC_lst, noC_tup, noC_dct, noCL_nil, noCL_cons, noCL_str, noCL_str2, noCL_int, Bool.and_self, Bool.and_true, Bool.true_and, List.append_nil, true_or, or_true, flat_str, flat_int, any_str, o_isiT, o_isiL, o_isiS, o_isiI, atI_0, atI_1, atI_2, atI_3, eqv_lst, eqv_tup, eqvL_nil, eqvL_cons, eqvL_str, eqv_str, eqS_int, ixN20, ixN21, fz_tup, Bool.false_and, Bool.and_false, o_posT, Int.cast_ofNat_Int, eq_self]
  refine groups_of_d nd1 nd2 hs h1 h2 fun env => ?_
  simp only [pad, dNext, dSeq, dAsg, dFor, dEnum, dIt, dWhile, dIfS, dMS, dMA, dMN, dSub, dSfl, dRet, dRetV, dRetN, dRetT, dDrop, dBreak, dCont, dFz, fzS, dConsV, dCons, dNil, bCons, bNil, dVar, dC, dBin, dIx, dNeg, dCB, dMV, dTst, dAndT, dOrT, dNotT, dAnd, dOr, dNot, dIf, dLst, dLC, dLc, lcD, dYes, wipeD, dTup, dDct0, dLRev, dIsi, dSl, oNo, oSm, dCall, dCallL, gN, gTu, gsCons, gsNil, dRg1, dRg2, dRev, dZip, pVar, pIx, atP, getP, setP, unsetL, List.map_cons, List.map_nil, List.replicate_succ, List.replicate_zero, List.cons_append, List.nil_append, List.set_cons_zero, List.set_cons_succ, List.getElem?_cons_zero, List.getElem?_cons_succ, List.length_cons, List.length_nil, o_lt, o_ltS, o_gt, o_le, o_ge, o_add, o_addS, o_addL, o_addT, o_sub, o_mul, o_fdiv, o_mod, o_pow, o_eq, o_eqN, o_ne, o_neN, o_isB, o_isI, o_len, o_lenC, o_lenT, o_lenD, o_lenS, o_ix, o_ixC, o_ixT, o_ixS, o_ixDs, o_ixDi, o_put, o_inD, o_inDi, o_inL, o_inT, o_inS, o_idx, o_list, o_listC, o_listT, o_listD, o_tuple, o_tupleT, o_intI, o_intB, o_ord, o_str, o_max, o_min, o_isNo, o_tyL, o_tyT, o_tyD, o_tyS, o_tyI, o_sl, o_slC, o_slS, o_slT, cutG_map, o_lsD, o_lsC, o_it, o_itC, o_itT, o_itS, o_app, o_ext, o_ins, o_pop, o_rev, o_clr, o_pos, o_posS, Option.bind_some, Option.map_some, List.length_map, if_true, Bool.not_false, Bool.not_true, Bool.false_bne, Bool.true_bne,  safe_sc, safe_lstF, safe_scr, safe_tup, safe_f, true_and, and_true, Option.some.injEq, exists_eq_left', exists_eq_left, decide_true, decide_false, Bool.false_eq_true, Bool.true_eq_false, reduceIte, Nat.zero_add, fz_lst, fz_dct, fz_ins, fz_sc, fz_lstF, fz_scr, Nat.zero_le, Nat.reduceLeDiff, Nat.reduceAdd, Nat.reduceLT, Int.reduceLT, Int.reduceLE, and_self, frz_lst, frz_dct, frz_dctF, frzL_ints, frzL_strs, frz_lstF, frz_scr, frz_tup, frz_sc, frzL_nil, frzL_cons, frzL_str, frzL_int, fzL_nil, fzL_cons, fzL_str, fzL_int, noC_sc, noC_lst, noC_tup, noC_dct, noCL_nil, noCL_cons, noCL_str, noCL_str2, noCL_int, Bool.and_self, Bool.and_true, Bool.true_and, List.append_nil, true_or, or_true, flat_str, flat_int, any_str, o_isiT, o_isiL, o_isiS, o_isiI, atI_0, atI_1, atI_2, atI_3, eqv_lst, eqv_tup, eqvL_nil, eqvL_cons, eqvL_str, eqv_str, eqS_int, ixN20, ixN21, fz_tup, Bool.false_and, Bool.and_false, o_posT, Int.cast_ofNat_Int, eq_self, nc, ok, ok0]
  by_cases hc : (groupsOf (fun x => other.idxOf x) one).1 = []
  · have e : (!eqvL ((groupsOf (fun x => other.idxOf x) one).1.map gD) []) = false := by rw [hc, List.map_nil, eqvL]; rfl
    have e2 : keptMost (fun x => other.idxOf x) one = [] := by unfold keptMost; simp only [hc, if_true]
    have q' := fun env => q env
    rw [e2] at q'
    simp only [pad, dNext, dSeq, dAsg, dFor, dEnum, dIt, dWhile, dIfS, dMS, dMA, dMN, dSub, dSfl, dRet, dRetV, dRetN, dRetT, dDrop, dBreak, dCont, dFz, fzS, dConsV, dCons, dNil, bCons, bNil, dVar, dC, dBin, dIx, dNeg, dCB, dMV, dTst, dAndT, dOrT, dNotT, dAnd, dOr, dNot, dIf, dLst, dLC, dLc, lcD, dYes, wipeD, dTup, dDct0, dLRev, dIsi, dSl, oNo, oSm, dCall, dCallL, gN, gTu, gsCons, gsNil, dRg1, dRg2, dRev, dZip, pVar, pIx, atP, getP, setP, unsetL, List.map_cons, List.map_nil, List.replicate_succ, List.replicate_zero, List.cons_append, List.nil_append, List.set_cons_zero, List.set_cons_succ, List.getElem?_cons_zero, List.getElem?_cons_succ, List.length_cons, List.length_nil, o_lt, o_ltS, o_gt, o_le, o_ge, o_add, o_addS, o_addL, o_addT, o_sub, o_mul, o_fdiv, o_mod, o_pow, o_eq, o_eqN, o_ne, o_neN, o_isB, o_isI, o_len, o_lenC, o_lenT, o_lenD, o_lenS, o_ix, o_ixC, o_ixT, o_ixS, o_ixDs, o_ixDi, o_put, o_inD, o_inDi, o_inL, o_inT, o_inS, o_idx, o_list, o_listC, o_listT, o_listD, o_tuple, o_tupleT, o_intI, o_intB, o_ord, o_str, o_max, o_min, o_isNo, o_tyL, o_tyT, o_tyD, o_tyS, o_tyI, o_sl, o_slC, o_slS, o_slT, cutG_map, o_lsD, o_lsC, o_it, o_itC, o_itT, o_itS, o_app, o_ext, o_ins, o_pop, o_rev, o_clr, o_pos, o_posS, Option.bind_some, Option.map_some, List.length_map, if_true, Bool.not_false, Bool.not_true, Bool.false_bne, Bool.true_bne,  safe_sc, safe_lstF, safe_scr, safe_tup, safe_f, true_and, and_true, Option.some.injEq, exists_eq_left', exists_eq_left, decide_true, decide_false, Bool.false_eq_true, Bool.true_eq_false, reduceIte, Nat.zero_add, fz_lst, fz_dct, fz_ins, fz_sc, fz_lstF, fz_scr, Nat.zero_le, Nat.reduceLeDiff, Nat.reduceAdd, Nat.reduceLT, Int.reduceLT, Int.reduceLE, and_self, frz_lst, frz_dct, frz_dctF, frzL_ints, frzL_strs, frz_lstF, frz_scr, frz_tup, frz_sc, frzL_nil, frzL_cons, frzL_str, frzL_int, fzL_nil, fzL_cons, fzL_str, fzL_int, noC_sc, noC_lst, noC_tup, noC_dct, noCL_nil, noCL_cons, noCL_str, noCL_str2, noCL_int, Bool.and_self, Bool.and_true, Bool.true_and, List.append_nil, true_or, or_true, flat_str, flat_int, any_str, o_isiT, o_isiL, o_isiS, o_isiI, atI_0, atI_1, atI_2, atI_3, eqv_lst, eqv_tup, eqvL_nil, eqvL_cons, eqvL_str, eqv_str, eqS_int, ixN20, ixN21, fz_tup, Bool.false_and, Bool.and_false, o_posT, Int.cast_ofNat_Int, eq_self, e]
    exact ⟨stb_lst rfl, q' _⟩
  · have e : (!eqvL ((groupsOf (fun x => other.idxOf x) one).1.map gD) []) = true := by
      cases hg : (groupsOf (fun x => other.idxOf x) one).1 with
      | nil => exact absurd hg hc
      | cons g r => rw [List.map_cons, eqvL]; rfl
    have e2 : keptMost (fun x => other.idxOf x) one = (keptFrom (groupsOf (fun x => other.idxOf x) one).2 one.length (lastT ((groupsOf (fun x => other.idxOf x) one).1.getLastD []))).reverse := by unfold keptMost; simp only [hc, if_false]
    have hlen := ne_len hc
    have hl : (groupsOf (fun x => other.idxOf x) one).1[(groupsOf (fun x => other.idxOf x) one).1.length - 1]? = some ((groupsOf (fun x => other.idxOf x) one).1.getLastD []) := by
      rw [List.getLastD_eq_getLast?, List.getLast?_eq_getElem?, List.getElem?_eq_getElem (by omega)]
      rfl
    have hne := I.ne _ (List.mem_of_getElem? hl)
    have q1 : atI ((groupsOf (fun x => other.idxOf x) one).1.map gD) (-1) = some (gD ((groupsOf (fun x => other.idxOf x) one).1.getLastD [])) := by
      unfold atI
      obtain ⟨m, hm⟩ : ∃ m, (groupsOf (fun x => other.idxOf x) one).1.length = m + 1 := ⟨_, (Nat.succ_pred_eq_of_pos hlen).symm⟩
      rw [List.length_map, hm, ixN_last]
      rw [hm] at hl
      show ((groupsOf (fun x => other.idxOf x) one).1.map gD)[m]? = _
      rw [List.getElem?_map]
      rw [Nat.add_sub_cancel] at hl
      rw [hl]; rfl
    have q2 := atI_lastT hne
    simp only [pad, dNext, dSeq, dAsg, dFor, dEnum, dIt, dWhile, dIfS, dMS, dMA, dMN, dSub, dSfl, dRet, dRetV, dRetN, dRetT, dDrop, dBreak, dCont, dFz, fzS, dConsV, dCons, dNil, bCons, bNil, dVar, dC, dBin, dIx, dNeg, dCB, dMV, dTst, dAndT, dOrT, dNotT, dAnd, dOr, dNot, dIf, dLst, dLC, dLc, lcD, dYes, wipeD, dTup, dDct0, dLRev, dIsi, dSl, oNo, oSm, dCall, dCallL, gN, gTu, gsCons, gsNil, dRg1, dRg2, dRev, dZip, pVar, pIx, atP, getP, setP, unsetL, List.map_cons, List.map_nil, List.replicate_succ, List.replicate_zero, List.cons_append, List.nil_append, List.set_cons_zero, List.set_cons_succ, List.getElem?_cons_zero, List.getElem?_cons_succ, List.length_cons, List.length_nil, o_lt, o_ltS, o_gt, o_le, o_ge, o_add, o_addS, o_addL, o_addT, o_sub, o_mul, o_fdiv, o_mod, o_pow, o_eq, o_eqN, o_ne, o_neN, o_isB, o_isI, o_len, o_lenC, o_lenT, o_lenD, o_lenS, o_ix, o_ixC, o_ixT, o_ixS, o_ixDs, o_ixDi, o_put, o_inD, o_inDi, o_inL, o_inT, o_inS, o_idx, o_list, o_listC, o_listT, o_listD, o_tuple, o_tupleT, o_intI, o_intB, o_ord, o_str, o_max, o_min, o_isNo, o_tyL, o_tyT, o_tyD, o_tyS, o_tyI, o_sl, o_slC, o_slS, o_slT, cutG_map, o_lsD, o_lsC, o_it, o_itC, o_itT, o_itS, o_app, o_ext, o_ins, o_pop, o_rev, o_clr, o_pos, o_posS, Option.bind_some, Option.map_some, List.length_map, if_true, Bool.not_false, Bool.not_true, Bool.false_bne, Bool.true_bne,  safe_sc, safe_lstF, safe_scr, safe_tup, safe_f, true_and, and_true, Option.some.injEq, exists_eq_left', exists_eq_left, decide_true, decide_false, Bool.false_eq_true, Bool.true_eq_false, reduceIte, Nat.zero_add, fz_lst, fz_dct, fz_ins, fz_sc, fz_lstF, fz_scr, Nat.zero_le, Nat.reduceLeDiff, Nat.reduceAdd, Nat.reduceLT, Int.reduceLT, Int.reduceLE, and_self, frz_lst, frz_dct, frz_dctF, frzL_ints, frzL_strs, frz_lstF, frz_scr, frz_tup, frz_sc, frzL_nil, frzL_cons, frzL_str, frzL_int, fzL_nil, fzL_cons, fzL_str, fzL_int, noC_sc, noC_lst, noC_tup, noC_dct, noCL_nil, noCL_cons, noCL_str, noCL_str2, noCL_int, Bool.and_self, Bool.and_true, Bool.true_and, List.append_nil, true_or, or_true, flat_str, flat_int, any_str, o_isiT, o_isiL, o_isiS, o_isiI, atI_0, atI_1, atI_2, atI_3, eqv_lst, eqv_tup, eqvL_nil, eqvL_cons, eqvL_str, eqv_str, eqS_int, ixN20, ixN21, fz_tup, Bool.false_and, Bool.and_false, o_posT, Int.cast_ofNat_Int, eq_self, e, q1, q2]
    have I' := I
    refine ⟨_, kept_loop _ _ _ _ I ((groupsOf (fun x => other.idxOf x) one).1.length - 1) one.length _ [] _ (Nat.le_trans (Nat.sub_le _ _) I.count) hl (lastT_mem hne) (by simp; omega) ?_⟩
    simp only [pad, dNext, dSeq, dAsg, dFor, dEnum, dIt, dWhile, dIfS, dMS, dMA, dMN, dSub, dSfl, dRet, dRetV, dRetN, dRetT, dDrop, dBreak, dCont, dFz, fzS, dConsV, dCons, dNil, bCons, bNil, dVar, dC, dBin, dIx, dNeg, dCB, dMV, dTst, dAndT, dOrT, dNotT, dAnd, dOr, dNot, dIf, dLst, dLC, dLc, lcD, dYes, wipeD, dTup, dDct0, dLRev, dIsi, dSl, oNo, oSm, dCall, dCallL, gN, gTu, gsCons, gsNil, dRg1, dRg2, dRev, dZip, pVar, pIx, atP, getP, setP, unsetL, List.map_cons, List.map_nil, List.replicate_succ, List.replicate_zero, List.cons_append, List.nil_append, List.set_cons_zero, List.set_cons_succ, List.getElem?_cons_zero, List.getElem?_cons_succ, List.length_cons, List.length_nil, o_lt, o_ltS, o_gt, o_le, o_ge, o_add, o_addS, o_addL, o_addT, o_sub, o_mul, o_fdiv, o_mod, o_pow, o_eq, o_eqN, o_ne, o_neN, o_isB, o_isI, o_len, o_lenC, o_lenT, o_lenD, o_lenS, o_ix, o_ixC, o_ixT, o_ixS, o_ixDs, o_ixDi, o_put, o_inD, o_inDi, o_inL, o_inT, o_inS, o_idx, o_list, o_listC, o_listT, o_listD, o_tuple, o_tupleT, o_intI, o_intB, o_ord, o_str, o_max, o_min, o_isNo, o_tyL, o_tyT, o_tyD, o_tyS, o_tyI, o_sl, o_slC, o_slS, o_slT, cutG_map, o_lsD, o_lsC, o_it, o_itC, o_itT, o_itS, o_app, o_ext, o_ins, o_pop, o_rev, o_clr, o_pos, o_posS, Option.bind_some, Option.map_some, List.length_map, if_true, Bool.not_false, Bool.not_true, Bool.false_bne, Bool.true_bne,  safe_sc, safe_lstF, safe_scr, safe_tup, safe_f, true_and, and_true, Option.some.injEq, exists_eq_left', exists_eq_left, decide_true, decide_false, Bool.false_eq_true, Bool.true_eq_false, reduceIte, Nat.zero_add, fz_lst, fz_dct, fz_ins, fz_sc, fz_lstF, fz_scr, Nat.zero_le, Nat.reduceLeDiff, Nat.reduceAdd, Nat.reduceLT, Int.reduceLT, Int.reduceLE, and_self, frz_lst, frz_dct, frz_dctF, frzL_ints, frzL_strs, frz_lstF, frz_scr, frz_tup, frz_sc, frzL_nil, frzL_cons, frzL_str, frzL_int, fzL_nil, fzL_cons, fzL_str, fzL_int, noC_sc, noC_lst, noC_tup, noC_dct, noCL_nil, noCL_cons, noCL_str, noCL_str2, noCL_int, Bool.and_self, Bool.and_true, Bool.true_and, List.append_nil, true_or, or_true, flat_str, flat_int, any_str, o_isiT, o_isiL, o_isiS, o_isiI, atI_0, atI_1, atI_2, atI_3, eqv_lst, eqv_tup, eqvL_nil, eqvL_cons, eqvL_str, eqv_str, eqS_int, ixN20, ixN21, fz_tup, Bool.false_and, Bool.and_false, o_posT, Int.cast_ofNat_Int, eq_self]
    refine ⟨stb_lst (fzL_str _), ?_⟩
    rw [e2] at q
    rw [← List.map_reverse]
    exact q _
end LW

set_option Elab.async false
set_option linter.all false
set_option maxRecDepth 100000
set_option maxHeartbeats 2000000
namespace LW
open L2 DL KM
theorem sorted_eq : ∀ {a b : List Int}, a.Perm b → a.Pairwise (· ≤ ·) → b.Pairwise (· < ·) → a = b
  | [], b, p, _, _ => (List.nil_perm.mp p).symm
  | x :: a, [], p, _, _ => (List.perm_nil.mp p)
  | x :: a, y :: b, p, ha, hb => by
    obtain ⟨a1, a2⟩ := List.pairwise_cons.mp ha
    obtain ⟨b1, b2⟩ := List.pairwise_cons.mp hb
    have hx : x ∈ y :: b := p.mem_iff.mp List.mem_cons_self
    have hy : y ∈ x :: a := p.mem_iff.mpr List.mem_cons_self
    have e : x = y := by
      rcases List.mem_cons.mp hx with z | z
      · exact z
      · rcases List.mem_cons.mp hy with w | w
        · exact w.symm
        · have := b1 x z
          have := a1 y w
          omega
    subst e
    rw [sorted_eq (List.Perm.cons_inv p) a2 b2]
theorem idx_rise {one : List Txt} (nd : one.Nodup) : ∀ {g : List Txt}, g.Sublist one → (g.map fun t => ((one.idxOf t : Nat) : Int)).Pairwise (· < ·)
  | [], _ => .nil
  | x :: g, h => by
    rw [List.map_cons]
    refine List.pairwise_cons.mpr ⟨fun y hy => ?_, idx_rise nd ((List.sublist_cons_self x g).trans h)⟩
    obtain ⟨t, ht, rfl⟩ := List.mem_map.mp hy
    have : [x, t].Sublist one := ((List.singleton_sublist.mpr ht).cons_cons x).trans h
    have := two_at nd this
    omega
/-- what the second dict holds: places in the first list to places in the second one -/
abbrev seD (one other : List Txt) (o : Bool) : D := .nd (.dct o (other.map fun t => Sum.inl ((one.idxOf t : Nat) : Int))) (other.map fun t => D.int ((other.idxOf t : Nat) : Int))
theorem lkp_se {one : List Txt} : ∀ (other l : List Txt) (t : Txt), t ∈ l → (∀ x ∈ l, x ∈ one) → lkp (l.map fun t => Sum.inl ((one.idxOf t : Nat) : Int)) (l.map fun t => D.int ((other.idxOf t : Nat) : Int)) (Sum.inl ((one.idxOf t : Nat) : Int) : DK) = some (.int ((other.idxOf t : Nat) : Int))
  | other, [], t, h, _ => by cases h
  | other, a :: r, t, h, hm => by
    rw [List.map_cons, List.map_cons, lkp]
    by_cases e : a = t
    · subst e; rw [if_pos rfl]
    · have ht : t ∈ r := (List.mem_cons.mp h).resolve_left fun z => e z.symm
      rw [if_neg (fun z => e (idx_inj (hm a List.mem_cons_self) (hm t h) (by have := Sum.inl.inj z; omega)))]
      exact lkp_se other r t ht fun x hx => hm x (List.mem_cons_of_mem _ hx)
theorem fall_loop (Dd : ED) (c0 c1 c5 : Option D) {one other : List Txt} {g : List Txt} (hs : ∀ t ∈ g, t ∈ other) (ho : ∀ t ∈ other, t ∈ one) (hf : g.Pairwise fun a b => other.idxOf b < other.idxOf a) (hD : ∀ env, Dd.nx env) : ∀ (ks : List Nat) (k4 : Option D), (∀ k ∈ ks, k + 1 < g.length) →
    forD (gN 4) lb__law_falling_0 Dd (ks.map fun (k : Nat) => D.int (1 + ((k : Nat) : Int))) [c0, c1, some (seD one other false), some (.nd (.lst true) (g.map fun t => D.int ((one.idxOf t : Nat) : Int))), k4, c5]
  | [], k4, hk => hD _
  | k :: r, k4, hk => by
    have h1 := hk k List.mem_cons_self
    have e1 : ((k + 1 : Nat) : Int) - 1 = ((k : Nat) : Int) := by omega
    have e2 : 1 + ((k : Nat) : Int) = ((k + 1 : Nat) : Int) := by omega
    have a1 : atI (g.map fun t => D.int ((one.idxOf t : Nat) : Int)) ((k : Nat) : Int) = some (.int ((one.idxOf g[k] : Nat) : Int)) := atI_nat (by rw [List.getElem?_map, List.getElem?_eq_getElem (by omega)]; rfl)
    have a2 : atI (g.map fun t => D.int ((one.idxOf t : Nat) : Int)) ((k + 1 : Nat) : Int) = some (.int ((one.idxOf g[k + 1] : Nat) : Int)) := atI_nat (by rw [List.getElem?_map, List.getElem?_eq_getElem h1]; rfl)
    have l1 := lkp_se (one := one) other other g[k] (hs _ (List.getElem_mem _)) ho
    have l2 := lkp_se (one := one) other other g[k + 1] (hs _ (List.getElem_mem _)) ho
    have hlt : other.idxOf g[k + 1] < other.idxOf g[k] := List.pairwise_iff_getElem.mp hf k (k + 1) (by omega) h1 (by omega)
    have hn : ¬ ((other.idxOf g[k] : Nat) : Int) ≤ ((other.idxOf g[k + 1] : Nat) : Int) := by omega
    simp only [List.map_cons, forD, e_lb__law_falling_0, pad, dNext, dSeq, dAsg, dFor, dEnum, dIt, dWhile, dIfS, dMS, dMA, dMN, dSub, dSfl, dRet, dRetV, dRetN, dRetT, dDrop, dBreak, dCont, dFz, fzS, dConsV, dCons, dNil, bCons, bNil, dVar, dC, dBin, dIx, dNeg, dCB, dMV, dTst, dAndT, dOrT, dNotT, dAnd, dOr, dNot, dIf, dLst, dLC, dLc, lcD, dYes, wipeD, dTup, dDct0, dLRev, dIsi, dSl, oNo, oSm, dCall, dCallL, gN, gTu, gsCons, gsNil, dRg1, dRg2, dRev, dZip, pVar, pIx, atP, getP, setP, unsetL, List.map_cons, List.map_nil, List.replicate_succ, List.replicate_zero, List.cons_append, List.nil_append, List.set_cons_zero, List.set_cons_succ, List.getElem?_cons_zero, List.getElem?_cons_succ, List.length_cons, List.length_nil, o_lt, o_ltS, o_gt, o_le, o_ge, o_add, o_addS, o_addL, o_addT, o_sub, o_mul, o_fdiv, o_mod, o_pow, o_eq, o_eqN, o_ne, o_neN, o_isB, o_isI, o_len, o_lenC, o_lenT, o_lenD, o_lenS, o_ix, o_ixC, o_ixT, o_ixS, o_ixDs, o_ixDi, o_put, o_inD, o_inDi, o_inL, o_inT, o_inS, o_idx, o_list, o_listC, o_listT, o_listD, o_tuple, o_tupleT, o_intI, o_intB, o_ord, o_str, o_max, o_min, o_isNo, o_tyL, o_tyT, o_tyD, o_tyS, o_tyI, o_sl, o_slC, o_slS, o_slT, cutG_map, o_lsD, o_lsC, o_it, o_itC, o_itT, o_itS, o_app, o_ext, o_ins, o_pop, o_rev, o_clr, o_pos, o_posS, Option.bind_some, Option.map_some, List.length_map, if_true, Bool.not_false, Bool.not_true, Bool.false_bne, Bool.true_bne,  safe_sc, safe_lstF, safe_scr, safe_tup, safe_f, true_and, and_true, Option.some.injEq, exists_eq_left', exists_eq_left, decide_true, decide_false, Bool.false_eq_true, Bool.true_eq_false, reduceIte, Nat.zero_add, fz_lst, fz_dct, fz_ins, fz_sc, fz_lstF, fz_scr, Nat.zero_le, Nat.reduceLeDiff, Nat.reduceAdd, Nat.reduceLT, Int.reduceLT, Int.reduceLE, and_self, frz_lst, frz_dct, frz_dctF, frzL_ints, frzL_strs, frz_lstF, frz_scr, frz_tup, frz_sc, frzL_nil, frzL_cons, frzL_str, frzL_int, fzL_nil, fzL_cons, fzL_str, fzL_int, noC_sc, noC_lst, noC_tup, noC_dct, noCL_nil, noCL_cons, noCL_str, noCL_str2, noCL_int, Bool.and_self, Bool.and_true, Bool.true_and, List.append_nil, true_or, or_true, flat_str, flat_int, any_str, o_isiT, o_isiL, o_isiS, o_isiI, atI_0, atI_1, atI_2, atI_3, eqv_lst, eqv_tup, eqvL_nil, eqvL_cons, eqvL_str, eqv_str, eqS_int, ixN20, ixN21, fz_tup, Bool.false_and, Bool.and_false, o_posT, Int.cast_ofNat_Int, eq_self]
    simp only [e1, e2, a1, a2, pad, dNext, dSeq, dAsg, dFor, dEnum, dIt, dWhile, dIfS, dMS, dMA, dMN, dSub, dSfl, dRet, dRetV, dRetN, dRetT, dDrop, dBreak, dCont, dFz, fzS, dConsV, dCons, dNil, bCons, bNil, dVar, dC, dBin, dIx, dNeg, dCB, dMV, dTst, dAndT, dOrT, dNotT, dAnd, dOr, dNot, dIf, dLst, dLC, dLc, lcD, dYes, wipeD, dTup, dDct0, dLRev, dIsi, dSl, oNo, oSm, dCall, dCallL, gN, gTu, gsCons, gsNil, dRg1, dRg2, dRev, dZip, pVar, pIx, atP, getP, setP, unsetL, List.map_cons, List.map_nil, List.replicate_succ, List.replicate_zero, List.cons_append, List.nil_append, List.set_cons_zero, List.set_cons_succ, List.getElem?_cons_zero, List.getElem?_cons_succ, List.length_cons, List.length_nil, o_lt, o_ltS, o_gt, o_le, o_ge, o_add, o_addS, o_addL, o_addT, o_sub, o_mul, o_fdiv, o_mod, o_pow, o_eq, o_eqN, o_ne, o_neN, o_isB, o_isI, o_len, o_lenC, o_lenT, o_lenD, o_lenS, o_ix, o_ixC, o_ixT, o_ixS, o_ixDs, o_ixDi, o_put, o_inD, o_inDi, o_inL, o_inT, o_inS, o_idx, o_list, o_listC, o_listT, o_listD, o_tuple, o_tupleT, o_intI, o_intB, o_ord, o_str, o_max, o_min, o_isNo, o_tyL, o_tyT, o_tyD, o_tyS, o_tyI, o_sl, o_slC, o_slS, o_slT, cutG_map, o_lsD, o_lsC, o_it, o_itC, o_itT, o_itS, o_app, o_ext, o_ins, o_pop, o_rev, o_clr, o_pos, o_posS, Option.bind_some, Option.map_some, List.length_map, if_true, Bool.not_false, Bool.not_true, Bool.false_bne, Bool.true_bne,  safe_sc, safe_lstF, safe_scr, safe_tup, safe_f, true_and, and_true, Option.some.injEq, exists_eq_left', exists_eq_left, decide_true, decide_false, Bool.false_eq_true, Bool.true_eq_false, reduceIte, Nat.zero_add, fz_lst, fz_dct, fz_ins, fz_sc, fz_lstF, fz_scr, Nat.zero_le, Nat.reduceLeDiff, Nat.reduceAdd, Nat.reduceLT, Int.reduceLT, Int.reduceLE, and_self, frz_lst, frz_dct, frz_dctF, frzL_ints, frzL_strs, frz_lstF, frz_scr, frz_tup, frz_sc, frzL_nil, frzL_cons, frzL_str, frzL_int, fzL_nil, fzL_cons, fzL_str, fzL_int, noC_sc, noC_lst, noC_tup, noC_dct, noCL_nil, noCL_cons, noCL_str, noCL_str2, noCL_int, Bool.and_self, Bool.and_true, Bool.true_and, List.append_nil, true_or, or_true, flat_str, flat_int, any_str, o_isiT, o_isiL, o_isiS, o_isiI, atI_0, atI_1, atI_2, atI_3, eqv_lst, eqv_tup, eqvL_nil, eqvL_cons, eqvL_str, eqv_str, eqS_int, ixN20, ixN21, fz_tup, Bool.false_and, Bool.and_false, o_posT, Int.cast_ofNat_Int, eq_self, l1, l2, hn]
    exact fall_loop Dd c0 c1 c5 hs ho hf hD r _ fun x hx => hk x (List.mem_cons_of_mem _ hx)
theorem lc_place {one : List Txt} (E0 : Sl) (Q : List D → Prop) {ps : D} (hE : E0[1]? = some (some ps)) (h5 : 5 < E0.length) {o : Bool} (hp : ps = .nd (.dct o (one.map Sum.inr)) (one.map fun t => D.int ((one.idxOf t : Nat) : Int))) :
    ∀ (l : List Txt) (acc : List D), (∀ t ∈ l, t ∈ one) → acc.length + l.length ≤ 1000 → Q (acc ++ l.map fun t => D.int ((one.idxOf t : Nat) : Int)) → lcD (gN 5) dYes (dIx (dVar 1) (dVar 5)) E0 Q (l.map D.str) acc
  | [], acc, _, _, q => by rw [List.map_nil, List.append_nil] at q; exact q
  | t :: r, acc, hm, hl, q => by
    have h1 := lkp_map @inr_inj (g := fun t => D.int ((one.idxOf t : Nat) : Int)) one t (hm t List.mem_cons_self)
    have e1 : (E0.set 5 (some (D.str t)))[1]? = some (some ps) := by rw [List.getElem?_set_ne (by decide)]; exact hE
    have e5 : (E0.set 5 (some (D.str t)))[5]? = some (some (D.str t)) := List.getElem?_set_self h5
    have hacc : acc.length < 1000000 := by rw [List.length_cons] at hl; omega
    subst hp
    simp only [List.map_cons, lcD, gN, dYes, dIx, dVar, e1, e5, if_true, o_ixDs, h1, Option.some.injEq, exists_eq_left', List.length_set, true_and]
    exact ⟨safe_sc, hacc, lc_place E0 Q hE h5 rfl r _ (fun x hx => hm x (List.mem_cons_of_mem _ hx)) (by simp at hl ⊢; omega) (by simpa using q)⟩
theorem falling_d {one other g : List Txt} {Q : D → Sl → Prop} {E : EX → Sl → Prop} (nd : one.Nodup) (ho : ∀ t ∈ other, t ∈ one) (h1 : ∀ t ∈ one, t ∈ other) (hg : g.Sublist one) (hf : g.Pairwise fun a b => other.idxOf b < other.idxOf a) (hl : one.length ≤ 1000) (q : ∀ env, Q (.bl true) env) :
    sp__law_falling [.nd (.lst false) (g.map D.str), .nd (.dct false (one.map Sum.inr)) (one.map fun t => D.int ((one.idxOf t : Nat) : Int)), seD one other false] Q E := by
  rw [e_sp__law_falling, e_b__law_falling]
  have hgl : g.length ≤ 1000 := Nat.le_trans hg.length_le hl
  have hgm : ∀ t ∈ g, t ∈ one := fun t ht => hg.subset ht
  simp only [pad, dNext, dSeq, dAsg, dFor, dEnum, dIt, dWhile, dIfS, dMS, dMA, dMN, dSub, dSfl, dRet, dRetV, dRetN, dRetT, dDrop, dBreak, dCont, dFz, fzS, dConsV, dCons, dNil, bCons, bNil, dVar, dC, dBin, dIx, dNeg, dCB, dMV, dTst, dAndT, dOrT, dNotT, dAnd, dOr, dNot, dIf, dLst, dLC, dLc, lcD, dYes, wipeD, dTup, dDct0, dLRev, dIsi, dSl, oNo, oSm, dCall, dCallL, gN, gTu, gsCons, gsNil, dRg1, dRg2, dRev, dZip, pVar, pIx, atP, getP, setP, unsetL, List.map_cons, List.map_nil, List.replicate_succ, List.replicate_zero, List.cons_append, List.nil_append, List.set_cons_zero, List.set_cons_succ, List.getElem?_cons_zero, List.getElem?_cons_succ, List.length_cons, List.length_nil, o_lt, o_ltS, o_gt, o_le, o_ge, o_add, o_addS, o_addL, o_addT, o_sub, o_mul, o_fdiv, o_mod, o_pow, o_eq, o_eqN, o_ne, o_neN, o_isB, o_isI, o_len, o_lenC, o_lenT, o_lenD, o_lenS, o_ix, o_ixC, o_ixT, o_ixS, o_ixDs, o_ixDi, o_put, o_inD, o_inDi, o_inL, o_inT, o_inS, o_idx, o_list, o_listC, o_listT, o_listD, o_tuple, o_tupleT, o_intI, o_intB, o_ord, o_str, o_max, o_min, o_isNo, o_tyL, o_tyT, o_tyD, o_tyS, o_tyI, o_sl, o_slC, o_slS, o_slT, cutG_map, o_lsD, o_lsC, o_it, o_itC, o_itT, o_itS, o_app, o_ext, o_ins, o_pop, o_rev, o_clr, o_pos, o_posS, Option.bind_some, Option.map_some, List.length_map, if_true, Bool.not_false, Bool.not_true, Bool.false_bne, Bool.true_bne,  safe_sc, safe_lstF, safe_scr, safe_tup, safe_f, true_and, and_true, Option.some.injEq, exists_eq_left', exists_eq_left, decide_true, decide_false, Bool.false_eq_true, Bool.true_eq_false, reduceIte, Nat.zero_add, fz_lst, fz_dct, fz_ins, fz_sc, fz_lstF, fz_scr, Nat.zero_le, Nat.reduceLeDiff, Nat.reduceAdd, Nat.reduceLT, Int.reduceLT, Int.reduceLE, and_self, frz_lst, frz_dct, frz_dctF, frzL_ints, frzL_strs, frz_lstF, frz_scr, frz_tup, frz_sc, frzL_nil, frzL_cons, frzL_str, frzL_int, fzL_nil, fzL_cons, fzL_str, fzL_int, noC_sc, noC_lst, noC_tup, noC_dct, noCL_nil, noCL_cons, noCL_str, noCL_str2, noCL_int, Bool.and_self, Bool.and_true, Bool.true_and, List.append_nil, true_or, or_true, flat_str, flat_int, any_str, o_isiT, o_isiL, o_isiS, o_isiI, atI_0, atI_1, atI_2, atI_3, eqv_lst, eqv_tup, eqvL_nil, eqvL_cons, eqvL_str, eqv_str, eqS_int, ixN20, ixN21, fz_tup, Bool.false_and, Bool.and_false, o_posT, Int.cast_ofNat_Int, eq_self]
  refine lc_place (o := false) _ _ rfl (by simp) rfl g [] hgm (by simpa using hgl) ?_
  rw [List.nil_append]
  have hi : intsOf (g.map fun t => D.int ((one.idxOf t : Nat) : Int)) = some (g.map fun t => ((one.idxOf t : Nat) : Int)) := by
    have := intsOf_map (g.map fun t => ((one.idxOf t : Nat) : Int))
    rwa [List.map_map] at this
  show sortedD [.nd (.lst true) _] _
  refine ⟨_, hi, fun ns' pm hs => ?_⟩
  have e := sorted_eq pm hs (idx_rise nd hg)
  subst e
  rw [List.map_map]
  have b1 : -(2 ^ 62) ≤ (1 : Int) ∧ (1 : Int) < 2 ^ 62 ∧ -(2 ^ 62) ≤ ((g.length : Nat) : Int) ∧ ((g.length : Nat) : Int) < 2 ^ 62 := by omega
  simp only [pad, dNext, dSeq, dAsg, dFor, dEnum, dIt, dWhile, dIfS, dMS, dMA, dMN, dSub, dSfl, dRet, dRetV, dRetN, dRetT, dDrop, dBreak, dCont, dFz, fzS, dConsV, dCons, dNil, bCons, bNil, dVar, dC, dBin, dIx, dNeg, dCB, dMV, dTst, dAndT, dOrT, dNotT, dAnd, dOr, dNot, dIf, dLst, dLC, dLc, lcD, dYes, wipeD, dTup, dDct0, dLRev, dIsi, dSl, oNo, oSm, dCall, dCallL, gN, gTu, gsCons, gsNil, dRg1, dRg2, dRev, dZip, pVar, pIx, atP, getP, setP, unsetL, List.map_cons, List.map_nil, List.replicate_succ, List.replicate_zero, List.cons_append, List.nil_append, List.set_cons_zero, List.set_cons_succ, List.getElem?_cons_zero, List.getElem?_cons_succ, List.length_cons, List.length_nil, o_lt, o_ltS, o_gt, o_le, o_ge, o_add, o_addS, o_addL, o_addT, o_sub, o_mul, o_fdiv, o_mod, o_pow, o_eq, o_eqN, o_ne, o_neN, o_isB, o_isI, o_len, o_lenC, o_lenT, o_lenD, o_lenS, o_ix, o_ixC, o_ixT, o_ixS, o_ixDs, o_ixDi, o_put, o_inD, o_inDi, o_inL, o_inT, o_inS, o_idx, o_list, o_listC, o_listT, o_listD, o_tuple, o_tupleT, o_intI, o_intB, o_ord, o_str, o_max, o_min, o_isNo, o_tyL, o_tyT, o_tyD, o_tyS, o_tyI, o_sl, o_slC, o_slS, o_slT, cutG_map, o_lsD, o_lsC, o_it, o_itC, o_itT, o_itS, o_app, o_ext, o_ins, o_pop, o_rev, o_clr, o_pos, o_posS, Option.bind_some, Option.map_some, List.length_map, if_true, Bool.not_false, Bool.not_true, Bool.false_bne, Bool.true_bne,  safe_sc, safe_lstF, safe_scr, safe_tup, safe_f, true_and, and_true, Option.some.injEq, exists_eq_left', exists_eq_left, decide_true, decide_false, Bool.false_eq_true, Bool.true_eq_false, reduceIte, Nat.zero_add, fz_lst, fz_dct, fz_ins, fz_sc, fz_lstF, fz_scr, Nat.zero_le, Nat.reduceLeDiff, Nat.reduceAdd, Nat.reduceLT, Int.reduceLT, Int.reduceLE, and_self, frz_lst, frz_dct, frz_dctF, frzL_ints, frzL_strs, frz_lstF, frz_scr, frz_tup, frz_sc, frzL_nil, frzL_cons, frzL_str, frzL_int, fzL_nil, fzL_cons, fzL_str, fzL_int, noC_sc, noC_lst, noC_tup, noC_dct, noCL_nil, noCL_cons, noCL_str, noCL_str2, noCL_int, Bool.and_self, Bool.and_true, Bool.true_and, List.append_nil, true_or, or_true, flat_str, flat_int, any_str, o_isiT, o_isiL, o_isiS, o_isiI, atI_0, atI_1, atI_2, atI_3, eqv_lst, eqv_tup, eqvL_nil, eqvL_cons, eqvL_str, eqv_str, eqS_int, ixN20, ixN21, fz_tup, Bool.false_and, Bool.and_false, o_posT, Int.cast_ofNat_Int, eq_self, b1]
  exact fall_loop _ _ _ _ (fun t ht => h1 t (hgm t ht)) ho hf (fun env => by simp only [pad, dNext, dSeq, dAsg, dFor, dEnum, dIt, dWhile, dIfS, dMS, dMA, dMN, dSub, dSfl, dRet, dRetV, dRetN, dRetT, dDrop, dBreak, dCont, dFz, fzS, dConsV, dCons, dNil, bCons, bNil, dVar, dC, dBin, dIx, dNeg, dCB, dMV, dTst, dAndT, dOrT, dNotT, dAnd, dOr, dNot, dIf, dLst, dLC, dLc, lcD, dYes, wipeD, dTup, dDct0, dLRev, dIsi, dSl, oNo, oSm, dCall, dCallL, gN, gTu, gsCons, gsNil, dRg1, dRg2, dRev, dZip, pVar, pIx, atP, getP, setP, unsetL, List.map_cons, List.map_nil, List.replicate_succ, List.replicate_zero, List.cons_append, List.nil_append, List.set_cons_zero, List.set_cons_succ, List.getElem?_cons_zero, List.getElem?_cons_succ, List.length_cons, List.length_nil, o_lt, o_ltS, o_gt, o_le, o_ge, o_add, o_addS, o_addL, o_addT, o_sub, o_mul, o_fdiv, o_mod, o_pow, o_eq, o_eqN, o_ne, o_neN, o_isB, o_isI, o_len, o_lenC, o_lenT, o_lenD, o_lenS, o_ix, o_ixC, o_ixT, o_ixS, o_ixDs, o_ixDi, o_put, o_inD, o_inDi, o_inL, o_inT, o_inS, o_idx, o_list, o_listC, o_listT, o_listD, o_tuple, o_tupleT, o_intI, o_intB, o_ord, o_str, o_max, o_min, o_isNo, o_tyL, o_tyT, o_tyD, o_tyS, o_tyI, o_sl, o_slC, o_slS, o_slT, cutG_map, o_lsD, o_lsC, o_it, o_itC, o_itT, o_itS, o_app, o_ext, o_ins, o_pop, o_rev, o_clr, o_pos, o_posS, Option.bind_some, Option.map_some, List.length_map, if_true, Bool.not_false, Bool.not_true, Bool.false_bne, Bool.true_bne,  safe_sc, safe_lstF, safe_scr, safe_tup, safe_f, true_and, and_true, Option.some.injEq, exists_eq_left', exists_eq_left, decide_true, decide_false, Bool.false_eq_true, Bool.true_eq_false, reduceIte, Nat.zero_add, fz_lst, fz_dct, fz_ins, fz_sc, fz_lstF, fz_scr, Nat.zero_le, Nat.reduceLeDiff, Nat.reduceAdd, Nat.reduceLT, Int.reduceLT, Int.reduceLE, and_self, frz_lst, frz_dct, frz_dctF, frzL_ints, frzL_strs, frz_lstF, frz_scr, frz_tup, frz_sc, frzL_nil, frzL_cons, frzL_str, frzL_int, fzL_nil, fzL_cons, fzL_str, fzL_int, noC_sc, noC_lst, noC_tup, noC_dct, noCL_nil, noCL_cons, noCL_str, noCL_str2, noCL_int, Bool.and_self, Bool.and_true, Bool.true_and, List.append_nil, true_or, or_true, flat_str, flat_int, any_str, o_isiT, o_isiL, o_isiS, o_isiI, atI_0, atI_1, atI_2, atI_3, eqv_lst, eqv_tup, eqvL_nil, eqvL_cons, eqvL_str, eqv_str, eqS_int, ixN20, ixN21, fz_tup, Bool.false_and, Bool.and_false, o_posT, Int.cast_ofNat_Int, eq_self]; exact q _) _ _ fun k hk => by have := List.mem_range.mp hk; omega
theorem idx_mid : ∀ {done r : List Txt} {t : Txt}, (done ++ t :: r).Nodup → (done ++ t :: r).idxOf t = done.length
  | [], r, t, _ => by simp
  | a :: d, r, t, nd => by
    obtain ⟨n1, n2⟩ := List.nodup_cons.mp nd
    rw [List.cons_append, List.idxOf_cons]
    have e : (a == t) = false := by simp; intro e; exact n1 (by rw [e]; simp)
    rw [e, idx_mid n2]; rfl
theorem place82 (Dd : ED) (c0 c1 c2 c4 c6 c7 c9 c10 : Option D) {one : List Txt} (nd : one.Nodup) (hl : one.length ≤ 1000) : ∀ (r done : List Txt) (k5 : Option D), one = done ++ r →
    (∀ k5, Dd.nx [c0, c1, c2, some (plD one), c4, k5, c6, c7, some (gDl one), c9, c10]) →
    forD (gN 5) lb_law_3 Dd ((List.range' done.length r.length).map fun k => D.int ((k : Nat) : Int)) [c0, c1, c2, some (.nd (.dct true (done.map Sum.inr)) (done.map fun t => D.int ((one.idxOf t : Nat) : Int))), c4, k5, c6, c7, some (gDl one), c9, c10]
  | [], done, k5, e, q => by
    rw [List.append_nil] at e
    subst e
    exact q k5
  | t :: r, done, k5, e, q => by
    have nd' := nd
    rw [e] at nd'
    have ht : t ∉ done := fun z => (List.nodup_append.mp nd').2.2 t z t List.mem_cons_self rfl
    have hp : posOf (done.map Sum.inr) (Sum.inr t : DK) = none := by rw [posOf_map @inr_inj, if_neg ht]
    have hi : one.idxOf t = done.length := by rw [e]; exact idx_mid nd'
    have a1 : atI (one.map D.str) ((done.length : Nat) : Int) = some (.str t) := atI_nat (by rw [e]; simp)
    have hd : done.length < 1000000 := by rw [e, List.length_append] at hl; omega
    have ih := place82 Dd c0 c1 c2 c4 c6 c7 c9 c10 nd hl r (done ++ [t]) (some (.int ((done.length : Nat) : Int))) (by rw [e]; simp) q
    rw [List.map_append, List.map_append, List.length_append, List.length_singleton] at ih
    rw [List.length_cons, List.range'_succ]
    simp only [List.map_cons, forD, e_lb_law_3, pad, dNext, dSeq, dAsg, dFor, dEnum, dIt, dWhile, dIfS, dMS, dMA, dMN, dSub, dSfl, dRet, dRetV, dRetN, dRetT, dDrop, dBreak, dCont, dFz, fzS, dConsV, dCons, dNil, bCons, bNil, dVar, dC, dBin, dIx, dNeg, dCB, dMV, dTst, dAndT, dOrT, dNotT, dAnd, dOr, dNot, dIf, dLst, dLC, dLc, lcD, dYes, wipeD, dTup, dDct0, dLRev, dIsi, dSl, oNo, oSm, dCall, dCallL, gN, gTu, gsCons, gsNil, dRg1, dRg2, dRev, dZip, pVar, pIx, atP, getP, setP, unsetL, List.map_cons, List.map_nil, List.replicate_succ, List.replicate_zero, List.cons_append, List.nil_append, List.set_cons_zero, List.set_cons_succ, List.getElem?_cons_zero, List.getElem?_cons_succ, List.length_cons, List.length_nil, o_lt, o_ltS, o_gt, o_le, o_ge, o_add, o_addS, o_addL, o_addT, o_sub, o_mul, o_fdiv, o_mod, o_pow, o_eq, o_eqN, o_ne, o_neN, o_isB, o_isI, o_len, o_lenC, o_lenT, o_lenD, o_lenS, o_ix, o_ixC, o_ixT, o_ixS, o_ixDs, o_ixDi, o_put, o_inD, o_inDi, o_inL, o_inT, o_inS, o_idx, o_list, o_listC, o_listT, o_listD, o_tuple, o_tupleT, o_intI, o_intB, o_ord, o_str, o_max, o_min, o_isNo, o_tyL, o_tyT, o_tyD, o_tyS, o_tyI, o_sl, o_slC, o_slS, o_slT, cutG_map, o_lsD, o_lsC, o_it, o_itC, o_itT, o_itS, o_app, o_ext, o_ins, o_pop, o_rev, o_clr, o_pos, o_posS, Option.bind_some, Option.map_some, List.length_map, if_true, Bool.not_false, Bool.not_true, Bool.false_bne, Bool.true_bne,  safe_sc, safe_lstF, safe_scr, safe_tup, safe_f, true_and, and_true, Option.some.injEq, exists_eq_left', exists_eq_left, decide_true, decide_false, Bool.false_eq_true, Bool.true_eq_false, reduceIte, Nat.zero_add, fz_lst, fz_dct, fz_ins, fz_sc, fz_lstF, fz_scr, Nat.zero_le, Nat.reduceLeDiff, Nat.reduceAdd, Nat.reduceLT, Int.reduceLT, Int.reduceLE, and_self, frz_lst, frz_dct, frz_dctF, frzL_ints, frzL_strs, frz_lstF, frz_scr, frz_tup, frz_sc, frzL_nil, frzL_cons, frzL_str, frzL_int, fzL_nil, fzL_cons, fzL_str, fzL_int, noC_sc, noC_lst, noC_tup, noC_dct, noCL_nil, noCL_cons, noCL_str, noCL_str2, noCL_int, Bool.and_self, Bool.and_true, Bool.true_and, List.append_nil, true_or, or_true, flat_str, flat_int, any_str, o_isiT, o_isiL, o_isiS, o_isiI, atI_0, atI_1, atI_2, atI_3, eqv_lst, eqv_tup, eqvL_nil, eqvL_cons, eqvL_str, eqv_str, eqS_int, ixN20, ixN21, fz_tup, Bool.false_and, Bool.and_false, o_posT, Int.cast_ofNat_Int, eq_self, a1, o_putNs hp, hd]
    simp only [List.map_cons, List.map_nil] at ih
    rw [hi] at ih
    exact ih
theorem second82 (Dd : ED) (c0 c1 c2 c6 c7 c8 c10 : Option D) {one other : List Txt} (nd1 : one.Nodup) (nd : other.Nodup) (hm : ∀ t ∈ other, t ∈ one) (hl : other.length ≤ 1000) : ∀ (r done : List Txt) (k5 : Option D), other = done ++ r →
    (∀ k5, Dd.nx [c0, c1, c2, some (plD one), some (seD one other true), k5, c6, c7, c8, some (gDl other), c10]) →
    forD (gN 5) lb_law_2 Dd ((List.range' done.length r.length).map fun k => D.int ((k : Nat) : Int)) [c0, c1, c2, some (plD one), some (.nd (.dct true (done.map fun t => Sum.inl ((one.idxOf t : Nat) : Int))) (done.map fun t => D.int ((other.idxOf t : Nat) : Int))), k5, c6, c7, c8, some (gDl other), c10]
  | [], done, k5, e, q => by
    rw [List.append_nil] at e
    subst e
    exact q k5
  | t :: r, done, k5, e, q => by
    have nd' := nd
    rw [e] at nd'
    have ht : t ∉ done := fun z => (List.nodup_append.mp nd').2.2 t z t List.mem_cons_self rfl
    have hto : t ∈ one := hm t (by rw [e]; simp)
    have hp : posOf (done.map fun t => Sum.inl ((one.idxOf t : Nat) : Int)) (Sum.inl ((one.idxOf t : Nat) : Int) : DK) = none := posOf_none.mpr fun z => by
      obtain ⟨x, hx, ex⟩ := List.mem_map.mp z
      have : x = t := idx_inj (hm x (by rw [e]; exact List.mem_append_left _ hx)) hto (by have := Sum.inl.inj ex; omega)
      exact ht (this ▸ hx)
    have hi : other.idxOf t = done.length := by rw [e]; exact idx_mid nd'
    have a1 : atI (other.map D.str) ((done.length : Nat) : Int) = some (.str t) := atI_nat (by rw [e]; simp)
    have a2 := lkp_map @inr_inj (g := fun t => D.int ((one.idxOf t : Nat) : Int)) one t hto
    have hd : done.length < 1000000 := by rw [e, List.length_append] at hl; omega
    have ih := second82 Dd c0 c1 c2 c6 c7 c8 c10 nd1 nd hm hl r (done ++ [t]) (some (.int ((done.length : Nat) : Int))) (by rw [e]; simp) q
    rw [List.map_append, List.map_append, List.length_append, List.length_singleton] at ih
    rw [List.length_cons, List.range'_succ]
    simp only [List.map_cons, forD, e_lb_law_2, pad, dNext, dSeq, dAsg, dFor, dEnum, dIt, dWhile, dIfS, dMS, dMA, dMN, dSub, dSfl, dRet, dRetV, dRetN, dRetT, dDrop, dBreak, dCont, dFz, fzS, dConsV, dCons, dNil, bCons, bNil, dVar, dC, dBin, dIx, dNeg, dCB, dMV, dTst, dAndT, dOrT, dNotT, dAnd, dOr, dNot, dIf, dLst, dLC, dLc, lcD, dYes, wipeD, dTup, dDct0, dLRev, dIsi, dSl, oNo, oSm, dCall, dCallL, gN, gTu, gsCons, gsNil, dRg1, dRg2, dRev, dZip, pVar, pIx, atP, getP, setP, unsetL, List.map_cons, List.map_nil, List.replicate_succ, List.replicate_zero, List.cons_append, List.nil_append, List.set_cons_zero, List.set_cons_succ, List.getElem?_cons_zero, List.getElem?_cons_succ, List.length_cons, List.length_nil, o_lt, o_ltS, o_gt, o_le, o_ge, o_add, o_addS, o_addL, o_addT, o_sub, o_mul, o_fdiv, o_mod, o_pow, o_eq, o_eqN, o_ne, o_neN, o_isB, o_isI, o_len, o_lenC, o_lenT, o_lenD, o_lenS, o_ix, o_ixC, o_ixT, o_ixS, o_ixDs, o_ixDi, o_put, o_inD, o_inDi, o_inL, o_inT, o_inS, o_idx, o_list, o_listC, o_listT, o_listD, o_tuple, o_tupleT, o_intI, o_intB, o_ord, o_str, o_max, o_min, o_isNo, o_tyL, o_tyT, o_tyD, o_tyS, o_tyI, o_sl, o_slC, o_slS, o_slT, cutG_map, o_lsD, o_lsC, o_it, o_itC, o_itT, o_itS, o_app, o_ext, o_ins, o_pop, o_rev, o_clr, o_pos, o_posS, Option.bind_some, Option.map_some, List.length_map, if_true, Bool.not_false, Bool.not_true, Bool.false_bne, Bool.true_bne,  safe_sc, safe_lstF, safe_scr, safe_tup, safe_f, true_and, and_true, Option.some.injEq, exists_eq_left', exists_eq_left, decide_true, decide_false, Bool.false_eq_true, Bool.true_eq_false, reduceIte, Nat.zero_add, fz_lst, fz_dct, fz_ins, fz_sc, fz_lstF, fz_scr, Nat.zero_le, Nat.reduceLeDiff, Nat.reduceAdd, Nat.reduceLT, Int.reduceLT, Int.reduceLE, and_self, frz_lst, frz_dct, frz_dctF, frzL_ints, frzL_strs, frz_lstF, frz_scr, frz_tup, frz_sc, frzL_nil, frzL_cons, frzL_str, frzL_int, fzL_nil, fzL_cons, fzL_str, fzL_int, noC_sc, noC_lst, noC_tup, noC_dct, noCL_nil, noCL_cons, noCL_str, noCL_str2, noCL_int, Bool.and_self, Bool.and_true, Bool.true_and, List.append_nil, true_or, or_true, flat_str, flat_int, any_str, o_isiT, o_isiL, o_isiS, o_isiI, atI_0, atI_1, atI_2, atI_3, eqv_lst, eqv_tup, eqvL_nil, eqvL_cons, eqvL_str, eqv_str, eqS_int, ixN20, ixN21, fz_tup, Bool.false_and, Bool.and_false, o_posT, Int.cast_ofNat_Int, eq_self, a1, a2, o_putNi hp, hd]
    simp only [List.map_cons, List.map_nil] at ih
    rw [hi] at ih
    exact ih
abbrev gF (g : List Txt) : D := .nd (.lst false) (g.map D.str)
theorem things82 (Dd : ED) (c0 c1 c2 c4 c5 c7 c8 c9 : Option D) {one : List Txt} (hl : one.length ≤ 1000) : ∀ (g met : List Txt) (c10 : Option D), (met ++ g).Nodup → (∀ t ∈ g, t ∈ one) → (met ++ g).length ≤ 1000 →
    (∀ c10, Dd.nx [c0, c1, c2, some (plD one), c4, c5, some (gDl (met ++ g)), c7, c8, c9, c10]) →
    forD (gN 10) lb_law_0 Dd (g.map D.str) [c0, c1, c2, some (plD one), c4, c5, some (gDl met), c7, c8, c9, c10]
  | [], met, c10, nd, hm, hlen, q => by
    have := q c10
    rw [List.append_nil] at this
    exact this
  | t :: r, met, c10, nd, hm, hlen, q => by
    have ht : t ∉ met := fun z => (List.nodup_append.mp nd).2.2 t z t List.mem_cons_self rfl
    have h1 : (true ^^ hasK (one.map Sum.inr) (Sum.inr t : DK)) = false := by
      have : hasK (one.map Sum.inr) (Sum.inr t : DK) = true := hasK_iff.mpr (List.mem_map.mpr ⟨t, hm t List.mem_cons_self, rfl⟩)
      rw [this]; rfl
    have h2 : (false ^^ decide (t ∈ met)) = false := by rw [decide_eq_false ht]; rfl
    have h3 : met.length < 1000000 := by rw [List.length_append] at hlen; omega
    have h4 : met.map D.str ++ [D.str t] = (met ++ [t]).map D.str := by simp
    simp only [List.map_cons, forD, e_lb_law_0, pad, dNext, dSeq, dAsg, dFor, dEnum, dIt, dWhile, dIfS, dMS, dMA, dMN, dSub, dSfl, dRet, dRetV, dRetN, dRetT, dDrop, dBreak, dCont, dFz, fzS, dConsV, dCons, dNil, bCons, bNil, dVar, dC, dBin, dIx, dNeg, dCB, dMV, dTst, dAndT, dOrT, dNotT, dAnd, dOr, dNot, dIf, dLst, dLC, dLc, lcD, dYes, wipeD, dTup, dDct0, dLRev, dIsi, dSl, oNo, oSm, dCall, dCallL, gN, gTu, gsCons, gsNil, dRg1, dRg2, dRev, dZip, pVar, pIx, atP, getP, setP, unsetL, List.map_cons, List.map_nil, List.replicate_succ, List.replicate_zero, List.cons_append, List.nil_append, List.set_cons_zero, List.set_cons_succ, List.getElem?_cons_zero, List.getElem?_cons_succ, List.length_cons, List.length_nil, o_lt, o_ltS, o_gt, o_le, o_ge, o_add, o_addS, o_addL, o_addT, o_sub, o_mul, o_fdiv, o_mod, o_pow, o_eq, o_eqN, o_ne, o_neN, o_isB, o_isI, o_len, o_lenC, o_lenT, o_lenD, o_lenS, o_ix, o_ixC, o_ixT, o_ixS, o_ixDs, o_ixDi, o_put, o_inD, o_inDi, o_inL, o_inT, o_inS, o_idx, o_list, o_listC, o_listT, o_listD, o_tuple, o_tupleT, o_intI, o_intB, o_ord, o_str, o_max, o_min, o_isNo, o_tyL, o_tyT, o_tyD, o_tyS, o_tyI, o_sl, o_slC, o_slS, o_slT, cutG_map, o_lsD, o_lsC, o_it, o_itC, o_itT, o_itS, o_app, o_ext, o_ins, o_pop, o_rev, o_clr, o_pos, o_posS, Option.bind_some, Option.map_some, List.length_map, if_true, Bool.not_false, Bool.not_true, Bool.false_bne, Bool.true_bne,  safe_sc, safe_lstF, safe_scr, safe_tup, safe_f, true_and, and_true, Option.some.injEq, exists_eq_left', exists_eq_left, decide_true, decide_false, Bool.false_eq_true, Bool.true_eq_false, reduceIte, Nat.zero_add, fz_lst, fz_dct, fz_ins, fz_sc, fz_lstF, fz_scr, Nat.zero_le, Nat.reduceLeDiff, Nat.reduceAdd, Nat.reduceLT, Int.reduceLT, Int.reduceLE, and_self, frz_lst, frz_dct, frz_dctF, frzL_ints, frzL_strs, frz_lstF, frz_scr, frz_tup, frz_sc, frzL_nil, frzL_cons, frzL_str, frzL_int, fzL_nil, fzL_cons, fzL_str, fzL_int, noC_sc, noC_lst, noC_tup, noC_dct, noCL_nil, noCL_cons, noCL_str, noCL_str2, noCL_int, Bool.and_self, Bool.and_true, Bool.true_and, List.append_nil, true_or, or_true, flat_str, flat_int, any_str, o_isiT, o_isiL, o_isiS, o_isiI, atI_0, atI_1, atI_2, atI_3, eqv_lst, eqv_tup, eqvL_nil, eqvL_cons, eqvL_str, eqv_str, eqS_int, ixN20, ixN21, fz_tup, Bool.false_and, Bool.and_false, o_posT, Int.cast_ofNat_Int, eq_self, h1, h2, h3, h4]
    exact things82 Dd c0 c1 c2 c4 c5 c7 c8 c9 hl r (met ++ [t]) _ (by simpa using nd) (fun x hx => hm x (List.mem_cons_of_mem _ hx)) (by simpa using hlen) (by simpa using q)
theorem groups82 (Dd : ED) (c0 c1 c2 c5 c8 c9 : Option D) {one other : List Txt} (nd1 : one.Nodup) (hl : one.length ≤ 1000) (ho : ∀ t ∈ other, t ∈ one) (h1 : ∀ t ∈ one, t ∈ other) (hk : ∀ t ∈ one, okT t) :
    ∀ (G : List (List Txt)) (met : List Txt) (c7 c10 : Option D), (∀ g ∈ G, g ≠ [] ∧ g.Sublist one ∧ g.Pairwise fun a b => other.idxOf b < other.idxOf a) → (met ++ G.flatten).Nodup → (met ++ G.flatten).length ≤ 1000 →
    (∀ c7 c10, Dd.nx [c0, c1, c2, some (plD one), some (seD one other true), c5, some (gDl (met ++ G.flatten)), c7, c8, c9, c10]) →
    forD (gN 7) lb_law_1 Dd (G.map gF) [c0, c1, c2, some (plD one), some (seD one other true), c5, some (gDl met), c7, c8, c9, c10]
  | [], met, c7, c10, hG, nd, hlen, q => by
    have := q c7 c10
    rw [List.flatten_nil, List.append_nil] at this
    exact this
  | g :: r, met, c7, c10, hG, nd, hlen, q => by
    obtain ⟨g1, g2, g3⟩ := hG g List.mem_cons_self
    have ok1 : okE 8 (.nd (.lst false) (g.map D.str)) = true := okE_lst fun x hx => by
      obtain ⟨t, ht, rfl⟩ := List.mem_map.mp hx
      exact okE_str (hk t (g2.subset ht))
    have ok0 : okE 8 (.nd (.lst true) []) = true := okE_lst fun _ z => by cases z
    have e1 : eqvL (g.map D.str) [] = false := by
      cases g with
      | nil => exact absurd rfl g1
      | cons a b => simp [eqvL]
    rw [List.flatten_cons, ← List.append_assoc] at nd hlen
    simp only [List.map_cons, forD, e_lb_law_1, pad, dNext, dSeq, dAsg, dFor, dEnum, dIt, dWhile, dIfS, dMS, dMA, dMN, dSub, dSfl, dRet, dRetV, dRetN, dRetT, dDrop, dBreak, dCont, dFz, fzS, dConsV, dCons, dNil, bCons, bNil, dVar, dC, dBin, dIx, dNeg, dCB, dMV, dTst, dAndT, dOrT, dNotT, dAnd, dOr, dNot, dIf, dLst, dLC, dLc, lcD, dYes, wipeD, dTup, dDct0, dLRev, dIsi, dSl, oNo, oSm, dCall, dCallL, gN, gTu, gsCons, gsNil, dRg1, dRg2, dRev, dZip, pVar, pIx, atP, getP, setP, unsetL, List.map_cons, List.map_nil, List.replicate_succ, List.replicate_zero, List.cons_append, List.nil_append, List.set_cons_zero, List.set_cons_succ, List.getElem?_cons_zero, List.getElem?_cons_succ, List.length_cons, List.length_nil, o_lt, o_ltS, o_gt, o_le, o_ge, o_add, o_addS, o_addL, o_addT, o_sub, o_mul, o_fdiv, o_mod, o_pow, o_eq, o_eqN, o_ne, o_neN, o_isB, o_isI, o_len, o_lenC, o_lenT, o_lenD, o_lenS, o_ix, o_ixC, o_ixT, o_ixS, o_ixDs, o_ixDi, o_put, o_inD, o_inDi, o_inL, o_inT, o_inS, o_idx, o_list, o_listC, o_listT, o_listD, o_tuple, o_tupleT, o_intI, o_intB, o_ord, o_str, o_max, o_min, o_isNo, o_tyL, o_tyT, o_tyD, o_tyS, o_tyI, o_sl, o_slC, o_slS, o_slT, cutG_map, o_lsD, o_lsC, o_it, o_itC, o_itT, o_itS, o_app, o_ext, o_ins, o_pop, o_rev, o_clr, o_pos, o_posS, Option.bind_some, Option.map_some, List.length_map, if_true, Bool.not_false, Bool.not_true, Bool.false_bne, Bool.true_bne,  safe_sc, safe_lstF, safe_scr, safe_tup, safe_f, true_and, and_true, Option.some.injEq, exists_eq_left', exists_eq_left, decide_true, decide_false, Bool.false_eq_true, Bool.true_eq_false, reduceIte, Nat.zero_add, fz_lst, fz_dct, fz_ins, fz_sc, fz_lstF, fz_scr, Nat.zero_le, Nat.reduceLeDiff, Nat.reduceAdd, Nat.reduceLT, Int.reduceLT, Int.reduceLE, and_self, frz_lst, frz_dct, frz_dctF, frzL_ints, frzL_strs, frz_lstF, frz_scr, frz_tup, frz_sc, frzL_nil, frzL_cons, frzL_str, frzL_int, fzL_nil, fzL_cons, fzL_str, fzL_int, noC_sc, noC_lst, noC_tup, noC_dct, noCL_nil, noCL_cons, noCL_str, noCL_str2, noCL_int, Bool.and_self, Bool.and_true, Bool.true_and, List.append_nil, true_or, or_true, flat_str, flat_int, any_str, o_isiT, o_isiL, o_isiS, o_isiI, atI_0, atI_1, atI_2, atI_3, eqv_lst, eqv_tup, eqvL_nil, eqvL_cons, eqvL_str, eqv_str, eqS_int, ixN20, ixN21, fz_tup, Bool.false_and, Bool.and_false, o_posT, Int.cast_ofNat_Int, eq_self, ok1, ok0, e1]
    refine things82 _ _ _ _ _ _ _ _ _ hl g met c10 (List.nodup_append.mp nd).1 (fun t ht => g2.subset ht) (by rw [List.length_append] at hlen; omega) fun c10 => ?_
    simp only [pad, dNext, dSeq, dAsg, dFor, dEnum, dIt, dWhile, dIfS, dMS, dMA, dMN, dSub, dSfl, dRet, dRetV, dRetN, dRetT, dDrop, dBreak, dCont, dFz, fzS, dConsV, dCons, dNil, bCons, bNil, dVar, dC, dBin, dIx, dNeg, dCB, dMV, dTst, dAndT, dOrT, dNotT, dAnd, dOr, dNot, dIf, dLst, dLC, dLc, lcD, dYes, wipeD, dTup, dDct0, dLRev, dIsi, dSl, oNo, oSm, dCall, dCallL, gN, gTu, gsCons, gsNil, dRg1, dRg2, dRev, dZip, pVar, pIx, atP, getP, setP, unsetL, List.map_cons, List.map_nil, List.replicate_succ, List.replicate_zero, List.cons_append, List.nil_append, List.set_cons_zero, List.set_cons_succ, List.getElem?_cons_zero, List.getElem?_cons_succ, List.length_cons, List.length_nil, o_lt, o_ltS, o_gt, o_le, o_ge, o_add, o_addS, o_addL, o_addT, o_sub, o_mul, o_fdiv, o_mod, o_pow, o_eq, o_eqN, o_ne, o_neN, o_isB, o_isI, o_len, o_lenC, o_lenT, o_lenD, o_lenS, o_ix, o_ixC, o_ixT, o_ixS, o_ixDs, o_ixDi, o_put, o_inD, o_inDi, o_inL, o_inT, o_inS, o_idx, o_list, o_listC, o_listT, o_listD, o_tuple, o_tupleT, o_intI, o_intB, o_ord, o_str, o_max, o_min, o_isNo, o_tyL, o_tyT, o_tyD, o_tyS, o_tyI, o_sl, o_slC, o_slS, o_slT, cutG_map, o_lsD, o_lsC, o_it, o_itC, o_itT, o_itS, o_app, o_ext, o_ins, o_pop, o_rev, o_clr, o_pos, o_posS, Option.bind_some, Option.map_some, List.length_map, if_true, Bool.not_false, Bool.not_true, Bool.false_bne, Bool.true_bne,  safe_sc, safe_lstF, safe_scr, safe_tup, safe_f, true_and, and_true, Option.some.injEq, exists_eq_left', exists_eq_left, decide_true, decide_false, Bool.false_eq_true, Bool.true_eq_false, reduceIte, Nat.zero_add, fz_lst, fz_dct, fz_ins, fz_sc, fz_lstF, fz_scr, Nat.zero_le, Nat.reduceLeDiff, Nat.reduceAdd, Nat.reduceLT, Int.reduceLT, Int.reduceLE, and_self, frz_lst, frz_dct, frz_dctF, frzL_ints, frzL_strs, frz_lstF, frz_scr, frz_tup, frz_sc, frzL_nil, frzL_cons, frzL_str, frzL_int, fzL_nil, fzL_cons, fzL_str, fzL_int, noC_sc, noC_lst, noC_tup, noC_dct, noCL_nil, noCL_cons, noCL_str, noCL_str2, noCL_int, Bool.and_self, Bool.and_true, Bool.true_and, List.append_nil, true_or, or_true, flat_str, flat_int, any_str, o_isiT, o_isiL, o_isiS, o_isiI, atI_0, atI_1, atI_2, atI_3, eqv_lst, eqv_tup, eqvL_nil, eqvL_cons, eqvL_str, eqv_str, eqS_int, ixN20, ixN21, fz_tup, Bool.false_and, Bool.and_false, o_posT, Int.cast_ofNat_Int, eq_self]
    refine falling_d nd1 ho h1 g2 g3 hl fun env => ?_
    simp only [pad, dNext, dSeq, dAsg, dFor, dEnum, dIt, dWhile, dIfS, dMS, dMA, dMN, dSub, dSfl, dRet, dRetV, dRetN, dRetT, dDrop, dBreak, dCont, dFz, fzS, dConsV, dCons, dNil, bCons, bNil, dVar, dC, dBin, dIx, dNeg, dCB, dMV, dTst, dAndT, dOrT, dNotT, dAnd, dOr, dNot, dIf, dLst, dLC, dLc, lcD, dYes, wipeD, dTup, dDct0, dLRev, dIsi, dSl, oNo, oSm, dCall, dCallL, gN, gTu, gsCons, gsNil, dRg1, dRg2, dRev, dZip, pVar, pIx, atP, getP, setP, unsetL, List.map_cons, List.map_nil, List.replicate_succ, List.replicate_zero, List.cons_append, List.nil_append, List.set_cons_zero, List.set_cons_succ, List.getElem?_cons_zero, List.getElem?_cons_succ, List.length_cons, List.length_nil, o_lt, o_ltS, o_gt, o_le, o_ge, o_add, o_addS, o_addL, o_addT, o_sub, o_mul, o_fdiv, o_mod, o_pow, o_eq, o_eqN, o_ne, o_neN, o_isB, o_isI, o_len, o_lenC, o_lenT, o_lenD, o_lenS, o_ix, o_ixC, o_ixT, o_ixS, o_ixDs, o_ixDi, o_put, o_inD, o_inDi, o_inL, o_inT, o_inS, o_idx, o_list, o_listC, o_listT, o_listD, o_tuple, o_tupleT, o_intI, o_intB, o_ord, o_str, o_max, o_min, o_isNo, o_tyL, o_tyT, o_tyD, o_tyS, o_tyI, o_sl, o_slC, o_slS, o_slT, cutG_map, o_lsD, o_lsC, o_it, o_itC, o_itT, o_itS, o_app, o_ext, o_ins, o_pop, o_rev, o_clr, o_pos, o_posS, Option.bind_some, Option.map_some, List.length_map, if_true, Bool.not_false, Bool.not_true, Bool.false_bne, Bool.true_bne,  safe_sc, safe_lstF, safe_scr, safe_tup, safe_f, true_and, and_true, Option.some.injEq, exists_eq_left', exists_eq_left, decide_true, decide_false, Bool.false_eq_true, Bool.true_eq_false, reduceIte, Nat.zero_add, fz_lst, fz_dct, fz_ins, fz_sc, fz_lstF, fz_scr, Nat.zero_le, Nat.reduceLeDiff, Nat.reduceAdd, Nat.reduceLT, Int.reduceLT, Int.reduceLE, and_self, frz_lst, frz_dct, frz_dctF, frzL_ints, frzL_strs, frz_lstF, frz_scr, frz_tup, frz_sc, frzL_nil, frzL_cons, frzL_str, frzL_int, fzL_nil, fzL_cons, fzL_str, fzL_int, noC_sc, noC_lst, noC_tup, noC_dct, noCL_nil, noCL_cons, noCL_str, noCL_str2, noCL_int, Bool.and_self, Bool.and_true, Bool.true_and, List.append_nil, true_or, or_true, flat_str, flat_int, any_str, o_isiT, o_isiL, o_isiS, o_isiI, atI_0, atI_1, atI_2, atI_3, eqv_lst, eqv_tup, eqvL_nil, eqvL_cons, eqvL_str, eqv_str, eqS_int, ixN20, ixN21, fz_tup, Bool.false_and, Bool.and_false, o_posT, Int.cast_ofNat_Int, eq_self]
    exact groups82 Dd c0 c1 c2 c5 c8 c9 nd1 hl ho h1 hk r (met ++ g) _ _ (fun x hx => hG x (List.mem_cons_of_mem _ hx)) nd hlen (by simpa using q)
theorem frz_groups (G : List (List Txt)) : frzL (G.map gD) = G.map gF := by
  rw [frzL_map, List.map_map]
  refine List.map_congr_left fun g _ => ?_
  show frz (gD g) = gF g
  rw [frz_lst, frzL_str]
theorem law_holds (ns : List Int) (hl : ns.length ≤ 63) : sp_law [.scr (ns.map D.int)] (fun d _ => d = .bl true) (fun _ _ => False) := by
  rw [e_sp_law, e_b_law]
  simp only [pad, dNext, dSeq, dAsg, dFor, dEnum, dIt, dWhile, dIfS, dMS, dMA, dMN, dSub, dSfl, dRet, dRetV, dRetN, dRetT, dDrop, dBreak, dCont, dFz, fzS, dConsV, dCons, dNil, bCons, bNil, dVar, dC, dBin, dIx, dNeg, dCB, dMV, dTst, dAndT, dOrT, dNotT, dAnd, dOr, dNot, dIf, dLst, dLC, dLc, lcD, dYes, wipeD, dTup, dDct0, dLRev, dIsi, dSl, oNo, oSm, dCall, dCallL, gN, gTu, gsCons, gsNil, dRg1, dRg2, dRev, dZip, pVar, pIx, atP, getP, setP, unsetL, List.map_cons, List.map_nil, List.replicate_succ, List.replicate_zero, List.cons_append, List.nil_append, List.set_cons_zero, List.set_cons_succ, List.getElem?_cons_zero, List.getElem?_cons_succ, List.length_cons, List.length_nil, o_lt, o_ltS, o_gt, o_le, o_ge, o_add, o_addS, o_addL, o_addT, o_sub, o_mul, o_fdiv, o_mod, o_pow, o_eq, o_eqN, o_ne, o_neN, o_isB, o_isI, o_len, o_lenC, o_lenT, o_lenD, o_lenS, o_ix, o_ixC, o_ixT, o_ixS, o_ixDs, o_ixDi, o_put, o_inD, o_inDi, o_inL, o_inT, o_inS, o_idx, o_list, o_listC, o_listT, o_listD, o_tuple, o_tupleT, o_intI, o_intB, o_ord, o_str, o_max, o_min, o_isNo, o_tyL, o_tyT, o_tyD, o_tyS, o_tyI, o_sl, o_slC, o_slS, o_slT, cutG_map, o_lsD, o_lsC, o_it, o_itC, o_itT, o_itS, o_app, o_ext, o_ins, o_pop, o_rev, o_clr, o_pos, o_posS, Option.bind_some, Option.map_some, List.length_map, if_true, Bool.not_false, Bool.not_true, Bool.false_bne, Bool.true_bne,  safe_sc, safe_lstF, safe_scr, safe_tup, safe_f, true_and, and_true, Option.some.injEq, exists_eq_left', exists_eq_left, decide_true, decide_false, Bool.false_eq_true, Bool.true_eq_false, reduceIte, Nat.zero_add, fz_lst, fz_dct, fz_ins, fz_sc, fz_lstF, fz_scr, Nat.zero_le, Nat.reduceLeDiff, Nat.reduceAdd, Nat.reduceLT, Int.reduceLT, Int.reduceLE, and_self, frz_lst, frz_dct, frz_dctF, frzL_ints, frzL_strs, frz_lstF, frz_scr, frz_tup, frz_sc, frzL_nil, frzL_cons, frzL_str, frzL_int, fzL_nil, fzL_cons, fzL_str, fzL_int, noC_sc, noC_lst, noC_tup, noC_dct, noCL_nil, noCL_cons, noCL_str, noCL_str2, noCL_int, Bool.and_self, Bool.and_true, Bool.true_and, List.append_nil, true_or, or_true, flat_str, flat_int, any_str, o_isiT, o_isiL, o_isiS, o_isiI, atI_0, atI_1, atI_2, atI_3, eqv_lst, eqv_tup, eqvL_nil, eqvL_cons, eqvL_str, eqv_str, eqS_int, ixN20, ixN21, fz_tup, Bool.false_and, Bool.and_false, o_posT, Int.cast_ofNat_Int, eq_self]
  refine cell_at_d (k := 0) fun env => ?_
  obtain ⟨m, hm, hm61⟩ := mod_at (z := ns.getD 0 0) (n := 61) (by decide)
  have hm' : ns.getD 0 0 % 61 = ((m : Nat) : Int) := hm
  simp only [pad, dNext, dSeq, dAsg, dFor, dEnum, dIt, dWhile, dIfS, dMS, dMA, dMN, dSub, dSfl, dRet, dRetV, dRetN, dRetT, dDrop, dBreak, dCont, dFz, fzS, dConsV, dCons, dNil, bCons, bNil, dVar, dC, dBin, dIx, dNeg, dCB, dMV, dTst, dAndT, dOrT, dNotT, dAnd, dOr, dNot, dIf, dLst, dLC, dLc, lcD, dYes, wipeD, dTup, dDct0, dLRev, dIsi, dSl, oNo, oSm, dCall, dCallL, gN, gTu, gsCons, gsNil, dRg1, dRg2, dRev, dZip, pVar, pIx, atP, getP, setP, unsetL, List.map_cons, List.map_nil, List.replicate_succ, List.replicate_zero, List.cons_append, List.nil_append, List.set_cons_zero, List.set_cons_succ, List.getElem?_cons_zero, List.getElem?_cons_succ, List.length_cons, List.length_nil, o_lt, o_ltS, o_gt, o_le, o_ge, o_add, o_addS, o_addL, o_addT, o_sub, o_mul, o_fdiv, o_mod, o_pow, o_eq, o_eqN, o_ne, o_neN, o_isB, o_isI, o_len, o_lenC, o_lenT, o_lenD, o_lenS, o_ix, o_ixC, o_ixT, o_ixS, o_ixDs, o_ixDi, o_put, o_inD, o_inDi, o_inL, o_inT, o_inS, o_idx, o_list, o_listC, o_listT, o_listD, o_tuple, o_tupleT, o_intI, o_intB, o_ord, o_str, o_max, o_min, o_isNo, o_tyL, o_tyT, o_tyD, o_tyS, o_tyI, o_sl, o_slC, o_slS, o_slT, cutG_map, o_lsD, o_lsC, o_it, o_itC, o_itT, o_itS, o_app, o_ext, o_ins, o_pop, o_rev, o_clr, o_pos, o_posS, Option.bind_some, Option.map_some, List.length_map, if_true, Bool.not_false, Bool.not_true, Bool.false_bne, Bool.true_bne,  safe_sc, safe_lstF, safe_scr, safe_tup, safe_f, true_and, and_true, Option.some.injEq, exists_eq_left', exists_eq_left, decide_true, decide_false, Bool.false_eq_true, Bool.true_eq_false, reduceIte, Nat.zero_add, fz_lst, fz_dct, fz_ins, fz_sc, fz_lstF, fz_scr, Nat.zero_le, Nat.reduceLeDiff, Nat.reduceAdd, Nat.reduceLT, Int.reduceLT, Int.reduceLE, and_self, frz_lst, frz_dct, frz_dctF, frzL_ints, frzL_strs, frz_lstF, frz_scr, frz_tup, frz_sc, frzL_nil, frzL_cons, frzL_str, frzL_int, fzL_nil, fzL_cons, fzL_str, fzL_int, noC_sc, noC_lst, noC_tup, noC_dct, noCL_nil, noCL_cons, noCL_str, noCL_str2, noCL_int, Bool.and_self, Bool.and_true, Bool.true_and, List.append_nil, true_or, or_true, flat_str, flat_int, any_str, o_isiT, o_isiL, o_isiS, o_isiI, atI_0, atI_1, atI_2, atI_3, eqv_lst, eqv_tup, eqvL_nil, eqvL_cons, eqvL_str, eqv_str, eqS_int, ixN20, ixN21, fz_tup, Bool.false_and, Bool.and_false, o_posT, Int.cast_ofNat_Int, eq_self, hm']
  refine turns_d (by omega) fun one other env nd pm hk hlen => ?_
  have st1 : stb (.lst true) (one.map D.str) = true := stb_lst (fzL_str _)
  have st2 : stb (.lst true) (other.map D.str) = true := stb_lst (fzL_str _)
  have hs : ∀ t ∈ one, t ∈ other := fun t ht => pm.mem_iff.mpr ht
  have hs2 : ∀ t ∈ other, t ∈ one := fun t ht => pm.mem_iff.mp ht
  have nd2 : other.Nodup := pm.nodup_iff.mpr nd
  have hl1 : one.length ≤ 1000 := by omega
  have hl2 : other.length ≤ 1000 := by rw [pm.length_eq]; omega
  have inj : ∀ x ∈ one, ∀ y ∈ one, other.idxOf x = other.idxOf y → x = y := fun x hx y hy e => idx_inj (hs x hx) (hs y hy) e
  obtain ⟨k1, k2, k3, k4⟩ := kept_ok (p := fun x => other.idxOf x) nd inj
  have I := inv_groups (p := fun x => other.idxOf x) nd inj
  have nc : noCL ((groupsOf (fun x => other.idxOf x) one).1.map gD) = true := noCL_map fun g _ => by simp only [pad, dNext, dSeq, dAsg, dFor, dEnum, dIt, dWhile, dIfS, dMS, dMA, dMN, dSub, dSfl, dRet, dRetV, dRetN, dRetT, dDrop, dBreak, dCont, dFz, fzS, dConsV, dCons, dNil, bCons, bNil, dVar, dC, dBin, dIx, dNeg, dCB, dMV, dTst, dAndT, dOrT, dNotT, dAnd, dOr, dNot, dIf, dLst, dLC, dLc, lcD, dYes, wipeD, dTup, dDct0, dLRev, dIsi, dSl, oNo, oSm, dCall, dCallL, gN, gTu, gsCons, gsNil, dRg1, dRg2, dRev, dZip, pVar, pIx, atP, getP, setP, unsetL, List.map_cons, List.map_nil, List.replicate_succ, List.replicate_zero, List.cons_append, List.nil_append, List.set_cons_zero, List.set_cons_succ, List.getElem?_cons_zero, List.getElem?_cons_succ, List.length_cons, List.length_nil, o_lt, o_ltS, o_gt, o_le, o_ge, o_add, o_addS, o_addL, o_addT, o_sub, o_mul, o_fdiv, o_mod, o_pow, o_eq, o_eqN, o_ne, o_neN, o_isB, o_isI, o_len, o_lenC, o_lenT, o_lenD, o_lenS, o_ix, o_ixC, o_ixT, o_ixS, o_ixDs, o_ixDi, o_put, o_inD, o_inDi, o_inL, o_inT, o_inS, o_idx, o_list, o_listC, o_listT, o_listD, o_tuple, o_tupleT, o_intI, o_intB, o_ord, o_str, o_max, o_min, o_isNo, o_tyL, o_tyT, o_tyD, o_tyS, o_tyI, o_sl, o_slC, o_slS, o_slT, cutG_map, o_lsD, o_lsC, o_it, o_itC, o_itT, o_itS, o_app, o_ext, o_ins, o_pop, o_rev, o_clr, o_pos, o_posS, Option.bind_some, Option.map_some, List.length_map, if_true, Bool.not_false, Bool.not_true, Bool.false_bne, Bool.true_bne,  safe_sc, safe_lstF, safe_scr, safe_tup, safe_f, true_and, and_true, Option.some.injEq, exists_eq_left', exists_eq_left, decide_true, decide_false, Bool.false_eq_true, Bool.true_eq_false, reduceIte, Nat.zero_add, fz_lst, fz_dct, fz_ins, fz_sc, fz_lstF, fz_scr, Nat.zero_le, Nat.reduceLeDiff, Nat.reduceAdd, Nat.reduceLT, Int.reduceLT, Int.reduceLE, and_self, frz_lst, frz_dct, frz_dctF, frzL_ints, frzL_strs, frz_lstF, frz_scr, frz_tup, frz_sc, frzL_nil, frzL_cons, frzL_str, frzL_int, fzL_nil, fzL_cons, fzL_str, fzL_int, noC_sc, noC_lst, noC_tup, noC_dct, noCL_nil, noCL_cons, noCL_str, noCL_str2, noCL_int, Bool.and_self, Bool.and_true, Bool.true_and, List.append_nil, true_or, or_true, flat_str, flat_int, any_str, o_isiT, o_isiL, o_isiS, o_isiI, atI_0, atI_1, atI_2, atI_3, eqv_lst, eqv_tup, eqvL_nil, eqvL_cons, eqvL_str, eqv_str, eqS_int, ixN20, ixN21, fz_tup, Bool.false_and, Bool.and_false, o_posT, Int.cast_ofNat_Int, eq_self]
  have m2 : -(2 ^ 62) ≤ ((m : Nat) : Int) ∧ ((m : Nat) : Int) < 2 ^ 62 := by omega
  have t1 : ((m : Nat) : Int).toNat = m := rfl
  simp only [pad, dNext, dSeq, dAsg, dFor, dEnum, dIt, dWhile, dIfS, dMS, dMA, dMN, dSub, dSfl, dRet, dRetV, dRetN, dRetT, dDrop, dBreak, dCont, dFz, fzS, dConsV, dCons, dNil, bCons, bNil, dVar, dC, dBin, dIx, dNeg, dCB, dMV, dTst, dAndT, dOrT, dNotT, dAnd, dOr, dNot, dIf, dLst, dLC, dLc, lcD, dYes, wipeD, dTup, dDct0, dLRev, dIsi, dSl, oNo, oSm, dCall, dCallL, gN, gTu, gsCons, gsNil, dRg1, dRg2, dRev, dZip, pVar, pIx, atP, getP, setP, unsetL, List.map_cons, List.map_nil, List.replicate_succ, List.replicate_zero, List.cons_append, List.nil_append, List.set_cons_zero, List.set_cons_succ, List.getElem?_cons_zero, List.getElem?_cons_succ, List.length_cons, List.length_nil, o_lt, o_ltS, o_gt, o_le, o_ge, o_add, o_addS, o_addL, o_addT, o_sub, o_mul, o_fdiv, o_mod, o_pow, o_eq, o_eqN, o_ne, o_neN, o_isB, o_isI, o_len, o_lenC, o_lenT, o_lenD, o_lenS, o_ix, o_ixC, o_ixT, o_ixS, o_ixDs, o_ixDi, o_put, o_inD, o_inDi, o_inL, o_inT, o_inS, o_idx, o_list, o_listC, o_listT, o_listD, o_tuple, o_tupleT, o_intI, o_intB, o_ord, o_str, o_max, o_min, o_isNo, o_tyL, o_tyT, o_tyD, o_tyS, o_tyI, o_sl, o_slC, o_slS, o_slT, cutG_map, o_lsD, o_lsC, o_it, o_itC, o_itT, o_itS, o_app, o_ext, o_ins, o_pop, o_rev, o_clr, o_pos, o_posS, Option.bind_some, Option.map_some, List.length_map, if_true, Bool.not_false, Bool.not_true, Bool.false_bne, Bool.true_bne,  safe_sc, safe_lstF, safe_scr, safe_tup, safe_f, true_and, and_true, Option.some.injEq, exists_eq_left', exists_eq_left, decide_true, decide_false, Bool.false_eq_true, Bool.true_eq_false, reduceIte, Nat.zero_add, fz_lst, fz_dct, fz_ins, fz_sc, fz_lstF, fz_scr, Nat.zero_le, Nat.reduceLeDiff, Nat.reduceAdd, Nat.reduceLT, Int.reduceLT, Int.reduceLE, and_self, frz_lst, frz_dct, frz_dctF, frzL_ints, frzL_strs, frz_lstF, frz_scr, frz_tup, frz_sc, frzL_nil, frzL_cons, frzL_str, frzL_int, fzL_nil, fzL_cons, fzL_str, fzL_int, noC_sc, noC_lst, noC_tup, noC_dct, noCL_nil, noCL_cons, noCL_str, noCL_str2, noCL_int, Bool.and_self, Bool.and_true, Bool.true_and, List.append_nil, true_or, or_true, flat_str, flat_int, any_str, o_isiT, o_isiL, o_isiS, o_isiI, atI_0, atI_1, atI_2, atI_3, eqv_lst, eqv_tup, eqvL_nil, eqvL_cons, eqvL_str, eqv_str, eqS_int, ixN20, ixN21, fz_tup, Bool.false_and, Bool.and_false, o_posT, Int.cast_ofNat_Int, eq_self, st1, st2]
  refine kept_most_d nd nd2 hs hl1 hl2 hk fun env => ?_
  simp only [pad, dNext, dSeq, dAsg, dFor, dEnum, dIt, dWhile, dIfS, dMS, dMA, dMN, dSub, dSfl, dRet, dRetV, dRetN, dRetT, dDrop, dBreak, dCont, dFz, fzS, dConsV, dCons, dNil, bCons, bNil, dVar, dC, dBin, dIx, dNeg, dCB, dMV, dTst, dAndT, dOrT, dNotT, dAnd, dOr, dNot, dIf, dLst, dLC, dLc, lcD, dYes, wipeD, dTup, dDct0, dLRev, dIsi, dSl, oNo, oSm, dCall, dCallL, gN, gTu, gsCons, gsNil, dRg1, dRg2, dRev, dZip, pVar, pIx, atP, getP, setP, unsetL, List.map_cons, List.map_nil, List.replicate_succ, List.replicate_zero, List.cons_append, List.nil_append, List.set_cons_zero, List.set_cons_succ, List.getElem?_cons_zero, List.getElem?_cons_succ, List.length_cons, List.length_nil, o_lt, o_ltS, o_gt, o_le, o_ge, o_add, o_addS, o_addL, o_addT, o_sub, o_mul, o_fdiv, o_mod, o_pow, o_eq, o_eqN, o_ne, o_neN, o_isB, o_isI, o_len, o_lenC, o_lenT, o_lenD, o_lenS, o_ix, o_ixC, o_ixT, o_ixS, o_ixDs, o_ixDi, o_put, o_inD, o_inDi, o_inL, o_inT, o_inS, o_idx, o_list, o_listC, o_listT, o_listD, o_tuple, o_tupleT, o_intI, o_intB, o_ord, o_str, o_max, o_min, o_isNo, o_tyL, o_tyT, o_tyD, o_tyS, o_tyI, o_sl, o_slC, o_slS, o_slT, cutG_map, o_lsD, o_lsC, o_it, o_itC, o_itT, o_itS, o_app, o_ext, o_ins, o_pop, o_rev, o_clr, o_pos, o_posS, Option.bind_some, Option.map_some, List.length_map, if_true, Bool.not_false, Bool.not_true, Bool.false_bne, Bool.true_bne,  safe_sc, safe_lstF, safe_scr, safe_tup, safe_f, true_and, and_true, Option.some.injEq, exists_eq_left', exists_eq_left, decide_true, decide_false, Bool.false_eq_true, Bool.true_eq_false, reduceIte, Nat.zero_add, fz_lst, fz_dct, fz_ins, fz_sc, fz_lstF, fz_scr, Nat.zero_le, Nat.reduceLeDiff, Nat.reduceAdd, Nat.reduceLT, Int.reduceLT, Int.reduceLE, and_self, frz_lst, frz_dct, frz_dctF, frzL_ints, frzL_strs, frz_lstF, frz_scr, frz_tup, frz_sc, frzL_nil, frzL_cons, frzL_str, frzL_int, fzL_nil, fzL_cons, fzL_str, fzL_int, noC_sc, noC_lst, noC_tup, noC_dct, noCL_nil, noCL_cons, noCL_str, noCL_str2, noCL_int, Bool.and_self, Bool.and_true, Bool.true_and, List.append_nil, true_or, or_true, flat_str, flat_int, any_str, o_isiT, o_isiL, o_isiS, o_isiI, atI_0, atI_1, atI_2, atI_3, eqv_lst, eqv_tup, eqvL_nil, eqvL_cons, eqvL_str, eqv_str, eqS_int, ixN20, ixN21, fz_tup, Bool.false_and, Bool.and_false, o_posT, Int.cast_ofNat_Int, eq_self, nc, m2, t1]
  have r1 : List.range m = List.range' ([] : List Txt).length one.length := by rw [hlen, List.range_eq_range']; rfl
  have r2 : List.range m = List.range' ([] : List Txt).length other.length := by rw [pm.length_eq, hlen, List.range_eq_range']; rfl
  rw [r1]
  refine place82 _ _ _ _ _ _ _ _ _ nd hl1 one [] none rfl fun k5 => ?_
  simp only [pad, dNext, dSeq, dAsg, dFor, dEnum, dIt, dWhile, dIfS, dMS, dMA, dMN, dSub, dSfl, dRet, dRetV, dRetN, dRetT, dDrop, dBreak, dCont, dFz, fzS, dConsV, dCons, dNil, bCons, bNil, dVar, dC, dBin, dIx, dNeg, dCB, dMV, dTst, dAndT, dOrT, dNotT, dAnd, dOr, dNot, dIf, dLst, dLC, dLc, lcD, dYes, wipeD, dTup, dDct0, dLRev, dIsi, dSl, oNo, oSm, dCall, dCallL, gN, gTu, gsCons, gsNil, dRg1, dRg2, dRev, dZip, pVar, pIx, atP, getP, setP, unsetL, List.map_cons, List.map_nil, List.replicate_succ, List.replicate_zero, List.cons_append, List.nil_append, List.set_cons_zero, List.set_cons_succ, List.getElem?_cons_zero, List.getElem?_cons_succ, List.length_cons, List.length_nil, o_lt, o_ltS, o_gt, o_le, o_ge, o_add, o_addS, o_addL, o_addT, o_sub, o_mul, o_fdiv, o_mod, o_pow, o_eq, o_eqN, o_ne, o_neN, o_isB, o_isI, o_len, o_lenC, o_lenT, o_lenD, o_lenS, o_ix, o_ixC, o_ixT, o_ixS, o_ixDs, o_ixDi, o_put, o_inD, o_inDi, o_inL, o_inT, o_inS, o_idx, o_list, o_listC, o_listT, o_listD, o_tuple, o_tupleT, o_intI, o_intB, o_ord, o_str, o_max, o_min, o_isNo, o_tyL, o_tyT, o_tyD, o_tyS, o_tyI, o_sl, o_slC, o_slS, o_slT, cutG_map, o_lsD, o_lsC, o_it, o_itC, o_itT, o_itS, o_app, o_ext, o_ins, o_pop, o_rev, o_clr, o_pos, o_posS, Option.bind_some, Option.map_some, List.length_map, if_true, Bool.not_false, Bool.not_true, Bool.false_bne, Bool.true_bne,  safe_sc, safe_lstF, safe_scr, safe_tup, safe_f, true_and, and_true, Option.some.injEq, exists_eq_left', exists_eq_left, decide_true, decide_false, Bool.false_eq_true, Bool.true_eq_false, reduceIte, Nat.zero_add, fz_lst, fz_dct, fz_ins, fz_sc, fz_lstF, fz_scr, Nat.zero_le, Nat.reduceLeDiff, Nat.reduceAdd, Nat.reduceLT, Int.reduceLT, Int.reduceLE, and_self, frz_lst, frz_dct, frz_dctF, frzL_ints, frzL_strs, frz_lstF, frz_scr, frz_tup, frz_sc, frzL_nil, frzL_cons, frzL_str, frzL_int, fzL_nil, fzL_cons, fzL_str, fzL_int, noC_sc, noC_lst, noC_tup, noC_dct, noCL_nil, noCL_cons, noCL_str, noCL_str2, noCL_int, Bool.and_self, Bool.and_true, Bool.true_and, List.append_nil, true_or, or_true, flat_str, flat_int, any_str, o_isiT, o_isiL, o_isiS, o_isiI, atI_0, atI_1, atI_2, atI_3, eqv_lst, eqv_tup, eqvL_nil, eqvL_cons, eqvL_str, eqv_str, eqS_int, ixN20, ixN21, fz_tup, Bool.false_and, Bool.and_false, o_posT, Int.cast_ofNat_Int, eq_self, m2, t1]
  rw [r2]
  refine second82 _ _ _ _ _ _ _ _ nd nd2 hs2 hl2 other [] k5 rfl fun k5 => ?_
  simp only [pad, dNext, dSeq, dAsg, dFor, dEnum, dIt, dWhile, dIfS, dMS, dMA, dMN, dSub, dSfl, dRet, dRetV, dRetN, dRetT, dDrop, dBreak, dCont, dFz, fzS, dConsV, dCons, dNil, bCons, bNil, dVar, dC, dBin, dIx, dNeg, dCB, dMV, dTst, dAndT, dOrT, dNotT, dAnd, dOr, dNot, dIf, dLst, dLC, dLc, lcD, dYes, wipeD, dTup, dDct0, dLRev, dIsi, dSl, oNo, oSm, dCall, dCallL, gN, gTu, gsCons, gsNil, dRg1, dRg2, dRev, dZip, pVar, pIx, atP, getP, setP, unsetL, List.map_cons, List.map_nil, List.replicate_succ, List.replicate_zero, List.cons_append, List.nil_append, List.set_cons_zero, List.set_cons_succ, List.getElem?_cons_zero, List.getElem?_cons_succ, List.length_cons, List.length_nil, o_lt, o_ltS, o_gt, o_le, o_ge, o_add, o_addS, o_addL, o_addT, o_sub, o_mul, o_fdiv, o_mod, o_pow, o_eq, o_eqN, o_ne, o_neN, o_isB, o_isI, o_len, o_lenC, o_lenT, o_lenD, o_lenS, o_ix, o_ixC, o_ixT, o_ixS, o_ixDs, o_ixDi, o_put, o_inD, o_inDi, o_inL, o_inT, o_inS, o_idx, o_list, o_listC, o_listT, o_listD, o_tuple, o_tupleT, o_intI, o_intB, o_ord, o_str, o_max, o_min, o_isNo, o_tyL, o_tyT, o_tyD, o_tyS, o_tyI, o_sl, o_slC, o_slS, o_slT, cutG_map, o_lsD, o_lsC, o_it, o_itC, o_itT, o_itS, o_app, o_ext, o_ins, o_pop, o_rev, o_clr, o_pos, o_posS, Option.bind_some, Option.map_some, List.length_map, if_true, Bool.not_false, Bool.not_true, Bool.false_bne, Bool.true_bne,  safe_sc, safe_lstF, safe_scr, safe_tup, safe_f, true_and, and_true, Option.some.injEq, exists_eq_left', exists_eq_left, decide_true, decide_false, Bool.false_eq_true, Bool.true_eq_false, reduceIte, Nat.zero_add, fz_lst, fz_dct, fz_ins, fz_sc, fz_lstF, fz_scr, Nat.zero_le, Nat.reduceLeDiff, Nat.reduceAdd, Nat.reduceLT, Int.reduceLT, Int.reduceLE, and_self, frz_lst, frz_dct, frz_dctF, frzL_ints, frzL_strs, frz_lstF, frz_scr, frz_tup, frz_sc, frzL_nil, frzL_cons, frzL_str, frzL_int, fzL_nil, fzL_cons, fzL_str, fzL_int, noC_sc, noC_lst, noC_tup, noC_dct, noCL_nil, noCL_cons, noCL_str, noCL_str2, noCL_int, Bool.and_self, Bool.and_true, Bool.true_and, List.append_nil, true_or, or_true, flat_str, flat_int, any_str, o_isiT, o_isiL, o_isiS, o_isiI, atI_0, atI_1, atI_2, atI_3, eqv_lst, eqv_tup, eqvL_nil, eqvL_cons, eqvL_str, eqv_str, eqS_int, ixN20, ixN21, fz_tup, Bool.false_and, Bool.and_false, o_posT, Int.cast_ofNat_Int, eq_self, nc]
  rw [frz_groups]
  refine groups82 _ _ _ _ _ _ _ nd hl1 hs2 hs hk _ [] none none (fun g hg => ⟨I.ne g hg, I.sub g hg, I.fall g hg⟩) (by rw [List.nil_append]; exact I.pm.nodup_iff.mpr nd) (by rw [List.nil_append, I.pm.length_eq]; exact hl1) fun c7 c10 => ?_
  have e1 : (groupsOf (fun x => other.idxOf x) one).1.flatten.length = m := by rw [I.pm.length_eq, hlen]
  rw [List.nil_append]
  simp only [pad, dNext, dSeq, dAsg, dFor, dEnum, dIt, dWhile, dIfS, dMS, dMA, dMN, dSub, dSfl, dRet, dRetV, dRetN, dRetT, dDrop, dBreak, dCont, dFz, fzS, dConsV, dCons, dNil, bCons, bNil, dVar, dC, dBin, dIx, dNeg, dCB, dMV, dTst, dAndT, dOrT, dNotT, dAnd, dOr, dNot, dIf, dLst, dLC, dLc, lcD, dYes, wipeD, dTup, dDct0, dLRev, dIsi, dSl, oNo, oSm, dCall, dCallL, gN, gTu, gsCons, gsNil, dRg1, dRg2, dRev, dZip, pVar, pIx, atP, getP, setP, unsetL, List.map_cons, List.map_nil, List.replicate_succ, List.replicate_zero, List.cons_append, List.nil_append, List.set_cons_zero, List.set_cons_succ, List.getElem?_cons_zero, List.getElem?_cons_succ, List.length_cons, List.length_nil, o_lt, o_ltS, o_gt, o_le, o_ge, o_add, o_addS, o_addL, o_addT, o_sub, o_mul, o_fdiv, o_mod, o_pow, o_eq, o_eqN, o_ne, o_neN, o_isB, o_isI, o_len, o_lenC, o_lenT, o_lenD, o_lenS, o_ix, o_ixC, o_ixT, o_ixS, o_ixDs, o_ixDi, o_put, o_inD, o_inDi, o_inL, o_inT, o_inS, o_idx, o_list, o_listC, o_listT, o_listD, o_tuple, o_tupleT, o_intI, o_intB, o_ord, o_str, o_max, o_min, o_isNo, o_tyL, o_tyT, o_tyD, o_tyS, o_tyI, o_sl, o_slC, o_slS, o_slT, cutG_map, o_lsD, o_lsC, o_it, o_itC, o_itT, o_itS, o_app, o_ext, o_ins, o_pop, o_rev, o_clr, o_pos, o_posS, Option.bind_some, Option.map_some, List.length_map, if_true, Bool.not_false, Bool.not_true, Bool.false_bne, Bool.true_bne,  safe_sc, safe_lstF, safe_scr, safe_tup, safe_f, true_and, and_true, Option.some.injEq, exists_eq_left', exists_eq_left, decide_true, decide_false, Bool.false_eq_true, Bool.true_eq_false, reduceIte, Nat.zero_add, fz_lst, fz_dct, fz_ins, fz_sc, fz_lstF, fz_scr, Nat.zero_le, Nat.reduceLeDiff, Nat.reduceAdd, Nat.reduceLT, Int.reduceLT, Int.reduceLE, and_self, frz_lst, frz_dct, frz_dctF, frzL_ints, frzL_strs, frz_lstF, frz_scr, frz_tup, frz_sc, frzL_nil, frzL_cons, frzL_str, frzL_int, fzL_nil, fzL_cons, fzL_str, fzL_int, noC_sc, noC_lst, noC_tup, noC_dct, noCL_nil, noCL_cons, noCL_str, noCL_str2, noCL_int, Bool.and_self, Bool.and_true, Bool.true_and, List.append_nil, true_or, or_true, flat_str, flat_int, any_str, o_isiT, o_isiL, o_isiS, o_isiI, atI_0, atI_1, atI_2, atI_3, eqv_lst, eqv_tup, eqvL_nil, eqvL_cons, eqvL_str, eqv_str, eqS_int, ixN20, ixN21, fz_tup, Bool.false_and, Bool.and_false, o_posT, Int.cast_ofNat_Int, eq_self, e1, k4]
  trace_state
end LW

set_option Elab.async false
set_option linter.all false
set_option maxRecDepth 100000
set_option maxHeartbeats 4000000
namespace LW
open PySem PySem.Spec PyProof.Rows L2 DL
def spLaw (K : PySem.W.Frag) : Sp := fun vs H Q E => ∀ R : RT, toSp K R [] 1 sp_law vs H Q E
theorem repl_ints {K : PySem.W.Frag} {R : RT} {F H : Hp} : ∀ ns : List Int, RepL K R F H (ns.map V.int) (ns.map D.int) []
  | [] => .nil
  | n :: r => RepL.cons (A := []) (B := []) (.sc (.int n)) (repl_ints r)
theorem law_sp {K : PySem.W.Frag} {H : Hp} {a : Addr} {ns : List Int} (hl : ns.length ≤ 63) (hS : SqL K H a (ns.map V.int)) : spLaw K [.ref a] H (fun v _ => v = .bl true) (fun _ _ _ => False) := fun R => by
  refine ⟨H, [.scr (ns.map D.int)], fun _ => [], fun d _ => d = .bl true, fun _ _ => False, rfl, .refl _, EnvR.args (RepL.cons (A := []) (B := []) (.fz (k := .scr) hS (repl_ints ns) (.inr rfl)) .nil), fun _ _ => rfl, law_holds ns hl, ?_, fun _ _ _ _ _ _ _ _ _ _ q => q⟩
  intro F' H' σ' env' As' v d B ok r o q
  subst q
  cases r
  rfl
theorem cx_no {P : Program} {w : World} {H : Hp} {s : Shared} {e : Value} {s' : Shared} (h : L2.CX P w [] H s (fun _ _ _ => False) e s') : False := by
  obtain ⟨_, _, _, _, _, _, _, _, _, _, _, _, z⟩ := h
  exact z
theorem all_mk {l : PySem.W.OpenLaw} {w : World} {K : PySem.W.Frag} {h : Heap} {mg : Str → Option Value} {fa f0 f1 f2 f3 f4 f5 f6 : Addr} (X : K.In h) (G : h.Ns mainGlobals mg) (hfa : mg "law" = some (.ref fa))
    {od0 an0 : Option Addr} {sl0 : Array (Option Value)} {oc0 kV0 dc0 pm0 cd0 ct0 : Value}
    {od1 an1 : Option Addr} {sl1 : Array (Option Value)} {oc1 kV1 dc1 pm1 cd1 ct1 : Value}
    {od2 an2 : Option Addr} {sl2 : Array (Option Value)} {oc2 kV2 dc2 pm2 cd2 ct2 : Value}
    {od3 an3 : Option Addr} {sl3 : Array (Option Value)} {oc3 kV3 dc3 pm3 cd3 ct3 : Value}
    {od4 an4 : Option Addr} {sl4 : Array (Option Value)} {oc4 kV4 dc4 pm4 cd4 ct4 : Value}
    {od5 an5 : Option Addr} {sl5 : Array (Option Value)} {oc5 kV5 dc5 pm5 cd5 ct5 : Value}
    {od6 an6 : Option Addr} {sl6 : Array (Option Value)} {oc6 kV6 dc6 pm6 cd6 ct6 : Value}
    (a0 : PySem.W.nsIn K mainGlobals "groups_of" = some (some (.ref f0))) (l0 : K.lookup f0 = some ⟨oc0, od0, .func (PySem.W.fnOf "groups_of" "groups_of" (defArgs st_groups_of) (defBody st_groups_of) (defScope st_groups_of) .none kV0 dc0 pm0 an0 cd0 ct0), sl0⟩) (c0 : PySem.W.codeIn K cd0 "groups_of" = true) (k0 : PySem.W.keepIn K (.ref f0) = true)
    (a1 : PySem.W.nsIn K mainGlobals "kept_most" = some (some (.ref f1))) (l1 : K.lookup f1 = some ⟨oc1, od1, .func (PySem.W.fnOf "kept_most" "kept_most" (defArgs st_kept_most) (defBody st_kept_most) (defScope st_kept_most) .none kV1 dc1 pm1 an1 cd1 ct1), sl1⟩) (c1 : PySem.W.codeIn K cd1 "kept_most" = true) (k1 : PySem.W.keepIn K (.ref f1) = true)
    (a2 : PySem.W.nsIn K mainGlobals "_law_cell_at" = some (some (.ref f2))) (l2 : K.lookup f2 = some ⟨oc2, od2, .func (PySem.W.fnOf "_law_cell_at" "_law_cell_at" (defArgs st__law_cell_at) (defBody st__law_cell_at) (defScope st__law_cell_at) .none kV2 dc2 pm2 an2 cd2 ct2), sl2⟩) (c2 : PySem.W.codeIn K cd2 "_law_cell_at" = true) (k2 : PySem.W.keepIn K (.ref f2) = true)
    (a3 : PySem.W.nsIn K mainGlobals "_law_pieces" = some (some (.ref f3))) (l3 : K.lookup f3 = some ⟨oc3, od3, .func (PySem.W.fnOf "_law_pieces" "_law_pieces" (defArgs st__law_pieces) (defBody st__law_pieces) (defScope st__law_pieces) .none kV3 dc3 pm3 an3 cd3 ct3), sl3⟩) (c3 : PySem.W.codeIn K cd3 "_law_pieces" = true) (k3 : PySem.W.keepIn K (.ref f3) = true)
    (a4 : PySem.W.nsIn K mainGlobals "_law_turns" = some (some (.ref f4))) (l4 : K.lookup f4 = some ⟨oc4, od4, .func (PySem.W.fnOf "_law_turns" "_law_turns" (defArgs st__law_turns) (defBody st__law_turns) (defScope st__law_turns) .none kV4 dc4 pm4 an4 cd4 ct4), sl4⟩) (c4 : PySem.W.codeIn K cd4 "_law_turns" = true) (k4 : PySem.W.keepIn K (.ref f4) = true)
    (a5 : PySem.W.nsIn K mainGlobals "_law_falling" = some (some (.ref f5))) (l5 : K.lookup f5 = some ⟨oc5, od5, .func (PySem.W.fnOf "_law_falling" "_law_falling" (defArgs st__law_falling) (defBody st__law_falling) (defScope st__law_falling) .none kV5 dc5 pm5 an5 cd5 ct5), sl5⟩) (c5 : PySem.W.codeIn K cd5 "_law_falling" = true) (k5 : PySem.W.keepIn K (.ref f5) = true)
    (a6 : PySem.W.nsIn K mainGlobals "law" = some (some (.ref f6))) (l6 : K.lookup f6 = some ⟨oc6, od6, .func (PySem.W.fnOf "law" "law" (defArgs st_law) (defBody st_law) (defScope st_law) .none kV6 dc6 pm6 an6 cd6 ct6), sl6⟩) (c6 : PySem.W.codeIn K cd6 "law" = true) (k6 : PySem.W.keepIn K (.ref f6) = true)
    (z0 : PySem.W.nsIn K mainGlobals "enumerate" = some none)
    (z1 : PySem.W.nsIn K mainGlobals "isinstance" = some none)
    (z2 : PySem.W.nsIn K mainGlobals "len" = some none)
    (z3 : PySem.W.nsIn K mainGlobals "list" = some none)
    (z4 : PySem.W.nsIn K mainGlobals "range" = some none)
    (z5 : PySem.W.nsIn K mainGlobals "reversed" = some none)
    (z6 : PySem.W.nsIn K mainGlobals "sorted" = some none)
    : ∃ fd : FuncData, (∀ (s : Shared) (v : Value), BindsTo s fd ⟨[v], []⟩ [("_law_script", v)]) ∧ ∀ base : Heap, K.In base → base.Ns mainGlobals mg → FnOk l.prog w K mg base (L2.CX l.prog w) 4 fa fd ["_law_script"] (spLaw K) := by
  have e := hfa.symm.trans (PySem.W.mg_of X G a6)
  cases e
  have F0 := fun_mk (st := st_groups_of) l0 c0 k0
  have b0 := F0.binds (ps := ps_groups_of) fun _ _ _ _ _ _ us hl => match us, hl with | [_, _], _ => rfl
  have F1 := fun_mk (st := st_kept_most) l1 c1 k1
  have b1 := F1.binds (ps := ps_kept_most) fun _ _ _ _ _ _ us hl => match us, hl with | [_, _], _ => rfl
  have F2 := fun_mk (st := st__law_cell_at) l2 c2 k2
  have b2 := F2.binds (ps := ps__law_cell_at) fun _ _ _ _ _ _ us hl => match us, hl with | [_, _], _ => rfl
  have F3 := fun_mk (st := st__law_pieces) l3 c3 k3
  have b3 := F3.binds (ps := ps__law_pieces) fun _ _ _ _ _ _ us hl => match us, hl with | [_, _], _ => rfl
  have F4 := fun_mk (st := st__law_turns) l4 c4 k4
  have b4 := F4.binds (ps := ps__law_turns) fun _ _ _ _ _ _ us hl => match us, hl with | [_, _], _ => rfl
  have F5 := fun_mk (st := st__law_falling) l5 c5 k5
  have b5 := F5.binds (ps := ps__law_falling) fun _ _ _ _ _ _ us hl => match us, hl with | [_, _, _], _ => rfl
  have F6 := fun_mk (st := st_law) l6 c6 k6
  have b6 := F6.binds (ps := ps_law) fun _ _ _ _ _ _ us hl => match us, hl with | [_], _ => rfl
  let T : Tx K mg := ⟨f0, _, F0, PySem.W.mg_of X G a0, b0, f1, _, F1, PySem.W.mg_of X G a1, b1, f2, _, F2, PySem.W.mg_of X G a2, b2, f3, _, F3, PySem.W.mg_of X G a3, b3, f4, _, F4, PySem.W.mg_of X G a4, b4, f5, _, F5, PySem.W.mg_of X G a5, b5, fa, _, F6, PySem.W.mg_of X G a6, b6, PySem.W.mg_none_of X G z0, PySem.W.mg_none_of X G z1, PySem.W.mg_none_of X G z2, PySem.W.mg_none_of X G z3, PySem.W.mg_none_of X G z4, PySem.W.mg_none_of X G z5, PySem.W.mg_none_of X G z6⟩
  refine ⟨T.fd_law, fun s v => .of_eq rfl, fun base _ _ => ?_⟩
  exact FnOk.imp (ok_law T) fun vs H Q E h => h (RT0 T)
end LW
open PySem PySem.W PyProof.Rows
set_option maxHeartbeats 0 in
theorem PySem.Challenge.cw_sortlore_k82_groups_walked_holds : PySem.Challenge.rw_sortlore_k82_groups_walked.Holds := by
  w_on; o_law; k_head; (case hw => w_witness2)
  k_fill
  refine L2.walk_of (l := PySem.Challenge.rw_sortlore_k82_groups_walked) (n := 63) (k := 4) (x := "_law_script") (CX := fun w => L2.CX PySem.Challenge.pw_sortlore_k82_groups_walked w) (sp := fun w => LW.spLaw _) rfl (by decide) rfl ⟨rfl, by decide, by decide⟩ (fun w h Y => PySem.W.kIn_of Y) ?F (fun _ _ a ns hl _ hS => LW.law_sp hl hS) (fun _ _ _ _ _ h => LW.cx_no h)
  case F =>
    intro w mg fa h KX G hmg
    refine' LW.all_mk KX G hmg ?a0 ?l0 ?c0 ?k0 ?a1 ?l1 ?c1 ?k1 ?a2 ?l2 ?c2 ?k2 ?a3 ?l3 ?c3 ?k3 ?a4 ?l4 ?c4 ?k4 ?a5 ?l5 ?c5 ?k5 ?a6 ?l6 ?c6 ?k6 ?z0 ?z1 ?z2 ?z3 ?z4 ?z5 ?z6
    (case a0 => k_is)
    (case l0 => k_is)
    (case c0 => k_is)
    (case k0 => k_is)
    (case a1 => k_is)
    (case l1 => k_is)
    (case c1 => k_is)
    (case k1 => k_is)
    (case a2 => k_is)
    (case l2 => k_is)
    (case c2 => k_is)
    (case k2 => k_is)
    (case a3 => k_is)
    (case l3 => k_is)
    (case c3 => k_is)
    (case k3 => k_is)
    (case a4 => k_is)
    (case l4 => k_is)
    (case c4 => k_is)
    (case k4 => k_is)
    (case a5 => k_is)
    (case l5 => k_is)
    (case c5 => k_is)
    (case k5 => k_is)
    (case a6 => k_is)
    (case l6 => k_is)
    (case c6 => k_is)
    (case k6 => k_is)
    (case z0 => k_is)
    (case z1 => k_is)
    (case z2 => k_is)
    (case z3 => k_is)
    (case z4 => k_is)
    (case z5 => k_is)
    (case z6 => k_is)
