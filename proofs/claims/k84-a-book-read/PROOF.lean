import PyProof.Rows.All
import Wide.All
import OpenK.AllK
import Wide.FinOn
import PyProof.EqAt
import PyProof.EqKinds
import PyProof.TupleCall
import HandS.ForMost
import HandS.ForExc
import HandS.ExcCtx
import HandS.TupAny
import HandS.IsInst
import HandS.RevTup
import HandS.Rev
import HandS.Conv
import HandS.More
import HandS.ExcOwn
import HandS.WordsExc
import HandS.SuiteRaise
import HandS.Small
import HandS.Comp
import HandS.SortInts
import HandS.ExcInit
import HandS.TryOnly
import HandS.ExcInitHot
import HandS.Text
import HandS.HeadHook3
import PyProof.StrOps2
import HandS.Ends
import HandS.Words
import PySem.Challenge.RW_sortlore_k84_a_book_read
set_option Elab.async false
set_option linter.all false
set_option maxRecDepth 100000
set_option maxHeartbeats 1000000
namespace DL
open PySem PySem.Spec L2
variable {M : Bool}

/-! ## plain data -/
abbrev Txt := List Nat
abbrev DK := Sum Int Txt
inductive Sc where
  | non | bl (b : Bool) | int (i : Int) | str (s : Txt)
  deriving DecidableEq
inductive Kind where
  | lst (o : Bool) | scr | tup | dct (o : Bool) (ks : List DK) | dcT (o : Bool) (ks : List (List DK)) | ins (o : Bool) (c : Nat)
  deriving DecidableEq
inductive D where
  | sc (s : Sc) | nd (k : Kind) (ds : List D)
abbrev D.non : D := .sc .non
abbrev D.bl (b : Bool) : D := .sc (.bl b)
abbrev D.int (i : Int) : D := .sc (.int i)
abbrev D.str (s : Txt) : D := .sc (.str s)
abbrev D.lst (o : Bool) (xs : List D) : D := .nd (.lst o) xs
abbrev D.scr (xs : List D) : D := .nd .scr xs
abbrev D.tup (xs : List D) : D := .nd .tup xs
abbrev D.ins (o : Bool) (c : Nat) (xs : List D) : D := .nd (.ins o c) xs

/-- classes by number: where they stand, their fields in the turn in which they are stored -/
structure RT where
  cls : Nat → Addr
  lay : Nat → List Str

def strV (s : Txt) : Str := ⟨s.toArray⟩
theorem strV_list (s : Txt) : (strV s).cps.toList = s := by simp [strV]
theorem strV_inj {s t : Txt} (h : strV s = strV t) : s = t := by
  have := congrArg (fun z : Str => z.cps.toList) h
  simpa [strV] using this
theorem strV_len (s : Txt) : (strV s).length = s.length := by
  show (strV s).cps.size = s.length
  simp [strV]
def encS : Sc → V
  | .non => .non
  | .bl b => .bl b
  | .int i => .int i
  | .str s => .str (strV s)
def key : DK → Key
  | .inl i => .inl i
  | .inr s => .inr (strV s)
theorem key_inj {a b : DK} (h : key a = key b) : a = b := by
  cases a <;> cases b <;> simp [key] at h
  · rw [h]
  · rw [strV_inj h]
theorem kV_key (k : DK) : kV (key k) = encS (match k with | .inl i => .int i | .inr s => .str s) := by
  cases k <;> rfl

def zipK (ks : List DK) (vs : List V) : List (Key × V) := (ks.map key).zip vs
def zipT (ks : List (List DK)) (vs : List V) : List (List Key × V) := (ks.map (·.map key)).zip vs

section
variable (K : PySem.W.Frag) (R : RT)
/-- a node of one's own -/
def StO (H : Hp) (a : Addr) : Kind → List V → Prop
  | .lst o, vs => o = true ∧ H a = some (.lst vs)
  | .scr, _ => False
  | .tup, _ => False
  | .dct o ks, vs => o = true ∧ ks.length = vs.length ∧ H a = some (.dK (zipK ks vs))
  | .dcT o ks, vs => o = true ∧ ks.length = vs.length ∧ H a = some (.dT (zipT ks vs))
  | .ins o c, vs => o = true ∧ vs.length ≤ (R.lay c).length ∧ ∃ dx, H a = some (.ins (R.cls c) dx ((R.lay c).zip vs))
/-- a tuple: tracked, or an object of the module -/
def TupAt (H : Hp) (a : Addr) (xs : List V) : Prop :=
  H a = some (.tup xs) ∨ ∃ (o : Obj) (its : Array Value) (n : Nat), K.lookup a = some o ∧ o.cls = .type "tuple" ∧ o.data = .seq its n ∧ its.size ≤ sizeLine ∧ Vals xs its.toList
/-- a node that stays -/
def StF (H : Hp) (a : Addr) : Kind → List V → Prop
  | .lst o, vs => o = false ∧ H a = some (.lst vs)
  | .scr, vs => SqL K H a vs
  | .tup, vs => TupAt K H a vs
  | .dct o ks, vs => o = false ∧ ks.length = vs.length ∧ H a = some (.dK (zipK ks vs))
  | .dcT o ks, vs => o = false ∧ ks.length = vs.length ∧ H a = some (.dT (zipT ks vs))
  | .ins o c, vs => o = false ∧ vs.length ≤ (R.lay c).length ∧ ∃ dx, H a = some (.ins (R.cls c) dx ((R.lay c).zip vs))
mutual
/-- v is the data d: what stays stands in F, what is one's own in H alone, at the places of the list -/
inductive Rep (F H : Hp) : V → D → List Addr → Prop
  | sc (s : Sc) : Rep F H (encS s) (.sc s) []
  | fz {a : Addr} {k : Kind} {vs : List V} {ds : List D} {A : List Addr} : StF K R F a k vs → RepL F H vs ds A → ((k = .tup ∧ F a = some (.tup vs)) ∨ A = []) → Rep F H (.ref a) (.nd k ds) A
  | ow {a : Addr} {k : Kind} {vs : List V} {ds : List D} {A : List Addr} : StO R H a k vs → F a = none → RepL F H vs ds A → Rep F H (.ref a) (.nd k ds) (a :: A)
inductive RepL (F H : Hp) : List V → List D → List Addr → Prop
  | nil : RepL F H [] [] []
  | cons {v : V} {d : D} {A : List Addr} {vs : List V} {ds : List D} {B : List Addr} : Rep F H v d A → RepL F H vs ds B → RepL F H (v :: vs) (d :: ds) (A ++ B)
end
end

def Kind.cold : Kind → Bool
  | .lst o => !o
  | .scr => true
  | .tup => false
  | .dct o _ => !o
  | .dcT o _ => !o
  | .ins o _ => !o
def Kind.fr : Kind → Kind
  | .lst _ => .lst false
  | .scr => .scr
  | .tup => .tup
  | .dct _ ks => .dct false ks
  | .dcT _ ks => .dcT false ks
  | .ins _ c => .ins false c
mutual
/-- nothing of it is one's own -/
def fz : D → Bool
  | .sc _ => true
  | .nd k ds => k.cold || (decide (k = .tup) && fzL ds)
def fzL : List D → Bool
  | [] => true
  | d :: r => fz d && fzL r
end
mutual
/-- given up: nothing of it is one's own any more -/
def frz : D → D
  | .sc s => .sc s
  | .nd k ds => if k.cold = true then .nd k ds else .nd k.fr (frzL ds)
def frzL : List D → List D
  | [] => []
  | d :: r => frz d :: frzL r
end
theorem frzL_map : ∀ l : List D, frzL l = l.map frz
  | [] => rfl
  | d :: r => by rw [frzL, frzL_map r]; rfl
theorem fzL_all : ∀ l : List D, fzL l = l.all fz
  | [] => rfl
  | d :: r => by rw [fzL, fzL_all r]; rfl

section
variable {K : PySem.W.Frag} {R : RT} {F F' H H' : Hp}
theorem TupAt.sq {a : Addr} {vs : List V} (h : TupAt K F a vs) : SqT K F a vs := h.elim (fun e => .inl (.inl e)) .inr
theorem TupAt.mono {a : Addr} {vs : List V} (e : Same F F') (h : TupAt K F a vs) : TupAt K F' a vs := h.elim (fun q => .inl (e _ _ q)) .inr
theorem StF.mono {a : Addr} {k : Kind} {vs : List V} (e : Same F F') (h : StF K R F a k vs) : StF K R F' a k vs := by
  cases k with
  | lst o => exact ⟨h.1, e _ _ h.2⟩
  | scr => exact e.seq h
  | tup => exact TupAt.mono e h
  | dct o ks => exact ⟨h.1, h.2.1, e _ _ h.2.2⟩
  | dcT o ks => exact ⟨h.1, h.2.1, e _ _ h.2.2⟩
  | ins o c =>
    obtain ⟨h1, h2, dx, h3⟩ := h
    exact ⟨h1, h2, dx, e _ _ h3⟩
theorem StO.at {a : Addr} {k : Kind} {vs : List V} (e : H' a = H a) (h : StO R H a k vs) : StO R H' a k vs := by
  cases k with
  | lst o => exact ⟨h.1, e.trans h.2⟩
  | scr => exact h
  | tup => exact h
  | dct o ks => exact ⟨h.1, h.2.1, e.trans h.2.2⟩
  | dcT o ks => exact ⟨h.1, h.2.1, e.trans h.2.2⟩
  | ins o c =>
    obtain ⟨h1, h2, dx, h3⟩ := h
    exact ⟨h1, h2, dx, e.trans h3⟩
theorem StO.there {a : Addr} {k : Kind} {vs : List V} (h : StO R H a k vs) : ∃ o, H a = some o := by
  cases k with
  | lst o => exact ⟨_, h.2⟩
  | scr => exact h.elim
  | tup => exact h.elim
  | dct o ks => exact ⟨_, h.2.2⟩
  | dcT o ks => exact ⟨_, h.2.2⟩
  | ins o c =>
    obtain ⟨h1, h2, dx, h3⟩ := h
    exact ⟨_, h3⟩
theorem StO.cold {a : Addr} {k : Kind} {vs : List V} (h : StO R H a k vs) : k.cold = false ∧ k ≠ .tup := by
  cases k with
  | lst o => exact ⟨by rw [h.1] <;> rfl, by intro z; cases z⟩
  | scr => exact h.elim
  | tup => exact h.elim
  | dct o ks => exact ⟨by rw [h.1] <;> rfl, by intro z; cases z⟩
  | dcT o ks => exact ⟨by rw [h.1] <;> rfl, by intro z; cases z⟩
  | ins o c => exact ⟨by rw [h.1] <;> rfl, by intro z; cases z⟩
theorem StO.frz {a : Addr} {k : Kind} {vs : List V} (e : F' a = H a) (h : StO R H a k vs) : StF K R F' a k.fr vs := by
  cases k with
  | lst o => exact ⟨rfl, e.trans h.2⟩
  | scr => exact h.elim
  | tup => exact h.elim
  | dct o ks => exact ⟨rfl, h.2.1, e.trans h.2.2⟩
  | dcT o ks => exact ⟨rfl, h.2.1, e.trans h.2.2⟩
  | ins o c =>
    obtain ⟨h1, h2, dx, h3⟩ := h
    exact ⟨rfl, h2, dx, e.trans h3⟩
theorem StF.cold {a : Addr} {k : Kind} {vs : List V} (h : StF K R F a k vs) : k = .tup ∨ k.cold = true := by
  cases k with
  | lst o => exact .inr (by rw [h.1] <;> rfl)
  | scr => exact .inr rfl
  | tup => exact .inl rfl
  | dct o ks => exact .inr (by rw [h.1] <;> rfl)
  | dcT o ks => exact .inr (by rw [h.1] <;> rfl)
  | ins o c => exact .inr (by rw [h.1] <;> rfl)
mutual
theorem Rep.mono (e : Same F F') {v : V} {d : D} {A : List Addr} (h : Rep K R F H v d A) : (∀ a ∈ A, H' a = H a ∧ F' a = none) → Rep K R F' H' v d A := fun g =>
  match h with
  | .sc s => .sc s
  | .fz h1 h2 h3 => .fz (h1.mono e) (RepL.mono e h2 g) (h3.imp (fun z => ⟨z.1, e _ _ z.2⟩) id)
  | .ow h1 h2 h3 => .ow (h1.at (g _ List.mem_cons_self).1) (g _ List.mem_cons_self).2 (RepL.mono e h3 fun a ha => g a (List.mem_cons_of_mem _ ha))
theorem RepL.mono (e : Same F F') {v : List V} {d : List D} {A : List Addr} (h : RepL K R F H v d A) : (∀ a ∈ A, H' a = H a ∧ F' a = none) → RepL K R F' H' v d A := fun g =>
  match h with
  | .nil => .nil
  | .cons h1 h2 => .cons (Rep.mono e h1 fun a ha => g a (List.mem_append_left _ ha)) (RepL.mono e h2 fun a ha => g a (List.mem_append_right _ ha))
end
mutual
theorem Rep.own {v : V} {d : D} {A : List Addr} (h : Rep K R F H v d A) : ∀ a ∈ A, (∃ o, H a = some o) ∧ F a = none :=
  match h with
  | .sc s => fun _ z => by cases z
  | .fz h1 h2 h3 => RepL.own h2
  | .ow h1 h2 h3 => fun a ha => by
    rcases List.mem_cons.mp ha with e | ha
    · rw [e]; exact ⟨h1.there, h2⟩
    · exact RepL.own h3 a ha
theorem RepL.own {v : List V} {d : List D} {A : List Addr} (h : RepL K R F H v d A) : ∀ a ∈ A, (∃ o, H a = some o) ∧ F a = none :=
  match h with
  | .nil => fun _ z => by cases z
  | .cons h1 h2 => fun a ha => (List.mem_append.mp ha).elim (Rep.own h1 a) (RepL.own h2 a)
end
mutual
theorem Rep.none {v : V} {d : D} {A : List Addr} (h : Rep K R F H v d A) : fz d = true → A = [] := fun z =>
  match h with
  | .sc s => rfl
  | .fz (k := k) h1 h2 h3 => by
    rcases h3 with ⟨e, _⟩ | e
    · subst e
      exact RepL.none h2 (by simpa [fz, Kind.cold] using z)
    · exact e
  | .ow h1 h2 h3 => by
    obtain ⟨c1, c2⟩ := h1.cold
    rw [fz, c1, Bool.false_or, decide_eq_false c2, Bool.false_and] at z
    cases z
theorem RepL.none {v : List V} {d : List D} {A : List Addr} (h : RepL K R F H v d A) : fzL d = true → A = [] := fun z =>
  match h with
  | .nil => rfl
  | .cons h1 h2 => by
    rw [fzL, Bool.and_eq_true] at z
    rw [Rep.none h1 z.1, RepL.none h2 z.2] <;> rfl
end
mutual
theorem Rep.frz (e : Same F F') {v : V} {d : D} {A : List Addr} (h : Rep K R F H v d A) : (∀ a ∈ A, F' a = H a) → Rep K R F' H' v (frz d) [] := fun g =>
  match h with
  | .sc s => .sc s
  | .fz (k := k) h1 h2 h3 => by
    rw [DL.frz]
    by_cases hc : k.cold = true
    · rw [if_pos hc]
      have e0 : _ = [] := h3.elim (fun z => by rw [z.1] at hc; cases hc) id
      subst e0
      exact .fz (h1.mono e) (RepL.mono e h2 fun a ha => by cases ha) (.inr rfl)
    · rw [if_neg hc]
      have ek : k = .tup := (StF.cold h1).elim id fun z => absurd z hc
      subst ek
      exact .fz (k := .tup) (StF.mono e h1) (RepL.frz e h2 g) (.inr rfl)
  | .ow (k := k) h1 h2 h3 => by
    rw [DL.frz, if_neg (by rw [h1.cold.1]; decide)]
    exact .fz (h1.frz (g _ List.mem_cons_self)) (RepL.frz e h3 fun a ha => g a (List.mem_cons_of_mem _ ha)) (.inr rfl)
theorem RepL.frz (e : Same F F') {v : List V} {d : List D} {A : List Addr} (h : RepL K R F H v d A) : (∀ a ∈ A, F' a = H a) → RepL K R F' H' v (frzL d) [] := fun g =>
  match h with
  | .nil => .nil
  | .cons h1 h2 => .cons (A := []) (B := []) (Rep.frz e h1 fun a ha => g a (List.mem_append_left _ ha)) (RepL.frz e h2 fun a ha => g a (List.mem_append_right _ ha))
end
end

/-! ## heaps that grow -/
structure Grow (F H F' H' : Hp) : Prop where
  hh : Same H H'
  ff : Same F F'
  fh : Same F' H'
  nw : ∀ a o, H a = some o → F' a = F a
section
variable {K : PySem.W.Frag} {R : RT} {F F' F'' H H' H'' : Hp}
theorem Grow.refl (h : Same F H) : Grow F H F H := ⟨.refl _, .refl _, h, fun _ _ _ => rfl⟩
theorem Grow.trans (a : Grow F H F' H') (b : Grow F' H' F'' H'') : Grow F H F'' H'' :=
  ⟨a.hh.trans b.hh, a.ff.trans b.ff, b.fh, fun x o h => (b.nw x o (a.hh x o h)).trans (a.nw x o h)⟩
theorem Grow.free (a : Grow F H F' H') {p : Addr} (h : H' p = none) : H p = none := a.hh.free h
theorem Rep.grow {v : V} {d : D} {A : List Addr} (h : Rep K R F H v d A) (g : Grow F H F' H') : Rep K R F' H' v d A := h.mono g.ff fun a ha => by
  obtain ⟨⟨o, ho⟩, hf⟩ := h.own a ha
  exact ⟨by rw [ho]; exact g.hh _ _ ho, (g.nw _ _ ho).trans hf⟩
theorem RepL.grow {v : List V} {d : List D} {A : List Addr} (h : RepL K R F H v d A) (g : Grow F H F' H') : RepL K R F' H' v d A := h.mono g.ff fun a ha => by
  obtain ⟨⟨o, ho⟩, hf⟩ := h.own a ha
  exact ⟨by rw [ho]; exact g.hh _ _ ho, (g.nw _ _ ho).trans hf⟩
theorem same_upd {H : Hp} {p : Addr} {o : HO} (h : H p = none) : Same H (upd H p o) := fun b x e => by
  rw [upd_ne (ne_of_none e h)]
  exact e
/-- a new object of one's own -/
theorem Grow.new {p : Addr} {o : HO} (s : Same F H) (h : H p = none) : Grow F H F (upd H p o) := ⟨same_upd h, .refl _, s.trans (same_upd h), fun _ _ _ => rfl⟩
/-- a new object that stays -/
theorem Grow.newF {p : Addr} {o : HO} (s : Same F H) (h : H p = none) : Grow F H (upd F p o) (upd H p o) := by
  refine ⟨same_upd h, same_upd (s.free h), fun a u e => ?_, fun a u e => upd_ne (ne_of_none e h)⟩
  by_cases ha : a = p
  · subst ha; rw [upd_same] at e ⊢; exact e
  · rw [upd_ne ha] at e ⊢; exact s a u e
theorem same_none {F H : Hp} (s : Same F H) {p : Addr} (h : H p = none) : F p = none := s.free h
end

/-! ## slots -/
abbrev Sl := List (Option D)
structure EnvR (K : PySem.W.Frag) (R : RT) (F H : Hp) (σ : St) (env : Sl) (As : Nat → List Addr) : Prop where
  len : σ.length = env.length
  val : ∀ i d, env[i]? = some (some d) → ∃ v, σ[i]? = some (some v) ∧ Rep K R F H v d (As i)
  emp : ∀ i, (∀ d, env[i]? ≠ some (some d)) → As i = []
  dis : ∀ i j a, i ≠ j → a ∈ As i → a ∉ As j
  nod : ∀ i, (As i).Nodup
section
variable {K : PySem.W.Frag} {R : RT} {F F' H H' : Hp} {σ : St} {env : Sl} {As : Nat → List Addr}
theorem EnvR.own (h : EnvR K R F H σ env As) {i : Nat} {a : Addr} (ha : a ∈ As i) : (∃ o, H a = some o) ∧ F a = none := by
  cases e : env[i]? with
  | none => rw [h.emp i (fun d z => by rw [e] at z; cases z)] at ha; cases ha
  | some o =>
    cases o with
    | none => rw [h.emp i (fun d z => by rw [e] at z; cases z)] at ha; cases ha
    | some d =>
      obtain ⟨v, _, r⟩ := h.val i d e
      exact r.own a ha
theorem EnvR.grow (h : EnvR K R F H σ env As) (g : Grow F H F' H') : EnvR K R F' H' σ env As :=
  ⟨h.len, fun i d e => let ⟨v, e1, r⟩ := h.val i d e; ⟨v, e1, r.grow g⟩, h.emp, h.dis, h.nod⟩
/-- a slot is stored -/
theorem EnvR.set (h : EnvR K R F H σ env As) {i : Nat} {v : V} {d : D} {B : List Addr} (hi : i < env.length) (r : Rep K R F H v d B) (nb : B.Nodup) (db : ∀ j a, j ≠ i → a ∈ B → a ∉ As j) :
    EnvR K R F H (σ.set i (some v)) (env.set i (some d)) (fun j => if j = i then B else As j) := by
  refine ⟨by simpa using h.len, fun j x e => ?_, fun j hj => ?_, fun j l a hjl ha => ?_, fun j => ?_⟩
  · by_cases hji : j = i
    · subst hji
      rw [List.getElem?_set_self hi] at e
      cases e
      exact ⟨v, by rw [List.getElem?_set_self (by rw [h.len]; exact hi)], by simpa using r⟩
    · rw [List.getElem?_set_ne (Ne.symm hji)] at e
      obtain ⟨u, e1, r1⟩ := h.val j x e
      exact ⟨u, by rw [List.getElem?_set_ne (Ne.symm hji)]; exact e1, by simpa [hji] using r1⟩
  · by_cases hji : j = i
    · subst hji
      exact absurd (List.getElem?_set_self hi) (hj d)
    · simp only [if_neg hji]
      exact h.emp j fun x e => hj x (by rw [List.getElem?_set_ne (Ne.symm hji)]; exact e)
  · by_cases h1 : j = i
    · subst h1
      simp only [if_true] at ha
      simp only [if_neg (Ne.symm hjl)]
      exact db l a (Ne.symm hjl) ha
    · simp only [if_neg h1] at ha
      by_cases h2 : l = i
      · subst h2
        simp only [if_true]
        exact fun z => db j a h1 z ha
      · simp only [if_neg h2]
        exact h.dis j l a hjl ha
  · by_cases h1 : j = i
    · simp only [if_pos h1]; exact nb
    · simp only [if_neg h1]; exact h.nod j
/-- fresh things stand apart -/
theorem EnvR.apart (h : EnvR K R F H σ env As) {B : List Addr} {H0 : Hp} (s : Same H H0) (fr : ∀ a ∈ B, H a = none) : ∀ j a, a ∈ B → a ∉ As j := fun j a ha hj => by
  obtain ⟨⟨o, ho⟩, _⟩ := h.own hj
  rw [fr a ha] at ho; cases ho
end

/-! ## exceptions as data: the class's number, what it was made with -/
structure EX where
  c : Nat
  args : List D
def RepX (K : PySem.W.Frag) (R : RT) (F : Hp) (cls : Value) (dx : Option Addr) (x : EX) : Prop :=
  cls = .ref (R.cls x.c) ∧ ((x.args = [] ∧ dx = none) ∨ ∃ d vs, dx = some d ∧ vs.length = (R.lay x.c).length ∧ F d = some (.xd ((R.lay x.c).zip vs)) ∧ RepL K R F F vs x.args [])

/-! ## what an expression tells, over plain data; the Bool: it may be (or hold) what a slot owns -/
abbrev TEd := Sl → (Bool → D → Prop) → (EX → Prop) → Prop
abbrev TTd := Sl → (Bool → Prop) → (EX → Prop) → Prop
abbrev TAd := Sl → (List D → Prop) → (EX → Prop) → Prop
def safe (b : Bool) (d : D) : Prop := b = false ∨ fz d = true
def Fresh (H : Hp) (B : List Addr) : Prop := B.Nodup ∧ ∀ a ∈ B, H a = none

section
variable (K : PySem.W.Frag) (R : RT) (W : WX)
def ExW (F H : Hp) (σ : St) (Ed : EX → Prop) : Prop := ∀ F' H' cls dx x, Grow F H F' H' → RepX K R F' cls dx x → Ed x → W cls dx σ H'
def LE (t : TE) (td : TEd) : Prop := ∀ (F H : Hp) (σ : St) (env : Sl) (As : Nat → List Addr) (Q : VK) (Qd : Bool → D → Prop) (Ed : EX → Prop),
  Same F H → EnvR K R F H σ env As → td env Qd Ed →
  (∀ F' H' v d B b, Grow F H F' H' → Rep K R F' H' v d B → (b = false → Fresh H B) → Qd b d → Q v H') → ExW K R W F H σ Ed → t σ H Q
def LT (t : TT) (td : TTd) : Prop := ∀ (F H : Hp) (σ : St) (env : Sl) (As : Nat → List Addr) (Q : Bool → Hp → Prop) (Qd : Bool → Prop) (Ed : EX → Prop),
  Same F H → EnvR K R F H σ env As → td env Qd Ed → (∀ F' H' c, Grow F H F' H' → Qd c → Q c H') → ExW K R W F H σ Ed → t σ H Q
/-- arguments: all may be given away -/
def LA (t : TA) (td : TAd) : Prop := ∀ (F H : Hp) (σ : St) (env : Sl) (As : Nat → List Addr) (Q : List V → Hp → Prop) (Qd : List D → Prop) (Ed : EX → Prop),
  Same F H → EnvR K R F H σ env As → td env Qd Ed →
  (∀ F' H' vs ds B, Grow F H F' H' → RepL K R F' H' vs ds B → Fresh H B → Qd ds → Q vs H') → ExW K R W F H σ Ed → t σ H Q
/-- arguments that are only looked at -/
def LB (t : TA) (td : TAd) : Prop := ∀ (F H : Hp) (σ : St) (env : Sl) (As : Nat → List Addr) (Q : List V → Hp → Prop) (Qd : List D → Prop) (Ed : EX → Prop),
  Same F H → EnvR K R F H σ env As → td env Qd Ed →
  (∀ F' H' vs ds B, Grow F H F' H' → RepL K R F' H' vs ds B → Qd ds → Q vs H') → ExW K R W F H σ Ed → t σ H Q
end
/-- which exceptions are told: all, or those made where nothing was handled -/
def Tk : Bool → Cx → WX → Prop
  | false, X, W => L2.Takes X W
  | true, X, W => L2N.Takes X W
theorem tk0 {M : Bool} {X : Cx} : Tk M X (fun _ _ _ _ => False) := by
  cases M with
  | false =>
    intro _ _ x
    obtain ⟨_, _, _, _, _, _, _, _, _, _, _, _, _, _, _, _, z⟩ := x
    exact z.elim
  | true =>
    intro _ _ x
    obtain ⟨_, _, _, _, _, _, _, _, _, _, _, _, _, _, _, _, z⟩ := x
    exact z.elim
def CXm : Bool → Program → World → CXT
  | false, P, w => L2.CX P w
  | true, P, w => L2N.CX P w
section
variable (M : Bool) (X : Cx) (R : RT)
def DE (e : Expr) (td : TEd) : Prop := ∀ W, Tk M X W → ∃ t, PE X e t ∧ LE X.K R W t td
def DT (e : Expr) (td : TTd) : Prop := ∀ W, Tk M X W → ∃ t, PT X e t ∧ LT X.K R W t td
def DW (e : Expr) (td : TTd) : Prop := ∀ W, Tk M X W → ∃ t, PW X e t ∧ LT X.K R W t td
def DA (es : List Expr) (td : TAd) : Prop := ∀ W, Tk M X W → ∃ t, PA X es t ∧ LA X.K R W t td
def DB (es : List Expr) (td : TAd) : Prop := ∀ W, Tk M X W → ∃ t, PA X es t ∧ LB X.K R W t td
end
theorem ExW.grow {K : PySem.W.Frag} {R : RT} {W : WX} {F H F' H' : Hp} {σ : St} {Ed : EX → Prop} (h : ExW K R W F H σ Ed) (g : Grow F H F' H') : ExW K R W F' H' σ Ed :=
  fun F2 H2 cls dx x g2 r e => h F2 H2 cls dx x (g.trans g2) r e
theorem Fresh.back {F H F' H' : Hp} {B : List Addr} (h : Fresh H' B) (g : Grow F H F' H') : Fresh H B := ⟨h.1, fun a ha => g.free (h.2 a ha)⟩
theorem Fresh.nil {H : Hp} : Fresh H [] := ⟨List.nodup_nil, fun _ z => by cases z⟩
/-- of what may be given away -/
theorem Fresh.of_safe {K : PySem.W.Frag} {R : RT} {F H H0 : Hp} {v : V} {d : D} {B : List Addr} {b : Bool} (r : Rep K R F H v d B) (h : b = false → Fresh H0 B) (s : safe b d) : Fresh H0 B := by
  rcases s with s | s
  · exact h s
  · rw [r.none s]; exact .nil
theorem Fresh.append {K : PySem.W.Frag} {R : RT} {F H F1 H1 : Hp} {v : V} {d : D} {A B : List Addr} (g : Grow F H F1 H1) (r : Rep K R F1 H1 v d A) (h1 : Fresh H A) (h2 : Fresh H1 B) : Fresh H (A ++ B) := by
  refine ⟨List.nodup_append.mpr ⟨h1.1, h2.1, fun a ha b hb e => ?_⟩, fun a ha => ?_⟩
  · subst e
    obtain ⟨⟨o, ho⟩, _⟩ := r.own a ha
    rw [h2.2 a hb] at ho; cases ho
  · rcases List.mem_append.mp ha with ha | ha
    · exact h1.2 a ha
    · exact g.free (h2.2 a ha)
end DL

set_option Elab.async false
set_option linter.all false
set_option maxRecDepth 100000
set_option maxHeartbeats 1000000
namespace DL
open PySem PySem.Spec L2
variable {M : Bool}

/-! ## names, constants, displays -/
def dVar (i : Nat) : TEd := fun env Q _ => match env[i]? with
  | some (some d) => Q true d
  | _ => False
def dC (s : Sc) : TEd := fun _ Q _ => Q false (.sc s)
def dNil : TAd := fun _ Q _ => Q []
def dCons (ta : TEd) (tr : TAd) : TAd := fun env Q E => ta env (fun b d => safe b d ∧ tr env (fun ds => Q (d :: ds)) E) E
def bNil : TAd := fun _ Q _ => Q []
def bCons (ta : TEd) (tr : TAd) : TAd := fun env Q E => ta env (fun _ d => tr env (fun ds => Q (d :: ds)) E) E
def dLst (ta : TAd) : TEd := fun env Q E => ta env (fun ds => ds.length ≤ 1000 ∧ Q false (.lst true ds)) E
def dTup (ta : TAd) : TEd := fun env Q E => ta env (fun ds => ds.length ≤ 1000 ∧ Q false (.tup ds)) E
theorem sz1000 {n : Nat} (h : n ≤ 1000) : n ≤ sizeLine := by rw [sizeLine_eq]; omega

section
variable {K : PySem.W.Frag} {R : RT} {W : WX}
theorem le_var {i : Nat} : LE K R W (tVar i) (dVar i) := by
  intro F H σ env As Q Qd Ed s er h q _
  unfold dVar at h
  split at h
  · rename_i d e
    obtain ⟨v, e1, r⟩ := er.val i d e
    exact ⟨v, e1, q F H v d (As i) true (.refl s) r (by intro z; cases z) h⟩
  · exact h.elim
theorem le_c {s : Sc} : LE K R W (tC (encS s)) (dC s) := fun F H σ env As Q Qd Ed sm er h q _ => q F H _ _ [] false (.refl sm) (.sc s) (fun _ => .nil) h
theorem la_nil : LA K R W tNil dNil := fun F H σ env As Q Qd Ed sm er h q _ => q F H [] [] [] (.refl sm) .nil .nil h
theorem la_cons {ta : TE} {td : TEd} {ts : TA} {tds : TAd} (h1 : LE K R W ta td) (h2 : LA K R W ts tds) : LA K R W (tCons ta ts) (dCons td tds) := by
  intro F H σ env As Q Qd Ed s er h q x
  refine h1 F H σ env As _ _ Ed s er h (fun F1 H1 v d B b g1 r1 f1 hd => ?_) x
  obtain ⟨sf, hd⟩ := hd
  have fB := Fresh.of_safe r1 f1 sf
  refine h2 F1 H1 σ env As _ _ Ed g1.fh (er.grow g1) hd (fun F2 H2 vs ds C g2 r2 f2 hq => ?_) (x.grow g1)
  exact q F2 H2 (v :: vs) (d :: ds) (B ++ C) (g1.trans g2) (.cons (r1.grow g2) r2) (Fresh.append g1 r1 fB f2) hq
theorem lb_nil : LB K R W tNil bNil := fun F H σ env As Q Qd Ed sm er h q _ => q F H [] [] [] (.refl sm) .nil h
theorem lb_cons {ta : TE} {td : TEd} {ts : TA} {tds : TAd} (h1 : LE K R W ta td) (h2 : LB K R W ts tds) : LB K R W (tCons ta ts) (bCons td tds) := by
  intro F H σ env As Q Qd Ed s er h q x
  refine h1 F H σ env As _ _ Ed s er h (fun F1 H1 v d B b g1 r1 f1 hd => ?_) x
  refine h2 F1 H1 σ env As _ _ Ed g1.fh (er.grow g1) hd (fun F2 H2 vs ds C g2 r2 hq => ?_) (x.grow g1)
  exact q F2 H2 (v :: vs) (d :: ds) (B ++ C) (g1.trans g2) (.cons (r1.grow g2) r2) hq
theorem le_lst {ta : TA} {td : TAd} (h1 : LA K R W ta td) : LE K R W (tLst ta) (dLst td) := by
  intro F H σ env As Q Qd Ed s er h q x
  refine h1 F H σ env As _ _ Ed s er h (fun F1 H1 vs ds B g1 r1 f1 hd => ?_) x
  obtain ⟨hl, hq⟩ := hd
  have hlen : vs.length = ds.length := by
    clear hq hl q x h f1 g1
    generalize hA : B = B' at r1
    clear hA
    induction ds generalizing vs B' with
    | nil => cases r1; rfl
    | cons d r ih => cases r1 with | cons a b => simp [ih _ _ b]
  refine ⟨sz1000 (by rw [hlen]; exact hl), fun p hp => ?_⟩
  have g2 : Grow F1 H1 F1 (upd H1 p (.lst vs)) := Grow.new g1.fh hp
  refine q F1 _ (.ref p) (.lst true ds) (p :: B) false (g1.trans g2) (.ow (k := .lst true) ⟨rfl, upd_same⟩ (same_none g1.fh hp) (r1.grow g2)) (fun _ => ⟨List.nodup_cons.mpr ⟨fun z => ?_, f1.1⟩, fun a ha => ?_⟩) hq
  · obtain ⟨⟨o, ho⟩, _⟩ := r1.own p z
    rw [hp] at ho; cases ho
  · rcases List.mem_cons.mp ha with e | ha
    · rw [e]; exact g1.free hp
    · exact f1.2 a ha
theorem RepL.length {F H : Hp} {vs : List V} {ds : List D} {B : List Addr} (r : RepL K R F H vs ds B) : vs.length = ds.length := by
  generalize hA : B = B' at r
  clear hA
  induction ds generalizing vs B' with
  | nil => cases r; rfl
  | cons d t ih => cases r with | cons a b => simp [ih _ b]
theorem le_tup {ta : TA} {td : TAd} (h1 : LA K R W ta td) : LE K R W (tTup ta) (dTup td) := by
  intro F H σ env As Q Qd Ed s er h q x
  refine h1 F H σ env As _ _ Ed s er h (fun F1 H1 vs ds B g1 r1 f1 hd => ?_) x
  obtain ⟨hl, hq⟩ := hd
  refine ⟨sz1000 (by rw [r1.length]; exact hl), fun p hp => ?_⟩
  have g2 : Grow F1 H1 (upd F1 p (.tup vs)) (upd H1 p (.tup vs)) := Grow.newF g1.fh hp
  exact q _ _ (.ref p) (.tup ds) B false (g1.trans g2) (.fz (k := .tup) (.inl upd_same) (r1.grow g2) (.inl ⟨rfl, upd_same⟩)) (fun _ => f1) hq
end

section
variable {X : Cx} {R : RT} {e : Expr} {es : List Expr} {td : TEd} {tds : TAd} {pos : Pos}
theorem de_var (i : Nat) {x : Str} (hN : X.N[i]? = some x := by rfl) (hv : Vis X.env.scope x := by first | exact Or.inl rfl | exact Or.inr (Or.inl rfl) | exact Or.inr (Or.inr rfl)) (hd : (x == ("__debug__" : Str)) = false := by decide)
    (hcd : (x == ("__classdict__" : Str)) = false := by decide) : DE M X R (.Name x pos) (dVar i) := fun W _ => ⟨_, pe_var hN hv hd hcd, le_var⟩
theorem de_int {i : Int} {j : Nat} : DE M X R (.Constant (.int i) j pos) (dC (.int i)) := fun W _ => ⟨_, pe_int, le_c (s := .int i)⟩
theorem de_bl {b : Bool} {j : Nat} : DE M X R (.Constant (.bool b) j pos) (dC (.bl b)) := fun W _ => ⟨_, pe_bl, le_c (s := .bl b)⟩
theorem de_non {j : Nat} : DE M X R (.Constant .none j pos) (dC .non) := fun W _ => ⟨_, pe_non, le_c (s := .non)⟩
theorem de_str {x : Str} {s : Txt} {j : Nat} (h : x = strV s := by rfl) : DE M X R (.Constant (.str x) j pos) (dC (.str s)) := fun W _ => by
  subst h
  exact ⟨_, pe_str, le_c (s := .str s)⟩
theorem da_nil : DA M X R [] dNil := fun W _ => ⟨_, pa_nil, la_nil⟩
theorem da_cons (h1 : DE M X R e td) (h2 : DA M X R es tds) (hs : starEach (e :: es) X.env = (false, eval e X.env) :: starEach es X.env := by rfl) : DA M X R (e :: es) (dCons td tds) := fun W tk =>
  let ⟨_, a1, a2⟩ := h1 W tk; let ⟨_, b1, b2⟩ := h2 W tk; ⟨_, pa_cons a1 b1 hs, la_cons a2 b2⟩
theorem db_nil : DB M X R [] bNil := fun W _ => ⟨_, pa_nil, lb_nil⟩
theorem db_cons (h1 : DE M X R e td) (h2 : DB M X R es tds) (hs : starEach (e :: es) X.env = (false, eval e X.env) :: starEach es X.env := by rfl) : DB M X R (e :: es) (bCons td tds) := fun W tk =>
  let ⟨_, a1, a2⟩ := h1 W tk; let ⟨_, b1, b2⟩ := h2 W tk; ⟨_, pa_cons a1 b1 hs, lb_cons a2 b2⟩
theorem de_lst (h : DA M X R es tds) : DE M X R (.List es pos) (dLst tds) := fun W tk => let ⟨_, a1, a2⟩ := h W tk; ⟨_, pe_lst a1, le_lst a2⟩
theorem de_tup {x1 : Nat} (h : DA M X R es tds) : DE M X R (.Tuple es x1 pos) (dTup tds) := fun W tk => let ⟨_, a1, a2⟩ := h W tk; ⟨_, pe_tup a1, le_tup a2⟩
end

/-! ## operators by values -/
/-- an answer: the data, from a heap that may grow -/
def Out (K : PySem.W.Frag) (R : RT) (F H : Hp) (Qd : D → Prop) (Q : VK) : Prop := ∀ F' H' v z C, Grow F H F' H' → Rep K R F' H' v z C → Fresh H C → Qd z → Q v H'
abbrev G2 := D → D → (D → Prop) → Prop
def OpL (X : Cx) (R : RT) (f : Value → Value → Sem Value) (g : G2) : Prop := ∃ r : R2, OpR X f r ∧ ∀ (F H : Hp) (x y : V) (d e : D) (A B : List Addr) (Q : VK) (Qd : D → Prop),
  Same F H → Rep X.K R F H x d A → Rep X.K R F H y e B → g d e Qd → Out X.K R F H Qd Q → r x y H Q
def dBin (g : G2) (ta tb : TEd) : TEd := fun env Q E => ta env (fun _ d => tb env (fun _ e => g d e (Q false)) E) E
def isB : D → (Bool → Prop) → Prop
  | .sc (.bl c), Q => Q c
  | _, _ => False
def dTst (t : TEd) : TTd := fun env Q E => t env (fun _ d => isB d Q) E
theorem isB_of {d : D} {Q : Bool → Prop} (h : isB d Q) : ∃ c, d = .bl c ∧ Q c := by
  unfold isB at h
  split at h
  · exact ⟨_, rfl, h⟩
  · exact h.elim
section
variable {X : Cx} {R : RT} {a b : Expr} {ta tb : TEd} {pos : Pos} {g : G2}
theorem le_bin {W : WX} {r : R2} {t1 t2 : TE} (hr : ∀ (F H : Hp) (x y : V) (d e : D) (A B : List Addr) (Q : VK) (Qd : D → Prop),
  Same F H → Rep X.K R F H x d A → Rep X.K R F H y e B → g d e Qd → Out X.K R F H Qd Q → r x y H Q) (h1 : LE X.K R W t1 ta) (h2 : LE X.K R W t2 tb) : LE X.K R W (tOp r t1 t2) (dBin g ta tb) := by
  intro F H σ env As Q Qd Ed s er h q x
  refine h1 F H σ env As _ _ Ed s er h (fun F1 H1 v d B b g1 r1 f1 hd => ?_) x
  refine h2 F1 H1 σ env As _ _ Ed g1.fh (er.grow g1) hd (fun F2 H2 w e C b2 g2 r2 f2 hq => ?_) (x.grow g1)
  exact hr F2 H2 v w d e B C Q (Qd false) g2.fh (r1.grow g2) r2 hq fun F3 H3 z dz Cz g3 r3 f3 hz => q F3 H3 z dz Cz false ((g1.trans g2).trans g3) r3 (fun _ => f3.back (g1.trans g2)) hz
theorem de_bin {op : Operator} (ho : OpL X R (binaryOp op) g) (h1 : DE M X R a ta) (h2 : DE M X R b tb) : DE M X R (.BinOp a op b pos) (dBin g ta tb) := fun W tk => by
  obtain ⟨r, o1, o2⟩ := ho
  obtain ⟨_, a1, a2⟩ := h1 W tk
  obtain ⟨_, b1, b2⟩ := h2 W tk
  exact ⟨_, pe_op o1 a1 b1, le_bin o2 a2 b2⟩
theorem de_cmp {op : CmpOp} (ho : OpL X R (compareOp op) g) (h1 : DE M X R a ta) (h2 : DE M X R b tb) (hm : behindInMarks op b = false := by first | exact nomark _ | rfl) : DE M X R (.Compare a [op] [b] pos) (dBin g ta tb) := fun W tk => by
  obtain ⟨r, o1, o2⟩ := ho
  obtain ⟨_, a1, a2⟩ := h1 W tk
  obtain ⟨_, b1, b2⟩ := h2 W tk
  exact ⟨_, pe_cmpR o1 a1 b1 hm, le_bin o2 a2 b2⟩
theorem lt_tst {W : WX} {t : TE} (h1 : LE X.K R W t ta) : LT X.K R W (tTest t) (dTst ta) := by
  intro F H σ env As Q Qd Ed s er h q x
  refine h1 F H σ env As _ _ Ed s er h (fun F1 H1 v d B b g1 r1 f1 hd => ?_) x
  obtain ⟨c, rfl, hq⟩ := isB_of hd
  cases r1
  exact ⟨c, rfl, q F1 H1 c g1 hq⟩
theorem dt_cmp {op : CmpOp} (ho : OpL X R (compareOp op) g) (h1 : DE M X R a ta) (h2 : DE M X R b tb) (hm : behindInMarks op b = false := by first | exact nomark _ | rfl) : DT M X R (.Compare a [op] [b] pos) (dTst (dBin g ta tb)) := fun W tk => by
  obtain ⟨r, o1, o2⟩ := ho
  obtain ⟨_, a1, a2⟩ := h1 W tk
  obtain ⟨_, b1, b2⟩ := h2 W tk
  exact ⟨_, pt_cmpR o1 a1 b1 hm, lt_tst (le_bin o2 a2 b2)⟩
/-- any expression that gives a bool, as a test -/
theorem dt_val {e : Expr} {t : TEd} (h : DE M X R e t) (he : ∀ whole, isTrue e X.env whole = (do let v ← whole; standAt e.pos; holding [v] (truthy v)) := by intro _; rfl) : DT M X R e (dTst t) := fun W tk => by
  obtain ⟨_, a1, a2⟩ := h W tk
  exact ⟨_, pt_val a1 he, lt_tst a2⟩
end

/-! ### and, or, not -/
def dAndT (t u : TTd) : TTd := fun env Q E => t env (fun c => if c = true then u env Q E else Q false) E
def dOrT (t u : TTd) : TTd := fun env Q E => t env (fun c => if c = true then Q true else u env Q E) E
def dNotT (t : TTd) : TTd := fun env Q E => t env (fun c => Q (!c)) E
def dAnd (ta tb : TEd) : TEd := fun env Q E => ta env (fun _ d => isB d fun c => if c = true then tb env Q E else Q false (.bl false)) E
def dOr (ta tb : TEd) : TEd := fun env Q E => ta env (fun _ d => isB d fun c => if c = true then Q false (.bl true) else tb env Q E) E
def dNot (ta : TEd) : TEd := fun env Q E => ta env (fun _ d => isB d fun c => Q false (.bl (!c))) E
def dIf (t : TTd) (ta tb : TEd) : TEd := fun env Q E => t env (fun c => if c = true then ta env Q E else tb env Q E) E
section
variable {X : Cx} {R : RT} {a b : Expr} {rest : List Expr} {ta tb : TEd} {t u : TTd} {pos : Pos}
theorem lt_and {K : PySem.W.Frag} {W : WX} {t1 t2 : TT} (h1 : LT K R W t1 t) (h2 : LT K R W t2 u) : LT K R W (tAnd t1 t2) (dAndT t u) := by
  intro F H σ env As Q Qd Ed s er h q x
  refine h1 F H σ env As _ _ Ed s er h (fun F1 H1 c g1 hd => ?_) x
  cases c with
  | true =>
    rw [if_pos rfl] at hd ⊢
    exact h2 F1 H1 σ env As _ _ Ed g1.fh (er.grow g1) hd (fun F2 H2 c g2 hq => q F2 H2 c (g1.trans g2) hq) (x.grow g1)
  | false =>
    rw [if_neg Bool.false_ne_true] at hd ⊢
    exact q F1 H1 false g1 hd
theorem lt_or {K : PySem.W.Frag} {W : WX} {t1 t2 : TT} (h1 : LT K R W t1 t) (h2 : LT K R W t2 u) : LT K R W (tOr t1 t2) (dOrT t u) := by
  intro F H σ env As Q Qd Ed s er h q x
  refine h1 F H σ env As _ _ Ed s er h (fun F1 H1 c g1 hd => ?_) x
  cases c with
  | false =>
    rw [if_neg Bool.false_ne_true] at hd ⊢
    exact h2 F1 H1 σ env As _ _ Ed g1.fh (er.grow g1) hd (fun F2 H2 c g2 hq => q F2 H2 c (g1.trans g2) hq) (x.grow g1)
  | true =>
    rw [if_pos rfl] at hd ⊢
    exact q F1 H1 true g1 hd
theorem lt_not {K : PySem.W.Frag} {W : WX} {t1 : TT} (h1 : LT K R W t1 t) : LT K R W (tNot t1) (dNotT t) := by
  intro F H σ env As Q Qd Ed s er h q x
  exact h1 F H σ env As _ _ Ed s er h (fun F1 H1 c g1 hd => q F1 H1 (!c) g1 hd) x
theorem dw_and1 (h : DT M X R a t) : DW M X R (.BoolOp .And [a] pos) t := fun W tk => let ⟨_, a1, a2⟩ := h W tk; ⟨_, pw_and1 a1, a2⟩
theorem dw_or1 (h : DT M X R a t) : DW M X R (.BoolOp .Or [a] pos) t := fun W tk => let ⟨_, a1, a2⟩ := h W tk; ⟨_, pw_or1 a1, a2⟩
theorem dw_and (h1 : DT M X R a t) (h2 : DW M X R (.BoolOp .And (b :: rest) pos) u) : DW M X R (.BoolOp .And (a :: b :: rest) pos) (dAndT t u) := fun W tk =>
  let ⟨_, a1, a2⟩ := h1 W tk; let ⟨_, b1, b2⟩ := h2 W tk; ⟨_, pw_and a1 b1, lt_and a2 b2⟩
theorem dw_or (h1 : DT M X R a t) (h2 : DW M X R (.BoolOp .Or (b :: rest) pos) u) : DW M X R (.BoolOp .Or (a :: b :: rest) pos) (dOrT t u) := fun W tk =>
  let ⟨_, a1, a2⟩ := h1 W tk; let ⟨_, b1, b2⟩ := h2 W tk; ⟨_, pw_or a1 b1, lt_or a2 b2⟩
theorem dt_w (h : DW M X R a t) : DT M X R a t := fun W tk => let ⟨_, a1, a2⟩ := h W tk; ⟨_, a1.pt, a2⟩
theorem dt_not (h : DT M X R a t) : DT M X R (.UnaryOp .Not a pos) (dNotT t) := fun W tk => let ⟨_, a1, a2⟩ := h W tk; ⟨_, pt_not a1, lt_not a2⟩
theorem le_andV {K : PySem.W.Frag} {W : WX} {t1 t2 : TE} (h1 : LE K R W t1 ta) (h2 : LE K R W t2 tb) : LE K R W (tAndV t1 t2) (dAnd ta tb) := by
  intro F H σ env As Q Qd Ed s er h q x
  refine h1 F H σ env As _ _ Ed s er h (fun F1 H1 v d B b g1 r1 f1 hd => ?_) x
  obtain ⟨c, ec, hc⟩ := isB_of hd
  clear hd
  subst ec
  cases r1
  refine ⟨c, rfl, ?_⟩
  have hd := hc
  clear hc
  cases c with
  | true =>
    rw [if_pos rfl] at hd ⊢
    exact h2 F1 H1 σ env As _ _ Ed g1.fh (er.grow g1) hd (fun F2 H2 v d B b g2 r2 f2 hq => q F2 H2 v d B b (g1.trans g2) r2 (fun z => (f2 z).back g1) hq) (x.grow g1)
  | false =>
    rw [if_neg Bool.false_ne_true] at hd ⊢
    exact q F1 H1 _ _ [] false g1 (.sc (.bl false)) (fun _ => .nil) hd
theorem le_orV {K : PySem.W.Frag} {W : WX} {t1 t2 : TE} (h1 : LE K R W t1 ta) (h2 : LE K R W t2 tb) : LE K R W (tOrV t1 t2) (dOr ta tb) := by
  intro F H σ env As Q Qd Ed s er h q x
  refine h1 F H σ env As _ _ Ed s er h (fun F1 H1 v d B b g1 r1 f1 hd => ?_) x
  obtain ⟨c, ec, hc⟩ := isB_of hd
  clear hd
  subst ec
  cases r1
  refine ⟨c, rfl, ?_⟩
  have hd := hc
  clear hc
  cases c with
  | false =>
    rw [if_neg Bool.false_ne_true] at hd ⊢
    exact h2 F1 H1 σ env As _ _ Ed g1.fh (er.grow g1) hd (fun F2 H2 v d B b g2 r2 f2 hq => q F2 H2 v d B b (g1.trans g2) r2 (fun z => (f2 z).back g1) hq) (x.grow g1)
  | true =>
    rw [if_pos rfl] at hd ⊢
    exact q F1 H1 _ _ [] false g1 (.sc (.bl true)) (fun _ => .nil) hd
theorem le_notV {K : PySem.W.Frag} {W : WX} {t1 : TE} (h1 : LE K R W t1 ta) : LE K R W (tNotV t1) (dNot ta) := by
  intro F H σ env As Q Qd Ed s er h q x
  refine h1 F H σ env As _ _ Ed s er h (fun F1 H1 v d B b g1 r1 f1 hd => ?_) x
  obtain ⟨c, ec, hc⟩ := isB_of hd
  clear hd
  subst ec
  cases r1
  exact ⟨c, rfl, q F1 H1 _ _ [] false g1 (.sc (.bl (!c))) (fun _ => .nil) hc⟩
theorem de_one {op : BoolOp} (h : DE M X R a ta) : DE M X R (.BoolOp op [a] pos) ta := fun W tk => let ⟨_, a1, a2⟩ := h W tk; ⟨_, pe_one a1, a2⟩
theorem de_and (h1 : DE M X R a ta) (h2 : DE M X R (.BoolOp .And (b :: rest) pos) tb) : DE M X R (.BoolOp .And (a :: b :: rest) pos) (dAnd ta tb) := fun W tk =>
  let ⟨_, a1, a2⟩ := h1 W tk; let ⟨_, b1, b2⟩ := h2 W tk; ⟨_, pe_and a1 b1, le_andV a2 b2⟩
theorem de_or (h1 : DE M X R a ta) (h2 : DE M X R (.BoolOp .Or (b :: rest) pos) tb) : DE M X R (.BoolOp .Or (a :: b :: rest) pos) (dOr ta tb) := fun W tk =>
  let ⟨_, a1, a2⟩ := h1 W tk; let ⟨_, b1, b2⟩ := h2 W tk; ⟨_, pe_or a1 b1, le_orV a2 b2⟩
theorem de_not (h : DE M X R a ta) : DE M X R (.UnaryOp .Not a pos) (dNot ta) := fun W tk => let ⟨_, a1, a2⟩ := h W tk; ⟨_, pe_not a1, le_notV a2⟩
theorem de_if {c : Expr} (h0 : DT M X R c t) (h1 : DE M X R a ta) (h2 : DE M X R b tb) : DE M X R (.IfExp c a b pos) (dIf t ta tb) := fun W tk => by
  obtain ⟨_, c1, c2⟩ := h0 W tk
  obtain ⟨_, a1, a2⟩ := h1 W tk
  obtain ⟨_, b1, b2⟩ := h2 W tk
  refine ⟨_, pe_ifExp c1 a1 b1, ?_⟩
  intro F H σ env As Q Qd Ed s er h q x
  refine c2 F H σ env As _ _ Ed s er h (fun F1 H1 c g1 hd => ?_) x
  cases c with
  | true =>
    rw [if_pos rfl] at hd ⊢
    exact a2 F1 H1 σ env As _ _ Ed g1.fh (er.grow g1) hd (fun F2 H2 v d B b g2 r2 f2 hq => q F2 H2 v d B b (g1.trans g2) r2 (fun z => (f2 z).back g1) hq) (x.grow g1)
  | false =>
    rw [if_neg Bool.false_ne_true] at hd ⊢
    exact b2 F1 H1 σ env As _ _ Ed g1.fh (er.grow g1) hd (fun F2 H2 v d B b g2 r2 f2 hq => q F2 H2 v d B b (g1.trans g2) r2 (fun z => (f2 z).back g1) hq) (x.grow g1)
end
end DL

set_option Elab.async false
set_option linter.all false
set_option maxRecDepth 100000
set_option maxHeartbeats 1000000
namespace DL
open PySem PySem.Spec L2
variable {M : Bool}

/-! ## facts of representations -/
section
variable {K : PySem.W.Frag} {R : RT} {F H : Hp}
mutual
theorem Rep.fzOf {v : V} {d : D} {A : List Addr} (h : Rep K R F H v d A) : A = [] → fz d = true := fun z =>
  match h with
  | .sc s => by rw [fz]
  | .fz (k := k) h1 h2 h3 => by
    rw [fz]
    rcases h1.cold with e | e
    · subst e
      rw [RepL.fzOf h2 z]
      rfl
    · rw [e]; rfl
  | .ow h1 h2 h3 => by cases z
theorem RepL.fzOf {v : List V} {d : List D} {A : List Addr} (h : RepL K R F H v d A) : A = [] → fzL d = true := fun z =>
  match h with
  | .nil => by rw [fzL]
  | .cons h1 h2 => by
    obtain ⟨z1, z2⟩ := List.append_eq_nil_iff.mp z
    rw [fzL, Rep.fzOf h1 z1, RepL.fzOf h2 z2]
    rfl
end
theorem RepL.get {vs : List V} {ds : List D} {B : List Addr} (r : RepL K R F H vs ds B) {j : Nat} {d : D} (h : ds[j]? = some d) : ∃ v B', vs[j]? = some v ∧ Rep K R F H v d B' ∧ B'.Sublist B := by
  induction ds generalizing vs B j with
  | nil => simp at h
  | cons d0 t ih =>
    cases r with
    | cons a b =>
      rename_i v0 A0 vs0 B0
      cases j with
      | zero =>
        simp at h; subst h
        exact ⟨v0, A0, rfl, a, List.sublist_append_left _ _⟩
      | succ j =>
        obtain ⟨v, B', e, r', s⟩ := ih b (by simpa using h)
        exact ⟨v, B', by simpa using e, r', s.trans (List.sublist_append_right _ _)⟩
theorem RepL.get' {vs : List V} {ds : List D} {B : List Addr} (r : RepL K R F H vs ds B) {j : Nat} {v : V} (h : vs[j]? = some v) : ∃ d, ds[j]? = some d := by
  have hl := r.length
  have := (List.getElem?_eq_some_iff.mp h).1
  exact ⟨_, List.getElem?_eq_getElem (by omega)⟩
theorem RepL.append {vs ws : List V} {ds es : List D} {A B : List Addr} (r : RepL K R F H vs ds A) (r2 : RepL K R F H ws es B) : RepL K R F H (vs ++ ws) (ds ++ es) (A ++ B) := by
  induction ds generalizing vs A with
  | nil => cases r; exact r2
  | cons d t ih => cases r with | cons a b => rw [List.append_assoc]; exact .cons a (ih b)
theorem RepL.take {vs : List V} {ds : List D} {B : List Addr} (n : Nat) (r : RepL K R F H vs ds B) : ∃ B', RepL K R F H (vs.take n) (ds.take n) B' ∧ B'.Sublist B := by
  induction n generalizing vs ds B with
  | zero => exact ⟨[], .nil, List.nil_sublist _⟩
  | succ n ih =>
    cases r with
    | nil => exact ⟨[], .nil, List.nil_sublist _⟩
    | cons a b =>
      obtain ⟨B', r', s⟩ := ih b
      exact ⟨_, .cons a r', List.Sublist.append (List.Sublist.refl _) s⟩
theorem RepL.drop {vs : List V} {ds : List D} {B : List Addr} (n : Nat) (r : RepL K R F H vs ds B) : ∃ B', RepL K R F H (vs.drop n) (ds.drop n) B' ∧ B'.Sublist B := by
  induction n generalizing vs ds B with
  | zero => exact ⟨B, r, List.Sublist.refl _⟩
  | succ n ih =>
    cases r with
    | nil => exact ⟨[], .nil, List.nil_sublist _⟩
    | cons a b =>
      obtain ⟨B', r', s⟩ := ih b
      exact ⟨B', r', s.trans (List.sublist_append_right _ _)⟩
theorem RepL.noneOf {vs : List V} {ds : List D} {B : List Addr} (r : RepL K R F H vs ds B) (h : fzL ds = true) : B = [] := r.none h
end

/-! ## sequences -/
def Kind.isL : Kind → Bool
  | .lst _ => true
  | .scr => true
  | _ => false
def Kind.isSq : Kind → Bool
  | .lst _ => true
  | .scr => true
  | .tup => true
  | _ => false
/-- its items are not one's own -/
def stb (k : Kind) (ds : List D) : Bool := k.cold || fzL ds
section
variable {K : PySem.W.Frag} {R : RT} {F H : Hp} {v : V} {k : Kind} {ds : List D} {B : List Addr}
theorem nd_ref (r : Rep K R F H v (.nd k ds) B) (s : Same F H) : ∃ a vs B', v = .ref a ∧ RepL K R F H vs ds B' ∧ B'.Sublist B ∧ (k.isL = true → SqL K H a vs) ∧ (k = .tup → SqT K H a vs) ∧ (stb k ds = true → B' = []) := by
  cases r with
  | fz h1 h2 h3 =>
    rename_i a vs
    refine ⟨a, vs, B, rfl, h2, List.Sublist.refl _, fun hk => ?_, fun hk => ?_, fun hs => ?_⟩
    · cases k with
      | lst o => exact SqL.of (s _ _ h1.2)
      | scr => exact s.seq h1
      | _ => cases hk
    · subst hk
      exact (TupAt.mono s h1).sq
    · unfold stb at hs
      cases hc : k.cold with
      | true => exact h3.elim (fun z => by rw [z.1] at hc; cases hc) id
      | false => rw [hc, Bool.false_or] at hs; exact h2.none hs
  | ow h1 h2 h3 =>
    rename_i a vs A
    refine ⟨a, vs, A, rfl, h3, List.sublist_cons_self _ _, fun hk => ?_, fun hk => ?_, fun hs => ?_⟩
    · cases k with
      | lst o => exact SqL.of h1.2
      | scr => exact h1.elim
      | _ => cases hk
    · subst hk; exact h1.elim
    · unfold stb at hs
      rw [h1.cold.1, Bool.false_or] at hs
      exact h3.none hs
end

/-! ## arithmetic, text, lists: + - * // % ** -/
def addD : G2
  | .sc (.int i), .sc (.int j), Q => Q (.int (i + j))
  | .sc (.str s), .sc (.str t), Q => s.length + t.length ≤ 16777216 ∧ Q (.str (s ++ t))
  | .nd (.lst o) xs, .nd (.lst p) ys, Q => stb (.lst o) xs = true ∧ stb (.lst p) ys = true ∧ xs.length + ys.length ≤ 16777216 ∧ Q (.lst true (xs ++ ys))
  | .nd .tup xs, .nd .tup ys, Q => fzL xs = true ∧ fzL ys = true ∧ xs.length + ys.length ≤ 16777216 ∧ Q (.tup (xs ++ ys))
  | _, _, _ => False
def subD : G2
  | .sc (.int i), .sc (.int j), Q => Q (.int (i - j))
  | _, _, _ => False
def mulD : G2
  | .sc (.int i), .sc (.int j), Q => ((-(2 ^ 64) < i ∧ i < 2 ^ 64) ∨ (-(2 ^ 64) < j ∧ j < 2 ^ 64)) ∧ Q (.int (i * j))
  | _, _, _ => False
def fdivD : G2
  | .sc (.int i), .sc (.int j), Q => (0 < j ∧ j < 1073741824) ∧ Q (.int (i / j))
  | _, _, _ => False
def modD : G2
  | .sc (.int i), .sc (.int j), Q => 0 < j ∧ Q (.int (i % j))
  | _, _, _ => False
def powD : G2
  | .sc (.int i), .sc (.int j), Q => (0 ≤ j ∧ j ≤ 1000000 ∧ i.natAbs < 2 ^ 64) ∧ Q (.int (i ^ j.toNat))
  | _, _, _ => False

section
variable {X : Cx} {R : RT}
/-- an operator on two ints -/
theorem opl_int {f : Value → Value → Sem Value} {C : Int → Int → Prop} {h : Int → Int → Int} {g : G2} (o : OpR X f (rI C fun i j => .int (h i j)))
    (hg : ∀ d e Q, g d e Q → ∃ i j, d = .int i ∧ e = .int j ∧ C i j ∧ Q (.int (h i j))) : OpL X R f g := by
  refine ⟨_, o, fun F H x y d e A B Q Qd s rx ry hq out => ?_⟩
  obtain ⟨i, j, rfl, rfl, hc, hz⟩ := hg d e Qd hq
  cases rx
  cases ry
  exact ⟨i, j, rfl, rfl, hc, out F H _ _ [] (.refl s) (.sc (.int _)) .nil hz⟩
theorem opl_int0 {f : Value → Value → Sem Value} {h : Int → Int → Int} {g : G2} (o : OpR X f (rI0 fun i j => .int (h i j)))
    (hg : ∀ d e Q, g d e Q → ∃ i j, d = .int i ∧ e = .int j ∧ Q (.int (h i j))) : OpL X R f g := by
  refine ⟨_, o, fun F H x y d e A B Q Qd s rx ry hq out => ?_⟩
  obtain ⟨i, j, rfl, rfl, hz⟩ := hg d e Qd hq
  cases rx
  cases ry
  exact ⟨i, j, rfl, rfl, out F H _ _ [] (.refl s) (.sc (.int _)) .nil hz⟩
theorem subD_ok : OpL X R (binaryOp .Sub) subD := opl_int0 op_sub fun d e Q h => by
  unfold subD at h; split at h
  · exact ⟨_, _, rfl, rfl, h⟩
  · exact h.elim
theorem mulD_ok : OpL X R (binaryOp .Mult) mulD := opl_int op_mul fun d e Q h => by
  unfold mulD at h; split at h
  · exact ⟨_, _, rfl, rfl, h⟩
  · exact h.elim
theorem fdivD_ok : OpL X R (binaryOp .FloorDiv) fdivD := opl_int op_fdiv fun d e Q h => by
  unfold fdivD at h; split at h
  · exact ⟨_, _, rfl, rfl, h⟩
  · exact h.elim
theorem modD_ok : OpL X R (binaryOp .Mod) modD := opl_int op_mod fun d e Q h => by
  unfold modD at h; split at h
  · exact ⟨_, _, rfl, rfl, h⟩
  · exact h.elim
theorem powD_ok : OpL X R (binaryOp .Pow) powD := opl_int op_pow fun d e Q h => by
  unfold powD at h; split at h
  · exact ⟨_, _, rfl, rfl, h⟩
  · exact h.elim
theorem strV_app (s t : Txt) : strV s ++ strV t = strV (s ++ t) := by
  show (⟨_ ++ _⟩ : Str) = ⟨_⟩
  congr 1
  simp [strV]
/-- what a list of one's own, or one that stays, is -/
theorem lst_at {K : PySem.W.Frag} {F H : Hp} {v : V} {o : Bool} {ds : List D} {B : List Addr} (r : Rep K R F H v (.nd (.lst o) ds) B) (s : Same F H) : ∃ a vs B', v = .ref a ∧ RepL K R F H vs ds B' ∧ H a = some (.lst vs) ∧ (stb (.lst o) ds = true → B' = []) := by
  cases r with
  | fz h1 h2 h3 =>
    refine ⟨_, _, _, rfl, h2, s _ _ h1.2, fun _ => h3.elim (fun z => by cases z.1) id⟩
  | ow h1 h2 h3 =>
    refine ⟨_, _, _, rfl, h3, h1.2, fun hs => ?_⟩
    unfold stb at hs
    rw [h1.cold.1, Bool.false_or] at hs
    exact h3.none hs
theorem sizeL {n : Nat} (h : n ≤ 16777216) : n ≤ sizeLine := by rw [sizeLine_eq]; exact h
theorem new_list {K : PySem.W.Frag} {F H : Hp} {vs : List V} {ds : List D} {Qd : D → Prop} {Q : VK} (s : Same F H) (r : RepL K R F H vs ds []) (out : Out K R F H Qd Q) (h : Qd (.lst true ds)) {p : Addr} (hp : H p = none) : Q (.ref p) (upd H p (.lst vs)) := by
  have g : Grow F H F (upd H p (.lst vs)) := Grow.new s hp
  exact out _ _ _ _ [p] g (.ow (k := .lst true) ⟨rfl, upd_same⟩ (same_none s hp) (r.grow g)) ⟨by simp, fun a ha => by rw [List.mem_singleton] at ha; rw [ha]; exact hp⟩ h
theorem new_tup {K : PySem.W.Frag} {F H : Hp} {vs : List V} {ds : List D} {Qd : D → Prop} {Q : VK} (s : Same F H) (r : RepL K R F H vs ds []) (out : Out K R F H Qd Q) (h : Qd (.tup ds)) {p : Addr} (hp : H p = none) : Q (.ref p) (upd H p (.tup vs)) := by
  have g : Grow F H (upd F p (.tup vs)) (upd H p (.tup vs)) := Grow.newF s hp
  exact out _ _ _ _ [] g (.fz (k := .tup) (.inl upd_same) (r.grow g) (.inl ⟨rfl, upd_same⟩)) .nil h
theorem addD_ok : OpL X R (binaryOp .Add) addD := by
  refine ⟨_, op_add.or (op_add_str.or (op_cat.or op_catA)), fun F H x y d e A B Q Qd s rx ry hq out => ?_⟩
  unfold addD at hq
  split at hq
  · cases rx; cases ry
    exact .inl ⟨_, _, rfl, rfl, out F H _ _ [] (.refl s) (.sc (.int _)) .nil hq⟩
  · rename_i sx sy
    cases rx; cases ry
    refine .inr (.inl ⟨_, _, rfl, rfl, by rw [strV_len, strV_len]; exact sizeL hq.1, ?_⟩)
    rw [strV_app]
    exact out F H _ _ [] (.refl s) (.sc (.str _)) .nil hq.2
  · obtain ⟨h1, h2, h3, h4⟩ := hq
    obtain ⟨a, vs, B1, rfl, r1, e1, z1⟩ := lst_at rx s
    obtain ⟨b, ws, B2, rfl, r2, e2, z2⟩ := lst_at ry s
    have q1 := z1 h1
    have q2 := z2 h2
    subst q1 q2
    exact .inr (.inr (.inl ⟨a, b, vs, ws, rfl, rfl, e1, e2, by rw [r1.length, r2.length]; exact sizeL h3, fun p hp => new_list s (r1.append r2) out h4 hp⟩))
  · rename_i xs ys
    obtain ⟨h1, h2, h3, h4⟩ := hq
    obtain ⟨a, vs, B1, rfl, r1, _, _, e1, z1⟩ := nd_ref rx s
    obtain ⟨b, ws, B2, rfl, r2, _, _, e2, z2⟩ := nd_ref ry s
    have q1 := r1.none h1
    have q2 := r2.none h2
    subst q1 q2
    refine .inr (.inr (.inr ⟨a, b, vs, ws, rfl, rfl, e1 rfl, e2 rfl, by rw [r1.length, r2.length]; exact sizeL h3, fun hn => ?_, fun hn hm => ?_, fun hn hm p hp => new_tup s (r1.append r2) out h4 hp⟩))
    · subst hn
      have e0 := r1.length
      have ex : xs = [] := List.length_eq_zero_iff.mp e0.symm
      subst ex
      have z0 := ry.none (by rw [fz]; simp [h2])
      subst z0
      exact out F H _ _ [] (.refl s) ry .nil (by simpa using h4)
    · subst hm
      have e0 := r2.length
      have ex : ys = [] := List.length_eq_zero_iff.mp e0.symm
      subst ex
      have z0 := rx.none (by rw [fz]; simp [h1])
      subst z0
      exact out F H _ _ [] (.refl s) rx .nil (by simpa using h4)
  · exact hq.elim
end

/-! ## == and != -/
def eqS : Sc → Sc → Bool
  | .bl a, .int j => (if a then 1 else 0) == j
  | .int i, .bl b => i == (if b then 1 else 0)
  | a, b => decide (a = b)
mutual
def eqv : D → D → Bool
  | .sc a, .sc b => eqS a b
  | .nd k xs, .nd l ys => ((k.isL && l.isL) || (decide (k = .tup) && decide (l = .tup))) && eqvL xs ys
  | .sc _, .nd _ _ => false
  | .nd _ _, .sc _ => false
def eqvL : List D → List D → Bool
  | [], [] => true
  | x :: xs, y :: ys => eqv x y && eqvL xs ys
  | [], _ :: _ => false
  | _ :: _, [] => false
end
mutual
/-- what may stand beside ==: no dict, no instance, plain texts, not too deep -/
def okE : Nat → D → Bool
  | _, .sc (.str s) => s.all (· < 1114112)
  | _, .sc _ => true
  | 0, .nd _ _ => false
  | n + 1, .nd k ds => k.isSq && okEL n ds
def okEL : Nat → List D → Bool
  | _, [] => true
  | n, d :: r => okE n d && okEL n r
end
theorem okEL_all (n : Nat) : ∀ l : List D, okEL n l = l.all (okE n)
  | [] => rfl
  | d :: r => by rw [okEL, okEL_all n r]; rfl
mutual
def toP : D → PyData
  | .sc .non => .none
  | .sc (.bl b) => .bool b
  | .sc (.int i) => .int i
  | .sc (.str s) => .str (strV s)
  | .nd k ds => if k = .tup then .tuple (toPL ds) else .list (toPL ds)
def toPL : List D → List PyData
  | [] => []
  | d :: r => toP d :: toPL r
end
mutual
theorem canLay_of : ∀ (n : Nat) (d : D), okE n d = true → (toP d).canLay0 = true ∧ (toP d).depth ≤ n
  | _, .sc .non, _ => ⟨rfl, Nat.zero_le _⟩
  | _, .sc (.bl _), _ => ⟨rfl, Nat.zero_le _⟩
  | _, .sc (.int _), _ => ⟨rfl, Nat.zero_le _⟩
  | _, .sc (.str s), h => by
    rw [okE] at h
    refine ⟨?_, by rw [toP, PyData.depth]; exact Nat.zero_le _⟩
    rw [toP, PyData.canLay0]
    show (strV s).cps.all _ = true
    unfold strV
    rw [← Array.all_toList]
    exact h
  | 0, .nd _ _, h => by rw [okE] at h; cases h
  | n + 1, .nd k ds, h => by
    rw [okE, Bool.and_eq_true] at h
    obtain ⟨h1, h2⟩ := canLayL_of n ds h.2
    rw [toP]
    split
    · rw [PyData.canLay0, PyData.depth]; exact ⟨h1, Nat.succ_le_succ h2⟩
    · rw [PyData.canLay0, PyData.depth]; exact ⟨h1, Nat.succ_le_succ h2⟩
theorem canLayL_of : ∀ (n : Nat) (ds : List D), okEL n ds = true → PyData.canLayAll0 (toPL ds) = true ∧ PyData.depthAll (toPL ds) ≤ n
  | _, [], _ => ⟨by rw [toPL, PyData.canLayAll0], by rw [toPL, PyData.depthAll]; exact Nat.zero_le _⟩
  | n, d :: r, h => by
    rw [okEL, Bool.and_eq_true] at h
    obtain ⟨h1, h2⟩ := canLay_of n d h.1
    obtain ⟨h3, h4⟩ := canLayL_of n r h.2
    rw [toPL, PyData.canLayAll0, PyData.depthAll, h1, h3]
    exact ⟨rfl, Nat.max_le.mpr ⟨h2, h4⟩⟩
end
theorem strV_beq (s t : Txt) : (strV s == strV t) = decide (s = t) := by
  by_cases e : s = t
  · subst e; simp
  · rw [decide_eq_false e]
    exact beq_eq_false_iff_ne.mpr fun z => e (strV_inj z)
mutual
theorem eqv_of : ∀ (n m : Nat) (d e : D), okE n d = true → okE m e = true → PyData.eqv (toP d) (toP e) = eqv d e
  | n, m, .sc a, .sc b, _, _ => by
    cases a <;> cases b <;> simp only [toP, PyData.eqv, eqv, eqS, strV_beq] <;> simp [Bool.beq_eq_decide_eq]
  | n, m, .sc a, .nd k ys, _, _ => by
    cases a <;> rw [eqv] <;> simp only [toP] <;> split <;> simp only [PyData.eqv]
  | n, m, .nd k xs, .sc b, _, _ => by
    cases b <;> rw [eqv] <;> simp only [toP] <;> split <;> simp only [PyData.eqv]
  | 0, _, .nd k xs, .nd l ys, h, _ => by rw [okE] at h; cases h
  | n + 1, 0, .nd k xs, .nd l ys, _, h => by rw [okE] at h; cases h
  | n + 1, m + 1, .nd k xs, .nd l ys, h1, h2 => by
    rw [okE, Bool.and_eq_true] at h1 h2
    have ih := eqvL_of n m xs ys h1.2 h2.2
    obtain ⟨h1, _⟩ := h1
    obtain ⟨h2, _⟩ := h2
    rw [eqv, toP, toP]
    cases k <;> cases l <;> simp [Kind.isSq, Kind.isL] at h1 h2 ⊢ <;> simp [PyData.eqv, ih]
theorem eqvL_of : ∀ (n m : Nat) (xs ys : List D), okEL n xs = true → okEL m ys = true → PyData.eqvAll (toPL xs) (toPL ys) = eqvL xs ys
  | _, _, [], [], _, _ => by rw [toPL, PyData.eqvAll, eqvL]
  | _, _, [], _ :: _, _, _ => by rw [toPL, toPL, PyData.eqvAll, eqvL]
  | _, _, _ :: _, [], _, _ => by rw [toPL, toPL, PyData.eqvAll, eqvL]
  | n, m, x :: xs, y :: ys, h1, h2 => by
    rw [okEL, Bool.and_eq_true] at h1 h2
    rw [toPL, toPL, PyData.eqvAll, eqvL, eqv_of n m x y h1.1 h2.1, eqvL_of n m xs ys h1.2 h2.2]
end
section
variable {K : PySem.W.Frag} {R : RT} {F H : Hp}
mutual
theorem Rep.dp (s : Same F H) {v : V} {A : List Addr} : ∀ {n : Nat} {d : D}, Rep K R F H v d A → okE n d = true → Dp K H v (toP d)
  | n, .sc .non, .sc _, _ => by rw [toP]; exact .non
  | n, .sc (.bl b), .sc _, _ => by rw [toP]; exact .bl b
  | n, .sc (.int i), .sc _, _ => by rw [toP]; exact .int i
  | n, .sc (.str t), .sc _, _ => by rw [toP]; exact .str _
  | 0, .nd k ds, _, h => by rw [okE] at h; cases h
  | n + 1, .nd k ds, r, h => by
    rw [okE, Bool.and_eq_true] at h
    rw [toP]
    cases r with
    | fz h1 h2 h3 =>
      have q := RepL.dp s h2 h.2
      cases k with
      | tup => rw [if_pos rfl]; exact .tup (TupAt.mono s h1).sq q
      | lst o => rw [if_neg (by intro z; cases z)]; exact .lst (SqL.of (s _ _ h1.2)) q
      | scr => rw [if_neg (by intro z; cases z)]; exact .lst (s.seq h1) q
      | dct o ks => cases h.1
      | dcT o ks => cases h.1
      | ins o c => cases h.1
    | ow h1 h2 h3 =>
      have q := RepL.dp s h3 h.2
      cases k with
      | tup => exact h1.elim
      | lst o => rw [if_neg (by intro z; cases z)]; exact .lst (SqL.of h1.2) q
      | scr => exact h1.elim
      | dct o ks => cases h.1
      | dcT o ks => cases h.1
      | ins o c => cases h.1
theorem RepL.dp (s : Same F H) {v : List V} {A : List Addr} : ∀ {n : Nat} {d : List D}, RepL K R F H v d A → okEL n d = true → DpAll K H v (toPL d)
  | n, [], .nil, _ => by rw [toPL]; exact .nil
  | n, d :: r, .cons h1 h2, h => by
    rw [okEL, Bool.and_eq_true] at h
    rw [toPL]
    exact .cons (Rep.dp s h1 h.1) (RepL.dp s h2 h.2)
end
end
def scalS : Sc → Sc → Bool
  | .bl _, .int _ => false
  | .int _, .bl _ => false
  | _, _ => true
theorem scal_enc (a b : Sc) : scal (encS a) (encS b) = scalS a b := by cases a <;> cases b <;> rfl
theorem enc_inj {a b : Sc} : encS a = encS b ↔ a = b := by
  cases a <;> cases b <;> simp [encS]
  exact ⟨strV_inj, fun e => by rw [e]⟩
theorem eqS_of {a b : Sc} (h : scalS a b = true) : eqS a b = decide (encS a = encS b) := by
  cases a <;> cases b <;> first | (cases h; done) | (simp only [eqS, enc_inj])
/-- == : of scalars, of lists and tuples -/
def eqD : G2
  | .sc a, .sc b, Q => Q (.bl (eqS a b))
  | d, e, Q => okE 8 d = true ∧ okE 8 e = true ∧ Q (.bl (eqv d e))
def neD : G2
  | .sc a, .sc b, Q => Q (.bl (!eqS a b))
  | d, e, Q => okE 8 d = true ∧ okE 8 e = true ∧ Q (.bl (!eqv d e))
section
variable {X : Cx} {R : RT}
theorem shaped_ok {n : Nat} {d : D} (hn : n ≤ 64) (h : okE n d = true) : SeqAt.shaped (toP d) = true := by
  obtain ⟨h1, h2⟩ := canLay_of n d h
  unfold SeqAt.shaped
  rw [h1, decide_eq_true (Nat.le_trans h2 hn)]
  rfl
theorem okE_bi {n : Nat} {i : Int} {b : Bool} : okE n (.int i) = true ∧ okE n (.bl b) = true := ⟨by simp [okE], by simp [okE]⟩
theorem eqD_ok (hu : X.A.units + 64 < cLine) : OpL X R (compareOp .Eq) eqD := by
  refine ⟨_, op_eq.or (op_eqD hu), fun F H x y d e A B Q Qd s rx ry hq out => ?_⟩
  have hp : ∀ {d e : D} {x y : V} {A B : List Addr}, Rep X.K R F H x d A → Rep X.K R F H y e B → okE 8 d = true → okE 8 e = true → Qd (.bl (eqv d e)) → rEqD X.K x y H Q := fun {d e x y A B} rx ry h1 h2 h3 =>
    ⟨_, _, rx.dp s h1, ry.dp s h2, shaped_ok (by decide) h1, shaped_ok (by decide) h2, by rw [eqv_of 8 8 d e h1 h2]; exact out F H _ _ [] (.refl s) (.sc (.bl _)) .nil h3⟩
  cases d with
  | sc a =>
    cases e with
    | sc b =>
      have hq' : Qd (.bl (eqS a b)) := hq
      by_cases hs : scalS a b = true
      · cases rx; cases ry
        refine .inl ⟨by rw [scal_enc]; exact hs, ?_⟩
        rw [← eqS_of hs]
        exact out F H _ _ [] (.refl s) (.sc (.bl _)) .nil hq'
      · refine .inr (hp rx ry ?_ ?_ hq') <;> (cases a <;> cases b <;> first | rfl | exact absurd rfl hs)
    | nd k ys => exact .inr (hp rx ry hq.1 hq.2.1 hq.2.2)
  | nd k xs => exact .inr (hp rx ry hq.1 hq.2.1 hq.2.2)
theorem neD_ok (hu : X.A.units + 64 < cLine) : OpL X R (compareOp .NotEq) neD := by
  refine ⟨_, op_ne.or (op_neD hu), fun F H x y d e A B Q Qd s rx ry hq out => ?_⟩
  have hp : ∀ {d e : D} {x y : V} {A B : List Addr}, Rep X.K R F H x d A → Rep X.K R F H y e B → okE 8 d = true → okE 8 e = true → Qd (.bl (!eqv d e)) → rNeD X.K x y H Q := fun {d e x y A B} rx ry h1 h2 h3 =>
    ⟨_, _, rx.dp s h1, ry.dp s h2, shaped_ok (by decide) h1, shaped_ok (by decide) h2, by rw [eqv_of 8 8 d e h1 h2]; exact out F H _ _ [] (.refl s) (.sc (.bl _)) .nil h3⟩
  cases d with
  | sc a =>
    cases e with
    | sc b =>
      have hq' : Qd (.bl (!eqS a b)) := hq
      by_cases hs : scalS a b = true
      · cases rx; cases ry
        refine .inl ⟨by rw [scal_enc]; exact hs, ?_⟩
        rw [← eqS_of hs]
        exact out F H _ _ [] (.refl s) (.sc (.bl _)) .nil hq'
      · refine .inr (hp rx ry ?_ ?_ hq') <;> (cases a <;> cases b <;> first | rfl | exact absurd rfl hs)
    | nd k ys => exact .inr (hp rx ry hq.1 hq.2.1 hq.2.2)
  | nd k xs => exact .inr (hp rx ry hq.1 hq.2.1 hq.2.2)
end
end DL

set_option Elab.async false
set_option linter.all false
set_option maxRecDepth 100000
set_option maxHeartbeats 1000000
/-! list(reversed(a list)) -/
namespace DL
open PySem PySem.Spec PyProof.Rows _root_.RT
open L2 (Inv Cx PE TE VK SqL PA Gl Room V HO Hp upd)
variable {M : Bool}
section
variable {prog : Program} {w : World} {A : Around} {E : Value → Shared → Prop} {s : Shared}
theorem extend_rev {R : Result → Shared → Prop} {it l : Addr} {items : Array Value} (hh : A.handled = none) (hit : s.heap.IsRevIter it l ((items.size : Int) - 1)) (hl : s.heap.IsList l items) (hne : l ≠ it) (hn : items.size ≤ sizeLine)
    (S : Addr) (res : Value) (c₀ : Nat) (hSi : S ≠ it) (hSl : S ≠ l) (hS : s.heap.get? S = some { cls := .type "list", data := .seq #[] c₀ })
    (hR : ∀ h' tk acc' c', (∀ b o, b ≠ S → b ≠ it → s.heap.get? b = some o → h'.get? b = some o) → h'.get? S = some { cls := .type "list", dict := none, data := .seq acc' c', slots := #[] } →
      ItemsOf (fun i v => items[items.size - 1 - i]? = some v) acc' items.size → R (.ok (.ret res)) { s with heap := h', toks := tk }) :
    wpAny (model prog w) A.in1 (Builtin.List.listExtendWith (.ref S) (.ref it) res)
      (fun fin s' => match fin with | .done f => R (.ok f) s' | .again c' => c'.quiet = true ∧ codeAny (model prog w) A c' R s') (fun e s' => R (.error e) s') s := by
  have W := (Walks.listRev (prog := prog) (w := w) (A := A.in1) hh it l hne items).toS
  have hSf : S ∉ [it, l] := by simp only [List.mem_cons, List.not_mem_nil, or_false, not_or]; exact ⟨hSi, hSl⟩
  have hT : s.TypeIs (.ref it) "list_reverseiterator" := hit.typeIs
  have h1 : Builtin.List.listSameRef (.ref S) (.ref it) = false := by simp [Builtin.List.listSameRef, hSi]
  unfold Builtin.List.listExtendWith
  refine wpAny_bind (wpAny_typeOf hT ?_)
  rw [if_neg (by rw [h1]; decide)]
  refine wpAny_bind (wpAny_pyIter_revIter hit ?_)
  refine wpAny_bind (wpAny_holding ?_)
  unfold Builtin.List.listLengthHint
  refine wpAny_bind (wpAny_specialOf hT nolen_lri ?_)
  show wpAny _ A.in1 (specialOf (Value.ref it) (Str.ofString "__length_hint__") >>= _) _ _ _
  refine wpAny_bind (wpAny_specialOf hT hint_lri ?_)
  generalize hid : ("list_reverseiterator.__length_hint__" : String) = id0
  wp_delta
  rw [show splitId id0 = some ("list_reverseiterator", "__length_hint__") from by subst hid; decide +kernel]
  subst hid
  refine wpAny_bind (wpAny_isInstance (b := true) hT (by rw [isSubtype_type]; kernel_rfl) ?_)
  refine wpAny_pure ?_
  rw [if_neg (by decide)]
  have e0 : ((items.size : Nat) : Int) - 1 - ((0 : Nat) : Int) = (items.size : Int) - 1 := by omega
  refine wpAny_pure ⟨plainId_quiet F.plain_extend_loop _, codeAny_extend_loopS W hn _ hSf _ items.size 0 _ _ _ rfl (Nat.zero_le _) ⟨Nat.zero_le _, by rw [e0]; exact hit, hl⟩ hS (ItemsOf.nil _) fun s' acc' c' hm hS' hacc => ?_⟩
  rw [Moved.eq_with hm]
  exact hR s'.heap s'.toks acc' c' (fun b o hb hi e => hm.heap b o (fun hmem => (List.mem_cons.mp hmem).elim hb fun z => hi (List.mem_singleton.mp z)) e) hS' hacc
theorem call_list_rev {it l : Addr} {items : Array Value} {Q : Value → Shared → Prop} (hh : A.handled = none) (hit : s.heap.IsRevIter it l ((items.size : Int) - 1)) (hl : s.heap.IsList l items) (hne : l ≠ it) (hn : items.size ≤ sizeLine)
    (hQ : ∀ h' tk acc' c', (∀ b o, b ≠ it → s.heap.get? b = some o → h'.get? b = some o) →
      h'.get? s.heap.objs.size = some { cls := .type "list", dict := none, data := .seq acc' c', slots := #[] } → ItemsOf (fun i v => items[items.size - 1 - i]? = some v) acc' items.size → Q (.ref s.heap.objs.size) { s with heap := h', toks := tk }) :
    wpAny (model prog w) A (call (.type "list") [.ref it]) Q E s := by
  obtain ⟨oi, hoi, _⟩ := id hit
  obtain ⟨ol, hol, _⟩ := id hl
  have hSi : s.heap.objs.size ≠ it := Nat.ne_of_gt (Heap.lt_size hoi)
  have hSl : s.heap.objs.size ≠ l := Nat.ne_of_gt (Heap.lt_size hol)
  refine callType_codes (Q₁ := fun obj s₁ => obj = .ref s.heap.objs.size ∧ s₁ = { s with heap := s.heap.push { cls := .type "list", data := .seq #[] } }) F.called_list (F.typeCall_list_1 _) F.entry_list_init
    (code_list_new _ ⟨rfl, rfl⟩) fun obj s₁ h₁ => ?_
  obtain ⟨rfl, rfl⟩ := h₁
  have hS : (s.heap.push { cls := .type "list", data := .seq #[] }).get? s.heap.objs.size = some { cls := .type "list", data := .seq #[] } := Heap.get?_push_size _ rfl
  have hit1 : (s.heap.push { cls := .type "list", data := .seq #[] }).IsRevIter it l ((items.size : Int) - 1) := hit.at fun o e => Heap.get?_push_of_some _ e
  have hl1 : (s.heap.push { cls := .type "list", data := .seq #[] }).IsList l items := hl.push _
  refine ⟨⟨_, hS, rfl⟩, F.args_list_init_2 _ _, ?_⟩
  show wpAny _ _ (do let old ← Builtin.List.listItems (.ref s.heap.objs.size); Builtin.List.listUpdate (.ref s.heap.objs.size) (fun _ => #[]); letGo old.toList.reverse; Builtin.List.listExtendWith (.ref s.heap.objs.size) (.ref it) .none) _ _ _
  refine wpAny_bind ?_
  unfold Builtin.List.listItems
  refine wpAny_bind (wpAny_seqItems hS rfl (wpAny_pure ?_))
  show wpAny _ _ (updateSeq s.heap.objs.size (fun _ => #[]) >>= fun _ => letGo (#[] : Array Value).toList.reverse >>= fun _ => Builtin.List.listExtendWith (.ref s.heap.objs.size) (.ref it) .none) _ _ _
  refine wpAny_bind (wpAny_updateSeq hS rfl ?_)
  have hS₂ := Heap.get?_update_self (Obj.mapSeq (fun _ => (#[] : Array Value))) hS rfl
  have oth : ∀ b o, b ≠ s.heap.objs.size → (s.heap.push { cls := .type "list", data := .seq #[] }).get? b = some o → ((s.heap.push { cls := .type "list", data := .seq #[] }).update s.heap.objs.size (Obj.mapSeq (fun _ => (#[] : Array Value)))).get? b = some o :=
    fun b o hb e => (Heap.get?_update_other _ _ (Ne.symm hb)).trans e
  refine wpAny_bind (wpAny_letGo ?_)
  have hS₃ : ((s.heap.push { cls := .type "list", data := .seq #[] }).update s.heap.objs.size (Obj.mapSeq (fun _ => (#[] : Array Value)))).get? s.heap.objs.size = some { cls := .type "list", data := .seq #[] 0 } := hS₂
  refine extend_rev (s := { s with heap := (s.heap.push { cls := .type "list", data := .seq #[] }).update s.heap.objs.size (Obj.mapSeq (fun _ => (#[] : Array Value))) }) (A := A.in1) hh (hit1.at fun o e => oth it o (Ne.symm hSi) e) ?_ hne hn _ .none _ hSi hSl hS₃ fun h' tk acc' c' hk hS' hacc => ?_
  · obtain ⟨o1, e1, r1⟩ := hl1
    exact ⟨o1, oth l o1 (Ne.symm hSl) e1, r1⟩
  · exact ⟨rfl, hQ h' tk acc' c' (fun b o hb e => hk b o (Nat.ne_of_lt (Heap.lt_size e)) hb (oth b o (Nat.ne_of_lt (Heap.lt_size e)) (Heap.get?_push_of_some _ e))) hS' hacc⟩
end
section
variable {X : Cx}
def tLstRev (K : PySem.W.Frag) (te : TE) : TE := fun σ H Q => te σ H fun v H1 => ∃ (a : Addr) (xs : List V), v = .ref a ∧ SqL K H1 a xs ∧ ∀ q, H1 q = none → Q (.ref q) (upd H1 q (.lst xs.reverse))
theorem pe_lstRev {e : Expr} {te : TE} {p p2 pos pos2 : Pos} (hc : X.calm = true) (hg : Gl X "list") (hm : X.mg "list" = none) (hg2 : Gl X "reversed") (hm2 : X.mg "reversed" = none) (he : PE X e te)
    (hs : starEach [e] X.env = (false, eval e X.env) :: starEach [] X.env := by rfl)
    (hs2 : starEach [.Call (.Name "reversed" p2) [e] [] pos2] X.env = (false, eval (.Call (.Name "reversed" p2) [e] [] pos2) X.env) :: starEach [] X.env := by rfl) :
    PE X (.Call (.Name "list" p) [.Call (.Name "reversed" p2) [e] [] pos2] [] pos) (tLstRev X.K te) := by
  refine ⟨fun pins s σ H Q I h => ?_⟩
  refine Call_ (L2.ld_blt I hg hm boot_list (PyProof.Rows.callWith_type1 (args_cons (Call_ (L2.ld_blt I hg2 hm2 PyProof.Rows.boot_reversed (PyProof.Rows.callWith_type1 (args_cons (L2.thn (he.run pins s σ H _ I h) fun u s1 ⟨v, H1, I1, r1, q1⟩ => args_nil ?_) hs) hs rfl))) hs2) hs2 rfl))
  obtain ⟨a, xs, ev, hq, q⟩ := q1
  subst ev
  obtain rfl : u = Value.ref a := r1
  obtain ⟨its, rv, p', hz⟩ := I1.list hq
  refine call_reversed_list p'.isList (args_nil ?_)
  have k0 : ∀ b o, s1.heap.get? b = some o → (s1.heap.push (revObj a ((its.toArray.size : Int) - 1))).get? b = some o := fun b o e => Heap.get?_push_of_some _ e
  have I2 : Inv X pins σ H1 { s1 with heap := s1.heap.push (revObj a ((its.toArray.size : Int) - 1)) } := I1.kept (t' := s1.toks) k0
  obtain ⟨f0, f1, f2, f3, f4, f5⟩ := I1.fpOk (H' := H1) (b := s1.heap.objs.size) (Nat.le_refl _) (I1.hok.fresh (Nat.le_refl _))
  have hl := p'.isList
  obtain ⟨ol, hol, _⟩ := id hl
  have hne : a ≠ s1.heap.objs.size := Nat.ne_of_lt (Heap.lt_size hol)
  have hn : its.toArray.size ≤ sizeLine := by rw [List.size_toArray, ← rv.length]; exact hz
  refine call_list_rev (s := { s1 with heap := s1.heap.push (revObj a ((its.toArray.size : Int) - 1)) }) (I1.ok.hd hc) ⟨_, Heap.get?_push_size _ rfl, rfl, rfl⟩ (hl.push _) hne hn fun h' tk acc c' hk hS' hi => ?_
  have hp : H1 (s1.heap.push (revObj a ((its.toArray.size : Int) - 1))).objs.size = none := I2.hok.fresh (Nat.le_refl _)
  have hlt : (s1.heap.push (revObj a ((its.toArray.size : Int) - 1))).objs.size ≠ s1.heap.objs.size := by rw [Heap.size_push]; omega
  have I3 : Inv X pins σ (upd H1 (s1.heap.push (revObj a ((its.toArray.size : Int) - 1))).objs.size (.lst xs.reverse)) { s1 with heap := h', toks := tk } := by
    refine I2.turnedNew (t' := tk) (ch := [s1.heap.objs.size]) (T := (s1.heap.push (revObj a ((its.toArray.size : Int) - 1))).objs.size) (fun b o hb e => hk b o (fun z => hb (by rw [z]; exact List.mem_singleton.mpr rfl)) e) (fun b hb => ?_) (Nat.le_refl _) ?_
    · have e : b = s1.heap.objs.size := List.mem_singleton.mp hb
      subst e
      exact ⟨f0, f1, f2, f3, f4, f5⟩
    · exact ⟨by rw [List.length_reverse]; exact hz, acc.toList, c', vals_rev rv hi, by rw [Array.toArray_toList]; exact hS'⟩
  exact ⟨.ref _, _, I3, rfl, q _ hp⟩
end
end DL

set_option Elab.async false
set_option linter.all false
set_option maxRecDepth 100000
set_option maxHeartbeats 1000000
namespace DL
open PySem PySem.Spec L2
variable {M : Bool}

/-! ## order, is None -/
section
variable {X : Cx} {R : RT}
theorem opl_cmpI {f : Value → Value → Sem Value} {p : Int → Int → Bool} {g : G2} (o : OpR X f (rI0 fun i j => .bl (p i j)))
    (hg : ∀ d e Q, g d e Q → ∃ i j, d = .int i ∧ e = .int j ∧ Q (.bl (p i j))) : OpL X R f g := by
  refine ⟨_, o, fun F H x y d e A B Q Qd s rx ry hq out => ?_⟩
  obtain ⟨i, j, rfl, rfl, hz⟩ := hg d e Qd hq
  cases rx; cases ry
  exact ⟨i, j, rfl, rfl, out F H _ _ [] (.refl s) (.sc (.bl _)) .nil hz⟩
end
def gtD : G2
  | .sc (.int i), .sc (.int j), Q => Q (.bl (decide (j < i)))
  | _, _, _ => False
def geD : G2
  | .sc (.int i), .sc (.int j), Q => Q (.bl (decide (j ≤ i)))
  | _, _, _ => False
def leD : G2
  | .sc (.int i), .sc (.int j), Q => Q (.bl (decide (i ≤ j)))
  | _, _, _ => False
/-- < of ints, of texts, of tuples of ints -/
def intsOf : List D → Option (List Int)
  | [] => some []
  | .sc (.int i) :: r => (intsOf r).map (i :: ·)
  | _ :: _ => none
def ltD : G2
  | .sc (.int i), .sc (.int j), Q => Q (.bl (decide (i < j)))
  | .sc (.str s), .sc (.str t), Q => Q (.bl (decide (s < t)))
  | .nd .tup xs, .nd .tup ys, Q => ∃ ns ms, intsOf xs = some ns ∧ intsOf ys = some ms ∧ Q (.bl (HT.lexLt ns ms))
  | _, _, _ => False
theorem intsOf_map : ∀ ns : List Int, intsOf (ns.map D.int) = some ns
  | [] => rfl
  | n :: r => by rw [List.map_cons, intsOf, intsOf_map r]; rfl
theorem intsOf_eq : ∀ {ds : List D} {ns : List Int}, intsOf ds = some ns → ds = ns.map D.int
  | [], ns, h => by simp [intsOf] at h; subst h; rfl
  | .sc (.int i) :: r, ns, h => by
    rw [intsOf] at h
    cases e : intsOf r with
    | none => rw [e] at h; cases h
    | some m =>
      rw [e] at h
      simp at h
      subst h
      rw [List.map_cons, ← intsOf_eq e]
  | .sc .non :: _, _, h => by simp [intsOf] at h
  | .sc (.bl _) :: _, _, h => by simp [intsOf] at h
  | .sc (.str _) :: _, _, h => by simp [intsOf] at h
  | .nd _ _ :: _, _, h => by simp [intsOf] at h
theorem RepL.ints {K : PySem.W.Frag} {R : RT} {F H : Hp} : ∀ {vs : List V} {ns : List Int} {B : List Addr}, RepL K R F H vs (ns.map D.int) B → vs = ns.map V.int
  | _, [], _, r => by cases r; rfl
  | _, n :: ns, _, r => by
    cases r with
    | cons a b => cases a; rw [List.map_cons, RepL.ints b]; rfl
def isNo : G2
  | .sc s, .sc .non, Q => Q (.bl (decide (s = .non)))
  | .nd _ _, .sc .non, Q => Q (.bl false)
  | _, _, _ => False
def isNt : G2
  | .sc s, .sc .non, Q => Q (.bl (!decide (s = .non)))
  | .nd _ _, .sc .non, Q => Q (.bl true)
  | _, _, _ => False
section
variable {X : Cx} {R : RT}
theorem gtD_ok : OpL X R (compareOp .Gt) gtD := opl_cmpI op_gt fun d e Q h => by
  unfold gtD at h; split at h
  · exact ⟨_, _, rfl, rfl, h⟩
  · exact h.elim
theorem geD_ok : OpL X R (compareOp .GtE) geD := opl_cmpI op_ge fun d e Q h => by
  unfold geD at h; split at h
  · exact ⟨_, _, rfl, rfl, h⟩
  · exact h.elim
theorem leD_ok : OpL X R (compareOp .LtE) leD := opl_cmpI op_le fun d e Q h => by
  unfold leD at h; split at h
  · exact ⟨_, _, rfl, rfl, h⟩
  · exact h.elim
theorem ltD_ok (hu : X.A.units < cLine) : OpL X R (compareOp .Lt) ltD := by
  refine ⟨_, op_lt.or (op_lt_str.or (op_ltT hu)), fun F H x y d e A B Q Qd s rx ry hq out => ?_⟩
  unfold ltD at hq
  split at hq
  · cases rx; cases ry
    exact .inl ⟨_, _, rfl, rfl, out F H _ _ [] (.refl s) (.sc (.bl _)) .nil hq⟩
  · cases rx; cases ry
    refine .inr (.inl ⟨_, _, rfl, rfl, ?_⟩)
    rw [strV_list, strV_list]
    exact out F H _ _ [] (.refl s) (.sc (.bl _)) .nil hq
  · obtain ⟨ns, ms, h1, h2, h3⟩ := hq
    have e1 := intsOf_eq h1
    have e2 := intsOf_eq h2
    subst e1 e2
    obtain ⟨a, vs, B1, rfl, r1, _, _, q1, _⟩ := nd_ref rx s
    obtain ⟨b, ws, B2, rfl, r2, _, _, q2, _⟩ := nd_ref ry s
    have f1 := r1.ints
    have f2 := r2.ints
    subst f1 f2
    exact .inr (.inr ⟨a, b, ns, ms, rfl, rfl, q1 rfl, q2 rfl, out F H _ _ [] (.refl s) (.sc (.bl _)) .nil h3⟩)
  · exact hq.elim
theorem enc_non {s : Sc} : decide (encS s = V.non) = decide (s = .non) := by
  cases s <;> simp [encS]
theorem isNo_ok : OpL X R (compareOp .Is) isNo := by
  refine ⟨_, op_isN, fun F H x y d e A B Q Qd s rx ry hq out => ?_⟩
  unfold isNo at hq
  split at hq
  · cases rx; cases ry
    refine ⟨rfl, ?_⟩
    rw [enc_non]
    exact out F H _ _ [] (.refl s) (.sc (.bl _)) .nil hq
  · cases ry
    obtain ⟨a, vs, B1, rfl, _⟩ := nd_ref rx s
    exact ⟨rfl, out F H _ _ [] (.refl s) (.sc (.bl _)) .nil (by simpa using hq)⟩
  · exact hq.elim
theorem isNt_ok : OpL X R (compareOp .IsNot) isNt := by
  refine ⟨_, op_notN, fun F H x y d e A B Q Qd s rx ry hq out => ?_⟩
  unfold isNt at hq
  split at hq
  · cases rx; cases ry
    refine ⟨rfl, ?_⟩
    rw [enc_non]
    exact out F H _ _ [] (.refl s) (.sc (.bl _)) .nil hq
  · cases ry
    obtain ⟨a, vs, B1, rfl, _⟩ := nd_ref rx s
    exact ⟨rfl, out F H _ _ [] (.refl s) (.sc (.bl _)) .nil (by simpa using hq)⟩
  · exact hq.elim
end

/-! ## tables -/
def keyS : Sc → Option DK
  | .int i => some (.inl i)
  | .str s => some (.inr s)
  | _ => none
def keysT : List D → Option (List DK)
  | [] => some []
  | .sc s :: r => (keyS s).bind fun k => (keysT r).map (k :: ·)
  | .nd _ _ :: _ => none
def lkp {κ α : Type} [DecidableEq κ] : List κ → List α → κ → Option α
  | k :: ks, x :: xs, y => if k = y then some x else lkp ks xs y
  | _, _, _ => none
def hasK {κ : Type} [DecidableEq κ] (ks : List κ) (y : κ) : Bool := ks.any fun k => decide (k = y)
theorem hasK_iff {κ : Type} [DecidableEq κ] {ks : List κ} {y : κ} : hasK ks y = true ↔ y ∈ ks := by
  unfold hasK
  rw [List.any_eq_true]
  exact ⟨fun ⟨x, h, e⟩ => by rw [← of_decide_eq_true e]; exact h, fun h => ⟨y, h, decide_eq_true rfl⟩⟩
theorem keyS_enc {s : Sc} {k : DK} (h : keyS s = some k) : encS s = kV (key k) := by
  cases s <;> simp [keyS] at h <;> subst h <;> rfl
theorem keysT_enc {K : PySem.W.Frag} {R : RT} {F H : Hp} : ∀ {ds : List D} {ks : List DK} {vs : List V} {B : List Addr}, keysT ds = some ks → RepL K R F H vs ds B → vs = (ks.map key).map kV
  | [], ks, _, _, h, r => by simp [keysT] at h; subst h; cases r; rfl
  | .sc s :: t, ks, _, _, h, r => by
    rw [keysT] at h
    cases e : keyS s with
    | none => rw [e] at h; cases h
    | some k =>
      rw [e] at h
      cases e2 : keysT t with
      | none => rw [e2] at h; cases h
      | some ks2 =>
        rw [e2] at h
        simp at h
        subst h
        cases r with
        | cons a b =>
          cases a
          rw [keysT_enc e2 b, keyS_enc e]
          rfl
  | .nd _ _ :: _, _, _, _, h, _ => by simp [keysT] at h
section
variable {κ κ' : Type} [DecidableEq κ] [DecidableEq κ'] {f : κ → κ'}
theorem valV_lkp (hf : ∀ a b, f a = f b → a = b) : ∀ (ks : List κ) (vs : List V) (k : κ), valV ((ks.map f).zip vs) (f k) = lkp ks vs k
  | [], _, _ => by simp [lkp, valV]
  | _ :: _, [], _ => by simp [lkp, valV]
  | a :: ks, v :: vs, k => by
    rw [List.map_cons, List.zip_cons_cons]
    by_cases e : a = k
    · subst e
      rw [valV_pos rfl, lkp, if_pos rfl]
    · rw [valV_neg (fun z => e (hf _ _ z)), lkp, if_neg e]
      exact valV_lkp hf ks vs k
end
theorem lkp_get {κ α : Type} [DecidableEq κ] : ∀ {ks : List κ} {xs : List α} {k : κ} {x : α}, lkp ks xs k = some x → ∃ j : Nat, ks[j]? = some k ∧ xs[j]? = some x
  | [], _, _, _, h => by simp [lkp] at h
  | _ :: _, [], _, _, h => by simp [lkp] at h
  | a :: ks, y :: xs, k, x, h => by
    rw [lkp] at h
    by_cases e : a = k
    · rw [if_pos e] at h; cases h; exact ⟨0, by simp [e], rfl⟩
    · rw [if_neg e] at h
      obtain ⟨j, h1, h2⟩ := lkp_get h
      exact ⟨j + 1, by simpa using h1, by simpa using h2⟩
section
variable {K : PySem.W.Frag} {R : RT} {F H : Hp} {κ : Type} [DecidableEq κ]
theorem lkp_rep : ∀ {ks : List κ} {vs : List V} {ds : List D} {B : List Addr} {k : κ} {d : D}, RepL K R F H vs ds B → lkp ks ds k = some d → ∃ v B', lkp ks vs k = some v ∧ Rep K R F H v d B' ∧ B'.Sublist B
  | [], _, _, _, _, _, _, h => by simp [lkp] at h
  | _ :: _, _, [], _, _, _, r, h => by simp [lkp] at h
  | a :: ks, _, d0 :: ds, _, k, d, r, h => by
    cases r with
    | cons r1 r2 =>
      rename_i v0 A0 vs B0
      rw [lkp] at h
      by_cases e : a = k
      · rw [if_pos e] at h; cases h
        exact ⟨v0, A0, by rw [lkp, if_pos e], r1, List.sublist_append_left _ _⟩
      · rw [if_neg e] at h
        obtain ⟨v, B', q, r', sl⟩ := lkp_rep r2 h
        exact ⟨v, B', by rw [lkp, if_neg e]; exact q, r', sl.trans (List.sublist_append_right _ _)⟩
theorem lkp_none : ∀ {ks : List κ} {vs : List V} {ds : List D} {k : κ}, vs.length = ds.length → (lkp ks vs k).isSome = (lkp ks ds k).isSome
  | [], _, _, _, _ => by simp [lkp]
  | _ :: _, [], [], _, _ => by simp [lkp]
  | a :: ks, v :: vs, d :: ds, k, h => by
    rw [lkp, lkp]
    by_cases e : a = k
    · rw [if_pos e, if_pos e]; rfl
    · rw [if_neg e, if_neg e]; exact lkp_none (by simpa using h)
theorem lkp_mem {α : Type} : ∀ {ks : List κ} {xs : List α} {k : κ}, ks.length = xs.length → (lkp ks xs k).isSome = hasK ks k
  | [], _, _, _ => by simp [lkp, hasK]
  | a :: ks, x :: xs, k, h => by
    rw [lkp]
    by_cases e : a = k
    · rw [if_pos e, hasK, List.any_cons, decide_eq_true e]; rfl
    · rw [if_neg e, lkp_mem (by simpa using h), hasK, hasK, List.any_cons, decide_eq_false e, Bool.false_or]
end
/-- what a dict of data is in the heap -/
theorem dct_at {K : PySem.W.Frag} {R : RT} {F H : Hp} {v : V} {o : Bool} {ks : List DK} {ds : List D} {B : List Addr} (r : Rep K R F H v (.nd (.dct o ks) ds) B) (s : Same F H) :
    ∃ a vs B', v = .ref a ∧ RepL K R F H vs ds B' ∧ B'.Sublist B ∧ ks.length = vs.length ∧ H a = some (.dK (zipK ks vs)) := by
  cases r with
  | fz h1 h2 h3 => exact ⟨_, _, _, rfl, h2, List.Sublist.refl _, h1.2.1, s _ _ h1.2.2⟩
  | ow h1 h2 h3 => exact ⟨_, _, _, rfl, h3, List.sublist_cons_self _ _, h1.2.1, h1.2.2⟩
theorem dcT_at {K : PySem.W.Frag} {R : RT} {F H : Hp} {v : V} {o : Bool} {ks : List (List DK)} {ds : List D} {B : List Addr} (r : Rep K R F H v (.nd (.dcT o ks) ds) B) (s : Same F H) :
    ∃ a vs B', v = .ref a ∧ RepL K R F H vs ds B' ∧ B'.Sublist B ∧ ks.length = vs.length ∧ H a = some (.dT (zipT ks vs)) := by
  cases r with
  | fz h1 h2 h3 => exact ⟨_, _, _, rfl, h2, List.Sublist.refl _, h1.2.1, s _ _ h1.2.2⟩
  | ow h1 h2 h3 => exact ⟨_, _, _, rfl, h3, List.sublist_cons_self _ _, h1.2.1, h1.2.2⟩
theorem keys_inj {a b : List DK} (h : a.map key = b.map key) : a = b := by
  induction a generalizing b with
  | nil => cases b with | nil => rfl | cons _ _ => simp at h
  | cons x a ih =>
    cases b with
    | nil => simp at h
    | cons y b =>
      simp only [List.map_cons, List.cons.injEq] at h
      rw [key_inj h.1, ih h.2]

/-! ## in, not in -/
def flatD : D → Bool
  | .sc _ => true
  | .nd _ _ => false
def inD (neg : Bool) : G2
  | .sc (.str [c]), .sc (.str t), Q => Q (.bl (neg ^^ decide (c ∈ t)))
  | .sc a, .nd k ds, Q => match k with
    | .dct _ ks => ∃ y : DK, keyS a = some y ∧ Q (.bl (neg ^^ hasK ks y))
    | .lst _ => ds.all flatD = true ∧ Q (.bl (neg ^^ ds.any fun d => eqv d (.sc a)))
    | .scr => ds.all flatD = true ∧ Q (.bl (neg ^^ ds.any fun d => eqv d (.sc a)))
    | .tup => ds.all flatD = true ∧ Q (.bl (neg ^^ ds.any fun d => eqv d (.sc a)))
    | _ => False
  | _, _, _ => False
section
variable {X : Cx} {R : RT}
def rInDc (neg : Bool) : R2 := fun x y H Q => ∃ a o, y = .ref a ∧ DGet H a x o ∧ Q (.bl (neg ^^ o.isSome)) H
theorem op_inDc (hu : X.A.units + 1 < cLine) : OpR X (compareOp .In) (rInDc false) := by
  intro pins s σ H x y v u Q I rx ry h
  obtain ⟨a, o, rfl, g, q⟩ := h
  cases ry
  exact d_in hu I g rx fun s' I' => ⟨.bl o.isSome, H, I', rfl, by simpa using q⟩
theorem op_notInDc (hu : X.A.units + 1 < cLine) : OpR X (compareOp .NotIn) (rInDc true) := by
  intro pins s σ H x y v u Q I rx ry h
  obtain ⟨a, o, rfl, g, q⟩ := h
  cases ry
  exact d_notIn hu I g rx fun s' I' => ⟨.bl (!o.isSome), H, I', rfl, by simpa using q⟩
theorem flat_enc : ∀ (s : Sc), flatV (encS s) = true := by intro s; cases s <;> rfl
theorem eqV_enc (a b : Sc) : eqV (encS a) (encS b) = eqS a b := by
  cases a <;> cases b <;> simp [encS, eqV, eqS, strV_beq] <;> rfl
theorem RepL.flat {K : PySem.W.Frag} {F H : Hp} (a : Sc) : ∀ {vs : List V} {ds : List D} {B : List Addr}, RepL K R F H vs ds B → ds.all flatD = true → vs.all flatV = true ∧ inV (encS a) vs = ds.any fun d => eqv d (.sc a)
  | _, [], _, r, _ => by cases r; exact ⟨rfl, rfl⟩
  | _, .sc s :: t, _, r, h => by
    cases r with
    | cons r1 r2 =>
      cases r1
      rw [List.all_cons, Bool.and_eq_true] at h
      obtain ⟨h1, h2⟩ := RepL.flat a r2 h.2
      refine ⟨by rw [List.all_cons, flat_enc, h1]; rfl, ?_⟩
      unfold inV at h2 ⊢
      rw [List.any_cons, List.any_cons, h2, eqV_enc, eqv]
  | _, .nd _ _ :: t, _, r, h => by simp [flatD] at h
theorem inD_gen {f : Value → Value → Sem Value} {neg : Bool} (o1 : OpR X f (fun x y H Q => ∃ (c : Nat) (z : Str), x = .str ⟨#[c]⟩ ∧ y = .str z ∧ Q (.bl (neg ^^ decide (c ∈ z.cps.toList))) H))
    (o2 : OpR X f (rIn X.K neg)) (o3 : OpR X f (rInDc neg)) : OpL X R f (inD neg) := by
  refine ⟨_, o1.or (o2.or o3), fun F H x y d e A B Q Qd s rx ry hq out => ?_⟩
  have fin : ∀ {b : Bool}, Qd (.bl b) → Q (.bl b) H := fun {b} h => out F H _ _ [] (.refl s) (.sc (.bl b)) .nil h
  have sq : ∀ {a : Sc} {k : Kind} {ds : List D}, Rep X.K R F H y (.nd k ds) B → x = encS a → k.isSq = true → ds.all flatD = true → Qd (.bl (neg ^^ ds.any fun d => eqv d (.sc a))) → rIn X.K neg x y H Q := fun {a k ds} ry ex hk h1 h2 => by
    obtain ⟨p, vs, B1, rfl, r1, _, q1, q2, _⟩ := nd_ref ry s
    obtain ⟨f1, f2⟩ := r1.flat a h1
    refine ⟨p, vs, rfl, ?_, by rw [ex]; exact flat_enc a, f1, ?_⟩
    · cases k with
      | lst o => exact .inl (q1 rfl)
      | scr => exact .inl (q1 rfl)
      | tup => exact .inr (q2 rfl)
      | _ => cases hk
    · rw [ex, f2]
      cases neg with
      | true => rw [if_pos rfl]; exact fin (by simpa using h2)
      | false => rw [if_neg Bool.false_ne_true]; exact fin (by simpa using h2)
  unfold inD at hq
  split at hq
  · cases rx; cases ry
    exact .inl ⟨_, _, rfl, rfl, by rw [strV_list]; exact fin hq⟩
  · rename_i a k ds
    cases rx
    cases k with
    | lst o => exact .inr (.inl (sq ry rfl rfl hq.1 hq.2))
    | scr => exact .inr (.inl (sq ry rfl rfl hq.1 hq.2))
    | tup => exact .inr (.inl (sq ry rfl rfl hq.1 hq.2))
    | ins o c => exact hq.elim
    | dcT o ks => exact hq.elim
    | dct o ks =>
      obtain ⟨k, hk, hq⟩ := hq
      obtain ⟨p, vs, B1, rfl, r1, _, hl, hp⟩ := dct_at ry s
      refine .inr (.inr ⟨p, _, rfl, by rw [keyS_enc hk]; exact DGet.k hp, ?_⟩)
      unfold zipK
      rw [valV_lkp (fun a b z => key_inj z), lkp_mem hl]
      exact fin hq
  · exact hq.elim

theorem inD_in (hu : X.A.units + 1 < cLine) : OpL X R (compareOp .In) (inD false) := inD_gen (fun pins s σ H x y v u Q I rx ry h => op_in_sign pins s σ H x y v u Q I rx ry (by simpa using h)) op_in_seq (op_inDc hu)
theorem inD_no (hu : X.A.units + 1 < cLine) : OpL X R (compareOp .NotIn) (inD true) := inD_gen (fun pins s σ H x y v u Q I rx ry h => op_notIn_sign pins s σ H x y v u Q I rx ry (by simpa using h)) op_notIn_seq (op_notInDc hu)
end

/-! ## a[b] -/
def ixD : D → D → (D → Prop) → Prop
  | .sc (.str s), .sc (.int i), Q => s.length ≤ 16777216 ∧ ∃ c, atI s i = some c ∧ Q (.str [c])
  | .nd (.lst _) ds, .sc (.int i), Q => ∃ d, atI ds i = some d ∧ Q d
  | .nd .scr ds, .sc (.int i), Q => ∃ d, atI ds i = some d ∧ Q d
  | .nd .tup ds, .sc (.int i), Q => ∃ d, atI ds i = some d ∧ Q d
  | .nd (.dct _ ks) ds, .sc s, Q => ∃ k d, keyS s = some k ∧ lkp ks ds k = some d ∧ Q d
  | _, _, _ => False
def dIx (ta tb : TEd) : TEd := fun env Q E => ta env (fun b d => tb env (fun _ e => ixD d e (Q b)) E) E
section
variable {X : Cx} {R : RT}
def rIxD : R2 := fun x y H Q => ∃ a v, x = .ref a ∧ DGet H a y (some v) ∧ Q v H
theorem ix_dict (hu : X.A.units + 1 < cLine) : IxR X rIxD := by
  intro value slice pins s σ H x y v u Q I rx ry h hs
  obtain ⟨a, z, rfl, g, q⟩ := h
  cases rx
  exact PyProof.Rows.tail_any (dict_typeIs I g) PySem.F.slot_dict_getitem.lookup (d_getItem hu I g ry fun w' s' I' r' => ⟨z, H, I', r', q⟩) hs
theorem atI_rep {K : PySem.W.Frag} {F H : Hp} {vs : List V} {ds : List D} {B : List Addr} {i : Int} {d : D} (r : RepL K R F H vs ds B) (h : atI ds i = some d) : ∃ v B', atI vs i = some v ∧ Rep K R F H v d B' ∧ B'.Sublist B := by
  unfold atI at h ⊢
  rw [r.length]
  cases e : ixN ds.length i with
  | none => rw [e] at h; cases h
  | some j =>
    rw [e] at h
    obtain ⟨v, B', e1, r1, sl⟩ := r.get (show ds[j]? = some d from h)
    exact ⟨v, B', e1, r1, sl⟩
theorem atI_strV (s : Txt) (i : Int) : atI (strV s).cps.toList i = atI s i := by rw [strV_list]
theorem ixL {F H : Hp} {x y : V} {d e : D} {A B : List Addr} {Q : VK} {Qd : D → Prop} (s : Same F H) (rx : Rep X.K R F H x d A) (ry : Rep X.K R F H y e B) (hq : ixD d e Qd)
    (out : ∀ v z C, Rep X.K R F H v z C → (C.Sublist A) → Qd z → Q v H) : rIx X.K x y H Q ∨ rIxD x y H Q := by
  have sq : ∀ {k : Kind} {ds : List D} {i : Int} {x : V} {A : List Addr}, Rep X.K R F H x (.nd k ds) A → (∀ v z C, Rep X.K R F H v z C → C.Sublist A → Qd z → Q v H) → y = .int i → k.isSq = true → (∃ d, atI ds i = some d ∧ Qd d) → rIx X.K x y H Q := fun {k ds i x A} rx out ey hk h => by
    obtain ⟨d, h1, h2⟩ := h
    obtain ⟨p, vs, B1, rfl, r1, sl, q1, q2, _⟩ := nd_ref rx s
    obtain ⟨v, B2, h3, r3, sl3⟩ := atI_rep r1 h1
    have fin := out v d B2 r3 (sl3.trans sl) h2
    cases k with
    | lst o => exact .inl ⟨p, vs, i, v, rfl, ey, q1 rfl, h3, fin⟩
    | scr => exact .inl ⟨p, vs, i, v, rfl, ey, q1 rfl, h3, fin⟩
    | tup => exact .inr (.inl ⟨p, vs, i, v, rfl, ey, q2 rfl, h3, fin⟩)
    | _ => cases hk
  unfold ixD at hq
  split at hq
  · cases rx; cases ry
    obtain ⟨hl, c, h1, h2⟩ := hq
    exact .inl (.inr (.inr ⟨_, _, c, rfl, rfl, by rw [strV_len]; exact sizeL hl, by rw [atI_strV]; exact h1, out _ (.str [c]) [] (.sc (.str [c])) (List.nil_sublist _) h2⟩))
  · cases ry; exact .inl (sq rx out rfl rfl hq)
  · cases ry; exact .inl (sq rx out rfl rfl hq)
  · cases ry; exact .inl (sq rx out rfl rfl hq)
  · obtain ⟨k, d, hk, h1, h2⟩ := hq
    cases ry
    obtain ⟨p, vs, B1, rfl, r1, sl, hl, hp⟩ := dct_at rx s
    obtain ⟨v, B2, h3, r3, sl3⟩ := lkp_rep r1 h1
    refine .inr ⟨p, v, rfl, ?_, out v d B2 r3 (sl3.trans sl) h2⟩
    rw [keyS_enc hk, ← h3, ← valV_lkp (f := key) (fun a b z => key_inj z)]
    exact DGet.k hp
  · exact hq.elim
theorem Fresh.sub {H : Hp} {A B : List Addr} (h : Fresh H B) (s : A.Sublist B) : Fresh H A := ⟨s.nodup h.1, fun a ha => h.2 a (s.mem ha)⟩
theorem le_ix {W : WX} {t1 t2 : TE} {ta tb : TEd} (h1 : LE X.K R W t1 ta) (h2 : LE X.K R W t2 tb) : LE X.K R W (tOp (fun x y H Q => rIx X.K x y H Q ∨ rIxD x y H Q) t1 t2) (dIx ta tb) := by
  intro F H σ env As Q Qd Ed s er h q x
  refine h1 F H σ env As _ _ Ed s er h (fun F1 H1 v d B b g1 r1 f1 hd => ?_) x
  refine h2 F1 H1 σ env As _ _ Ed g1.fh (er.grow g1) hd (fun F2 H2 w e C b2 g2 r2 f2 hq => ?_) (x.grow g1)
  exact ixL g2.fh (r1.grow g2) r2 hq fun z dz Cz r3 sl hz => q F2 H2 z dz Cz b (g1.trans g2) r3 (fun eb => (f1 eb).sub sl) hz
theorem de_ix (hu : X.A.units + 1 < cLine) {a b : Expr} {ta tb : TEd} {pos : Pos} (h1 : DE M X R a ta) (h2 : DE M X R b tb) (hs : PlainIx b := by exact fun _ _ => rfl) : DE M X R (.Subscript a b pos) (dIx ta tb) := fun W tk => by
  obtain ⟨_, a1, a2⟩ := h1 W tk
  obtain ⟨_, b1, b2⟩ := h2 W tk
  exact ⟨_, pe_ix (ix_seq.or (ix_dict hu)) a1 b1 hs, le_ix a2 b2⟩
end

/-! ## a[b:c] -/
def cutG {α : Type} (xs : List α) (lo hi : Option Int) : List α := (xs.drop (HT.sIx xs.length 0 lo)).take (HT.sIx xs.length xs.length hi - HT.sIx xs.length 0 lo)
abbrev TOd := Sl → (Option Int → Prop) → (EX → Prop) → Prop
def isI : D → (Int → Prop) → Prop
  | .sc (.int i), Q => Q i
  | _, _ => False
def oNo : TOd := fun _ Q _ => Q none
def oSm (t : TEd) : TOd := fun env Q E => t env (fun _ d => isI d fun i => Q (some i)) E
theorem isI_of {d : D} {Q : Int → Prop} (h : isI d Q) : ∃ i, d = .int i ∧ Q i := by
  unfold isI at h
  split at h
  · exact ⟨_, rfl, h⟩
  · exact h.elim
def slD (lo hi : Option Int) : D → (D → Prop) → Prop
  | .sc (.str s), Q => s.length ≤ 16777216 ∧ Q (.str (cutG s lo hi))
  | .nd (.lst o) ds, Q => stb (.lst o) ds = true ∧ Q (.lst true (cutG ds lo hi))
  | .nd .scr ds, Q => Q (.lst true (cutG ds lo hi))
  | .nd .tup ds, Q => fzL ds = true ∧ Q (.tup (cutG ds lo hi))
  | _, _ => False
def dSl (ta : TEd) (lo hi : TOd) : TEd := fun env Q E => ta env (fun _ d => lo env (fun l => hi env (fun h => slD l h d (Q false)) E) E) E
section
variable {X : Cx} {R : RT}
def LO (K : PySem.W.Frag) (R : RT) (W : WX) (t : TO) (td : TOd) : Prop := ∀ (F H : Hp) (σ : St) (env : Sl) (As : Nat → List Addr) (Q : Option Int → Hp → Prop) (Qd : Option Int → Prop) (Ed : EX → Prop),
  Same F H → EnvR K R F H σ env As → td env Qd Ed → (∀ F' H' c, Grow F H F' H' → Qd c → Q c H') → ExW K R W F H σ Ed → t σ H Q
def DO (M : Bool) (X : Cx) (R : RT) (e : Option Expr) (td : TOd) : Prop := ∀ W, Tk M X W → ∃ t, PO X e t ∧ LO X.K R W t td
theorem do_no : DO M X R none oNo := fun W _ => ⟨_, po_none, fun F H σ env As Q Qd Ed s er h q _ => q F H none (.refl s) h⟩
theorem do_sm {e : Expr} {t : TEd} (h : DE M X R e t) : DO M X R (some e) (oSm t) := fun W tk => by
  obtain ⟨_, a1, a2⟩ := h W tk
  refine ⟨_, po_some a1, fun F H σ env As Q Qd Ed s er h q x => a2 F H σ env As _ _ Ed s er h (fun F1 H1 v d B b g1 r1 f1 hd => ?_) x⟩
  obtain ⟨i, rfl, hq⟩ := isI_of hd
  cases r1
  exact ⟨i, rfl, q F1 H1 (some i) g1 hq⟩
theorem RepL.cut {K : PySem.W.Frag} {F H : Hp} {vs : List V} {ds : List D} (lo hi : Option Int) (r : RepL K R F H vs ds []) : RepL K R F H (cutV vs lo hi) (cutG ds lo hi) [] := by
  unfold cutV cutG
  rw [r.length]
  obtain ⟨B1, r1, s1⟩ := r.drop (HT.sIx ds.length 0 lo)
  obtain ⟨B2, r2, s2⟩ := r1.take (HT.sIx ds.length ds.length hi - HT.sIx ds.length 0 lo)
  have e : B2 = [] := List.eq_nil_of_subset_nil fun a ha => s1.mem (s2.mem ha)
  rw [← e]
  exact r2
theorem slD_ok {F H : Hp} {x : V} {d : D} {A : List Addr} {lo hi : Option Int} {Q : VK} {Qd : D → Prop} (s : Same F H) (rx : Rep X.K R F H x d A) (hq : slD lo hi d Qd) (out : Out X.K R F H Qd Q) :
    rSlL X.K x lo hi H Q ∨ rSlA X.K x lo hi H Q ∨ rSlS x lo hi H Q := by
  unfold slD at hq
  split at hq
  · rename_i tx
    cases rx
    refine .inr (.inr ⟨_, rfl, by rw [strV_len]; exact sizeL hq.1, ?_⟩)
    have e : cutS (strV tx) lo hi = strV (cutG tx lo hi) := by
      unfold cutS cutG
      rw [strV_len, strV_list]
      rfl
    rw [e]
    exact out F H _ _ [] (.refl s) (.sc (.str _)) .nil hq.2
  · obtain ⟨p, vs, B1, rfl, r1, _, q1, _, z⟩ := nd_ref rx s
    have e := z hq.1
    subst e
    exact .inl ⟨p, vs, rfl, q1 rfl, fun l hl => new_list s (r1.cut lo hi) out hq.2 hl⟩
  · obtain ⟨p, vs, B1, rfl, r1, _, q1, _, z⟩ := nd_ref rx s
    have e := z rfl
    subst e
    exact .inl ⟨p, vs, rfl, q1 rfl, fun l hl => new_list s (r1.cut lo hi) out hq hl⟩
  · rename_i ds
    obtain ⟨p, vs, B1, rfl, r1, _, _, q2, z⟩ := nd_ref rx s
    have e := r1.none hq.1
    subst e
    refine .inr (.inl ⟨p, vs, rfl, q2 rfl, fun hw => ?_, fun hw t ht => new_tup s (r1.cut lo hi) out hq.2 ht⟩)
    have e1 := r1.cut lo hi
    have ev : cutV vs lo hi = vs := by
      unfold cutV
      rw [hw.1, hw.2]
      simp
    have ed : cutG ds lo hi = ds := by
      unfold cutG
      rw [← r1.length, hw.1, hw.2, r1.length]
      simp
    have ra := rx.none (by rw [fz]; simp [hq.1])
    subst ra
    rw [ed] at hq
    exact out F H _ _ [] (.refl s) rx .nil hq.2
  · exact hq.elim
theorem de_sl {a : Expr} {lo hi : Option Expr} {ta : TEd} {tl th : TOd} {pos p2 : Pos} (h1 : DE M X R a ta) (h2 : DO M X R lo tl) (h3 : DO M X R hi th) : DE M X R (.Subscript a (.Slice lo hi none p2) pos) (dSl ta tl th) := fun W tk => by
  obtain ⟨_, a1, a2⟩ := h1 W tk
  obtain ⟨_, b1, b2⟩ := h2 W tk
  obtain ⟨_, c1, c2⟩ := h3 W tk
  refine ⟨_, pe_slice (sl_list.or (sl_tupA.or sl_str)) a1 b1 c1, ?_⟩
  intro F H σ env As Q Qd Ed s er h q x
  refine a2 F H σ env As _ _ Ed s er h (fun F1 H1 v d B b g1 r1 f1 hd => ?_) x
  refine b2 F1 H1 σ env As _ _ Ed g1.fh (er.grow g1) hd (fun F2 H2 l g2 hd2 => ?_) (x.grow g1)
  refine c2 F2 H2 σ env As _ _ Ed g2.fh (er.grow (g1.trans g2)) hd2 (fun F3 H3 u g3 hq => ?_) (x.grow (g1.trans g2))
  exact slD_ok g3.fh (r1.grow (g2.trans g3)) hq fun F4 H4 z dz C g4 r4 f4 hz => q F4 H4 z dz C false (((g1.trans g2).trans g3).trans g4) r4 (fun _ => f4.back ((g1.trans g2).trans g3)) hz
end
end DL

set_option Elab.async false
set_option linter.all false
set_option maxRecDepth 100000
set_option maxHeartbeats 1000000
namespace DL
open PySem PySem.Spec L2
variable {M : Bool}

/-! ## calls of built-ins -/
abbrev GC := List D → (D → Prop) → Prop
def CallL (X : Cx) (R : RT) (f : Value) (g : GC) : Prop := ∃ r, CallR X f r ∧ ∀ (F H : Hp) (vs : List V) (ds : List D) (B : List Addr) (Q : VK) (Qd : D → Prop),
  Same F H → RepL X.K R F H vs ds B → g ds Qd → Out X.K R F H Qd Q → r vs H Q
def dCB (g : GC) (ta : TAd) : TEd := fun env Q E => ta env (fun ds => g ds (Q false)) E
section
variable {X : Cx} {R : RT} {e : Expr} {es : List Expr} {ta : TAd} {g : GC} {x : Str} {p pos : Pos}
theorem le_cb {W : WX} {r : List V → Hp → VK → Prop} {t : TA} (hr : ∀ (F H : Hp) (vs : List V) (ds : List D) (B : List Addr) (Q : VK) (Qd : D → Prop),
    Same F H → RepL X.K R F H vs ds B → g ds Qd → Out X.K R F H Qd Q → r vs H Q) (h : LB X.K R W t ta) : LE X.K R W (tCB r t) (dCB g ta) := by
  intro F H σ env As Q Qd Ed s er h0 q x
  refine h F H σ env As _ _ Ed s er h0 (fun F1 H1 vs ds B g1 r1 hd => ?_) x
  exact hr F1 H1 vs ds B Q (Qd false) g1.fh r1 hd fun F2 H2 z dz C g2 r2 f2 hz => q F2 H2 z dz C false (g1.trans g2) r2 (fun _ => f2.back g1) hz
theorem de_callB {id : String} (hc : CallL X R (.builtin id) g) (hg : Gl X x) (hm : X.mg x = none) (hv : bootBuiltins x = some (.builtin id)) (ha : DB M X R (e :: es) ta) (hn : x ≠ "__name__" := by decide) (hdb : (x == ("__debug__" : Str)) = false := by decide)
    (he : starEach (e :: es) X.env = (false, eval e X.env) :: starEach es X.env := by rfl) (hpl : (backTo pos (starEach es X.env)).any (·.1) = false := by rfl) : DE M X R (.Call (.Name x p) (e :: es) [] pos) (dCB g ta) := fun W tk => by
  obtain ⟨r, o1, o2⟩ := hc
  obtain ⟨_, a1, a2⟩ := ha W tk
  exact ⟨_, pe_callB o1 hg hm hv a1 hn hdb he hpl, le_cb o2 a2⟩
theorem de_callTy {T : String} (hc : CallL X R (.type T) g) (hg : Gl X x) (hm : X.mg x = none) (hv : bootBuiltins x = some (.type T)) (ha : DB M X R (e :: es) ta) (hn : x ≠ "__name__" := by decide) (hdb : (x == ("__debug__" : Str)) = false := by decide)
    (he : starEach (e :: es) X.env = (false, eval e X.env) :: starEach es X.env := by rfl) (hpl : (backTo pos (starEach es X.env)).any (·.1) = false := by rfl) : DE M X R (.Call (.Name x p) (e :: es) [] pos) (dCB g ta) := fun W tk => by
  obtain ⟨r, o1, o2⟩ := hc
  obtain ⟨_, a1, a2⟩ := ha W tk
  exact ⟨_, pe_callTy o1 hg hm hv a1 hn hdb he hpl, le_cb o2 a2⟩
end

def lenD : GC
  | [.sc (.str s)], Q => s.length ≤ 16777216 ∧ Q (.int s.length)
  | [.nd (.lst _) ds], Q => Q (.int ds.length)
  | [.nd .scr ds], Q => Q (.int ds.length)
  | [.nd .tup ds], Q => Q (.int ds.length)
  | [.nd (.dct _ _) ds], Q => Q (.int ds.length)
  | _, _ => False
def keyD : DK → D
  | .inl i => .int i
  | .inr s => .str s
def listD : GC
  | [.nd (.lst o) ds], Q => stb (.lst o) ds = true ∧ Q (.lst true ds)
  | [.nd .scr ds], Q => Q (.lst true ds)
  | [.nd .tup ds], Q => fzL ds = true ∧ Q (.lst true ds)
  | [.nd (.dct _ ks) _], Q => Q (.lst true (ks.map keyD))
  | _, _ => False
def tupleD : GC
  | [.nd (.lst o) ds], Q => stb (.lst o) ds = true ∧ Q (.tup ds)
  | [.nd .scr ds], Q => Q (.tup ds)
  | [.nd .tup ds], Q => fzL ds = true ∧ Q (.tup ds)
  | _, _ => False
def intD : GC
  | [.sc (.int i)], Q => Q (.int i)
  | [.sc (.bl b)], Q => Q (.int (if b then 1 else 0))
  | [.sc (.str s)], Q => s.length ≤ 640 ∧ ∃ n, PySem.intText? (strV s) = some n ∧ Q (.int n)
  | _, _ => False
def numT (i : Int) : Txt := (Str.ofString (toString i)).cps.toList
theorem numT_str (i : Int) : strV (numT i) = Str.ofString (toString i) := by
  unfold numT strV
  simp
def strD : GC
  | [.sc (.int i)], Q => i.natAbs.log2 < 1920 ∧ Q (.str (numT i))
  | _, _ => False
def ordD : GC
  | [.sc (.str [c])], Q => Q (.int (c : Nat))
  | _, _ => False
def maxD : GC
  | [.sc (.int i), .sc (.int j)], Q => Q (.int (if j > i then j else i))
  | _, _ => False
def minD : GC
  | [.sc (.int i), .sc (.int j)], Q => Q (.int (if j < i then j else i))
  | _, _ => False
def absD : GC
  | [.sc (.int i)], Q => Q (.int (if i < 0 then -i else i))
  | _, _ => False
def blsOf : List D → Option (List Bool)
  | [] => some []
  | .sc (.bl b) :: r => (blsOf r).map (b :: ·)
  | _ :: _ => none
theorem blsOf_map : ∀ bs : List Bool, blsOf (bs.map D.bl) = some bs
  | [] => rfl
  | n :: r => by rw [List.map_cons, blsOf, blsOf_map r]; rfl
theorem blsOf_eq : ∀ {ds : List D} {bs : List Bool}, blsOf ds = some bs → ds = bs.map D.bl
  | [], ns, h => by simp [blsOf] at h; subst h; rfl
  | .sc (.bl i) :: r, ns, h => by
    rw [blsOf] at h
    cases e : blsOf r with
    | none => rw [e] at h; cases h
    | some m =>
      rw [e] at h
      simp at h
      subst h
      rw [List.map_cons, ← blsOf_eq e]
  | .sc .non :: _, _, h => by simp [blsOf] at h
  | .sc (.int _) :: _, _, h => by simp [blsOf] at h
  | .sc (.str _) :: _, _, h => by simp [blsOf] at h
  | .nd _ _ :: _, _, h => by simp [blsOf] at h
def anyD : GC
  | [.nd (.lst _) ds], Q => ∃ bs, blsOf ds = some bs ∧ Q (.bl (bs.any id))
  | _, _ => False
def allD : GC
  | [.nd (.lst _) ds], Q => ∃ bs, blsOf ds = some bs ∧ Q (.bl (bs.all id))
  | _, _ => False
def sumD : GC
  | [.nd (.lst _) ds], Q => ∃ ns, intsOf ds = some ns ∧ Q (.int ns.sum)
  | _, _ => False
section
variable {X : Cx} {R : RT}
theorem repl1 {K : PySem.W.Frag} {F H : Hp} {vs : List V} {d : D} {B : List Addr} (r : RepL K R F H vs [d] B) : ∃ v, vs = [v] ∧ Rep K R F H v d B := by
  cases r with
  | cons a b =>
    cases b
    exact ⟨_, rfl, by rw [List.append_nil]; exact a⟩
theorem repl2 {K : PySem.W.Frag} {F H : Hp} {vs : List V} {d e : D} {B : List Addr} (r : RepL K R F H vs [d, e] B) : ∃ v w A C, vs = [v, w] ∧ Rep K R F H v d A ∧ Rep K R F H w e C := by
  cases r with
  | cons a b =>
    obtain ⟨w, rfl, b'⟩ := repl1 b
    exact ⟨_, w, _, _, rfl, a, b'⟩
theorem RepL.bls {K : PySem.W.Frag} {F H : Hp} : ∀ {vs : List V} {ns : List Bool} {B : List Addr}, RepL K R F H vs (ns.map D.bl) B → vs = ns.map V.bl
  | _, [], _, r => by cases r; rfl
  | _, n :: ns, _, r => by
    cases r with
    | cons a b => cases a; rw [List.map_cons, RepL.bls b]; rfl
theorem lenD_ok : CallL X R (.builtin "len") lenD := by
  refine ⟨_, call_len_seq.or (call_len_str.or call_lenD), fun F H vs ds B Q Qd s r hq out => ?_⟩
  have fin : ∀ {n : Nat}, Qd (.int n) → Q (.int n) H := fun {n} h => out F H _ _ [] (.refl s) (.sc (.int n)) .nil h
  unfold lenD at hq
  split at hq
  · obtain ⟨v, rfl, rx⟩ := repl1 r
    cases rx
    exact .inr (.inl ⟨_, rfl, by rw [strV_len]; exact sizeL hq.1, by rw [strV_len]; exact fin hq.2⟩)
  · obtain ⟨v, rfl, rx⟩ := repl1 r
    obtain ⟨p, vs, B1, rfl, r1, _, q1, q2, _⟩ := nd_ref rx s
    exact .inl ⟨p, vs, rfl, .inl (q1 rfl), by rw [r1.length]; exact fin hq⟩
  · obtain ⟨v, rfl, rx⟩ := repl1 r
    obtain ⟨p, vs, B1, rfl, r1, _, q1, q2, _⟩ := nd_ref rx s
    exact .inl ⟨p, vs, rfl, .inl (q1 rfl), by rw [r1.length]; exact fin hq⟩
  · obtain ⟨v, rfl, rx⟩ := repl1 r
    obtain ⟨p, vs, B1, rfl, r1, _, q1, q2, _⟩ := nd_ref rx s
    exact .inl ⟨p, vs, rfl, .inr (q2 rfl), by rw [r1.length]; exact fin hq⟩
  · rename_i o ks ds
    obtain ⟨v, rfl, rx⟩ := repl1 r
    obtain ⟨p, vs, B1, rfl, r1, _, hl, hp⟩ := dct_at rx s
    refine .inr (.inr ⟨p, _, rfl, hp, ?_⟩)
    have e : (zipK ks vs).length = ds.length := by
      unfold zipK
      rw [List.length_zip, List.length_map, hl, Nat.min_self, r1.length]
    rw [e]
    exact fin hq
  · exact hq.elim
theorem keys_rep {K : PySem.W.Frag} {F H : Hp} : ∀ (ks : List DK), RepL K R F H (ks.map fun k => kV (key k)) (ks.map keyD) []
  | [] => .nil
  | .inl i :: r => .cons (A := []) (B := []) (.sc (.int i)) (keys_rep r)
  | .inr s :: r => .cons (A := []) (B := []) (.sc (.str s)) (keys_rep r)
theorem listD_ok (hc : X.calm = true) : CallL X R (.type "list") listD := by
  refine ⟨_, call_list_of.or (call_list_dK hc), fun F H vs ds B Q Qd s r hq out => ?_⟩
  unfold listD at hq
  split at hq
  · obtain ⟨v, rfl, rx⟩ := repl1 r
    obtain ⟨p, vs, B1, rfl, r1, _, q1, q2, z⟩ := nd_ref rx s
    have e := z hq.1
    subst e
    exact .inl ⟨p, vs, rfl, .inl (q1 rfl), fun l hl => new_list s r1 out hq.2 hl⟩
  · obtain ⟨v, rfl, rx⟩ := repl1 r
    obtain ⟨p, vs, B1, rfl, r1, _, q1, q2, z⟩ := nd_ref rx s
    have e := z rfl
    subst e
    exact .inl ⟨p, vs, rfl, .inl (q1 rfl), fun l hl => new_list s r1 out hq hl⟩
  · obtain ⟨v, rfl, rx⟩ := repl1 r
    obtain ⟨p, vs, B1, rfl, r1, _, q1, q2, z⟩ := nd_ref rx s
    have e := r1.none hq.1
    subst e
    exact .inl ⟨p, vs, rfl, .inr (q2 rfl), fun l hl => new_list s r1 out hq.2 hl⟩
  · rename_i o ks ds
    obtain ⟨v, rfl, rx⟩ := repl1 r
    obtain ⟨p, vs, B1, rfl, r1, _, hl, hp⟩ := dct_at rx s
    refine .inr ⟨p, _, rfl, hp, fun l hl2 => ?_⟩
    have e : (zipK ks vs).map (fun kv => kV kv.1) = ks.map fun k => kV (key k) := by
      unfold zipK
      rw [show (fun kv : Key × V => kV kv.1) = kV ∘ Prod.fst from rfl, ← List.map_map, List.map_fst_zip (by rw [List.length_map, hl]; exact Nat.le_refl _), List.map_map]
      rfl
    rw [e]
    exact new_list s (keys_rep _) out hq hl2
  · exact hq.elim
theorem tupleD_ok : CallL X R (.type "tuple") tupleD := by
  refine ⟨_, call_tuple_of, fun F H vs ds B Q Qd s r hq out => ?_⟩
  unfold tupleD at hq
  split at hq
  · obtain ⟨v, rfl, rx⟩ := repl1 r
    obtain ⟨p, vs, B1, rfl, r1, _, q1, q2, z⟩ := nd_ref rx s
    have e := z hq.1
    subst e
    exact ⟨p, vs, rfl, .inl ⟨q1 rfl, fun l hl => new_tup s r1 out hq.2 hl⟩⟩
  · obtain ⟨v, rfl, rx⟩ := repl1 r
    obtain ⟨p, vs, B1, rfl, r1, _, q1, q2, z⟩ := nd_ref rx s
    have e := z rfl
    subst e
    exact ⟨p, vs, rfl, .inl ⟨q1 rfl, fun l hl => new_tup s r1 out hq hl⟩⟩
  · obtain ⟨v, rfl, rx⟩ := repl1 r
    obtain ⟨p, vs, B1, rfl, r1, _, q1, q2, z⟩ := nd_ref rx s
    have e := rx.none (by rw [fz]; simp [hq.1])
    subst e
    exact ⟨p, vs, rfl, .inr ⟨q2 rfl, out F H _ _ [] (.refl s) rx .nil hq.2⟩⟩
  · exact hq.elim
theorem intD_ok : CallL X R (.type "int") intD := by
  refine ⟨_, call_int1.or call_int_str, fun F H vs ds B Q Qd s r hq out => ?_⟩
  have fin : ∀ {n : Int}, Qd (.int n) → Q (.int n) H := fun {n} h => out F H _ _ [] (.refl s) (.sc (.int n)) .nil h
  unfold intD at hq
  split at hq
  · obtain ⟨v, rfl, rx⟩ := repl1 r
    cases rx
    exact .inl (.inl ⟨_, rfl, fin hq⟩)
  · obtain ⟨v, rfl, rx⟩ := repl1 r
    cases rx
    exact .inl (.inr ⟨_, rfl, fin hq⟩)
  · obtain ⟨v, rfl, rx⟩ := repl1 r
    cases rx
    obtain ⟨h1, n, h2, h3⟩ := hq
    exact .inr ⟨_, n, rfl, h2, by rw [strV_len]; exact h1, fin h3⟩
  · exact hq.elim
theorem strD_ok : CallL X R (.type "str") strD := by
  refine ⟨_, call_str_int, fun F H vs ds B Q Qd s r hq out => ?_⟩
  unfold strD at hq
  split at hq
  · obtain ⟨v, rfl, rx⟩ := repl1 r
    cases rx
    refine ⟨_, rfl, hq.1, ?_⟩
    rw [← numT_str]
    exact out F H _ _ [] (.refl s) (.sc (.str _)) .nil hq.2
  · exact hq.elim
theorem ordD_ok : CallL X R (.builtin "ord") ordD := by
  refine ⟨_, call_ord, fun F H vs ds B Q Qd s r hq out => ?_⟩
  unfold ordD at hq
  split at hq
  · obtain ⟨v, rfl, rx⟩ := repl1 r
    cases rx
    exact ⟨_, rfl, by rw [strV_len]; rfl, out F H _ _ [] (.refl s) (.sc (.int _)) .nil hq⟩
  · exact hq.elim
theorem maxD_ok (hc : X.calm = true) : CallL X R (.builtin "max") maxD := by
  refine ⟨_, call_max2 hc, fun F H vs ds B Q Qd s r hq out => ?_⟩
  unfold maxD at hq
  split at hq
  · obtain ⟨v, w, A, C, rfl, r1, r2⟩ := repl2 r
    cases r1; cases r2
    exact ⟨_, _, rfl, out F H _ _ [] (.refl s) (.sc (.int _)) .nil hq⟩
  · exact hq.elim
theorem minD_ok (hc : X.calm = true) : CallL X R (.builtin "min") minD := by
  refine ⟨_, call_min2 hc, fun F H vs ds B Q Qd s r hq out => ?_⟩
  unfold minD at hq
  split at hq
  · obtain ⟨v, w, A, C, rfl, r1, r2⟩ := repl2 r
    cases r1; cases r2
    exact ⟨_, _, rfl, out F H _ _ [] (.refl s) (.sc (.int _)) .nil hq⟩
  · exact hq.elim
theorem absD_ok : CallL X R (.builtin "abs") absD := by
  refine ⟨_, call_abs, fun F H vs ds B Q Qd s r hq out => ?_⟩
  unfold absD at hq
  split at hq
  · obtain ⟨v, rfl, rx⟩ := repl1 r
    cases rx
    exact ⟨_, rfl, out F H _ _ [] (.refl s) (.sc (.int _)) .nil hq⟩
  · exact hq.elim
theorem anyD_ok (hc : X.calm = true) : CallL X R (.builtin "any") anyD := by
  refine ⟨_, cr_any hc, fun F H vs ds B Q Qd s r hq out => ?_⟩
  unfold anyD at hq
  split at hq
  · obtain ⟨v, rfl, rx⟩ := repl1 r
    obtain ⟨bs, h1, h2⟩ := hq
    obtain ⟨p, vs, B1, rfl, r1, _, q1, q2, z⟩ := nd_ref rx s
    have e := blsOf_eq h1
    subst e
    have e2 := r1.bls
    subst e2
    exact ⟨p, bs, rfl, q1 rfl, out F H _ _ [] (.refl s) (.sc (.bl _)) .nil h2⟩
  · exact hq.elim
theorem allD_ok (hc : X.calm = true) : CallL X R (.builtin "all") allD := by
  refine ⟨_, cr_all hc, fun F H vs ds B Q Qd s r hq out => ?_⟩
  unfold allD at hq
  split at hq
  · obtain ⟨v, rfl, rx⟩ := repl1 r
    obtain ⟨bs, h1, h2⟩ := hq
    obtain ⟨p, vs, B1, rfl, r1, _, q1, q2, z⟩ := nd_ref rx s
    have e := blsOf_eq h1
    subst e
    have e2 := r1.bls
    subst e2
    exact ⟨p, bs, rfl, q1 rfl, out F H _ _ [] (.refl s) (.sc (.bl _)) .nil h2⟩
  · exact hq.elim
theorem sumD_ok (hc : X.calm = true) : CallL X R (.builtin "sum") sumD := by
  refine ⟨_, cr_sum hc, fun F H vs ds B Q Qd s r hq out => ?_⟩
  unfold sumD at hq
  split at hq
  · obtain ⟨v, rfl, rx⟩ := repl1 r
    obtain ⟨bs, h1, h2⟩ := hq
    obtain ⟨p, vs, B1, rfl, r1, _, q1, q2, z⟩ := nd_ref rx s
    have e := intsOf_eq h1
    subst e
    have e2 := r1.ints
    subst e2
    exact ⟨p, bs, rfl, q1 rfl, out F H _ _ [] (.refl s) (.sc (.int _)) .nil h2⟩
  · exact hq.elim
end

/-! ## isinstance(x, a built-in class) -/
/-- the type of data, by its name -/
def tyD : D → Option String
  | .sc .non => some "NoneType"
  | .sc (.bl _) => some "bool"
  | .sc (.int _) => some "int"
  | .sc (.str _) => some "str"
  | .nd (.lst _) _ => some "list"
  | .nd .tup _ => some "tuple"
  | .nd (.dct _ _) _ => some "dict"
  | _ => none
def isiD (T : String) (d : D) (Q : D → Prop) : Prop := ∃ t b, tyD d = some t ∧ kitB t T = some b ∧ Q (.bl b)
def dIsi (T : String) (ta : TEd) : TEd := fun env Q E => ta env (fun _ d => isiD T d (Q false)) E
section
variable {X : Cx} {R : RT}
theorem tyD_of {K : PySem.W.Frag} {F H : Hp} {v : V} {d : D} {A : List Addr} {t : String} (r : Rep K R F H v d A) (s : Same F H) (h : tyD d = some t) : TyX K H v (.type t) := by
  unfold tyD at h
  split at h
  · cases h; cases r; exact .base .non
  · cases h; cases r; exact .base (.bl _)
  · cases h; cases r; exact .base (.int _)
  · cases h; cases r; exact .base (.str _)
  · cases h
    obtain ⟨a, vs, B', rfl, _, e, _⟩ := lst_at r s
    exact .base (.lst e)
  · cases h
    cases r with
    | fz h1 h2 h3 =>
      rcases TupAt.mono s h1 with e | ⟨o, its, n, e1, e2, _⟩
      · exact .base (.tup e)
      · exact .kTuple e1 e2
    | ow h1 h2 h3 => exact h1.elim
  · cases h
    obtain ⟨p, vs, B1, rfl, r1, _, hl, hp⟩ := dct_at r s
    exact .base (.dK hp)
  · cases h
theorem de_isi {T : String} {e : Expr} {ta : TEd} {x : Str} {p p2 pos : Pos} (hg : Gl X "isinstance") (hm : X.mg "isinstance" = none) (hg2 : Gl X x) (hm2 : X.mg x = none) (hv : bootBuiltins x = some (.type T)) (ha : DE M X R e ta)
    (hn : x ≠ "__name__" := by decide) (hdb : (x == ("__debug__" : Str)) = false := by decide)
    (hs : starEach [e, .Name x p2] X.env = (false, eval e X.env) :: starEach [.Name x p2] X.env := by rfl) (hpl : (backTo pos (starEach [.Name x p2] X.env)).any (·.1) = false := by rfl) :
    DE M X R (.Call (.Name "isinstance" p) [e, .Name x p2] [] pos) (dIsi T ta) := fun W tk => by
  obtain ⟨_, a1, a2⟩ := ha W tk
  refine ⟨_, pe_callB call_isi hg hm (by decide +kernel) (pa_cons a1 (pa_cons (pe_bltn (v := .ty T) hg2 hm2 hv rfl hn hdb) pa_nil rfl) hs) (by decide) (by decide) hs hpl, ?_⟩
  intro F H σ env As Q Qd Ed s er h q xx
  refine a2 F H σ env As _ _ Ed s er h (fun F1 H1 v d B b g1 r1 f1 hd => ?_) xx
  obtain ⟨t, b, h1, h2, h3⟩ := hd
  exact ⟨v, .ty T, .type t, .type T, b, rfl, .ty T, tyD_of r1 g1.fh h1, kit_ty h2, q F1 H1 _ _ [] false g1 (.sc (.bl b)) (fun _ => .nil) h3⟩
end
end DL

set_option Elab.async false
set_option linter.all false
set_option maxRecDepth 100000
set_option maxHeartbeats 1000000
namespace DL
open PySem PySem.Spec L2
variable {M : Bool}

/-! ## statements: what stood at the entry, what may be changed of it -/
structure Ba where
  H0 : Hp
  F0 : Hp
  A0 : Addr → Prop
  σ0 : L2.St
  P : List Nat
structure Ok (K : PySem.W.Frag) (R : RT) (C : Ba) (F H : Hp) (σ : L2.St) (env : Sl) (As : Nat → List Addr) : Prop where
  er : EnvR K R F H σ env As
  fh : Same F H
  kp : ∀ a o, C.H0 a = some o → ¬ C.A0 a → H a = some o
  tr : ∀ a o, C.H0 a = some o → ∃ o', H a = some o'
  kf : Same C.F0 F
  fr : ∀ a o, C.H0 a = some o → ¬ C.A0 a → F a = C.F0 a
  ow : ∀ i a, a ∈ As i → C.A0 a ∨ C.H0 a = none
  pin : ∀ i ∈ C.P, σ[i]? = C.σ0[i]?
/-- places that are one's own and in no slot -/
def Own (C : Ba) (As : Nat → List Addr) (B : List Addr) : Prop := B.Nodup ∧ (∀ a ∈ B, C.A0 a ∨ C.H0 a = none) ∧ ∀ j, ∀ a ∈ B, a ∉ As j
section
variable {K : PySem.W.Frag} {R : RT} {C : Ba} {F F' H H' : Hp} {σ : L2.St} {env : Sl} {As : Nat → List Addr}
theorem Ok.grow (h : Ok K R C F H σ env As) (g : Grow F H F' H') : Ok K R C F' H' σ env As :=
  ⟨h.er.grow g, g.fh, fun a o e n => g.hh _ _ (h.kp a o e n), fun a o e => let ⟨o', q⟩ := h.tr a o e; ⟨o', g.hh _ _ q⟩, h.kf.trans g.ff,
    fun a o e n => let ⟨o', q⟩ := h.tr a o e; (g.nw a o' q).trans (h.fr a o e n), h.ow, h.pin⟩
theorem Ok.own (h : Ok K R C F H σ env As) {B : List Addr} (f : Fresh H B) : Own C As B := by
  refine ⟨f.1, fun a ha => .inr ?_, fun j a ha hj => ?_⟩
  · cases e : C.H0 a with
    | none => rfl
    | some o =>
      obtain ⟨o', q⟩ := h.tr a o e
      rw [f.2 a ha] at q; cases q
  · obtain ⟨⟨o, ho⟩, _⟩ := h.er.own hj
    rw [f.2 a ha] at ho; cases ho
theorem set_oob {α : Type} {l : List α} {i : Nat} {x : α} (h : ¬ i < l.length) : l.set i x = l := List.set_eq_of_length_le (by omega)
/-- a slot is stored -/
theorem Ok.set (h : Ok K R C F H σ env As) {i : Nat} {v : V} {d : D} {B : List Addr} (r : Rep K R F H v d B) (o : Own C As B) (hP : i ∉ C.P) :
    ∃ As', Ok K R C F H (σ.set i (some v)) (env.set i (some d)) As' ∧ (∀ j a, a ∈ As' j → a ∈ As j ∨ a ∈ B) := by
  by_cases hi : i < env.length
  · refine ⟨_, ⟨h.er.set hi r o.1 fun j a hj ha => o.2.2 j a ha, h.fh, h.kp, h.tr, h.kf, h.fr, fun j a ha => ?_, fun j hj => ?_⟩, fun j a ha => ?_⟩
    · by_cases hji : j = i
      · subst hji; exact o.2.1 a (by simpa using ha)
      · exact h.ow j a (by simpa [hji] using ha)
    · rw [List.getElem?_set_ne (fun e : i = j => hP (by rw [e]; exact hj))]
      exact h.pin j hj
    · by_cases hji : j = i
      · subst hji; exact .inr (by simpa using ha)
      · exact .inl (by simpa [hji] using ha)
  · refine ⟨As, ?_, fun j a ha => .inl ha⟩
    rw [set_oob hi, set_oob (by rw [h.er.len]; exact hi)]
    exact h
/-- a slot is forgotten -/
theorem EnvR.unset (h : EnvR K R F H σ env As) (i : Nat) (o : Option V) : EnvR K R F H (σ.set i o) (env.set i none) (fun j => if j = i then [] else As j) := by
  refine ⟨by simpa using h.len, fun j x e => ?_, fun j hj => ?_, fun j l a hjl ha => ?_, fun j => ?_⟩
  · by_cases hji : j = i
    · subst hji
      by_cases hl : j < env.length
      · rw [List.getElem?_set_self hl] at e; cases e
      · rw [List.getElem?_eq_none (by simpa using hl)] at e; cases e
    · rw [List.getElem?_set_ne (Ne.symm hji)] at e
      obtain ⟨u, e1, r1⟩ := h.val j x e
      exact ⟨u, by rw [List.getElem?_set_ne (Ne.symm hji)]; exact e1, by simpa [hji] using r1⟩
  · by_cases hji : j = i
    · simp only [if_pos hji]
    · simp only [if_neg hji]
      exact h.emp j fun x e => hj x (by rw [List.getElem?_set_ne (Ne.symm hji)]; exact e)
  · by_cases h1 : j = i
    · simp only [if_pos h1] at ha; cases ha
    · simp only [if_neg h1] at ha
      by_cases h2 : l = i
      · simp only [if_pos h2]; exact List.not_mem_nil
      · simp only [if_neg h2]
        exact h.dis j l a hjl ha
  · by_cases h1 : j = i
    · simp only [if_pos h1]; exact List.nodup_nil
    · simp only [if_neg h1]; exact h.nod j
theorem EnvR.unsetD (h : EnvR K R F H σ env As) (i : Nat) : EnvR K R F H σ (env.set i none) (fun j => if j = i then [] else As j) := by
  have q := h.unset i (σ[i]?.join)
  by_cases hi : i < σ.length
  · have e : σ.set i (σ[i]?.join) = σ := by
      apply List.ext_getElem?
      intro j
      by_cases hj : i = j
      · subst hj
        rw [List.getElem?_set_self hi, List.getElem?_eq_getElem hi]
        rfl
      · rw [List.getElem?_set_ne hj]
    rw [e] at q
    exact q
  · rw [set_oob hi] at q
    exact q
theorem Ok.unset (h : Ok K R C F H σ env As) (i : Nat) (o : Option V) (hP : i ∉ C.P) : Ok K R C F H (σ.set i o) (env.set i none) (fun j => if j = i then [] else As j) :=
  ⟨h.er.unset i o, h.fh, h.kp, h.tr, h.kf, h.fr, fun j a ha => by
    by_cases hji : j = i
    · simp only [if_pos hji] at ha; cases ha
    · exact h.ow j a (by simpa [hji] using ha), fun j hj => by
    rw [List.getElem?_set_ne (fun e : i = j => hP (by rw [e]; exact hj))]
    exact h.pin j hj⟩
theorem Ok.unsetD (h : Ok K R C F H σ env As) (i : Nat) : Ok K R C F H σ (env.set i none) (fun j => if j = i then [] else As j) :=
  ⟨h.er.unsetD i, h.fh, h.kp, h.tr, h.kf, h.fr, fun j a ha => by
    by_cases hji : j = i
    · simp only [if_pos hji] at ha; cases ha
    · exact h.ow j a (by simpa [hji] using ha), h.pin⟩
/-- a slot's things are given up: they stay from now on -/
theorem Ok.frz (h : Ok K R C F H σ env As) {i : Nat} {d : D} (e : env[i]? = some (some d)) (hP : i ∉ C.P) : ∃ F', Ok K R C F' H σ (env.set i (some (frz d))) (fun j => if j = i then [] else As j) ∧ Same F F' := by
  obtain ⟨v, ev, r⟩ := h.er.val i d e
  let F' : Hp := fun a => if a ∈ As i then H a else F a
  have s1 : Same F F' := fun a o q => by
    show (if a ∈ As i then H a else F a) = some o
    split
    · exact h.fh a o q
    · exact q
  have s2 : Same F' H := fun a o q => by
    have q' : (if a ∈ As i then H a else F a) = some o := q
    split at q'
    · exact q'
    · exact h.fh a o q'
  have hi : i < env.length := (List.getElem?_eq_some_iff.mp e).1
  have r' : Rep K R F' H v (DL.frz d) [] := r.frz s1 fun a ha => if_pos ha
  refine ⟨F', ⟨⟨by simpa using h.er.len, fun j x ej => ?_, fun j hj => ?_, fun j l a hjl ha => ?_, fun j => ?_⟩, s2, h.kp, h.tr, h.kf.trans s1, fun a o q n => ?_, fun j a ha => ?_, h.pin⟩, s1⟩
  · by_cases hji : j = i
    · subst hji
      rw [List.getElem?_set_self hi] at ej
      cases ej
      exact ⟨v, ev, by simpa using r'⟩
    · rw [List.getElem?_set_ne (Ne.symm hji)] at ej
      obtain ⟨u, e1, r1⟩ := h.er.val j x ej
      refine ⟨u, e1, ?_⟩
      simp only [if_neg hji]
      refine r1.mono s1 fun a ha => ⟨rfl, ?_⟩
      show (if a ∈ As i then H a else F a) = none
      rw [if_neg (h.er.dis j i a hji ha)]
      exact (h.er.own ha).2
  · by_cases hji : j = i
    · simp only [if_pos hji]
    · simp only [if_neg hji]
      exact h.er.emp j fun x ex => hj x (by rw [List.getElem?_set_ne (Ne.symm hji)]; exact ex)
  · by_cases h1 : j = i
    · simp only [if_pos h1] at ha; cases ha
    · simp only [if_neg h1] at ha
      by_cases h2 : l = i
      · simp only [if_pos h2]; exact List.not_mem_nil
      · simp only [if_neg h2]
        exact h.er.dis j l a hjl ha
  · by_cases h1 : j = i
    · simp only [if_pos h1]; exact List.nodup_nil
    · simp only [if_neg h1]; exact h.er.nod j
  · show (if a ∈ As i then H a else F a) = C.F0 a
    rw [if_neg (fun ha => ?_)]
    · exact h.fr a o q n
    · rcases h.ow i a ha with z | z
      · exact n z
      · rw [q] at z; cases z
  · by_cases hji : j = i
    · simp only [if_pos hji] at ha; cases ha
    · exact h.ow j a (by simpa [hji] using ha)
/-- the state taken as a new entry -/
def Ba.re (C : Ba) (F H : Hp) (σ : L2.St) (As : Nat → List Addr) : Ba := ⟨H, F, fun a => ∃ i, a ∈ As i, σ, C.P⟩
theorem Ok.re (h : Ok K R C F H σ env As) : Ok K R (C.re F H σ As) F H σ env As :=
  ⟨h.er, h.fh, fun _ _ e _ => e, fun a o e => ⟨o, e⟩, .refl _, fun _ _ _ _ => rfl, fun i a ha => .inl ⟨i, ha⟩, fun _ _ => rfl⟩
theorem Ok.back (h : Ok K R C F H σ env As) {F1 H1 : Hp} {σ1 : L2.St} {env1 : Sl} {As1 : Nat → List Addr} (h1 : Ok K R (C.re F H σ As) F1 H1 σ1 env1 As1) : Ok K R C F1 H1 σ1 env1 As1 := by
  have na : ∀ a o, C.H0 a = some o → ¬ C.A0 a → ¬ ∃ i, a ∈ As i := fun a o e n ⟨i, hi⟩ => by
    rcases h.ow i a hi with z | z
    · exact n z
    · rw [e] at z; cases z
  refine ⟨h1.er, h1.fh, fun a o e n => h1.kp a o (h.kp a o e n) (na a o e n), fun a o e => ?_, h.kf.trans h1.kf, fun a o e n => (h1.fr a o (h.kp a o e n) (na a o e n)).trans (h.fr a o e n), fun i a ha => ?_, fun i hi => (h1.pin i hi).trans (h.pin i hi)⟩
  · obtain ⟨o', q⟩ := h.tr a o e
    exact h1.tr a o' q
  · rcases h1.ow i a ha with ⟨j, hj⟩ | z
    · exact h.ow j a hj
    · cases e : C.H0 a with
      | none => exact .inr rfl
      | some o =>
        obtain ⟨o', q⟩ := h.tr a o e
        rw [show H a = none from z] at q; cases q
theorem Own.back (h : Ok K R C F H σ env As) {As1 : Nat → List Addr} {B : List Addr} (o : Own (C.re F H σ As) As1 B) : Own C As1 B := by
  refine ⟨o.1, fun a ha => ?_, o.2.2⟩
  rcases o.2.1 a ha with ⟨j, hj⟩ | z
  · exact h.ow j a hj
  · cases e : C.H0 a with
    | none => exact .inr rfl
    | some x =>
      obtain ⟨o', q⟩ := h.tr a x e
      rw [show H a = none from z] at q; cases q
end

/-! ## ends -/
structure ED where
  nx : Sl → Prop
  rt : D → Sl → Prop
  bk : Sl → Prop := fun _ => False
  ct : Sl → Prop := fun _ => False
  ex : EX → Sl → Prop
abbrev TSd := ED → Sl → Prop
structure Ends' (K : PySem.W.Frag) (R : RT) (W : WX) (C : Ba) (Dh : Ends) (Dd : ED) : Prop where
  nx : ∀ F H σ env As, Ok K R C F H σ env As → Dd.nx env → Dh.nx σ H
  rt : ∀ F H σ env As v d B, Ok K R C F H σ env As → Rep K R F H v d B → Own C As B → Dd.rt d env → Dh.rt v H
  bk : ∀ F H σ env As, Ok K R C F H σ env As → Dd.bk env → Dh.bk σ H
  ct : ∀ F H σ env As, Ok K R C F H σ env As → Dd.ct env → Dh.ct σ H
  ex : ∀ F H σ env As cls dx x, Ok K R C F H σ env As → RepX K R F cls dx x → Dd.ex x env → W cls dx σ H
def LS (K : PySem.W.Frag) (R : RT) (W : WX) (P : List Nat) (ts : TS) (td : TSd) : Prop := ∀ (C : Ba) (F H : Hp) (σ : L2.St) (env : Sl) (As : Nat → List Addr) (Dh : Ends) (Dd : ED),
  C.P = P → Ok K R C F H σ env As → Ends' K R W C Dh Dd → td Dd env → ts Dh σ H
def DS (M : Bool) (X : Cx) (R : RT) (P : List Nat) (st : Stmt) (td : TSd) : Prop := ∀ W, Tk M X W → ∃ ts, PS X st ts ∧ LS X.K R W P ts td
def DSs (M : Bool) (X : Cx) (R : RT) (P : List Nat) (st : List Stmt) (td : TSd) : Prop := ∀ W, Tk M X W → ∃ ts, PSs X st ts ∧ LS X.K R W P ts td
section
variable {K : PySem.W.Frag} {R : RT} {W : WX} {C : Ba} {Dh : Ends} {Dd : ED}
/-- an expression within a statement: what it raises goes where the statement's go -/
theorem Ends'.exw (E : Ends' K R W C Dh Dd) {F H : Hp} {σ : L2.St} {env : Sl} {As : Nat → List Addr} (ok : Ok K R C F H σ env As) : ExW K R W F H σ (fun x => Dd.ex x env) :=
  fun F' H' cls dx x g r e => E.ex F' H' σ env As cls dx x (ok.grow g) r e
theorem Ends'.re (E : Ends' K R W C Dh Dd) {F H : Hp} {σ : L2.St} {env : Sl} {As : Nat → List Addr} (ok : Ok K R C F H σ env As) : Ends' K R W (C.re F H σ As) Dh Dd :=
  ⟨fun F1 H1 σ1 env1 As1 o => E.nx F1 H1 σ1 env1 As1 (ok.back o), fun F1 H1 σ1 env1 As1 v d B o r w => E.rt F1 H1 σ1 env1 As1 v d B (ok.back o) r (w.back ok),
    fun F1 H1 σ1 env1 As1 o => E.bk F1 H1 σ1 env1 As1 (ok.back o), fun F1 H1 σ1 env1 As1 o => E.ct F1 H1 σ1 env1 As1 (ok.back o), fun F1 H1 σ1 env1 As1 cls dx x o => E.ex F1 H1 σ1 env1 As1 cls dx x (ok.back o)⟩
end

/-! ## simple statements -/
def dNext : TSd := fun D env => D.nx env
def dSeq (t u : TSd) : TSd := fun D env => t { D with nx := u D } env
def dBreak : TSd := fun D env => D.bk env
def dCont : TSd := fun D env => D.ct env
def dDrop (te : TEd) : TSd := fun D env => te env (fun _ _ => D.nx env) (fun x => D.ex x env)
def dRet (te : TEd) : TSd := fun D env => te env (fun b d => safe b d ∧ D.rt d env) (fun x => D.ex x env)
/-- what a slot owns is handed back -/
def dRetV (i : Nat) : TSd := fun D env => match env[i]? with
  | some (some d) => D.rt d (env.set i none)
  | _ => False
def dRetN : TSd := fun D env => D.rt .non env
def dIfS (c : TTd) (t u : TSd) : TSd := fun D env => c env (fun b => if b = true then t D env else u D env) (fun x => D.ex x env)
/-- slots are given up -/
def fzS : List Nat → Sl → Sl
  | [], env => env
  | i :: r, env => fzS r (match env[i]? with
    | some (some d) => env.set i (some (frz d))
    | _ => env)
def dFz (is : List Nat) (t : TSd) : TSd := fun D env => t D (fzS is env)
/-- targets -/
abbrev TGd := D → Sl → (Sl → Prop) → Prop
abbrev TGsd := List D → Sl → (Sl → Prop) → Prop
def gN (i : Nat) : TGd := fun d env Q => Q (env.set i (some d))
def gsNil : TGsd := fun ds env Q => ds = [] ∧ Q env
def gsCons (g : TGd) (gs : TGsd) : TGsd := fun ds env Q => match ds with
  | d :: r => g d env (fun env' => gs r env' Q)
  | [] => False
def gTu (n : Nat) (gs : TGsd) : TGd := fun d env Q => match d with
  | .nd .tup ds => ds.length = n ∧ gs ds env Q
  | _ => False
def dAsg (te : TEd) (g : TGd) : TSd := fun D env => te env (fun b d => safe b d ∧ g d env D.nx) (fun x => D.ex x env)
def LG (K : PySem.W.Frag) (R : RT) (P : List Nat) (g : TG) (gd : TGd) : Prop := ∀ (C : Ba) (F H : Hp) (σ : L2.St) (env : Sl) (As : Nat → List Addr) (v : V) (d : D) (B : List Addr) (Q : L2.St → Hp → Prop) (Qd : Sl → Prop),
  C.P = P → Ok K R C F H σ env As → Rep K R F H v d B → Own C As B → gd d env Qd → (∀ σ' env' As', Ok K R C F H σ' env' As' → (∀ j a, a ∈ As' j → a ∈ As j ∨ a ∈ B) → Qd env' → Q σ' H) → g v σ H Q
def LGs (K : PySem.W.Frag) (R : RT) (P : List Nat) (g : TGs) (gd : TGsd) : Prop := ∀ (C : Ba) (F H : Hp) (σ : L2.St) (env : Sl) (As : Nat → List Addr) (v : List V) (d : List D) (B : List Addr) (Q : L2.St → Hp → Prop) (Qd : Sl → Prop),
  C.P = P → Ok K R C F H σ env As → RepL K R F H v d B → Own C As B → gd d env Qd → (∀ σ' env' As', Ok K R C F H σ' env' As' → (∀ j a, a ∈ As' j → a ∈ As j ∨ a ∈ B) → Qd env' → Q σ' H) → g v σ H Q
def DG (X : Cx) (R : RT) (P : List Nat) (tg : Expr) (gd : TGd) : Prop := ∃ g, PG X tg g ∧ LG X.K R P g gd
def DGs (X : Cx) (R : RT) (P : List Nat) (tg : List Expr) (gd : TGsd) : Prop := ∃ g, PGs X tg g ∧ LGs X.K R P g gd
section
variable {X : Cx} {R : RT} {P : List Nat} {st : Stmt} {rest body : List Stmt} {t u : TSd} {e : Expr} {te : TEd} {pos : Pos}
theorem dg_name (i : Nat) {x : Str} (hN : X.N.Nodup) (hi : X.N[i]? = some x := by rfl) (hx : Loc X.env.scope x := by first | exact Or.inl rfl | exact Or.inr rfl) (hP : i ∉ P := by decide) (hf : X.fn x = true ∨ X.env.scope.names.lookup x = some .local := by first | exact .inl rfl | exact .inr rfl | assumption) : DG X R P (.Name x pos) (gN i) :=
  ⟨_, pg_name hN hi hx hf, fun C F H σ env As v d B Q Qd eP ok r o hq q => by
    obtain ⟨As', ok', sub⟩ := ok.set r o (by rw [eP]; exact hP)
    exact q _ _ As' ok' sub hq⟩
theorem dgs_nil : DGs X R P [] gsNil := ⟨_, pgs_nil, fun C F H σ env As v d B Q Qd eP ok r o hq q => by
  obtain ⟨rfl, hq⟩ := hq
  cases r
  exact ⟨rfl, q σ env As ok (fun j a ha => .inl ha) hq⟩⟩
theorem Own.left {C : Ba} {As : Nat → List Addr} {A B : List Addr} (o : Own C As (A ++ B)) : Own C As A :=
  ⟨(List.nodup_append.mp o.1).1, fun a ha => o.2.1 a (List.mem_append_left _ ha), fun j a ha => o.2.2 j a (List.mem_append_left _ ha)⟩
theorem Own.right {C : Ba} {As As' : Nat → List Addr} {A B : List Addr} (o : Own C As (A ++ B)) (s : ∀ j a, a ∈ As' j → a ∈ As j ∨ a ∈ A) : Own C As' B :=
  ⟨(List.nodup_append.mp o.1).2.1, fun a ha => o.2.1 a (List.mem_append_right _ ha), fun j a ha hj => by
    rcases s j a hj with z | z
    · exact o.2.2 j a (List.mem_append_right _ ha) z
    · exact (List.nodup_append.mp o.1).2.2 a z a ha rfl⟩
theorem Own.nil {C : Ba} {As : Nat → List Addr} : Own C As [] := ⟨List.nodup_nil, fun _ z => (by cases z), fun _ _ z => (by cases z)⟩
theorem dgs_cons {e : Expr} {es : List Expr} {g : TGd} {gs : TGsd} (h1 : DG X R P e g) (h2 : DGs X R P es gs)
    (hh : (assignEach (e :: es) X.env).map (·.2) = assign e X.env :: (assignEach es X.env).map (·.2) := by rfl) : DGs X R P (e :: es) (gsCons g gs) := by
  obtain ⟨_, a1, a2⟩ := h1
  obtain ⟨_, b1, b2⟩ := h2
  refine ⟨_, pgs_cons a1 b1 hh, fun C F H σ env As v d B Q Qd eP ok r o hq q => ?_⟩
  cases r with
  | nil => exact hq.elim
  | cons r1 r2 =>
    refine ⟨_, _, rfl, a2 C F H σ env As _ _ _ _ _ eP ok r1 o.left hq fun σ1 env1 As1 ok1 s1 hq1 => ?_⟩
    refine b2 C F H σ1 env1 As1 _ _ _ _ _ eP ok1 r2 (o.right s1) hq1 fun σ2 env2 As2 ok2 s2 hq2 => q σ2 env2 As2 ok2 (fun j a ha => ?_) hq2
    rcases s2 j a ha with z | z
    · rcases s1 j a z with z | z
      · exact .inl z
      · exact .inr (List.mem_append_left _ z)
    · exact .inr (List.mem_append_right _ z)
theorem dg_tup {es : List Expr} {k : Nat} {gs : TGsd} {n : Nat} (hc : X.calm = true) (h : DGs X R P es gs)
    (hn : (assignEach es X.env).length = n := by rfl) (hst : (assignEach es X.env).findIdx? (·.1) = none := by rfl) : DG X R P (.Tuple es k pos) (gTu n gs) := by
  obtain ⟨_, a1, a2⟩ := h
  refine ⟨_, pg_tup hc a1 hn hst, fun C F H σ env As v d B Q Qd eP ok r o hq q => ?_⟩
  unfold gTu at hq
  split at hq
  · cases r with
    | fz h1 h2 h3 => exact ⟨_, _, rfl, (TupAt.mono ok.fh h1).sq, h2.length.trans hq.1, a2 C F H σ env As _ _ _ _ _ eP ok h2 o hq.2 q⟩
    | ow h1 h2 h3 => exact h1.elim
  · exact hq.elim

theorem dss_nil : DSs M X R P [] dNext := fun W _ => ⟨_, pss_nil, fun C F H σ env As Dh Dd eP ok E h => E.nx F H σ env As ok h⟩
theorem dss_cons (h1 : DS M X R P st t) (h2 : DSs M X R P rest u) : DSs M X R P (st :: rest) (dSeq t u) := fun W tk => by
  obtain ⟨_, a1, a2⟩ := h1 W tk
  obtain ⟨_, b1, b2⟩ := h2 W tk
  exact ⟨_, pss_cons a1 b1, fun C F H σ env As Dh Dd eP ok E h => a2 C F H σ env As _ { Dd with nx := u Dd } eP ok ⟨fun F1 H1 σ1 env1 As1 o q => b2 C F1 H1 σ1 env1 As1 Dh Dd eP o E q, E.rt, E.bk, E.ct, E.ex⟩ h⟩
theorem dss_one (h1 : DS M X R P st t) : DSs M X R P [st] t := fun W tk => by
  obtain ⟨_, a1, a2⟩ := h1 W tk
  exact ⟨_, pss_one a1, a2⟩
theorem ds_pass : DS M X R P (.Pass pos) dNext := fun W _ => ⟨_, ps_pass, fun C F H σ env As Dh Dd eP ok E h => E.nx F H σ env As ok h⟩
theorem ds_break : DS M X R P (.Break pos) dBreak := fun W _ => ⟨_, ps_break, fun C F H σ env As Dh Dd eP ok E h => E.bk F H σ env As ok h⟩
theorem ds_cont : DS M X R P (.Continue pos) dCont := fun W _ => ⟨_, ps_continue, fun C F H σ env As Dh Dd eP ok E h => E.ct F H σ env As ok h⟩
theorem ds_drop (h : DE M X R e te) (hs : swapsWith e none pos.line X.env = pure false := by rfl) : DS M X R P (.Expr e pos) (dDrop te) := fun W tk => by
  obtain ⟨_, a1, a2⟩ := h W tk
  exact ⟨_, ps_expr a1 hs, fun C F H σ env As Dh Dd eP ok E h => a2 F H σ env As _ _ _ ok.fh ok.er h (fun F1 H1 v d B b g r f hq => E.nx F1 H1 σ env As (ok.grow g) hq) (E.exw ok)⟩
theorem ds_ret (h : DE M X R e te) : DS M X R P (.Return (some e) pos) (dRet te) := fun W tk => by
  obtain ⟨_, a1, a2⟩ := h W tk
  exact ⟨_, ps_ret a1, fun C F H σ env As Dh Dd eP ok E h => a2 F H σ env As _ _ _ ok.fh ok.er h (fun F1 H1 v d B b g r f hq => E.rt F1 H1 σ env As v d B (ok.grow g) r (ok.own (Fresh.of_safe r f hq.1)) hq.2) (E.exw ok)⟩
theorem ds_retN : DS M X R P (.Return none pos) dRetN := fun W _ => ⟨_, ps_retN, fun C F H σ env As Dh Dd eP ok E h => E.rt F H σ env As _ _ [] ok (.sc .non) .nil h⟩
theorem ds_retV (i : Nat) {x : Str} {p : Pos} (hP : i ∉ P := by decide) (hN : X.N[i]? = some x := by rfl) (hv : Vis X.env.scope x := by first | exact Or.inl rfl | exact Or.inr (Or.inl rfl) | exact Or.inr (Or.inr rfl)) (hd : (x == ("__debug__" : Str)) = false := by decide)
    (hcd : (x == ("__classdict__" : Str)) = false := by decide) : DS M X R P (.Return (some (.Name x p)) pos) (dRetV i) := fun W _ => ⟨_, ps_ret (pe_var hN hv hd hcd), fun C F H σ env As Dh Dd eP ok E h => by
  unfold dRetV at h
  split at h
  · rename_i d e
    obtain ⟨v, ev, r⟩ := ok.er.val i d e
    refine ⟨v, ev, E.rt F H σ (env.set i none) _ v d (As i) (ok.unsetD i) r ⟨ok.er.nod i, fun a ha => ok.ow i a ha, fun j a ha hj => ?_⟩ h⟩
    by_cases hji : j = i
    · simp only [if_pos hji] at hj; cases hj
    · simp only [if_neg hji] at hj
      exact ok.er.dis j i a hji hj ha
  · exact h.elim⟩
theorem ds_if {c : Expr} {a b : List Stmt} {tc : TTd} (h0 : DT M X R c tc) (h1 : DSs M X R P a t) (h2 : DSs M X R P b u) : DS M X R P (.If c a b pos) (dIfS tc t u) := fun W tk => by
  obtain ⟨_, c1, c2⟩ := h0 W tk
  obtain ⟨_, a1, a2⟩ := h1 W tk
  obtain ⟨_, b1, b2⟩ := h2 W tk
  refine ⟨_, ps_if c1 a1 b1, fun C F H σ env As Dh Dd eP ok E h => c2 F H σ env As _ _ _ ok.fh ok.er h (fun F1 H1 c g hq => ?_) (E.exw ok)⟩
  cases c with
  | true =>
    rw [if_pos rfl] at hq ⊢
    exact a2 C F1 H1 σ env As Dh Dd eP (ok.grow g) E hq
  | false =>
    rw [if_neg Bool.false_ne_true] at hq ⊢
    exact b2 C F1 H1 σ env As Dh Dd eP (ok.grow g) E hq
theorem Ok.fzS {K : PySem.W.Frag} {C : Ba} {H : Hp} {σ : L2.St} : ∀ (is : List Nat) {F : Hp} {env : Sl} {As : Nat → List Addr}, Ok K R C F H σ env As → (∀ i ∈ is, i ∉ C.P) → ∃ F' As', Ok K R C F' H σ (fzS is env) As'
  | [], F, env, As, ok, _ => ⟨F, As, ok⟩
  | i :: r, F, env, As, ok, hP => by
    rw [DL.fzS]
    split
    · rename_i d e
      obtain ⟨F', ok', _⟩ := ok.frz e (hP i List.mem_cons_self)
      exact Ok.fzS r ok' fun j hj => hP j (List.mem_cons_of_mem _ hj)
    · exact Ok.fzS r ok fun j hj => hP j (List.mem_cons_of_mem _ hj)
theorem ds_fz (is : List Nat) (h : DS M X R P st t) (hP : ∀ i ∈ is, i ∉ P := by decide) : DS M X R P st (dFz is t) := fun W tk => by
  obtain ⟨_, a1, a2⟩ := h W tk
  refine ⟨_, a1, fun C F H σ env As Dh Dd eP ok E h => ?_⟩
  obtain ⟨F', As', ok'⟩ := ok.fzS is (by rw [eP]; exact hP)
  exact a2 C F' H σ _ As' Dh Dd eP ok' E h
theorem ds_asg {tg : Expr} {g : TGd} (h1 : DE M X R e te) (h2 : DG X R P tg g) (hs : swapsWithSole [tg] e pos.line X.env = pure false := by rfl) (hw : swappedStores [tg] e X.env = pure none := by rfl) (hz : (assignEach [tg] X.env).map (·.2) = [assign tg X.env] := by rfl) : DS M X R P (.Assign [tg] e pos) (dAsg te g) := fun W tk => by
  obtain ⟨_, a1, a2⟩ := h1 W tk
  obtain ⟨_, b1, b2⟩ := h2
  exact ⟨_, ps_asg a1 b1 hs hw hz, fun C F H σ env As Dh Dd eP ok E h => a2 F H σ env As _ _ _ ok.fh ok.er h (fun F1 H1 v d B b g1 r f hq =>
    b2 C F1 H1 σ env As v d B _ _ eP (ok.grow g1) r ((ok.own (Fresh.of_safe r f hq.1))) hq.2 fun σ' env' As' ok' _ hn => E.nx F1 H1 σ' env' As' ok' hn) (E.exw ok)⟩
end

/-! ## loops -/
def whD (c : TTd) (tb : TSd) (D : ED) : Nat → Sl → Prop
  | 0, _ => False
  | n + 1, env => c env (fun b => if b = true then tb { D with nx := whD c tb D n, ct := whD c tb D n, bk := D.nx } env else D.nx env) (fun x => D.ex x env)
def dWhile (c : TTd) (tb : TSd) : TSd := fun D env => ∃ n, whD c tb D n env
abbrev TId := Sl → (List D → Prop) → (EX → Prop) → Prop
/-- an iterator that tells these data, all of which stay -/
def Itm (K : PySem.W.Frag) (R : RT) (F0 : Hp) (J : It) (ds : List D) : Prop := ∀ F H, Same F0 F → Same F H →
  (∀ i, i < ds.length → J.go i H ∧ ∀ x H', J.yld i H x H' → ∃ F' d, ds[i]? = some d ∧ Grow F H F' H' ∧ Rep K R F' H' x d []) ∧ J.stop ds.length H
def LI (K : PySem.W.Frag) (R : RT) (W : WX) (wi : TI) (td : TId) : Prop := ∀ (F H : Hp) (σ : L2.St) (env : Sl) (As : Nat → List Addr) (Q : It → Hp → Prop) (Qd : List D → Prop) (Ed : EX → Prop),
  Same F H → EnvR K R F H σ env As → td env Qd Ed → (∀ F' H' J ds, Grow F H F' H' → Itm K R F' J ds → Qd ds → Q J H') → ExW K R W F H σ Ed → wi σ H Q
def DI (M : Bool) (X : Cx) (R : RT) (tg iter : Expr) (td : TId) : Prop := ∀ W, Tk M X W → ∃ wi, PI X tg iter wi ∧ LI X.K R W wi td
def forD (g : TGd) (tb : TSd) (D : ED) : List DL.D → Sl → Prop
  | [], env => D.nx env
  | x :: r, env => g x env (tb { D with nx := forD g tb D r, ct := forD g tb D r, bk := D.nx })
def dFor (ti : TId) (g : TGd) (tb : TSd) : TSd := fun D env => ti env (fun ds => forD g tb D ds env) (fun x => D.ex x env)
section
variable {X : Cx} {R : RT} {P : List Nat} {body : List Stmt} {tb : TSd} {pos : Pos}
theorem ds_while {c : Expr} {tc : TTd} (hp : PassesOwn (model X.prog X.w) X.A X.env X.xe) (h0 : DT M X R c tc) (h1 : DSs M X R P body tb) : DS M X R P (.While c body [] pos) (dWhile tc tb) := fun W tk => by
  obtain ⟨_, c1, c2⟩ := h0 W tk
  obtain ⟨_, a1, a2⟩ := h1 W tk
  refine ⟨_, ps_while hp c1 a1, fun C F H σ env As Dh Dd eP ok E h => ?_⟩
  obtain ⟨n, h⟩ := h
  refine ⟨fun m σ H => ∃ F env As, Ok X.K R C F H σ env As ∧ whD tc tb Dd m env, ⟨n, F, env, As, ok, h⟩, fun m σ1 H1 w => ?_⟩
  obtain ⟨F1, env1, As1, ok1, w⟩ := w
  cases m with
  | zero => exact w.elim
  | succ m =>
    refine c2 F1 H1 σ1 env1 As1 _ _ _ ok1.fh ok1.er w (fun F2 H2 b g hq => ?_) (E.exw ok1)
    cases b with
    | true =>
      rw [if_pos rfl] at hq ⊢
      refine ⟨fun σ' H' => ∃ F env As, Ok X.K R C F H' σ' env As ∧ whD tc tb Dd m env, fun σ' H' ⟨F', env', As', o', w'⟩ => ⟨m, Nat.lt_succ_self m, F', env', As', o', w'⟩, ?_⟩
      exact a2 C F2 H2 σ1 env1 As1 _ { Dd with nx := whD tc tb Dd m, ct := whD tc tb Dd m, bk := Dd.nx } eP (ok1.grow g) ⟨fun F' H' σ' env' As' o q => ⟨F', env', As', o, q⟩, E.rt, E.nx, fun F' H' σ' env' As' o q => ⟨F', env', As', o, q⟩, E.ex⟩ hq
    | false =>
      rw [if_neg Bool.false_ne_true] at hq ⊢
      exact E.nx F2 H2 σ1 env1 As1 (ok1.grow g) hq
theorem ds_for {tg iter : Expr} {ti : TId} {g : TGd} (hp : PassesOwn (model X.prog X.w) X.A X.env X.xe) (hc : X.calm = true) (h0 : DI M X R tg iter ti) (hg : DG X R P tg g) (h1 : DSs M X R P body tb)
    (hs : ∀ x, foldedSetIterable iter X.env x = pure x := by intro _; rfl) : DS M X R P (.For tg iter body [] pos) (dFor ti g tb) := fun W tk => by
  obtain ⟨_, i1, i2⟩ := h0 W tk
  obtain ⟨_, g1, g2⟩ := hg
  obtain ⟨_, a1, a2⟩ := h1 W tk
  refine ⟨_, ps_for hp hc i1 g1 a1 hs, fun C F H σ env As Dh Dd eP ok E h => i2 F H σ env As _ _ _ ok.fh ok.er h (fun F1 H1 J ds gr it hq => ?_) (E.exw ok)⟩
  have ok1 := ok.grow gr
  have E1 := E.re ok1
  let C1 := C.re F1 H1 σ As
  refine ⟨fun i m σ' H' => m = ds.length - i ∧ i ≤ ds.length ∧ ∃ F' env' As', Ok X.K R C1 F' H' σ' env' As' ∧ forD g tb Dd (ds.drop i) env', ⟨ds.length, rfl, Nat.zero_le _, F1, env, As, ok1.re, hq⟩, ?_⟩
  rintro i m σ2 H2 ⟨rfl, hi, F2, env2, As2, ok2, w⟩
  obtain ⟨it1, it2⟩ := it F2 H2 ok2.kf ok2.fh
  by_cases hlt : i < ds.length
  · obtain ⟨q1, q2⟩ := it1 i hlt
    refine .inr ⟨q1, fun σ' H' => ∃ F' env' As', Ok X.K R C1 F' H' σ' env' As' ∧ forD g tb Dd (ds.drop (i + 1)) env', fun σ' H' w' => ⟨ds.length - (i + 1), by omega, rfl, hlt, w'⟩, fun x H3 y => ?_⟩
    obtain ⟨F3, d, hd, g3, r3⟩ := q2 x H3 y
    rw [List.drop_eq_getElem_cons hlt] at w
    have ed : ds[i] = d := by rw [List.getElem?_eq_getElem hlt] at hd; exact Option.some.inj hd
    rw [ed] at w
    have w' : g d env2 (tb { Dd with nx := forD g tb Dd (ds.drop (i + 1)), ct := forD g tb Dd (ds.drop (i + 1)), bk := Dd.nx }) := w
    refine g2 C1 F3 H3 σ2 env2 As2 x d [] _ _ eP (ok2.grow g3) r3 .nil w' fun σ4 env4 As4 ok4 _ hb => ?_
    exact a2 C1 F3 H3 σ4 env4 As4 _ { Dd with nx := forD g tb Dd (ds.drop (i + 1)), ct := forD g tb Dd (ds.drop (i + 1)), bk := Dd.nx } eP ok4
      ⟨fun F' H' σ' env' As' o q => ⟨F', env', As', o, q⟩, E1.rt, E1.nx, fun F' H' σ' env' As' o q => ⟨F', env', As', o, q⟩, E1.ex⟩ hb
  · have e : i = ds.length := by omega
    subst e
    rw [List.drop_length] at w
    exact .inl ⟨it2, E1.nx F2 H2 σ2 env2 As2 ok2 w⟩
end
end DL

set_option Elab.async false
set_option linter.all false
set_option maxRecDepth 100000
set_option maxHeartbeats 1000000
namespace DL
open PySem PySem.Spec L2
variable {M : Bool}

/-! ## what is walked -/
/-- a list, a tuple or a text -/
def iSq (K : PySem.W.Frag) (te : TE) : TI := fun σ H R => te σ H fun x H1 => (∃ a, x = .ref a ∧ (∃ xs, SqL K H1 a xs) ∧ R (Itl K a) H1) ∨ (∃ a, x = .ref a ∧ (∃ xs, SqT K H1 a xs) ∧ R (Itt K a) H1) ∨ ∃ z, x = .str z ∧ R (Its z) H1
theorem pi_sq {X : Cx} {tg l : Expr} {tl : TE} (hl : PE X l tl) : PI X tg l (iSq X.K tl) := by
  refine ⟨fun pins s σ H R I h => ?_⟩
  refine thn (hl.run pins s σ H _ I h) fun v s1 ⟨x, H1, I1, r1, q1⟩ => ?_
  rcases q1 with ⟨a, e, ⟨xs, hq⟩, q⟩ | ⟨a, e, ⟨xs, hq⟩, q⟩ | ⟨x, ex, q⟩
  · subst e
    cases r1
    obtain ⟨its, rv, p, hz⟩ := I1.list hq
    refine wpAny_pyIter_list p.isList ?_
    refine ⟨s1.heap.objs.size, [s1.heap.objs.size], _, _, H1, rfl, I1.kept (t' := s1.toks) fun b o e => Heap.get?_push_of_some _ e, turn_list a _, ⟨_, Heap.get?_push_size _ rfl, rfl, rfl⟩, fun b hb => ?_, q⟩
    have e : b = s1.heap.objs.size := by simpa using hb
    subst e
    exact I1.fpOk (Nat.le_refl _) (I1.hok.fresh (Nat.le_refl _))
  · subst e
    cases r1
    obtain ⟨its, rv, p, hz⟩ := I1.tuple hq
    refine wpAny_pyIter_tuple (show s1.heap.IsTuple a its.toArray from p) ?_
    refine ⟨s1.heap.objs.size, [s1.heap.objs.size], _, _, H1, rfl, I1.kept (t' := s1.toks) fun b o e => Heap.get?_push_of_some _ e, turn_tuple a _, ⟨_, Heap.get?_push_size _ rfl, rfl, rfl⟩, fun b hb => ?_, q⟩
    have e : b = s1.heap.objs.size := by simpa using hb
    subst e
    exact I1.fpOk (Nat.le_refl _) (I1.hok.fresh (Nat.le_refl _))
  · subst ex
    obtain ⟨t, rfl⟩ := r1
    cases ha : x.cps.all (· < 128)
    · exact wpAny_pyIter_wide ha (pi_one (tk := s1.toks) I1 _ (turn_str _ x t "str_iterator" (.inr rfl)) ⟨_, Heap.get?_push_size _ rfl, rfl, rfl⟩ q)
    · exact wpAny_pyIter_ascii ha (pi_one (tk := s1.toks) I1 _ (turn_str _ x t "str_ascii_iterator" (.inl rfl)) ⟨_, Heap.get?_push_size _ rfl, rfl, rfl⟩ q)

/-- the items, as they stand once they are given up -/
def itD : D → (List D → Prop) → Prop
  | .sc (.str s), Q => Q (s.map fun c => .str [c])
  | .nd (.lst o) ds, Q => Q (if o = true then frzL ds else ds)
  | .nd .scr ds, Q => Q ds
  | .nd .tup ds, Q => Q (frzL ds)
  | _, _ => False
def dIt (te : TEd) : TId := fun env Q E => te env (fun b d => safe b d ∧ itD d Q) E
section
variable {K : PySem.W.Frag} {R : RT} {F H : Hp}
/-- what is fresh is given up -/
theorem give {F0 H0 : Hp} {B : List Addr} (s : Same F H) (g0 : Grow F0 H0 F H) (f : Fresh H0 B) : ∃ F', (∀ v d, Rep K R F H v d B → Rep K R F' H v (frz d) []) ∧ (∀ v d, RepL K R F H v d B → RepL K R F' H v (frzL d) []) ∧ Grow F0 H0 F' H ∧ Same F F' := by
  let F' : Hp := fun a => if a ∈ B then H a else F a
  have s1 : Same F F' := fun a o q => by
    show (if a ∈ B then H a else F a) = some o
    split
    · exact s a o q
    · exact q
  have s2 : Same F' H := fun a o q => by
    have q' : (if a ∈ B then H a else F a) = some o := q
    split at q'
    · exact q'
    · exact s a o q'
  refine ⟨F', fun v d r => r.frz s1 fun a ha => if_pos ha, fun v d r => r.frz s1 fun a ha => if_pos ha, ⟨g0.hh, g0.ff.trans s1, s2, fun a o e => ?_⟩, s1⟩
  show (if a ∈ B then H a else F a) = F0 a
  rw [if_neg (fun z => ?_)]
  · exact g0.nw a o e
  · rw [f.2 a z] at e; cases e
theorem itm_list {a : Addr} {vs : List V} {ds : List D} (h : ∀ F' H', Same F F' → Same F' H' → SqL K H' a vs) (r : RepL K R F H vs ds []) : Itm K R F (Itl K a) ds := by
  intro F2 H2 s1 s2
  have sq := h F2 H2 s1 s2
  refine ⟨fun i hi => ?_, ⟨vs, sq, by rw [r.length]; exact Nat.le_refl _⟩⟩
  have hd : ds[i]? = some ds[i] := List.getElem?_eq_getElem hi
  obtain ⟨v, B', hv, rv, sl⟩ := r.get hd
  refine ⟨⟨vs, v, sq, hv⟩, fun x H' y => ?_⟩
  obtain ⟨rfl, hx⟩ := y
  have e := hx vs sq
  rw [hv] at e; cases e
  have eB : B' = [] := List.eq_nil_of_subset_nil fun a ha => sl.mem ha
  subst eB
  exact ⟨F2, ds[i], hd, .refl s2, rv.mono s1 fun a ha => by cases ha⟩
theorem itm_tup {a : Addr} {vs : List V} {ds : List D} (h : ∀ F' H', Same F F' → Same F' H' → SqT K H' a vs) (r : RepL K R F H vs ds []) : Itm K R F (Itt K a) ds := by
  intro F2 H2 s1 s2
  have sq := h F2 H2 s1 s2
  refine ⟨fun i hi => ?_, ⟨vs, sq, by rw [r.length]; exact Nat.le_refl _⟩⟩
  have hd : ds[i]? = some ds[i] := List.getElem?_eq_getElem hi
  obtain ⟨v, B', hv, rv, sl⟩ := r.get hd
  refine ⟨⟨vs, v, sq, hv⟩, fun x H' y => ?_⟩
  obtain ⟨rfl, hx⟩ := y
  have e := hx vs sq
  rw [hv] at e; cases e
  have eB : B' = [] := List.eq_nil_of_subset_nil fun a ha => sl.mem ha
  subst eB
  exact ⟨F2, ds[i], hd, .refl s2, rv.mono s1 fun a ha => by cases ha⟩
theorem itm_str {z : Txt} : Itm K R F (Its (strV z)) (z.map fun c => D.str [c]) := by
  intro F2 H2 s1 s2
  have hz : (strV z).cps.size = z.length := by simp [strV]
  refine ⟨fun i hi => ?_, by show (strV z).cps.size ≤ _; rw [hz, List.length_map]; exact Nat.le_refl _⟩
  rw [List.length_map] at hi
  refine ⟨by show i < (strV z).cps.size; rw [hz]; exact hi, fun x H' y => ?_⟩
  obtain ⟨rfl, c, hc, rfl⟩ := y
  have hc' : z[i]? = some c := by simpa [strV] using hc
  exact ⟨F2, .str [c], by rw [List.getElem?_map, hc']; rfl, .refl s2, .sc (.str [c])⟩
theorem itm_range {lo : Int} {n : Nat} : Itm K R F (Itr lo n) ((List.range n).map fun (k : Nat) => D.int (lo + (k : Int))) := by
  intro F2 H2 s1 s2
  refine ⟨fun i hi => ?_, by show n ≤ _; rw [List.length_map, List.length_range]; exact Nat.le_refl _⟩
  rw [List.length_map, List.length_range] at hi
  refine ⟨hi, fun x H' y => ?_⟩
  obtain ⟨rfl, rfl⟩ := y
  exact ⟨F2, .int (lo + i), by rw [List.getElem?_map, List.getElem?_range hi]; rfl, .refl s2, .sc (.int _)⟩
theorem itm_rev {a : Addr} {vs : List V} {ds : List D} (h : ∀ F' H', Same F F' → Same F' H' → SqL K H' a vs) (r : RepL K R F H vs ds []) : Itm K R F (Itv K a vs.length) ds.reverse := by
  intro F2 H2 s1 s2
  have sq := h F2 H2 s1 s2
  have hl := r.length
  refine ⟨fun i hi => ?_, by show vs.length ≤ _; rw [List.length_reverse, hl]; exact Nat.le_refl _⟩
  rw [List.length_reverse] at hi
  have hd : ds[ds.length - 1 - i]? = some ds[ds.length - 1 - i] := List.getElem?_eq_getElem (by omega)
  obtain ⟨v, B', hv, rv, sl⟩ := r.get hd
  rw [← hl] at hv
  refine ⟨⟨by omega, vs, v, sq, hv⟩, fun x H' y => ?_⟩
  obtain ⟨rfl, hx⟩ := y
  have e := hx vs sq
  rw [hv] at e; cases e
  have eB : B' = [] := List.eq_nil_of_subset_nil fun a ha => sl.mem ha
  subst eB
  exact ⟨F2, _, by rw [List.getElem?_reverse (by omega)]; exact hd, .refl s2, rv.mono s1 fun a ha => by cases ha⟩
def enumL : Nat → List D → List D
  | _, [] => []
  | i, d :: r => .tup [.int (i : Nat), d] :: enumL (i + 1) r
theorem enumL_get : ∀ (ds : List D) (k i : Nat), (enumL k ds)[i]? = (ds[i]?).map fun d => D.tup [.int ((k + i : Nat) : Int), d]
  | [], _, _ => by simp [enumL]
  | d :: r, k, 0 => by simp [enumL]
  | d :: r, k, i + 1 => by
    rw [enumL, List.getElem?_cons_succ, List.getElem?_cons_succ, enumL_get r (k + 1) i]
    rw [show k + 1 + i = k + (i + 1) by omega]
theorem enumL_len : ∀ (ds : List D) (k : Nat), (enumL k ds).length = ds.length
  | [], _ => rfl
  | _ :: r, k => by rw [enumL, List.length_cons, List.length_cons, enumL_len r]
theorem itm_enum {a : Addr} {vs : List V} {ds : List D} (h : ∀ F' H', Same F F' → Same F' H' → SqL K H' a vs) (r : RepL K R F H vs ds []) : Itm K R F (Ite K a) (enumL 0 ds) := by
  intro F2 H2 s1 s2
  have sq := h F2 H2 s1 s2
  refine ⟨fun i hi => ?_, ⟨vs, sq, by rw [r.length, enumL_len]; exact Nat.le_refl _⟩⟩
  rw [enumL_len] at hi
  have hd : ds[i]? = some ds[i] := List.getElem?_eq_getElem hi
  obtain ⟨v, B', hv, rv, sl⟩ := r.get hd
  refine ⟨⟨vs, v, sq, hv⟩, fun x H' y => ?_⟩
  obtain ⟨T, x, rfl, hT, rfl, hx⟩ := y
  have e := hx vs sq
  rw [hv] at e; cases e
  have eB : B' = [] := List.eq_nil_of_subset_nil fun a ha => sl.mem ha
  subst eB
  have g : Grow F2 H2 (upd F2 T (.tup [.int (i : Nat), v])) (upd H2 T (.tup [.int (i : Nat), v])) := Grow.newF s2 hT
  refine ⟨_, .tup [.int (i : Nat), ds[i]], by rw [enumL_get, hd, Nat.zero_add]; rfl, g, ?_⟩
  have r2 : RepL K R (upd F2 T (.tup [.int (i : Nat), v])) (upd H2 T (.tup [.int (i : Nat), v])) [.int (i : Nat), v] [.int (i : Nat), ds[i]] [] :=
    .cons (A := []) (B := []) (.sc (.int _)) (.cons (A := []) (B := []) (rv.mono (s1.trans g.ff) fun a ha => by cases ha) .nil)
  exact .fz (k := .tup) (.inl upd_same) r2 (.inl ⟨rfl, upd_same⟩)
theorem itm_zip {a b : Addr} {vs ws : List V} {ds es : List D} (h : ∀ F' H', Same F F' → Same F' H' → SqL K H' a vs) (h' : ∀ F' H', Same F F' → Same F' H' → SqL K H' b ws) (r : RepL K R F H vs ds []) (r' : RepL K R F H ws es []) :
    Itm K R F (Itz K a b) ((ds.zip es).map fun p => D.tup [p.1, p.2]) := by
  intro F2 H2 s1 s2
  have sq := h F2 H2 s1 s2
  have sq' := h' F2 H2 s1 s2
  refine ⟨fun i hi => ?_, ⟨vs, ws, sq, sq', ?_⟩⟩
  · rw [List.length_map, List.length_zip] at hi
    have hd : ds[i]? = some ds[i] := List.getElem?_eq_getElem (by omega)
    have he : es[i]? = some es[i] := List.getElem?_eq_getElem (by omega)
    obtain ⟨v, B', hv, rv, sl⟩ := r.get hd
    obtain ⟨w, B2, hw, rw', sl2⟩ := r'.get he
    refine ⟨⟨vs, ws, v, w, sq, sq', hv, hw⟩, fun x H' y => ?_⟩
    obtain ⟨T, x, y, rfl, hT, rfl, hx, hy⟩ := y
    have e := hx vs sq
    rw [hv] at e; cases e
    have e := hy ws sq'
    rw [hw] at e; cases e
    have eB : B' = [] := List.eq_nil_of_subset_nil fun a ha => sl.mem ha
    have eB2 : B2 = [] := List.eq_nil_of_subset_nil fun a ha => sl2.mem ha
    subst eB eB2
    have g : Grow F2 H2 (upd F2 T (.tup [v, w])) (upd H2 T (.tup [v, w])) := Grow.newF s2 hT
    refine ⟨_, .tup [ds[i], es[i]], by rw [List.getElem?_map, show (ds.zip es)[i]? = some (ds[i], es[i]) from List.getElem?_zip_eq_some.mpr ⟨hd, he⟩]; rfl, g, ?_⟩
    have r2 : RepL K R (upd F2 T (.tup [v, w])) (upd H2 T (.tup [v, w])) [v, w] [ds[i], es[i]] [] :=
      .cons (A := []) (B := []) (rv.mono (s1.trans g.ff) fun a ha => by cases ha) (.cons (A := []) (B := []) (rw'.mono (s1.trans g.ff) fun a ha => by cases ha) .nil)
    exact .fz (k := .tup) (.inl upd_same) r2 (.inl ⟨rfl, upd_same⟩)
  · rw [List.length_map, List.length_zip, r.length, r'.length]
    omega
end

/-- a list's items, once it is given up -/
def lsD : D → (List D → Prop) → Prop
  | .nd (.lst o) ds, Q => Q (if o = true then frzL ds else ds)
  | .nd .scr ds, Q => Q ds
  | _, _ => False
def dRg1 (ta : TAd) : TId := fun env Q E => ta env (fun ds => match ds with
  | [.sc (.int j)] => -(2 ^ 62) ≤ j ∧ j < 2 ^ 62 ∧ Q ((List.range j.toNat).map fun (k : Nat) => .int (k : Int))
  | _ => False) E
def dRg2 (ta : TAd) : TId := fun env Q E => ta env (fun ds => match ds with
  | [.sc (.int i), .sc (.int j)] => (-(2 ^ 62) ≤ i ∧ i < 2 ^ 62 ∧ -(2 ^ 62) ≤ j ∧ j < 2 ^ 62) ∧ Q ((List.range (j - i).toNat).map fun (k : Nat) => .int (i + (k : Int)))
  | _ => False) E
def dEnum (te : TEd) : TId := fun env Q E => te env (fun b d => safe b d ∧ lsD d fun ds => Q (enumL 0 ds)) E
def dRev (te : TEd) : TId := fun env Q E => te env (fun b d => safe b d ∧ lsD d fun ds => Q ds.reverse) E
def dZip (ta tb : TEd) : TId := fun env Q E => ta env (fun b d => safe b d ∧ tb env (fun b2 e => safe b2 e ∧ lsD d fun ds => lsD e fun es => Q ((ds.zip es).map fun p => D.tup [p.1, p.2])) E) E
def dLRev (te : TEd) : TEd := fun env Q E => te env (fun b d => match d with
  | .nd (.lst o) ds => stb (.lst o) ds = true ∧ Q false (.lst true ds.reverse)
  | .nd .scr ds => Q false (.lst true ds.reverse)
  | _ => False) E
section
variable {X : Cx} {R : RT} {tg e : Expr} {es : List Expr} {te : TEd} {ta : TAd}
theorem RepL.reverse {K : PySem.W.Frag} {F H : Hp} {vs : List V} {ds : List D} (r : RepL K R F H vs ds []) : RepL K R F H vs.reverse ds.reverse [] := by
  induction ds generalizing vs with
  | nil => cases r; exact .nil
  | cons d t ih =>
    generalize hA : ([] : List Addr) = A0 at r
    cases r with
    | cons a b =>
      obtain ⟨z1, z2⟩ := List.append_eq_nil_iff.mp hA.symm
      subst z1 z2
      rw [List.reverse_cons, List.reverse_cons]
      exact RepL.append (A := []) (B := []) (ih b) (.cons (A := []) (B := []) a .nil)
theorem lsD_of {K : PySem.W.Frag} {F H : Hp} {v : V} {d : D} {Q : List D → Prop} (r : Rep K R F H v (frz d) []) (s : Same F H) (h : lsD d Q) : ∃ a vs ds, v = .ref a ∧ RepL K R F H vs ds [] ∧ Q ds ∧ (∀ F' H', Same F F' → Same F' H' → SqL K H' a vs) := by
  have nilA : ∀ {k : Kind} {ds : List D}, Rep K R F H v (.nd k ds) [] → k.isL = true → k.cold = true → ∃ a vs, v = .ref a ∧ RepL K R F H vs ds [] ∧ (∀ F' H', Same F F' → Same F' H' → SqL K H' a vs) := fun {k ds} r hk hc => by
    generalize hA : ([] : List Addr) = A0 at r
    cases r with
    | fz h1 h2 h3 =>
      subst hA
      refine ⟨_, _, rfl, h2, fun F' H' s1 s2 => ?_⟩
      cases k with
      | lst o => exact SqL.of (s2 _ _ (s1 _ _ h1.2))
      | scr => exact s2.seq (s1.seq h1)
      | _ => cases hk
    | ow h1 h2 h3 => cases hA
  unfold lsD at h
  split at h
  · rename_i o ds
    cases o with
    | true =>
      rw [frz, if_neg (by decide)] at r
      obtain ⟨a, vs, e, r2, q⟩ := nilA r rfl rfl
      exact ⟨a, vs, _, e, r2, by simpa using h, q⟩
    | false =>
      rw [frz, if_pos (by rfl)] at r
      obtain ⟨a, vs, e, r2, q⟩ := nilA r rfl rfl
      exact ⟨a, vs, _, e, r2, by simpa using h, q⟩
  · rw [frz, if_pos (by rfl)] at r
    obtain ⟨a, vs, e, r2, q⟩ := nilA r rfl rfl
    exact ⟨a, vs, _, e, r2, h, q⟩
  · exact h.elim
theorem di_it (h : DE M X R e te) : DI M X R tg e (dIt te) := fun W tk => by
  obtain ⟨_, a1, a2⟩ := h W tk
  refine ⟨_, pi_sq a1, fun F H σ env As Q Qd Ed s er h q x => a2 F H σ env As _ _ Ed s er h (fun F1 H1 v d B b g1 r1 f1 hq => ?_) x⟩
  obtain ⟨sf, hq⟩ := hq
  obtain ⟨F', gv, _, g2, s12⟩ := give (K := X.K) (R := R) g1.fh g1 (Fresh.of_safe r1 f1 sf)
  have rz := gv v d r1
  have lst : lsD d Qd → (∃ a, v = .ref a ∧ (∃ xs, SqL X.K H1 a xs) ∧ Q (Itl X.K a) H1) := fun hq => by
    obtain ⟨a, vs, ds, e, r2, h2, h3⟩ := lsD_of rz g2.fh hq
    exact ⟨a, e, ⟨vs, h3 F' H1 (.refl _) g2.fh⟩, q F' H1 _ ds g2 (itm_list h3 r2) h2⟩
  unfold itD at hq
  split at hq
  · cases r1
    exact .inr (.inr ⟨_, rfl, q F1 H1 _ _ g1 itm_str hq⟩)
  · exact .inl (lst hq)
  · exact .inl (lst hq)
  · refine .inr (.inl ?_)
    rw [frz, if_neg (by decide)] at rz
    generalize hA : ([] : List Addr) = A0 at rz
    cases rz with
    | fz h1 h2 h3 =>
      subst hA
      exact ⟨_, rfl, ⟨_, (TupAt.mono g2.fh h1).sq⟩, q F' H1 _ _ g2 (itm_tup (fun F2 H2 s1 s2 => ((TupAt.mono s1 h1).mono s2).sq) h2) hq⟩
    | ow h1 h2 h3 => cases hA
  · exact hq.elim
theorem di_range1 {p pos : Pos} (hg : Gl X "range") (hm : X.mg "range" = none) (ha : DA M X R [e] ta) (hs : starEach [e] X.env = [(false, eval e X.env)] := by rfl) : DI M X R tg (.Call (.Name "range" p) [e] [] pos) (dRg1 ta) := fun W tk => by
  obtain ⟨_, a1, a2⟩ := ha W tk
  refine ⟨_, pi_range1 hg hm a1 hs, fun F H σ env As Q Qd Ed s er h q x => a2 F H σ env As _ _ Ed s er h (fun F1 H1 vs ds B g1 r1 f1 hq => ?_) x⟩
  split at hq
  · obtain ⟨v, rfl, rx⟩ := repl1 r1
    cases rx
    refine ⟨_, rfl, hq.1, hq.2.1, q F1 H1 _ _ g1 itm_range ?_⟩
    simpa using hq.2.2
  · exact hq.elim
theorem di_range2 {a b : Expr} {p pos : Pos} (hg : Gl X "range") (hm : X.mg "range" = none) (ha : DA M X R [a, b] ta) (hs : starEach [a, b] X.env = [(false, eval a X.env), (false, eval b X.env)] := by rfl) (hs2 : starEach [b] X.env = [(false, eval b X.env)] := by rfl) :
    DI M X R tg (.Call (.Name "range" p) [a, b] [] pos) (dRg2 ta) := fun W tk => by
  obtain ⟨_, a1, a2⟩ := ha W tk
  refine ⟨_, pi_range2 hg hm a1 hs hs2, fun F H σ env As Q Qd Ed s er h q x => a2 F H σ env As _ _ Ed s er h (fun F1 H1 vs ds B g1 r1 f1 hq => ?_) x⟩
  split at hq
  · obtain ⟨v, w, A, C, rfl, rx, ry⟩ := repl2 r1
    cases rx; cases ry
    exact ⟨_, _, rfl, hq.1, q F1 H1 _ _ g1 itm_range hq.2⟩
  · exact hq.elim
theorem di_enum {p pos tpos : Pos} {elts : List Expr} {kk : Nat} (hg : Gl X "enumerate") (hm : X.mg "enumerate" = none) (ha : DE M X R e te) (hs : starEach [e] X.env = [(false, eval e X.env)] := by rfl) :
    DI M X R (.Tuple elts kk tpos) (.Call (.Name "enumerate" p) [e] [] pos) (dEnum te) := fun W tk => by
  obtain ⟨_, a1, a2⟩ := ha W tk
  refine ⟨_, pi_enum hg hm (pa_cons a1 pa_nil hs) hs, fun F H σ env As Q Qd Ed s er h q x => a2 F H σ env As _ _ Ed s er h (fun F1 H1 v d B b g1 r1 f1 hq => ?_) x⟩
  obtain ⟨sf, hq⟩ := hq
  obtain ⟨F', gv, _, g2, s12⟩ := give (K := X.K) (R := R) g1.fh g1 (Fresh.of_safe r1 f1 sf)
  obtain ⟨a, vs, ds, e, r2, h2, h3⟩ := lsD_of (gv v d r1) g2.fh hq
  subst e
  exact ⟨a, vs, rfl, h3 F' H1 (.refl _) g2.fh, q F' H1 _ _ g2 (itm_enum h3 r2) h2⟩
theorem di_rev {p pos : Pos} (hg : Gl X "reversed") (hm : X.mg "reversed" = none) (ha : DE M X R e te) (hs : starEach [e] X.env = [(false, eval e X.env)] := by rfl) :
    DI M X R tg (.Call (.Name "reversed" p) [e] [] pos) (dRev te) := fun W tk => by
  obtain ⟨_, a1, a2⟩ := ha W tk
  refine ⟨_, pi_reversed hg hm (pa_cons a1 pa_nil hs) hs, fun F H σ env As Q Qd Ed s er h q x => a2 F H σ env As _ _ Ed s er h (fun F1 H1 v d B b g1 r1 f1 hq => ?_) x⟩
  obtain ⟨sf, hq⟩ := hq
  obtain ⟨F', gv, _, g2, s12⟩ := give (K := X.K) (R := R) g1.fh g1 (Fresh.of_safe r1 f1 sf)
  obtain ⟨a, vs, ds, e, r2, h2, h3⟩ := lsD_of (gv v d r1) g2.fh hq
  subst e
  exact ⟨a, vs, rfl, h3 F' H1 (.refl _) g2.fh, q F' H1 _ _ g2 (itm_rev h3 r2) h2⟩
theorem di_zip {e2 : Expr} {te2 : TEd} {p pos tpos : Pos} {elts : List Expr} {kk : Nat} (hg : Gl X "zip") (hm : X.mg "zip" = none) (ha : DE M X R e te) (hb : DE M X R e2 te2)
    (hs : starEach [e, e2] X.env = (false, eval e X.env) :: starEach [e2] X.env := by rfl) (hs2 : starEach [e2] X.env = [(false, eval e2 X.env)] := by rfl) (hpl : (backTo pos (starEach [e2] X.env)).any (·.1) = false := by rfl) :
    DI M X R (.Tuple elts kk tpos) (.Call (.Name "zip" p) [e, e2] [] pos) (dZip te te2) := fun W tk => by
  obtain ⟨_, a1, a2⟩ := ha W tk
  obtain ⟨_, b1, b2⟩ := hb W tk
  refine ⟨_, pi_zip hg hm (pa_cons a1 (pa_cons b1 pa_nil hs2) hs) hs hpl, fun F H σ env As Q Qd Ed s er h q x => a2 F H σ env As _ _ Ed s er h (fun F1 H1 v d B b g1 r1 f1 hq => ?_) x⟩
  obtain ⟨sf, hq⟩ := hq
  obtain ⟨F', gv, _, g2, s12⟩ := give (K := X.K) (R := R) g1.fh g1 (Fresh.of_safe r1 f1 sf)
  refine b2 F' H1 σ env As _ _ Ed g2.fh (er.grow g2) hq (fun F3 H3 w e3 C b3 g3 r3 f3 hq => ?_) (x.grow g2)
  obtain ⟨sf3, hq⟩ := hq
  obtain ⟨F4, gv4, _, g4, s34⟩ := give (K := X.K) (R := R) g3.fh g3 (Fresh.of_safe r3 f3 sf3)
  obtain ⟨a, vs, ds, e, ra, hq, ha3⟩ := lsD_of ((gv v d r1).grow g4) g4.fh hq
  obtain ⟨b', ws, es, e', rb, hq, hb3⟩ := lsD_of (gv4 w e3 r3) g4.fh hq
  subst e e'
  exact ⟨a, b', vs, ws, rfl, ha3 F4 H3 (.refl _) g4.fh, hb3 F4 H3 (.refl _) g4.fh, q F4 H3 _ _ (g2.trans g4) (itm_zip ha3 hb3 ra rb) hq⟩
theorem de_lstRev {p p2 pos pos2 : Pos} (hc : X.calm = true) (hg : Gl X "list") (hm : X.mg "list" = none) (hg2 : Gl X "reversed") (hm2 : X.mg "reversed" = none) (he : DE M X R e te)
    (hs : starEach [e] X.env = (false, eval e X.env) :: starEach [] X.env := by rfl)
    (hs2 : starEach [.Call (.Name "reversed" p2) [e] [] pos2] X.env = (false, eval (.Call (.Name "reversed" p2) [e] [] pos2) X.env) :: starEach [] X.env := by rfl) :
    DE M X R (.Call (.Name "list" p) [.Call (.Name "reversed" p2) [e] [] pos2] [] pos) (dLRev te) := fun W tk => by
  obtain ⟨_, a1, a2⟩ := he W tk
  refine ⟨_, pe_lstRev hc hg hm hg2 hm2 a1 hs hs2, fun F H σ env As Q Qd Ed s er h q x => a2 F H σ env As _ _ Ed s er h (fun F1 H1 v d B b g1 r1 f1 hq => ?_) x⟩
  split at hq
  · obtain ⟨a, vs, B', rfl, r2, _, q1, _, z⟩ := nd_ref r1 g1.fh
    have e := z hq.1
    subst e
    exact ⟨a, vs, rfl, q1 rfl, fun p hp => new_list (K := X.K) (R := R) (Qd := Qd false) g1.fh r2.reverse (fun F2 H2 v2 z2 C g2 r2 f2 hz => q F2 H2 v2 z2 C false (g1.trans g2) r2 (fun _ => f2.back g1) hz) hq.2 hp⟩
  · obtain ⟨a, vs, B', rfl, r2, _, q1, _, z⟩ := nd_ref r1 g1.fh
    have e := z rfl
    subst e
    exact ⟨a, vs, rfl, q1 rfl, fun p hp => new_list (K := X.K) (R := R) (Qd := Qd false) g1.fh r2.reverse (fun F2 H2 v2 z2 C g2 r2 f2 hz => q F2 H2 v2 z2 C false (g1.trans g2) r2 (fun _ => f2.back g1) hz) hq hp⟩
  · exact hq.elim
end
end DL

set_option Elab.async false
set_option linter.all false
set_option maxRecDepth 100000
set_option maxHeartbeats 1000000
namespace DL
open PySem PySem.Spec L2
variable {M : Bool}

/-! ## places within what a slot owns -/
inductive Walk (R : RT) (H : Hp) : V → List Nat → V → Prop
  | nil (v : V) : Walk R H v [] v
  | lst {a : Addr} {vs : List V} {j : Nat} {v w : V} {p : List Nat} : H a = some (.lst vs) → vs[j]? = some v → Walk R H v p w → Walk R H (.ref a) (j :: p) w
  | tup {a : Addr} {vs : List V} {j : Nat} {v w : V} {p : List Nat} : H a = some (.tup vs) → vs[j]? = some v → Walk R H v p w → Walk R H (.ref a) (j :: p) w
  | dct {a : Addr} {ks : List DK} {vs : List V} {j : Nat} {v w : V} {p : List Nat} : H a = some (.dK (zipK ks vs)) → ks.length = vs.length → vs[j]? = some v → Walk R H v p w → Walk R H (.ref a) (j :: p) w
  | ins {a dx : Addr} {c : Nat} {vs : List V} {j : Nat} {v w : V} {p : List Nat} : H a = some (.ins (R.cls c) dx ((R.lay c).zip vs)) → vs.length ≤ (R.lay c).length → vs[j]? = some v → Walk R H v p w → Walk R H (.ref a) (j :: p) w
theorem Walk.grow {R : RT} {H H' : Hp} (s : Same H H') {v w : V} {p : List Nat} (h : Walk R H v p w) : Walk R H' v p w := by
  induction h with
  | nil v => exact .nil v
  | lst h1 h2 _ ih => exact .lst (s _ _ h1) h2 ih
  | tup h1 h2 _ ih => exact .tup (s _ _ h1) h2 ih
  | dct h1 h2 h3 _ ih => exact .dct (s _ _ h1) h2 h3 ih
  | ins h1 h2 h3 _ ih => exact .ins (s _ _ h1) h2 h3 ih
theorem Walk.snoc {R : RT} {H : Hp} {v w u : V} {p q : List Nat} (h : Walk R H v p w) (h2 : Walk R H w q u) : Walk R H v (p ++ q) u := by
  induction h with
  | nil v => exact h2
  | lst a b _ ih => exact .lst a b (ih h2)
  | tup a b _ ih => exact .tup a b (ih h2)
  | dct a b c _ ih => exact .dct a b c (ih h2)
  | ins a b c _ ih => exact .ins a b c (ih h2)
def getP : List Nat → D → Option D
  | [], d => some d
  | j :: p, d => match d with
    | .nd k ds => if fz (.nd k ds) = true then none else (ds[j]?).bind (getP p)
    | .sc _ => none
def setP : List Nat → D → D → D
  | [], _, x => x
  | j :: p, d, x => match d with
    | .nd k ds => match ds[j]? with
      | some dj => .nd k (ds.set j (setP p dj x))
      | none => d
    | .sc _ => d
theorem getP_app : ∀ (p q : List Nat) (d : D), getP (p ++ q) d = (getP p d).bind (getP q)
  | [], q, d => rfl
  | j :: p, q, d => by
    cases d with
    | sc s => rfl
    | nd k ds =>
      rw [List.cons_append, getP, getP]
      by_cases h : fz (.nd k ds) = true
      · rw [if_pos h, if_pos h]; rfl
      · rw [if_neg h, if_neg h]
        cases ds[j]? with
        | none => rfl
        | some dj => exact getP_app p q dj
theorem zip_snd {α β : Type} : ∀ {xs : List α} {ys : List β}, ys.length ≤ xs.length → (xs.zip ys).map (·.2) = ys
  | _, [], _ => by simp
  | [], _ :: _, h => by simp at h
  | x :: xs, y :: ys, h => by
    rw [List.zip_cons_cons, List.map_cons, zip_snd (by simpa using h)]
section
variable {K : PySem.W.Frag} {R : RT} {F H : Hp}
theorem RepL.at {vs : List V} {ds : List D} {A : List Addr} (r : RepL K R F H vs ds A) {j : Nat} {v : V} {d : D} (hv : vs[j]? = some v) (hd : ds[j]? = some d) :
    ∃ A1 Aj A2, A = A1 ++ (Aj ++ A2) ∧ Rep K R F H v d Aj ∧ ∀ H' d' Aj', (∀ b, b ∈ A1 ∨ b ∈ A2 → H' b = H b) → Rep K R F H' v d' Aj' → RepL K R F H' vs (ds.set j d') (A1 ++ (Aj' ++ A2)) := by
  induction ds generalizing vs A j with
  | nil => simp at hd
  | cons d0 t ih =>
    cases r with
    | cons r1 r2 =>
      rename_i v0 A0 vs0 B0
      cases j with
      | zero =>
        simp at hv hd
        subst hv hd
        refine ⟨[], A0, B0, rfl, r1, fun H' d' Aj' hb r' => ?_⟩
        exact RepL.cons (A := Aj') (B := B0) r' (r2.mono (.refl _) fun a ha => ⟨hb a (.inr ha), (r2.own a ha).2⟩)
      | succ j =>
        obtain ⟨A1, Aj, A2, e, ra, k⟩ := ih r2 (by simpa using hv) (by simpa using hd)
        refine ⟨A0 ++ A1, Aj, A2, by rw [e, List.append_assoc], ra, fun H' d' Aj' hb r' => ?_⟩
        have q := k H' d' Aj' (fun b h => hb b (h.imp (List.mem_append_right _) id)) r'
        rw [List.append_assoc, List.set_cons_succ]
        exact .cons (r1.mono (.refl _) fun a ha => ⟨hb a (.inl (List.mem_append_left _ ha)), (r1.own a ha).2⟩) q
/-- a child of a node that is not given up -/
theorem child {v : V} {k : Kind} {ds : List D} {A : List Addr} (r : Rep K R F H v (.nd k ds) A) (s : Same F H) (hf : ¬ fz (.nd k ds) = true) {j : Nat} {p : List Nat} {w : V} (wk : Walk R H v (j :: p) w) {d : D} (hd : ds[j]? = some d) :
    ∃ (a : Addr) (vs : List V) (v1 : V) (A1 Aj A2 A0 : List Addr), v = .ref a ∧ vs[j]? = some v1 ∧ Walk R H v1 p w ∧ A = A0 ++ (A1 ++ (Aj ++ A2)) ∧ Rep K R F H v1 d Aj ∧
      ∀ H' d' Aj', (∀ b, b ∈ A0 ∨ b ∈ A1 ∨ b ∈ A2 → H' b = H b) → Rep K R F H' v1 d' Aj' → Rep K R F H' v (.nd k (ds.set j d')) (A0 ++ (A1 ++ (Aj' ++ A2))) := by
  cases r with
  | fz h1 h2 h3 =>
    rename_i a vs
    rcases h3 with ⟨hk, e⟩ | e
    · subst hk
      have e' := s _ _ e
      have : ∃ v1, vs[j]? = some v1 ∧ Walk R H v1 p w := by
        cases wk with
        | lst q1 q2 q3 => rw [e'] at q1; cases q1
        | tup q1 q2 q3 => rw [e'] at q1; cases q1; exact ⟨_, q2, q3⟩
        | dct q1 q2 q3 q4 => rw [e'] at q1; cases q1
        | ins q1 q2 q3 q4 => rw [e'] at q1; cases q1
      obtain ⟨v1, hv, wk1⟩ := this
      obtain ⟨A1, Aj, A2, eA, rj, k⟩ := h2.at hv hd
      refine ⟨a, vs, v1, A1, Aj, A2, [], rfl, hv, wk1, by rw [eA]; rfl, rj, fun H' d' Aj' hb r' => ?_⟩
      exact .fz h1 (k H' d' Aj' (fun b h => hb b (.inr h)) r') (.inl ⟨rfl, e⟩)
    · subst e
      exact absurd ((Rep.fz h1 h2 (.inr rfl) : Rep K R F H _ (.nd k ds) []).fzOf rfl) hf
  | ow h1 h2 h3 =>
    rename_i a vs A'
    have hv : ∃ v1, vs[j]? = some v1 ∧ Walk R H v1 p w := by
      cases k with
      | scr => exact h1.elim
      | tup => exact h1.elim
      | lst o =>
        have e := h1.2
        cases wk with
        | lst q1 q2 q3 => rw [e] at q1; cases q1; exact ⟨_, q2, q3⟩
        | tup q1 q2 q3 => rw [e] at q1; cases q1
        | dct q1 q2 q3 q4 => rw [e] at q1; cases q1
        | ins q1 q2 q3 q4 => rw [e] at q1; cases q1
      | dct o ks =>
        have e := h1.2.2
        cases wk with
        | lst q1 q2 q3 => rw [e] at q1; cases q1
        | tup q1 q2 q3 => rw [e] at q1; cases q1
        | dct q1 q2 q3 q4 =>
          rename_i ks2 vs2 v1
          rw [e] at q1
          have z : zipK ks vs = zipK ks2 vs2 := HO.dK.inj (Option.some.inj q1)
          have z2 := congrArg (List.map (·.2)) z
          unfold zipK at z2
          rw [zip_snd (by rw [List.length_map, h1.2.1]; exact Nat.le_refl _), zip_snd (by rw [List.length_map, q2]; exact Nat.le_refl _)] at z2
          exact ⟨_, by rw [z2]; exact q3, q4⟩
        | ins q1 q2 q3 q4 => rw [e] at q1; cases q1
      | dcT o ks =>
        have e := h1.2.2
        cases wk with
        | lst q1 q2 q3 => rw [e] at q1; cases q1
        | tup q1 q2 q3 => rw [e] at q1; cases q1
        | dct q1 q2 q3 q4 => rw [e] at q1; cases q1
        | ins q1 q2 q3 q4 => rw [e] at q1; cases q1
      | ins o c =>
        obtain ⟨_, hl, dx, e⟩ := h1
        cases wk with
        | lst q1 q2 q3 => rw [e] at q1; cases q1
        | tup q1 q2 q3 => rw [e] at q1; cases q1
        | dct q1 q2 q3 q4 => rw [e] at q1; cases q1
        | ins q1 q2 q3 q4 =>
          rw [e] at q1
          have z := (HO.ins.inj (Option.some.inj q1)).2.2
          have z2 := congrArg (List.map (·.2)) z
          rw [zip_snd hl, zip_snd q2] at z2
          exact ⟨_, by rw [z2]; exact q3, q4⟩
    obtain ⟨v1, hv, wk1⟩ := hv
    obtain ⟨A1, Aj, A2, eA, rj, k⟩ := h3.at hv hd
    refine ⟨a, vs, v1, A1, Aj, A2, [a], rfl, hv, wk1, by rw [eA]; rfl, rj, fun H' d' Aj' hb r' => ?_⟩
    exact .ow (h1.at (hb a (.inl (List.mem_singleton.mpr rfl)))) h2 (k H' d' Aj' (fun b h => hb b (.inr h)) r')
theorem focus : ∀ (p : List Nat) {v w : V} {d dp : D} {A : List Addr}, Rep K R F H v d A → Same F H → getP p d = some dp → Walk R H v p w →
    ∃ Ap, Rep K R F H w dp Ap ∧ (∀ b ∈ Ap, b ∈ A) ∧ (A.Nodup → Ap.Nodup ∧ ∀ H' dp' Ap', (∀ b ∈ A, b ∉ Ap → H' b = H b) → Rep K R F H' w dp' Ap' → (∀ b ∈ Ap', b ∈ Ap ∨ b ∉ A) → Ap'.Nodup →
      ∃ A', Rep K R F H' v (setP p d dp') A' ∧ A'.Nodup ∧ ∀ b ∈ A', (b ∈ A ∧ b ∉ Ap) ∨ b ∈ Ap')
  | [], v, w, d, dp, A, r, s, hg, wk => by
    cases wk
    cases hg
    exact ⟨A, r, fun b h => h, fun nd => ⟨nd, fun H' dp' Ap' _ r' _ n' => ⟨Ap', r', n', fun b h => .inr h⟩⟩⟩
  | j :: p, v, w, d, dp, A, r, s, hg, wk => by
    cases d with
    | sc x => cases hg
    | nd k ds =>
      rw [getP] at hg
      by_cases hf : fz (.nd k ds) = true
      · rw [if_pos hf] at hg; cases hg
      · rw [if_neg hf] at hg
        cases hd : ds[j]? with
        | none => rw [hd] at hg; cases hg
        | some dj =>
          rw [hd] at hg
          have hg : getP p dj = some dp := hg
          obtain ⟨a, vs, v1, A1, Aj, A2, A0, ev, hv, wk1, eA, rj, kk⟩ := child r s hf wk hd
          obtain ⟨Ap, r1, sub, k2⟩ := focus p rj s hg wk1
          refine ⟨Ap, r1, fun b h => by rw [eA]; exact List.mem_append_right _ (List.mem_append_right _ (List.mem_append_left _ (sub b h))), fun nd => ?_⟩
          rw [eA] at nd
          obtain ⟨n0, nr, d0⟩ := List.nodup_append.mp nd
          obtain ⟨n1, nr2, d1⟩ := List.nodup_append.mp nr
          obtain ⟨nj, n2, d2⟩ := List.nodup_append.mp nr2
          obtain ⟨nAp, k3⟩ := k2 nj
          refine ⟨nAp, fun H' dp' Ap' hb r' hA' nA' => ?_⟩
          have inA : ∀ b, b ∈ Aj → b ∈ A := fun b h => by rw [eA]; exact List.mem_append_right _ (List.mem_append_right _ (List.mem_append_left _ h))
          have out0 : ∀ b, b ∈ A0 → b ∉ Aj := fun b h z => d0 b h b (List.mem_append_right _ (List.mem_append_left _ z)) rfl
          have out1 : ∀ b, b ∈ A1 → b ∉ Aj := fun b h z => d1 b h b (List.mem_append_left _ z) rfl
          have out2 : ∀ b, b ∈ A2 → b ∉ Aj := fun b h z => d2 b z b h rfl
          obtain ⟨Aj', rj', nj', sj'⟩ := k3 H' dp' Ap' (fun b h hn => hb b (inA b h) hn) r' (fun b h => (hA' b h).imp id fun z y => z (inA b y)) nA'
          have outsj : ∀ b, b ∈ Aj' → b ∈ Aj ∨ b ∉ A := fun b h => by
            rcases sj' b h with z | z
            · exact .inl z.1
            · rcases hA' b z with y | y
              · exact .inl (sub b y)
              · exact .inr y
          have m0 : ∀ b, b ∈ A0 → b ∈ A := fun b h => by rw [eA]; exact List.mem_append_left _ h
          have m1 : ∀ b, b ∈ A1 → b ∈ A := fun b h => by rw [eA]; exact List.mem_append_right _ (List.mem_append_left _ h)
          have m2 : ∀ b, b ∈ A2 → b ∈ A := fun b h => by rw [eA]; exact List.mem_append_right _ (List.mem_append_right _ (List.mem_append_right _ h))
          refine ⟨A0 ++ (A1 ++ (Aj' ++ A2)), ?_, ?_, ?_⟩
          · rw [setP]
            simp only [hd]
            refine kk H' _ Aj' (fun b h => ?_) rj'
            rcases h with h | h | h
            · exact hb b (m0 b h) fun z => out0 b h (sub b z)
            · exact hb b (m1 b h) fun z => out1 b h (sub b z)
            · exact hb b (m2 b h) fun z => out2 b h (sub b z)
          · refine List.nodup_append.mpr ⟨n0, List.nodup_append.mpr ⟨n1, List.nodup_append.mpr ⟨nj', n2, fun x hx y hy e => ?_⟩, fun x hx y hy e => ?_⟩, fun x hx y hy e => ?_⟩
            · subst e
              rcases outsj x hx with z | z
              · exact out2 x hy z
              · exact z (m2 x hy)
            · subst e
              rcases List.mem_append.mp hy with hy | hy
              · rcases outsj x hy with z | z
                · exact out1 x hx z
                · exact z (m1 x hx)
              · exact d1 x hx x (List.mem_append_right _ hy) rfl
            · subst e
              rcases List.mem_append.mp hy with hy | hy
              · exact d0 x hx x (List.mem_append_left _ hy) rfl
              · rcases List.mem_append.mp hy with hy | hy
                · rcases outsj x hy with z | z
                  · exact out0 x hx z
                  · exact z (m0 x hx)
                · exact d0 x hx x (List.mem_append_right _ (List.mem_append_right _ hy)) rfl
          · intro b h
            rcases List.mem_append.mp h with h | h
            · exact .inl ⟨m0 b h, fun z => out0 b h (sub b z)⟩
            · rcases List.mem_append.mp h with h | h
              · exact .inl ⟨m1 b h, fun z => out1 b h (sub b z)⟩
              · rcases List.mem_append.mp h with h | h
                · rcases sj' b h with z | z
                  · exact .inl ⟨inA b z.1, z.2⟩
                  · exact .inr z
                · exact .inl ⟨m2 b h, fun z => out2 b h (sub b z)⟩
end

/-! ## a slot's thing is changed at a place -/
section
variable {K : PySem.W.Frag} {R : RT} {C : Ba} {F H : Hp} {σ : L2.St} {env : Sl} {As : Nat → List Addr}
/-- the whole of a slot becomes another thing at the same place -/
theorem Ok.mut (h : Ok K R C F H σ env As) {i : Nat} {v : V} {d d' : D} {A' : List Addr} {H' : Hp} (e : env[i]? = some (some d)) (ev : σ[i]? = some (some v)) (hH : ∀ b, b ∉ As i → H' b = H b) (ht : ∀ b ∈ As i, ∃ o, H' b = some o)
    (s : Same F H') (r : Rep K R F H' v d' A') (n : A'.Nodup) (ha : ∀ b ∈ A', b ∈ As i ∨ ((C.A0 b ∨ C.H0 b = none) ∧ ∀ j, b ∉ As j)) : Ok K R C F H' σ (env.set i (some d')) (fun j => if j = i then A' else As j) := by
  have hi : i < env.length := (List.getElem?_eq_some_iff.mp e).1
  refine ⟨⟨by simpa using h.er.len, fun j x ej => ?_, fun j hj => ?_, fun j l a hjl hj => ?_, fun j => ?_⟩, s, fun a o q nA => ?_, fun a o q => ?_, h.kf, h.fr, fun j a hj => ?_, h.pin⟩
  · by_cases hji : j = i
    · subst hji
      rw [List.getElem?_set_self hi] at ej
      cases ej
      exact ⟨v, ev, by simpa using r⟩
    · rw [List.getElem?_set_ne (Ne.symm hji)] at ej
      obtain ⟨u, e1, r1⟩ := h.er.val j x ej
      refine ⟨u, e1, ?_⟩
      simp only [if_neg hji]
      exact r1.mono (.refl _) fun a hj => ⟨hH a (h.er.dis j i a hji hj), (h.er.own hj).2⟩
  · by_cases hji : j = i
    · subst hji
      exact absurd (List.getElem?_set_self hi) (hj d')
    · simp only [if_neg hji]
      exact h.er.emp j fun x ex => hj x (by rw [List.getElem?_set_ne (Ne.symm hji)]; exact ex)
  · have apart : ∀ k, k ≠ i → ∀ a, a ∈ A' → a ∉ As k := fun k hk a hA hk' => by
      rcases ha a hA with z | z
      · exact h.er.dis i k a (Ne.symm hk) z hk'
      · exact z.2 k hk'
    by_cases h1 : j = i
    · simp only [if_pos h1] at hj
      simp only [if_neg (fun z : l = i => hjl (h1.trans z.symm))]
      exact apart l (fun z => hjl (h1.trans z.symm)) a hj
    · simp only [if_neg h1] at hj
      by_cases h2 : l = i
      · simp only [if_pos h2]
        exact fun z => apart j h1 a z hj
      · simp only [if_neg h2]
        exact h.er.dis j l a hjl hj
  · by_cases h1 : j = i
    · simp only [if_pos h1]; exact n
    · simp only [if_neg h1]; exact h.er.nod j
  · rw [hH a (fun z => ?_)]
    · exact h.kp a o q nA
    · rcases h.ow i a z with y | y
      · exact nA y
      · rw [q] at y; cases y
  · by_cases z : a ∈ As i
    · exact ht a z
    · rw [hH a z]; exact h.tr a o q
  · by_cases h1 : j = i
    · simp only [if_pos h1] at hj
      rcases ha a hj with z | z
      · exact h.ow i a z
      · exact z.1
    · simp only [if_neg h1] at hj
      exact h.ow j a hj
/-- .. at a place of it; B: new things that come in -/
theorem Ok.mutP (h : Ok K R C F H σ env As) {i : Nat} {v w : V} {d dp : D} {p : List Nat} (e : env[i]? = some (some d)) (ev : σ[i]? = some (some v)) (hg : getP p d = some dp) (wk : Walk R H v p w) :
    ∃ Ap, Rep K R F H w dp Ap ∧ (∀ b ∈ Ap, b ∈ As i) ∧ Ap.Nodup ∧ ∀ H' dp' Ap' B, Own C As B → (∀ b, b ∉ Ap → H' b = H b) → (∀ b ∈ Ap, ∃ o, H' b = some o) → Same F H' → Rep K R F H' w dp' Ap' → Ap'.Nodup → (∀ b ∈ Ap', b ∈ Ap ∨ b ∈ B) →
      ∃ As', Ok K R C F H' σ (env.set i (some (setP p d dp'))) As' ∧ ∀ j a, a ∈ As' j → (a ∈ As j ∧ a ∉ Ap) ∨ a ∈ Ap' := by
  obtain ⟨v0, e0, r⟩ := h.er.val i d e
  rw [ev] at e0
  cases e0
  obtain ⟨Ap, r1, sub, k⟩ := focus p r h.fh hg wk
  obtain ⟨nAp, k⟩ := k (h.er.nod i)
  refine ⟨Ap, r1, sub, nAp, fun H' dp' Ap' B o hb ht s r' n' hA' => ?_⟩
  obtain ⟨A', rr, nn, ss⟩ := k H' dp' Ap' (fun b _ hn => hb b hn) r' (fun b hb' => (hA' b hb').imp id fun z => o.2.2 i b z) n'
  refine ⟨_, h.mut e ev (fun b hn => hb b fun z => hn (sub b z)) (fun b hb' => ?_) s rr nn (fun b hb' => ?_), fun j a hj => ?_⟩
  · by_cases z : b ∈ Ap
    · exact ht b z
    · rw [hb b z]; exact (h.er.own hb').1
  · rcases ss b hb' with z | z
    · exact .inl z.1
    · rcases hA' b z with y | y
      · exact .inl (sub b y)
      · exact .inr ⟨o.2.1 b y, fun j => o.2.2 j b y⟩
  · by_cases h1 : j = i
    · subst h1
      simp only [if_true] at hj
      exact ss a hj
    · simp only [if_neg h1] at hj
      exact .inl ⟨hj, fun z => h.er.dis j i a h1 hj (sub a z)⟩
end
end DL

set_option Elab.async false
set_option linter.all false
set_option maxRecDepth 100000
set_option maxHeartbeats 1000000
namespace DL
open PySem PySem.Spec L2
variable {M : Bool}

/-! ## the place that an expression means -/
abbrev TPd := Sl → (List Nat → Prop) → (EX → Prop) → Prop
def LP (K : PySem.W.Frag) (R : RT) (W : WX) (i : Nat) (t : TE) (pd : TPd) : Prop := ∀ (F H : Hp) (σ : L2.St) (env : Sl) (As : Nat → List Addr) (Q : VK) (Qd : List Nat → Prop) (Ed : EX → Prop),
  Same F H → EnvR K R F H σ env As → pd env Qd Ed →
  (∀ F' H' v w p d dp, Grow F H F' H' → σ[i]? = some (some v) → env[i]? = some (some d) → getP p d = some dp → Walk R H' v p w → Qd p → Q w H') → ExW K R W F H σ Ed → t σ H Q
def DP (M : Bool) (X : Cx) (R : RT) (i : Nat) (e : Expr) (pd : TPd) : Prop := ∀ W, Tk M X W → ∃ t, PE X e t ∧ LP X.K R W i t pd
def atP (i : Nat) (env : Sl) (p : List Nat) (Q : D → D → Prop) : Prop := match env[i]? with
  | some (some d) => match getP p d with
    | some dp => Q d dp
    | none => False
  | _ => False
theorem atP_of {i : Nat} {env : Sl} {p : List Nat} {Q : D → D → Prop} (h : atP i env p Q) {d dp : D} (e : env[i]? = some (some d)) (g : getP p d = some dp) : Q d dp := by
  unfold atP at h
  rw [e] at h
  simp only [g] at h
  exact h
def posOf {κ : Type} [DecidableEq κ] : List κ → κ → Option Nat
  | [], _ => none
  | a :: r, k => if a = k then some 0 else (posOf r k).map (· + 1)
/-- which child a subscript means -/
def posD : D → D → (Nat → Prop) → Prop
  | .nd (.lst o) ds, .sc (.int z), Q => fz (.nd (.lst o) ds) = false ∧ ∃ j, ixN ds.length z = some j ∧ Q j
  | .nd .tup ds, .sc (.int z), Q => fz (.nd .tup ds) = false ∧ ∃ j, ixN ds.length z = some j ∧ Q j
  | .nd (.dct o ks) ds, .sc s, Q => fz (.nd (.dct o ks) ds) = false ∧ ∃ k j, keyS s = some k ∧ posOf ks k = some j ∧ Q j
  | _, _, _ => False
theorem posD_of {dp e : D} {Q : Nat → Prop} (h : posD dp e Q) : (∃ o ds z j, dp = .nd (.lst o) ds ∧ e = .int z ∧ fz (.nd (.lst o) ds) = false ∧ ixN ds.length z = some j ∧ Q j) ∨
    (∃ ds z j, dp = .nd .tup ds ∧ e = .int z ∧ fz (.nd .tup ds) = false ∧ ixN ds.length z = some j ∧ Q j) ∨
    ∃ o ks ds s k j, dp = .nd (.dct o ks) ds ∧ e = .sc s ∧ fz (.nd (.dct o ks) ds) = false ∧ keyS s = some k ∧ posOf ks k = some j ∧ Q j := by
  unfold posD at h
  split at h
  · obtain ⟨h1, j, h2, h3⟩ := h
    exact .inl ⟨_, _, _, j, rfl, rfl, h1, h2, h3⟩
  · obtain ⟨h1, j, h2, h3⟩ := h
    exact .inr (.inl ⟨_, _, j, rfl, rfl, h1, h2, h3⟩)
  · obtain ⟨h1, k, j, h2, h3, h4⟩ := h
    exact .inr (.inr ⟨_, _, _, _, k, j, rfl, rfl, h1, h2, h3, h4⟩)
  · exact h.elim
def pVar (i : Nat) : TPd := fun env Q _ => match env[i]? with
  | some (some _) => Q []
  | _ => False
def pIx (i : Nat) (pd : TPd) (te : TEd) : TPd := fun env Q E => pd env (fun p => te env (fun _ e => atP i env p fun _ dp => posD dp e fun j => Q (p ++ [j])) E) E
/-- the j-th field of an instance of the class c -/
def pFl (i : Nat) (pd : TPd) (c j : Nat) : TPd := fun env Q E => pd env (fun p => atP i env p fun _ dp => match dp with
  | .nd (.ins true c') ds => c' = c ∧ j < ds.length ∧ Q (p ++ [j])
  | _ => False) E
/-- what is known of a class of the program's own -/
structure ClsF (K : PySem.W.Frag) (R : RT) (c : Nat) : Prop where
  cls : Cls K (R.cls c)
  no : ∀ (j : Nat) (f : Str), (R.lay c)[j]? = some f → NoAttr K (R.cls c) f
  nd : (R.lay c).Nodup
  few : (R.lay c).length < 1000
theorem lookup_zip : ∀ {fs : List Str} {vs : List V} {j : Nat} {f : Str} {v : V}, fs.Nodup → fs[j]? = some f → vs[j]? = some v → (fs.zip vs).lookup f = some v
  | [], _, _, _, _, _, h, _ => by simp at h
  | _ :: _, [], _, _, _, _, _, h => by simp at h
  | g :: fs, u :: vs, 0, f, v, _, h1, h2 => by
    simp at h1 h2
    subst h1 h2
    simp [List.lookup]
  | g :: fs, u :: vs, j + 1, f, v, nd, h1, h2 => by
    obtain ⟨n1, n2⟩ := List.nodup_cons.mp nd
    have hm : f ∈ fs := List.mem_of_getElem? (by simpa using h1)
    have hne : (f == g) = false := beq_eq_false_iff_ne.mpr fun e => n1 (by rw [← e]; exact hm)
    rw [List.zip_cons_cons, List.lookup_cons]
    simp only [hne]
    exact lookup_zip n2 (by simpa using h1) (by simpa using h2)
/-- o.f as a value -/
def dFld (c j : Nat) (te : TEd) : TEd := fun env Q E => te env (fun b d => match d with
  | .nd (.ins _ c') ds => c' = c ∧ ∃ x, ds[j]? = some x ∧ Q b x
  | _ => False) E
section
variable {X : Cx} {R : RT} {i : Nat} {e : Expr} {pd : TPd} {te : TEd} {pos : Pos}
theorem ins_at {K : PySem.W.Frag} {F H : Hp} {v : V} {o : Bool} {c : Nat} {ds : List D} {B : List Addr} (r : Rep K R F H v (.nd (.ins o c) ds) B) (s : Same F H) :
    ∃ a dx vs B', v = .ref a ∧ RepL K R F H vs ds B' ∧ B'.Sublist B ∧ vs.length ≤ (R.lay c).length ∧ H a = some (.ins (R.cls c) dx ((R.lay c).zip vs)) := by
  cases r with
  | fz h1 h2 h3 =>
    obtain ⟨_, h4, dx, h5⟩ := h1
    exact ⟨_, dx, _, _, rfl, h2, List.Sublist.refl _, h4, s _ _ h5⟩
  | ow h1 h2 h3 =>
    obtain ⟨_, h4, dx, h5⟩ := h1
    exact ⟨_, dx, _, _, rfl, h3, List.sublist_cons_self _ _, h4, h5⟩
theorem de_fld {c j : Nat} {f : Str} (hcl : ClsF X.K R c) (hj : (R.lay c)[j]? = some f) (h : DE M X R e te) (hb : attributeBase e f X.env (eval e X.env) = eval e X.env := by rfl) : DE M X R (.Attribute e f pos) (dFld c j te) := fun W tk => by
  obtain ⟨_, a1, a2⟩ := h W tk
  refine ⟨_, pe_fld a1 hb, fun F H σ env As Q Qd Ed s er h q x => a2 F H σ env As _ _ Ed s er h (fun F1 H1 v d B b g1 r1 f1 hq => ?_) x⟩
  split at hq
  · obtain ⟨rfl, z, hz, hq⟩ := hq
    obtain ⟨a, dx, vs, B', rfl, r2, sl, hl, ha⟩ := ins_at r1 g1.fh
    obtain ⟨u, B2, hu, r3, sl3⟩ := r2.get hz
    exact ⟨a, _, dx, _, u, rfl, ha, hcl.cls, hcl.no j f hj, lookup_zip hcl.nd hj hu, q F1 H1 u z B2 b g1 r3 (fun eb => (f1 eb).sub (sl3.trans sl)) hq⟩
  · exact hq.elim
theorem dp_var (i : Nat) {x : Str} (hN : X.N[i]? = some x := by rfl) (hv : Vis X.env.scope x := by first | exact Or.inl rfl | exact Or.inr (Or.inl rfl) | exact Or.inr (Or.inr rfl)) (hd : (x == ("__debug__" : Str)) = false := by decide)
    (hcd : (x == ("__classdict__" : Str)) = false := by decide) : DP M X R i (.Name x pos) (pVar i) := fun W _ => ⟨_, pe_var hN hv hd hcd, fun F H σ env As Q Qd Ed s er h q _ => by
  unfold pVar at h
  split at h
  · rename_i d e
    obtain ⟨v, e1, r⟩ := er.val i d e
    exact ⟨v, e1, q F H v v [] d d (.refl s) e1 e rfl (.nil v) h⟩
  · exact h.elim⟩
theorem getP_snoc {p : List Nat} {d : D} {k : Kind} {ds : List D} {j : Nat} {x : D} (h : getP p d = some (.nd k ds)) (hf : fz (.nd k ds) = false) (hj : ds[j]? = some x) : getP (p ++ [j]) d = some x := by
  rw [getP_app, h]
  show getP [j] (.nd k ds) = some x
  rw [getP, if_neg (by rw [hf]; decide), hj]
  rfl
theorem ixN_lt {n : Nat} {z : Int} {j : Nat} (h : ixN n z = some j) : j < n := (ixN_seq h).2.1
theorem dp_ix (hu : X.A.units + 1 < cLine) {a b : Expr} (h1 : DP M X R i a pd) (h2 : DE M X R b te) (hs : PlainIx b := by exact fun _ _ => rfl) : DP M X R i (.Subscript a b pos) (pIx i pd te) := fun W tk => by
  obtain ⟨_, a1, a2⟩ := h1 W tk
  obtain ⟨_, b1, b2⟩ := h2 W tk
  refine ⟨_, pe_ix (ix_seq.or (ix_dict hu)) a1 b1 hs, fun F H σ env As Q Qd Ed s er h q x => a2 F H σ env As _ _ Ed s er h (fun F1 H1 v w p d dp g1 ev ee hg wk hq => ?_) x⟩
  refine b2 F1 H1 σ env As _ _ Ed g1.fh (er.grow g1) hq (fun F2 H2 u eD C b2 g2 r2 f2 hq => ?_) (x.grow g1)
  have hq := atP_of hq ee hg
  have gg := g1.trans g2
  obtain ⟨v0, e0, rr⟩ := (er.grow gg).val i d ee
  rw [ev] at e0
  cases e0
  have wk2 := wk.grow g2.hh
  obtain ⟨Ap, rp, _, _⟩ := focus p rr gg.fh hg wk2
  rcases posD_of hq with ⟨o, ds, z, j, rfl, rfl, hf, hj, hq⟩ | ⟨ds, z, j, rfl, rfl, hf, hj, hq⟩ | ⟨o, ks, ds, s0, k, j, rfl, rfl, hf, hk, hj, hq⟩
  · cases r2
    obtain ⟨a', vs, B', rfl, r3, ha, _⟩ := lst_at rp gg.fh
    obtain ⟨dj, hd⟩ : ∃ x, ds[j]? = some x := ⟨_, List.getElem?_eq_getElem (ixN_lt hj)⟩
    obtain ⟨y, B2, hy, _, _⟩ := r3.get hd
    refine .inl (.inl ⟨a', vs, z, y, rfl, rfl, SqL.of ha, ?_, ?_⟩)
    · unfold atI; rw [r3.length, hj]; exact hy
    · exact q F2 H2 v y (p ++ [j]) d dj gg ev ee (getP_snoc hg hf hd) (wk2.snoc (.lst ha hy (.nil y))) hq
  · cases r2
    obtain ⟨dj, hd⟩ : ∃ x, ds[j]? = some x := ⟨_, List.getElem?_eq_getElem (ixN_lt hj)⟩
    cases rp with
    | fz h1 h2 h3 =>
      rename_i a' vs _
      rcases h3 with ⟨_, h3⟩ | h3
      · have ha := gg.fh _ _ h3
        obtain ⟨y, B2, hy, _, _⟩ := h2.get hd
        refine .inl (.inr (.inl ⟨a', vs, z, y, rfl, rfl, SqT.of ha, ?_, ?_⟩))
        · unfold atI; rw [h2.length, hj]; exact hy
        · exact q F2 H2 v y (p ++ [j]) d dj gg ev ee (getP_snoc hg hf hd) (wk2.snoc (.tup ha hy (.nil y))) hq
      · subst h3
        have z := (Rep.fz h1 h2 (.inr rfl) : Rep X.K R F2 H2 _ (.nd .tup ds) []).fzOf rfl
        rw [hf] at z; cases z
    | ow h1 h2 h3 => exact h1.elim
  · cases r2
    obtain ⟨a', vs, B', rfl, r3, sl, hl, ha⟩ := dct_at rp gg.fh
    have pl : ∀ {ks : List DK} {vs : List V} {j : Nat}, ks.length = vs.length → posOf ks k = some j → ∃ y, vs[j]? = some y ∧ lkp ks vs k = some y := by
      intro ks
      induction ks with
      | nil => intro vs j _ h; cases h
      | cons a r ih =>
        intro vs j hl h
        cases vs with
        | nil => simp at hl
        | cons v0 vs =>
          rw [posOf] at h
          by_cases e : a = k
          · rw [if_pos e] at h; cases h
            exact ⟨v0, rfl, by rw [lkp, if_pos e]⟩
          · rw [if_neg e] at h
            cases hp : posOf r k with
            | none => rw [hp] at h; cases h
            | some j' =>
              rw [hp] at h
              cases h
              obtain ⟨y, h1, h2⟩ := ih (by simpa using hl) hp
              exact ⟨y, by simpa using h1, by rw [lkp, if_neg e]; exact h2⟩
    obtain ⟨y, hy, hlk⟩ := pl hl hj
    have hjd : j < ds.length := by rw [← r3.length]; exact (List.getElem?_eq_some_iff.mp hy).1
    obtain ⟨dj, hd⟩ : ∃ x, ds[j]? = some x := ⟨_, List.getElem?_eq_getElem hjd⟩
    refine .inr ⟨a', y, rfl, ?_, q F2 H2 v y (p ++ [j]) d dj gg ev ee (getP_snoc hg hf hd) (wk2.snoc (.dct ha hl hy (.nil y))) hq⟩
    rw [keyS_enc hk, ← hlk, ← valV_lkp (f := key) (fun a b z => key_inj z)]
    exact DGet.k ha
theorem dp_fl {c j : Nat} {f : Str} (hcl : ClsF X.K R c) (hj : (R.lay c)[j]? = some f) {a : Expr} (h : DP M X R i a pd) (hb : attributeBase a f X.env (eval a X.env) = eval a X.env := by rfl) : DP M X R i (.Attribute a f pos) (pFl i pd c j) := fun W tk => by
  obtain ⟨_, a1, a2⟩ := h W tk
  refine ⟨_, pe_fld a1 hb, fun F H σ env As Q Qd Ed s er h q x => a2 F H σ env As _ _ Ed s er h (fun F1 H1 v w p d dp g1 ev ee hg wk hq => ?_) x⟩
  have hq := atP_of hq ee hg
  obtain ⟨v0, e0, rr⟩ := (er.grow g1).val i d ee
  rw [ev] at e0
  cases e0
  obtain ⟨Ap, rp, _, _⟩ := focus p rr g1.fh hg wk
  split at hq
  · rename_i c' ds
    obtain ⟨rfl, hlt, hq⟩ := hq
    obtain ⟨a', dx, vs, B', rfl, r2, sl, hl, ha⟩ := ins_at rp g1.fh
    obtain ⟨dj, hd⟩ : ∃ x, ds[j]? = some x := ⟨_, List.getElem?_eq_getElem hlt⟩
    obtain ⟨u, B2, hu, r3, sl3⟩ := r2.get hd
    have hf : fz (.nd (.ins true c') ds) = false := by rw [fz]; rfl
    exact ⟨a', _, dx, _, u, rfl, ha, hcl.cls, hcl.no j f hj, lookup_zip hcl.nd hj hu, q F1 H1 v u (p ++ [j]) d dj g1 ev ee (getP_snoc hg hf hd) (wk.snoc (.ins ha hl hu (.nil u))) hq⟩
  · exact hq.elim
end

/-! ## methods of built-ins that change what they are called on -/
abbrev GM := D → List D → (D → D → Prop) → Prop
def OpM (X : Cx) (R : RT) (T id : String) (g : GM) : Prop := ∃ r, MtR X id r ∧
  (∀ F H w dp A, Same F H → Rep X.K R F H w dp A → tyD dp = some T → fz dp = false → tyV X.K T w H) ∧
  ∀ (F H : Hp) (w : V) (dp : D) (A : List Addr) (vs : List V) (ds : List D) (B : List Addr) (Q : VK) (Qd : D → D → Prop),
    Same F H → Rep X.K R F H w dp A → A.Nodup → RepL X.K R F H vs ds B → B.Nodup → (∀ a ∈ B, a ∉ A) → g dp ds Qd →
    (∀ H' vr dr dp' A' Br, (∀ b, b ∉ A → H' b = H b) → (∀ b ∈ A, ∃ o, H' b = some o) → Same F H' → Rep X.K R F H' w dp' A' → Rep X.K R F H' vr dr Br → (A' ++ Br).Nodup → (∀ b ∈ A' ++ Br, b ∈ A ∨ b ∈ B) → Qd dr dp' → Q vr H') → r w vs H Q
/-- path.m(..) as a statement -/
def dMS (i : Nat) (pd : TPd) (T : String) (g : GM) (ta : TAd) : TSd := fun D env => pd env (fun p => atP i env p fun _ d0 => (tyD d0 = some T ∧ fz d0 = false) ∧ ta env (fun ds => atP i env p fun d dp => g dp ds fun _ dp' => D.nx (env.set i (some (setP p d dp')))) (fun x => D.ex x env)) (fun x => D.ex x env)
/-- target = path.m(..) -/
def dMA (i : Nat) (pd : TPd) (T : String) (g : GM) (ta : TAd) (gd : TGd) : TSd := fun D env => pd env (fun p => atP i env p fun _ d0 => (tyD d0 = some T ∧ fz d0 = false) ∧ ta env (fun ds => atP i env p fun d dp => g dp ds fun dr dp' => gd dr (env.set i (some (setP p d dp'))) D.nx) (fun x => D.ex x env)) (fun x => D.ex x env)
section
variable {X : Cx} {R : RT} {P : List Nat} {i : Nat} {o e : Expr} {es : List Expr} {pd : TPd} {ta : TAd} {name : Str} {apos cpos pos : Pos} {T id : String} {g : GM}
/-- the call of such a method, within a statement -/
theorem mt_core {W : WX} {r : V → List V → Hp → VK → Prop} {to : TE} {tt : TA} (b0 : ∀ F H w dp A, Same F H → Rep X.K R F H w dp A → tyD dp = some T → fz dp = false → tyV X.K T w H)
    (br : ∀ (F H : Hp) (w : V) (dp : D) (A : List Addr) (vs : List V) (ds : List D) (B : List Addr) (Q : VK) (Qd : D → D → Prop),
      Same F H → Rep X.K R F H w dp A → A.Nodup → RepL X.K R F H vs ds B → B.Nodup → (∀ a ∈ B, a ∉ A) → g dp ds Qd →
      (∀ H' vr dr dp' A' Br, (∀ b, b ∉ A → H' b = H b) → (∀ b ∈ A, ∃ o, H' b = some o) → Same F H' → Rep X.K R F H' w dp' A' → Rep X.K R F H' vr dr Br → (A' ++ Br).Nodup → (∀ b ∈ A' ++ Br, b ∈ A ∨ b ∈ B) → Qd dr dp' → Q vr H') → r w vs H Q)
    (h1 : LP X.K R W i to pd) (h2 : LA X.K R W tt ta) {C : Ba} {F H : Hp} {σ : L2.St} {env : Sl} {As : Nat → List Addr} {Q : VK} {Ed : EX → Prop} {Qd : D → D → List Nat → D → Prop} (ok : Ok X.K R C F H σ env As)
    (h : pd env (fun p => atP i env p fun _ d0 => (tyD d0 = some T ∧ fz d0 = false) ∧ ta env (fun ds => atP i env p fun d dp => g dp ds fun dr dp' => Qd d dr p dp') Ed) Ed)
    (q : ∀ F' H' As' p d dr dp' vr Br, Ok X.K R C F' H' σ (env.set i (some (setP p d dp'))) As' → Rep X.K R F' H' vr dr Br → Own C As' Br → Qd d dr p dp' → Q vr H') (x : ExW X.K R W F H σ Ed) :
    tBM X.K T r to tt σ H Q := by
  refine h1 F H σ env As _ _ Ed ok.fh ok.er h (fun F1 H1 v w p d dp g1 ev ee hg wk hq => ?_) x
  have ok1 := ok.grow g1
  have hq := atP_of hq ee hg
  obtain ⟨⟨ht, hf⟩, hq⟩ := hq
  obtain ⟨Ap1, rp1, _⟩ := ok1.mutP ee ev hg wk
  refine ⟨b0 F1 H1 w dp Ap1 ok1.fh rp1 ht hf, h2 F1 H1 σ env As _ _ Ed ok1.fh ok1.er hq (fun F2 H2 vs ds B g2 r2 f2 hq => ?_) (x.grow g1)⟩
  have ok2 := ok1.grow g2
  have hq := atP_of hq ee hg
  obtain ⟨Ap, rp, sub, nAp, k⟩ := ok2.mutP ee ev hg (wk.grow g2.hh)
  have oB : Own C As B := ok1.own f2
  refine br F2 H2 w dp Ap vs ds B Q _ ok2.fh rp nAp r2 f2.1 (fun a ha hA => oB.2.2 i a ha (sub a hA)) hq fun H3 vr dr dp' A' Br e1 e2 e3 e4 e5 e6 e7 e8 => ?_
  obtain ⟨n1, n2, n3⟩ := List.nodup_append.mp e6
  obtain ⟨As', ok3, ss⟩ := k H3 dp' A' B oB e1 e2 e3 e4 n1 (fun b hb => e7 b (List.mem_append_left _ hb))
  refine q F2 H3 As' p d dr dp' vr Br ok3 e5 ⟨n2, fun a ha => ?_, fun j a ha hj => ?_⟩ e8
  · rcases e7 a (List.mem_append_right _ ha) with z | z
    · exact ok.ow i a (sub a z)
    · exact oB.2.1 a z
  · rcases ss j a hj with z | z
    · rcases e7 a (List.mem_append_right _ ha) with y | y
      · exact z.2 y
      · exact oB.2.2 j a y z.1
    · exact n3 a z a ha rfl
theorem ds_mS (hm : OpM X R T id g) (pa : PlainAttrs T) (slot : Slot T name id) (hty : typeOf (.builtin id) = pure (.type "method_descriptor")) (h1 : DP M X R i o pd) (h2 : DA M X R (e :: es) ta)
    (hbase : attributeBase o name X.env (eval o X.env) = eval o X.env := by rfl)
    (hfew : ((backTo cpos (starEach (e :: es) X.env)).all (fun x => !x.1) && (backToKw cpos (keywordEach [] X.env)).all (fun x => x.1.isSome)
      && decide ((e :: es).length + ([] : List Keyword).length + (if ([] : List Keyword).isEmpty then 0 else 1) < 30)) = true := by rfl)
    (hline : (apos.endLine == cpos.line) = true := by rfl) (hs : starEach (e :: es) X.env = (false, eval e X.env) :: starEach es X.env := by rfl) (hplain : (backTo cpos (starEach es X.env)).any (·.1) = false := by rfl)
    (hsw : swapsWith (.Call (.Attribute o name apos) (e :: es) [] cpos) none pos.line X.env = pure false := by rfl) : DS M X R P (.Expr (.Call (.Attribute o name apos) (e :: es) [] cpos) pos) (dMS i pd T g ta) := fun W tk => by
  obtain ⟨r, m1, m2, m3⟩ := hm
  obtain ⟨_, a1, a2⟩ := h1 W tk
  obtain ⟨_, b1, b2⟩ := h2 W tk
  exact ⟨_, ps_expr (pe_bm pa slot hty m1 a1 b1 hbase hfew hline hs hplain) hsw, fun C F H σ env As Dh Dd eP ok E h =>
    mt_core (Qd := fun d _ p dp' => Dd.nx (env.set i (some (setP p d dp')))) m2 m3 a2 b2 ok h (fun F' H' As' p d dr dp' vr Br ok' _ _ hq => E.nx F' H' σ _ As' ok' hq) (E.exw ok)⟩
theorem ds_mA {x : Str} {tp : Pos} {j : Nat} (hm : OpM X R T id g) (pa : PlainAttrs T) (slot : Slot T name id) (hty : typeOf (.builtin id) = pure (.type "method_descriptor")) (h1 : DP M X R i o pd) (h2 : DA M X R (e :: es) ta)
    (hN : X.N.Nodup) (hi : X.N[j]? = some x := by rfl) (hx : Loc X.env.scope x := by first | exact Or.inl rfl | exact Or.inr rfl) (hP : j ∉ P := by decide)
    (hbase : attributeBase o name X.env (eval o X.env) = eval o X.env := by rfl)
    (hfew : ((backTo cpos (starEach (e :: es) X.env)).all (fun x => !x.1) && (backToKw cpos (keywordEach [] X.env)).all (fun x => x.1.isSome)
      && decide ((e :: es).length + ([] : List Keyword).length + (if ([] : List Keyword).isEmpty then 0 else 1) < 30)) = true := by rfl)
    (hline : (apos.endLine == cpos.line) = true := by rfl) (hs : starEach (e :: es) X.env = (false, eval e X.env) :: starEach es X.env := by rfl) (hplain : (backTo cpos (starEach es X.env)).any (·.1) = false := by rfl)
    (hsw : swapsWith (.Call (.Attribute o name apos) (e :: es) [] cpos) (some (.Name x tp)) pos.line X.env = pure false := by rfl)
    (hf : X.fn x = true ∨ X.env.scope.names.lookup x = some .local := by first | exact .inl rfl | exact .inr rfl | assumption) :
    DS M X R P (.Assign [.Name x tp] (.Call (.Attribute o name apos) (e :: es) [] cpos) pos) (dMA i pd T g ta (gN j)) := fun W tk => by
  obtain ⟨r, m1, m2, m3⟩ := hm
  obtain ⟨_, a1, a2⟩ := h1 W tk
  obtain ⟨_, b1, b2⟩ := h2 W tk
  exact ⟨_, ps_set hN hi hx (pe_bm pa slot hty m1 a1 b1 hbase hfew hline hs hplain) hsw hf, fun C F H σ env As Dh Dd eP ok E h =>
    mt_core (Qd := fun d dr p dp' => Dd.nx ((env.set i (some (setP p d dp'))).set j (some dr))) m2 m3 a2 b2 ok h (fun F' H' As' p d dr dp' vr Br ok' r' o' hq => by
      obtain ⟨As2, ok2, _⟩ := ok'.set r' o' (by rw [eP]; exact hP)
      exact E.nx F' H' _ _ As2 ok2 hq) (E.exw ok)⟩
/-- .. without arguments -/
theorem ds_mS0 (hm : OpM X R T id g) (pa : PlainAttrs T) (slot : Slot T name id) (hty : typeOf (.builtin id) = pure (.type "method_descriptor")) (h1 : DP M X R i o pd)
    (hbase : attributeBase o name X.env (eval o X.env) = eval o X.env := by rfl) (hline : (apos.endLine == cpos.line) = true := by rfl)
    (hsw : swapsWith (.Call (.Attribute o name apos) [] [] cpos) none pos.line X.env = pure false := by rfl) : DS M X R P (.Expr (.Call (.Attribute o name apos) [] [] cpos) pos) (dMS i pd T g dNil) := fun W tk => by
  obtain ⟨r, m1, m2, m3⟩ := hm
  obtain ⟨_, a1, a2⟩ := h1 W tk
  exact ⟨_, ps_expr (pe_bm0 pa slot hty m1 a1 hbase hline) hsw, fun C F H σ env As Dh Dd eP ok E h =>
    mt_core (tt := tNil) (ta := dNil) (Qd := fun d _ p dp' => Dd.nx (env.set i (some (setP p d dp')))) m2 m3 a2 la_nil ok h (fun F' H' As' p d dr dp' vr Br ok' _ _ hq => E.nx F' H' σ _ As' ok' hq) (E.exw ok)⟩
end
end DL

set_option Elab.async false
set_option linter.all false
set_option maxRecDepth 100000
set_option maxHeartbeats 1000000
namespace DL
open PySem PySem.Spec L2
variable {M : Bool}

def appM : GM
  | .nd (.lst true) xs, [y], Q => xs.length < 1000000 ∧ Q .non (.nd (.lst true) (xs ++ [y]))
  | _, _, _ => False
def extM : GM
  | .nd (.lst true) xs, [.nd (.lst o) ys], Q => xs.length + ys.length ≤ 1000000 ∧ stb (.lst o) ys = true ∧ Q .non (.nd (.lst true) (xs ++ ys))
  | _, _, _ => False
def insM : GM
  | .nd (.lst true) xs, [.sc (.int z), y], Q => xs.length < 1000000 ∧ 0 ≤ z ∧ z < 2 ^ 63 ∧ Q .non (.nd (.lst true) (xs.take z.toNat ++ y :: xs.drop z.toNat))
  | _, _, _ => False
def popM : GM
  | .nd (.lst true) xs, [.sc (.int z)], Q => ∃ j y, xs.length ≤ 1000000 ∧ ixN xs.length z = some j ∧ xs[j]? = some y ∧ Q y (.nd (.lst true) (xs.eraseIdx j))
  | _, _, _ => False
def revM : GM
  | .nd (.lst true) xs, [], Q => Q .non (.nd (.lst true) xs.reverse)
  | _, _, _ => False
def clrM : GM
  | .nd (.lst true) _, [], Q => Q .non (.nd (.lst true) [])
  | _, _, _ => False
section
variable {X : Cx} {R : RT}
theorem lst_own {K : PySem.W.Frag} {F H : Hp} {w : V} {xs : List D} {A : List Addr} (r : Rep K R F H w (.nd (.lst true) xs) A) : ∃ a vs A', w = .ref a ∧ A = a :: A' ∧ H a = some (.lst vs) ∧ F a = none ∧ RepL K R F H vs xs A' := by
  cases r with
  | fz h1 h2 h3 => exact absurd h1.1 (by decide)
  | ow h1 h2 h3 => exact ⟨_, _, _, rfl, rfl, h1.2, h2, h3⟩
theorem ty_lst {F H : Hp} {w : V} {dp : D} {A : List Addr} (s : Same F H) (r : Rep X.K R F H w dp A) (h : tyD dp = some "list") (hf : fz dp = false) : tyV X.K "list" w H := by
  cases dp with
  | sc x => cases x <;> simp [tyD] at h
  | nd k ds =>
    cases k with
    | lst o =>
      obtain ⟨a, vs, B', rfl, _, e, _⟩ := lst_at r s
      exact .inl ⟨rfl, vs, SqL.of e⟩
    | scr => simp [tyD] at h
    | tup => simp [tyD] at h
    | dct o ks => simp [tyD] at h
    | dcT o ks => simp [tyD] at h
    | ins o c => simp [tyD] at h
/-- a list of one's own gets other items -/
theorem relist {F H : Hp} {a : Addr} {A B C : List Addr} {vs ws : List V} {xs ys : List D} (s : Same F H) (hF : F a = none) (nA : (a :: A).Nodup) (ra : RepL X.K R F H vs xs C) (sub : ∀ b ∈ C, b ∈ A ∨ b ∈ B) (hB : ∀ b ∈ B, b ∉ a :: A) :
    Rep X.K R F (upd H a (.lst vs)) (.ref a) (.nd (.lst true) xs) (a :: C) ∧ Same F (upd H a (.lst vs)) ∧ (∀ b, b ∉ a :: A → upd H a (.lst vs) b = H b) ∧ (∀ b, b ∈ a :: A → (∃ o, H b = some o) → ∃ o, upd H a (.lst vs) b = some o) ∧ a ∉ C := by
  have ha : a ∉ C := fun z => by
    rcases sub a z with y | y
    · exact (List.nodup_cons.mp nA).1 y
    · exact hB a y List.mem_cons_self
  have s' : Same F (upd H a (.lst vs)) := fun b o e => by
    rw [upd_ne (fun z => by rw [z, hF] at e; cases e)]
    exact s b o e
  refine ⟨.ow (k := .lst true) ⟨rfl, upd_same⟩ hF (ra.mono (.refl _) fun b hb => ⟨upd_ne (fun z => ha (z ▸ hb)), (ra.own b hb).2⟩), s', fun b hb => upd_ne (fun z => hb (by rw [z]; exact List.mem_cons_self)), fun b _ e => ?_, ha⟩
  by_cases z : b = a
  · subst z; exact ⟨_, upd_same⟩
  · rw [upd_ne z]; exact e
theorem appM_ok : OpM X R "list" "list.append" appM := by
  refine ⟨rAppend, mt_append, fun F H w dp A s r h hf => ty_lst s r h hf, fun F H w dp A vs ds B Q Qd s r nA ra nB dB hq q => ?_⟩
  unfold appM at hq
  split at hq
  · obtain ⟨a, us, A', rfl, rfl, ha, hF, rx⟩ := lst_own r
    obtain ⟨y, rfl, ry⟩ := repl1 ra
    obtain ⟨hl, hq⟩ := hq
    have rn : RepL X.K R F H (us ++ [y]) _ (A' ++ (B ++ [])) := rx.append (.cons ry .nil)
    rw [List.append_nil] at rn
    obtain ⟨k1, k2, k3, k4, k5⟩ := relist (X := X) (R := R) (A := A') (B := B) (vs := us ++ [y]) (ws := []) (ys := []) s hF nA rn (fun b hb => List.mem_append.mp hb) dB
    refine ⟨a, us, y, rfl, rfl, ha, ?_, q _ .non .non _ _ [] k3 (fun b hb => k4 b hb (r.own b hb).1) k2 k1 (.sc .non) ?_ ?_ hq⟩
    · rw [rx.length, sizeLine_eq]; omega
    · rw [List.append_nil]
      refine List.nodup_cons.mpr ⟨k5, List.nodup_append.mpr ⟨(List.nodup_cons.mp nA).2, nB, fun x hx y hy e => dB y hy (by rw [← e]; exact List.mem_cons_of_mem _ hx)⟩⟩
    · intro b hb
      rw [List.append_nil] at hb
      rcases List.mem_cons.mp hb with e | hb
      · exact .inl (by rw [e]; exact List.mem_cons_self)
      · exact (List.mem_append.mp hb).imp (List.mem_cons_of_mem _) id
  · exact hq.elim
theorem extM_ok : OpM X R "list" "list.extend" extM := by
  refine ⟨rExtend, mt_extend, fun F H w dp A s r h hf => ty_lst s r h hf, fun F H w dp A vs ds B Q Qd s r nA ra nB dB hq q => ?_⟩
  unfold extM at hq
  split at hq
  · obtain ⟨a, us, A', rfl, rfl, ha, hF, rx⟩ := lst_own r
    obtain ⟨y, rfl, ry⟩ := repl1 ra
    obtain ⟨hl, hst, hq⟩ := hq
    obtain ⟨b, ws, B', rfl, rb, hb, z⟩ := lst_at ry s
    have eB := z hst
    subst eB
    have rn : RepL X.K R F H (us ++ ws) _ (A' ++ []) := rx.append rb
    rw [List.append_nil] at rn
    obtain ⟨k1, k2, k3, k4, k5⟩ := relist (X := X) (R := R) (A := A') (B := []) (vs := us ++ ws) (ws := []) (ys := []) s hF nA rn (fun b hb => .inl hb) (fun _ z => by cases z)
    refine ⟨a, b, us, ws, rfl, rfl, ha, hb, ?_, q _ .non .non _ _ [] k3 (fun b hb => k4 b hb (r.own b hb).1) k2 k1 (.sc .non) ?_ ?_ hq⟩
    · rw [rx.length, rb.length, sizeLine_eq]; omega
    · rw [List.append_nil]; exact nA
    · intro b hb
      rw [List.append_nil] at hb
      exact .inl hb
  · exact hq.elim
theorem RepL.split {K : PySem.W.Frag} {F H : Hp} : ∀ (n : Nat) {vs : List V} {ds : List D} {A : List Addr}, RepL K R F H vs ds A → ∃ A1 A2, A = A1 ++ A2 ∧ RepL K R F H (vs.take n) (ds.take n) A1 ∧ RepL K R F H (vs.drop n) (ds.drop n) A2
  | 0, _, _, A, r => ⟨[], A, rfl, .nil, r⟩
  | n + 1, _, _, _, .nil => ⟨[], [], rfl, .nil, .nil⟩
  | n + 1, _, _, _, .cons a b => by
    obtain ⟨A1, A2, e, r1, r2⟩ := RepL.split n b
    exact ⟨_, A2, by rw [e, List.append_assoc], .cons a r1, r2⟩
theorem RepL.rev {K : PySem.W.Frag} {F H : Hp} : ∀ {vs : List V} {ds : List D} {A : List Addr}, RepL K R F H vs ds A → ∃ A', RepL K R F H vs.reverse ds.reverse A' ∧ A'.Perm A
  | _, _, _, .nil => ⟨[], .nil, .refl _⟩
  | _, _, _, .cons (A := A1) a b => by
    obtain ⟨A', r, p⟩ := RepL.rev b
    refine ⟨A' ++ (A1 ++ []), ?_, ?_⟩
    · rw [List.reverse_cons, List.reverse_cons]
      exact r.append (.cons a .nil)
    · rw [List.append_nil]
      exact List.perm_append_comm.trans (List.Perm.append_left _ p)
theorem insM_ok : OpM X R "list" "list.insert" insM := by
  refine ⟨_, mt_insert, fun F H w dp A s r h hf => ty_lst s r h hf, fun F H w dp A vs ds B Q Qd s r nA ra nB dB hq q => ?_⟩
  unfold insM at hq
  split at hq
  · obtain ⟨a, us, A', rfl, rfl, ha, hF, rx⟩ := lst_own r
    obtain ⟨hl, h0, h1, hq⟩ := hq
    rename_i xs z yd
    cases ra with
    | cons rz ra =>
      cases rz
      rename_i B0
      rw [List.nil_append] at nB dB q
      obtain ⟨y, rfl, ry⟩ := repl1 ra
      obtain ⟨A1, A2, eA, r1, r2⟩ := rx.split z.toNat
      have rn : RepL X.K R F H (us.take z.toNat ++ y :: us.drop z.toNat) (xs.take z.toNat ++ yd :: xs.drop z.toNat) (A1 ++ (B0 ++ A2)) := r1.append (.cons ry r2)
      have sub : ∀ b ∈ A1 ++ (B0 ++ A2), b ∈ A' ∨ b ∈ B0 := fun b hb => by
        rw [eA]
        rcases List.mem_append.mp hb with h | h
        · exact .inl (List.mem_append_left _ h)
        · rcases List.mem_append.mp h with h | h
          · exact .inr h
          · exact .inl (List.mem_append_right _ h)
      obtain ⟨k1, k2, k3, k4, k5⟩ := relist (X := X) (R := R) (A := A') (B := B0) (vs := us.take z.toNat ++ y :: us.drop z.toNat) (ws := []) (ys := []) s hF nA rn sub dB
      refine ⟨a, us, z, y, rfl, rfl, ha, ?_, h0, h1, ?_⟩
      · rw [rx.length, sizeLine_eq]; omega
      · rw [List.append_assoc]
        refine q _ .non .non _ _ [] k3 (fun b hb => k4 b hb (r.own b hb).1) k2 k1 (.sc .non) ?_ ?_ hq
        · rw [List.append_nil]
          refine List.nodup_cons.mpr ⟨k5, ?_⟩
          have n1 := (List.nodup_cons.mp nA).2
          rw [eA] at n1
          obtain ⟨m1, m2, m3⟩ := List.nodup_append.mp n1
          have inA : ∀ x, x ∈ A1 ++ A2 → x ∈ a :: A' := fun x hx => List.mem_cons_of_mem _ (by rw [eA]; exact hx)
          refine List.nodup_append.mpr ⟨m1, List.nodup_append.mpr ⟨nB, m2, fun x hx y hy e => ?_⟩, fun x hx y hy e => ?_⟩
          · exact dB x hx (by rw [e]; exact inA y (List.mem_append_right _ hy))
          · rcases List.mem_append.mp hy with hy | hy
            · exact dB y hy (by rw [← e]; exact inA x (List.mem_append_left _ hx))
            · exact m3 x hx y hy e
        · intro b hb
          rw [List.append_nil] at hb
          rcases List.mem_cons.mp hb with e | hb
          · exact .inl (by rw [e]; exact List.mem_cons_self)
          · exact (sub b hb).imp (List.mem_cons_of_mem _) id
  · exact hq.elim
theorem RepL.del {K : PySem.W.Frag} {F H : Hp} : ∀ {j : Nat} {vs : List V} {ds : List D} {A : List Addr} {d : D}, RepL K R F H vs ds A → ds[j]? = some d → ∃ v A1 Aj A2, vs[j]? = some v ∧ A = A1 ++ (Aj ++ A2) ∧ Rep K R F H v d Aj ∧ RepL K R F H (vs.eraseIdx j) (ds.eraseIdx j) (A1 ++ A2)
  | _, _, _, _, _, .nil, h => by simp at h
  | 0, _, _, _, d, .cons (A := A0) (B := B0) a b, h => by
    simp at h
    subst h
    exact ⟨_, [], A0, B0, rfl, rfl, a, b⟩
  | j + 1, _, _, _, d, .cons (A := A0) a b, h => by
    obtain ⟨v, A1, Aj, A2, e1, e2, e3, e4⟩ := RepL.del b (by simpa using h)
    refine ⟨v, A0 ++ A1, Aj, A2, by simpa using e1, by rw [e2, List.append_assoc], e3, ?_⟩
    rw [List.append_assoc]
    exact .cons a e4
theorem popM_ok : OpM X R "list" "list.pop" popM := by
  refine ⟨rPopAt, mt_popAt, fun F H w dp A s r h hf => ty_lst s r h hf, fun F H w dp A vs ds B Q Qd s r nA ra nB dB hq q => ?_⟩
  unfold popM at hq
  split at hq
  · obtain ⟨a, us, A', rfl, rfl, ha, hF, rx⟩ := lst_own r
    obtain ⟨zv, rfl, rz⟩ := repl1 ra
    cases rz
    obtain ⟨j, y, hl, hj, hy, hq⟩ := hq
    rename_i xs z
    obtain ⟨v, A1, Aj, A2, e1, eA, rv, rr⟩ := rx.del hy
    obtain ⟨s1, s2, s3, s4⟩ := ixN_seq hj
    have sub : ∀ b ∈ A1 ++ A2, b ∈ A' ∨ b ∈ ([] : List Addr) := fun b hb => .inl (by
      rw [eA]
      rcases List.mem_append.mp hb with h | h
      · exact List.mem_append_left _ h
      · exact List.mem_append_right _ (List.mem_append_right _ h))
    obtain ⟨k1, k2, k3, k4, k5⟩ := relist (X := X) (R := R) (A := A') (B := []) (vs := us.eraseIdx j) (ws := []) (ys := []) s hF nA rr sub (fun _ z => by cases z)
    have n1 := (List.nodup_cons.mp nA).2
    have na := (List.nodup_cons.mp nA).1
    rw [eA] at n1
    obtain ⟨m1, m2, m3⟩ := List.nodup_append.mp n1
    obtain ⟨m4, m5, m6⟩ := List.nodup_append.mp m2
    have rv' : Rep X.K R F (upd H a (.lst (us.eraseIdx j))) v y Aj := rv.mono (.refl _) fun b hb => ⟨upd_ne (fun e => na (by rw [eA, ← e]; exact List.mem_append_right _ (List.mem_append_left _ hb))), (rv.own b hb).2⟩
    refine ⟨a, us, z, j, v, rfl, rfl, ha, ?_, ?_, by rw [rx.length]; exact s1, e1, q _ v y _ _ Aj k3 (fun b hb => k4 b hb (r.own b hb).1) k2 k1 rv' ?_ ?_ hq⟩
    · omega
    · omega
    · show (a :: ((A1 ++ A2) ++ Aj)).Nodup
      refine List.nodup_cons.mpr ⟨fun h => ?_, ?_⟩
      · rcases List.mem_append.mp h with h | h
        · exact k5 h
        · exact na (by rw [eA]; exact List.mem_append_right _ (List.mem_append_left _ h))
      · refine List.nodup_append.mpr ⟨List.nodup_append.mpr ⟨m1, m5, fun x hx y hy e => m3 x hx y (List.mem_append_right _ hy) e⟩, m4, fun x hx y hy e => ?_⟩
        rcases List.mem_append.mp hx with hx | hx
        · exact m3 x hx y (List.mem_append_left _ hy) e
        · exact m6 y hy x hx e.symm
    · intro b hb
      left
      rcases List.mem_append.mp hb with h | h
      · rcases List.mem_cons.mp h with h | h
        · rw [h]; exact List.mem_cons_self
        · rcases sub b h with z | z
          · exact List.mem_cons_of_mem _ z
          · cases z
      · exact List.mem_cons_of_mem _ (by rw [eA]; exact List.mem_append_right _ (List.mem_append_left _ h))
  · exact hq.elim
theorem repl0 {K : PySem.W.Frag} {F H : Hp} {vs : List V} {A : List Addr} (r : RepL K R F H vs [] A) : vs = [] ∧ A = [] := by
  cases r
  exact ⟨rfl, rfl⟩
theorem revM_ok : OpM X R "list" "list.reverse" revM := by
  refine ⟨_, mt_reverse, fun F H w dp A s r h hf => ty_lst s r h hf, fun F H w dp A vs ds B Q Qd s r nA ra nB dB hq q => ?_⟩
  unfold revM at hq
  split at hq
  · obtain ⟨a, us, A', rfl, rfl, ha, hF, rx⟩ := lst_own r
    obtain ⟨rfl, rfl⟩ := repl0 ra
    obtain ⟨A2, rr, pm⟩ := rx.rev
    have sub : ∀ b ∈ A2, b ∈ A' ∨ b ∈ ([] : List Addr) := fun b hb => .inl (pm.mem_iff.mp hb)
    obtain ⟨k1, k2, k3, k4, k5⟩ := relist (X := X) (R := R) (A := A') (B := []) (vs := us.reverse) (ws := []) (ys := []) s hF nA rr sub (fun _ z => by cases z)
    refine ⟨a, us, rfl, rfl, ha, q _ .non .non _ _ [] k3 (fun b hb => k4 b hb (r.own b hb).1) k2 k1 (.sc .non) ?_ ?_ hq⟩
    · rw [List.append_nil]
      exact List.nodup_cons.mpr ⟨k5, pm.nodup_iff.mpr (List.nodup_cons.mp nA).2⟩
    · intro b hb
      rw [List.append_nil] at hb
      rcases List.mem_cons.mp hb with e | hb
      · exact .inl (by rw [e]; exact List.mem_cons_self)
      · exact (sub b hb).imp (List.mem_cons_of_mem _) id
  · exact hq.elim
theorem clrM_ok : OpM X R "list" "list.clear" clrM := by
  refine ⟨_, mt_clear, fun F H w dp A s r h hf => ty_lst s r h hf, fun F H w dp A vs ds B Q Qd s r nA ra nB dB hq q => ?_⟩
  unfold clrM at hq
  split at hq
  · obtain ⟨a, us, A', rfl, rfl, ha, hF, rx⟩ := lst_own r
    obtain ⟨rfl, rfl⟩ := repl0 ra
    obtain ⟨k1, k2, k3, k4, k5⟩ := relist (X := X) (R := R) (A := A') (B := []) (vs := []) (ws := []) (ys := []) (xs := []) (C := []) s hF nA .nil (fun _ z => by cases z) (fun _ z => by cases z)
    refine ⟨a, us, rfl, rfl, ha, q _ .non .non _ _ [] k3 (fun b hb => k4 b hb (r.own b hb).1) k2 k1 (.sc .non) ?_ ?_ hq⟩
    · rw [List.append_nil]
      exact List.nodup_cons.mpr ⟨List.not_mem_nil, List.nodup_nil⟩
    · intro b hb
      rw [List.append_nil] at hb
      rcases List.mem_cons.mp hb with e | hb
      · exact .inl (by rw [e]; exact List.mem_cons_self)
      · cases hb
  · exact hq.elim
end
end DL

set_option Elab.async false
set_option linter.all false
set_option maxRecDepth 100000
set_option maxHeartbeats 1000000
namespace DL
open PySem PySem.Spec L2
open PyProof.Rows (envOfC)
variable {M : Bool}

/-! ## defs -/
def pad (m : Nat) (ds : List D) : Sl := ds.map some ++ List.replicate m none
abbrev SPD := List D → (D → Sl → Prop) → (EX → Sl → Prop) → Prop
/-- what a body does from its arguments on; the slots at the end are told too: what is changed in place stands there -/
def spB (m : Nat) (b : TSd) : SPD := fun ds Qd Ed => b { nx := fun env => Qd .non env, rt := Qd, ex := Ed } (pad m ds)
def toSp (K : PySem.W.Frag) (R : RT) (P : List Nat) (n : Nat) (sp : SPD) : Sp := fun vs H Q E => ∃ (F : Hp) (ds : List D) (As : Nat → List Addr) (Qd : D → Sl → Prop) (Ed : EX → Sl → Prop),
  vs.length = n ∧ Same F H ∧ EnvR K R F H (vs.map some) (ds.map some) As ∧ (∀ i, i ∉ P → As i = []) ∧ sp ds Qd Ed ∧
  (∀ F' H' σ' env' As' v d B, Ok K R ⟨H, F, fun a => ∃ i, a ∈ As i, vs.map some, P⟩ F' H' σ' env' As' → Rep K R F' H' v d B → Own ⟨H, F, fun a => ∃ i, a ∈ As i, vs.map some, P⟩ As' B → Qd d env' → Q v H') ∧
  (∀ F' H' σ' env' As' cls dx x, Ok K R ⟨H, F, fun a => ∃ i, a ∈ As i, vs.map some, P⟩ F' H' σ' env' As' → RepX K R F' cls dx x → Ed x env' → E cls dx H')
section
variable {K : PySem.W.Frag} {R : RT} {F H : Hp}
theorem EnvR.pad {vs : List V} {ds : List D} {As : Nat → List Addr} (h : EnvR K R F H (vs.map some) (ds.map some) As) (m : Nat) : EnvR K R F H (vs.map some ++ List.replicate m none) (pad m ds) As := by
  have hl : vs.length = ds.length := by simpa using h.len
  have out : ∀ {i : Nat} {d : D}, (DL.pad m ds)[i]? = some (some d) → (ds.map some)[i]? = some (some d) := fun {i d} e => by
    unfold DL.pad at e
    by_cases hi : i < (ds.map some).length
    · rwa [List.getElem?_append_left hi] at e
    · rw [List.getElem?_append_right (by omega)] at e
      have := List.mem_of_getElem? e
      rw [List.mem_replicate] at this
      cases this.2
  refine ⟨by simp [DL.pad, hl], fun i d e => ?_, fun i hi => h.emp i fun d e => hi d ?_, h.dis, h.nod⟩
  · obtain ⟨v, e1, r⟩ := h.val i d (out e)
    refine ⟨v, ?_, r⟩
    rw [List.getElem?_append_left (List.getElem?_eq_some_iff.mp e1).1]
    exact e1
  · unfold DL.pad
    rw [List.getElem?_append_left (List.getElem?_eq_some_iff.mp e).1]
    exact e
theorem EnvR.args {vs : List V} {ds : List D} (h : RepL K R F H vs ds []) : EnvR K R F H (vs.map some) (ds.map some) (fun _ => []) := by
  refine ⟨by simp [h.length], fun i d e => ?_, fun _ _ => rfl, fun _ _ _ _ z => (by cases z), fun _ => List.nodup_nil⟩
  rw [List.getElem?_map] at e
  cases hd : ds[i]? with
  | none => rw [hd] at e; cases e
  | some d' =>
    rw [hd] at e
    cases e
    obtain ⟨v, B, hv, r, sl⟩ := h.get hd
    have eB : B = [] := List.sublist_nil.mp sl
    subst eB
    exact ⟨v, by rw [List.getElem?_map, hv]; rfl, r⟩
theorem Ok.pinned {C : Ba} {F' H' : Hp} {σ : L2.St} {env : Sl} {As : Nat → List Addr} {σ0 : L2.St} (h : Ok K R C F' H' σ env As) (e : ∀ i ∈ C.P, C.σ0[i]? = σ0[i]?) : Ok K R ⟨C.H0, C.F0, C.A0, σ0, C.P⟩ F' H' σ env As :=
  ⟨h.er, h.fh, h.kp, h.tr, h.kf, h.fr, h.ow, fun i hi => (h.pin i hi).trans (e i hi)⟩
theorem Ok.init {vs : List V} {ds : List D} {As : Nat → List Addr} {m : Nat} {P : List Nat} (s : Same F H) (h : EnvR K R F H (vs.map some) (ds.map some) As) : Ok K R ⟨H, F, fun a => ∃ i, a ∈ As i, vs.map some ++ List.replicate m none, P⟩ F H (vs.map some ++ List.replicate m none) (pad m ds) As :=
  ⟨h.pad m, s, fun _ _ e _ => e, fun a o e => ⟨o, e⟩, .refl _, fun _ _ _ _ => rfl, fun i a ha => .inl ⟨i, ha⟩, fun _ _ => rfl⟩
end
theorem okXm {M : Bool} {P : Program} {w : World} {K : PySem.W.Frag} {mg : Str → Option Value} {base : Heap} {x qual : Str} {st : Stmt} {f : Addr} {fd : FuncData} {N ps : List Str} {k : Nat} {sp : Sp} (F : Fun K x qual st f fd) (S : FnScope N ps (defScope st)) (len : ∀ vs H Q E, sp vs H Q E → vs.length = ps.length)
    (hb : ∀ (cdv : Value) (A : Around) (outer : List Env) (s : Shared) (H : Hp) (vs : List V) (Q : VK) (E : XK), Room k (A.deeper (envOfC qual (defScope st) s.heap.objs.size f cdv)) → sp vs H Q E →
      ∃ t, PSs (cxOf (CXm M P w) P w K mg base N qual (defScope st) f cdv A outer s H E) (defBody st) t ∧ t { nx := fun _ H' => Q .non H', rt := Q } (L2.start N vs) H) : FnOk P w K mg base (CXm M P w) (k + 1) f fd ps sp := by
  obtain ⟨oc, od, kV, doc, pm, an, cdv, ct, osl, rfl, lk, hcd⟩ := F.ex
  exact fn_of lk hcd S len fun A outer s H vs Q E hr hsp => hb cdv A outer s H vs Q E hr hsp
theorem takesM {M : Bool} {P : Program} {w : World} {K : PySem.W.Frag} {mg : Str → Option Value} {base : Heap} {N : List Str} {qual : Str} {scope : Scope} {f : Addr} {cd : Value} {A : Around} {outer : List Env} {s : Shared} {H : Hp} {E : XK} :
    Tk M (cxOf (CXm M P w) P w K mg base N qual scope f cd A outer s H E) (fun cls d _ H => E cls d H) := by
  cases M with
  | false => exact L2.takes_of rfl rfl rfl rfl
  | true => exact L2N.takes_of rfl rfl rfl rfl
theorem passM {M : Bool} {X : Cx} {W : WX} (tk : Tk M X W) (σ : L2.St) : PassesAt (CXm M X.prog X.w) X σ (WE W σ) := by
  cases M with
  | false => exact passAt tk σ
  | true => exact fun _ _ _ e s' I c => tk e s' (L2N.XE.of_call I (fun _ _ _ h => h) c)
/-- told of all that is made where nothing is handled, so told of less too -/
theorem fn_zc {P : Program} {w : World} {K : PySem.W.Frag} {mg : Str → Option Value} {base : Heap} {k : Nat} {f : Addr} {fd : FuncData} {ps : List Str} {sp : Sp} (F : FnOk P w K mg base (CXm true P w) k f fd ps sp) : FnOk P w K mg base (CXm false P w) k f fd ps sp :=
  ⟨F.len, fun A outer s H args us vs Q E hr he hb hv hs => codeAny_mono (F.run A outer s H args us vs Q E hr he hb hv hs) fun r s' h => by
    cases r with
    | ok fl => cases fl <;> exact h
    | error e =>
      obtain ⟨a, B, H', cls, d, h1, h2, h3⟩ := h
      exact ⟨a, B, H', cls, d, h1, L2H.flyingZ_imp (fun _ z => L2N.Zn.zc z) h2, h3⟩⟩
theorem fn_d {Pg : Program} {w : World} {K : PySem.W.Frag} {mg : Str → Option Value} {base : Heap} {R : RT} {Pm : List Nat} {m : Nat} {b : TSd} {x qual : Str} {st : Stmt} {f : Addr} {fd : FuncData} {N ps : List Str} {k : Nat} (F : Fun K x qual st f fd) (S : FnScope N ps (defScope st))
    (hm : N.length - ps.length = m) (hP : ∀ i ∈ Pm, i < ps.length)
    (h : ∀ (cdv : Value) (A : Around) (outer : List Env) (s : Shared) (H : Hp) (E : XK), Room k (A.deeper (envOfC qual (defScope st) s.heap.objs.size f cdv)) → DSs M (cxOf (CXm M Pg w) Pg w K mg base N qual (defScope st) f cdv A outer s H E) R Pm (defBody st) b) :
    FnOk Pg w K mg base (CXm M Pg w) (k + 1) f fd ps (toSp K R Pm ps.length (spB m b)) := by
  refine okXm F S (fun vs H Q E h => ?_) (fun cdv A outer s H vs Q E hr h0 => ?_)
  · obtain ⟨F, ds, As, Qd, Ed, hl, _⟩ := h
    exact hl
  · obtain ⟨F, ds, As, Qd, Ed, hl, sf, er, emp, hsp, k1, k2⟩ := h0
    obtain ⟨ts, h1, h2⟩ := h cdv A outer s H E hr (fun cls d _ H => E cls d H) takesM
    have em : N.length - vs.length = m := by rw [hl]; exact hm
    have pn : ∀ i ∈ Pm, (vs.map some ++ List.replicate m none : L2.St)[i]? = (vs.map some)[i]? := fun i hi => List.getElem?_append_left (by rw [List.length_map, hl]; exact hP i hi)
    refine ⟨ts, h1, ?_⟩
    have est : L2.start N vs = vs.map some ++ List.replicate m none := by unfold L2.start; rw [em]
    rw [est]
    refine h2 ⟨H, F, fun a => ∃ i, a ∈ As i, vs.map some ++ List.replicate m none, Pm⟩ F H _ (pad m ds) As _ { nx := fun env => Qd .non env, rt := Qd, ex := Ed } rfl (Ok.init sf er) ?_ hsp
    refine ⟨fun F1 H1 σ1 env1 As1 ok q => k1 F1 H1 σ1 env1 As1 _ _ [] (ok.pinned pn) (.sc .non) .nil q, fun F1 H1 σ1 env1 As1 v d B ok r o q => k1 F1 H1 σ1 env1 As1 v d B (ok.pinned pn) r o q, fun _ _ _ _ _ _ q => q.elim, fun _ _ _ _ _ _ q => q.elim,
      fun F1 H1 σ1 env1 As1 cls dx x ok r q => k2 F1 H1 σ1 env1 As1 cls dx x (ok.pinned pn) r q⟩

/-! ## calls -/
section
variable {X : Cx} {CX : CXT} {k : Nat} {f C : Addr} {fd : FuncData} {ps : List Str} {sp : Sp} {E : St → XK} {x m : Str} {p pos apos : Pos} {e o : Expr} {es : List Expr} {ta : TE} {t : TA} {dvs : List V} {dds : List Value}
theorem run_fnD {pins : List (Addr × Obj)} {σ : St} {H : Hp} {s : Shared} {Q : VK} {us : List Value} {vs : List V} (F : FnOk X.prog X.w X.K X.mg X.base CX k f fd ps sp) (hr : Room k X.A) (hb : Binds X.K fd ps dds) (hd : Vals dvs dds) (hx : PassesAt CX X σ (E σ))
    (I : Inv X pins σ H s) (r : Vals vs us) (h : sp (vs ++ dvs) H Q (E σ)) : wpAny (model X.prog X.w) X.A (call (.ref f) us) (EP X pins σ Q) X.xe s := by
  have r2 : Vals (vs ++ dvs) (us ++ dds) := r.append hd
  have hl : (us ++ dds).length = ps.length := by rw [← r2.length]; exact F.len _ _ _ _ h
  refine wpAny_call (codeAny_mono (F.run X.A X.stack s H ⟨us, []⟩ (us ++ dds) (vs ++ dvs) Q (E σ) hr I.env0 (hb s us I.kIn hl) r2 h) fun r s' hq => ?_)
  cases r with
  | error e => exact hx pins H s e s' I hq
  | ok fl =>
    cases fl with
    | ret u => exact I.after hq
    | next => exact False.elim hq
    | brk => exact False.elim hq
    | cont => exact False.elim hq
def tCallD (sp : Sp) (dvs : List V) (E : St → XK) (t : TA) : TE := fun σ H Q => t σ H fun vs H1 => sp (vs ++ dvs) H1 Q (E σ)
theorem pe_callD (F : FnOk X.prog X.w X.K X.mg X.base CX k f fd ps sp) (hr : Room k X.A) (hg : Gl X x) (hm : X.mg x = some (.ref f)) (hk : PySem.W.keepIn X.K (.ref f) = true) (hb : Binds X.K fd ps dds) (hd : Vals dvs dds) (hx : ∀ σ, PassesAt CX X σ (E σ))
    (ha : PA X (e :: es) t) (hdb : (x == ("__debug__" : Str)) = false := by decide) (he : starEach (e :: es) X.env = (false, eval e X.env) :: starEach es X.env := by rfl) (hpl : (backTo pos (starEach es X.env)).any (·.1) = false := by rfl) :
    PE X (.Call (.Name x p) (e :: es) [] pos) (tCallD sp dvs E t) := by
  refine ⟨fun pins s σ H Q I h => ?_⟩
  refine wpAny_Call_Name_kw (ld_glob I hg hm ?_ hdb)
  refine PySem.W.callWith_K (h₀ := X.base) I.ok.mod.kin hk (thn (ha.run pos pins s σ H _ I h) fun us s1 ⟨vs, H1, I1, r, q⟩ => ⟨I1.kIn, ?_⟩) he hpl
  exact run_fnD F hr hb hd (hx σ) I1 r q
end
mutual
def noC : D → Bool
  | .sc _ => true
  | .nd k ds => !k.cold && noCL ds
def noCL : List D → Bool
  | [] => true
  | d :: r => noC d && noCL r
end
def isSc : D → Bool
  | .sc _ => true
  | _ => false
section
variable {K : PySem.W.Frag} {R : RT} {F F' H H' : Hp}
def flatO : HO → Prop
  | .tup _ => False
  | .xd _ => False
  | _ => True
mutual
theorem Rep.kinds {v : V} {d : D} {A : List Addr} (h : Rep K R F H v d A) : ∀ a ∈ A, ∃ o, H a = some o ∧ flatO o :=
  match h with
  | .sc s => fun _ z => by cases z
  | .fz h1 h2 h3 => RepL.kinds h2
  | .ow (k := k) h1 h2 h3 => fun a ha => by
    rcases List.mem_cons.mp ha with e | ha
    · rw [e]
      cases k with
      | lst o => exact ⟨_, h1.2, trivial⟩
      | scr => exact h1.elim
      | tup => exact h1.elim
      | dct o ks => exact ⟨_, h1.2.2, trivial⟩
      | dcT o ks => exact ⟨_, h1.2.2, trivial⟩
      | ins o c =>
        obtain ⟨_, _, dx, h4⟩ := h1
        exact ⟨_, h4, trivial⟩
    · exact RepL.kinds h3 a ha
theorem RepL.kinds {v : List V} {d : List D} {A : List Addr} (h : RepL K R F H v d A) : ∀ a ∈ A, ∃ o, H a = some o ∧ flatO o :=
  match h with
  | .nil => fun _ z => by cases z
  | .cons h1 h2 => fun a ha => (List.mem_append.mp ha).elim (Rep.kinds h1 a) (RepL.kinds h2 a)
end
mutual
theorem Rep.thaw {v : V} {d : D} {A : List Addr} (h : Rep K R F H v d A) : noC d = true → (∀ a vs, F a = some (.tup vs) → F' a = some (.tup vs)) → (∀ a, F a = none → F' a = none) → Rep K R F' H v d A := fun n g1 g2 =>
  match h with
  | .sc s => .sc s
  | .fz (k := k) h1 h2 h3 => by
    rw [noC, Bool.and_eq_true] at n
    have ek : k = .tup := (StF.cold h1).elim id fun z => by rw [z] at n; cases n.1
    subst ek
    refine .fz (k := .tup) ?_ (RepL.thaw h2 n.2 g1 g2) (h3.imp (fun z => ⟨rfl, g1 _ _ z.2⟩) id)
    rcases h1 with h1 | h1
    · exact .inl (g1 _ _ h1)
    · exact .inr h1
  | .ow h1 h2 h3 => by
    rw [noC, Bool.and_eq_true] at n
    exact .ow h1 (g2 _ h2) (RepL.thaw h3 n.2 g1 g2)
theorem RepL.thaw {v : List V} {d : List D} {A : List Addr} (h : RepL K R F H v d A) : noCL d = true → (∀ a vs, F a = some (.tup vs) → F' a = some (.tup vs)) → (∀ a, F a = none → F' a = none) → RepL K R F' H v d A := fun n g1 g2 =>
  match h with
  | .nil => .nil
  | .cons h1 h2 => by
    rw [noCL, Bool.and_eq_true] at n
    exact .cons (Rep.thaw h1 n.1 g1 g2) (RepL.thaw h2 n.2 g1 g2)
end
theorem RepL.scs : ∀ {vs : List V} {ds : List D} {A : List Addr}, RepL K R F H vs ds A → ds.all isSc = true → RepL K R F' H' vs ds A
  | _, _, _, .nil, _ => .nil
  | _, _, _, .cons a b, h => by
    rw [List.all_cons, Bool.and_eq_true] at h
    cases a with
    | sc s => exact .cons (.sc s) (RepL.scs b h.2)
    | fz _ _ _ => cases h.1
    | ow _ _ _ => cases h.1
/-- arguments that the callee may only look at -/
theorem lend {vs : List V} {ds : List D} {B : List Addr} (s : Same F H) (r : RepL K R F H vs ds B) :
    ∃ F', Same F F' ∧ Same F' H ∧ RepL K R F' H vs (frzL ds) [] ∧ (∀ a, a ∉ B → F' a = F a) ∧ ∀ a ∈ B, F' a = H a := by
  let F' : Hp := fun a => if a ∈ B then H a else F a
  have e1 : ∀ a ∈ B, F' a = H a := fun a h => if_pos h
  have e2 : ∀ a, a ∉ B → F' a = F a := fun a h => if_neg h
  have s1 : Same F F' := fun a o q => by
    by_cases h : a ∈ B
    · rw [e1 a h]; exact s a o q
    · rw [e2 a h]; exact q
  refine ⟨F', s1, fun a o q => ?_, r.frz s1 e1, e2, e1⟩
  by_cases h : a ∈ B
  · rwa [e1 a h] at q
  · rw [e2 a h] at q; exact s a o q
end
theorem EnvR.argsD {K : PySem.W.Frag} {R : RT} {F H : Hp} {vs : List V} {ds : List D} (h : RepL K R F H vs ds []) (xs : List Sc) : RepL K R F H (vs ++ xs.map encS) (ds ++ xs.map .sc) [] := by
  have : RepL K R F H (xs.map encS) (xs.map D.sc) [] := by
    induction xs with
    | nil => exact .nil
    | cons a r ih => exact RepL.cons (A := []) (B := []) (.sc a) ih
  exact h.append this
/-- f(..): what is handed over is given away -/
def dCall (n : Nat) (sp : SPD) (xs : List Sc) (ta : TAd) : TEd := fun env Q E => ta env (fun ds => ds.length + xs.length = n ∧ sp (frzL ds ++ xs.map .sc) (fun d _ => Q false d) (fun x _ => E x)) E
/-- f(..): what is handed over is looked at; what comes back holds nothing of it -/
def dCallL (n : Nat) (sp : SPD) (xs : List Sc) (ta : TAd) : TEd := fun env Q E => ta env (fun ds => ds.length + xs.length = n ∧ sp (frzL ds ++ xs.map .sc) (fun d _ => noC d = true ∧ Q false d) (fun x _ => x.args.all isSc = true ∧ E x)) E
section
variable {X : Cx} {R : RT} {k n : Nat} {f : Addr} {fd : FuncData} {ps : List Str} {sp : SPD} {x : Str} {p pos : Pos} {e : Expr} {es : List Expr} {ta : TAd} {dds : List Value}
theorem vals_sc {xs : List Sc} {ds : List Value} (h : Vals (xs.map encS) ds) : Vals (xs.map encS) ds := h
theorem de_call (F : FnOk X.prog X.w X.K X.mg X.base (CXm M X.prog X.w) k f fd ps (toSp X.K R [] n sp)) (hr : Room k X.A) (hm : X.mg x = some (.ref f)) (hk : PySem.W.keepIn X.K (.ref f) = true) {xs : List Sc} (hb : Binds X.K fd ps dds) (hd : Vals (xs.map encS) dds) (h : DA M X R (e :: es) ta)
    (hg : Gl X x := by rfl) (hdb : (x == ("__debug__" : Str)) = false := by decide) (he : starEach (e :: es) X.env = (false, eval e X.env) :: starEach es X.env := by rfl) (hpl : (backTo pos (starEach es X.env)).any (·.1) = false := by rfl) :
    DE M X R (.Call (.Name x p) (e :: es) [] pos) (dCall n sp xs ta) := fun W tk => by
  obtain ⟨_, a1, a2⟩ := h W tk
  refine ⟨_, pe_callD F hr hg hm hk hb hd (fun σ => passM tk σ) a1 hdb he hpl, fun F0 H0 σ env As Q Qd Ed s er h q x => ?_⟩
  refine a2 F0 H0 σ env As _ _ Ed s er h (fun F1 H1 vs ds B g r fr hq => ?_) x
  obtain ⟨hl, hq⟩ := hq
  obtain ⟨F', s1, s2, r', e2, e1⟩ := lend g.fh r
  have rr := EnvR.argsD r' xs
  have k1 : ∀ {F2 H2 σ2 env2 As2}, Ok X.K R ⟨H1, F', fun a => ∃ i, a ∈ (fun _ => ([] : List Addr)) i, (vs ++ xs.map encS).map some, []⟩ F2 H2 σ2 env2 As2 → Grow F0 H0 F2 H2 := fun {F2 H2 σ2 env2 As2} ok => by
    have na : ∀ a : Addr, ¬ ∃ i : Nat, a ∈ (fun _ : Nat => ([] : List Addr)) i := fun a ⟨i, z⟩ => by cases z
    refine ⟨g.hh.trans fun a o q => ok.kp a o q (na a), (g.ff.trans s1).trans ok.kf, ok.fh, fun a o q => ?_⟩
    have hb : a ∉ B := fun z => by rw [fr.2 a z] at q; cases q
    rw [ok.fr a o (g.hh a o q) (na a)]
    show F' a = F0 a
    rw [e2 a hb, g.nw a o q]
  refine ⟨F', _, fun _ => [], _, _, ?_, s2, EnvR.args rr, fun _ _ => rfl, hq, fun F2 H2 σ2 env2 As2 v d B2 ok r2 o2 q2 => ?_, fun F2 H2 σ2 env2 As2 cls dx xx ok rx qx => ?_⟩
  · rw [List.length_append, List.length_map, r.length]; exact hl
  · refine q F2 H2 v d B2 false (k1 ok) r2 (fun _ => ⟨o2.1, fun a ha => ?_⟩) q2
    rcases o2.2.1 a ha with ⟨i, z⟩ | z
    · cases z
    · exact g.free z
  · exact x F2 H2 cls dx xx (k1 ok) rx qx
theorem de_callL (F : FnOk X.prog X.w X.K X.mg X.base (CXm M X.prog X.w) k f fd ps (toSp X.K R [] n sp)) (hr : Room k X.A) (hm : X.mg x = some (.ref f)) (hk : PySem.W.keepIn X.K (.ref f) = true) {xs : List Sc} (hb : Binds X.K fd ps dds) (hd : Vals (xs.map encS) dds) (h : DB M X R (e :: es) ta)
    (hg : Gl X x := by rfl) (hdb : (x == ("__debug__" : Str)) = false := by decide) (he : starEach (e :: es) X.env = (false, eval e X.env) :: starEach es X.env := by rfl) (hpl : (backTo pos (starEach es X.env)).any (·.1) = false := by rfl) :
    DE M X R (.Call (.Name x p) (e :: es) [] pos) (dCallL n sp xs ta) := fun W tk => by
  obtain ⟨_, a1, a2⟩ := h W tk
  refine ⟨_, pe_callD F hr hg hm hk hb hd (fun σ => passM tk σ) a1 hdb he hpl, fun F0 H0 σ env As Q Qd Ed s er h q x => ?_⟩
  refine a2 F0 H0 σ env As _ _ Ed s er h (fun F1 H1 vs ds B g r hq => ?_) x
  obtain ⟨hl, hq⟩ := hq
  obtain ⟨F', s1, s2, r', e2, e1⟩ := lend g.fh r
  have rr := EnvR.argsD r' xs
  have na : ∀ a : Addr, ¬ ∃ i : Nat, a ∈ (fun _ : Nat => ([] : List Addr)) i := fun a ⟨i, z⟩ => by cases z
  have key : ∀ {F2 H2 σ2 env2 As2}, Ok X.K R ⟨H1, F', fun a => ∃ i, a ∈ (fun _ => ([] : List Addr)) i, (vs ++ xs.map encS).map some, []⟩ F2 H2 σ2 env2 As2 →
      ∃ F3, Grow F0 H0 F3 H2 ∧ (∀ a vs, F2 a = some (.tup vs) → F3 a = some (.tup vs)) ∧ (∀ a, F2 a = none → F3 a = none) ∧ ∀ a fs, F2 a = some (.xd fs) → F3 a = some (.xd fs) := fun {F2 H2 σ2 env2 As2} ok => by
    have at2 : ∀ a ∈ B, ∃ o, F2 a = some o ∧ flatO o := fun a ha => by
      obtain ⟨o, ho, hf⟩ := r.kinds a ha
      exact ⟨o, ok.kf a o (by show F' a = some o; rw [e1 a ha]; exact ho), hf⟩
    let F3 : Hp := fun a => if a ∈ B then F1 a else F2 a
    have f1 : ∀ a, a ∈ B → F3 a = none := fun a h => by show (if a ∈ B then F1 a else F2 a) = none; rw [if_pos h]; exact (r.own a h).2
    have f2 : ∀ a, a ∉ B → F3 a = F2 a := fun a h => if_neg h
    refine ⟨F3, g.trans ⟨fun a o q => ok.kp a o q (na a), fun a o q => ?_, fun a o q => ?_, fun a o q => ?_⟩, fun a vs q => ?_, fun a q => ?_, fun a fs q => ?_⟩
    · have hb : a ∉ B := fun z => by rw [(r.own a z).2] at q; cases q
      rw [f2 a hb]
      exact ok.kf a o (s1 a o q)
    · have hb : a ∉ B := fun z => by rw [f1 a z] at q; cases q
      rw [f2 a hb] at q
      exact ok.fh a o q
    · by_cases hb : a ∈ B
      · exact if_pos hb
      · rw [f2 a hb, ok.fr a o q (na a)]
        exact e2 a hb
    · have hb : a ∉ B := fun z => by
        obtain ⟨o, ho, hf⟩ := at2 a z
        rw [ho] at q
        cases q
        exact hf
      rw [f2 a hb]; exact q
    · by_cases hb : a ∈ B
      · exact f1 a hb
      · rw [f2 a hb]; exact q
    · have hb : a ∉ B := fun z => by
        obtain ⟨o, ho, hf⟩ := at2 a z
        rw [ho] at q
        cases q
        exact hf
      rw [f2 a hb]; exact q
  refine ⟨F', _, fun _ => [], _, _, ?_, s2, EnvR.args rr, fun _ _ => rfl, hq, fun F2 H2 σ2 env2 As2 v d B2 ok r2 o2 q2 => ?_, fun F2 H2 σ2 env2 As2 cls dx xx ok rx qx => ?_⟩
  · rw [List.length_append, List.length_map, r.length]; exact hl
  · obtain ⟨F3, g3, t1, t2, t3⟩ := key ok
    refine q F3 H2 v d B2 false g3 (r2.thaw q2.1 t1 t2) (fun _ => ⟨o2.1, fun a ha => ?_⟩) q2.2
    rcases o2.2.1 a ha with ⟨i, z⟩ | z
    · cases z
    · exact g.free z
  · obtain ⟨F3, g3, t1, t2, t3⟩ := key ok
    refine x F3 H2 cls dx xx g3 ⟨rx.1, ?_⟩ qx.2
    rcases rx.2 with z | ⟨d, vs, z1, z2, z3, z4⟩
    · exact .inl z
    · exact .inr ⟨d, vs, z1, z2, t3 _ _ z3, z4.scs qx.1⟩
end
end DL

set_option Elab.async false
set_option linter.all false
set_option maxRecDepth 100000
set_option maxHeartbeats 1000000
namespace DL
open PySem PySem.Spec L2
variable {M : Bool}

/-! ## stores -/
def putD : D → D → D → (D → Prop) → Prop
  | .nd (.lst true) xs, .sc (.int z), y, Q => ∃ j, ixN xs.length z = some j ∧ Q (.nd (.lst true) (xs.set j y))
  | .nd (.dct true ks) xs, .sc s, y, Q => ∃ k, keyS s = some k ∧ ks.length < 1000000 ∧ match posOf ks k with
    | some j => ks.Nodup ∧ Q (.nd (.dct true ks) (xs.set j y))
    | none => Q (.nd (.dct true (ks ++ [k])) (xs ++ [y]))
  | _, _, _, _ => False
/-- path[e] = v -/
def dSub (i : Nat) (pd : TPd) (te tv : TEd) : TSd := fun D env => tv env (fun b y => safe b y ∧ pd env (fun p => te env (fun _ e => atP i env p fun d dp => putD dp e y fun dp' => D.nx (env.set i (some (setP p d dp')))) (fun x => D.ex x env)) (fun x => D.ex x env)) (fun x => D.ex x env)
/-- path.f = v -/
def putFl (c j : Nat) : D → D → (D → Prop) → Prop
  | .nd (.ins true c') xs, y, Q => c' = c ∧ (j < xs.length ∧ Q (.nd (.ins true c) (xs.set j y)) ∨ (j = xs.length ∧ Q (.nd (.ins true c) (xs ++ [y]))))
  | _, _, _ => False
def dSfl (i : Nat) (pd : TPd) (c j : Nat) (tv : TEd) : TSd := fun D env => tv env (fun b y => safe b y ∧ pd env (fun p => atP i env p fun d dp => putFl c j dp y fun dp' => D.nx (env.set i (some (setP p d dp')))) (fun x => D.ex x env)) (fun x => D.ex x env)
section
variable {K : PySem.W.Frag} {R : RT} {F H : Hp}
theorem RepL.put : ∀ {vs : List V} {ds : List D} {A : List Addr} {j : Nat}, RepL K R F H vs ds A → j < ds.length → ∃ A1 Aj A2, A = A1 ++ (Aj ++ A2) ∧ ∀ v' d' B, Rep K R F H v' d' B → RepL K R F H (vs.set j v') (ds.set j d') (A1 ++ (B ++ A2))
  | _, _, _, _, .nil, h => by simp at h
  | _, _, _, 0, .cons (A := A0) (B := B0) a b, h => ⟨[], A0, B0, rfl, fun v' d' B r => RepL.cons (A := B) (B := B0) r b⟩
  | _, _, _, j + 1, .cons (A := A0) a b, h => by
    obtain ⟨A1, Aj, A2, e, k⟩ := RepL.put b (j := j) (by simpa using h)
    refine ⟨A0 ++ A1, Aj, A2, by rw [e, List.append_assoc], fun v' d' B r => ?_⟩
    rw [List.append_assoc]
    exact .cons a (k v' d' B r)
theorem renode {a : Addr} {A B C : List Addr} {vs : List V} {xs : List D} {k : Kind} {o : HO} (s : Same F H) (hF : F a = none) (nA : (a :: A).Nodup) (st : StO R (upd H a o) a k vs) (ra : RepL K R F H vs xs C) (sub : ∀ b ∈ C, b ∈ A ∨ b ∈ B) (hB : ∀ b ∈ B, b ∉ a :: A) :
    Rep K R F (upd H a o) (.ref a) (.nd k xs) (a :: C) ∧ Same F (upd H a o) ∧ (∀ b, b ∉ a :: A → upd H a o b = H b) ∧ (∀ b, b ∈ a :: A → (∃ o, H b = some o) → ∃ o', upd H a o b = some o') ∧ a ∉ C := by
  have ha : a ∉ C := fun z => by
    rcases sub a z with y | y
    · exact (List.nodup_cons.mp nA).1 y
    · exact hB a y List.mem_cons_self
  have s' : Same F (upd H a o) := fun b o e => by
    rw [upd_ne (fun z => by rw [z, hF] at e; cases e)]
    exact s b o e
  refine ⟨.ow st hF (ra.mono (.refl _) fun b hb => ⟨upd_ne (fun z => ha (z ▸ hb)), (ra.own b hb).2⟩), s', fun b hb => upd_ne (fun z => hb (by rw [z]; exact List.mem_cons_self)), fun b _ e => ?_, ha⟩
  by_cases z : b = a
  · subst z; exact ⟨_, upd_same⟩
  · rw [upd_ne z]; exact e
theorem dct_own {w : V} {ks : List DK} {xs : List D} {A : List Addr} (r : Rep K R F H w (.nd (.dct true ks) xs) A) : ∃ a vs A', w = .ref a ∧ A = a :: A' ∧ ks.length = vs.length ∧ H a = some (.dK (zipK ks vs)) ∧ F a = none ∧ RepL K R F H vs xs A' := by
  cases r with
  | fz h1 h2 h3 => exact absurd h1.1 (by decide)
  | ow h1 h2 h3 => exact ⟨_, _, _, rfl, rfl, h1.2.1, h1.2.2, h2, h3⟩
theorem ins_own {w : V} {c : Nat} {xs : List D} {A : List Addr} (r : Rep K R F H w (.nd (.ins true c) xs) A) : ∃ a dx vs A', w = .ref a ∧ A = a :: A' ∧ vs.length ≤ (R.lay c).length ∧ H a = some (.ins (R.cls c) dx ((R.lay c).zip vs)) ∧ F a = none ∧ RepL K R F H vs xs A' := by
  cases r with
  | fz h1 h2 h3 => exact absurd h1.1 (by decide)
  | ow h1 h2 h3 =>
    obtain ⟨_, h4, dx, h5⟩ := h1
    exact ⟨_, dx, _, _, rfl, rfl, h4, h5, h2, h3⟩
theorem valV_pos : ∀ {ks : List DK} {vs : List V} {k : DK}, ks.length = vs.length → (valV (zipK ks vs) (key k)).isSome = (posOf ks k).isSome
  | [], [], _, _ => rfl
  | a :: ks, v :: vs, k, hl => by
    have ih := valV_pos (ks := ks) (vs := vs) (k := k) (by simpa using hl)
    rw [posOf]
    by_cases e : a = k
    · rw [if_pos e, show zipK (a :: ks) (v :: vs) = (key a, v) :: zipK ks vs from rfl, L2.valV_pos (p := (key a, v)) (by rw [e])]; rfl
    · rw [if_neg e, show zipK (a :: ks) (v :: vs) = (key a, v) :: zipK ks vs from rfl, L2.valV_neg (p := (key a, v)) (fun z => e (key_inj z)), ih]
      cases posOf ks k <;> rfl
theorem putK_no {ks : List DK} {vs : List V} {k : DK} {v : V} (hl : ks.length = vs.length) (h : posOf ks k = none) : putK (zipK ks vs) (key k) v = zipK (ks ++ [k]) (vs ++ [v]) := by
  have e := valV_pos (k := k) hl
  rw [h] at e
  rw [putK_new v (Option.isNone_iff_eq_none.mp (by simpa using e))]
  unfold zipK
  rw [List.map_append, List.zip_append (by simpa using hl)]
  rfl
theorem map_no : ∀ {ks : List DK} {vs : List V} {k : DK} {v : V}, k ∉ ks → (zipK ks vs).map (fun kv => if kv.1 = key k then (kv.1, v) else kv) = zipK ks vs
  | [], _, _, _, _ => rfl
  | _ :: _, [], _, _, _ => by simp [zipK]
  | a :: ks, u :: vs, k, v, h => by
    have ne : a ≠ k := fun e => h (by rw [e]; exact List.mem_cons_self)
    rw [show zipK (a :: ks) (u :: vs) = (key a, u) :: zipK ks vs from rfl, List.map_cons, if_neg (fun z => ne (key_inj z)), map_no fun z => h (List.mem_cons_of_mem _ z)]
theorem posOf_none {κ : Type} [DecidableEq κ] : ∀ {ks : List κ} {k : κ}, posOf ks k = none ↔ k ∉ ks
  | [], k => by simp [posOf]
  | a :: ks, k => by
    rw [posOf]
    by_cases e : a = k
    · subst e; simp
    · rw [if_neg e]
      rw [Option.map_eq_none_iff, posOf_none]
      simp [Ne.symm e]
theorem putK_at : ∀ {ks : List DK} {vs : List V} {k : DK} {v : V} {j : Nat}, ks.Nodup → ks.length = vs.length → posOf ks k = some j → putK (zipK ks vs) (key k) v = zipK ks (vs.set j v) := by
  intro ks vs k v j nd hl h
  have e := valV_pos (k := k) hl
  rw [h] at e
  unfold putK
  rw [if_pos (by rw [valV_any]; simpa using e)]
  induction ks generalizing vs j with
  | nil => cases h
  | cons a ks ih =>
    cases vs with
    | nil => simp at hl
    | cons u vs =>
      rw [posOf] at h
      rw [show zipK (a :: ks) (u :: vs) = (key a, u) :: zipK ks vs from rfl, List.map_cons]
      obtain ⟨n1, n2⟩ := List.nodup_cons.mp nd
      by_cases ea : a = k
      · rw [if_pos ea] at h
        cases h
        rw [if_pos (show (key a, u).1 = key k from congrArg key ea), map_no (fun z => n1 (by rw [ea]; exact z))]
        rfl
      · rw [if_neg ea] at h
        cases hp : posOf ks k with
        | none => rw [hp] at h; cases h
        | some j' =>
          rw [hp] at h
          cases h
          have hl' : ks.length = vs.length := by simpa using hl
          have e' := valV_pos (k := k) hl'
          rw [hp] at e'
          rw [if_neg (show ¬ (key a, u).1 = key k from fun z => ea (key_inj z)), ih n2 hl' hp e']
          rfl
theorem putF_zip : ∀ {fs : List Str} {vs : List V} {j : Nat} {f : Str} {v : V}, fs.Nodup → fs[j]? = some f → j ≤ vs.length → vs.length ≤ fs.length → putF f v (fs.zip vs) = fs.zip (if j < vs.length then vs.set j v else vs ++ [v])
  | [], _, _, _, _, _, h, _, _ => by simp at h
  | g :: fs, [], j, f, v, nd, h, hj, _ => by
    have ej : j = 0 := by simpa using hj
    subst ej
    have eg : g = f := by simpa using h
    subst eg
    rw [if_neg (by simp)]
    simp [putF]
  | g :: fs, u :: vs, 0, f, v, nd, h, _, _ => by
    have eg : g = f := by simpa using h
    subst eg
    rw [if_pos (by simp)]
    show (if g = g then (g, v) :: fs.zip vs else _) = _
    rw [if_pos rfl]
    rfl
  | g :: fs, u :: vs, j + 1, f, v, nd, h, hj, hl => by
    obtain ⟨n1, n2⟩ := List.nodup_cons.mp nd
    have hm : f ∈ fs := List.mem_of_getElem? (by simpa using h)
    have ne : ¬ g = f := fun e => n1 (by rw [e]; exact hm)
    have ih := putF_zip (v := v) n2 (j := j) (vs := vs) (by simpa using h) (by simpa using hj) (by simpa using hl)
    show (if g = f then _ else (g, u) :: putF f v (fs.zip vs)) = _
    rw [if_neg ne, ih]
    by_cases hlt : j < vs.length
    · rw [if_pos hlt, if_pos (by simpa using hlt)]; rfl
    · rw [if_neg hlt, if_neg (by simpa using hlt)]; rfl
end
/-! ### the rules -/
section
variable {X : Cx} {R : RT} {P : List Nat} {i : Nat} {o e v : Expr} {pd : TPd} {te tv : TEd} {pos pos' : Pos}
theorem ps_subS {t : TSet} {to ti tw : TE} (ho : PE X o to) (hi : PE X e ti) (hv : PE X v tw) (ht : PSet X t) (hs : swapsWith v (some (.Subscript o e pos')) pos.line X.env = pure false) :
    PS X (.Assign [.Subscript o e pos'] v pos) (fun D σ H => tw σ H fun v H1 => to σ H1 fun x H2 => ti σ H2 fun y H3 => t x y v H3 fun H4 => D.nx σ H4) := by
  refine ⟨fun pins s σ H D I h => ?_⟩
  refine wpAny_Assign_Subscript (thn (hv.run pins s σ H _ I h) fun r s1 ⟨v, H1, I1, rv, q1⟩ => thn (ho.run pins s1 σ H1 _ I1 q1) fun u s2 ⟨x, H2, I2, rx, q2⟩ => thn (hi.run pins s2 σ H2 _ I2 q2) fun iv s3 ⟨y, H3, I3, ry, q3⟩ => ?_) hs
  exact thn (ht pins s3 σ H3 x y v u iv r _ I3 rx ry rv q3) fun _ s4 ⟨H4, I4, q4⟩ => ⟨σ, H4, I4, q4⟩
theorem PSet.or {t u : TSet} (h1 : PSet X t) (h2 : PSet X u) : PSet X (fun o i v H Q => t o i v H Q ∨ u o i v H Q) := by
  intro pins s σ H o i v ov iv uu Q I ro ri rv h
  exact h.elim (fun h => h1 pins s σ H o i v ov iv uu Q I ro ri rv h) (fun h => h2 pins s σ H o i v ov iv uu Q I ro ri rv h)
/-- the place that a path means becomes another node, at the same place -/
theorem st_core {W : WX} {tw to ti : TE} {t : TSet} {pu : D → D → D → (D → Prop) → Prop} (h1 : LE X.K R W tw tv) (h2 : LP X.K R W i to pd) (h3 : LE X.K R W ti te)
    (br : ∀ (F H : Hp) (w : V) (dp : D) (A : List Addr) (ve : V) (ed : D) (Be : List Addr) (vy : V) (y : D) (B : List Addr) (Q : Hp → Prop) (Qd : D → Prop),
      Same F H → Rep X.K R F H w dp A → A.Nodup → Rep X.K R F H ve ed Be → Rep X.K R F H vy y B → B.Nodup → (∀ a ∈ B, a ∉ A) → pu dp ed y Qd →
      (∀ H' dp' A', (∀ b, b ∉ A → H' b = H b) → (∀ b ∈ A, ∃ o, H' b = some o) → Same F H' → Rep X.K R F H' w dp' A' → A'.Nodup → (∀ b ∈ A', b ∈ A ∨ b ∈ B) → Qd dp' → Q H') → t w ve vy H Q) :
    LS X.K R W P (fun D σ H => tw σ H fun v H1 => to σ H1 fun x H2 => ti σ H2 fun y H3 => t x y v H3 fun H4 => D.nx σ H4)
      (fun D env => tv env (fun b y => safe b y ∧ pd env (fun p => te env (fun _ e => atP i env p fun d dp => pu dp e y fun dp' => D.nx (env.set i (some (setP p d dp')))) (fun x => D.ex x env)) (fun x => D.ex x env)) (fun x => D.ex x env)) := by
  intro C F H σ env As Dh Dd eP ok E h
  refine h1 F H σ env As _ _ _ ok.fh ok.er h (fun F1 H1 vy y B b g1 r1 f1 hq => ?_) (E.exw ok)
  have ok1 := ok.grow g1
  have fB := Fresh.of_safe r1 f1 hq.1
  refine h2 F1 H1 σ env As _ _ _ ok1.fh ok1.er hq.2 (fun F2 H2 v w p d dp g2 ev ee hg wk hq => ?_) (E.exw ok1)
  have ok2 := ok1.grow g2
  refine h3 F2 H2 σ env As _ _ _ ok2.fh ok2.er hq (fun F3 H3 ve ed Be b3 g3 r3 f3 hq => ?_) (E.exw ok2)
  have ok3 := ok2.grow g3
  have hq := atP_of hq ee hg
  have ry := (r1.grow g2).grow g3
  obtain ⟨Ap, rp, sub, nAp, k⟩ := ok3.mutP ee ev hg (wk.grow g3.hh)
  have oB : Own C As B := ok.own fB
  refine br F3 H3 w dp Ap ve ed Be vy y B _ _ ok3.fh rp nAp r3 ry oB.1 (fun a ha hA => oB.2.2 i a ha (sub a hA)) hq fun H4 dp' A' e1 e2 e3 e4 e5 e6 e7 => ?_
  obtain ⟨As', ok4, _⟩ := k H4 dp' A' B oB e1 e2 e3 e4 e5 e6
  exact E.nx F3 H4 σ _ As' ok4 e7
theorem nodup3 {A1 Aj A2 B : List Addr} (n : (A1 ++ (Aj ++ A2)).Nodup) (nB : B.Nodup) (d : ∀ b ∈ B, b ∉ A1 ++ (Aj ++ A2)) : (A1 ++ (B ++ A2)).Nodup := by
  obtain ⟨n1, n2, n3⟩ := List.nodup_append.mp n
  obtain ⟨n4, n5, n6⟩ := List.nodup_append.mp n2
  refine List.nodup_append.mpr ⟨n1, List.nodup_append.mpr ⟨nB, n5, fun x hx y hy e => d x hx (by rw [e]; exact List.mem_append_right _ (List.mem_append_right _ hy))⟩, fun x hx y hy e => ?_⟩
  rcases List.mem_append.mp hy with hy | hy
  · exact d y hy (by rw [← e]; exact List.mem_append_left _ hx)
  · exact n3 x hx y (List.mem_append_right _ hy) e
theorem mem3 {A1 Aj A2 B : List Addr} {b : Addr} (h : b ∈ A1 ++ (B ++ A2)) : b ∈ A1 ++ (Aj ++ A2) ∨ b ∈ B := by
  rcases List.mem_append.mp h with h | h
  · exact .inl (List.mem_append_left _ h)
  · rcases List.mem_append.mp h with h | h
    · exact .inr h
    · exact .inl (List.mem_append_right _ (List.mem_append_right _ h))
theorem ds_sub (hu : X.A.units + 1 < cLine) (h1 : DE M X R v tv) (h2 : DP M X R i o pd) (h3 : DE M X R e te) (hs : swapsWith v (some (.Subscript o e pos')) pos.line X.env = pure false := by rfl) :
    DS M X R P (.Assign [.Subscript o e pos'] v pos) (dSub i pd te tv) := fun W tk => by
  obtain ⟨_, a1, a2⟩ := h1 W tk
  obtain ⟨_, b1, b2⟩ := h2 W tk
  obtain ⟨_, c1, c2⟩ := h3 W tk
  refine ⟨_, ps_subS b1 c1 a1 (PSet.or set_list (set_dict hu)) hs, st_core (t := fun o i v H Q => rSetL o i v H Q ∨ rSetD o i v H Q) (pu := putD) a2 b2 c2 fun F H w dp A ve ed Be vy y B Q Qd s rp nA re ry nB dB hq q => ?_⟩
  unfold putD at hq
  split at hq
  · rename_i xs z
    cases re
    obtain ⟨j, hj, hq⟩ := hq
    obtain ⟨a, us, A', rfl, rfl, ha, hF, rx⟩ := lst_own rp
    obtain ⟨A1, Aj, A2, eA, kk⟩ := rx.put (ixN_lt hj)
    have rn := kk vy _ B ry
    obtain ⟨k1, k2, k3, k4, k5⟩ := renode (k := .lst true) (o := .lst (us.set j vy)) s hF nA ⟨rfl, upd_same⟩ rn (fun b hb => by rw [eA]; exact mem3 hb) dB
    refine .inl ⟨a, us, z, j, rfl, rfl, ha, by rw [rx.length]; exact hj, q _ _ _ k3 (fun b hb => k4 b hb (rp.own b hb).1) k2 k1 ?_ ?_ hq⟩
    · refine List.nodup_cons.mpr ⟨k5, nodup3 (by rw [← eA]; exact (List.nodup_cons.mp nA).2) nB fun b hb hA => dB b hb (by rw [eA]; exact List.mem_cons_of_mem _ hA)⟩
    · intro b hb
      rcases List.mem_cons.mp hb with e | hb
      · exact .inl (by rw [e]; exact List.mem_cons_self)
      · exact (mem3 hb).imp (fun z => List.mem_cons_of_mem _ (by rw [eA]; exact z)) id
  · rename_i ks xs sc
    cases re
    obtain ⟨kk, hk, hl, hq⟩ := hq
    obtain ⟨a, us, A', rfl, rfl, hlen, ha, hF, rx⟩ := dct_own rp
    have hz : (zipK ks us).length < sizeLine := by
      unfold zipK
      rw [List.length_zip, List.length_map, hlen, Nat.min_self, sizeLine_eq]
      omega
    split at hq
    · rename_i j hj
      obtain ⟨nd, hq⟩ := hq
      have hjl : j < xs.length := by
        have : ∀ {l : List DK} {k : DK} {j : Nat}, posOf l k = some j → j < l.length := by
          intro l
          induction l with
          | nil => intro k j h; cases h
          | cons a r ih =>
            intro k j h
            rw [posOf] at h
            by_cases e : a = k
            · rw [if_pos e] at h; cases h; simp
            · rw [if_neg e] at h
              cases hp : posOf r k with
              | none => rw [hp] at h; cases h
              | some j' => rw [hp] at h; cases h; have := ih hp; simp; omega
        rw [← rx.length, ← hlen]
        exact this hj
      obtain ⟨A1, Aj, A2, eA, pp⟩ := rx.put hjl
      have rn := pp vy _ B ry
      obtain ⟨k1, k2, k3, k4, k5⟩ := renode (k := .dct true ks) (o := .dK (zipK ks (us.set j vy))) s hF nA ⟨rfl, by rw [List.length_set]; exact hlen, upd_same⟩ rn (fun b hb => by rw [eA]; exact mem3 hb) dB
      refine .inr ⟨a, _, rfl, ?_, q _ _ _ k3 (fun b hb => k4 b hb (rp.own b hb).1) k2 k1 ?_ ?_ hq⟩
      · rw [keyS_enc hk, ← putK_at nd hlen hj]
        exact DPut.k ha hz
      · refine List.nodup_cons.mpr ⟨k5, nodup3 (by rw [← eA]; exact (List.nodup_cons.mp nA).2) nB fun b hb hA => dB b hb (by rw [eA]; exact List.mem_cons_of_mem _ hA)⟩
      · intro b hb
        rcases List.mem_cons.mp hb with e | hb
        · exact .inl (by rw [e]; exact List.mem_cons_self)
        · exact (mem3 hb).imp (fun z => List.mem_cons_of_mem _ (by rw [eA]; exact z)) id
    · rename_i hj
      have rn : RepL X.K R F H (us ++ [vy]) _ (A' ++ (B ++ [])) := rx.append (.cons ry .nil)
      rw [List.append_nil] at rn
      obtain ⟨k1, k2, k3, k4, k5⟩ := renode (k := .dct true (ks ++ [kk])) (o := .dK (zipK (ks ++ [kk]) (us ++ [vy]))) s hF nA ⟨rfl, by simp [hlen], upd_same⟩ rn (fun b hb => List.mem_append.mp hb) dB
      refine .inr ⟨a, _, rfl, ?_, q _ _ _ k3 (fun b hb => k4 b hb (rp.own b hb).1) k2 k1 ?_ ?_ hq⟩
      · rw [keyS_enc hk, ← putK_no hlen hj]
        exact DPut.k ha hz
      · refine List.nodup_cons.mpr ⟨k5, List.nodup_append.mpr ⟨(List.nodup_cons.mp nA).2, nB, fun x hx y hy e => dB y hy (by rw [← e]; exact List.mem_cons_of_mem _ hx)⟩⟩
      · intro b hb
        rcases List.mem_cons.mp hb with e | hb
        · exact .inl (by rw [e]; exact List.mem_cons_self)
        · exact (List.mem_append.mp hb).imp (List.mem_cons_of_mem _) id
  · exact hq.elim
end
end DL

set_option Elab.async false
set_option linter.all false
set_option maxRecDepth 100000
set_option maxHeartbeats 1000000
namespace DL
open PySem PySem.Spec L2
variable {M : Bool}

/-! ## path.f = v -/
section
variable {X : Cx} {R : RT} {P : List Nat} {i : Nat} {o e v : Expr} {pd : TPd} {te tv : TEd} {pos pos' : Pos}
theorem ds_sfl {c j : Nat} {f : Str} (hcl : ClsF X.K R c) (hj : (R.lay c)[j]? = some f) (h1 : DE M X R v tv) (h2 : DP M X R i o pd) (hs : swapsWith v (some (.Attribute o f pos')) pos.line X.env = pure false := by rfl) :
    DS M X R P (.Assign [.Attribute o f pos'] v pos) (dSfl i pd c j tv) := fun W tk => by
  obtain ⟨_, a1, a2⟩ := h1 W tk
  obtain ⟨_, b1, b2⟩ := h2 W tk
  refine ⟨_, ps_fld b1 a1 hs, ?_⟩
  intro C F H σ env As Dh Dd eP ok E h
  refine a2 F H σ env As _ _ _ ok.fh ok.er h (fun F1 H1 vy y B b g1 r1 f1 hq => ?_) (E.exw ok)
  have ok1 := ok.grow g1
  have fB := Fresh.of_safe r1 f1 hq.1
  refine b2 F1 H1 σ env As _ _ _ ok1.fh ok1.er hq.2 (fun F2 H2 v w p d dp g2 ev ee hg wk hq2 => ?_) (E.exw ok1)
  have ok2 := ok1.grow g2
  replace hq2 := atP_of hq2 ee hg
  clear hq
  have ry := r1.grow g2
  obtain ⟨Ap, rp, sub, nAp, k⟩ := ok2.mutP ee ev hg wk
  have oB : Own C As B := ok.own fB
  have dB : ∀ a ∈ B, a ∉ Ap := fun a ha hA => oB.2.2 i a ha (sub a hA)
  unfold putFl at hq2
  split at hq2
  · rename_i c' xs
    obtain ⟨rfl, hq⟩ := hq2
    obtain ⟨a, dx, us, A', rfl, rfl, hlen, ha, hF, rx⟩ := ins_own rp
    have hjl : j < (R.lay c').length := (List.getElem?_eq_some_iff.mp hj).1
    have hfew : ((R.lay c').zip us).length < 1000 := by
      rw [List.length_zip]
      have := hcl.few
      omega
    rcases hq with ⟨hlt, hq⟩ | ⟨rfl, hq⟩
    · obtain ⟨A1, Aj, A2, eA, pp⟩ := rx.put hlt
      have rn := pp vy _ B ry
      obtain ⟨k1, k2, k3, k4, k5⟩ := renode (k := .ins true c') (o := .ins (R.cls c') dx ((R.lay c').zip (us.set j vy))) ok2.fh hF nAp ⟨rfl, by rw [List.length_set]; exact hlen, dx, upd_same⟩ rn (fun b hb => by rw [eA]; exact mem3 hb) dB
      obtain ⟨As', ok4, _⟩ := k _ _ _ B oB k3 (fun b hb => k4 b hb (rp.own b hb).1) k2 k1
        (List.nodup_cons.mpr ⟨k5, nodup3 (by rw [← eA]; exact (List.nodup_cons.mp nAp).2) oB.1 fun b hb hA => dB b hb (by rw [eA]; exact List.mem_cons_of_mem _ hA)⟩)
        (fun b hb => by
          rcases List.mem_cons.mp hb with e | hb
          · exact .inl (by rw [e]; exact List.mem_cons_self)
          · exact (mem3 hb).imp (fun z => List.mem_cons_of_mem _ (by rw [eA]; exact z)) id)
      refine ⟨a, _, dx, _, rfl, ha, hcl.cls, hcl.no j f hj, hfew, ?_⟩
      rw [putF_zip hcl.nd hj (by rw [rx.length]; omega) hlen, if_pos (by rw [rx.length]; exact hlt)]
      exact E.nx F2 _ σ _ As' ok4 hq
    · have rn : RepL X.K R F2 H2 (us ++ [vy]) _ (A' ++ (B ++ [])) := rx.append (.cons ry .nil)
      rw [List.append_nil] at rn
      have hl1 : us.length < (R.lay c').length := by rw [rx.length]; exact hjl
      obtain ⟨k1, k2, k3, k4, k5⟩ := renode (k := .ins true c') (o := .ins (R.cls c') dx ((R.lay c').zip (us ++ [vy]))) ok2.fh hF nAp ⟨rfl, by rw [List.length_append]; exact hl1, dx, upd_same⟩ rn (fun b hb => List.mem_append.mp hb) dB
      obtain ⟨As', ok4, _⟩ := k _ _ _ B oB k3 (fun b hb => k4 b hb (rp.own b hb).1) k2 k1
        (List.nodup_cons.mpr ⟨k5, List.nodup_append.mpr ⟨(List.nodup_cons.mp nAp).2, oB.1, fun x hx y hy e => dB y hy (by rw [← e]; exact List.mem_cons_of_mem _ hx)⟩⟩)
        (fun b hb => by
          rcases List.mem_cons.mp hb with e | hb
          · exact .inl (by rw [e]; exact List.mem_cons_self)
          · exact (List.mem_append.mp hb).imp (List.mem_cons_of_mem _) id)
      refine ⟨a, _, dx, _, rfl, ha, hcl.cls, hcl.no _ f hj, hfew, ?_⟩
      rw [putF_zip hcl.nd hj (by rw [rx.length]; omega) hlen, if_neg (by rw [rx.length]; omega)]
      exact E.nx F2 _ σ _ As' ok4 hq
  · exact hq2.elim
end

/-! ## things of one's own are handed on -/
/-- expressions, some of them names whose things are moved -/
def LM (K : PySem.W.Frag) (R : RT) (W : WX) (mv : List Nat) (t : TA) (td : TAd) : Prop := ∀ (F H : Hp) (σ : L2.St) (env : Sl) (As : Nat → List Addr) (Q : List V → Hp → Prop) (Qd : List D → Prop) (Ed : EX → Prop),
  Same F H → EnvR K R F H σ env As → td env Qd Ed →
  (∀ F' H' vs ds B, Grow F H F' H' → RepL K R F' H' vs ds B → B.Nodup → (∀ a ∈ B, H a = none ∨ ∃ i ∈ mv, a ∈ As i) → Qd ds → Q vs H') → ExW K R W F H σ Ed → t σ H Q
def DM (M : Bool) (X : Cx) (R : RT) (mv : List Nat) (es : List Expr) (td : TAd) : Prop := ∀ W, Tk M X W → ∃ t, PA X es t ∧ LM X.K R W mv t td
def dConsV (i : Nat) (tr : TAd) : TAd := fun env Q E => match env[i]? with
  | some (some d) => tr env (fun ds => Q (d :: ds)) E
  | _ => False
def unsetL : List Nat → Sl → Sl
  | [], env => env
  | i :: r, env => unsetL r (env.set i none)
def dRetT (mv : List Nat) (ta : TAd) : TSd := fun D env => ta env (fun ds => ds.length ≤ 1000 ∧ D.rt (.tup ds) (unsetL mv env)) (fun x => D.ex x env)
theorem Ok.unsetL {K : PySem.W.Frag} {R : RT} {C : Ba} {F H : Hp} {σ : L2.St} : ∀ (mv : List Nat) {env : Sl} {As : Nat → List Addr}, Ok K R C F H σ env As → Ok K R C F H σ (unsetL mv env) (fun j => if j ∈ mv then [] else As j)
  | [], env, As, ok => by
    have e : (fun j => if j ∈ ([] : List Nat) then [] else As j) = As := by funext j; simp
    rw [e]
    exact ok
  | i :: r, env, As, ok => by
    have q := Ok.unsetL r (ok.unsetD i)
    have e : (fun j => if j ∈ r then [] else if j = i then [] else As j) = (fun j => if j ∈ i :: r then [] else As j) := by
      funext j
      by_cases h1 : j ∈ r
      · rw [if_pos h1, if_pos (List.mem_cons_of_mem _ h1)]
      · rw [if_neg h1]
        by_cases h2 : j = i
        · rw [if_pos h2, if_pos (by rw [h2]; exact List.mem_cons_self)]
        · rw [if_neg h2, if_neg (fun z => (List.mem_cons.mp z).elim h2 h1)]
    rw [e] at q
    exact q
section
variable {X : Cx} {R : RT} {P mv : List Nat} {i : Nat} {e : Expr} {es : List Expr} {te : TEd} {ta : TAd} {pos : Pos}
theorem dm_nil : DM M X R [] [] dNil := fun W _ => ⟨_, pa_nil, fun F H σ env As Q Qd Ed s er h q x => q F H [] [] [] (.refl s) .nil List.nodup_nil (fun _ z => by cases z) h⟩
theorem dm_cons (h1 : DE M X R e te) (h2 : DM M X R mv es ta) (hs : starEach (e :: es) X.env = (false, eval e X.env) :: starEach es X.env := by rfl) : DM M X R mv (e :: es) (dCons te ta) := fun W tk => by
  obtain ⟨_, a1, a2⟩ := h1 W tk
  obtain ⟨_, b1, b2⟩ := h2 W tk
  refine ⟨_, pa_cons a1 b1 hs, fun F H σ env As Q Qd Ed s er h q x => a2 F H σ env As _ _ Ed s er h (fun F1 H1 v d B b g1 r1 f1 hq => ?_) x⟩
  have fB := Fresh.of_safe r1 f1 hq.1
  refine b2 F1 H1 σ env As _ _ Ed g1.fh (er.grow g1) hq.2 (fun F2 H2 vs ds B2 g2 r2 n2 o2 hq => ?_) (x.grow g1)
  refine q F2 H2 (v :: vs) (d :: ds) (B ++ B2) (g1.trans g2) (.cons (r1.grow g2) r2) (List.nodup_append.mpr ⟨fB.1, n2, fun a ha b hb e => ?_⟩) (fun a ha => ?_) hq
  · subst e
    rcases o2 a hb with z | ⟨j, hj, z⟩
    · obtain ⟨⟨o, ho⟩, _⟩ := r1.own a ha
      rw [ho] at z; cases z
    · exact er.apart g1.hh fB.2 j a ha z
  · rcases List.mem_append.mp ha with ha | ha
    · exact .inl (fB.2 a ha)
    · exact (o2 a ha).imp g1.free id
theorem dm_consV {x : Str} {p : Pos} (i : Nat) (h2 : DM M X R mv es ta) (hi : i ∉ mv := by decide) (hN : X.N[i]? = some x := by rfl) (hv : Vis X.env.scope x := by first | exact Or.inl rfl | exact Or.inr (Or.inl rfl) | exact Or.inr (Or.inr rfl)) (hd : (x == ("__debug__" : Str)) = false := by decide)
    (hcd : (x == ("__classdict__" : Str)) = false := by decide) (hs : starEach (.Name x p :: es) X.env = (false, eval (.Name x p) X.env) :: starEach es X.env := by rfl) : DM M X R (i :: mv) (.Name x p :: es) (dConsV i ta) := fun W tk => by
  obtain ⟨_, b1, b2⟩ := h2 W tk
  refine ⟨_, pa_cons (pe_var hN hv hd hcd) b1 hs, fun F H σ env As Q Qd Ed s er h q x => ?_⟩
  unfold dConsV at h
  split at h
  · rename_i d ed
    obtain ⟨v, ev, r⟩ := er.val i d ed
    refine ⟨v, ev, b2 F H σ env As _ _ Ed s er h (fun F2 H2 vs ds B2 g2 r2 n2 o2 hq => ?_) x⟩
    refine q F2 H2 (v :: vs) (d :: ds) (As i ++ B2) g2 (.cons (r.grow g2) r2) (List.nodup_append.mpr ⟨er.nod i, n2, fun a ha b hb e => ?_⟩) (fun a ha => ?_) hq
    · subst e
      rcases o2 a hb with z | ⟨j, hj, z⟩
      · obtain ⟨⟨o, ho⟩, _⟩ := r.own a ha
        rw [ho] at z; cases z
      · exact er.dis i j a (fun e => hi (by rw [e]; exact hj)) ha z
    · rcases List.mem_append.mp ha with ha | ha
      · exact .inr ⟨i, List.mem_cons_self, ha⟩
      · exact (o2 a ha).imp id fun ⟨j, hj, z⟩ => ⟨j, List.mem_cons_of_mem _ hj, z⟩
  · exact h.elim
theorem ds_retT {k : Nat} {p : Pos} (h : DM M X R mv es ta) : DS M X R P (.Return (some (.Tuple es k p)) pos) (dRetT mv ta) := fun W tk => by
  obtain ⟨_, a1, a2⟩ := h W tk
  refine ⟨_, ps_ret (pe_tup a1), fun C F H σ env As Dh Dd eP ok E h => a2 F H σ env As _ _ _ ok.fh ok.er h (fun F1 H1 vs ds B g1 r1 n1 o1 hq => ?_) (E.exw ok)⟩
  refine ⟨by rw [r1.length]; exact sz1000 hq.1, fun p hp => ?_⟩
  have g2 : Grow F1 H1 (upd F1 p (.tup vs)) (upd H1 p (.tup vs)) := Grow.newF g1.fh hp
  refine E.rt _ _ σ _ _ (.ref p) (.tup ds) B ((ok.grow (g1.trans g2)).unsetL mv) (.fz (k := .tup) (.inl upd_same) (r1.grow g2) (.inl ⟨rfl, upd_same⟩)) ⟨n1, fun a ha => ?_, fun j a ha hj => ?_⟩ hq.2
  · rcases o1 a ha with z | ⟨j, _, z⟩
    · right
      cases e : C.H0 a with
      | none => rfl
      | some o =>
        obtain ⟨o', q⟩ := ok.tr a o e
        rw [q] at z; cases z
    · exact ok.ow j a z
  · by_cases hm : j ∈ mv
    · simp only [if_pos hm] at hj; cases hj
    · simp only [if_neg hm] at hj
      rcases o1 a ha with z | ⟨l, hl, z⟩
      · obtain ⟨⟨o, ho⟩, _⟩ := ok.er.own hj
        rw [ho] at z; cases z
      · exact ok.er.dis j l a (fun e => hm (by rw [e]; exact hl)) hj z
end

/-! ## methods of built-ins that only look -/
abbrev GV := D → GC
def OpV (X : Cx) (R : RT) (T id : String) (g : GV) : Prop := ∃ r, MtR X id r ∧
  (∀ F H w d A, Same F H → Rep X.K R F H w d A → tyD d = some T → tyV X.K T w H) ∧
  ∀ (F H : Hp) (w : V) (d : D) (A : List Addr) (vs : List V) (ds : List D) (B : List Addr) (Q : VK) (Qd : D → Prop), Same F H → Rep X.K R F H w d A → RepL X.K R F H vs ds B → g d ds Qd → Out X.K R F H Qd Q → r w vs H Q
def dMV (T : String) (g : GV) (td : TEd) (ta : TAd) : TEd := fun env Q E => td env (fun _ d => tyD d = some T ∧ ta env (fun ds => g d ds (Q false)) E) E
section
variable {X : Cx} {R : RT} {o e : Expr} {es : List Expr} {td : TEd} {ta : TAd} {name : Str} {apos cpos : Pos} {T id : String} {g : GV}
theorem de_mV (hm : OpV X R T id g) (pa : PlainAttrs T) (slot : Slot T name id) (hty : typeOf (.builtin id) = pure (.type "method_descriptor")) (h1 : DE M X R o td) (h2 : DB M X R (e :: es) ta)
    (hbase : attributeBase o name X.env (eval o X.env) = eval o X.env := by rfl)
    (hfew : ((backTo cpos (starEach (e :: es) X.env)).all (fun x => !x.1) && (backToKw cpos (keywordEach [] X.env)).all (fun x => x.1.isSome)
      && decide ((e :: es).length + ([] : List Keyword).length + (if ([] : List Keyword).isEmpty then 0 else 1) < 30)) = true := by rfl)
    (hline : (apos.endLine == cpos.line) = true := by rfl) (hs : starEach (e :: es) X.env = (false, eval e X.env) :: starEach es X.env := by rfl) (hplain : (backTo cpos (starEach es X.env)).any (·.1) = false := by rfl) :
    DE M X R (.Call (.Attribute o name apos) (e :: es) [] cpos) (dMV T g td ta) := fun W tk => by
  obtain ⟨r, m1, m2, m3⟩ := hm
  obtain ⟨_, a1, a2⟩ := h1 W tk
  obtain ⟨_, b1, b2⟩ := h2 W tk
  refine ⟨_, pe_bm pa slot hty m1 a1 b1 hbase hfew hline hs hplain, fun F H σ env As Q Qd Ed s er h q x => a2 F H σ env As _ _ Ed s er h (fun F1 H1 v d B b g1 r1 f1 hq => ?_) x⟩
  refine ⟨m2 F1 H1 v d B g1.fh r1 hq.1, b2 F1 H1 σ env As _ _ Ed g1.fh (er.grow g1) hq.2 (fun F2 H2 vs ds B2 g2 r2 hq => ?_) (x.grow g1)⟩
  exact m3 F2 H2 v d B vs ds B2 Q (Qd false) g2.fh (r1.grow g2) r2 hq fun F3 H3 z dz C g3 r3 f3 hz => q F3 H3 z dz C false ((g1.trans g2).trans g3) r3 (fun _ => f3.back (g1.trans g2)) hz
theorem de_mV0 (hm : OpV X R T id g) (pa : PlainAttrs T) (slot : Slot T name id) (hty : typeOf (.builtin id) = pure (.type "method_descriptor")) (h1 : DE M X R o td)
    (hbase : attributeBase o name X.env (eval o X.env) = eval o X.env := by rfl) (hline : (apos.endLine == cpos.line) = true := by rfl) :
    DE M X R (.Call (.Attribute o name apos) [] [] cpos) (dMV T g td bNil) := fun W tk => by
  obtain ⟨r, m1, m2, m3⟩ := hm
  obtain ⟨_, a1, a2⟩ := h1 W tk
  refine ⟨_, pe_bm0 pa slot hty m1 a1 hbase hline, fun F H σ env As Q Qd Ed s er h q x => a2 F H σ env As _ _ Ed s er h (fun F1 H1 v d B b g1 r1 f1 hq => ?_) x⟩
  refine ⟨m2 F1 H1 v d B g1.fh r1 hq.1, ?_⟩
  exact m3 F1 H1 v d B [] [] [] Q (Qd false) g1.fh r1 .nil hq.2 fun F3 H3 z dz C g3 r3 f3 hz => q F3 H3 z dz C false (g1.trans g3) r3 (fun _ => f3.back g1) hz
theorem ty_lst' {F H : Hp} {w : V} {dp : D} {A : List Addr} (s : Same F H) (r : Rep X.K R F H w dp A) (h : tyD dp = some "list") : tyV X.K "list" w H := by
  cases dp with
  | sc x => cases x <;> simp [tyD] at h
  | nd k ds =>
    cases k with
    | lst o =>
      obtain ⟨a, vs, B', rfl, _, e, _⟩ := lst_at r s
      exact .inl ⟨rfl, vs, SqL.of e⟩
    | scr => simp [tyD] at h
    | tup => simp [tyD] at h
    | dct o ks => simp [tyD] at h
    | dcT o ks => simp [tyD] at h
    | ins o c => simp [tyD] at h
/-- where the first item stands that is equal -/
def idxS : List D → Sc → Option Nat
  | [], _ => none
  | d :: r, a => if eqv d (.sc a) = true then some 0 else (idxS r a).map (· + 1)
def idxD : GV
  | .nd (.lst _) ds, [.sc a], Q => ds.all flatD = true ∧ ∃ j, idxS ds a = some j ∧ Q (.int j)
  | _, _, _ => False
theorem idx_at {K : PySem.W.Frag} {F H : Hp} (a : Sc) : ∀ {vs : List V} {ds : List D} {B : List Addr} {j : Nat}, RepL K R F H vs ds B → ds.all flatD = true → idxS ds a = some j →
    ∃ z, vs[j]? = some z ∧ eqV z (encS a) = true ∧ ∀ (m : Nat) (z' : V), m < j → vs[m]? = some z' → eqV z' (encS a) = false
  | _, [], _, _, r, _, h => by cases h
  | _, .sc s :: t, _, j, r, hf, h => by
    cases r with
    | cons r1 r2 =>
      cases r1
      rw [List.all_cons, Bool.and_eq_true] at hf
      rw [idxS] at h
      by_cases e : eqv (.sc s) (.sc a) = true
      · rw [if_pos e] at h
        cases h
        exact ⟨_, rfl, by rw [eqV_enc, ← e, eqv], fun m z' hm => by cases hm⟩
      · rw [if_neg e] at h
        cases hp : idxS t a with
        | none => rw [hp] at h; cases h
        | some j' =>
          rw [hp] at h
          cases h
          obtain ⟨z, h1, h2, h3⟩ := idx_at a r2 hf.2 hp
          refine ⟨z, by simpa using h1, h2, fun m z' hm hz => ?_⟩
          cases m with
          | zero =>
            simp at hz
            subst hz
            rw [eqV_enc]
            rw [eqv] at e
            exact Bool.eq_false_iff.mpr e
          | succ m => exact h3 m z' (Nat.lt_of_succ_lt_succ hm) (by simpa using hz)
  | _, .nd _ _ :: t, _, _, r, h, _ => by simp [flatD] at h
theorem idxD_ok : OpV X R "list" "list.index" idxD := by
  refine ⟨rIndex X.K, mt_index, fun F H w d A s r h => ty_lst' s r h, fun F H w d A vs ds B Q Qd s r ra hq out => ?_⟩
  unfold idxD at hq
  split at hq
  · obtain ⟨hf, j, hj, hq⟩ := hq
    obtain ⟨a, us, B', rfl, rx, e, _⟩ := lst_at r s
    obtain ⟨y, rfl, ry⟩ := repl1 ra
    cases ry
    obtain ⟨z, h1, h2, h3⟩ := idx_at _ rx hf hj
    refine ⟨a, us, _, j, z, rfl, rfl, SqL.of e, flat_enc _, (rx.flat .non hf).1, h1, h2, h3, out F H _ _ [] (.refl s) (.sc (.int _)) .nil hq⟩
  · exact hq.elim
end
end DL

set_option Elab.async false
set_option linter.all false
set_option maxRecDepth 100000
set_option maxHeartbeats 1000000
namespace DL
open PySem PySem.Spec L2
variable {M : Bool}

def dNeg (ta : TEd) : TEd := fun env Q E => ta env (fun _ d => match d with
  | .sc (.int i) => Q false (.int (-i))
  | _ => False) E
def dDct0 : TEd := fun _ Q _ => Q false (.nd (.dct true []) [])
def dDcT0 : TEd := fun _ Q _ => Q false (.nd (.dcT true []) [])
section
variable {X : Cx} {R : RT} {e : Expr} {te : TEd} {pos : Pos}
theorem de_neg (h : DE M X R e te) : DE M X R (.UnaryOp .USub e pos) (dNeg te) := fun W tk => by
  obtain ⟨_, a1, a2⟩ := h W tk
  refine ⟨_, pe_un un_neg a1, fun F H σ env As Q Qd Ed s er h q x => a2 F H σ env As _ _ Ed s er h (fun F1 H1 v d B b g1 r1 f1 hq => ?_) x⟩
  split at hq
  · cases r1
    exact ⟨_, rfl, q F1 H1 _ _ [] false g1 (.sc (.int _)) (fun _ => .nil) hq⟩
  · exact hq.elim
theorem de_dct0 : DE M X R (.Dict [] [] pos) dDct0 := fun W _ => ⟨_, pe_dnewK, fun F H σ env As Q Qd Ed s er h q x p hp =>
  q F (upd H p (.dK [])) (.ref p) (.nd (.dct true []) []) [p] false (Grow.new s hp) (.ow (k := .dct true []) (vs := []) ⟨rfl, rfl, upd_same⟩ (same_none s hp) .nil) (fun _ => ⟨by simp, fun a ha => by rw [List.mem_singleton] at ha; rw [ha]; exact hp⟩) h⟩
theorem de_dcT0 : DE M X R (.Dict [] [] pos) dDcT0 := fun W _ => ⟨_, pe_dnewT, fun F H σ env As Q Qd Ed s er h q x p hp =>
  q F (upd H p (.dT [])) (.ref p) (.nd (.dcT true []) []) [p] false (Grow.new s hp) (.ow (k := .dcT true []) (vs := []) ⟨rfl, rfl, upd_same⟩ (same_none s hp) .nil) (fun _ => ⟨by simp, fun a ha => by rw [List.mem_singleton] at ha; rw [ha]; exact hp⟩) h⟩
end

/-! ## x.m(path.n(..)): the inner one first changes another slot -/
/-- slot i .m( slot j's path .n(args) ) -/
def dMN (i : Nat) (T : String) (g : GM) (j : Nat) (pd : TPd) (T2 : String) (g2 : GM) (ta : TAd) : TSd := fun D env => (match env[i]? with
  | some (some d0) => tyD d0 = some T ∧ fz d0 = false
  | _ => False) ∧ pd env (fun p => atP j env p fun _ e0 => (tyD e0 = some T2 ∧ fz e0 = false) ∧ ta env (fun ds => atP j env p fun e ep => g2 ep ds fun dr ep' => match env[i]? with
    | some (some d) => g d [dr] fun _ d' => D.nx ((env.set j (some (setP p e ep'))).set i (some d'))
    | _ => False) (fun x => D.ex x env)) (fun x => D.ex x env)
section
variable {X : Cx} {R : RT} {P : List Nat} {i j : Nat} {o e : Expr} {es : List Expr} {pd : TPd} {ta : TAd} {name name2 x : Str} {px apos cpos apos2 cpos2 pos : Pos} {T id T2 id2 : String} {g g2 : GM}
theorem ds_mN (hij : i ≠ j) (hm : OpM X R T id g) (pa : PlainAttrs T) (slot : Slot T name id) (hty : typeOf (.builtin id) = pure (.type "method_descriptor"))
    (hm2 : OpM X R T2 id2 g2) (pa2 : PlainAttrs T2) (slot2 : Slot T2 name2 id2) (hty2 : typeOf (.builtin id2) = pure (.type "method_descriptor")) (h1 : DP M X R j o pd) (h2 : DA M X R (e :: es) ta)
    (hN : X.N[i]? = some x := by rfl) (hv : Vis X.env.scope x := by first | exact Or.inl rfl | exact Or.inr (Or.inl rfl) | exact Or.inr (Or.inr rfl)) (hd : (x == ("__debug__" : Str)) = false := by decide)
    (hcd : (x == ("__classdict__" : Str)) = false := by decide)
    (hbase : attributeBase o name2 X.env (eval o X.env) = eval o X.env := by rfl)
    (hfew : ((backTo cpos2 (starEach (e :: es) X.env)).all (fun x => !x.1) && (backToKw cpos2 (keywordEach [] X.env)).all (fun x => x.1.isSome)
      && decide ((e :: es).length + ([] : List Keyword).length + (if ([] : List Keyword).isEmpty then 0 else 1) < 30)) = true := by rfl)
    (hline : (apos2.endLine == cpos2.line) = true := by rfl) (hs : starEach (e :: es) X.env = (false, eval e X.env) :: starEach es X.env := by rfl) (hplain : (backTo cpos2 (starEach es X.env)).any (·.1) = false := by rfl)
    (hbase' : attributeBase (.Name x px) name X.env (eval (.Name x px) X.env) = eval (.Name x px) X.env := by rfl)
    (hfew' : ((backTo cpos (starEach (.Call (.Attribute o name2 apos2) (e :: es) [] cpos2 :: []) X.env)).all (fun x => !x.1) && (backToKw cpos (keywordEach [] X.env)).all (fun x => x.1.isSome)
      && decide ((Expr.Call (.Attribute o name2 apos2) (e :: es) [] cpos2 :: []).length + ([] : List Keyword).length + (if ([] : List Keyword).isEmpty then 0 else 1) < 30)) = true := by rfl)
    (hline' : (apos.endLine == cpos.line) = true := by rfl) (hs' : starEach (.Call (.Attribute o name2 apos2) (e :: es) [] cpos2 :: []) X.env = (false, eval (.Call (.Attribute o name2 apos2) (e :: es) [] cpos2) X.env) :: starEach [] X.env := by rfl) (hplain' : (backTo cpos (starEach [] X.env)).any (·.1) = false := by rfl)
    (hsw : swapsWith (.Call (.Attribute (.Name x px) name apos) [.Call (.Attribute o name2 apos2) (e :: es) [] cpos2] [] cpos) none pos.line X.env = pure false := by rfl) :
    DS M X R P (.Expr (.Call (.Attribute (.Name x px) name apos) [.Call (.Attribute o name2 apos2) (e :: es) [] cpos2] [] cpos) pos) (dMN i T g j pd T2 g2 ta) := fun W tk => by
  obtain ⟨r, m1, m2, m3⟩ := hm
  obtain ⟨r2, n1, n2, n3⟩ := hm2
  obtain ⟨_, a1, a2⟩ := h1 W tk
  obtain ⟨_, b1, b2⟩ := h2 W tk
  refine ⟨_, ps_expr (pe_bm pa slot hty m1 (pe_var hN hv hd hcd) (pa_cons (pe_bm pa2 slot2 hty2 n1 a1 b1 hbase hfew hline hs hplain) pa_nil hs') hbase' hfew' hline' hs' hplain') hsw, fun C F H σ env As Dh Dd eP ok E h => ?_⟩
  obtain ⟨h0, h⟩ := h
  split at h0
  · rename_i d0 ed
    obtain ⟨v0, ev, r0⟩ := ok.er.val i d0 ed
    refine ⟨v0, ev, m2 F H v0 d0 (As i) ok.fh r0 h0.1 h0.2, ?_⟩
    refine mt_core (Qd := fun e dr p ep' => g d0 [dr] fun _ d' => Dd.nx ((env.set j (some (setP p e ep'))).set i (some d'))) n2 n3 a2 b2 ok (by simpa only [ed] using h) (fun F' H' As' p e dr ep' vr Br ok' rr oo hq => ?_) (E.exw ok)
    have ed' : (env.set j (some (setP p e ep')))[i]? = some (some d0) := by rw [List.getElem?_set_ne (Ne.symm hij)]; exact ed
    obtain ⟨Ap, rp, sub, nAp, k⟩ := ok'.mutP (p := []) ed' ev rfl (.nil v0)
    refine m3 F' H' v0 d0 Ap [vr] [dr] (Br ++ []) _ _ ok'.fh rp nAp (.cons rr .nil) (by rw [List.append_nil]; exact oo.1) (fun a ha hA => oo.2.2 i a (by rwa [List.append_nil] at ha) (sub a hA)) hq fun H3 vr2 dr2 dp' A' Br2 e1 e2 e3 e4 e5 e6 e7 e8 => ?_
    obtain ⟨As2, ok3, _⟩ := k H3 dp' A' Br oo e1 e2 e3 e4 (List.nodup_append.mp e6).1 (fun b hb => by
      have := e7 b (List.mem_append_left _ hb)
      rwa [List.append_nil] at this)
    exact E.nx F' H3 σ _ As2 ok3 e8
  · exact h0.elim
end
end DL

set_option Elab.async false
set_option linter.all false
set_option maxRecDepth 100000
set_option maxHeartbeats 1000000
namespace DL
open PySem PySem.Spec L2
variable {M : Bool}

/-! ## the weakest readings: one for all contexts -/
section
variable (K : PySem.W.Frag) (R : RT) (W : WX)
def canE (td : TEd) : TE := fun σ H Q => ∃ (F : Hp) (env : Sl) (As : Nat → List Addr) (Qd : Bool → D → Prop) (Ed : EX → Prop),
  Same F H ∧ EnvR K R F H σ env As ∧ td env Qd Ed ∧
  (∀ F' H' v d B b, Grow F H F' H' → Rep K R F' H' v d B → (b = false → Fresh H B) → Qd b d → Q v H') ∧ ExW K R W F H σ Ed
def canT (td : TTd) : TT := fun σ H Q => ∃ (F : Hp) (env : Sl) (As : Nat → List Addr) (Qd : Bool → Prop) (Ed : EX → Prop),
  Same F H ∧ EnvR K R F H σ env As ∧ td env Qd Ed ∧ (∀ F' H' c, Grow F H F' H' → Qd c → Q c H') ∧ ExW K R W F H σ Ed
def canG (P : List Nat) (gd : TGd) : TG := fun v σ H Q => ∃ (C : Ba) (F : Hp) (env : Sl) (As : Nat → List Addr) (d : D) (B : List Addr) (Qd : Sl → Prop),
  C.P = P ∧ Ok K R C F H σ env As ∧ Rep K R F H v d B ∧ Own C As B ∧ gd d env Qd ∧ (∀ σ' env' As', Ok K R C F H σ' env' As' → (∀ j a, a ∈ As' j → a ∈ As j ∨ a ∈ B) → Qd env' → Q σ' H)
end
section
variable {X : Cx} {R : RT} {W : WX} {P : List Nat} {e : Expr}
theorem pe_can {td : TEd} (tk : Tk M X W) (h : DE M X R e td) : PE X e (canE X.K R W td) := by
  obtain ⟨t, a1, a2⟩ := h W tk
  refine ⟨fun pins s σ H Q I q => ?_⟩
  obtain ⟨F, env, As, Qd, Ed, s1, er, h, k, x⟩ := q
  exact a1.run pins s σ H Q I (a2 F H σ env As Q Qd Ed s1 er h k x)
theorem pt_can {td : TTd} (tk : Tk M X W) (h : DT M X R e td) : PT X e (canT X.K R W td) := by
  obtain ⟨t, a1, a2⟩ := h W tk
  refine ⟨fun pins s σ H Q I q => ?_⟩
  obtain ⟨F, env, As, Qd, Ed, s1, er, h, k, x⟩ := q
  exact a1.run pins s σ H Q I (a2 F H σ env As Q Qd Ed s1 er h k x)
theorem pg_can {gd : TGd} (h : DG X R P e gd) : PG X e (canG X.K R P gd) := by
  obtain ⟨g, a1, a2⟩ := h
  refine ⟨fun pins s σ H v u Q I r q => ?_⟩
  obtain ⟨C, F, env, As, d, B, Qd, eP, ok, rv, o, h, k⟩ := q
  exact a1.run pins s σ H v u Q I r (a2 C F H σ env As v d B Q Qd eP ok rv o h k)
end

/-! ## [elt for target in iter if test] -/
def noX : WX := fun _ _ _ _ => False
def wipeD (env : Sl) : List Nat → Sl
  | [] => env
  | v :: vs => (wipeD env vs).set v none
/-- all slots but these -/
def pinsOf (n : Nat) (vs : List Nat) : List Nat := (List.range n).filter fun i => !vs.contains i
def lcD (g : TGd) (tt : TTd) (te : TEd) (env : Sl) (Q : List D → Prop) : List D → List D → Prop
  | [], acc => Q acc
  | d :: r, acc => g d env fun env' => env'.length = env.length ∧ tt env' (fun b => if b = true then te env' (fun b y => safe b y ∧ acc.length < 1000000 ∧ lcD g tt te env Q r (acc ++ [y])) (fun _ => False) else lcD g tt te env Q r acc) (fun _ => False)
def dLc (ti : TId) (g : TGd) (tt : TTd) (te : TEd) (vs : List Nat) : TEd := fun env Q E => ti env (fun ds => lcD g tt te (wipeD env vs) (fun out => Q false (.lst true out)) ds []) E
def dYes : TTd := fun _ Q _ => Q true
section
variable {K : PySem.W.Frag} {R : RT} {F H : Hp}
theorem EnvR.wipe {σ : L2.St} {env : Sl} {As : Nat → List Addr} (h : EnvR K R F H σ env As) : ∀ vs : List Nat, ∃ As', EnvR K R F H (wipe σ vs) (wipeD env vs) As' ∧ ∀ j a, a ∈ As' j → a ∈ As j
  | [] => ⟨As, h, fun j a z => z⟩
  | v :: vs => by
    obtain ⟨As', h1, s1⟩ := EnvR.wipe h vs
    refine ⟨_, h1.unset v none, fun j a z => ?_⟩
    by_cases hj : j = v
    · simp only [if_pos hj] at z; cases z
    · simp only [if_neg hj] at z; exact s1 j a z
theorem wipe_at {vs : List Nat} {σ : L2.St} {i : Nat} (h : i ∈ vs) (hl : i < σ.length) : (wipe σ vs)[i]? = some none := by
  induction vs with
  | nil => cases h
  | cons v vs ih =>
    rw [L2.wipe]
    by_cases e : v = i
    · subst e
      rw [List.getElem?_set_self (by rw [wipe_length]; exact hl)]
    · rw [List.getElem?_set_ne e]
      exact ih ((List.mem_cons.mp h).resolve_left fun z => e z.symm)
theorem wipe_eq {vs : List Nat} {σ σ' : L2.St} (hl : σ'.length = σ.length) (h : ∀ i, i < σ.length → i ∉ vs → σ'[i]? = (wipe σ vs)[i]?) : wipe σ' vs = wipe σ vs := by
  apply List.ext_getElem?
  intro i
  by_cases hi : i < σ.length
  · by_cases hv : i ∈ vs
    · rw [wipe_at hv hi, wipe_at hv (by rw [hl]; exact hi)]
    · rw [wipe_out hv, h i hi hv]
  · rw [List.getElem?_eq_none (by rw [wipe_length, hl]; omega), List.getElem?_eq_none (by rw [wipe_length]; omega)]
end
def DTs (M : Bool) (X : Cx) (R : RT) (ifs : List Expr) (td : TTd) : Prop := ∀ W, Tk M X W → ∃ t, PTs X ifs t ∧ LT X.K R W t td
theorem dts_nil {X : Cx} {R : RT} : DTs M X R [] dYes := fun W _ => ⟨_, pts_nil, fun F H σ env As Q Qd Ed s er h q x => q F H true (.refl s) h⟩
theorem dts_one {X : Cx} {R : RT} {c : Expr} {td : TTd} (h : DT M X R c td) : DTs M X R [c] td := fun W tk => by
  obtain ⟨_, a1, a2⟩ := h W tk
  exact ⟨_, pts_one a1, a2⟩
theorem pts_can {X : Cx} {R : RT} {W : WX} {ifs : List Expr} {td : TTd} (tk : Tk M X W) (h : DTs M X R ifs td) : PTs X ifs (canT X.K R W td) := by
  obtain ⟨t, a1, a2⟩ := h W tk
  refine ⟨fun pins s σ H Q I q => ?_⟩
  obtain ⟨F, env, As, Qd, Ed, s1, er, h, k, x⟩ := q
  exact a1.run pins s σ H Q I (a2 F H σ env As Q Qd Ed s1 er h k x)
/-- .. the slots are that many -/
def dLC (n : Nat) (ti : TId) (g : TGd) (tt : TTd) (te : TEd) (vs : List Nat) : TEd := fun env Q E => env.length = n ∧ dLc ti g tt te vs env Q E
section
variable {K : PySem.W.Frag} {R : RT} {W : WX}
theorem le_lc {wi : TI} {ti : TId} {gd : TGd} {tt : TTd} {te : TEd} {vs : List Nat} {n : Nat} (i2 : LI K R W wi ti) : LE K R W (tLc wi (canG K R (pinsOf n vs) gd) (canT K R noX tt) (canE K R noX te) vs) (dLC n ti gd tt te vs) := by
  intro F H σ env As Q Qd Ed s er h q x
  obtain ⟨hn, h⟩ := h
  refine i2 F H σ env As _ _ Ed s er h (fun F1 H1 J ds g1 it hq => ?_) x
  intro D hD
  obtain ⟨As', erw, sub⟩ := (er.grow g1).wipe vs
  have sn : σ.length = n := by rw [er.len]; exact hn
  refine ⟨fun i m H' => m = ds.length - i ∧ i ≤ ds.length ∧ ∃ F' out vsl B, Grow F1 H1 F' H' ∧ F' D = none ∧ H' D = some (.lst vsl) ∧ RepL K R F' H' vsl out B ∧ B.Nodup ∧ D ∉ B ∧ (∀ a ∈ B, H1 a = none) ∧ lcD gd tt te (wipeD env vs) (fun out => Qd false (.lst true out)) (ds.drop i) out,
    ⟨ds.length, rfl, Nat.zero_le _, F1, [], [], [], Grow.new g1.fh hD, same_none g1.fh hD, upd_same, .nil, List.nodup_nil, List.not_mem_nil, fun _ z => (by cases z), hq⟩, ?_⟩
  rintro i m H' ⟨rfl, hi, F', out, vsl, B, gr, fD, hDD, rl, nB, dB, fB, w⟩
  obtain ⟨it1, it2⟩ := it F' H' gr.ff gr.fh
  by_cases hlt : i < ds.length
  · obtain ⟨q1, q2⟩ := it1 i hlt
    refine .inr ⟨q1, fun H'' => ∃ F' out vsl B, Grow F1 H1 F' H'' ∧ F' D = none ∧ H'' D = some (.lst vsl) ∧ RepL K R F' H'' vsl out B ∧ B.Nodup ∧ D ∉ B ∧ (∀ a ∈ B, H1 a = none) ∧ lcD gd tt te (wipeD env vs) (fun out => Qd false (.lst true out)) (ds.drop (i + 1)) out, fun H'' w' => ⟨ds.length - (i + 1), by omega, rfl, hlt, w'⟩, fun xv H2 y => ?_⟩
    obtain ⟨F2, d, hd, g2, r2⟩ := q2 xv H2 y
    rw [List.drop_eq_getElem_cons hlt] at w
    have ed : ds[i] = d := by rw [List.getElem?_eq_getElem hlt] at hd; exact Option.some.inj hd
    rw [ed] at w
    have w' : gd d (wipeD env vs) (fun env' => env'.length = (wipeD env vs).length ∧ tt env' (fun b => if b = true then te env' (fun b y => safe b y ∧ out.length < 1000000 ∧ lcD gd tt te (wipeD env vs) (fun out => Qd false (.lst true out)) (ds.drop (i + 1)) (out ++ [y])) (fun _ => False) else lcD gd tt te (wipeD env vs) (fun out => Qd false (.lst true out)) (ds.drop (i + 1)) out) (fun _ => False)) := w
    have g02 := gr.trans g2
    have er2 := erw.grow g02
    have ok0 : Ok K R ⟨H2, F2, fun a => ∃ i, a ∈ As' i, wipe σ vs, pinsOf n vs⟩ F2 H2 (wipe σ vs) (wipeD env vs) As' :=
      ⟨er2, g02.fh, fun _ _ e _ => e, fun a o e => ⟨o, e⟩, .refl _, fun _ _ _ _ => rfl, fun i a ha => .inl ⟨i, ha⟩, fun _ _ => rfl⟩
    refine ⟨_, F2, wipeD env vs, As', d, [], _, rfl, ok0, r2, .nil, w', fun σ3 env3 As3 ok3 sub3 w3 => ⟨wipe_eq ?_ fun j hj hv => ?_, ?_⟩⟩
    · have e1 : σ3.length = (wipe σ vs).length := by
        rw [ok3.er.len, w3.1, ← erw.len]
      rw [e1, wipe_length]
    · refine ok3.pin j ?_
      show j ∈ pinsOf n vs
      unfold pinsOf
      rw [List.mem_filter]
      exact ⟨List.mem_range.mpr (by rw [← sn]; exact hj), by simpa using hv⟩
    refine ⟨F2, env3, As3, _, fun _ => False, ok3.fh, ok3.er, w3.2, fun F4 H4 c g4 hq4 => ?_, fun _ _ _ _ _ _ _ z => z⟩
    have g04 := g02.trans g4
    have h4D : H4 D = some (.lst vsl) := (g2.trans g4).hh _ _ hDD
    have f4D : F4 D = none := by rw [(g2.trans g4).nw _ _ hDD]; exact fD
    cases c with
    | false =>
      rw [if_neg Bool.false_ne_true] at hq4
      show if false = true then _ else _
      rw [if_neg Bool.false_ne_true]
      exact ⟨F4, out, vsl, B, g04, f4D, h4D, rl.grow (g2.trans g4), nB, dB, fB, hq4⟩
    | true =>
      rw [if_pos rfl] at hq4
      show if true = true then _ else _
      rw [if_pos rfl]
      refine ⟨F4, env3, As3, _, fun _ => False, g4.fh, ok3.er.grow g4, hq4, fun F5 H5 v5 d5 B5 b5 g5 r5 f5 hq5 => ?_, fun _ _ _ _ _ _ _ z => z⟩
      obtain ⟨sb, hl, hq5⟩ := hq5
      have fB5 := Fresh.of_safe r5 f5 sb
      have g25 := (g2.trans g4).trans g5
      have g05 := g04.trans g5
      have h5D : H5 D = some (.lst vsl) := g25.hh _ _ hDD
      have f5D : F5 D = none := by rw [g25.nw _ _ hDD]; exact fD
      have dB5 : D ∉ B5 := fun z => by rw [fB5.2 D z] at h4D; cases h4D
      have rl5 : RepL K R F5 (upd H5 D (.lst (vsl ++ [v5]))) vsl out B := (rl.grow g25).mono (.refl _) fun a ha => ⟨upd_ne (fun e => dB (e ▸ ha)), ((rl.grow g25).own a ha).2⟩
      have r5' : Rep K R F5 (upd H5 D (.lst (vsl ++ [v5]))) v5 d5 B5 := r5.mono (.refl _) fun a ha => ⟨upd_ne (fun e => dB5 (e ▸ ha)), (r5.own a ha).2⟩
      refine ⟨vsl, h5D, by rw [rl.length, sizeLine_eq]; omega, F5, out ++ [d5], vsl ++ [v5], B ++ (B5 ++ []), ⟨fun a o e => ?_, g05.ff, fun a o e => ?_, g05.nw⟩, f5D, upd_same, rl5.append (.cons r5' .nil), ?_, ?_, ?_, hq5⟩
      · rw [upd_ne (fun z => by rw [z, hD] at e; cases e)]; exact g05.hh a o e
      · rw [upd_ne (fun z => by rw [z, f5D] at e; cases e)]; exact g05.fh a o e
      · rw [List.append_nil]
        refine List.nodup_append.mpr ⟨nB, fB5.1, fun a ha b hb e => ?_⟩
        obtain ⟨⟨o, ho⟩, _⟩ := rl.own a ha
        have := (g2.trans g4).hh _ _ ho
        rw [e, fB5.2 b hb] at this; cases this
      · rw [List.append_nil]
        exact fun z => (List.mem_append.mp z).elim dB dB5
      · rw [List.append_nil]
        exact fun a ha => (List.mem_append.mp ha).elim (fB a) fun z => g04.free (fB5.2 a z)
  · have e : i = ds.length := by omega
    subst e
    rw [List.drop_length] at w
    refine .inl ⟨it2, q F' H' (.ref D) (.lst true out) (D :: B) false (g1.trans gr) (.ow (k := .lst true) ⟨rfl, hDD⟩ fD rl) (fun _ => ⟨List.nodup_cons.mpr ⟨dB, nB⟩, fun a ha => ?_⟩) w⟩
    rcases List.mem_cons.mp ha with z | z
    · rw [z]; exact g1.free hD
    · exact g1.free (fB a z)
end
section
variable {X : Cx} {R : RT} {P : List Nat} {elt tg iter : Expr} {ifs : List Expr} {scope : Scope} {own : List (Str × Nat)} {pos : Pos} {ti : TId} {gd : TGd} {tt : TTd} {te : TEd} {n : Nat}
theorem de_lc (hc : X.calm = true) (hN : X.N.Nodup) (own : List (Str × Nat)) (ok : BlkOk X.N X.env.scope scope own) (hi : DI M X R tg iter ti)
    (hg : ∀ (s : Shared) (H : Hp) (C : Addr) (cl : List (Str × Addr)) (fp : List Addr), DG (X.blk s H scope (compEnvC scope cl C X.env) fp) R (pinsOf n (own.map (·.2))) tg gd)
    (ht : ∀ (s : Shared) (H : Hp) (C : Addr) (cl : List (Str × Addr)) (fp : List Addr), DTs M (X.blk s H scope (compEnvC scope cl C X.env) fp) R ifs tt)
    (he : ∀ (s : Shared) (H : Hp) (C : Addr) (cl : List (Str × Addr)) (fp : List Addr), DE M (X.blk s H scope (compEnvC scope cl C X.env) fp) R elt te) (hs : ∀ x, foldedSetIterable iter X.env x = pure x := by intro _; rfl) :
    DE M X R (.ListComp elt [⟨tg, iter, ifs, 0⟩] scope pos) (dLC n ti gd tt te (own.map (·.2))) := fun W tk => by
  obtain ⟨_, i1, i2⟩ := hi W tk
  exact ⟨_, pe_lc (g := canG X.K R (pinsOf n (own.map (·.2))) gd) (tt := canT X.K R noX tt) (te := canE X.K R noX te) hc hN i1 ok (fun s H C cl fp => pg_can (hg s H C cl fp)) (fun s H C cl fp => pts_can (W := noX) tk0 (ht s H C cl fp)) (fun s H C cl fp => pe_can (W := noX) tk0 (he s H C cl fp)) hs, le_lc i2⟩
/-- name = [..] -/
theorem ds_setLc {i : Nat} {y : Str} {py spos : Pos} (hc : X.calm = true) (hN : X.N.Nodup) (own : List (Str × Nat)) (ok : BlkOk X.N X.env.scope scope own) (hi : DI M X R tg iter ti)
    (hg : ∀ (s : Shared) (H : Hp) (C : Addr) (cl : List (Str × Addr)) (fp : List Addr), DG (X.blk s H scope (compEnvC scope cl C X.env) fp) R (pinsOf n (own.map (·.2))) tg gd)
    (ht : ∀ (s : Shared) (H : Hp) (C : Addr) (cl : List (Str × Addr)) (fp : List Addr), DTs M (X.blk s H scope (compEnvC scope cl C X.env) fp) R ifs tt)
    (he : ∀ (s : Shared) (H : Hp) (C : Addr) (cl : List (Str × Addr)) (fp : List Addr), DE M (X.blk s H scope (compEnvC scope cl C X.env) fp) R elt te)
    (hsw : swapsWith (.ListComp elt [⟨tg, iter, ifs, 0⟩] scope pos) (some (.Name y py)) spos.line X.env = pure true)
    (hy : X.N[i]? = some y := by rfl) (hyl : X.env.scope.names.lookup y = some .local := by rfl) (hP : i ∉ P := by decide) (hs : ∀ x, foldedSetIterable iter X.env x = pure x := by intro _; rfl) :
    DS M X R P (.Assign [.Name y py] (.ListComp elt [⟨tg, iter, ifs, 0⟩] scope pos) spos) (dAsg (dLC n ti gd tt te (own.map (·.2))) (gN i)) := fun W tk => by
  obtain ⟨_, i1, i2⟩ := hi W tk
  refine ⟨_, ps_setLc (g := canG X.K R (pinsOf n (own.map (·.2))) gd) (tt := canT X.K R noX tt) (te := canE X.K R noX te) hc hN hy hyl hsw i1 ok (fun s H C cl fp => pg_can (hg s H C cl fp)) (fun s H C cl fp => pts_can (W := noX) tk0 (ht s H C cl fp)) (fun s H C cl fp => pe_can (W := noX) tk0 (he s H C cl fp)) hs, ?_⟩
  intro C F H σ env As Dh Dd eP ok1 E h
  refine le_lc i2 F H σ env As _ _ _ ok1.fh ok1.er h (fun F1 H1 v d B b g1 r f hq => ?_) (E.exw ok1)
  obtain ⟨As', ok', _⟩ := (ok1.grow g1).set r (ok1.own (Fresh.of_safe r f hq.1)) (by rw [eP]; exact hP)
  exact E.nx F1 H1 _ _ As' ok' hq.2
end
/-- sorted(ints) -/
def sortedD : GC
  | [.nd (.lst _) ds], Q => ∃ ns, intsOf ds = some ns ∧ ∀ ns' : List Int, ns'.Perm ns → ns'.Pairwise (· ≤ ·) → Q (.lst true (ns'.map D.int))
  | _, _ => False
theorem repl_int {K : PySem.W.Frag} {R : RT} {F H : Hp} : ∀ ns : List Int, RepL K R F H (ns.map V.int) (ns.map D.int) []
  | [] => .nil
  | n :: r => RepL.cons (A := []) (B := []) (.sc (.int n)) (repl_int r)
theorem sortedD_ok {X : Cx} {R : RT} : CallL X R (.builtin "sorted") sortedD := by
  refine ⟨_, cr_sortedI, fun F H vs ds B Q Qd s r hq out => ?_⟩
  unfold sortedD at hq
  split at hq
  · obtain ⟨ns, hi, hq⟩ := hq
    obtain ⟨v, rfl, rx⟩ := repl1 r
    have e := intsOf_eq hi
    subst e
    obtain ⟨a, us, B', rfl, r1, ha, _⟩ := lst_at rx s
    have eu := r1.ints
    subst eu
    exact ⟨a, ns, rfl, SqL.of ha, fun ns' p h1 h2 hp => new_list s (repl_int ns') out (hq ns' h1 h2) hp⟩
  · exact hq.elim
end DL

set_option Elab.async false
set_option linter.all false
set_option maxRecDepth 100000
set_option maxHeartbeats 1000000
namespace DL
open PySem PySem.Spec PyProof.Rows L2
variable {M : Bool}

/-! ## the program's own exceptions, each with one field that __init__ stores -/
def spXi (C : Addr) (f : Str) : Sp := fun vs H Q _ => ∃ a v, vs = [V.ref a, v] ∧ H a = some (exo a C none) ∧ ∀ dx, H dx = none → dx ≠ a → Q .non (upd (upd H dx (exd dx [(f, v)])) a (exo a C (some dx)))
theorem xi_read {K : PySem.W.Frag} {C : Addr} {f : Str} (T : OexC K C) (no : PySem.W.findIn K (.ref C) f = some none) {N : List Str} (hN : N.length = 2) {vs : List V} {H : Hp} {Q : VK} {E : XK} (h : spXi C f vs H Q E) :
    tOst K f (tVar 0) (tVar 1) { nx := fun _ H' => Q .non H', rt := Q } (L2.start N vs) H := by
  obtain ⟨a, v, rfl, ha, k⟩ := h
  refine ⟨v, rfl, .ref a, rfl, a, C, rfl, T, no, .inl ⟨ha, fun dx h1 h2 => k dx h1 h2⟩⟩
structure ExC (K : PySem.W.Frag) (mg : Str → Option Value) (R : RT) (c : Nat) (x f : Str) (fI : Addr) : Prop where
  T : OexC K (R.cls c)
  lay : R.lay c = [f]
  iC : PySem.W.findIn K (.ref (R.cls c)) "__init__" = some (some (.ref fI))
  tI : PySem.W.typeIn K (.ref fI) = some (.type "function")
  no : PySem.W.findIn K (.ref (R.cls c)) f = some none
  gm : mg x = some (.ref (R.cls c))
/-- C(e, ..), nothing handled: its context is None -/
theorem pmk_oexN {X : Cx} {CX : CXT} {x : Str} {e : Expr} {es : List Expr} {ta : TA} {p pos : Pos} {C fI : Addr} {k : Nat} {fd : FuncData} {ps : List Str} {sp : Sp} (T : OexC X.K C) (iC : PySem.W.findIn X.K (.ref C) "__init__" = some (some (.ref fI))) (tI : PySem.W.typeIn X.K (.ref fI) = some (.type "function"))
    (F1 : FnOk X.prog X.w X.K X.mg X.base CX k fI fd ps sp) (hr : Room (k + 1) X.A) (hb : Binds X.K fd ps []) (hx : Passes CX X (fun _ _ _ => False)) (hg : Gl X x) (hm : X.mg x = some (.ref C)) (ha : PA X (e :: es) ta)
    (hdb : (x == ("__debug__" : Str)) = false := by decide) (he : starEach (e :: es) X.env = (false, eval e X.env) :: starEach es X.env := by rfl) (hpl : (backTo pos (starEach es X.env)).any (·.1) = false := by rfl) :
    L2N.PMk X (.Call (.Name x p) (e :: es) [] pos) (tMkO C sp [] ta) := by
  intro pins s σ H Q I h
  obtain ⟨nm, q, N, bs, bm, sn, sub, ab, col, dd, k0, k1, k2, k3, k5, hC, hbm⟩ := T.cls
  refine wpAny_Call_Name_kw (ld_glob I hg hm ?_ hdb)
  refine PySem.W.callWith_K (h₀ := X.base) I.ok.mod.kin T.kC (thn (ha.run pos pins s σ H _ I h) fun us s1 ⟨vs, H1, I1, r1, hz, q1⟩ => ⟨I1.kIn, ?_⟩) he hpl
  show wpAny _ _ (call (.ref C) us) _ _ _
  obtain ⟨hp, g, dr, tk, os⟩ := s1
  have hsz : hp.objs.size ≤ hp.objs.size + 1 := Nat.le_succ _
  have hn : H1 (hp.objs.size + 1) = none := I1.hok.fresh hsz
  have hq := q1 (hp.objs.size + 1) hn
  rw [List.append_nil] at hq
  have kk : ∀ b o, hp.get? b = some o → ((hp.push (PySem.W.kdv_tup us)).push (PySem.HandSPX.excO C hp.objs.size)).get? b = some o := fun b o e => Heap.get?_push_of_some _ (Heap.get?_push_of_some _ e)
  have hget : ((hp.push (PySem.W.kdv_tup us)).push (PySem.HandSPX.excO C hp.objs.size)).get? (hp.objs.size + 1) = some (PySem.HandSPX.excO C hp.objs.size) := by heap_get
  have I2 : Inv X pins σ (upd H1 (hp.objs.size + 1) (exo (hp.objs.size + 1) C none)) ⟨(hp.push (PySem.W.kdv_tup us)).push (PySem.HandSPX.excO C hp.objs.size), g, dr, tk, os⟩ :=
    I1.laid (t' := tk) (a := hp.objs.size + 1) (o := exo (hp.objs.size + 1) C none) (h' := (hp.push (PySem.W.kdv_tup us)).push (PySem.HandSPX.excO C hp.objs.size)) kk hsz (exo_ok hget)
  have r2 : Vals (V.ref (hp.objs.size + 1) :: vs) (Value.ref (hp.objs.size + 1) :: us) := .cons rfl r1
  have hl : (Value.ref (hp.objs.size + 1) :: us ++ []).length = ps.length := by
    have e := r2.length
    rw [F1.len _ _ _ _ hq] at e
    rw [List.append_nil]
    exact e.symm
  have hus : us.length ≤ sizeLine := by
    rw [← Paired.length r1, sizeLine_eq]
    omega
  have b2 := hb _ (Value.ref (hp.objs.size + 1) :: us) I2.kIn hl
  rw [List.append_nil] at b2
  refine wpAny_call (PySem.HandSPX.call_own F.excBase_ValueError (fun Y => PySem.HandSPX.refsVE_contains Y bm hbm) (I1.kIn _ _ hC) (PySem.W.looks_findIn I1.kIn iC) (fun self => PySem.W.bind_fn I1.kIn self tI) hus
    (codeAny_mono (F1.run _ X.stack _ _ ⟨Value.ref (hp.objs.size + 1) :: us, []⟩ (Value.ref (hp.objs.size + 1) :: us) _ _ (fun _ _ _ => False) (hr.make C us []) (I2.env0.make C us []) b2 r2 hq) fun r s' hq' => ?_))
  cases r with
  | error er => exact hx pins σ _ _ er s' I2 hq'
  | ok fl =>
    cases fl with
    | ret u =>
      obtain ⟨v, H2, os2, bare2, un2, hok2, rv, ev, d, fs, ea, ed, hd1, q2⟩ := hq'
      subst ev
      obtain ⟨h2, g2, d2, t2, os'⟩ := s'
      obtain ⟨t0, G, J, kG, ge, hoe, na⟩ := mk_end0 (d2 := d2) (t2 := t2) I1 hsz kk un2 hok2 os2 bare2 ea ed hd1
      refine ⟨rv, hp.objs.size + 1, _, _, ⟨G, g2, d2, t2, os'⟩, _, .ref C, some d, rfl, J, kG, ge, hoe, ⟨rfl, rfl, fun vs hv => ?_⟩, rfl, rfl, na, rfl, bare2, raises_own T.exC T.tyC, q2⟩
      cases hv
      rfl
    | next => exact False.elim hq'
    | brk => exact False.elim hq'
    | cont => exact False.elim hq'
theorem pmk_zc {X : Cx} {e : Expr} {t : L2.St → Hp → XK → Prop} (h : L2N.PMk X e t) : L2.PMk X e t := fun pins s σ H Q I q => wpAny_mono (h pins s σ H Q I q) (fun u s' m => by
  obtain ⟨a, oe, vs, sI, H', cls, d, h1, h2, h3, h4, h5, h6, h7⟩ := m
  exact ⟨a, oe, vs, sI, H', cls, d, h1, h2, h3, h4, h5, L2N.Zn.zc h6, h7⟩) fun _ _ z => z
/-- raise C(e) -/
def dRaise (c : Nat) (te : TEd) : TSd := fun D env => te env (fun b d => safe b d ∧ D.ex ⟨c, [frz d]⟩ env) (fun x => D.ex x env)
section
variable {X : Cx} {R : RT} {P : List Nat} {c k : Nat} {x f : Str} {fI : Addr} {fd : FuncData} {ps : List Str} {e : Expr} {te : TEd} {p pos pos2 : Pos}
/-- where the made exception goes -/
theorem raise_to {W : WX} {t : TE} (hc : ExC X.K X.mg R c x f fI) (a2 : LE X.K R W t te) : LS X.K R W P (fun _ σ H => tMkO (R.cls c) (spXi (R.cls c) f) [] (tCons t tNil) σ H fun cls d H' => W cls d σ H') (dRaise c te) := by
  intro C F H σ env As Dh Dd eP ok E h
  refine a2 F H σ env As _ _ _ ok.fh ok.er h (fun F1 H1 v d B b g1 r1 f1 hq => ?_) (E.exw ok)
  have fB := Fresh.of_safe r1 f1 hq.1
  obtain ⟨F2, k1, _, g2, _⟩ := give (K := X.K) (R := R) g1.fh g1 fB
  have r2 := k1 v d r1
  show ([v] : List V).length ≤ 1000 ∧ _
  refine ⟨by simp, fun a ha => ⟨a, v, rfl, upd_same, fun dx hd hne => ⟨rfl, dx, [(f, v)], upd_same, ?_, ?_, ?_⟩⟩⟩
  · rw [upd_ne hne]; exact upd_same
  · rwa [upd_ne hne] at hd
  · rw [upd_ne hne] at hd
    have eh : upd (del (upd (upd (upd H1 a (exo a (R.cls c) none)) dx (exd dx [(f, v)])) a (exo a (R.cls c) (some dx))) a) dx (.xd [(f, v)]) = upd H1 dx (.xd [(f, v)]) := by
      funext b
      by_cases h1 : b = dx
      · rw [h1, upd_same, upd_same]
      · rw [upd_ne h1, upd_ne h1]
        by_cases h2 : b = a
        · rw [h2, del_same, ha]
        · rw [del_ne h2, upd_ne h2, upd_ne h1, upd_ne h2]
    rw [eh]
    have g3 : Grow F2 H1 (upd F2 dx (.xd [(f, v)])) (upd H1 dx (.xd [(f, v)])) := Grow.newF g2.fh hd
    refine E.ex _ _ σ env As _ _ ⟨c, [frz d]⟩ (ok.grow (g2.trans g3)) ⟨rfl, .inr ⟨dx, [v], rfl, by rw [hc.lay]; rfl, by rw [hc.lay]; exact upd_same, ?_⟩⟩ hq.2
    exact RepL.cons (A := []) (B := []) ((r2.grow g3).mono (.refl _) fun _ z => by cases z) .nil
theorem ds_raise (hc : ExC X.K X.mg R c x f fI) (F1 : FnOk X.prog X.w X.K X.mg X.base (CXm false X.prog X.w) k fI fd ps (spXi (R.cls c) f)) (hr : Room (k + 1) X.A) (hb : Binds X.K fd ps []) (hcalm : X.calm = true) (h : DE M X R e te)
    (hg : Gl X x := by rfl) (hdb : (x == ("__debug__" : Str)) = false := by decide) (he : starEach [e] X.env = (false, eval e X.env) :: starEach [] X.env := by rfl) (hpl : (backTo pos (starEach [] X.env)).any (·.1) = false := by rfl) :
    DS M X R P (.Raise (some (.Call (.Name x p) [e] [] pos)) none pos2) (dRaise c te) := fun W tk => by
  obtain ⟨_, a1, a2⟩ := h W tk
  have mk := pmk_oexN (p := p) (pos := pos) hc.T hc.iC hc.tI F1 hr hb (fun pins σ H s e s' I z => passL pins σ H s e s' I z) hg hc.gm (pa_cons a1 pa_nil he) hdb he hpl
  refine ⟨_, ?_, raise_to hc a2⟩
  cases M with
  | false => exact L2.ps_raise hcalm tk (pmk_zc mk)
  | true => exact L2N.ps_raise hcalm tk mk
end
end DL

set_option Elab.async false
set_option linter.all false
set_option maxRecDepth 100000
set_option maxHeartbeats 1000000
namespace DL
open PySem PySem.Spec PyProof.Rows L2
variable {M : Bool}

/-! ## try .. except C: raise C2(e) -/
def canS (K : PySem.W.Frag) (R : RT) (W : WX) (P : List Nat) (td : TSd) : TS := fun Dh σ H => ∃ (C : Ba) (F : Hp) (env : Sl) (As : Nat → List Addr) (Dd : ED), C.P = P ∧ Ok K R C F H σ env As ∧ Ends' K R W C Dh Dd ∧ td Dd env
theorem pss_can {X : Cx} {R : RT} {W : WX} {P : List Nat} {body : List Stmt} {td : TSd} (tk : Tk M X W) (h : DSs M X R P body td) : PSs X body (canS X.K R W P td) := by
  obtain ⟨t, a1, a2⟩ := h W tk
  refine ⟨fun pins s σ H D I q => ?_⟩
  obtain ⟨C, F, env, As, Dd, eP, ok, E, h⟩ := q
  exact a1.run pins s σ H D I (a2 C F H σ env As D Dd eP ok E h)
/-- m: which classes the clause names -/
def exM (m : Nat → Option Bool) (c : Nat) (P Q : Prop) : Prop := match m c with
  | some true => P
  | some false => Q
  | none => False
def dTryR (m : Nat → Option Bool) (tb ts : TSd) : TSd := fun D env => tb { D with ex := fun x env' => exM m x.c (ts D env') (D.ex x env') } env
section
variable {X : Cx} {R : RT} {P : List Nat} {k : Nat} {c1 c2 : Nat} {x y f : Str} {fI : Addr} {fd : FuncData} {ps : List Str} {e : Expr} {te : TEd} {np p pos pos1 pos2 pos3 : Pos} {body : List Stmt} {tdb : TSd} {m : Nat → Option Bool}
theorem ds_tryR (hs : X.stack = X.env :: X.outer) (hf : X.env.frame = some X.env.locals) (hpa : ∀ hd : Option Value, PassesOwnAt (model X.prog X.w) (X.A.mark hd) X.A X.env X.xe)
    (gx : Gl X x) (hdx : (x == ("__debug__" : Str)) = false) (mx : X.mg x = some (.ref (R.cls c1))) (hm : ∀ i b, m i = some b → PySem.W.exmOne X.K (.ref (R.cls i)) (.ref (R.cls c1)) = some b)
    (hb : ∀ (pn : List (Addr × Obj)) (xe : Value → Shared → Prop), PassesOwn (model X.prog X.w) X.A X.env xe → DSs true (X.tr pn xe) R P body tdb)
    (hc : ExC X.K X.mg R c2 y f fI) (F1 : L2H.FnH X.prog X.w X.K X.mg X.base (CXm false X.prog X.w) k fI fd ps (spXi (R.cls c2) f)) (hr : Room (k + 1) X.A) (hbd : Binds X.K fd ps [])
    (he : ∀ (a : Addr) (pn : List (Addr × Obj)), DE false (L2H.suiteX X a pn) R e te)
    (hg : Gl X y := by rfl) (hdb : (y == ("__debug__" : Str)) = false := by decide) (hse : starEach [e] X.env = (false, eval e X.env) :: starEach [] X.env := by rfl) (hpl : (backTo pos1 (starEach [] X.env)).any (·.1) = false := by rfl) :
    DS false X R P (.Try body [.ExceptHandler (some (.Name x np)) none [.Raise (some (.Call (.Name y p) [e] [] pos1)) none pos2] pos3] [] [] pos) (dTryR m tdb (dRaise c2 te)) := fun W tk => by
  refine ⟨_, L2H.ps_try_onlyX (Wout := W) (tb := fun W' => canS X.K R W' P tdb) (ts := fun _ _ _ => (fun _ σ H => tMkO (R.cls c2) (spXi (R.cls c2) f) [] (tCons (canE X.K R W te) tNil) σ H fun cls d H' => W cls d σ H')) hs hf ⟨gx, hdx, .inl mx⟩ hpa tk
    (fun W' pn xe tn _ po => pss_can (M := true) tn (hb pn xe po)) (fun a oe cls d pn _ _ tks hot => pss_one (L2H.ps_raiseH hot tks (L2H.PMk5.pmk (L2H.pmk5_oexH hc.T hc.iC hc.tI F1 (L2H.roomH_mark hr _) hot hbd (fun pins σ H s e s' I z => passL pins σ H s e s' I z) hg hc.gm (pa_cons (pe_can (M := false) tks (he a _)) pa_nil hse) hdb hse hpl)))), ?_⟩
  intro C F H σ env As Dh Dd eP ok E h
  refine ⟨C, F, env, As, { Dd with ex := fun x env' => exM m x.c (dRaise c2 te Dd env') (Dd.ex x env') }, eP, ok, ⟨E.nx, E.rt, E.bk, E.ct, fun F1 H1 σ1 env1 As1 cls dx xx ok1 rx hx => ?_⟩, h⟩
  have hx : exM m xx.c (dRaise c2 te Dd env1) (Dd.ex xx env1) := hx
  unfold exM at hx
  split at hx
  · rename_i hb
    refine ⟨true, by rw [rx.1]; exact hm xx.c true hb, fun _ a ha => ?_, fun z => by cases z⟩
    refine raise_to hc (P := P) (te := te) ?_ C F1 H1 σ1 env1 As1 Dh Dd eP ok1 E hx
    intro F2 H2 σ2 env2 As2 Q2 Qd2 Ed2 s2 er2 h2 q2 x2
    exact ⟨F2, env2, As2, Qd2, Ed2, s2, er2, h2, q2, x2⟩
  · rename_i hb
    refine ⟨false, by rw [rx.1]; exact hm xx.c false hb, fun z => by (cases z), fun _ => E.ex F1 H1 σ1 env1 As1 cls dx xx ok1 rx hx⟩
  · exact hx.elim
end
end DL

set_option Elab.async false
set_option linter.all false
set_option maxRecDepth 100000
set_option maxHeartbeats 1000000
namespace DL
open PySem PySem.Spec L2
variable {M : Bool}

/-! ## a slot's thing is changed at a place, while things are laid and given up beside -/
section
variable {K : PySem.W.Frag} {R : RT} {F H : Hp}
theorem RepL.atG {vs : List V} {ds : List D} {A : List Addr} (r : RepL K R F H vs ds A) {j : Nat} {v : V} {d : D} (hv : vs[j]? = some v) (hd : ds[j]? = some d) :
    ∃ A1 Aj A2, A = A1 ++ (Aj ++ A2) ∧ Rep K R F H v d Aj ∧ ∀ F' H' d' Aj', Same F F' → (∀ b, b ∈ A1 ∨ b ∈ A2 → H' b = H b ∧ F' b = Option.none) → Rep K R F' H' v d' Aj' → RepL K R F' H' vs (ds.set j d') (A1 ++ (Aj' ++ A2)) := by
  induction ds generalizing vs A j with
  | nil => simp at hd
  | cons d0 t ih =>
    cases r with
    | cons r1 r2 =>
      rename_i v0 A0 vs0 B0
      cases j with
      | zero =>
        simp at hv hd
        subst hv hd
        refine ⟨[], A0, B0, rfl, r1, fun F' H' d' Aj' sF hb r' => ?_⟩
        exact RepL.cons (A := Aj') (B := B0) r' (r2.mono sF fun a ha => hb a (.inr ha))
      | succ j =>
        obtain ⟨A1, Aj, A2, e, ra, k⟩ := ih r2 (by simpa using hv) (by simpa using hd)
        refine ⟨A0 ++ A1, Aj, A2, by rw [e, List.append_assoc], ra, fun F' H' d' Aj' sF hb r' => ?_⟩
        have q := k F' H' d' Aj' sF (fun b h => hb b (h.imp (List.mem_append_right _) id)) r'
        rw [List.append_assoc, List.set_cons_succ]
        exact .cons (r1.mono sF fun a ha => hb a (.inl (List.mem_append_left _ ha))) q
/-- a child of a node that is not given up -/
theorem childG {v : V} {k : Kind} {ds : List D} {A : List Addr} (r : Rep K R F H v (.nd k ds) A) (s : Same F H) (hf : ¬ fz (.nd k ds) = true) {j : Nat} {p : List Nat} {w : V} (wk : Walk R H v (j :: p) w) {d : D} (hd : ds[j]? = some d) :
    ∃ (a : Addr) (vs : List V) (v1 : V) (A1 Aj A2 A0 : List Addr), v = .ref a ∧ vs[j]? = some v1 ∧ Walk R H v1 p w ∧ A = A0 ++ (A1 ++ (Aj ++ A2)) ∧ Rep K R F H v1 d Aj ∧
      ∀ F' H' d' Aj', Same F F' → (∀ b, b ∈ A0 ∨ b ∈ A1 ∨ b ∈ A2 → H' b = H b ∧ F' b = Option.none) → Rep K R F' H' v1 d' Aj' → Rep K R F' H' v (.nd k (ds.set j d')) (A0 ++ (A1 ++ (Aj' ++ A2))) := by
  cases r with
  | fz h1 h2 h3 =>
    rename_i a vs
    rcases h3 with ⟨hk, e⟩ | e
    · subst hk
      have e' := s _ _ e
      have : ∃ v1, vs[j]? = some v1 ∧ Walk R H v1 p w := by
        cases wk with
        | lst q1 q2 q3 => rw [e'] at q1; cases q1
        | tup q1 q2 q3 => rw [e'] at q1; cases q1; exact ⟨_, q2, q3⟩
        | dct q1 q2 q3 q4 => rw [e'] at q1; cases q1
        | ins q1 q2 q3 q4 => rw [e'] at q1; cases q1
      obtain ⟨v1, hv, wk1⟩ := this
      obtain ⟨A1, Aj, A2, eA, rj, k⟩ := h2.atG hv hd
      refine ⟨a, vs, v1, A1, Aj, A2, [], rfl, hv, wk1, by rw [eA]; rfl, rj, fun F' H' d' Aj' sF hb r' => ?_⟩
      exact .fz (StF.mono sF h1) (k F' H' d' Aj' sF (fun b h => hb b (.inr h)) r') (.inl ⟨rfl, sF _ _ e⟩)
    · subst e
      exact absurd ((Rep.fz h1 h2 (.inr rfl) : Rep K R F H _ (.nd k ds) []).fzOf rfl) hf
  | ow h1 h2 h3 =>
    rename_i a vs A'
    have hv : ∃ v1, vs[j]? = some v1 ∧ Walk R H v1 p w := by
      cases k with
      | scr => exact h1.elim
      | tup => exact h1.elim
      | lst o =>
        have e := h1.2
        cases wk with
        | lst q1 q2 q3 => rw [e] at q1; cases q1; exact ⟨_, q2, q3⟩
        | tup q1 q2 q3 => rw [e] at q1; cases q1
        | dct q1 q2 q3 q4 => rw [e] at q1; cases q1
        | ins q1 q2 q3 q4 => rw [e] at q1; cases q1
      | dct o ks =>
        have e := h1.2.2
        cases wk with
        | lst q1 q2 q3 => rw [e] at q1; cases q1
        | tup q1 q2 q3 => rw [e] at q1; cases q1
        | dct q1 q2 q3 q4 =>
          rename_i ks2 vs2 v1
          rw [e] at q1
          have z : zipK ks vs = zipK ks2 vs2 := HO.dK.inj (Option.some.inj q1)
          have z2 := congrArg (List.map (·.2)) z
          unfold zipK at z2
          rw [zip_snd (by rw [List.length_map, h1.2.1]; exact Nat.le_refl _), zip_snd (by rw [List.length_map, q2]; exact Nat.le_refl _)] at z2
          exact ⟨_, by rw [z2]; exact q3, q4⟩
        | ins q1 q2 q3 q4 => rw [e] at q1; cases q1
      | dcT o ks =>
        have e := h1.2.2
        cases wk with
        | lst q1 q2 q3 => rw [e] at q1; cases q1
        | tup q1 q2 q3 => rw [e] at q1; cases q1
        | dct q1 q2 q3 q4 => rw [e] at q1; cases q1
        | ins q1 q2 q3 q4 => rw [e] at q1; cases q1
      | ins o c =>
        obtain ⟨_, hl, dx, e⟩ := h1
        cases wk with
        | lst q1 q2 q3 => rw [e] at q1; cases q1
        | tup q1 q2 q3 => rw [e] at q1; cases q1
        | dct q1 q2 q3 q4 => rw [e] at q1; cases q1
        | ins q1 q2 q3 q4 =>
          rw [e] at q1
          have z := (HO.ins.inj (Option.some.inj q1)).2.2
          have z2 := congrArg (List.map (·.2)) z
          rw [zip_snd hl, zip_snd q2] at z2
          exact ⟨_, by rw [z2]; exact q3, q4⟩
    obtain ⟨v1, hv, wk1⟩ := hv
    obtain ⟨A1, Aj, A2, eA, rj, k⟩ := h3.atG hv hd
    refine ⟨a, vs, v1, A1, Aj, A2, [a], rfl, hv, wk1, by rw [eA]; rfl, rj, fun F' H' d' Aj' sF hb r' => ?_⟩
    exact .ow (h1.at (hb a (.inl (List.mem_singleton.mpr rfl))).1) (hb a (.inl (List.mem_singleton.mpr rfl))).2 (k F' H' d' Aj' sF (fun b h => hb b (.inr h)) r')
theorem focusG : ∀ (p : List Nat) {v w : V} {d dp : D} {A : List Addr}, Rep K R F H v d A → Same F H → getP p d = some dp → Walk R H v p w →
    ∃ Ap, Rep K R F H w dp Ap ∧ (∀ b ∈ Ap, b ∈ A) ∧ (A.Nodup → Ap.Nodup ∧ ∀ F' H' dp' Ap', Same F F' → (∀ b ∈ A, b ∉ Ap → H' b = H b ∧ F' b = Option.none) → Rep K R F' H' w dp' Ap' → (∀ b ∈ Ap', b ∈ Ap ∨ b ∉ A) → Ap'.Nodup →
      ∃ A', Rep K R F' H' v (setP p d dp') A' ∧ A'.Nodup ∧ ∀ b ∈ A', (b ∈ A ∧ b ∉ Ap) ∨ b ∈ Ap')
  | [], v, w, d, dp, A, r, s, hg, wk => by
    cases wk
    cases hg
    exact ⟨A, r, fun b h => h, fun nd => ⟨nd, fun F' H' dp' Ap' _ _ r' _ n' => ⟨Ap', r', n', fun b h => .inr h⟩⟩⟩
  | j :: p, v, w, d, dp, A, r, s, hg, wk => by
    cases d with
    | sc x => cases hg
    | nd k ds =>
      rw [getP] at hg
      by_cases hf : fz (.nd k ds) = true
      · rw [if_pos hf] at hg; cases hg
      · rw [if_neg hf] at hg
        cases hd : ds[j]? with
        | none => rw [hd] at hg; cases hg
        | some dj =>
          rw [hd] at hg
          have hg : getP p dj = some dp := hg
          obtain ⟨a, vs, v1, A1, Aj, A2, A0, ev, hv, wk1, eA, rj, kk⟩ := childG r s hf wk hd
          obtain ⟨Ap, r1, sub, k2⟩ := focusG p rj s hg wk1
          refine ⟨Ap, r1, fun b h => by rw [eA]; exact List.mem_append_right _ (List.mem_append_right _ (List.mem_append_left _ (sub b h))), fun nd => ?_⟩
          rw [eA] at nd
          obtain ⟨n0, nr, d0⟩ := List.nodup_append.mp nd
          obtain ⟨n1, nr2, d1⟩ := List.nodup_append.mp nr
          obtain ⟨nj, n2, d2⟩ := List.nodup_append.mp nr2
          obtain ⟨nAp, k3⟩ := k2 nj
          refine ⟨nAp, fun F' H' dp' Ap' sF hb r' hA' nA' => ?_⟩
          have inA : ∀ b, b ∈ Aj → b ∈ A := fun b h => by rw [eA]; exact List.mem_append_right _ (List.mem_append_right _ (List.mem_append_left _ h))
          have out0 : ∀ b, b ∈ A0 → b ∉ Aj := fun b h z => d0 b h b (List.mem_append_right _ (List.mem_append_left _ z)) rfl
          have out1 : ∀ b, b ∈ A1 → b ∉ Aj := fun b h z => d1 b h b (List.mem_append_left _ z) rfl
          have out2 : ∀ b, b ∈ A2 → b ∉ Aj := fun b h z => d2 b z b h rfl
          obtain ⟨Aj', rj', nj', sj'⟩ := k3 F' H' dp' Ap' sF (fun b h hn => hb b (inA b h) hn) r' (fun b h => (hA' b h).imp id fun z y => z (inA b y)) nA'
          have outsj : ∀ b, b ∈ Aj' → b ∈ Aj ∨ b ∉ A := fun b h => by
            rcases sj' b h with z | z
            · exact .inl z.1
            · rcases hA' b z with y | y
              · exact .inl (sub b y)
              · exact .inr y
          have m0 : ∀ b, b ∈ A0 → b ∈ A := fun b h => by rw [eA]; exact List.mem_append_left _ h
          have m1 : ∀ b, b ∈ A1 → b ∈ A := fun b h => by rw [eA]; exact List.mem_append_right _ (List.mem_append_left _ h)
          have m2 : ∀ b, b ∈ A2 → b ∈ A := fun b h => by rw [eA]; exact List.mem_append_right _ (List.mem_append_right _ (List.mem_append_right _ h))
          refine ⟨A0 ++ (A1 ++ (Aj' ++ A2)), ?_, ?_, ?_⟩
          · rw [setP]
            simp only [hd]
            refine kk F' H' _ Aj' sF (fun b h => ?_) rj'
            rcases h with h | h | h
            · exact hb b (m0 b h) fun z => out0 b h (sub b z)
            · exact hb b (m1 b h) fun z => out1 b h (sub b z)
            · exact hb b (m2 b h) fun z => out2 b h (sub b z)
          · refine List.nodup_append.mpr ⟨n0, List.nodup_append.mpr ⟨n1, List.nodup_append.mpr ⟨nj', n2, fun x hx y hy e => ?_⟩, fun x hx y hy e => ?_⟩, fun x hx y hy e => ?_⟩
            · subst e
              rcases outsj x hx with z | z
              · exact out2 x hy z
              · exact z (m2 x hy)
            · subst e
              rcases List.mem_append.mp hy with hy | hy
              · rcases outsj x hy with z | z
                · exact out1 x hx z
                · exact z (m1 x hx)
              · exact d1 x hx x (List.mem_append_right _ hy) rfl
            · subst e
              rcases List.mem_append.mp hy with hy | hy
              · exact d0 x hx x (List.mem_append_left _ hy) rfl
              · rcases List.mem_append.mp hy with hy | hy
                · rcases outsj x hy with z | z
                  · exact out0 x hx z
                  · exact z (m0 x hx)
                · exact d0 x hx x (List.mem_append_right _ (List.mem_append_right _ hy)) rfl
          · intro b h
            rcases List.mem_append.mp h with h | h
            · exact .inl ⟨m0 b h, fun z => out0 b h (sub b z)⟩
            · rcases List.mem_append.mp h with h | h
              · exact .inl ⟨m1 b h, fun z => out1 b h (sub b z)⟩
              · rcases List.mem_append.mp h with h | h
                · rcases sj' b h with z | z
                  · exact .inl ⟨inA b z.1, z.2⟩
                  · exact .inr z
                · exact .inl ⟨m2 b h, fun z => out2 b h (sub b z)⟩
end
section
variable {K : PySem.W.Frag} {R : RT} {C : Ba} {F H : Hp} {σ : L2.St} {env : Sl} {As : Nat → List Addr}
theorem Ok.mutG (h : Ok K R C F H σ env As) {i : Nat} {v w : V} {d dp : D} {p : List Nat} (e : env[i]? = some (some d)) (ev : σ[i]? = some (some v)) (hg : getP p d = some dp) (wk : Walk R H v p w) :
    ∃ Ap, Rep K R F H w dp Ap ∧ (∀ b ∈ Ap, b ∈ As i) ∧ Ap.Nodup ∧ ∀ F' H' dp' Ap', Same F F' → Same F' H' → (∀ b o, H b = some o → b ∉ Ap → H' b = some o) → (∀ b o, H b = some o → ∃ o', H' b = some o') → (∀ b, b ∉ Ap → (∃ j, b ∈ As j) ∨ (∃ o, C.H0 b = some o) → F' b = F b) →
      Rep K R F' H' w dp' Ap' → Ap'.Nodup → (∀ b ∈ Ap', b ∈ Ap ∨ H b = none) → ∃ As', Ok K R C F' H' σ (env.set i (some (setP p d dp'))) As' ∧ ∀ j a, a ∈ As' j → (a ∈ As j ∧ a ∉ Ap) ∨ a ∈ Ap' := by
  obtain ⟨v0, e0, r⟩ := h.er.val i d e
  rw [ev] at e0
  cases e0
  obtain ⟨Ap, r1, sub, k⟩ := focusG p r h.fh hg wk
  obtain ⟨nAp, k⟩ := k (h.er.nod i)
  refine ⟨Ap, r1, sub, nAp, fun F' H' dp' Ap' sF sFH hH ht fr r' n' hA' => ?_⟩
  have old : ∀ j b, b ∈ As j → b ∉ Ap → H' b = H b ∧ F' b = none := fun j b hb hn => by
    obtain ⟨⟨o, ho⟩, hf⟩ := h.er.own hb
    exact ⟨by rw [ho]; exact hH b o ho hn, (fr b hn (.inl ⟨j, hb⟩)).trans hf⟩
  have isn : ∀ b, H b = none → ∀ j, b ∉ As j := fun b hb j hj => by
    obtain ⟨⟨o, ho⟩, _⟩ := h.er.own hj
    rw [hb] at ho; cases ho
  obtain ⟨A', rr, nn, ss⟩ := k F' H' dp' Ap' sF (fun b hb hn => old i b hb hn) r' (fun b hb => (hA' b hb).imp id fun z => isn b z i) n'
  have hi : i < env.length := (List.getElem?_eq_some_iff.mp e).1
  have inA : ∀ b ∈ A', b ∈ As i ∨ H b = none := fun b hb => by
    rcases ss b hb with z | z
    · exact .inl z.1
    · rcases hA' b z with y | y
      · exact .inl (sub b y)
      · exact .inr y
  refine ⟨fun j => if j = i then A' else As j, ⟨⟨by simpa using h.er.len, fun j x ej => ?_, fun j hj => ?_, fun j l a hjl hj => ?_, fun j => ?_⟩, sFH, fun a o q nA => ?_, fun a o q => ?_, h.kf.trans sF, fun a o q nA => ?_, fun j a hj => ?_, h.pin⟩, fun j a hj => ?_⟩
  · by_cases hji : j = i
    · subst hji
      rw [List.getElem?_set_self hi] at ej
      cases ej
      exact ⟨v, ev, by simpa using rr⟩
    · rw [List.getElem?_set_ne (Ne.symm hji)] at ej
      obtain ⟨u, e1, r2⟩ := h.er.val j x ej
      refine ⟨u, e1, ?_⟩
      simp only [if_neg hji]
      exact r2.mono sF fun a hj => old j a hj fun z => h.er.dis j i a hji hj (sub a z)
  · by_cases hji : j = i
    · subst hji
      exact absurd (List.getElem?_set_self hi) (hj _)
    · simp only [if_neg hji]
      exact h.er.emp j fun x ex => hj x (by rw [List.getElem?_set_ne (Ne.symm hji)]; exact ex)
  · have apart : ∀ k, k ≠ i → ∀ a, a ∈ A' → a ∉ As k := fun k hk a hA hk' => by
      rcases inA a hA with z | z
      · exact h.er.dis i k a (Ne.symm hk) z hk'
      · exact isn a z k hk'
    by_cases h1 : j = i
    · simp only [if_pos h1] at hj
      simp only [if_neg (fun z : l = i => hjl (h1.trans z.symm))]
      exact apart l (fun z => hjl (h1.trans z.symm)) a hj
    · simp only [if_neg h1] at hj
      by_cases h2 : l = i
      · simp only [if_pos h2]
        exact fun z => apart j h1 a z hj
      · simp only [if_neg h2]
        exact h.er.dis j l a hjl hj
  · by_cases h1 : j = i
    · simp only [if_pos h1]; exact nn
    · simp only [if_neg h1]; exact h.er.nod j
  · have nAp : a ∉ Ap := fun z => by
      rcases h.ow i a (sub a z) with y | y
      · exact nA y
      · rw [q] at y; cases y
    exact hH a o (h.kp a o q nA) nAp
  · obtain ⟨o', q'⟩ := h.tr a o q
    exact ht a o' q'
  · have nAp : a ∉ Ap := fun z => by
      rcases h.ow i a (sub a z) with y | y
      · exact nA y
      · rw [q] at y; cases y
    exact (fr a nAp (.inr ⟨o, q⟩)).trans (h.fr a o q nA)
  · have fin : ∀ b, H b = none → C.A0 b ∨ C.H0 b = none := fun b hb => by
      right
      cases q : C.H0 b with
      | none => rfl
      | some o =>
        obtain ⟨o', q'⟩ := h.tr b o q
        rw [hb] at q'; cases q'
    by_cases h1 : j = i
    · simp only [if_pos h1] at hj
      rcases inA a hj with z | z
      · exact h.ow i a z
      · exact fin a z
    · simp only [if_neg h1] at hj
      exact h.ow j a hj
  · by_cases h1 : j = i
    · subst h1
      simp only [if_true] at hj
      exact ss a hj
    · simp only [if_neg h1] at hj
      exact .inl ⟨hj, fun z => h.er.dis j i a h1 hj (sub a z)⟩
end
end DL

set_option Elab.async false
set_option linter.all false
set_option maxRecDepth 100000
set_option maxHeartbeats 1000000
namespace DL
open PySem PySem.Spec L2
variable {M : Bool}

/-! ## the cores of calls -/
section
variable {K : PySem.W.Frag} {R : RT} {F0 H0 F1 H1 : Hp} {vs : List V} {ds : List D} {B : List Addr} {n : Nat} {sp : SPD} {xs : List Sc} {Qd : D → Prop} {Ed : EX → Prop} {Q : VK} {E : XK}
theorem callA_core (g : Grow F0 H0 F1 H1) (r : RepL K R F1 H1 vs ds B) (fr : Fresh H0 B) (hl : ds.length + xs.length = n) (hq : sp (frzL ds ++ xs.map .sc) (fun d _ => Qd d) (fun x _ => Ed x))
    (q : ∀ F2 H2 v d B2, Grow F0 H0 F2 H2 → Rep K R F2 H2 v d B2 → Fresh H0 B2 → Qd d → Q v H2) (x : ∀ F2 H2 cls dx xx, Grow F0 H0 F2 H2 → RepX K R F2 cls dx xx → Ed xx → E cls dx H2) : toSp K R [] n sp (vs ++ xs.map encS) H1 Q E := by
  obtain ⟨F', s1, s2, r', e2, e1⟩ := lend g.fh r
  have rr := EnvR.argsD r' xs
  have k1 : ∀ {F2 H2 σ2 env2 As2}, Ok K R ⟨H1, F', fun a => ∃ i, a ∈ (fun _ => ([] : List Addr)) i, (vs ++ xs.map encS).map some, []⟩ F2 H2 σ2 env2 As2 → Grow F0 H0 F2 H2 := fun {F2 H2 σ2 env2 As2} ok => by
    have na : ∀ a : Addr, ¬ ∃ i : Nat, a ∈ (fun _ : Nat => ([] : List Addr)) i := fun a ⟨i, z⟩ => by cases z
    refine ⟨g.hh.trans fun a o q => ok.kp a o q (na a), (g.ff.trans s1).trans ok.kf, ok.fh, fun a o q => ?_⟩
    have hb : a ∉ B := fun z => by rw [fr.2 a z] at q; cases q
    rw [ok.fr a o (g.hh a o q) (na a)]
    show F' a = F0 a
    rw [e2 a hb, g.nw a o q]
  refine ⟨F', _, fun _ => [], _, _, ?_, s2, EnvR.args rr, fun _ _ => rfl, hq, fun F2 H2 σ2 env2 As2 v d B2 ok r2 o2 q2 => ?_, fun F2 H2 σ2 env2 As2 cls dx xx ok rx qx => ?_⟩
  · rw [List.length_append, List.length_map, r.length]; exact hl
  · refine q F2 H2 v d B2 (k1 ok) r2 ⟨o2.1, fun a ha => ?_⟩ q2
    rcases o2.2.1 a ha with ⟨i, z⟩ | z
    · cases z
    · exact g.free z
  · exact x F2 H2 cls dx xx (k1 ok) rx qx
theorem callL_core (g : Grow F0 H0 F1 H1) (r : RepL K R F1 H1 vs ds B) (hl : ds.length + xs.length = n) (hq : sp (frzL ds ++ xs.map .sc) (fun d _ => noC d = true ∧ Qd d) (fun x _ => x.args.all isSc = true ∧ Ed x))
    (q : ∀ F2 H2 v d B2, Grow F0 H0 F2 H2 → Rep K R F2 H2 v d B2 → Fresh H0 B2 → Qd d → Q v H2) (x : ∀ F2 H2 cls dx xx, Grow F0 H0 F2 H2 → RepX K R F2 cls dx xx → Ed xx → E cls dx H2) : toSp K R [] n sp (vs ++ xs.map encS) H1 Q E := by
  obtain ⟨F', s1, s2, r', e2, e1⟩ := lend g.fh r
  have rr := EnvR.argsD r' xs
  have na : ∀ a : Addr, ¬ ∃ i : Nat, a ∈ (fun _ : Nat => ([] : List Addr)) i := fun a ⟨i, z⟩ => by cases z
  have key : ∀ {F2 H2 σ2 env2 As2}, Ok K R ⟨H1, F', fun a => ∃ i, a ∈ (fun _ => ([] : List Addr)) i, (vs ++ xs.map encS).map some, []⟩ F2 H2 σ2 env2 As2 →
      ∃ F3, Grow F0 H0 F3 H2 ∧ (∀ a vs, F2 a = some (.tup vs) → F3 a = some (.tup vs)) ∧ (∀ a, F2 a = none → F3 a = none) ∧ ∀ a fs, F2 a = some (.xd fs) → F3 a = some (.xd fs) := fun {F2 H2 σ2 env2 As2} ok => by
    have at2 : ∀ a ∈ B, ∃ o, F2 a = some o ∧ flatO o := fun a ha => by
      obtain ⟨o, ho, hf⟩ := r.kinds a ha
      exact ⟨o, ok.kf a o (by show F' a = some o; rw [e1 a ha]; exact ho), hf⟩
    let F3 : Hp := fun a => if a ∈ B then F1 a else F2 a
    have f1 : ∀ a, a ∈ B → F3 a = none := fun a h => by show (if a ∈ B then F1 a else F2 a) = none; rw [if_pos h]; exact (r.own a h).2
    have f2 : ∀ a, a ∉ B → F3 a = F2 a := fun a h => if_neg h
    refine ⟨F3, g.trans ⟨fun a o q => ok.kp a o q (na a), fun a o q => ?_, fun a o q => ?_, fun a o q => ?_⟩, fun a vs q => ?_, fun a q => ?_, fun a fs q => ?_⟩
    · have hb : a ∉ B := fun z => by rw [(r.own a z).2] at q; cases q
      rw [f2 a hb]
      exact ok.kf a o (s1 a o q)
    · have hb : a ∉ B := fun z => by rw [f1 a z] at q; cases q
      rw [f2 a hb] at q
      exact ok.fh a o q
    · by_cases hb : a ∈ B
      · exact if_pos hb
      · rw [f2 a hb, ok.fr a o q (na a)]
        exact e2 a hb
    · have hb : a ∉ B := fun z => by
        obtain ⟨o, ho, hf⟩ := at2 a z
        rw [ho] at q
        cases q
        exact hf
      rw [f2 a hb]; exact q
    · by_cases hb : a ∈ B
      · exact f1 a hb
      · rw [f2 a hb]; exact q
    · have hb : a ∉ B := fun z => by
        obtain ⟨o, ho, hf⟩ := at2 a z
        rw [ho] at q
        cases q
        exact hf
      rw [f2 a hb]; exact q
  refine ⟨F', _, fun _ => [], _, _, ?_, s2, EnvR.args rr, fun _ _ => rfl, hq, fun F2 H2 σ2 env2 As2 v d B2 ok r2 o2 q2 => ?_, fun F2 H2 σ2 env2 As2 cls dx xx ok rx qx => ?_⟩
  · rw [List.length_append, List.length_map, r.length]; exact hl
  · obtain ⟨F3, g3, t1, t2, t3⟩ := key ok
    refine q F3 H2 v d B2 g3 (r2.thaw q2.1 t1 t2) ⟨o2.1, fun a ha => ?_⟩ q2.2
    rcases o2.2.1 a ha with ⟨i, z⟩ | z
    · cases z
    · exact g.free z
  · obtain ⟨F3, g3, t1, t2, t3⟩ := key ok
    refine x F3 H2 cls dx xx g3 ⟨rx.1, ?_⟩ qx.2
    rcases rx.2 with z | ⟨d, vs, z1, z2, z3, z4⟩
    · exact .inl z
    · exact .inr ⟨d, vs, z1, z2, t3 _ _ z3, z4.scs qx.1⟩
theorem EnvR.args0 {F H : Hp} {w : V} {dp : D} {A : List Addr} {vs : List V} {ds : List D} (r0 : Rep K R F H w dp A) (nA : A.Nodup) (h : RepL K R F H vs ds []) : EnvR K R F H ((w :: vs).map some) ((dp :: ds).map some) (fun j => if j = 0 then A else []) := by
  have q := EnvR.args h
  refine ⟨by simp [h.length], fun i d e => ?_, fun i hi => ?_, fun i j a hij ha => ?_, fun i => ?_⟩
  · cases i with
    | zero =>
      cases e
      exact ⟨w, rfl, r0⟩
    | succ i =>
      obtain ⟨v, e1, r1⟩ := q.val i d (by simpa using e)
      exact ⟨v, by simpa using e1, by simpa using r1⟩
  · cases i with
    | zero => exact absurd rfl (hi dp)
    | succ i => rfl
  · by_cases h0 : i = 0
    · have : ¬ j = 0 := fun z => hij (h0.trans z.symm)
      simp only [if_neg this]; exact List.not_mem_nil
    · simp only [if_neg h0] at ha; cases ha
  · by_cases h0 : i = 0
    · simp only [if_pos h0]; exact nA
    · simp only [if_neg h0]; exact List.nodup_nil
end
def slot0 (env : Sl) (Q : D → Prop) : Prop := match env[0]? with
  | some (some d) => Q d
  | _ => False
theorem slot0_of {env : Sl} {Q : D → Prop} (h : slot0 env Q) : ∃ d, env[0]? = some (some d) ∧ Q d := by
  unfold slot0 at h
  split at h
  · exact ⟨_, by assumption, h⟩
  · exact h.elim

/-! ## C(..) -/
section
variable {X : Cx} {CX : CXT} {k : Nat} {f C : Addr} {fd : FuncData} {ps : List Str} {sp : Sp} {E : L2.St → XK} {x m : Str} {p pos apos : Pos} {e o : Expr} {es : List Expr} {ta : TE} {t : TA} {dvs : List V} {dds : List Value}
theorem run_makeD {pins : List (Addr × Obj)} {σ : L2.St} {H : Hp} {s : Shared} {Q : VK} {us : List Value} {vs : List V} (Mc : Mk X.K C f) (F : FnOk X.prog X.w X.K X.mg X.base CX k f fd ps sp) (hr : Room (k + 1) X.A) (hb : Binds X.K fd ps dds) (hd : Vals dvs dds)
    (hx : PassesAt CX X σ (E σ)) (I : Inv X pins σ H s) (r : Vals vs us)
    (h : ∀ x dx, H x = none → H dx = none → dx ≠ x → sp (.ref x :: (vs ++ dvs)) (upd (upd H dx (.own x)) x (.ins C dx [])) (fun v H2 => v = .non ∧ Q (.ref x) H2) (E σ)) :
    wpAny (model X.prog X.w) X.A (call (.ref C) us) (EP X pins σ Q) X.xe s := by
  have hq := h (s.heap.objs.size + 1) s.heap.objs.size (I.hok.fresh (Nat.le_succ _)) (I.hok.fresh (Nat.le_refl _)) (Nat.ne_of_lt (Nat.lt_succ_self _))
  have I2 := Inv.made (C := C) I
  have r2 : Vals (V.ref (s.heap.objs.size + 1) :: (vs ++ dvs)) (Value.ref (s.heap.objs.size + 1) :: (us ++ dds)) := .cons rfl (r.append hd)
  have hl : (Value.ref (s.heap.objs.size + 1) :: us ++ dds).length = ps.length := by
    have e := r2.length
    rw [F.len _ _ _ _ hq] at e
    exact e.symm
  refine wpAny_call (make_map (f := f) I.kIn Mc.makes Mc.init (beq_iff_eq.mp Mc.fn) (codeAny_mono (F.run _ X.stack _ _ ⟨Value.ref (s.heap.objs.size + 1) :: us, []⟩ (Value.ref (s.heap.objs.size + 1) :: (us ++ dds)) _ _ (E σ) (hr.make C us [])
    (I2.env0.make C us []) (hb _ (Value.ref (s.heap.objs.size + 1) :: us) I2.kIn hl) r2 hq) fun r s' hq' => ?_))
  cases r with
  | error e => exact hx pins _ _ e s' I2 hq'
  | ok fl =>
    cases fl with
    | ret u =>
      obtain ⟨v, H', I3, rv, ev, q3⟩ := I2.after hq'
      subst ev
      exact ⟨rv, ⟨V.ref (s.heap.objs.size + 1), H', I3, rfl, q3⟩⟩
    | next => exact False.elim hq'
    | brk => exact False.elim hq'
    | cont => exact False.elim hq'
def tMakeD (C : Addr) (sp : Sp) (dvs : List V) (E : L2.St → XK) (t : TA) : TE := fun σ H Q => t σ H fun vs H1 => ∀ x dx, H1 x = none → H1 dx = none → dx ≠ x →
  sp (.ref x :: (vs ++ dvs)) (upd (upd H1 dx (.own x)) x (.ins C dx [])) (fun v H2 => v = .non ∧ Q (.ref x) H2) (E σ)
theorem pe_makeD (Mc : Mk X.K C f) (F : FnOk X.prog X.w X.K X.mg X.base CX k f fd ps sp) (hr : Room (k + 1) X.A) (hg : Gl X x) (hm : X.mg x = some (.ref C)) (hb : Binds X.K fd ps dds) (hd : Vals dvs dds) (hx : ∀ σ, PassesAt CX X σ (E σ))
    (ha : PA X (e :: es) t) (hdb : (x == ("__debug__" : Str)) = false := by decide) (he : starEach (e :: es) X.env = (false, eval e X.env) :: starEach es X.env := by rfl) (hpl : (backTo pos (starEach es X.env)).any (·.1) = false := by rfl) :
    PE X (.Call (.Name x p) (e :: es) [] pos) (tMakeD C sp dvs E t) := by
  refine ⟨fun pins s σ H Q I h => ?_⟩
  refine wpAny_Call_Name_kw (ld_glob I hg hm ?_ hdb)
  refine PySem.W.callWith_K (h₀ := X.base) I.ok.mod.kin Mc.kp (thn (ha.run pos pins s σ H _ I h) fun us s1 ⟨vs, H1, I1, r, q⟩ => ⟨I1.kIn, ?_⟩) he hpl
  exact run_makeD Mc F hr hb hd (hx σ) I1 r q
def tMethD (C : Addr) (m : Str) (sp : Sp) (dvs : List V) (E : L2.St → XK) (ta : TE) (t : TA) : TE := fun σ H Q => ta σ H fun x H1 => ∃ a dx fs, x = .ref a ∧ H1 a = some (.ins C dx fs) ∧ fs.lookup m = none ∧
  t σ H1 fun vs H2 => sp (x :: (vs ++ dvs)) H2 Q (E σ)
theorem pe_methD {pl : Sem Bool} (he : PE X o ta) (c : Cls X.K C) (hm : Meth X.K C m f) (F : FnOk X.prog X.w X.K X.mg X.base CX k f fd ps sp) (hr : Room k X.A) (hb : Binds X.K fd ps dds) (hd : Vals dvs dds) (hx : ∀ σ, PassesAt CX X σ (E σ)) (ha : PA X (e :: es) t)
    (hst : starEach (e :: es) X.env = (false, eval e X.env) :: starEach es X.env := by rfl) (hpl : (backTo pos (starEach es X.env)).any (·.1) = false := by rfl)
    (ht : eval (.Call (.Attribute o m apos) (e :: es) [] pos) X.env = (do
      let ov ← eval o X.env
      standAt apos.atName
      let (f, first) ← holding [ov] (getMethod ov m pl)
      callWith pos f first (backTo pos (starEach (e :: es) X.env)) (backToKw pos (keywordEach [] X.env))) := by rfl) :
    PE X (.Call (.Attribute o m apos) (e :: es) [] pos) (tMethD C m sp dvs E ta t) := by
  refine ⟨fun pins s σ H Q I h => ?_⟩
  refine PySem.W.methodCall_KW (pl := pl) (thn (he.run pins s σ H _ I h) fun u s1 ⟨x, H1, I1, rx, a, dx, fs, ex, ea, l, q⟩ => ?_) ht
  subst ex
  obtain rfl : u = Value.ref a := rx
  refine getmeth_ok I1 ea c hm l ?_
  refine PySem.W.callWith_K (first := [.ref a]) (h₀ := X.base) I.ok.mod.kin hm.kp (thn (ha.run pos pins s1 σ H1 _ I1 q) fun us s2 ⟨vs, H2, I2, r, q2⟩ => ⟨I2.kIn, ?_⟩) hst hpl
  exact run_fnD (us := .ref a :: us) (vs := .ref a :: vs) F hr hb hd (hx σ) I2 (.cons rfl r) q2
theorem pe_methD0 {pl : Sem Bool} (he : PE X o ta) (c : Cls X.K C) (hm : Meth X.K C m f) (F : FnOk X.prog X.w X.K X.mg X.base CX k f fd ps sp) (hr : Room k X.A) (hb : Binds X.K fd ps dds) (hd : Vals dvs dds) (hx : ∀ σ, PassesAt CX X σ (E σ))
    (ht : eval (.Call (.Attribute o m apos) [] [] pos) X.env = (do
      let ov ← eval o X.env
      standAt apos.atName
      let (f, first) ← holding [ov] (getMethod ov m pl)
      callWith pos f first (backTo pos (starEach [] X.env)) (backToKw pos (keywordEach [] X.env))) := by rfl) :
    PE X (.Call (.Attribute o m apos) [] [] pos) (tMethD C m sp dvs E ta tNil) := by
  refine ⟨fun pins s σ H Q I h => ?_⟩
  refine PySem.W.methodCall_KW (pl := pl) (thn (he.run pins s σ H _ I h) fun u s1 ⟨x, H1, I1, rx, a, dx, fs, ex, ea, l, q⟩ => ?_) ht
  subst ex
  obtain rfl : u = Value.ref a := rx
  refine getmeth_ok I1 ea c hm l ?_
  exact PySem.W.callWith_K0 (first := [.ref a]) I1.kIn hm.kp (run_fnD (us := [.ref a]) (vs := [.ref a]) F hr hb hd (hx σ) I1 (.cons rfl .nil) q)
end
def dMake (c n : Nat) (sp : SPD) (xs : List Sc) (ta : TAd) : TEd := fun env Q E => ta env (fun ds => ds.length + xs.length + 1 = n ∧ sp (.nd (.ins true c) [] :: (frzL ds ++ xs.map .sc)) (fun r env' => r = .non ∧ slot0 env' (Q false)) (fun x _ => E x)) E
def insD (c : Nat) : D → Prop
  | .nd (.ins _ c') _ => c' = c
  | _ => False
/-- o.m(..): what is handed over is given away / looked at -/
def dMethA (c n : Nat) (sp : SPD) (xs : List Sc) (td : TEd) (ta : TAd) : TEd := fun env Q E => td env (fun b d => safe b d ∧ insD c d ∧ ta env (fun ds => ds.length + xs.length + 1 = n ∧ sp (frz d :: (frzL ds ++ xs.map .sc)) (fun r _ => Q false r) (fun x _ => E x)) E) E
def dMethL (c n : Nat) (sp : SPD) (xs : List Sc) (td : TEd) (ta : TAd) : TEd := fun env Q E => td env (fun _ d => insD c d ∧ ta env (fun ds => ds.length + xs.length + 1 = n ∧ sp (frz d :: (frzL ds ++ xs.map .sc)) (fun r _ => noC r = true ∧ Q false r) (fun x _ => x.args.all isSc = true ∧ E x)) E) E
/-- path.m(..), changed in place -/
def dMethS (i : Nat) (pd : TPd) (c n : Nat) (sp : SPD) (xs : List Sc) (ta : TAd) (g : TGd) : TSd := fun D env => pd env (fun p => atP i env p fun _ d0 => (insD c d0 ∧ fz d0 = false) ∧ ta env (fun ds => atP i env p fun d dp => ds.length + xs.length + 1 = n ∧
  sp (dp :: (frzL ds ++ xs.map .sc)) (fun r env' => slot0 env' fun dp' => g r (env.set i (some (setP p d dp'))) D.nx) (fun x env' => slot0 env' fun dp' => D.ex x (env.set i (some (setP p d dp'))))) (fun x => D.ex x env)) (fun x => D.ex x env)
def gDrop : TGd := fun _ env Q => Q env
section
variable {K : PySem.W.Frag} {R : RT} {F H : Hp}
theorem lookup_out {fs : List Str} {vs : List V} {m : Str} (h : m ∉ fs) : (fs.zip vs).lookup m = none := by
  induction fs generalizing vs with
  | nil => rfl
  | cons a r ih =>
    cases vs with
    | nil => rfl
    | cons v vs =>
      have ne : (m == a) = false := beq_eq_false_iff_ne.mpr fun e => h (by rw [e]; exact List.mem_cons_self)
      rw [List.zip_cons_cons, List.lookup_cons]
      simp only [ne]
      exact ih fun z => h (List.mem_cons_of_mem _ z)
theorem insD_at {c : Nat} {d : D} {v : V} {B : List Addr} (s : Same F H) (r : Rep K R F H v d B) (h : insD c d) : ∃ a dx vs, v = .ref a ∧ H a = some (.ins (R.cls c) dx ((R.lay c).zip vs)) := by
  unfold insD at h
  split at h
  · subst h
    obtain ⟨a, dx, vs, B', e, _, _, _, ha⟩ := ins_at r s
    exact ⟨a, dx, vs, e, ha⟩
  · exact h.elim
end
end DL

set_option Elab.async false
set_option linter.all false
set_option maxRecDepth 100000
set_option maxHeartbeats 1000000
namespace DL
open PySem PySem.Spec L2
variable {M : Bool}
section
variable {X : Cx} {R : RT} {P : List Nat} {k n c i : Nat} {f : Addr} {fd : FuncData} {ps : List Str} {sp : SPD} {x m : Str} {p pos apos : Pos} {o e : Expr} {es : List Expr} {td : TEd} {ta : TAd} {pd : TPd} {dds : List Value} {xs : List Sc}
theorem le_make {W : WX} {t : TA} (a2 : LA X.K R W t ta) : LE X.K R W (tMakeD (R.cls c) (toSp X.K R [0] n sp) (xs.map encS) (WE W) t) (dMake c n sp xs ta) := by
  intro F0 H0 σ env As Q Qd Ed s er h q x
  refine a2 F0 H0 σ env As _ _ Ed s er h (fun F1 H1 vs ds B g r fr hq => ?_) x
  obtain ⟨hl, hq⟩ := hq
  obtain ⟨F', s1, s2, r', e2, e1⟩ := lend g.fh r
  intro xa dx hx hdx hne
  let H2 : Hp := upd (upd H1 dx (.own xa)) xa (.ins (R.cls c) dx [])
  have hx1 : (upd H1 dx (.own xa)) xa = none := by rw [upd_ne (Ne.symm hne)]; exact hx
  have sa : Same H1 H2 := (same_upd hdx).trans (same_upd hx1)
  have s2' : Same F' H2 := s2.trans sa
  have fx : F' xa = none := s2.free hx
  have rr : RepL X.K R F' H2 (vs ++ xs.map encS) (frzL ds ++ xs.map .sc) [] := (EnvR.argsD r' xs).mono (.refl _) fun _ z => by cases z
  have r0 : Rep X.K R F' H2 (.ref xa) (.nd (.ins true c) []) [xa] := .ow (k := .ins true c) (vs := []) ⟨rfl, Nat.zero_le _, dx, by show H2 xa = _; rw [List.zip_nil_right]; exact upd_same⟩ fx .nil
  have isA : ∀ a : Addr, (∃ j : Nat, a ∈ (fun j => if j = 0 then [xa] else ([] : List Addr)) j) → a = xa := fun a ⟨j, hj⟩ => by
    by_cases h0 : j = 0
    · simp only [if_pos h0] at hj; exact List.mem_singleton.mp hj
    · simp only [if_neg h0] at hj; cases hj
  have k1 : ∀ {F3 H3 σ3 env3 As3}, Ok X.K R ⟨H2, F', fun a => ∃ j, a ∈ (fun j => if j = 0 then [xa] else ([] : List Addr)) j, (V.ref xa :: (vs ++ xs.map encS)).map some, [0]⟩ F3 H3 σ3 env3 As3 → Grow F0 H0 F3 H3 := fun {F3 H3 σ3 env3 As3} ok => by
    have old : ∀ a o, H1 a = some o → H2 a = some o ∧ ¬ ∃ j, a ∈ (fun j => if j = 0 then [xa] else ([] : List Addr)) j := fun a o q => ⟨sa a o q, fun z => by rw [isA a z, hx] at q; cases q⟩
    refine ⟨fun a o q => ?_, (g.ff.trans s1).trans ok.kf, ok.fh, fun a o q => ?_⟩
    · obtain ⟨z1, z2⟩ := old a o (g.hh a o q)
      exact ok.kp a o z1 z2
    · obtain ⟨z1, z2⟩ := old a o (g.hh a o q)
      have hb : a ∉ B := fun z => by rw [fr.2 a z] at q; cases q
      rw [ok.fr a o z1 z2]
      show F' a = F0 a
      rw [e2 a hb, g.nw a o q]
  refine ⟨F', _, fun j => if j = 0 then [xa] else [], _, _, ?_, s2', EnvR.args0 r0 (by simp) rr, fun j hj => ?_, hq, fun F3 H3 σ3 env3 As3 v d B3 ok r3 o3 q3 => ?_, fun F3 H3 σ3 env3 As3 cls dx xx ok rx qx => ?_⟩
  · rw [List.length_cons, List.length_append, List.length_map, r.length]; exact hl
  · have : ¬ j = 0 := fun z => hj (by rw [z]; exact List.mem_cons_self)
    simp only [if_neg this]
  · obtain ⟨rfl, q3⟩ := q3
    cases r3
    refine ⟨rfl, ?_⟩
    obtain ⟨dself, ed, q4⟩ := slot0_of q3
    obtain ⟨v3, ev3, rs⟩ := ok.er.val 0 dself ed
    have pn : σ3[0]? = some (some (.ref xa)) := ok.pin 0 List.mem_cons_self
    rw [pn] at ev3
    cases ev3
    refine q F3 H3 (.ref xa) dself (As3 0) false (k1 ok) rs (fun _ => ⟨ok.er.nod 0, fun a ha => ?_⟩) q4
    rcases ok.ow 0 a ha with z | z
    · rw [isA a z]; exact g.free hx
    · have z : H2 a = none := z
      exact g.free (sa.free z)
  · exact x F3 H3 cls dx xx (k1 ok) rx qx
theorem de_make {fI : Addr} (Mc : Mk X.K (R.cls c) fI) (F : FnOk X.prog X.w X.K X.mg X.base (CXm M X.prog X.w) k fI fd ps (toSp X.K R [0] n sp)) (hr : Room (k + 1) X.A) (hm : X.mg x = some (.ref (R.cls c))) {xs : List Sc} (hb : Binds X.K fd ps dds) (hd : Vals (xs.map encS) dds) (h : DA M X R (e :: es) ta)
    (hg : Gl X x := by rfl) (hdb : (x == ("__debug__" : Str)) = false := by decide) (he : starEach (e :: es) X.env = (false, eval e X.env) :: starEach es X.env := by rfl) (hpl : (backTo pos (starEach es X.env)).any (·.1) = false := by rfl) :
    DE M X R (.Call (.Name x p) (e :: es) [] pos) (dMake c n sp xs ta) := fun W tk => by
  obtain ⟨_, a1, a2⟩ := h W tk
  exact ⟨_, pe_makeD Mc F hr hg hm hb hd (fun σ => passM tk σ) a1 hdb he hpl, le_make a2⟩
theorem le_methA {W : WX} {to : TE} {t : TA} (ml : m ∉ R.lay c) (o2 : LE X.K R W to td) (a2 : LA X.K R W t ta) : LE X.K R W (tMethD (R.cls c) m (toSp X.K R [] n sp) (xs.map encS) (WE W) to t) (dMethA c n sp xs td ta) := by
  intro F0 H0 σ env As Q Qd Ed s er h q x
  refine o2 F0 H0 σ env As _ _ Ed s er h (fun F1 H1 v d B b g1 r1 f1 hq => ?_) x
  obtain ⟨sb, hi, hq⟩ := hq
  have fB := Fresh.of_safe r1 f1 sb
  obtain ⟨a, dx, us, rfl, ha⟩ := insD_at g1.fh r1 hi
  refine ⟨a, dx, _, rfl, ha, lookup_out ml, a2 F1 H1 σ env As _ _ Ed g1.fh (er.grow g1) hq (fun F2 H2 vs ds B2 g2 r2 fr2 hq2 => ?_) (x.grow g1)⟩
  have rr : RepL X.K R F2 H2 (.ref a :: vs) (d :: ds) (B ++ B2) := .cons (r1.grow g2) r2
  exact callA_core (g1.trans g2) rr (Fresh.append g1 r1 fB fr2) (by rw [List.length_cons]; omega) hq2.2 (fun F3 H3 v3 d3 B3 g3 r3 f3 q3 => q F3 H3 v3 d3 B3 false g3 r3 (fun _ => f3) q3) x
theorem le_methL {W : WX} {to : TE} {t : TA} (ml : m ∉ R.lay c) (o2 : LE X.K R W to td) (a2 : LB X.K R W t ta) : LE X.K R W (tMethD (R.cls c) m (toSp X.K R [] n sp) (xs.map encS) (WE W) to t) (dMethL c n sp xs td ta) := by
  intro F0 H0 σ env As Q Qd Ed s er h q x
  refine o2 F0 H0 σ env As _ _ Ed s er h (fun F1 H1 v d B b g1 r1 f1 hq => ?_) x
  obtain ⟨hi, hq⟩ := hq
  obtain ⟨a, dx, us, rfl, ha⟩ := insD_at g1.fh r1 hi
  refine ⟨a, dx, _, rfl, ha, lookup_out ml, a2 F1 H1 σ env As _ _ Ed g1.fh (er.grow g1) hq (fun F2 H2 vs ds B2 g2 r2 hq2 => ?_) (x.grow g1)⟩
  have rr : RepL X.K R F2 H2 (.ref a :: vs) (d :: ds) (B ++ B2) := .cons (r1.grow g2) r2
  exact callL_core (g1.trans g2) rr (by rw [List.length_cons]; omega) hq2.2 (fun F3 H3 v3 d3 B3 g3 r3 f3 q3 => q F3 H3 v3 d3 B3 false g3 r3 (fun _ => f3) q3) x
theorem de_methA {pl : Sem Bool} (cl : Cls X.K (R.cls c)) (hm : Meth X.K (R.cls c) m f) (ml : m ∉ R.lay c) (F : FnOk X.prog X.w X.K X.mg X.base (CXm M X.prog X.w) k f fd ps (toSp X.K R [] n sp)) (hr : Room k X.A) {xs : List Sc} (hb : Binds X.K fd ps dds) (hd : Vals (xs.map encS) dds) (ho : DE M X R o td) (h : DA M X R (e :: es) ta)
    (hst : starEach (e :: es) X.env = (false, eval e X.env) :: starEach es X.env := by rfl) (hpl : (backTo pos (starEach es X.env)).any (·.1) = false := by rfl)
    (ht : eval (.Call (.Attribute o m apos) (e :: es) [] pos) X.env = (do
      let ov ← eval o X.env
      standAt apos.atName
      let (f, first) ← holding [ov] (getMethod ov m pl)
      callWith pos f first (backTo pos (starEach (e :: es) X.env)) (backToKw pos (keywordEach [] X.env))) := by rfl) : DE M X R (.Call (.Attribute o m apos) (e :: es) [] pos) (dMethA c n sp xs td ta) := fun W tk => by
  obtain ⟨_, o1, o2⟩ := ho W tk
  obtain ⟨_, a1, a2⟩ := h W tk
  exact ⟨_, pe_methD (pl := pl) o1 cl hm F hr hb hd (fun σ => passM tk σ) a1 hst hpl ht, le_methA ml o2 a2⟩
theorem de_methL {pl : Sem Bool} (cl : Cls X.K (R.cls c)) (hm : Meth X.K (R.cls c) m f) (ml : m ∉ R.lay c) (F : FnOk X.prog X.w X.K X.mg X.base (CXm M X.prog X.w) k f fd ps (toSp X.K R [] n sp)) (hr : Room k X.A) {xs : List Sc} (hb : Binds X.K fd ps dds) (hd : Vals (xs.map encS) dds) (ho : DE M X R o td) (h : DB M X R (e :: es) ta)
    (hst : starEach (e :: es) X.env = (false, eval e X.env) :: starEach es X.env := by rfl) (hpl : (backTo pos (starEach es X.env)).any (·.1) = false := by rfl)
    (ht : eval (.Call (.Attribute o m apos) (e :: es) [] pos) X.env = (do
      let ov ← eval o X.env
      standAt apos.atName
      let (f, first) ← holding [ov] (getMethod ov m pl)
      callWith pos f first (backTo pos (starEach (e :: es) X.env)) (backToKw pos (keywordEach [] X.env))) := by rfl) : DE M X R (.Call (.Attribute o m apos) (e :: es) [] pos) (dMethL c n sp xs td ta) := fun W tk => by
  obtain ⟨_, o1, o2⟩ := ho W tk
  obtain ⟨_, a1, a2⟩ := h W tk
  exact ⟨_, pe_methD (pl := pl) o1 cl hm F hr hb hd (fun σ => passM tk σ) a1 hst hpl ht, le_methL ml o2 a2⟩
theorem de_methL0 {pl : Sem Bool} (cl : Cls X.K (R.cls c)) (hm : Meth X.K (R.cls c) m f) (ml : m ∉ R.lay c) (F : FnOk X.prog X.w X.K X.mg X.base (CXm M X.prog X.w) k f fd ps (toSp X.K R [] n sp)) (hr : Room k X.A) {xs : List Sc} (hb : Binds X.K fd ps dds) (hd : Vals (xs.map encS) dds) (ho : DE M X R o td)
    (ht : eval (.Call (.Attribute o m apos) [] [] pos) X.env = (do
      let ov ← eval o X.env
      standAt apos.atName
      let (f, first) ← holding [ov] (getMethod ov m pl)
      callWith pos f first (backTo pos (starEach [] X.env)) (backToKw pos (keywordEach [] X.env))) := by rfl) : DE M X R (.Call (.Attribute o m apos) [] [] pos) (dMethL c n sp xs td bNil) := fun W tk => by
  obtain ⟨_, o1, o2⟩ := ho W tk
  exact ⟨_, pe_methD0 (pl := pl) o1 cl hm F hr hb hd (fun σ => passM tk σ) ht, le_methL ml o2 lb_nil⟩
theorem de_methA0 {pl : Sem Bool} (cl : Cls X.K (R.cls c)) (hm : Meth X.K (R.cls c) m f) (ml : m ∉ R.lay c) (F : FnOk X.prog X.w X.K X.mg X.base (CXm M X.prog X.w) k f fd ps (toSp X.K R [] n sp)) (hr : Room k X.A) {xs : List Sc} (hb : Binds X.K fd ps dds) (hd : Vals (xs.map encS) dds) (ho : DE M X R o td)
    (ht : eval (.Call (.Attribute o m apos) [] [] pos) X.env = (do
      let ov ← eval o X.env
      standAt apos.atName
      let (f, first) ← holding [ov] (getMethod ov m pl)
      callWith pos f first (backTo pos (starEach [] X.env)) (backToKw pos (keywordEach [] X.env))) := by rfl) : DE M X R (.Call (.Attribute o m apos) [] [] pos) (dMethA c n sp xs td dNil) := fun W tk => by
  obtain ⟨_, o1, o2⟩ := ho W tk
  exact ⟨_, pe_methD0 (pl := pl) o1 cl hm F hr hb hd (fun σ => passM tk σ) ht, le_methA ml o2 la_nil⟩
/-- the call of a method that changes its instance -/
theorem meth_core {W : WX} {to : TE} {t : TA} {g : TGd} {gl : TG} (ml : m ∉ R.lay c) (o2 : LP X.K R W i to pd) (a2 : LA X.K R W t ta) (g2 : LG X.K R P gl g) :
    LS X.K R W P (fun D σ H => tMethD (R.cls c) m (toSp X.K R [0] n sp) (xs.map encS) (WE W) to t σ H fun v H' => gl v σ H' D.nx) (dMethS i pd c n sp xs ta g) := by
  intro C F H σ env As Dh Dd eP ok E h
  refine o2 F H σ env As _ _ _ ok.fh ok.er h (fun F1 H1 v w p d dp g1 ev ee hg wk hq => ?_) (E.exw ok)
  have ok1 := ok.grow g1
  replace hq := atP_of hq ee hg
  obtain ⟨⟨hi, hf⟩, hq⟩ := hq
  obtain ⟨Ap1, rp1, _⟩ := ok1.mutP ee ev hg wk
  obtain ⟨a, dx, us, rfl, ha⟩ := insD_at ok1.fh rp1 hi
  refine ⟨a, dx, _, rfl, ha, lookup_out ml, a2 F1 H1 σ env As _ _ _ ok1.fh ok1.er hq (fun F2 H2 vs ds B g2' r2 f2 hq2 => ?_) (E.exw ok1)⟩
  have ok2 := ok1.grow g2'
  replace hq2 := atP_of hq2 ee hg
  obtain ⟨hl, hq2⟩ := hq2
  obtain ⟨Ap, rp, sub, nAp, kk⟩ := ok2.mutG ee ev hg (wk.grow g2'.hh)
  have oB : Own C As B := ok1.own f2
  have dB : ∀ b ∈ B, b ∉ Ap := fun b hb hA => oB.2.2 i b hb (sub b hA)
  obtain ⟨F', s1, s2, r', e2, e1⟩ := lend g2'.fh r2
  have rr := EnvR.argsD r' xs
  have rp' : Rep X.K R F' H2 (.ref a) dp Ap := rp.mono s1 fun b hb => ⟨rfl, by rw [e2 b (fun z => dB b z hb)]; exact (rp.own b hb).2⟩
  have isA : ∀ b : Addr, (∃ j : Nat, b ∈ (fun j => if j = 0 then Ap else ([] : List Addr)) j) ↔ b ∈ Ap := fun b => by
    refine ⟨fun ⟨j, hj⟩ => ?_, fun hb => ⟨0, by simpa using hb⟩⟩
    by_cases h0 : j = 0
    · simp only [if_pos h0] at hj; exact hj
    · simp only [if_neg h0] at hj; cases hj
  have key : ∀ {F3 H3 σ3 env3 As3 dself}, Ok X.K R ⟨H2, F', fun b => ∃ j, b ∈ (fun j => if j = 0 then Ap else ([] : List Addr)) j, (V.ref a :: (vs ++ xs.map encS)).map some, [0]⟩ F3 H3 σ3 env3 As3 → env3[0]? = some (some dself) →
      ∃ As', Ok X.K R C F3 H3 σ (env.set i (some (setP p d dself))) As' ∧ (∀ j b, b ∈ As' j → (b ∈ As j ∧ b ∉ Ap) ∨ b ∈ As3 0) := fun {F3 H3 σ3 env3 As3 dself} ok3 ed => by
    obtain ⟨v3, ev3, rs⟩ := ok3.er.val 0 dself ed
    have pn : σ3[0]? = some (some (.ref a)) := ok3.pin 0 List.mem_cons_self
    rw [pn] at ev3
    cases ev3
    have hne : ∀ b, (∃ j, b ∈ As j) ∨ (∃ o, C.H0 b = some o) → b ∉ B ∧ ∃ o, H2 b = some o := fun b hb => by
      rcases hb with ⟨j, hj⟩ | ⟨o, ho⟩
      · exact ⟨fun z => oB.2.2 j b z hj, (ok2.er.own hj).1⟩
      · refine ⟨fun z => ?_, ok2.tr b o ho⟩
        obtain ⟨o', q⟩ := ok1.tr b o ho
        rw [f2.2 b z] at q; cases q
    have q1 : ∀ b, b ∉ Ap → (∃ j, b ∈ As j) ∨ (∃ o, C.H0 b = some o) → F3 b = F2 b := fun b hn hb => by
      obtain ⟨h1, o, ho⟩ := hne b hb
      rw [ok3.fr b o ho fun z => hn ((isA b).mp z)]
      exact e2 b h1
    have q2 : ∀ b ∈ As3 0, b ∈ Ap ∨ H2 b = none := fun b hb => by
      rcases ok3.ow 0 b hb with z | z
      · exact .inl ((isA b).mp z)
      · exact .inr z
    exact kk F3 H3 dself (As3 0) (s1.trans ok3.kf) ok3.fh (fun b o e hn => ok3.kp b o e fun z => hn ((isA b).mp z)) ok3.tr q1 rs (ok3.er.nod 0) q2
  refine ⟨F', _, fun j => if j = 0 then Ap else [], _, _, ?_, s2, EnvR.args0 rp' nAp rr, fun j hj => ?_, hq2, fun F3 H3 σ3 env3 As3 v d3 B3 ok3 r3 o3 q3 => ?_, fun F3 H3 σ3 env3 As3 cls dx xx ok3 rx qx => ?_⟩
  · rw [List.length_cons, List.length_append, List.length_map, r2.length]; exact hl
  · have : ¬ j = 0 := fun z => hj (by rw [z]; exact List.mem_cons_self)
    simp only [if_neg this]
  · obtain ⟨dself, ed, q4⟩ := slot0_of q3
    obtain ⟨As', ok4, ss⟩ := key ok3 ed
    refine g2 C F3 H3 σ _ As' v d3 B3 _ _ eP ok4 r3 ⟨o3.1, fun b hb => ?_, fun j b hb hj => ?_⟩ q4 fun σ' env' As'' ok5 _ hn => E.nx F3 H3 σ' env' As'' ok5 hn
    · rcases o3.2.1 b hb with z | z
      · exact ok.ow i b (sub b ((isA b).mp z))
      · right
        cases q : C.H0 b with
        | none => rfl
        | some o =>
          obtain ⟨o', q'⟩ := ok2.tr b o q
          rw [show H2 b = none from z] at q'; cases q'
    · rcases ss j b hj with z | z
      · rcases o3.2.1 b hb with y | y
        · exact z.2 ((isA b).mp y)
        · obtain ⟨⟨o, ho⟩, _⟩ := ok2.er.own z.1
          rw [show H2 b = none from y] at ho; cases ho
      · exact o3.2.2 0 b hb z
  · obtain ⟨dself, ed, q4⟩ := slot0_of qx
    obtain ⟨As', ok4, ss⟩ := key ok3 ed
    exact E.ex F3 H3 σ _ As' cls dx xx ok4 rx q4
theorem lg_drop : LG X.K R P (fun _ σ H Q => Q σ H) gDrop := fun C F H σ env As v d B Q Qd eP ok r o hq q => q σ env As ok (fun j a ha => .inl ha) hq
theorem ds_methS {pl : Sem Bool} (cl : Cls X.K (R.cls c)) (hm : Meth X.K (R.cls c) m f) (ml : m ∉ R.lay c) (F : FnOk X.prog X.w X.K X.mg X.base (CXm M X.prog X.w) k f fd ps (toSp X.K R [0] n sp)) (hr : Room k X.A) {xs : List Sc} (hb : Binds X.K fd ps dds) (hd : Vals (xs.map encS) dds) (ho : DP M X R i o pd) (h : DA M X R (e :: es) ta)
    (hst : starEach (e :: es) X.env = (false, eval e X.env) :: starEach es X.env := by rfl) (hpl : (backTo apos (starEach es X.env)).any (·.1) = false := by rfl)
    (ht : eval (.Call (.Attribute o m p) (e :: es) [] apos) X.env = (do
      let ov ← eval o X.env
      standAt p.atName
      let (f, first) ← holding [ov] (getMethod ov m pl)
      callWith apos f first (backTo apos (starEach (e :: es) X.env)) (backToKw apos (keywordEach [] X.env))) := by rfl)
    (hsw : swapsWith (.Call (.Attribute o m p) (e :: es) [] apos) none pos.line X.env = pure false := by rfl) : DS M X R P (.Expr (.Call (.Attribute o m p) (e :: es) [] apos) pos) (dMethS i pd c n sp xs ta gDrop) := fun W tk => by
  obtain ⟨_, o1, o2⟩ := ho W tk
  obtain ⟨_, a1, a2⟩ := h W tk
  exact ⟨_, ps_expr (pe_methD (pl := pl) o1 cl hm F hr hb hd (fun σ => passM tk σ) a1 hst hpl ht) hsw, meth_core ml o2 a2 lg_drop⟩
theorem ds_methS0 {pl : Sem Bool} (cl : Cls X.K (R.cls c)) (hm : Meth X.K (R.cls c) m f) (ml : m ∉ R.lay c) (F : FnOk X.prog X.w X.K X.mg X.base (CXm M X.prog X.w) k f fd ps (toSp X.K R [0] n sp)) (hr : Room k X.A) {xs : List Sc} (hb : Binds X.K fd ps dds) (hd : Vals (xs.map encS) dds) (ho : DP M X R i o pd)
    (ht : eval (.Call (.Attribute o m p) [] [] apos) X.env = (do
      let ov ← eval o X.env
      standAt p.atName
      let (f, first) ← holding [ov] (getMethod ov m pl)
      callWith apos f first (backTo apos (starEach [] X.env)) (backToKw apos (keywordEach [] X.env))) := by rfl)
    (hsw : swapsWith (.Call (.Attribute o m p) [] [] apos) none pos.line X.env = pure false := by rfl) : DS M X R P (.Expr (.Call (.Attribute o m p) [] [] apos) pos) (dMethS i pd c n sp xs dNil gDrop) := fun W tk => by
  obtain ⟨_, o1, o2⟩ := ho W tk
  exact ⟨_, ps_expr (pe_methD0 (pl := pl) o1 cl hm F hr hb hd (fun σ => passM tk σ) ht) hsw, meth_core ml o2 la_nil lg_drop⟩
theorem ds_methA {pl : Sem Bool} {tg : Expr} {g : TGd} (cl : Cls X.K (R.cls c)) (hm : Meth X.K (R.cls c) m f) (ml : m ∉ R.lay c) (F : FnOk X.prog X.w X.K X.mg X.base (CXm M X.prog X.w) k f fd ps (toSp X.K R [0] n sp)) (hr : Room k X.A) {xs : List Sc} (hb : Binds X.K fd ps dds) (hd : Vals (xs.map encS) dds) (ho : DP M X R i o pd) (h : DA M X R (e :: es) ta) (h2 : DG X R P tg g)
    (hst : starEach (e :: es) X.env = (false, eval e X.env) :: starEach es X.env := by rfl) (hpl : (backTo apos (starEach es X.env)).any (·.1) = false := by rfl)
    (ht : eval (.Call (.Attribute o m p) (e :: es) [] apos) X.env = (do
      let ov ← eval o X.env
      standAt p.atName
      let (f, first) ← holding [ov] (getMethod ov m pl)
      callWith apos f first (backTo apos (starEach (e :: es) X.env)) (backToKw apos (keywordEach [] X.env))) := by rfl)
    (hs : swapsWithSole [tg] (.Call (.Attribute o m p) (e :: es) [] apos) pos.line X.env = pure false := by rfl) (hw : swappedStores [tg] (.Call (.Attribute o m p) (e :: es) [] apos) X.env = pure none := by rfl) (hz : (assignEach [tg] X.env).map (·.2) = [assign tg X.env] := by rfl) :
    DS M X R P (.Assign [tg] (.Call (.Attribute o m p) (e :: es) [] apos) pos) (dMethS i pd c n sp xs ta g) := fun W tk => by
  obtain ⟨_, o1, o2⟩ := ho W tk
  obtain ⟨_, a1, a2⟩ := h W tk
  obtain ⟨_, b1, b2⟩ := h2
  exact ⟨_, ps_asg (pe_methD (pl := pl) o1 cl hm F hr hb hd (fun σ => passM tk σ) a1 hst hpl ht) b1 hs hw hz, meth_core ml o2 a2 b2⟩
end
end DL

set_option Elab.async false
set_option linter.all false
set_option maxRecDepth 100000
set_option maxHeartbeats 1000000
namespace DL
open PySem PySem.Spec L2 TL
variable {M : Bool}

/-! ## constants of the module; a < b < c -/
def dChain (g g' : G2) (ta tb tc : TEd) : TEd := fun env Q E => ta env (fun _ d => tb env (fun _ e => g d e fun z => isB z fun k => if k = true then tc env (fun _ f => g' e f (Q false)) E else Q false (.bl false)) E) E
section
variable {X : Cx} {R : RT} {x : Str} {pos : Pos} {a b c : Expr} {ta tb tc : TEd} {g g' : G2}
theorem de_gs {s : Sc} (h : ∃ u, X.mg x = some u ∧ RelV (encS s) u) (hg : Gl X x := by rfl) (hd : (x == ("__debug__" : Str)) = false := by decide) : DE M X R (.Name x pos) (dC s) := fun W _ => by
  obtain ⟨u, hm, r⟩ := h
  exact ⟨_, pe_glob hg hm r hd, le_c (s := s)⟩
theorem le_chain {W : WX} {r r' : R2} {t1 t2 t3 : TE} (hr : ∀ (F H : Hp) (x y : V) (d e : D) (A B : List Addr) (Q : VK) (Qd : D → Prop), Same F H → Rep X.K R F H x d A → Rep X.K R F H y e B → g d e Qd → Out X.K R F H Qd Q → r x y H Q)
    (hr' : ∀ (F H : Hp) (x y : V) (d e : D) (A B : List Addr) (Q : VK) (Qd : D → Prop), Same F H → Rep X.K R F H x d A → Rep X.K R F H y e B → g' d e Qd → Out X.K R F H Qd Q → r' x y H Q)
    (h1 : LE X.K R W t1 ta) (h2 : LE X.K R W t2 tb) (h3 : LE X.K R W t3 tc) : LE X.K R W (tChain r r' t1 t2 t3) (dChain g g' ta tb tc) := by
  intro F H σ env As Q Qd Ed s er h q x
  refine h1 F H σ env As _ _ Ed s er h (fun F1 H1 v d B b g1 r1 f1 hd => ?_) x
  refine h2 F1 H1 σ env As _ _ Ed g1.fh (er.grow g1) hd (fun F2 H2 w e C b2 g2 r2 f2 hq => ?_) (x.grow g1)
  have g12 := g1.trans g2
  refine hr F2 H2 v w d e B C _ _ g2.fh (r1.grow g2) r2 hq fun F3 H3 z dz Cz g3 r3 f3 hz => ?_
  obtain ⟨k, rfl, hz2⟩ := isB_of hz
  cases r3
  refine ⟨k, rfl, ?_⟩
  have g13 := g12.trans g3
  cases k with
  | true =>
    rw [if_pos rfl] at hz2 ⊢
    refine h3 F3 H3 σ env As _ _ Ed g3.fh (er.grow g13) hz2 (fun F4 H4 u f U b4 g4 r4 f4 hq4 => ?_) (x.grow g13)
    exact hr' F4 H4 w u e f C U Q (Qd false) g4.fh ((r2.grow g3).grow g4) r4 hq4 fun F5 H5 y dy Cy g5 r5 f5 hy => q F5 H5 y dy Cy false ((g13.trans g4).trans g5) r5 (fun _ => f5.back (g13.trans g4)) hy
  | false =>
    rw [if_neg Bool.false_ne_true] at hz2 ⊢
    exact q F3 H3 _ _ [] false g13 (.sc (.bl false)) (fun _ => .nil) hz2
theorem de_chain {op op' : CmpOp} (ho : OpL X R (compareOp op) g) (ho' : OpL X R (compareOp op') g') (h1 : DE M X R a ta) (h2 : DE M X R b tb) (h3 : DE M X R c tc) (hm : lastMarks [op, op'] [b, c] = false := by with_unfolding_all rfl) : DE M X R (.Compare a [op, op'] [b, c] pos) (dChain g g' ta tb tc) := fun W tk => by
  obtain ⟨r, o1, o2⟩ := ho
  obtain ⟨r', o1', o2'⟩ := ho'
  obtain ⟨_, a1, a2⟩ := h1 W tk
  obtain ⟨_, b1, b2⟩ := h2 W tk
  obtain ⟨_, c1, c2⟩ := h3 W tk
  exact ⟨_, pe_chain o1 o1' a1 b1 c1 hm, le_chain o2 o2' a2 b2 c2⟩
theorem dt_chain {op op' : CmpOp} (ho : OpL X R (compareOp op) g) (ho' : OpL X R (compareOp op') g') (h1 : DE M X R a ta) (h2 : DE M X R b tb) (h3 : DE M X R c tc) (hm : lastMarks [op, op'] [b, c] = false := by with_unfolding_all rfl) : DT M X R (.Compare a [op, op'] [b, c] pos) (dTst (dChain g g' ta tb tc)) := fun W tk => by
  obtain ⟨r, o1, o2⟩ := ho
  obtain ⟨r', o1', o2'⟩ := ho'
  obtain ⟨_, a1, a2⟩ := h1 W tk
  obtain ⟨_, b1, b2⟩ := h2 W tk
  obtain ⟨_, c1, c2⟩ := h3 W tk
  exact ⟨_, pt_chain o1 o1' a1 b1 c1 hm, lt_tst (le_chain o2 o2' a2 b2 c2)⟩
end

/-! ## methods of texts -/
section
variable {X : Cx} {R : RT}
theorem strV_tl (x : Str) : strV (tl x) = x := by
  show (⟨x.cps.toList.toArray⟩ : Str) = x
  rw [Array.toArray_toList]
theorem tl_strV (s : Txt) : tl (strV s) = s := by simp [tl, strV]
theorem ty_str {F H : Hp} {w : V} {d : D} {A : List Addr} (s : Same F H) (r : Rep X.K R F H w d A) (h : tyD d = some "str") : tyV X.K "str" w H := by
  cases d with
  | sc x =>
    cases x <;> simp [tyD] at h
    cases r
    rfl
  | nd k ds => cases k <;> simp [tyD] at h
def splitD : GV
  | .sc (.str s), [.sc (.str t)], Q => t ≠ [] ∧ (∀ c ∈ t, c < 256) ∧ s.length ≤ 16000000 ∧ Q (.lst true ((spl t 0 [] s).map D.str))
  | _, _, _ => False
theorem repl_strs {K : PySem.W.Frag} {R : RT} {F H : Hp} : ∀ ts : List Txt, RepL K R F H ((ts.map strV).map V.str) (ts.map D.str) []
  | [] => .nil
  | t :: r => RepL.cons (A := []) (B := []) (.sc (.str t)) (repl_strs r)
theorem RepL.strs {K : PySem.W.Frag} {R : RT} {F H : Hp} : ∀ {vs : List V} {ts : List Txt} {B : List Addr}, RepL K R F H vs (ts.map D.str) B → vs = (ts.map strV).map V.str
  | _, [], _, r => by cases r; rfl
  | _, n :: ns, _, r => by
    cases r with
    | cons a b => cases a; rw [List.map_cons, RepL.strs b]; rfl
theorem kind_le {x : Str} {t : Txt} (h : ∀ c ∈ t, c < 256) : ¬ Builtin.Str.strKind x < Builtin.Str.strKind (strV t) := by
  have e : Builtin.Str.strKind (strV t) = 1 := by
    unfold Builtin.Str.strKind
    rw [if_pos]
    show (t.toArray).all (· < 256) = true
    rw [List.all_toArray]
    exact List.all_eq_true.mpr fun c hc => decide_eq_true (h c hc)
  rw [e]
  unfold Builtin.Str.strKind
  split
  · decide
  · split <;> decide
theorem splitD_ok : OpV X R "str" "str.split" splitD := by
  refine ⟨_, mt_split, fun F H w d A s r h => ty_str s r h, fun F H w d A vs ds B Q Qd s r ra hq out => ?_⟩
  unfold splitD at hq
  split at hq
  · rename_i sx t
    obtain ⟨h1, h2, h3, hq⟩ := hq
    cases r
    obtain ⟨y, rfl, ry⟩ := repl1 ra
    cases ry
    refine ⟨strV sx, strV t, rfl, rfl, ?_, ?_, ?_⟩
    · rw [strV_len]
      cases t with
      | nil => exact absurd rfl h1
      | cons a b => rfl
    · rw [strV_len, sizeLine_eq]; omega
    · have e := split_spl (strV sx) (strV t) (by rw [tl_strV]; exact h1) (kind_le h2)
      rw [tl_strV, tl_strV] at e
      have e2 : Txt.split (strV sx) (strV t) = (spl t 0 [] sx).map strV := by
        rw [← e, List.map_map]
        conv => lhs; rw [← List.map_id (Txt.split (strV sx) (strV t))]
        exact List.map_congr_left fun x _ => (strV_tl x).symm
      intro p hp
      rw [e2]
      exact new_list s (repl_strs _) out hq hp
  · exact hq.elim
def joinD : GV
  | .sc (.str s), [.nd (.lst _) ds], Q => ∃ ts : List Txt, ds = ts.map D.str ∧ (ts.map (·.length)).sum + ts.length * s.length ≤ 16777216 ∧ Q (.str (joinL s ts))
  | .sc (.str s), [.nd .tup ds], Q => ∃ ts : List Txt, ds = ts.map D.str ∧ (ts.map (·.length)).sum + ts.length * s.length ≤ 16777216 ∧ Q (.str (joinL s ts))
  | _, _, _ => False
theorem join_strV (s : Txt) (ts : List Txt) : Txt.join (strV s) (ts.map strV) = strV (joinL s ts) := by
  rw [join_eq, ← strV_tl (Str.join _ _), tl_join, tl_strV, List.map_map]
  congr 2
  conv => rhs; rw [← List.map_id ts]
  exact List.map_congr_left fun x _ => tl_strV x
theorem joinD_ok : OpV X R "str" "str.join" joinD := by
  refine ⟨_, mt_join, fun F H w d A s r h => ty_str s r h, fun F H w d A vs ds B Q Qd s r ra hq out => ?_⟩
  have fin : ∀ {sx : Txt} {ts : List Txt} {p : Addr}, w = .str (strV sx) → vs = [.ref p] → (SqL X.K H p ((ts.map strV).map V.str) ∨ SqT X.K H p ((ts.map strV).map V.str)) → (ts.map (·.length)).sum + ts.length * sx.length ≤ 16777216 → Qd (.str (joinL sx ts)) →
      ∃ a p, ∃ ys : List Str, w = .str a ∧ vs = [.ref p] ∧ (SqL X.K H p (ys.map V.str) ∨ SqT X.K H p (ys.map V.str)) ∧ (ys.map (·.length)).sum + ys.length * a.length ≤ 16777216 ∧ Q (.str (Txt.join a ys)) H := fun {sx ts p} e1 e2 hs hl hq => by
    refine ⟨strV sx, p, ts.map strV, e1, e2, hs, ?_, ?_⟩
    · rw [List.map_map, List.length_map, strV_len]
      have : ((fun x : Str => x.length) ∘ strV) = fun t : Txt => t.length := by funext t; exact strV_len t
      rw [this]; exact hl
    · rw [join_strV]
      exact out F H _ _ [] (.refl s) (.sc (.str _)) .nil hq
  unfold joinD at hq
  split at hq
  · obtain ⟨ts, rfl, hl, hq⟩ := hq
    cases r
    obtain ⟨y, rfl, ry⟩ := repl1 ra
    obtain ⟨a, us, B', rfl, r1, ha, _⟩ := lst_at ry s
    have e := r1.strs
    subst e
    exact fin rfl rfl (.inl (SqL.of ha)) hl hq
  · obtain ⟨ts, rfl, hl, hq⟩ := hq
    cases r
    obtain ⟨y, rfl, ry⟩ := repl1 ra
    cases ry with
    | fz h1 h2 h3 =>
      have e := h2.strs
      subst e
      exact fin rfl rfl (.inr (TupAt.mono s h1).sq) hl hq
    | ow h1 h2 h3 => exact h1.elim
  · exact hq.elim
end
end DL

set_option Elab.async false
set_option linter.all false
set_option maxRecDepth 100000
set_option maxHeartbeats 1000000
namespace DL
open PySem PySem.Spec L2
variable {M : Bool}

/-! ## text * int; number times number beside it -/
def repT (s : Txt) (n : Nat) : Txt := (List.replicate n s).flatten
theorem foldl_app : ∀ (l : List (Array Nat)) (a : Array Nat), (l.foldl (· ++ ·) a).toList = a.toList ++ (l.map Array.toList).flatten
  | [], a => by simp
  | x :: r, a => by rw [List.foldl_cons, foldl_app r]; simp
theorem rep_arr (s : Txt) (n : Nat) : (⟨(List.replicate n (strV s).cps).foldl (· ++ ·) #[]⟩ : Str) = strV (repT s n) := by
  unfold strV repT
  congr 1
  apply Array.toList_inj.mp
  rw [foldl_app]
  simp
section
variable {X : Cx} {R : RT}
theorem op_mulS : OpR X (binaryOp .Mult) (fun x y H Q => ∃ (s : Txt) (n : Int), x = .str (strV s) ∧ y = .int n ∧ -1000 ≤ n ∧ n ≤ 1000 ∧ s.length ≤ 1000 ∧ Q (.str (strV (repT s n.toNat))) H) := by
  intro pins s σ H x y v u Q I rx ry h
  obtain ⟨z, n, rfl, rfl, h0, h1, h2, q⟩ := h
  obtain ⟨t, rfl⟩ := rx
  obtain ⟨t2, rfl⟩ := ry
  have hlen : (strV z).length = z.length := strV_len z
  refine P.mul_str ?_ (fun hn _ => ?_) (fun hn _ => ?_) ?_
  · rw [decide_eq_false (by omega), decide_eq_false (by omega)]; rfl
  · rw [hlen]
    have hp : (0 : Int) < n := by omega
    have : ((z.length : Nat) : Int) ≤ (2 ^ 63 - 1) / n := by
      rw [Int.le_ediv_iff_mul_le hp]
      have : ((z.length : Nat) : Int) * n ≤ 1000 * 1000 := Int.mul_le_mul (by omega) h1 (by omega) (by decide)
      omega
    omega
  · rw [hlen]
    unfold Builtin.Str.tooLong
    refine decide_eq_false ?_
    have : z.length * n.toNat ≤ 1000 * 1000 := Nat.mul_le_mul h2 (by omega)
    rw [sizeLine_eq]
    omega
  · by_cases c1 : n < 1
    · rw [if_pos c1]
      have e : n.toNat = 0 := by omega
      refine ⟨by decide, .str (strV (repT z n.toNat)), H, I.tok _, ?_, q⟩
      rw [e]
      exact ⟨_, rfl⟩
    · rw [if_neg c1]
      by_cases c2 : (n == 1 || (strV z).length == 0) = true
      · rw [if_pos c2]
        refine ⟨.str (strV (repT z n.toNat)), H, I.tok _, ?_, q⟩
        have e : repT z n.toNat = z := by
          rw [Bool.or_eq_true] at c2
          rcases c2 with c | c
          · have : n = 1 := by simpa using c
            rw [this]
            simp [repT]
          · have : z = [] := by
              have : (strV z).length = 0 := by simpa using c
              rw [hlen] at this
              exact List.eq_nil_of_length_eq_zero this
            subst this
            simp [repT]
        rw [e]
        exact ⟨t, rfl⟩
      · rw [if_neg c2, rep_arr]
        refine ⟨?_, .str (strV (repT z n.toNat)), H, I.tok _, ⟨_, rfl⟩, q⟩
        rw [strV_len]
        have e : (repT z n.toNat).length = n.toNat * z.length := by simp [repT]
        have : n.toNat * z.length ≤ 1000 * 1000 := Nat.mul_le_mul (by omega) h2
        rw [e, sizeLine_eq]
        omega
def mulSD : G2
  | .sc (.int i), .sc (.int j), Q => ((-(2 ^ 64) < i ∧ i < 2 ^ 64) ∨ (-(2 ^ 64) < j ∧ j < 2 ^ 64)) ∧ Q (.int (i * j))
  | .sc (.str s), .sc (.int n), Q => (-1000 ≤ n ∧ n ≤ 1000 ∧ s.length ≤ 1000) ∧ Q (.str (repT s n.toNat))
  | _, _, _ => False
theorem mulSD_ok : OpL X R (binaryOp .Mult) mulSD := by
  refine ⟨_, op_mul.or op_mulS, fun F H x y d e A B Q Qd s rx ry hq out => ?_⟩
  unfold mulSD at hq
  split at hq
  · cases rx; cases ry
    exact .inl ⟨_, _, rfl, rfl, hq.1, out F H _ _ [] (.refl s) (.sc (.int _)) .nil hq.2⟩
  · cases rx; cases ry
    exact .inr ⟨_, _, rfl, rfl, hq.1.1, hq.1.2.1, hq.1.2.2, out F H _ _ [] (.refl s) (.sc (.str _)) .nil hq.2⟩
  · exact hq.elim
theorem o_mulI {i j : Int} {Q : D → Prop} : mulSD (.sc (.int i)) (.sc (.int j)) Q = (((-(2 ^ 64) < i ∧ i < 2 ^ 64) ∨ (-(2 ^ 64) < j ∧ j < 2 ^ 64)) ∧ Q (.int (i * j))) := rfl
theorem o_mulS {s : Txt} {j : Int} {Q : D → Prop} : mulSD (.sc (.str s)) (.sc (.int j)) Q = ((-1000 ≤ j ∧ j ≤ 1000 ∧ s.length ≤ 1000) ∧ Q (.str (repT s j.toNat))) := rfl
end

/-! ## dicts of the module with text keys and plain values -/
def valOf : Value → Option V
  | .int i _ => some (.int i)
  | .str s _ => some (.str s)
  | _ => none
def keyTx (e : DictEntry) : Option Str := match e.key with
  | .str x _ => some x
  | _ => none
def dscL : List DictEntry → Option (List (Str × V))
  | [] => some []
  | e :: r => match keyTx e, valOf e.val, dscL r with
    | some x, some v, some t => some ((x, v) :: t)
    | _, _, _ => none
def dsc (K : PySem.W.Frag) (a : Addr) : Option (List (Str × V)) := match K.lookup a with
  | some ⟨_, _, .dict es _, _⟩ => dscL es.toList
  | _ => none
/-- what such a dict is -/
structure GDict (K : PySem.W.Frag) (w : World) (a : Addr) (tab : List (Txt × Sc)) : Prop where
  kd : ∃ es n, KDict K w a es n
  tb : dsc K a = some (tab.map fun p => (strV p.1, encS p.2))
def lkT : List (Txt × Sc) → Txt → Option Sc
  | [], _ => none
  | (a, b) :: r, t => if a = t then some b else lkT r t
def lkV : List (Str × V) → Str → Option V
  | [], _ => none
  | (a, b) :: r, t => if a = t then some b else lkV r t
theorem valOf_rel {u : Value} {v : V} (h : valOf u = some v) : RelV v u := by
  cases u <;> simp [valOf] at h <;> subst h <;> exact ⟨_, rfl⟩
theorem dscL_find : ∀ {es : List DictEntry} {tab : List (Str × V)} (z : Str), dscL es = some tab → es.any (·.refKey) = false ∧ (match lkV tab z with
    | some v => ∃ e, es.find? (·.key.isStr z) = some e ∧ RelV v e.val
    | none => es.find? (·.key.isStr z) = none)
  | [], tab, z, h => by
    cases h
    exact ⟨rfl, rfl⟩
  | e :: r, tab, z, h => by
    rw [dscL] at h
    cases h1 : keyTx e with
    | none => rw [h1] at h; cases h
    | some x =>
      cases h2 : valOf e.val with
      | none => rw [h1, h2] at h; cases h
      | some v =>
        cases h3 : dscL r with
        | none => rw [h1, h2, h3] at h; cases h
        | some t =>
          rw [h1, h2, h3] at h
          cases h
          obtain ⟨i1, i2⟩ := dscL_find z h3
          obtain ⟨hs, ky, vl⟩ := e
          obtain ⟨tk, rfl⟩ : ∃ tk, ky = .str x tk := by
            unfold keyTx at h1
            split at h1
            · rename_i x' tk q
              cases h1
              exact ⟨tk, q⟩
            · cases h1
          refine ⟨by rw [List.any_cons, i1]; rfl, ?_⟩
          rw [lkV]
          by_cases ex : x = z
          · subst ex
            rw [if_pos rfl]
            refine ⟨_, List.find?_cons_of_pos ?_, valOf_rel h2⟩
            show (x == x) = true
            exact beq_self_eq_true x
          · rw [if_neg ex]
            have : ¬ (Value.str x tk).isStr z = true := by
              show ¬ (x == z) = true
              simpa using ex
            have e2 : List.find? (fun y : DictEntry => y.key.isStr z) ({ hash := hs, key := Value.str x tk, val := vl } :: r) = List.find? (fun y : DictEntry => y.key.isStr z) r := List.find?_cons_of_neg this
            rw [e2]
            exact i2
theorem nsIn_tab {K : PySem.W.Frag} {a : Addr} {tab : List (Str × V)} (h : dsc K a = some tab) (z : Str) : match lkV tab z with
    | some v => ∃ u, PySem.W.nsIn K a z = some (some u) ∧ RelV v u
    | none => PySem.W.nsIn K a z = some none := by
  unfold dsc at h
  split at h
  · rename_i oc od es n sl hk
    obtain ⟨i1, i2⟩ := dscL_find z h
    unfold PySem.W.nsIn
    rw [hk]
    cases hl : lkV tab z with
    | some v =>
      rw [hl] at i2
      obtain ⟨e, he, hr⟩ := i2
      exact ⟨e.val, by simp only [he], hr⟩
    | none =>
      rw [hl] at i2
      have i2 : es.toList.find? (·.key.isStr z) = none := i2
      simp only [i2, i1]
      rfl
  · cases h
theorem lk_tab (tab : List (Txt × Sc)) (s : Txt) : lkV (tab.map fun p => (strV p.1, encS p.2)) (strV s) = (lkT tab s).map encS := by
  induction tab with
  | nil => rfl
  | cons p r ih =>
    obtain ⟨a, b⟩ := p
    rw [List.map_cons, lkV, lkT]
    by_cases e : a = s
    · rw [if_pos (by rw [e]), if_pos e]; rfl
    · rw [if_neg (fun z => e (strV_inj z)), if_neg e, ih]
def gInD (neg : Bool) (tab : List (Txt × Sc)) : D → (D → Prop) → Prop
  | .sc (.str s), Q => Q (.bl (neg ^^ (lkT tab s).isSome))
  | _, _ => False
def gIxD (tab : List (Txt × Sc)) : D → (D → Prop) → Prop
  | .sc (.str s), Q => ∃ v, lkT tab s = some v ∧ Q (.sc v)
  | _, _ => False
def dGin (neg : Bool) (tab : List (Txt × Sc)) (te : TEd) : TEd := fun env Q E => te env (fun _ d => gInD neg tab d (Q false)) E
def dGix (tab : List (Txt × Sc)) (te : TEd) : TEd := fun env Q E => te env (fun _ d => gIxD tab d (Q false)) E
section
variable {X : Cx} {R : RT} {x : Str} {px pos : Pos} {e : Expr} {te : TEd} {a : Addr} {tab : List (Txt × Sc)}
theorem le_gin {W : WX} {t : TE} {neg : Bool} {r : R2} (h : GDict X.K X.w a tab) (hr : ∀ (z : Str) (o : Option Value) H Q, PySem.W.nsIn X.K a z = some o → Q (.bl (neg ^^ o.isSome)) H → r (.str z) (.ref a) H Q) (h1 : LE X.K R W t te) :
    LE X.K R W (tOp r t (tC (.ref a))) (dGin neg tab te) := by
  intro F H σ env As Q Qd Ed s er hh q x
  refine h1 F H σ env As _ _ Ed s er hh (fun F1 H1 v d B b g1 r1 f1 hq => ?_) x
  unfold gInD at hq
  split at hq
  · rename_i sx
    cases r1
    have n := nsIn_tab h.tb (strV sx)
    rw [lk_tab] at n
    cases hl : lkT tab sx with
    | some v =>
      rw [hl] at n hq
      obtain ⟨u, hu, _⟩ := n
      exact hr _ _ _ _ hu (q F1 H1 _ _ [] false g1 (.sc (.bl _)) (fun _ => .nil) hq)
    | none =>
      rw [hl] at n hq
      have n : PySem.W.nsIn X.K a (strV sx) = some none := n
      exact hr _ _ _ _ n (q F1 H1 _ _ [] false g1 (.sc (.bl _)) (fun _ => .nil) hq)
  · exact hq.elim
theorem de_gin (h : GDict X.K X.w a tab) (hm : X.mg x = some (.ref a)) (h1 : DE M X R e te) (hg : Gl X x := by rfl) (hd : (x == ("__debug__" : Str)) = false := by decide) (hmk : behindInMarks .In (.Name x px) = false := by rfl) :
    DE M X R (.Compare e [.In] [.Name x px] pos) (dGin false tab te) := fun W tk => by
  obtain ⟨_, a1, a2⟩ := h1 W tk
  obtain ⟨es, n, D⟩ := h.kd
  exact ⟨_, pe_cmpR (op_in_kd D) a1 (pe_glob (v := .ref a) hg hm rfl hd) hmk, le_gin h (fun z o H Q e q => ⟨z, o, rfl, rfl, e, by simpa using q⟩) a2⟩
theorem dt_gin (h : GDict X.K X.w a tab) (hm : X.mg x = some (.ref a)) (h1 : DE M X R e te) (hg : Gl X x := by rfl) (hd : (x == ("__debug__" : Str)) = false := by decide) (hmk : behindInMarks .In (.Name x px) = false := by rfl) :
    DT M X R (.Compare e [.In] [.Name x px] pos) (dTst (dGin false tab te)) := fun W tk => by
  obtain ⟨_, a1, a2⟩ := h1 W tk
  obtain ⟨es, n, D⟩ := h.kd
  exact ⟨_, pt_cmpR (op_in_kd D) a1 (pe_glob (v := .ref a) hg hm rfl hd) hmk, lt_tst (le_gin h (fun z o H Q e q => ⟨z, o, rfl, rfl, e, by simpa using q⟩) a2)⟩
theorem dt_gno (h : GDict X.K X.w a tab) (hm : X.mg x = some (.ref a)) (h1 : DE M X R e te) (hg : Gl X x := by rfl) (hd : (x == ("__debug__" : Str)) = false := by decide) (hmk : behindInMarks .NotIn (.Name x px) = false := by rfl) :
    DT M X R (.Compare e [.NotIn] [.Name x px] pos) (dTst (dGin true tab te)) := fun W tk => by
  obtain ⟨_, a1, a2⟩ := h1 W tk
  obtain ⟨es, n, D⟩ := h.kd
  exact ⟨_, pt_cmpR (op_notIn_kd D) a1 (pe_glob (v := .ref a) hg hm rfl hd) hmk, lt_tst (le_gin h (fun z o H Q e q => ⟨z, o, rfl, rfl, e, by simpa using q⟩) a2)⟩
theorem de_gix (h : GDict X.K X.w a tab) (hm : X.mg x = some (.ref a)) (h1 : DE M X R e te) (hs : PlainIx e := by exact fun _ _ => rfl) (hg : Gl X x := by rfl) (hd : (x == ("__debug__" : Str)) = false := by decide) :
    DE M X R (.Subscript (.Name x px) e pos) (dGix tab te) := fun W tk => by
  obtain ⟨_, a1, a2⟩ := h1 W tk
  obtain ⟨es, n, D⟩ := h.kd
  refine ⟨_, pe_ix ix_kdict (pe_glob (v := .ref a) hg hm rfl hd) a1 hs, fun F H σ env As Q Qd Ed s er hh q x => a2 F H σ env As _ _ Ed s er hh (fun F1 H1 v d B b g1 r1 f1 hq => ?_) x⟩
  unfold gIxD at hq
  split at hq
  · rename_i sx
    obtain ⟨v, hv, hq⟩ := hq
    cases r1
    have n := nsIn_tab h.tb (strV sx)
    rw [lk_tab, hv] at n
    obtain ⟨u, hu, hr⟩ := n
    exact ⟨a, strV sx, encS v, rfl, rfl, ⟨es, _, u, D.at_, D.lit, hu, hr⟩, q F1 H1 _ _ [] false g1 (.sc v) (fun _ => .nil) hq⟩
  · exact hq.elim
end
end DL

set_option Elab.async false
set_option linter.all false
namespace DL
open L2
variable {M : Bool}
/-! ## small tools for the plain part -/
theorem fz_lst {xs : List D} : fz (.nd (.lst true) xs) = false := by simp [fz, Kind.cold]
theorem fz_lstF {xs : List D} : fz (.nd (.lst false) xs) = true := by simp [fz, Kind.cold]
theorem fz_dct {ks : List DK} {xs : List D} : fz (.nd (.dct true ks) xs) = false := by simp [fz, Kind.cold]
theorem fz_ins {c : Nat} {xs : List D} : fz (.nd (.ins true c) xs) = false := by simp [fz, Kind.cold]
theorem fz_sc {s : Sc} : fz (.sc s) = true := rfl
theorem fz_scr {xs : List D} : fz (.nd .scr xs) = true := by simp [fz, Kind.cold]
theorem fz_tup {xs : List D} : fz (.nd .tup xs) = fzL xs := by simp [fz, Kind.cold]
theorem frz_sc {s : Sc} : frz (.sc s) = .sc s := rfl
theorem frz_lst {xs : List D} : frz (.nd (.lst true) xs) = .nd (.lst false) (frzL xs) := by rw [frz, if_neg (by first | decide | exact Bool.false_ne_true)]; rfl
theorem frz_lstF {xs : List D} : frz (.nd (.lst false) xs) = .nd (.lst false) xs := by rw [frz, if_pos (by decide)]
theorem frz_scr {xs : List D} : frz (.nd .scr xs) = .nd .scr xs := by rw [frz, if_pos (by decide)]
theorem frz_tup {xs : List D} : frz (.nd .tup xs) = .nd .tup (frzL xs) := by rw [frz, if_neg (by first | decide | exact Bool.false_ne_true)]; rfl
theorem frz_dct {ks : List DK} {xs : List D} : frz (.nd (.dct true ks) xs) = .nd (.dct false ks) (frzL xs) := by rw [frz, if_neg (by first | decide | exact Bool.false_ne_true)]; rfl
theorem frz_dctF {ks : List DK} {xs : List D} : frz (.nd (.dct false ks) xs) = .nd (.dct false ks) xs := by rw [frz]; exact if_pos rfl
theorem frzL_nil : frzL [] = [] := rfl
theorem frzL_cons {d : D} {r : List D} : frzL (d :: r) = frz d :: frzL r := rfl
theorem fzL_nil : fzL [] = true := rfl
theorem fzL_cons {d : D} {r : List D} : fzL (d :: r) = (fz d && fzL r) := rfl
theorem frzL_sc {α : Type} (f : α → Sc) (l : List α) : frzL (l.map fun x => D.sc (f x)) = l.map fun x => D.sc (f x) := by
  induction l with
  | nil => rfl
  | cons a r ih => rw [List.map_cons, frzL_cons, ih]; rfl
theorem fzL_sc {α : Type} (f : α → Sc) (l : List α) : fzL (l.map fun x => D.sc (f x)) = true := by
  induction l with
  | nil => rfl
  | cons a r ih => rw [List.map_cons, fzL_cons, ih]; rfl
theorem frzL_ints {α : Type} (f : α → Int) (l : List α) : frzL (l.map fun x => D.int (f x)) = l.map fun x => D.int (f x) := frzL_sc _ l
theorem frzL_strs {α : Type} (f : α → Txt) (l : List α) : frzL (l.map fun x => D.str (f x)) = l.map fun x => D.str (f x) := frzL_sc _ l
theorem frzL_str (l : List Txt) : frzL (l.map D.str) = l.map D.str := frzL_sc _ l
theorem fzL_str (l : List Txt) : fzL (l.map D.str) = true := fzL_sc _ l
theorem frzL_int (l : List Int) : frzL (l.map D.int) = l.map D.int := frzL_sc _ l
theorem fzL_int (l : List Int) : fzL (l.map D.int) = true := fzL_sc _ l
theorem safe_f {d : D} : safe false d := .inl rfl
theorem safe_sc {b : Bool} {s : Sc} : safe b (.sc s) := .inr rfl
theorem safe_lstF {b : Bool} {xs : List D} : safe b (.nd (.lst false) xs) := .inr fz_lstF
theorem safe_scr {b : Bool} {xs : List D} : safe b (.nd .scr xs) := .inr fz_scr
theorem safe_tup {xs : List D} : safe true (.nd .tup xs) = (fzL xs = true) := propext ⟨fun h => by rw [← fz_tup]; exact h.resolve_left (by decide), fun h => .inr (by rw [fz_tup]; exact h)⟩
theorem safe_iff {b : Bool} {d : D} : safe b d ↔ (b = false ∨ fz d = true) := Iff.rfl
theorem ixN_at {n j : Nat} (h : j < n) : ixN n (j : Int) = some j := by
  unfold ixN
  rw [if_pos (by omega), if_pos (by omega)]
  rfl
theorem ixN_last {n : Nat} : ixN (n + 1) (-1) = some n := by
  unfold ixN
  rw [if_neg (by omega), if_pos (by omega)]
  congr 1
  omega
theorem ixN20 : ixN 2 0 = some 0 := by decide
theorem ixN21 : ixN 2 1 = some 1 := by decide
theorem posOf_map {α κ : Type} [DecidableEq κ] {f : α → κ} (hf : ∀ a b, f a = f b → a = b) [DecidableEq α] : ∀ (l : List α) (t : α), posOf (l.map f) (f t) = if t ∈ l then some (l.idxOf t) else none
  | [], t => by simp [posOf]
  | a :: r, t => by
    rw [List.map_cons, posOf]
    by_cases e : a = t
    · subst e; simp
    · rw [if_neg (fun z => e (hf _ _ z)), posOf_map hf r t]
      by_cases h : t ∈ r
      · have : t ∈ a :: r := List.mem_cons_of_mem _ h
        rw [if_pos h, if_pos this, List.idxOf_cons]
        have : (a == t) = false := by simpa using e
        rw [this]; rfl
      · have : ¬ t ∈ a :: r := fun z => (List.mem_cons.mp z).elim (fun z => e z.symm) h
        rw [if_neg h, if_neg this]; rfl
theorem lkp_map {α κ : Type} [DecidableEq κ] {f : α → κ} (hf : ∀ a b, f a = f b → a = b) {g : α → D} : ∀ (l : List α) (t : α), t ∈ l → lkp (l.map f) (l.map g) (f t) = some (g t)
  | [], t, h => by cases h
  | a :: r, t, h => by
    rw [List.map_cons, List.map_cons, lkp]
    by_cases e : a = t
    · subst e; rw [if_pos rfl]
    · rw [if_neg (fun z => e (hf _ _ z))]
      exact lkp_map hf r t ((List.mem_cons.mp h).resolve_left fun z => e z.symm)
theorem inr_inj {a b : Txt} (h : (Sum.inr a : DK) = Sum.inr b) : a = b := Sum.inr.inj h
theorem cutG_map {α β : Type} (f : α → β) (xs : List α) (lo hi : Option Int) : cutG (xs.map f) lo hi = (cutG xs lo hi).map f := by
  unfold cutG
  rw [List.length_map, ← List.map_drop, ← List.map_take]
theorem flat_str (l : List Txt) : (l.map D.str).all flatD = true := by simp [flatD]
theorem flat_int (l : List Int) : (l.map D.int).all flatD = true := by simp [flatD]
theorem eqv_str (a b : Txt) : eqv (.str a) (.str b) = decide (a = b) := by
  rw [eqv]
  by_cases h : a = b <;> simp [eqS, h]
theorem eqS_int {i j : Int} : eqS (.int i) (.int j) = decide (i = j) := by simp [eqS]
theorem eqv_lst {o p : Bool} {xs ys : List D} : eqv (.nd (.lst o) xs) (.nd (.lst p) ys) = eqvL xs ys := by rw [eqv]; rfl
theorem eqv_tup {xs ys : List D} : eqv (.nd .tup xs) (.nd .tup ys) = eqvL xs ys := by rw [eqv]; rfl
theorem eqvL_nil : eqvL [] [] = true := by rw [eqvL]
theorem eqvL_cons {x y : D} {xs ys : List D} : eqvL (x :: xs) (y :: ys) = (eqv x y && eqvL xs ys) := by rw [eqvL]
theorem eqvL_str : ∀ a b : List Txt, eqvL (a.map D.str) (b.map D.str) = decide (a = b)
  | [], [] => by rw [List.map_nil, eqvL]; rfl
  | [], _ :: _ => by rw [List.map_nil, List.map_cons, eqvL]; simp
  | _ :: _, [] => by rw [List.map_nil, List.map_cons, eqvL]; simp
  | x :: a, y :: b => by
    rw [List.map_cons, List.map_cons, eqvL, eqvL_str a b, eqv_str]
    by_cases h1 : x = y <;> by_cases h2 : a = b <;> simp [h1, h2]
theorem any_str (l : List Txt) (t : Txt) : ((l.map D.str).any fun d => eqv d (.str t)) = decide (t ∈ l) := by
  induction l with
  | nil => simp
  | cons a r ih =>
    rw [List.map_cons, List.any_cons, ih, eqv_str]
    by_cases h : a = t
    · simp [h]
    · have : t ∈ a :: r ↔ t ∈ r := ⟨fun z => (List.mem_cons.mp z).resolve_left fun e => h e.symm, List.mem_cons_of_mem _⟩
      rw [decide_eq_false h, Bool.false_or]
      exact decide_eq_decide.mpr this.symm
theorem idx_str : ∀ (l : List Txt) (t : Txt), idxS (l.map D.str) (.str t) = if t ∈ l then some (l.idxOf t) else none
  | [], t => by simp [idxS]
  | a :: r, t => by
    rw [List.map_cons, idxS, eqv_str]
    by_cases e : a = t
    · subst e; simp
    · rw [decide_eq_false e, if_neg (by decide), idx_str r t]
      by_cases h : t ∈ r
      · have h' : t ∈ a :: r := List.mem_cons_of_mem _ h
        have e' : (a == t) = false := by simpa using e
        rw [if_pos h, if_pos h', List.idxOf_cons, e']; rfl
      · have h' : ¬ t ∈ a :: r := fun z => (List.mem_cons.mp z).elim (fun z => e z.symm) h
        rw [if_neg h, if_neg h']; rfl
theorem isB_bl {b : Bool} {Q : Bool → Prop} (h : Q b) : isB (.bl b) Q := h
/-! ### operations at known shapes -/
section
variable {Q : D → Prop} {i j : Int} {s t : Txt} {o p : Bool} {xs ys : List D} {ks : List DK} {d e y : D} {a b : Sc}
theorem o_lt : ltD (.sc (.int i)) (.sc (.int j)) Q = Q (.bl (decide (i < j))) := rfl
theorem o_ltS : ltD (.sc (.str s)) (.sc (.str t)) Q = Q (.bl (decide (s < t))) := rfl
theorem o_gt : gtD (.sc (.int i)) (.sc (.int j)) Q = Q (.bl (decide (j < i))) := rfl
theorem o_le : leD (.sc (.int i)) (.sc (.int j)) Q = Q (.bl (decide (i ≤ j))) := rfl
theorem o_ge : geD (.sc (.int i)) (.sc (.int j)) Q = Q (.bl (decide (j ≤ i))) := rfl
theorem o_add : addD (.sc (.int i)) (.sc (.int j)) Q = Q (.int (i + j)) := rfl
theorem o_addS : addD (.sc (.str s)) (.sc (.str t)) Q = (s.length + t.length ≤ 16777216 ∧ Q (.str (s ++ t))) := rfl
theorem o_addL : addD (.nd (.lst o) xs) (.nd (.lst p) ys) Q = (stb (.lst o) xs = true ∧ stb (.lst p) ys = true ∧ xs.length + ys.length ≤ 16777216 ∧ Q (.lst true (xs ++ ys))) := rfl
theorem o_addT : addD (.nd .tup xs) (.nd .tup ys) Q = (fzL xs = true ∧ fzL ys = true ∧ xs.length + ys.length ≤ 16777216 ∧ Q (.tup (xs ++ ys))) := rfl
theorem o_sub : subD (.sc (.int i)) (.sc (.int j)) Q = Q (.int (i - j)) := rfl
theorem o_mul : mulD (.sc (.int i)) (.sc (.int j)) Q = (((-(2 ^ 64) < i ∧ i < 2 ^ 64) ∨ (-(2 ^ 64) < j ∧ j < 2 ^ 64)) ∧ Q (.int (i * j))) := rfl
theorem o_fdiv : fdivD (.sc (.int i)) (.sc (.int j)) Q = ((0 < j ∧ j < 1073741824) ∧ Q (.int (i / j))) := rfl
theorem o_mod : modD (.sc (.int i)) (.sc (.int j)) Q = (0 < j ∧ Q (.int (i % j))) := rfl
theorem o_pow : powD (.sc (.int i)) (.sc (.int j)) Q = ((0 ≤ j ∧ j ≤ 1000000 ∧ i.natAbs < 2 ^ 64) ∧ Q (.int (i ^ j.toNat))) := rfl
theorem o_eq : eqD (.sc a) (.sc b) Q = Q (.bl (eqS a b)) := rfl
theorem o_eqN {k l : Kind} : eqD (.nd k xs) (.nd l ys) Q = (okE 8 (.nd k xs) = true ∧ okE 8 (.nd l ys) = true ∧ Q (.bl (eqv (.nd k xs) (.nd l ys)))) := rfl
theorem o_ne : neD (.sc a) (.sc b) Q = Q (.bl (!eqS a b)) := rfl
theorem o_neN {k l : Kind} : neD (.nd k xs) (.nd l ys) Q = (okE 8 (.nd k xs) = true ∧ okE 8 (.nd l ys) = true ∧ Q (.bl (!eqv (.nd k xs) (.nd l ys)))) := rfl
theorem o_isB {c : Bool} {Q : Bool → Prop} : isB (.sc (.bl c)) Q = Q c := rfl
theorem o_isI {Q : Int → Prop} : isI (.sc (.int i)) Q = Q i := rfl
theorem o_len : lenD [.nd (.lst o) xs] Q = Q (.int xs.length) := rfl
theorem o_lenC : lenD [.nd .scr xs] Q = Q (.int xs.length) := rfl
theorem o_lenT : lenD [.nd .tup xs] Q = Q (.int xs.length) := rfl
theorem o_lenD : lenD [.nd (.dct o ks) xs] Q = Q (.int xs.length) := rfl
theorem o_lenS : lenD [.sc (.str s)] Q = (s.length ≤ 16777216 ∧ Q (.int s.length)) := rfl
theorem o_ix : ixD (.nd (.lst o) xs) (.sc (.int i)) Q = ∃ d, atI xs i = some d ∧ Q d := rfl
theorem o_ixC : ixD (.nd .scr xs) (.sc (.int i)) Q = ∃ d, atI xs i = some d ∧ Q d := rfl
theorem o_ixT : ixD (.nd .tup xs) (.sc (.int i)) Q = ∃ d, atI xs i = some d ∧ Q d := rfl
theorem o_ixS : ixD (.sc (.str s)) (.sc (.int i)) Q = (s.length ≤ 16777216 ∧ ∃ c, atI s i = some c ∧ Q (.str [c])) := rfl
theorem o_ixDs : ixD (.nd (.dct o ks) xs) (.sc (.str s)) Q = ∃ d, lkp ks xs (.inr s) = some d ∧ Q d := propext ⟨fun ⟨k, d, h1, h2, h3⟩ => by cases h1; exact ⟨d, h2, h3⟩, fun ⟨d, h2, h3⟩ => ⟨_, d, rfl, h2, h3⟩⟩
theorem o_ixDi : ixD (.nd (.dct o ks) xs) (.sc (.int i)) Q = ∃ d, lkp ks xs (.inl i) = some d ∧ Q d := propext ⟨fun ⟨k, d, h1, h2, h3⟩ => by cases h1; exact ⟨d, h2, h3⟩, fun ⟨d, h2, h3⟩ => ⟨_, d, rfl, h2, h3⟩⟩
theorem o_put : putD (.nd (.lst true) xs) (.sc (.int i)) y Q = ∃ j, ixN xs.length i = some j ∧ Q (.nd (.lst true) (xs.set j y)) := rfl
theorem o_putN {k : DK} {a : Sc} (hk : keyS a = some k) (h : posOf ks k = none) : putD (.nd (.dct true ks) xs) (.sc a) y Q = (ks.length < 1000000 ∧ Q (.nd (.dct true (ks ++ [k])) (xs ++ [y]))) := by
  refine propext ⟨fun ⟨k', h1, h2, h3⟩ => ?_, fun ⟨h2, h3⟩ => ⟨k, hk, h2, ?_⟩⟩
  · rw [hk] at h1; cases h1
    rw [h] at h3
    exact ⟨h2, h3⟩
  · rw [h]; exact h3
theorem o_putNs (h : posOf ks (.inr s) = none) : putD (.nd (.dct true ks) xs) (.sc (.str s)) y Q = (ks.length < 1000000 ∧ Q (.nd (.dct true (ks ++ [.inr s])) (xs ++ [y]))) := o_putN rfl h
theorem o_putNi (h : posOf ks (.inl i) = none) : putD (.nd (.dct true ks) xs) (.sc (.int i)) y Q = (ks.length < 1000000 ∧ Q (.nd (.dct true (ks ++ [.inl i])) (xs ++ [y]))) := o_putN rfl h
theorem o_putK {k : DK} {a : Sc} {j : Nat} (hk : keyS a = some k) (h : posOf ks k = some j) : putD (.nd (.dct true ks) xs) (.sc a) y Q = (ks.length < 1000000 ∧ ks.Nodup ∧ Q (.nd (.dct true ks) (xs.set j y))) := by
  refine propext ⟨fun ⟨k', h1, h2, h3⟩ => ?_, fun ⟨h2, h3⟩ => ⟨k, hk, h2, ?_⟩⟩
  · rw [hk] at h1; cases h1
    rw [h] at h3
    exact ⟨h2, h3⟩
  · rw [h]; exact h3
theorem o_inD {neg : Bool} : inD neg (.sc (.str s)) (.nd (.dct o ks) xs) Q = Q (.bl (neg ^^ hasK ks (.inr s))) := by
  rcases s with _ | ⟨c, _ | ⟨c2, r⟩⟩ <;> exact propext ⟨fun ⟨k, h1, h2⟩ => by cases h1; exact h2, fun h => ⟨_, rfl, h⟩⟩
theorem o_inDi {neg : Bool} : inD neg (.sc (.int i)) (.nd (.dct o ks) xs) Q = Q (.bl (neg ^^ hasK ks (.inl i))) := propext ⟨fun ⟨k, h1, h2⟩ => by cases h1; exact h2, fun h => ⟨_, rfl, h⟩⟩
theorem o_inL {neg : Bool} : inD neg (.sc a) (.nd (.lst o) xs) Q = (xs.all flatD = true ∧ Q (.bl (neg ^^ xs.any fun d => eqv d (.sc a)))) := by
  cases a with
  | str s => rcases s with _ | ⟨c, _ | ⟨c2, r⟩⟩ <;> rfl
  | _ => rfl
theorem o_inT {neg : Bool} : inD neg (.sc a) (.nd .tup xs) Q = (xs.all flatD = true ∧ Q (.bl (neg ^^ xs.any fun d => eqv d (.sc a)))) := by
  cases a with
  | str s => rcases s with _ | ⟨c, _ | ⟨c2, r⟩⟩ <;> rfl
  | _ => rfl
theorem o_inS {neg : Bool} {c : Nat} : inD neg (.sc (.str [c])) (.sc (.str t)) Q = Q (.bl (neg ^^ decide (c ∈ t))) := rfl
theorem o_idx : idxD (.nd (.lst o) xs) [.sc a] Q = (xs.all flatD = true ∧ ∃ j, idxS xs a = some j ∧ Q (.int j)) := rfl
theorem o_list : listD [.nd (.lst o) xs] Q = (stb (.lst o) xs = true ∧ Q (.lst true xs)) := rfl
theorem o_listC : listD [.nd .scr xs] Q = Q (.lst true xs) := rfl
theorem o_listT : listD [.nd .tup xs] Q = (fzL xs = true ∧ Q (.lst true xs)) := rfl
theorem o_listD : listD [.nd (.dct o ks) xs] Q = Q (.lst true (ks.map keyD)) := rfl
theorem o_tuple : tupleD [.nd (.lst o) xs] Q = (stb (.lst o) xs = true ∧ Q (.tup xs)) := rfl
theorem o_tupleT : tupleD [.nd .tup xs] Q = (fzL xs = true ∧ Q (.tup xs)) := rfl
theorem o_intI : intD [.sc (.int i)] Q = Q (.int i) := rfl
theorem o_intB {c : Bool} : intD [.sc (.bl c)] Q = Q (.int (if c then 1 else 0)) := rfl
theorem o_ord {c : Nat} : ordD [.sc (.str [c])] Q = Q (.int (c : Nat)) := rfl
theorem o_str : strD [.sc (.int i)] Q = (i.natAbs.log2 < 1920 ∧ Q (.str (numT i))) := rfl
theorem o_max : maxD [.sc (.int i), .sc (.int j)] Q = Q (.int (if j > i then j else i)) := rfl
theorem o_min : minD [.sc (.int i), .sc (.int j)] Q = Q (.int (if j < i then j else i)) := rfl
theorem o_isNo {x : Sc} : isNo (.sc x) (.sc .non) Q = Q (.bl (decide (x = .non))) := by cases x <;> rfl
theorem o_tyL : tyD (.nd (.lst o) xs) = some "list" := rfl
theorem o_tyT : tyD (.nd .tup xs) = some "tuple" := rfl
theorem o_tyD : tyD (.nd (.dct o ks) xs) = some "dict" := rfl
theorem o_tyS : tyD (.sc (.str s)) = some "str" := rfl
theorem o_tyI : tyD (.sc (.int i)) = some "int" := rfl
theorem o_sl {lo hi : Option Int} : slD lo hi (.nd (.lst o) xs) Q = (stb (.lst o) xs = true ∧ Q (.lst true (cutG xs lo hi))) := rfl
theorem o_slC {lo hi : Option Int} : slD lo hi (.nd .scr xs) Q = Q (.lst true (cutG xs lo hi)) := rfl
theorem o_slS {lo hi : Option Int} : slD lo hi (.sc (.str s)) Q = (s.length ≤ 16777216 ∧ Q (.str (cutG s lo hi))) := rfl
theorem o_slT {lo hi : Option Int} : slD lo hi (.nd .tup xs) Q = (fzL xs = true ∧ Q (.tup (cutG xs lo hi))) := rfl
theorem isi_of {T t : String} {b : Bool} (h : tyD d = some t) (hk : kitB t T = some b) : isiD T d Q = Q (.bl b) := propext ⟨fun ⟨t', b', h1, h2, h3⟩ => by rw [h] at h1; cases h1; rw [hk] at h2; cases h2; exact h3, fun q => ⟨t, b, h, hk, q⟩⟩
theorem o_isiT : isiD "tuple" (.nd .tup xs) Q = Q (.bl true) := isi_of rfl (by decide)
theorem o_isiL : isiD "list" (.nd (.lst o) xs) Q = Q (.bl true) := isi_of rfl (by decide)
theorem o_isiS : isiD "str" (.sc (.str s)) Q = Q (.bl true) := isi_of rfl (by decide)
theorem o_isiI : isiD "int" (.sc (.int i)) Q = Q (.bl true) := isi_of rfl (by decide)
theorem atI_0 {α : Type} {a : α} {r : List α} : atI (a :: r) 0 = some a := atI_nat (j := 0) rfl
theorem atI_1 {α : Type} {a b : α} {r : List α} : atI (a :: b :: r) 1 = some b := atI_nat (j := 1) rfl
theorem atI_2 {α : Type} {a b c : α} {r : List α} : atI (a :: b :: c :: r) 2 = some c := atI_nat (j := 2) rfl
theorem atI_3 {α : Type} {a b c d : α} {r : List α} : atI (a :: b :: c :: d :: r) 3 = some d := atI_nat (j := 3) rfl
theorem o_lsD {Q : List D → Prop} : lsD (.nd (.lst o) xs) Q = Q (if o = true then frzL xs else xs) := rfl
theorem o_lsC {Q : List D → Prop} : lsD (.nd .scr xs) Q = Q xs := rfl
theorem o_it {Q : List D → Prop} : itD (.nd (.lst o) xs) Q = Q (if o = true then frzL xs else xs) := rfl
theorem o_itC {Q : List D → Prop} : itD (.nd .scr xs) Q = Q xs := rfl
theorem o_itT {Q : List D → Prop} : itD (.nd .tup xs) Q = Q (frzL xs) := rfl
theorem o_itS {Q : List D → Prop} : itD (.sc (.str s)) Q = Q (s.map fun c => .str [c]) := rfl
end
section
variable {Q : D → D → Prop} {xs ys : List D} {y : D} {z : Int} {o : Bool}
theorem o_app : appM (.nd (.lst true) xs) [y] Q = (xs.length < 1000000 ∧ Q .non (.nd (.lst true) (xs ++ [y]))) := rfl
theorem o_ext : extM (.nd (.lst true) xs) [.nd (.lst o) ys] Q = (xs.length + ys.length ≤ 1000000 ∧ stb (.lst o) ys = true ∧ Q .non (.nd (.lst true) (xs ++ ys))) := rfl
theorem o_ins : insM (.nd (.lst true) xs) [.sc (.int z), y] Q = (xs.length < 1000000 ∧ 0 ≤ z ∧ z < 2 ^ 63 ∧ Q .non (.nd (.lst true) (xs.take z.toNat ++ y :: xs.drop z.toNat))) := rfl
theorem o_pop : popM (.nd (.lst true) xs) [.sc (.int z)] Q = (xs.length ≤ 1000000 ∧ ∃ j, ixN xs.length z = some j ∧ ∃ y, xs[j]? = some y ∧ Q y (.nd (.lst true) (xs.eraseIdx j))) := propext ⟨fun ⟨j, y, h1, h2, h3, h4⟩ => ⟨h1, j, h2, y, h3, h4⟩, fun ⟨h1, j, h2, y, h3, h4⟩ => ⟨j, y, h1, h2, h3, h4⟩⟩
theorem o_rev : revM (.nd (.lst true) xs) [] Q = Q .non (.nd (.lst true) xs.reverse) := rfl
theorem o_clr : clrM (.nd (.lst true) xs) [] Q = Q .non (.nd (.lst true) []) := rfl
end
section
variable {Q : Nat → Prop} {xs : List D} {z : Int} {o : Bool} {ks : List DK} {s : Txt}
theorem o_posL (h : fz (.nd (.lst o) xs) = false) : posD (.nd (.lst o) xs) (.sc (.int z)) Q = ∃ j, ixN xs.length z = some j ∧ Q j := propext ⟨fun h => h.2, fun q => ⟨h, q⟩⟩
theorem o_pos : posD (.nd (.lst true) xs) (.sc (.int z)) Q = ∃ j, ixN xs.length z = some j ∧ Q j := o_posL fz_lst
theorem o_posT (h : fz (.nd .tup xs) = false) : posD (.nd .tup xs) (.sc (.int z)) Q = ∃ j, ixN xs.length z = some j ∧ Q j := propext ⟨fun h => h.2, fun q => ⟨h, q⟩⟩
theorem o_posS : posD (.nd (.dct true ks) xs) (.sc (.str s)) Q = ∃ j, posOf ks (.inr s) = some j ∧ Q j := propext ⟨fun ⟨_, k, j, h1, h2, h3⟩ => by cases h1; exact ⟨j, h2, h3⟩, fun ⟨j, h2, h3⟩ => ⟨fz_dct, _, j, rfl, h2, h3⟩⟩
end
theorem noC_sc {s : Sc} : noC (.sc s) = true := rfl
theorem noC_lst {xs : List D} : noC (.nd (.lst true) xs) = noCL xs := by rw [noC]; rfl
theorem noC_tup {xs : List D} : noC (.nd .tup xs) = noCL xs := by rw [noC]; rfl
theorem noC_dct {ks : List DK} {xs : List D} : noC (.nd (.dct true ks) xs) = noCL xs := by rw [noC]; rfl
theorem noCL_nil : noCL [] = true := rfl
theorem noCL_cons {d : D} {r : List D} : noCL (d :: r) = (noC d && noCL r) := rfl
theorem noCL_all : ∀ l : List D, noCL l = l.all noC
  | [] => rfl
  | d :: r => by rw [noCL, noCL_all r]; rfl
theorem noCL_map {α : Type} {f : α → D} {l : List α} (h : ∀ x ∈ l, noC (f x) = true) : noCL (l.map f) = true := by
  rw [noCL_all, List.all_map]
  exact List.all_eq_true.mpr h
theorem noCL_str (l : List Txt) : noCL (l.map D.str) = true := noCL_map fun _ _ => rfl
theorem noCL_str2 {α : Type} (f : α → Txt) (l : List α) : noCL (l.map fun x => D.str (f x)) = true := noCL_map fun _ _ => rfl
theorem noCL_int (l : List Int) : noCL (l.map D.int) = true := noCL_map fun _ _ => rfl
theorem okE_str {n : Nat} {s : Txt} (h : ∀ c ∈ s, c < 1114112) : okE n (.str s) = true := by
  rw [okE]
  exact List.all_eq_true.mpr fun c hc => decide_eq_true (h c hc)
theorem okE_lst {n : Nat} {o : Bool} {xs : List D} (h : ∀ x ∈ xs, okE n x = true) : okE (n + 1) (.nd (.lst o) xs) = true := by
  rw [okE, okEL_all]
  exact Bool.and_eq_true_iff.mpr ⟨rfl, List.all_eq_true.mpr h⟩
theorem stb_lst {o : Bool} {xs : List D} (h : fzL xs = true) : stb (.lst o) xs = true := by
  unfold stb
  simp [h]
/-- texts whose signs are signs -/
def okT (t : Txt) : Prop := ∀ c ∈ t, c < 1114112
end DL

set_option Elab.async false
set_option linter.all false
namespace DL
open L2 TL
/-! ## small tools, for classes and texts -/
section
variable {Q : D → Prop} {s t : Txt} {tab : List (Txt × Sc)} {neg o : Bool} {c j : Nat} {xs : List D} {y : D}
theorem o_gIn : gInD neg tab (.sc (.str s)) Q = Q (.bl (neg ^^ (lkT tab s).isSome)) := rfl
theorem o_gIx : gIxD tab (.sc (.str s)) Q = ∃ v, lkT tab s = some v ∧ Q (.sc v) := rfl
theorem o_insD : insD c (.nd (.ins o c) xs) = True := by simp [insD]
theorem o_sflK (h : j < xs.length) : putFl c j (.nd (.ins true c) xs) y Q = Q (.nd (.ins true c) (xs.set j y)) := propext ⟨fun ⟨_, h1⟩ => h1.elim (fun z => z.2) fun z => by omega, fun q => ⟨rfl, .inl ⟨h, q⟩⟩⟩
theorem o_sflN (h : j = xs.length) : putFl c j (.nd (.ins true c) xs) y Q = Q (.nd (.ins true c) (xs ++ [y])) := propext ⟨fun ⟨_, h1⟩ => h1.elim (fun z => by omega) fun z => z.2, fun q => ⟨rfl, .inr ⟨h, q⟩⟩⟩
theorem o_split : splitD (.sc (.str s)) [.sc (.str t)] Q = (t ≠ [] ∧ (∀ c ∈ t, c < 256) ∧ s.length ≤ 16000000 ∧ Q (.lst true ((spl t 0 [] s).map D.str))) := rfl
theorem str_inj {a b : Txt} (h : D.str a = D.str b) : a = b := by cases h; rfl
theorem strs_inj : ∀ {a b : List Txt}, a.map D.str = b.map D.str → a = b
  | [], [], _ => rfl
  | [], _ :: _, h => by cases h
  | _ :: _, [], h => by cases h
  | x :: a, y :: b, h => by
    rw [List.map_cons, List.map_cons, List.cons.injEq] at h
    rw [str_inj h.1, strs_inj h.2]
theorem o_join {ts : List Txt} : joinD (.sc (.str s)) [.nd (.lst o) (ts.map D.str)] Q = ((ts.map (·.length)).sum + ts.length * s.length ≤ 16777216 ∧ Q (.str (joinL s ts))) := propext ⟨fun ⟨us, h1, h2, h3⟩ => by rw [strs_inj h1]; exact ⟨h2, h3⟩, fun ⟨h2, h3⟩ => ⟨ts, rfl, h2, h3⟩⟩
theorem o_joinT {ts : List Txt} : joinD (.sc (.str s)) [.nd .tup (ts.map D.str)] Q = ((ts.map (·.length)).sum + ts.length * s.length ≤ 16777216 ∧ Q (.str (joinL s ts))) := propext ⟨fun ⟨us, h1, h2, h3⟩ => by rw [strs_inj h1]; exact ⟨h2, h3⟩, fun ⟨h2, h3⟩ => ⟨ts, rfl, h2, h3⟩⟩
end
/-- [te for x in l] -/
theorem lcD_map {α : Type} {i : Nat} {te : TEd} {E0 : Sl} {Q : List D → Prop} {f r : α → D} (hi : i < E0.length) : ∀ (l : List α) (acc : List D), (∀ a ∈ l, ∀ Qd : Bool → D → Prop, Qd false (r a) → te (E0.set i (some (f a))) Qd (fun _ => False)) →
    acc.length + l.length ≤ 100000 → Q (acc ++ l.map r) → lcD (gN i) dYes te E0 Q (l.map f) acc
  | [], acc, _, _, q => by rw [List.map_nil, List.append_nil] at q; exact q
  | a :: l, acc, h, hl, q => by
    have hl' : acc.length + (l.length + 1) ≤ 100000 := hl
    rw [List.map_cons, lcD]
    refine ⟨List.length_set, ?_⟩
    simp only [dYes, if_true]
    refine h a List.mem_cons_self _ ⟨safe_f, by omega, ?_⟩
    exact lcD_map hi l _ (fun b hb => h b (List.mem_cons_of_mem _ hb)) (by rw [List.length_append, List.length_singleton]; omega) (by rw [List.append_assoc]; exact q)
theorem o_all {o : Bool} {bs : List Bool} {Q : D → Prop} : allD [.nd (.lst o) (bs.map D.bl)] Q = Q (.bl (bs.all id)) := propext ⟨fun ⟨cs, h1, h2⟩ => by rw [blsOf_map] at h1; cases h1; exact h2, fun h => ⟨bs, blsOf_map bs, h⟩⟩
theorem all_map {α : Type} (f : α → Bool) (l : List α) : (l.map f).all id = l.all f := by rw [List.all_map]; rfl
end DL

set_option Elab.async false
set_option linter.all false
namespace DL
open L2 TL
/-! ## more small tools -/
theorem cutG_from {α : Type} (xs : List α) (k : Nat) : cutG xs (some ((k : Nat) : Int)) none = xs.drop k := by
  unfold cutG HT.sIx
  simp only
  by_cases h : k ≤ xs.length
  · rw [List.take_of_length_le (by rw [List.length_drop]; split <;> omega)]
    congr 1
    split <;> omega
  · rw [List.drop_of_length_le (show xs.length ≤ k by omega)]
    apply List.eq_nil_of_length_eq_zero
    rw [List.length_take, List.length_drop]
    split <;> omega
theorem cutG_to {α : Type} (xs : List α) (k : Nat) : cutG xs none (some ((k : Nat) : Int)) = xs.take k := by
  unfold cutG HT.sIx
  simp only [List.drop_zero, Nat.sub_zero]
  by_cases h : k ≤ xs.length
  · congr 1
    split <;> omega
  · rw [List.take_of_length_le (show xs.length ≤ k by omega), List.take_of_length_le (by split <;> omega)]
theorem cutG_f1 {α : Type} (x : α) (xs : List α) : cutG (x :: xs) (some 1) none = xs := cutG_from (x :: xs) 1
theorem cutG_f2 {α : Type} (x y : α) (xs : List α) : cutG (x :: y :: xs) (some 2) none = xs := cutG_from (x :: y :: xs) 2
theorem cutG_t1 {α : Type} (x : α) (xs : List α) : cutG (x :: xs) none (some 1) = [x] := cutG_to (x :: xs) 1
theorem cutG_t2 {α : Type} (x y : α) (xs : List α) : cutG (x :: y :: xs) none (some 2) = [x, y] := cutG_to (x :: y :: xs) 2
theorem nodup_len {α : Type} [DecidableEq α] : ∀ {a b : List α}, a.Nodup → (∀ x ∈ a, x ∈ b) → a.length ≤ b.length
  | [], b, _, _ => Nat.zero_le _
  | x :: a, b, nd, h => by
    have nd' := List.nodup_cons.mp nd
    have hx := h x List.mem_cons_self
    have ih := nodup_len (b := b.erase x) nd'.2 fun y hy => (List.mem_erase_of_ne (fun e => nd'.1 (by rw [← e]; exact hy))).mpr (h y (List.mem_cons_of_mem _ hy))
    rw [List.length_erase_of_mem hx] at ih
    have := List.length_pos_of_mem hx
    rw [List.length_cons]
    omega
/-- a comprehension with a test -/
theorem lcD_filt {α : Type} {i : Nat} {tt : TTd} {te : TEd} {E0 : Sl} {Q : List D → Prop} {f r : α → D} {p : α → Bool} (hi : i < E0.length) : ∀ (l : List α) (acc : List D),
    (∀ a ∈ l, ∀ Qb : Bool → Prop, Qb (p a) → tt (E0.set i (some (f a))) Qb (fun _ => False)) →
    (∀ a ∈ l, p a = true → ∀ Qd : Bool → D → Prop, (∀ b, safe b (r a) → Qd b (r a)) → te (E0.set i (some (f a))) Qd (fun _ => False)) →
    acc.length + l.length ≤ 100000 → Q (acc ++ (l.filter p).map r) → lcD (gN i) tt te E0 Q (l.map f) acc
  | [], acc, _, _, _, q => by rw [List.filter_nil, List.map_nil, List.append_nil] at q; exact q
  | a :: l, acc, ht, h, hl, q => by
    have hl' : acc.length + (l.length + 1) ≤ 100000 := hl
    rw [List.map_cons, lcD]
    refine ⟨List.length_set, ?_⟩
    refine ht a List.mem_cons_self _ ?_
    by_cases hp : p a = true
    · rw [if_pos hp]
      refine h a List.mem_cons_self hp _ fun bb sb => ⟨sb, by omega, ?_⟩
      refine lcD_filt hi l _ (fun b hb => ht b (List.mem_cons_of_mem _ hb)) (fun b hb => h b (List.mem_cons_of_mem _ hb)) (by rw [List.length_append, List.length_singleton]; omega) ?_
      rw [List.filter_cons_of_pos hp, List.map_cons] at q
      rw [List.append_assoc]
      exact q
    · rw [if_neg hp]
      refine lcD_filt hi l _ (fun b hb => ht b (List.mem_cons_of_mem _ hb)) (fun b hb => h b (List.mem_cons_of_mem _ hb)) (by omega) ?_
      rw [List.filter_cons_of_neg hp] at q
      exact q
theorem posOf_inr_in {l : List Txt} {t : Txt} (h : t ∈ l) : ∃ j, posOf (l.map Sum.inr) (Sum.inr t : DK) = some j := by
  cases e : posOf (l.map Sum.inr) (Sum.inr t : DK) with
  | some j => exact ⟨j, rfl⟩
  | none => exact absurd (List.mem_map.mpr ⟨t, h, rfl⟩) (posOf_none.mp e)
theorem posOf_inr_no {l : List Txt} {t : Txt} (h : t ∉ l) : posOf (l.map Sum.inr) (Sum.inr t : DK) = none := posOf_none.mpr fun z => by
  obtain ⟨x, hx, e⟩ := List.mem_map.mp z
  exact h (Sum.inr.inj e ▸ hx)
theorem hasK_inr (l : List Txt) (t : Txt) : hasK (l.map Sum.inr) (Sum.inr t : DK) = decide (t ∈ l) := by
  by_cases h : t ∈ l
  · rw [decide_eq_true h]; exact hasK_iff.mpr (List.mem_map.mpr ⟨t, h, rfl⟩)
  · rw [decide_eq_false h]
    refine Bool.eq_false_iff.mpr fun z => h ?_
    obtain ⟨x, hx, e⟩ := List.mem_map.mp (hasK_iff.mp z)
    rw [← Sum.inr.inj e]; exact hx
theorem nodup_inr {l : List Txt} (h : l.Nodup) : (l.map Sum.inr : List DK).Nodup := by
  rw [List.nodup_iff_pairwise_ne, List.pairwise_map]
  exact (List.nodup_iff_pairwise_ne.mp h).imp fun h z => h (Sum.inr.inj z)
theorem eqS_str' {a b : Txt} : eqS (.str a) (.str b) = decide (a = b) := by by_cases h : a = b <;> simp [eqS, h]
theorem o_isNt' {x : Sc} {Q : D → Prop} : isNt (.sc x) (.sc .non) Q = Q (.bl (!decide (x = .non))) := by cases x <;> rfl
theorem o_isNtN {k : Kind} {xs : List D} {Q : D → Prop} : isNt (.nd k xs) (.sc .non) Q = Q (.bl true) := by rfl
theorem ite_or2 {α : Type _} {P R : Prop} [Decidable P] [Decidable R] {A B : α} (h : P ∨ R) : (if P then A else if R then A else B) = A := by
  by_cases p : P
  · rw [if_pos p]
  · rw [if_neg p, if_pos (h.resolve_left p)]
theorem ite_no2 {α : Type _} {P R : Prop} [Decidable P] [Decidable R] {A A' B : α} (h1 : ¬ P) (h2 : ¬ R) : (if P then A else if R then A' else B) = B := by rw [if_neg h1, if_neg h2]
theorem ite_no3 {α : Type _} {P R S : Prop} [Decidable P] [Decidable R] [Decidable S] {A A' B : α} (h1 : ¬ P) (h2 : R → ¬ S) : (if P then A else if R then (if S then A' else B) else B) = B := by
  rw [if_neg h1]
  by_cases r : R
  · rw [if_pos r, if_neg (h2 r)]
  · rw [if_neg r]
theorem atI_end {α : Type} (xs : List α) (x : α) : atI (xs ++ [x]) (-1) = some x := by
  unfold atI
  rw [List.length_append, List.length_singleton, ixN_last]
  simp
abbrev gDl' (o : Bool) (g : List Txt) : D := .nd (.lst o) (g.map D.str)
theorem snoc_strs (o : Bool) (g : List Txt) (t : Txt) : D.nd (.lst o) (g.map D.str ++ [D.sc (.str t)]) = gDl' o (g ++ [t]) := by simp
end DL

set_option Elab.async false
set_option linter.all false
namespace KM
open DL
/-! ## kept things, plainly -/
abbrev B2 := List (Txt × Txt)
def lastT (g : List Txt) : Txt := g.getLastD []
def lk : B2 → Txt → Option Txt
  | [], _ => none
  | (a, b) :: r, t => if a = t then some b else lk r t
def atOf (p : Txt → Nat) (t : Txt) : List (List Txt) → Nat
  | [] => 0
  | g :: r => if p (lastT g) < p t then atOf p t r + 1 else 0
def putG (t : Txt) : Nat → List (List Txt) → List (List Txt)
  | 0, [] => [[t]]
  | 0, g :: r => (g ++ [t]) :: r
  | n + 1, g :: r => g :: putG t n r
  | _ + 1, [] => [[t]]
def stepG (p : Txt → Nat) (s : List (List Txt) × B2) (t : Txt) : List (List Txt) × B2 :=
  let a := atOf p t s.1
  let G := putG t a s.1
  (G, if 0 < a then s.2 ++ [(t, lastT (G.getD (a - 1) []))] else s.2)
def groupsOf (p : Txt → Nat) (one : List Txt) : List (List Txt) × B2 := one.foldl (stepG p) ([], [])
def keptFrom (B : B2) : Nat → Txt → List Txt
  | 0, t => [t]
  | n + 1, t => t :: match lk B t with
    | some b => keptFrom B n b
    | none => []
def keptMost (p : Txt → Nat) (one : List Txt) : List Txt :=
  let s := groupsOf p one
  if s.1 = [] then [] else (keptFrom s.2 one.length (lastT (s.1.getLastD []))).reverse

theorem ne_len {α : Type} {l : List α} (h : l ≠ []) : 0 < l.length := List.length_pos_iff.mpr h
theorem lk_append (B C : B2) (t : Txt) : lk (B ++ C) t = (lk B t).or (lk C t) := by
  induction B with
  | nil => rfl
  | cons x r ih =>
    obtain ⟨a, b⟩ := x
    rw [List.cons_append, lk, lk]
    by_cases e : a = t
    · rw [if_pos e, if_pos e]; rfl
    · rw [if_neg e, if_neg e, ih]
theorem lk_none {B : B2} {t : Txt} (h : ∀ x ∈ B, x.1 ≠ t) : lk B t = none := by
  induction B with
  | nil => rfl
  | cons x r ih =>
    obtain ⟨a, b⟩ := x
    rw [lk, if_neg (h (a, b) List.mem_cons_self), ih fun y hy => h y (List.mem_cons_of_mem _ hy)]
theorem split_at (p : Txt → Nat) (t : Txt) : ∀ G : List (List Txt), ∃ pre post, G = pre ++ post ∧ atOf p t G = pre.length ∧ (∀ g ∈ pre, p (lastT g) < p t) ∧ (post = [] ∨ ∃ g r, post = g :: r ∧ ¬ p (lastT g) < p t)
  | [] => ⟨[], [], rfl, rfl, fun _ z => (by cases z), .inl rfl⟩
  | g :: r => by
    by_cases h : p (lastT g) < p t
    · obtain ⟨pre, post, e1, e2, e3, e4⟩ := split_at p t r
      refine ⟨g :: pre, post, by rw [e1]; rfl, by rw [atOf, if_pos h, e2]; rfl, fun x hx => ?_, e4⟩
      rcases List.mem_cons.mp hx with z | z
      · rw [z]; exact h
      · exact e3 x z
    · exact ⟨[], g :: r, rfl, by rw [atOf, if_neg h]; rfl, fun _ z => (by cases z), .inr ⟨g, r, rfl, h⟩⟩
theorem putG_split (t : Txt) (pre post : List (List Txt)) : putG t pre.length (pre ++ post) = pre ++ (match post with | [] => [[t]] | g :: r => (g ++ [t]) :: r) := by
  induction pre with
  | nil => cases post <;> rfl
  | cons g r ih => rw [List.cons_append, List.length_cons, putG, ih]; rfl
theorem lastT_snoc (g : List Txt) (t : Txt) : lastT (g ++ [t]) = t := by simp [lastT]
theorem lastT_mem {g : List Txt} (h : g ≠ []) : lastT g ∈ g := by
  unfold lastT
  cases g with
  | nil => exact absurd rfl h
  | cons a r => rw [List.getLastD_cons]; cases r with
    | nil => simp
    | cons b s => 
      rw [List.getLastD_cons]
      have : (b :: s).getLastD a ∈ b :: s := by
        rw [List.getLastD_eq_getLast?]
        rw [List.getLast?_eq_getLast (List.cons_ne_nil b s)]
        exact List.getLast_mem _
      rw [List.getLastD_cons] at this
      exact List.mem_cons_of_mem _ this
structure Inv (p : Txt → Nat) (done : List Txt) (G : List (List Txt)) (B : B2) : Prop where
  ne : ∀ g ∈ G, g ≠ []
  pm : G.flatten.Perm done
  fall : ∀ g ∈ G, g.Pairwise fun a b => p b < p a
  sub : ∀ g ∈ G, g.Sublist done
  low : ∀ g t, G[0]? = some g → t ∈ g → lk B t = none
  up : ∀ a g t, G[a + 1]? = some g → t ∈ g → ∃ b g', G[a]? = some g' ∧ b ∈ g' ∧ lk B t = some b ∧ p b < p t ∧ [b, t].Sublist done
  keys : ∀ x ∈ B, x.1 ∈ done
  few : B.length ≤ done.length
theorem Inv.init (p : Txt → Nat) : Inv p [] [] [] := ⟨fun _ z => (by cases z), .nil, fun _ z => (by cases z), fun _ z => (by cases z), fun _ _ z => (by cases z), fun _ _ _ z => (by simp at z), fun _ z => (by cases z), Nat.le_refl _⟩
theorem Inv.step {p : Txt → Nat} {done : List Txt} {G : List (List Txt)} {B : B2} (I : Inv p done G B) {t : Txt} (ht : t ∉ done) (inj : ∀ x ∈ done, p x ≠ p t) : Inv p (done ++ [t]) (stepG p (G, B) t).1 (stepG p (G, B) t).2 := by
  obtain ⟨pre, post, e1, e2, e3, e4⟩ := split_at p t G
  obtain ⟨h, r, hp, hpost, hh⟩ : ∃ h r, putG t (atOf p t G) G = pre ++ (h ++ [t]) :: r ∧ (post = [] ∧ h = [] ∧ r = [] ∨ post = h :: r) ∧ ∀ x ∈ h, p t < p x := by
    rw [e2, e1, putG_split]
    rcases e4 with z | ⟨g, r, z, hn⟩
    · subst z; exact ⟨[], [], rfl, .inl ⟨rfl, rfl, rfl⟩, fun _ z => (by cases z)⟩
    · subst z
      refine ⟨g, r, rfl, .inr rfl, fun x hx => ?_⟩
      have hg : g ∈ G := by rw [e1]; simp
      have hne := I.ne g hg
      have hl := lastT_mem hne
      have hd : lastT g ∈ done := (I.sub g hg).subset hl
      have h1 : p t < p (lastT g) := by
        have := inj _ hd
        omega
      by_cases e : x = lastT g
      · rw [e]; exact h1
      · have : p (lastT g) < p x := by
          have hf := I.fall g hg
          obtain ⟨init, el⟩ : ∃ init, g = init ++ [lastT g] := by
            refine ⟨g.dropLast, ?_⟩
            have := List.dropLast_concat_getLast hne
            rw [show lastT g = g.getLast hne by unfold lastT; rw [List.getLastD_eq_getLast?, List.getLast?_eq_getLast hne]; rfl]
            exact this.symm
          rw [el] at hf hx
          rcases List.mem_append.mp hx with z | z
          · exact (List.pairwise_append.mp hf).2.2 x z _ List.mem_cons_self
          · exact absurd (List.mem_singleton.mp z) (by rw [← el] at *; exact e)
        omega
  have hG : G.flatten = (pre ++ (if post = [] then [] else [h]) ++ r).flatten := by
    rcases hpost with ⟨a, b, c⟩ | a
    · subst a b c; rw [e1]; simp
    · subst a; rw [e1]; simp
  have hB : lk B t = none := lk_none fun x hx e => ht (e ▸ I.keys x hx)
  have es : stepG p (G, B) t = (pre ++ (h ++ [t]) :: r, if 0 < pre.length then B ++ [(t, lastT ((pre ++ (h ++ [t]) :: r).getD (pre.length - 1) []))] else B) := by
    unfold stepG
    simp only [hp]
    rw [e2]
  rw [es]
  have memG : ∀ g, g ∈ pre ++ (h ++ [t]) :: r → g ∈ G ∨ g = h ++ [t] := fun g hg => by
    rcases List.mem_append.mp hg with z | z
    · left; rw [e1]; exact List.mem_append_left _ z
    · rcases List.mem_cons.mp z with z | z
      · exact .inr z
      · left
        rcases hpost with ⟨a, b, c⟩ | a
        · subst c; cases z
        · rw [e1, a]; exact List.mem_append_right _ (List.mem_cons_of_mem _ z)
  have hhd : h = [] ∨ h ∈ G := by
    rcases hpost with ⟨a, b, c⟩ | a
    · exact .inl b
    · right; rw [e1, a]; simp
  have sd : done.Sublist (done ++ [t]) := List.sublist_append_left _ _
  -- what lookups tell
  have lkB : ∀ x ∈ done, lk (if 0 < pre.length then B ++ [(t, lastT ((pre ++ (h ++ [t]) :: r).getD (pre.length - 1) []))] else B) x = lk B x := fun x hx => by
    split
    · rw [lk_append]
      cases hl : lk B x with
      | some b => rfl
      | none =>
        show lk [(t, _)] x = none
        rw [lk, if_neg (fun e : t = x => ht (by rw [e]; exact hx))]; rfl
    · rfl
  have inD : ∀ g ∈ G, ∀ x ∈ g, x ∈ done := fun g hg x hx => (I.sub g hg).subset hx
  refine ⟨fun g hg => ?_, ?_, fun g hg => ?_, fun g hg => ?_, fun g x hg hx => ?_, fun a g x hg hx => ?_, fun x hx => ?_, ?_⟩
  · rcases memG g hg with z | z
    · exact I.ne g z
    · rw [z]; simp
  · have q := I.pm
    rcases hpost with ⟨a, b, c⟩ | a
    · subst a b c
      rw [e1] at q
      simp at q
      simpa using q.append_right [t]
    · subst a
      rw [e1] at q
      simp only [List.flatten_append, List.flatten_cons] at q ⊢
      refine List.Perm.trans ?_ (q.append_right [t])
      simp only [List.append_assoc]
      refine List.Perm.append_left _ (List.Perm.append_left _ ?_)
      exact List.perm_append_comm
  · rcases memG g hg with z | z
    · exact I.fall g z
    · subst z
      refine List.pairwise_append.mpr ⟨?_, List.pairwise_singleton _ _, fun x hx y hy => by rw [List.mem_singleton.mp hy]; exact hh x hx⟩
      rcases hhd with z | z
      · rw [z]; exact .nil
      · exact I.fall h z
  · rcases memG g hg with z | z
    · exact (I.sub g z).trans sd
    · subst z
      refine List.Sublist.append ?_ (List.Sublist.refl _)
      rcases hhd with z | z
      · rw [z]; exact List.nil_sublist _
      · exact I.sub h z
  · -- the first group
    cases hpre : pre with
    | nil =>
      rw [hpre] at hg
      simp at hg
      subst hg
      rw [if_neg (by simp)]
      rcases List.mem_append.mp hx with z | z
      · rcases hpost with ⟨a, b, c⟩ | a
        · subst b; cases z
        · exact I.low h x (by rw [e1, hpre, a]; rfl) z
      · rw [List.mem_singleton.mp z]; exact hB
    | cons g0 pr =>
      rw [hpre] at hg
      simp at hg
      subst hg
      have hg0 : G[0]? = some g0 := by rw [e1, hpre]; rfl
      have := lkB x (inD g0 (List.mem_of_getElem? hg0) x hx)
      rw [hpre] at this
      rw [this]
      exact I.low g0 x hg0 hx
  · -- above
    have old : ∀ (i : Nat) (gg : List Txt), (pre ++ (h ++ [t]) :: r)[i]? = some gg → (i ≠ pre.length → G[i]? = some gg) := fun i gg hi hn => by
      rw [e1]
      by_cases hl : i < pre.length
      · rw [List.getElem?_append_left hl] at hi ⊢
        exact hi
      · rw [List.getElem?_append_right (by omega)] at hi ⊢
        obtain ⟨k, hk⟩ : ∃ k, i - pre.length = k + 1 := ⟨i - pre.length - 1, by omega⟩
        rw [hk, List.getElem?_cons_succ] at hi
        rcases hpost with ⟨a, b, c⟩ | a
        · rw [c] at hi; simp at hi
        · rw [a, hk, List.getElem?_cons_succ]; exact hi
    have new : ∀ (i : Nat) (gg : List Txt), G[i]? = some gg → ∃ g', (pre ++ (h ++ [t]) :: r)[i]? = some g' ∧ ∀ y ∈ gg, y ∈ g' := fun i gg hi => by
      rw [e1] at hi
      by_cases hl : i < pre.length
      · rw [List.getElem?_append_left hl] at hi ⊢
        exact ⟨gg, hi, fun y hy => hy⟩
      · rw [List.getElem?_append_right (by omega)] at hi ⊢
        rcases hpost with ⟨a, b, c⟩ | a
        · rw [a] at hi; simp at hi
        · rw [a] at hi
          cases hk : i - pre.length with
          | zero =>
            rw [hk] at hi
            simp at hi
            subst hi
            exact ⟨h ++ [t], rfl, fun y hy => List.mem_append_left _ hy⟩
          | succ k =>
            rw [hk, List.getElem?_cons_succ] at hi
            exact ⟨gg, by rw [List.getElem?_cons_succ]; exact hi, fun y hy => hy⟩
    have viaOld : ∀ g0, G[a + 1]? = some g0 → x ∈ g0 → ∃ b g', (pre ++ (h ++ [t]) :: r)[a]? = some g' ∧ b ∈ g' ∧ lk (if 0 < pre.length then B ++ [(t, lastT ((pre ++ (h ++ [t]) :: r).getD (pre.length - 1) []))] else B) x = some b ∧ p b < p x ∧ [b, x].Sublist (done ++ [t]) := fun g0 h1 h2 => by
      obtain ⟨b, g', q1, q2, q3, q4, q5⟩ := I.up a g0 x h1 h2
      obtain ⟨g2, q6, q7⟩ := new a g' q1
      exact ⟨b, g2, q6, q7 b q2, by rw [lkB x (inD g0 (List.mem_of_getElem? h1) x h2)]; exact q3, q4, q5.trans sd⟩
    by_cases ha : a + 1 = pre.length
    · rw [ha] at hg
      rw [List.getElem?_append_right (Nat.le_refl _), Nat.sub_self] at hg
      simp at hg
      subst hg
      rcases List.mem_append.mp hx with z | z
      · rcases hpost with ⟨a1, b, c⟩ | a1
        · rw [b] at z; cases z
        · exact viaOld h (by rw [e1, a1, ha, List.getElem?_append_right (Nat.le_refl _), Nat.sub_self]; rfl) z
      · rw [List.mem_singleton.mp z]
        have hal : a < pre.length := by omega
        have hga : (pre ++ (h ++ [t]) :: r)[a]? = some pre[a] := by rw [List.getElem?_append_left hal, List.getElem?_eq_getElem hal]
        have hm : pre[a] ∈ pre := List.getElem_mem hal
        have hmG : pre[a] ∈ G := by rw [e1]; exact List.mem_append_left _ hm
        have hne := I.ne _ hmG
        refine ⟨lastT pre[a], pre[a], hga, lastT_mem hne, ?_, e3 _ hm, ?_⟩
        · rw [if_pos (by omega), lk_append, hB]
          show lk [(t, _)] t = _
          rw [lk, if_pos rfl, List.getD_eq_getElem?_getD, show pre.length - 1 = a by omega, hga]
          rfl
        · have := (List.singleton_sublist.mpr (inD _ hmG _ (lastT_mem hne))).append (List.Sublist.refl [t])
          exact this
    · exact viaOld g (old (a + 1) g hg ha) hx
  · split at hx
    · rcases List.mem_append.mp hx with z | z
      · exact List.mem_append_left _ (I.keys x z)
      · rw [List.mem_singleton.mp z]; simp
    · exact List.mem_append_left _ (I.keys x hx)
  · have := I.few
    split
    · simp; exact this
    · simp; omega
theorem step_split (p : Txt → Nat) (t : Txt) (G : List (List Txt)) (B : B2) : ∃ pre h rr, atOf p t G = pre.length ∧ ((G = pre ∧ h = [] ∧ rr = []) ∨ G = pre ++ h :: rr) ∧
    stepG p (G, B) t = (pre ++ (h ++ [t]) :: rr, if 0 < pre.length then B ++ [(t, lastT ((pre ++ (h ++ [t]) :: rr).getD (pre.length - 1) []))] else B) := by
  obtain ⟨pre, post, e1, e2, e3, e4⟩ := split_at p t G
  obtain ⟨h, rr, hp, hpost⟩ : ∃ h rr, putG t (atOf p t G) G = pre ++ (h ++ [t]) :: rr ∧ ((post = [] ∧ h = [] ∧ rr = []) ∨ post = h :: rr) := by
    rw [e2, e1, putG_split]
    cases post with
    | nil => exact ⟨[], [], rfl, .inl ⟨rfl, rfl, rfl⟩⟩
    | cons g r => exact ⟨g, r, rfl, .inr rfl⟩
  refine ⟨pre, h, rr, e2, ?_, ?_⟩
  · rcases hpost with ⟨x, y, z⟩ | x
    · subst x; rw [List.append_nil] at e1; exact .inl ⟨e1, y, z⟩
    · rw [x] at e1; exact .inr e1
  · unfold stepG
    simp only [hp]
    rw [e2]
theorem Inv.count {p : Txt → Nat} {done : List Txt} {G : List (List Txt)} {B : B2} (I : Inv p done G B) : G.length ≤ done.length := by
  rw [← I.pm.length_eq]
  have : ∀ G : List (List Txt), (∀ g ∈ G, g ≠ []) → G.length ≤ G.flatten.length := by
    intro G
    induction G with
    | nil => intro _; simp
    | cons g r ih =>
      intro h
      have := ih fun x hx => h x (List.mem_cons_of_mem _ hx)
      have := ne_len (h g List.mem_cons_self)
      rw [List.flatten_cons, List.length_append, List.length_cons]; omega
  exact this _ I.ne
theorem inv_fold {p : Txt → Nat} : ∀ (r : List Txt) {done : List Txt} {s : List (List Txt) × B2}, Inv p done s.1 s.2 → (done ++ r).Nodup → (∀ x ∈ done ++ r, ∀ y ∈ done ++ r, p x = p y → x = y) → Inv p (done ++ r) (r.foldl (stepG p) s).1 (r.foldl (stepG p) s).2
  | [], done, s, I, _, _ => by rw [List.append_nil]; exact I
  | t :: r, done, s, I, nd, inj => by
    have ht : t ∉ done := fun z => (List.nodup_append.mp nd).2.2 t z t List.mem_cons_self rfl
    have I2 := I.step ht fun x hx e => ht ((inj x (List.mem_append_left _ hx) t (by simp) e) ▸ hx)
    have := inv_fold r (s := stepG p s t) I2 (by simpa using nd) (by simpa using inj)
    simpa using this
theorem inv_groups {p : Txt → Nat} {one : List Txt} (nd : one.Nodup) (inj : ∀ x ∈ one, ∀ y ∈ one, p x = p y → x = y) : Inv p one (groupsOf p one).1 (groupsOf p one).2 := by
  have := inv_fold (p := p) one (done := []) (s := ([], [])) (Inv.init p) (by simpa using nd) (by simpa using inj)
  unfold groupsOf
  simpa using this
theorem idx_inj : ∀ {l : List Txt} {x y : Txt}, x ∈ l → y ∈ l → l.idxOf x = l.idxOf y → x = y
  | [], _, _, h, _, _ => by cases h
  | a :: r, x, y, hx, hy, e => by
    rw [List.idxOf_cons, List.idxOf_cons] at e
    by_cases h1 : a = x
    · by_cases h2 : a = y
      · rw [← h1, h2]
      · have e1 : (a == x) = true := by simpa using h1
        have e2 : (a == y) = false := by simpa using h2
        rw [e1, e2] at e
        simp at e
    · have e1 : (a == x) = false := by simpa using h1
      by_cases h2 : a = y
      · have e2 : (a == y) = true := by simpa using h2
        rw [e1, e2] at e
        simp at e
      · have e2 : (a == y) = false := by simpa using h2
        rw [e1, e2] at e
        refine idx_inj ((List.mem_cons.mp hx).resolve_left fun z => h1 z.symm) ((List.mem_cons.mp hy).resolve_left fun z => h2 z.symm) (by simpa using e)
theorem idx_get : ∀ {l : List Txt} {i : Nat}, l.Nodup → (h : i < l.length) → l.idxOf l[i] = i
  | [], _, _, h => absurd h (by simp)
  | a :: r, 0, _, _ => by simp
  | a :: r, i + 1, nd, h => by
    obtain ⟨n1, n2⟩ := List.nodup_cons.mp nd
    have hi : i < r.length := by simpa using h
    rw [List.getElem_cons_succ, List.idxOf_cons]
    have e : (a == r[i]) = false := by simp; intro e; exact n1 (e ▸ List.getElem_mem hi)
    rw [e, idx_get n2 hi]; rfl
theorem two_at {l : List Txt} (nd : l.Nodup) {x y : Txt} (h : [x, y].Sublist l) : l.idxOf x < l.idxOf y := by
  induction l with
  | nil => cases h
  | cons a r ih =>
    obtain ⟨n1, n2⟩ := List.nodup_cons.mp nd
    cases h with
    | cons _ h =>
      have hx : x ∈ r := h.subset (by simp)
      have hy : y ∈ r := h.subset (by simp)
      have := ih n2 h
      rw [List.idxOf_cons, List.idxOf_cons]
      have e1 : (a == x) = false := by simp; intro e; exact n1 (e ▸ hx)
      have e2 : (a == y) = false := by simp; intro e; exact n1 (e ▸ hy)
      rw [e1, e2]; simpa using this
    | cons_cons _ h =>
      have hy : y ∈ r := List.singleton_sublist.mp h
      rw [List.idxOf_cons, List.idxOf_cons]
      have e2 : (x == y) = false := by simp; intro e; exact n1 (e ▸ hy)
      rw [e2]; simp
/-- the chain of kept things from one in the group a: one of each group below -/
theorem kept_chain {p : Txt → Nat} {done : List Txt} {G : List (List Txt)} {B : B2} (nd : done.Nodup) (I : Inv p done G B) : ∀ (a n : Nat) (g : List Txt) (t : Txt), a ≤ n → G[a]? = some g → t ∈ g →
    (keptFrom B n t).length = a + 1 ∧ (keptFrom B n t).Pairwise (fun x y => p y < p x) ∧ (keptFrom B n t).head? = some t ∧ (∀ x ∈ keptFrom B n t, x ∈ done) ∧ (keptFrom B n t).Pairwise (fun x y => done.idxOf y < done.idxOf x)
  | 0, n, g, t, _, hg, ht => by
    have e : keptFrom B n t = [t] := by
      cases n with
      | zero => rfl
      | succ n => rw [keptFrom, I.low g t hg ht]
    rw [e]
    exact ⟨rfl, List.pairwise_singleton _ _, rfl, fun x hx => by rw [List.mem_singleton.mp hx]; exact (I.sub g (List.mem_of_getElem? hg)).subset ht, List.pairwise_singleton _ _⟩
  | a + 1, n, g, t, hn, hg, ht => by
    obtain ⟨n, rfl⟩ : ∃ m, n = m + 1 := ⟨n - 1, by omega⟩
    obtain ⟨b, g', q1, q2, q3, q4, q5⟩ := I.up a g t hg ht
    obtain ⟨h1, h2, h3, h4, h5⟩ := kept_chain nd I a n g' b (by omega) q1 q2
    have e : keptFrom B (n + 1) t = t :: keptFrom B n b := by rw [keptFrom, q3]
    rw [e]
    obtain ⟨tl, etl⟩ : ∃ tl, keptFrom B n b = b :: tl := by
      cases hk : keptFrom B n b with
      | nil => rw [hk] at h3; cases h3
      | cons x tl => rw [hk] at h3; simp at h3; exact ⟨tl, by rw [h3]⟩
    refine ⟨by rw [List.length_cons, h1], List.pairwise_cons.mpr ⟨fun y hy => ?_, h2⟩, rfl, fun x hx => ?_, ?_⟩
    · rw [etl] at hy h2
      rcases List.mem_cons.mp hy with z | z
      · rw [z]; exact q4
      · exact Nat.lt_trans ((List.pairwise_cons.mp h2).1 y z) q4
    · rcases List.mem_cons.mp hx with z | z
      · rw [z]; exact (I.sub g (List.mem_of_getElem? hg)).subset ht
      · exact h4 x z
    · refine List.pairwise_cons.mpr ⟨fun y hy => ?_, h5⟩
      rw [etl] at hy h5
      rcases List.mem_cons.mp hy with z | z
      · rw [z]; exact two_at nd q5
      · exact Nat.lt_trans ((List.pairwise_cons.mp h5).1 y z) (two_at nd q5)
theorem kept_ok {p : Txt → Nat} {one : List Txt} (nd : one.Nodup) (inj : ∀ x ∈ one, ∀ y ∈ one, p x = p y → x = y) :
    (keptMost p one).Pairwise (fun x y => p x < p y) ∧ (keptMost p one).Pairwise (fun x y => one.idxOf x < one.idxOf y) ∧ (∀ x ∈ keptMost p one, x ∈ one) ∧ (keptMost p one).length = (groupsOf p one).1.length := by
  have I := inv_groups nd inj
  unfold keptMost
  by_cases hG : (groupsOf p one).1 = []
  · simp only [hG, if_true]
    exact ⟨.nil, .nil, fun _ z => (by cases z), rfl⟩
  · simp only [if_neg hG]
    have hlen : 0 < (groupsOf p one).1.length := ne_len hG
    have hm : (groupsOf p one).1.length ≤ one.length := by
      rw [← I.pm.length_eq]
      have : ∀ G : List (List Txt), (∀ g ∈ G, g ≠ []) → G.length ≤ G.flatten.length := by
        intro G
        induction G with
        | nil => intro _; simp
        | cons g r ih =>
          intro h
          have := ih fun x hx => h x (List.mem_cons_of_mem _ hx)
          have := ne_len (h g List.mem_cons_self)
          rw [List.flatten_cons, List.length_append, List.length_cons]; omega
      exact this _ I.ne
    have hl : (groupsOf p one).1[(groupsOf p one).1.length - 1]? = some ((groupsOf p one).1.getLastD []) := by
      rw [List.getLastD_eq_getLast?, List.getLast?_eq_getElem?, List.getElem?_eq_getElem (by omega)]
      rfl
    obtain ⟨h1, h2, h3, h4, h5⟩ := kept_chain nd I ((groupsOf p one).1.length - 1) one.length _ (lastT ((groupsOf p one).1.getLastD [])) (by omega) hl (lastT_mem (I.ne _ (List.mem_of_getElem? hl)))
    refine ⟨List.pairwise_reverse.mpr h2, ?_, fun x hx => h4 x (List.mem_reverse.mp hx), by rw [List.length_reverse, h1]; omega⟩
    exact List.pairwise_reverse.mpr h5
end KM

set_option Elab.async false
set_option linter.all false
set_option maxRecDepth 100000
set_option maxHeartbeats 4000000
namespace LW
open PySem PySem.Spec PyProof.Rows L2 DL
def top (i : Nat) : Stmt := PySem.Challenge.pw_sortlore_k84_a_book_read.main.body.getD i (.Pass ⟨0, 0, 0, 0⟩)
def metOf : Stmt → Nat → Stmt
  | .ClassDef _ _ _ b _ _ _ _ _ _ _, j => b.getD j (.Pass ⟨0, 0, 0, 0⟩)
  | s, _ => s
abbrev st_is_sign : Stmt := top 8
abbrev st_is_piece : Stmt := top 9
abbrev st_read_rule : Stmt := top 12
abbrev st_forgotten : Stmt := top 13
abbrev st_without : Stmt := top 14
abbrev st_changed : Stmt := top 15
abbrev st_is_name : Stmt := top 19
abbrev st_begins_order : Stmt := top 20
abbrev st_read_at : Stmt := top 21
abbrev st__law_cell_at : Stmt := top 24
abbrev st__law_pieces : Stmt := top 25
abbrev st__law_names : Stmt := top 26
abbrev st__law_rule : Stmt := top 27
abbrev st__law_lines : Stmt := top 28
abbrev st_Book_begin : Stmt := metOf (top 22) 1
abbrev st_Book_init : Stmt := metOf (top 22) 0
abbrev st_Book_names : Stmt := metOf (top 22) 2
abbrev st_Book_line_of : Stmt := metOf (top 22) 3
abbrev st_Book_rules_of : Stmt := metOf (top 22) 4
abbrev st_law : Stmt := top 29
abbrev xs_NoRule : Stmt := metOf (top 3) 0
abbrev xs_Twice : Stmt := metOf (top 4) 0
abbrev xs_NoName : Stmt := metOf (top 5) 0
abbrev xs_Ring : Stmt := metOf (top 6) 0
def N_is_sign : List Str := ["sign"]
abbrev ps_is_sign : List Str := ["sign"]
def N_is_piece : List Str := ["thing", "sign"]
abbrev ps_is_piece : List Str := ["thing"]
def N_read_rule : List Str := ["line", "words", "least", "many", "piece"]
abbrev ps_read_rule : List Str := ["line"]
def N_forgotten : List Str := ["rules", "named", "rule", "piece"]
abbrev ps_forgotten : List Str := ["rules"]
def N_without : List Str := ["rule", "named", "first", "left", "piece"]
abbrev ps_without : List Str := ["rule", "named"]
def N_changed : List Str := ["rules", "more", "named", "found", "rule", "left"]
abbrev ps_changed : List Str := ["rules", "more"]
def N_is_name : List Str := ["word", "sign"]
abbrev ps_is_name : List Str := ["word"]
def N_begins_order : List Str := ["words"]
abbrev ps_begins_order : List Str := ["words"]
def N_read_at : List Str := ["line", "at"]
abbrev ps_read_at : List Str := ["line", "at"]
def N__law_cell_at : List Str := ["_law_script", "_law_k"]
abbrev ps__law_cell_at : List Str := ["_law_script", "_law_k"]
def N__law_pieces : List Str := ["_law_cell", "_law_many", "_law_signs", "_law_number", "_law_step", "_law_begin", "_law_shape", "_law_found", "_law_k", "_law_place"]
abbrev ps__law_pieces : List Str := ["_law_cell", "_law_many"]
def N__law_names : List Str := ["_law_number", "_law_many", "_law_letters", "_law_shape", "_law_names_here", "_law_k", "_law_code", "_law_ahead", "_law_behind", "_law_tell"]
abbrev ps__law_names : List Str := ["_law_number", "_law_many"]
def N__law_rule : List Str := ["_law_cell", "_law_some", "_law_words", "_law_number", "_law_place", "_law_many", "_law_pieces_here", "_law_k"]
abbrev ps__law_rule : List Str := ["_law_cell", "_law_some"]
def N__law_lines : List Str := ["_law_script", "_law_names_here", "_law_some", "_law_lines_here", "_law_own", "_law_begun", "_law_cell", "_law_number", "_law_name", "_law_rule_here"]
abbrev ps__law_lines : List Str := ["_law_script", "_law_names_here", "_law_some"]
def N_Book_begin : List Str := ["self", "name", "behind"]
abbrev ps_Book_begin : List Str := ["self", "name", "behind"]
def N_Book_init : List Str := ["self", "text", "lines", "name", "at", "line", "words"]
abbrev ps_Book_init : List Str := ["self", "text"]
def N_Book_names : List Str := ["self"]
abbrev ps_Book_names : List Str := ["self"]
def N_Book_line_of : List Str := ["self", "name", "met"]
abbrev ps_Book_line_of : List Str := ["self", "name"]
def N_Book_rules_of : List Str := ["self", "name", "rules", "each"]
abbrev ps_Book_rules_of : List Str := ["self", "name"]
def N_law : List Str := ["_law_script", "_law_cell", "_law_some", "_law_names_here", "_law_book", "_law_first", "_law_name", "_law_lines_here", "_law_begun", "_law_own", "_law_rules"]
abbrev ps_law : List Str := ["_law_script"]
abbrev xp_NoRule : List Str := ["self", "at"]
abbrev xp_Twice : List Str := ["self", "name"]
abbrev xp_NoName : List Str := ["self", "name"]
abbrev xp_Ring : List Str := ["self", "around"]
def tab_LEAST : List (Txt × Sc) := [([114, 111, 119], .int 1), ([109, 97, 114, 107, 115], .int 1), ([103, 114, 101, 97, 116], .int 2), ([97, 115], .int 2), ([111, 118, 101, 114], .int 1), ([102, 105, 103, 117, 114, 101, 115], .int 0), ([98, 108, 97, 110, 107, 115], .int 0), ([98, 101, 104, 105, 110, 100], .int 0), ([102, 111, 114, 103, 101, 116], .int 1)]
def ex_NoRule : Nat → Option Bool
  | 2 => some true
  | 5 => some false
  | 7 => some false
  | 8 => some false
  | _ => none
/-- what stands behind the top -/
structure Tx (w : World) (K : PySem.W.Frag) (mg : Str → Option Value) where
  a_is_sign : Addr
  fd_is_sign : FuncData
  F_is_sign : Fun K "is_sign" "is_sign" st_is_sign a_is_sign fd_is_sign
  b_is_sign : Binds K fd_is_sign ps_is_sign []
  g_is_sign : mg "is_sign" = some (.ref a_is_sign)
  a_is_piece : Addr
  fd_is_piece : FuncData
  F_is_piece : Fun K "is_piece" "is_piece" st_is_piece a_is_piece fd_is_piece
  b_is_piece : Binds K fd_is_piece ps_is_piece []
  g_is_piece : mg "is_piece" = some (.ref a_is_piece)
  a_read_rule : Addr
  fd_read_rule : FuncData
  F_read_rule : Fun K "read_rule" "read_rule" st_read_rule a_read_rule fd_read_rule
  b_read_rule : Binds K fd_read_rule ps_read_rule []
  g_read_rule : mg "read_rule" = some (.ref a_read_rule)
  a_forgotten : Addr
  fd_forgotten : FuncData
  F_forgotten : Fun K "forgotten" "forgotten" st_forgotten a_forgotten fd_forgotten
  b_forgotten : Binds K fd_forgotten ps_forgotten []
  g_forgotten : mg "forgotten" = some (.ref a_forgotten)
  a_without : Addr
  fd_without : FuncData
  F_without : Fun K "without" "without" st_without a_without fd_without
  b_without : Binds K fd_without ps_without []
  g_without : mg "without" = some (.ref a_without)
  a_changed : Addr
  fd_changed : FuncData
  F_changed : Fun K "changed" "changed" st_changed a_changed fd_changed
  b_changed : Binds K fd_changed ps_changed []
  g_changed : mg "changed" = some (.ref a_changed)
  a_is_name : Addr
  fd_is_name : FuncData
  F_is_name : Fun K "is_name" "is_name" st_is_name a_is_name fd_is_name
  b_is_name : Binds K fd_is_name ps_is_name []
  g_is_name : mg "is_name" = some (.ref a_is_name)
  a_begins_order : Addr
  fd_begins_order : FuncData
  F_begins_order : Fun K "begins_order" "begins_order" st_begins_order a_begins_order fd_begins_order
  b_begins_order : Binds K fd_begins_order ps_begins_order []
  g_begins_order : mg "begins_order" = some (.ref a_begins_order)
  a_read_at : Addr
  fd_read_at : FuncData
  F_read_at : Fun K "read_at" "read_at" st_read_at a_read_at fd_read_at
  b_read_at : Binds K fd_read_at ps_read_at []
  g_read_at : mg "read_at" = some (.ref a_read_at)
  a__law_cell_at : Addr
  fd__law_cell_at : FuncData
  F__law_cell_at : Fun K "_law_cell_at" "_law_cell_at" st__law_cell_at a__law_cell_at fd__law_cell_at
  b__law_cell_at : Binds K fd__law_cell_at ps__law_cell_at []
  g__law_cell_at : mg "_law_cell_at" = some (.ref a__law_cell_at)
  a__law_pieces : Addr
  fd__law_pieces : FuncData
  F__law_pieces : Fun K "_law_pieces" "_law_pieces" st__law_pieces a__law_pieces fd__law_pieces
  b__law_pieces : Binds K fd__law_pieces ps__law_pieces []
  g__law_pieces : mg "_law_pieces" = some (.ref a__law_pieces)
  a__law_names : Addr
  fd__law_names : FuncData
  F__law_names : Fun K "_law_names" "_law_names" st__law_names a__law_names fd__law_names
  b__law_names : Binds K fd__law_names ps__law_names []
  g__law_names : mg "_law_names" = some (.ref a__law_names)
  a__law_rule : Addr
  fd__law_rule : FuncData
  F__law_rule : Fun K "_law_rule" "_law_rule" st__law_rule a__law_rule fd__law_rule
  b__law_rule : Binds K fd__law_rule ps__law_rule []
  g__law_rule : mg "_law_rule" = some (.ref a__law_rule)
  a__law_lines : Addr
  fd__law_lines : FuncData
  F__law_lines : Fun K "_law_lines" "_law_lines" st__law_lines a__law_lines fd__law_lines
  b__law_lines : Binds K fd__law_lines ps__law_lines []
  g__law_lines : mg "_law_lines" = some (.ref a__law_lines)
  a_Book_begin : Addr
  fd_Book_begin : FuncData
  F_Book_begin : Fun K "begin" "Book.begin" st_Book_begin a_Book_begin fd_Book_begin
  b_Book_begin : Binds K fd_Book_begin ps_Book_begin []
  a_Book_init : Addr
  fd_Book_init : FuncData
  F_Book_init : Fun K "__init__" "Book.__init__" st_Book_init a_Book_init fd_Book_init
  b_Book_init : Binds K fd_Book_init ps_Book_init []
  a_Book_names : Addr
  fd_Book_names : FuncData
  F_Book_names : Fun K "names" "Book.names" st_Book_names a_Book_names fd_Book_names
  b_Book_names : Binds K fd_Book_names ps_Book_names []
  a_Book_line_of : Addr
  fd_Book_line_of : FuncData
  F_Book_line_of : Fun K "line_of" "Book.line_of" st_Book_line_of a_Book_line_of fd_Book_line_of
  b_Book_line_of : Binds K fd_Book_line_of ps_Book_line_of []
  a_Book_rules_of : Addr
  fd_Book_rules_of : FuncData
  F_Book_rules_of : Fun K "rules_of" "Book.rules_of" st_Book_rules_of a_Book_rules_of fd_Book_rules_of
  b_Book_rules_of : Binds K fd_Book_rules_of ps_Book_rules_of []
  a_law : Addr
  fd_law : FuncData
  F_law : Fun K "law" "law" st_law a_law fd_law
  b_law : Binds K fd_law ps_law []
  g_law : mg "law" = some (.ref a_law)
  xk_NoRule : Addr
  xi_NoRule : Addr
  xd_NoRule : FuncData
  xF_NoRule : Fun K "__init__" "NoRule.__init__" xs_NoRule xi_NoRule xd_NoRule
  xb_NoRule : Binds K xd_NoRule xp_NoRule []
  xT_NoRule : OexC K xk_NoRule
  xc_NoRule : PySem.W.findIn K (.ref xk_NoRule) "__init__" = some (some (.ref xi_NoRule))
  xt_NoRule : PySem.W.typeIn K (.ref xi_NoRule) = some (.type "function")
  xn_NoRule : PySem.W.findIn K (.ref xk_NoRule) "at" = some none
  xm_NoRule : mg "NoRule" = some (.ref xk_NoRule)
  xk_Twice : Addr
  xi_Twice : Addr
  xd_Twice : FuncData
  xF_Twice : Fun K "__init__" "Twice.__init__" xs_Twice xi_Twice xd_Twice
  xb_Twice : Binds K xd_Twice xp_Twice []
  xT_Twice : OexC K xk_Twice
  xc_Twice : PySem.W.findIn K (.ref xk_Twice) "__init__" = some (some (.ref xi_Twice))
  xt_Twice : PySem.W.typeIn K (.ref xi_Twice) = some (.type "function")
  xn_Twice : PySem.W.findIn K (.ref xk_Twice) "name" = some none
  xm_Twice : mg "Twice" = some (.ref xk_Twice)
  xk_NoName : Addr
  xi_NoName : Addr
  xd_NoName : FuncData
  xF_NoName : Fun K "__init__" "NoName.__init__" xs_NoName xi_NoName xd_NoName
  xb_NoName : Binds K xd_NoName xp_NoName []
  xT_NoName : OexC K xk_NoName
  xc_NoName : PySem.W.findIn K (.ref xk_NoName) "__init__" = some (some (.ref xi_NoName))
  xt_NoName : PySem.W.typeIn K (.ref xi_NoName) = some (.type "function")
  xn_NoName : PySem.W.findIn K (.ref xk_NoName) "name" = some none
  xm_NoName : mg "NoName" = some (.ref xk_NoName)
  xk_Ring : Addr
  xi_Ring : Addr
  xd_Ring : FuncData
  xF_Ring : Fun K "__init__" "Ring.__init__" xs_Ring xi_Ring xd_Ring
  xb_Ring : Binds K xd_Ring xp_Ring []
  xT_Ring : OexC K xk_Ring
  xc_Ring : PySem.W.findIn K (.ref xk_Ring) "__init__" = some (some (.ref xi_Ring))
  xt_Ring : PySem.W.typeIn K (.ref xi_Ring) = some (.type "function")
  xn_Ring : PySem.W.findIn K (.ref xk_Ring) "around" = some none
  xm_Ring : mg "Ring" = some (.ref xk_Ring)
  xe_NoRule_NoRule : PySem.W.exmOne K (.ref xk_NoRule) (.ref xk_NoRule) = some true
  xe_NoRule_Twice : PySem.W.exmOne K (.ref xk_Twice) (.ref xk_NoRule) = some false
  xe_NoRule_NoName : PySem.W.exmOne K (.ref xk_NoName) (.ref xk_NoRule) = some false
  xe_NoRule_Ring : PySem.W.exmOne K (.ref xk_Ring) (.ref xk_NoRule) = some false
  k_Book : Addr
  cls_Book : Cls K k_Book
  gm_Book : mg "Book" = some (.ref k_Book)
  mk_Book : Mk K k_Book a_Book_init
  meth_Book_begin : Meth K k_Book "begin" a_Book_begin
  meth_Book_names : Meth K k_Book "names" a_Book_names
  meth_Book_line_of : Meth K k_Book "line_of" a_Book_line_of
  meth_Book_rules_of : Meth K k_Book "rules_of" a_Book_rules_of
  na_Book_elders : NoAttr K k_Book "elders"
  na_Book_own : NoAttr K k_Book "own"
  ga_LEAST : Addr
  gm_LEAST : mg "LEAST" = some (.ref ga_LEAST)
  gd_LEAST : GDict K w ga_LEAST tab_LEAST
  c_MOST : ∃ u, mg "MOST" = some u ∧ RelV (encS (.int 8)) u
  c_SMALL : ∃ u, mg "SMALL" = some u ∧ RelV (encS (.str [97, 98, 99, 100, 101, 102, 103, 104, 105, 106, 107, 108, 109, 110, 111, 112, 113, 114, 115, 116, 117, 118, 119, 120, 121, 122])) u
  n_all : mg "all" = none
  n_enumerate : mg "enumerate" = none
  n_isinstance : mg "isinstance" = none
  n_len : mg "len" = none
  n_list : mg "list" = none
  n_ord : mg "ord" = none
  n_range : mg "range" = none
  n_reversed : mg "reversed" = none
  n_str : mg "str" = none
  n_tuple : mg "tuple" = none
def RT0 {w : World} {K : PySem.W.Frag} {mg : Str → Option Value} (T : Tx w K mg) : RT where
  cls := fun c => match c with
    | 2 => T.xk_NoRule
    | 5 => T.xk_Twice
    | 7 => T.xk_NoName
    | 8 => T.xk_Ring
    | 14 => T.k_Book
    | _ => 0
  lay := fun c => match c with
    | 2 => ["at"]
    | 5 => ["name"]
    | 7 => ["name"]
    | 8 => ["around"]
    | 14 => ["elders", "own"]
    | _ => []
def b_is_sign : TSd := (dRet (dAnd (dChain leD leD (dC (.int 33)) (dCB ordD (bCons (dVar 0) bNil)) (dC (.int 126))) (dBin neD (dCB ordD (bCons (dVar 0) bNil)) (dC (.int 37)))))
theorem e_b_is_sign D env : b_is_sign D env = (dRet (dAnd (dChain leD leD (dC (.int 33)) (dCB ordD (bCons (dVar 0) bNil)) (dC (.int 126))) (dBin neD (dCB ordD (bCons (dVar 0) bNil)) (dC (.int 37))))) D env := rfl
def sp_is_sign : SPD := spB 0 b_is_sign
theorem e_sp_is_sign (ds : List D) (Q : D → Sl → Prop) (E : EX → Sl → Prop) : sp_is_sign ds Q E = b_is_sign { nx := fun env => Q .non env, rt := Q, ex := E } (pad 0 ds) := rfl
def b_is_piece : TSd := (dSeq (dIfS (dOrT (dNotT (dTst (dIsi "str" (dVar 0)))) (dNotT (dTst (dChain leD leD (dC (.int 1)) (dCB lenD (bCons (dVar 0) bNil)) (dC (.int 2)))))) (dRet (dC (.bl false))) dNext)
  (dRet (dCB allD (bCons (dLC 2 (dIt (dVar 0)) (gN 1) dYes (dCall 1 sp_is_sign [] (dCons (dVar 1) dNil)) [1]) bNil))))
theorem e_b_is_piece D env : b_is_piece D env = (dSeq (dIfS (dOrT (dNotT (dTst (dIsi "str" (dVar 0)))) (dNotT (dTst (dChain leD leD (dC (.int 1)) (dCB lenD (bCons (dVar 0) bNil)) (dC (.int 2)))))) (dRet (dC (.bl false))) dNext)
  (dRet (dCB allD (bCons (dLC 2 (dIt (dVar 0)) (gN 1) dYes (dCall 1 sp_is_sign [] (dCons (dVar 1) dNil)) [1]) bNil)))) D env := rfl
def sp_is_piece : SPD := spB 1 b_is_piece
theorem e_sp_is_piece (ds : List D) (Q : D → Sl → Prop) (E : EX → Sl → Prop) : sp_is_piece ds Q E = b_is_piece { nx := fun env => Q .non env, rt := Q, ex := E } (pad 1 ds) := rfl
def lb_read_rule_0 : TSd := (dIfS (dNotT (dTst (dCall 1 sp_is_piece [] (dCons (dVar 4) dNil)))) (dRaise 2 (dC (.int 0))) dNext)
theorem e_lb_read_rule_0 D env : lb_read_rule_0 D env = (dIfS (dNotT (dTst (dCall 1 sp_is_piece [] (dCons (dVar 4) dNil)))) (dRaise 2 (dC (.int 0))) dNext) D env := rfl
def b_read_rule : TSd := (dSeq (dIfS (dNotT (dTst (dIsi "str" (dVar 0)))) (dRaise 2 (dC (.int 0))) dNext)
  (dSeq (dAsg (dMV "str" splitD (dVar 0) (bCons (dC (.str [32])) bNil)) (gN 1))
  (dSeq (dIfS (dTst (dGin true tab_LEAST (dIx (dVar 1) (dC (.int 0))))) (dRaise 2 (dC (.int 0))) dNext)
  (dSeq (dAsg (dGix tab_LEAST (dIx (dVar 1) (dC (.int 0)))) (gN 2))
  (dSeq (dAsg (dBin subD (dCB lenD (bCons (dVar 1) bNil)) (dC (.int 1))) (gN 3))
  (dSeq (dIfS (dOrT (dTst (dBin ltD (dVar 3) (dVar 2))) (dAndT (dTst (dBin eqD (dVar 2) (dC (.int 0)))) (dTst (dBin gtD (dVar 3) (dC (.int 0)))))) (dRaise 2 (dC (.int 0))) dNext)
  (dSeq (dFor (dIt (dSl (dVar 1) (oSm (dC (.int 1))) oNo)) (gN 4) lb_read_rule_0)
  (dRet (dCB tupleD (bCons (dVar 1) bNil))))))))))
theorem e_b_read_rule D env : b_read_rule D env = (dSeq (dIfS (dNotT (dTst (dIsi "str" (dVar 0)))) (dRaise 2 (dC (.int 0))) dNext)
  (dSeq (dAsg (dMV "str" splitD (dVar 0) (bCons (dC (.str [32])) bNil)) (gN 1))
  (dSeq (dIfS (dTst (dGin true tab_LEAST (dIx (dVar 1) (dC (.int 0))))) (dRaise 2 (dC (.int 0))) dNext)
  (dSeq (dAsg (dGix tab_LEAST (dIx (dVar 1) (dC (.int 0)))) (gN 2))
  (dSeq (dAsg (dBin subD (dCB lenD (bCons (dVar 1) bNil)) (dC (.int 1))) (gN 3))
  (dSeq (dIfS (dOrT (dTst (dBin ltD (dVar 3) (dVar 2))) (dAndT (dTst (dBin eqD (dVar 2) (dC (.int 0)))) (dTst (dBin gtD (dVar 3) (dC (.int 0)))))) (dRaise 2 (dC (.int 0))) dNext)
  (dSeq (dFor (dIt (dSl (dVar 1) (oSm (dC (.int 1))) oNo)) (gN 4) lb_read_rule_0)
  (dRet (dCB tupleD (bCons (dVar 1) bNil)))))))))) D env := rfl
def sp_read_rule : SPD := spB 4 b_read_rule
theorem e_sp_read_rule (ds : List D) (Q : D → Sl → Prop) (E : EX → Sl → Prop) : sp_read_rule ds Q E = b_read_rule { nx := fun env => Q .non env, rt := Q, ex := E } (pad 4 ds) := rfl
def lb_forgotten_0 : TSd := (dSub 1 (pVar 1) (dVar 3) (dC (.bl true)))
theorem e_lb_forgotten_0 D env : lb_forgotten_0 D env = (dSub 1 (pVar 1) (dVar 3) (dC (.bl true))) D env := rfl
def lb_forgotten_1 : TSd := (dIfS (dTst (dBin eqD (dIx (dVar 2) (dC (.int 0))) (dC (.str [102, 111, 114, 103, 101, 116])))) (dFor (dIt (dSl (dVar 2) (oSm (dC (.int 1))) oNo)) (gN 3) lb_forgotten_0) dNext)
theorem e_lb_forgotten_1 D env : lb_forgotten_1 D env = (dIfS (dTst (dBin eqD (dIx (dVar 2) (dC (.int 0))) (dC (.str [102, 111, 114, 103, 101, 116])))) (dFor (dIt (dSl (dVar 2) (oSm (dC (.int 1))) oNo)) (gN 3) lb_forgotten_0) dNext) D env := rfl
def b_forgotten : TSd := (dSeq (dAsg dDct0 (gN 1))
  (dSeq (dFor (dIt (dVar 0)) (gN 2) lb_forgotten_1)
  (dRetV 1)))
theorem e_b_forgotten D env : b_forgotten D env = (dSeq (dAsg dDct0 (gN 1))
  (dSeq (dFor (dIt (dVar 0)) (gN 2) lb_forgotten_1)
  (dRetV 1))) D env := rfl
def sp_forgotten : SPD := spB 3 b_forgotten
theorem e_sp_forgotten (ds : List D) (Q : D → Sl → Prop) (E : EX → Sl → Prop) : sp_forgotten ds Q E = b_forgotten { nx := fun env => Q .non env, rt := Q, ex := E } (pad 3 ds) := rfl
def b_without : TSd := (dSeq (dIfS (dAndT (dTst (dBin eqD (dIx (dVar 0) (dC (.int 0))) (dC (.str [97, 115])))) (dTst (dBin (inD false) (dIx (dVar 0) (dC (.int 1))) (dVar 1)))) (dRet (dC .non)) dNext)
  (dSeq (dIfS (dTst (dBin (inD true) (dIx (dVar 0) (dC (.int 0))) (dLst (dCons (dC (.str [114, 111, 119])) (dCons (dC (.str [109, 97, 114, 107, 115])) (dCons (dC (.str [111, 118, 101, 114])) (dCons (dC (.str [103, 114, 101, 97, 116])) dNil))))))) (dRetV 0) dNext)
  (dSeq (dAsg (dC (.int 1)) (gN 2))
  (dSeq (dIfS (dTst (dBin eqD (dIx (dVar 0) (dC (.int 0))) (dC (.str [103, 114, 101, 97, 116])))) (dAsg (dC (.int 2)) (gN 2)) dNext)
  (dSeq (dAsg (dLC 5 (dIt (dSl (dVar 0) (oSm (dVar 2)) oNo)) (gN 4) (dTst (dBin (inD true) (dVar 4) (dVar 1))) (dVar 4) [4]) (gN 3))
  (dSeq (dIfS (dTst (dBin eqD (dVar 3) (dLst dNil))) (dRet (dC .non)) dNext)
  (dRet (dBin addD (dSl (dVar 0) oNo (oSm (dVar 2))) (dCB tupleD (bCons (dVar 3) bNil))))))))))
theorem e_b_without D env : b_without D env = (dSeq (dIfS (dAndT (dTst (dBin eqD (dIx (dVar 0) (dC (.int 0))) (dC (.str [97, 115])))) (dTst (dBin (inD false) (dIx (dVar 0) (dC (.int 1))) (dVar 1)))) (dRet (dC .non)) dNext)
  (dSeq (dIfS (dTst (dBin (inD true) (dIx (dVar 0) (dC (.int 0))) (dLst (dCons (dC (.str [114, 111, 119])) (dCons (dC (.str [109, 97, 114, 107, 115])) (dCons (dC (.str [111, 118, 101, 114])) (dCons (dC (.str [103, 114, 101, 97, 116])) dNil))))))) (dRetV 0) dNext)
  (dSeq (dAsg (dC (.int 1)) (gN 2))
  (dSeq (dIfS (dTst (dBin eqD (dIx (dVar 0) (dC (.int 0))) (dC (.str [103, 114, 101, 97, 116])))) (dAsg (dC (.int 2)) (gN 2)) dNext)
  (dSeq (dAsg (dLC 5 (dIt (dSl (dVar 0) (oSm (dVar 2)) oNo)) (gN 4) (dTst (dBin (inD true) (dVar 4) (dVar 1))) (dVar 4) [4]) (gN 3))
  (dSeq (dIfS (dTst (dBin eqD (dVar 3) (dLst dNil))) (dRet (dC .non)) dNext)
  (dRet (dBin addD (dSl (dVar 0) oNo (oSm (dVar 2))) (dCB tupleD (bCons (dVar 3) bNil)))))))))) D env := rfl
def sp_without : SPD := spB 3 b_without
theorem e_sp_without (ds : List D) (Q : D → Sl → Prop) (E : EX → Sl → Prop) : sp_without ds Q E = b_without { nx := fun env => Q .non env, rt := Q, ex := E } (pad 3 ds) := rfl
def lb_changed_0 : TSd := (dIfS (dTst (dBin neD (dIx (dVar 4) (dC (.int 0))) (dC (.str [102, 111, 114, 103, 101, 116])))) (dMS 3 (pVar 3) "list" appM (dCons (dVar 4) dNil)) dNext)
theorem e_lb_changed_0 D env : lb_changed_0 D env = (dIfS (dTst (dBin neD (dIx (dVar 4) (dC (.int 0))) (dC (.str [102, 111, 114, 103, 101, 116])))) (dMS 3 (pVar 3) "list" appM (dCons (dVar 4) dNil)) dNext) D env := rfl
def lb_changed_1 : TSd := (dSeq (dAsg (dCallL 2 sp_without [] (bCons (dVar 4) (bCons (dVar 2) bNil))) (gN 5))
  (dIfS (dAndT (dTst (dBin neD (dIx (dVar 4) (dC (.int 0))) (dC (.str [102, 111, 114, 103, 101, 116])))) (dTst (dBin isNt (dVar 5) (dC .non)))) (dMS 3 (pVar 3) "list" appM (dCons (dVar 5) dNil)) dNext))
theorem e_lb_changed_1 D env : lb_changed_1 D env = (dSeq (dAsg (dCallL 2 sp_without [] (bCons (dVar 4) (bCons (dVar 2) bNil))) (gN 5))
  (dIfS (dAndT (dTst (dBin neD (dIx (dVar 4) (dC (.int 0))) (dC (.str [102, 111, 114, 103, 101, 116])))) (dTst (dBin isNt (dVar 5) (dC .non)))) (dMS 3 (pVar 3) "list" appM (dCons (dVar 5) dNil)) dNext)) D env := rfl
def b_changed : TSd := (dSeq (dAsg (dCall 1 sp_forgotten [] (dCons (dVar 1) dNil)) (gN 2))
  (dSeq (dAsg (dLst dNil) (gN 3))
  (dSeq (dFor (dIt (dVar 0)) (gN 4) lb_changed_1)
  (dSeq (dFor (dIt (dVar 1)) (gN 4) lb_changed_0)
  (dRetV 3)))))
theorem e_b_changed D env : b_changed D env = (dSeq (dAsg (dCall 1 sp_forgotten [] (dCons (dVar 1) dNil)) (gN 2))
  (dSeq (dAsg (dLst dNil) (gN 3))
  (dSeq (dFor (dIt (dVar 0)) (gN 4) lb_changed_1)
  (dSeq (dFor (dIt (dVar 1)) (gN 4) lb_changed_0)
  (dRetV 3))))) D env := rfl
def sp_changed : SPD := spB 4 b_changed
theorem e_sp_changed (ds : List D) (Q : D → Sl → Prop) (E : EX → Sl → Prop) : sp_changed ds Q E = b_changed { nx := fun env => Q .non env, rt := Q, ex := E } (pad 4 ds) := rfl
def b_is_name : TSd := (dSeq (dIfS (dNotT (dTst (dChain leD leD (dC (.int 1)) (dCB lenD (bCons (dVar 0) bNil)) (dC (.int 8))))) (dRet (dC (.bl false))) dNext)
  (dRet (dCB allD (bCons (dLC 2 (dIt (dVar 0)) (gN 1) dYes (dBin (inD false) (dVar 1) (dC (.str [97, 98, 99, 100, 101, 102, 103, 104, 105, 106, 107, 108, 109, 110, 111, 112, 113, 114, 115, 116, 117, 118, 119, 120, 121, 122]))) [1]) bNil))))
theorem e_b_is_name D env : b_is_name D env = (dSeq (dIfS (dNotT (dTst (dChain leD leD (dC (.int 1)) (dCB lenD (bCons (dVar 0) bNil)) (dC (.int 8))))) (dRet (dC (.bl false))) dNext)
  (dRet (dCB allD (bCons (dLC 2 (dIt (dVar 0)) (gN 1) dYes (dBin (inD false) (dVar 1) (dC (.str [97, 98, 99, 100, 101, 102, 103, 104, 105, 106, 107, 108, 109, 110, 111, 112, 113, 114, 115, 116, 117, 118, 119, 120, 121, 122]))) [1]) bNil)))) D env := rfl
def sp_is_name : SPD := spB 1 b_is_name
theorem e_sp_is_name (ds : List D) (Q : D → Sl → Prop) (E : EX → Sl → Prop) : sp_is_name ds Q E = b_is_name { nx := fun env => Q .non env, rt := Q, ex := E } (pad 1 ds) := rfl
def b_begins_order : TSd := (dSeq (dIfS (dOrT (dTst (dBin neD (dIx (dVar 0) (dC (.int 0))) (dC (.str [111, 114, 100, 101, 114])))) (dTst (dBin (inD true) (dCB lenD (bCons (dVar 0) bNil)) (dLst (dCons (dC (.int 2)) (dCons (dC (.int 4)) dNil)))))) (dRet (dC (.bl false))) dNext)
  (dSeq (dIfS (dAndT (dTst (dBin eqD (dCB lenD (bCons (dVar 0) bNil)) (dC (.int 4)))) (dOrT (dTst (dBin neD (dIx (dVar 0) (dC (.int 2))) (dC (.str [111, 102])))) (dNotT (dTst (dCall 1 sp_is_name [] (dCons (dIx (dVar 0) (dC (.int 3))) dNil)))))) (dRet (dC (.bl false))) dNext)
  (dRet (dCall 1 sp_is_name [] (dCons (dIx (dVar 0) (dC (.int 1))) dNil)))))
theorem e_b_begins_order D env : b_begins_order D env = (dSeq (dIfS (dOrT (dTst (dBin neD (dIx (dVar 0) (dC (.int 0))) (dC (.str [111, 114, 100, 101, 114])))) (dTst (dBin (inD true) (dCB lenD (bCons (dVar 0) bNil)) (dLst (dCons (dC (.int 2)) (dCons (dC (.int 4)) dNil)))))) (dRet (dC (.bl false))) dNext)
  (dSeq (dIfS (dAndT (dTst (dBin eqD (dCB lenD (bCons (dVar 0) bNil)) (dC (.int 4)))) (dOrT (dTst (dBin neD (dIx (dVar 0) (dC (.int 2))) (dC (.str [111, 102])))) (dNotT (dTst (dCall 1 sp_is_name [] (dCons (dIx (dVar 0) (dC (.int 3))) dNil)))))) (dRet (dC (.bl false))) dNext)
  (dRet (dCall 1 sp_is_name [] (dCons (dIx (dVar 0) (dC (.int 1))) dNil))))) D env := rfl
def sp_begins_order : SPD := spB 0 b_begins_order
theorem e_sp_begins_order (ds : List D) (Q : D → Sl → Prop) (E : EX → Sl → Prop) : sp_begins_order ds Q E = b_begins_order { nx := fun env => Q .non env, rt := Q, ex := E } (pad 0 ds) := rfl
def b_read_at : TSd := (dTryR ex_NoRule (dRet (dCall 1 sp_read_rule [] (dCons (dVar 0) dNil))) (dRaise 2 (dVar 1)))
theorem e_b_read_at D env : b_read_at D env = (dTryR ex_NoRule (dRet (dCall 1 sp_read_rule [] (dCons (dVar 0) dNil))) (dRaise 2 (dVar 1))) D env := rfl
def sp_read_at : SPD := spB 0 b_read_at
theorem e_sp_read_at (ds : List D) (Q : D → Sl → Prop) (E : EX → Sl → Prop) : sp_read_at ds Q E = b_read_at { nx := fun env => Q .non env, rt := Q, ex := E } (pad 0 ds) := rfl
def b__law_cell_at : TSd := (dSeq (dIfS (dTst (dBin ltD (dVar 1) (dCB lenD (bCons (dVar 0) bNil)))) (dRet (dIx (dVar 0) (dVar 1))) dNext)
  (dRet (dC (.int 0))))
theorem e_b__law_cell_at D env : b__law_cell_at D env = (dSeq (dIfS (dTst (dBin ltD (dVar 1) (dCB lenD (bCons (dVar 0) bNil)))) (dRet (dIx (dVar 0) (dVar 1))) dNext)
  (dRet (dC (.int 0)))) D env := rfl
def sp__law_cell_at : SPD := spB 0 b__law_cell_at
theorem e_sp__law_cell_at (ds : List D) (Q : D → Sl → Prop) (E : EX → Sl → Prop) : sp__law_cell_at ds Q E = b__law_cell_at { nx := fun env => Q .non env, rt := Q, ex := E } (pad 0 ds) := rfl
def lb__law_pieces_0 : TSd := (dSeq (dAsg (dBin modD (dBin addD (dVar 5) (dBin mulSD (dVar 8) (dVar 4))) (dC (.int 8649))) (gN 9))
  (dIfS (dOrT (dTst (dBin eqD (dVar 6) (dC (.int 0)))) (dAndT (dTst (dBin eqD (dVar 6) (dC (.int 1)))) (dTst (dBin eqD (dBin modD (dVar 8) (dC (.int 2))) (dC (.int 1)))))) (dMS 7 (pVar 7) "list" appM (dCons (dIx (dVar 2) (dBin modD (dVar 9) (dC (.int 93)))) dNil)) (dMS 7 (pVar 7) "list" appM (dCons (dBin addD (dIx (dVar 2) (dBin fdivD (dVar 9) (dC (.int 93)))) (dIx (dVar 2) (dBin modD (dVar 9) (dC (.int 93))))) dNil))))
theorem e_lb__law_pieces_0 D env : lb__law_pieces_0 D env = (dSeq (dAsg (dBin modD (dBin addD (dVar 5) (dBin mulSD (dVar 8) (dVar 4))) (dC (.int 8649))) (gN 9))
  (dIfS (dOrT (dTst (dBin eqD (dVar 6) (dC (.int 0)))) (dAndT (dTst (dBin eqD (dVar 6) (dC (.int 1)))) (dTst (dBin eqD (dBin modD (dVar 8) (dC (.int 2))) (dC (.int 1)))))) (dMS 7 (pVar 7) "list" appM (dCons (dIx (dVar 2) (dBin modD (dVar 9) (dC (.int 93)))) dNil)) (dMS 7 (pVar 7) "list" appM (dCons (dBin addD (dIx (dVar 2) (dBin fdivD (dVar 9) (dC (.int 93)))) (dIx (dVar 2) (dBin modD (dVar 9) (dC (.int 93))))) dNil)))) D env := rfl
def b__law_pieces : TSd := (dSeq (dAsg (dC (.str [33, 34, 35, 36, 38, 39, 40, 41, 42, 43, 44, 45, 46, 47, 48, 49, 50, 51, 52, 53, 54, 55, 56, 57, 58, 59, 60, 61, 62, 63, 64, 65, 66, 67, 68, 69, 70, 71, 72, 73, 74, 75, 76, 77, 78, 79, 80, 81, 82, 83, 84, 85, 86, 87, 88, 89, 90, 91, 92, 93, 94, 95, 96])) (gN 2))
  (dSeq (dAsg (dBin addD (dVar 2) (dC (.str [97, 98, 99, 100, 101, 102, 103, 104, 105, 106, 107, 108, 109, 110, 111, 112, 113, 114, 115, 116, 117, 118, 119, 120, 121, 122, 123, 124, 125, 126]))) (gN 2))
  (dSeq (dAsg (dBin modD (dBin mulSD (dVar 0) (dC (.int 48271))) (dC (.int 2147483647))) (gN 3))
  (dSeq (dAsg (dIx (dLst (dCons (dC (.int 1)) (dCons (dC (.int 2)) (dCons (dC (.int 5)) (dCons (dC (.int 94)) (dCons (dC (.int 187)) (dCons (dC (.int 1000)) (dCons (dC (.int 4001)) (dCons (dC (.int 8648)) dNil))))))))) (dBin modD (dVar 3) (dC (.int 8)))) (gN 4))
  (dSeq (dAsg (dBin modD (dBin fdivD (dVar 3) (dC (.int 8))) (dC (.int 8649))) (gN 5))
  (dSeq (dAsg (dBin modD (dBin fdivD (dVar 3) (dC (.int 69192))) (dC (.int 3))) (gN 6))
  (dSeq (dAsg (dLst dNil) (gN 7))
  (dSeq (dFor (dRg1 (dCons (dVar 1) dNil)) (gN 8) lb__law_pieces_0)
  (dRetV 7)))))))))
theorem e_b__law_pieces D env : b__law_pieces D env = (dSeq (dAsg (dC (.str [33, 34, 35, 36, 38, 39, 40, 41, 42, 43, 44, 45, 46, 47, 48, 49, 50, 51, 52, 53, 54, 55, 56, 57, 58, 59, 60, 61, 62, 63, 64, 65, 66, 67, 68, 69, 70, 71, 72, 73, 74, 75, 76, 77, 78, 79, 80, 81, 82, 83, 84, 85, 86, 87, 88, 89, 90, 91, 92, 93, 94, 95, 96])) (gN 2))
  (dSeq (dAsg (dBin addD (dVar 2) (dC (.str [97, 98, 99, 100, 101, 102, 103, 104, 105, 106, 107, 108, 109, 110, 111, 112, 113, 114, 115, 116, 117, 118, 119, 120, 121, 122, 123, 124, 125, 126]))) (gN 2))
  (dSeq (dAsg (dBin modD (dBin mulSD (dVar 0) (dC (.int 48271))) (dC (.int 2147483647))) (gN 3))
  (dSeq (dAsg (dIx (dLst (dCons (dC (.int 1)) (dCons (dC (.int 2)) (dCons (dC (.int 5)) (dCons (dC (.int 94)) (dCons (dC (.int 187)) (dCons (dC (.int 1000)) (dCons (dC (.int 4001)) (dCons (dC (.int 8648)) dNil))))))))) (dBin modD (dVar 3) (dC (.int 8)))) (gN 4))
  (dSeq (dAsg (dBin modD (dBin fdivD (dVar 3) (dC (.int 8))) (dC (.int 8649))) (gN 5))
  (dSeq (dAsg (dBin modD (dBin fdivD (dVar 3) (dC (.int 69192))) (dC (.int 3))) (gN 6))
  (dSeq (dAsg (dLst dNil) (gN 7))
  (dSeq (dFor (dRg1 (dCons (dVar 1) dNil)) (gN 8) lb__law_pieces_0)
  (dRetV 7))))))))) D env := rfl
def sp__law_pieces : SPD := spB 8 b__law_pieces
theorem e_sp__law_pieces (ds : List D) (Q : D → Sl → Prop) (E : EX → Sl → Prop) : sp__law_pieces ds Q E = b__law_pieces { nx := fun env => Q .non env, rt := Q, ex := E } (pad 8 ds) := rfl
def lb__law_names_0 : TSd := (dSeq (dAsg (dBin modD (dBin addD (dVar 0) (dBin mulSD (dC (.int 7)) (dVar 5))) (dC (.int 676))) (gN 6))
  (dIfS (dAndT (dTst (dBin eqD (dVar 3) (dC (.int 1)))) (dTst (dBin leD (dVar 1) (dC (.int 8))))) (dMS 4 (pVar 4) "list" appM (dCons (dBin mulSD (dIx (dVar 2) (dBin modD (dVar 0) (dC (.int 26)))) (dBin addD (dVar 5) (dC (.int 1)))) dNil)) (dIfS (dAndT (dTst (dBin eqD (dVar 3) (dC (.int 2)))) (dTst (dBin leD (dVar 1) (dC (.int 26))))) (dMS 4 (pVar 4) "list" appM (dCons (dIx (dVar 2) (dBin modD (dBin addD (dVar 0) (dBin mulSD (dC (.int 5)) (dVar 5))) (dC (.int 26)))) dNil)) (dSeq (dAsg (dBin mulSD (dIx (dVar 2) (dBin modD (dBin fdivD (dVar 0) (dC (.int 676))) (dC (.int 26)))) (dBin modD (dBin fdivD (dVar 0) (dC (.int 17576))) (dC (.int 4)))) (gN 7))
  (dSeq (dAsg (dBin mulSD (dIx (dVar 2) (dBin modD (dBin fdivD (dVar 0) (dC (.int 70304))) (dC (.int 26)))) (dBin modD (dBin fdivD (dVar 0) (dC (.int 1827904))) (dC (.int 4)))) (gN 8))
  (dSeq (dAsg (dBin addD (dIx (dVar 2) (dBin fdivD (dVar 6) (dC (.int 26)))) (dIx (dVar 2) (dBin modD (dVar 6) (dC (.int 26))))) (gN 9))
  (dMS 4 (pVar 4) "list" appM (dCons (dBin addD (dBin addD (dVar 7) (dVar 9)) (dVar 8)) dNil))))))))
theorem e_lb__law_names_0 D env : lb__law_names_0 D env = (dSeq (dAsg (dBin modD (dBin addD (dVar 0) (dBin mulSD (dC (.int 7)) (dVar 5))) (dC (.int 676))) (gN 6))
  (dIfS (dAndT (dTst (dBin eqD (dVar 3) (dC (.int 1)))) (dTst (dBin leD (dVar 1) (dC (.int 8))))) (dMS 4 (pVar 4) "list" appM (dCons (dBin mulSD (dIx (dVar 2) (dBin modD (dVar 0) (dC (.int 26)))) (dBin addD (dVar 5) (dC (.int 1)))) dNil)) (dIfS (dAndT (dTst (dBin eqD (dVar 3) (dC (.int 2)))) (dTst (dBin leD (dVar 1) (dC (.int 26))))) (dMS 4 (pVar 4) "list" appM (dCons (dIx (dVar 2) (dBin modD (dBin addD (dVar 0) (dBin mulSD (dC (.int 5)) (dVar 5))) (dC (.int 26)))) dNil)) (dSeq (dAsg (dBin mulSD (dIx (dVar 2) (dBin modD (dBin fdivD (dVar 0) (dC (.int 676))) (dC (.int 26)))) (dBin modD (dBin fdivD (dVar 0) (dC (.int 17576))) (dC (.int 4)))) (gN 7))
  (dSeq (dAsg (dBin mulSD (dIx (dVar 2) (dBin modD (dBin fdivD (dVar 0) (dC (.int 70304))) (dC (.int 26)))) (dBin modD (dBin fdivD (dVar 0) (dC (.int 1827904))) (dC (.int 4)))) (gN 8))
  (dSeq (dAsg (dBin addD (dIx (dVar 2) (dBin fdivD (dVar 6) (dC (.int 26)))) (dIx (dVar 2) (dBin modD (dVar 6) (dC (.int 26))))) (gN 9))
  (dMS 4 (pVar 4) "list" appM (dCons (dBin addD (dBin addD (dVar 7) (dVar 9)) (dVar 8)) dNil)))))))) D env := rfl
def b__law_names : TSd := (dSeq (dAsg (dC (.str [97, 98, 99, 100, 101, 102, 103, 104, 105, 106, 107, 108, 109, 110, 111, 112, 113, 114, 115, 116, 117, 118, 119, 120, 121, 122])) (gN 2))
  (dSeq (dAsg (dBin modD (dVar 0) (dC (.int 4))) (gN 3))
  (dSeq (dAsg (dBin fdivD (dVar 0) (dC (.int 4))) (gN 0))
  (dSeq (dAsg (dLst dNil) (gN 4))
  (dSeq (dFor (dRg1 (dCons (dVar 1) dNil)) (gN 5) lb__law_names_0)
  (dRetV 4))))))
theorem e_b__law_names D env : b__law_names D env = (dSeq (dAsg (dC (.str [97, 98, 99, 100, 101, 102, 103, 104, 105, 106, 107, 108, 109, 110, 111, 112, 113, 114, 115, 116, 117, 118, 119, 120, 121, 122])) (gN 2))
  (dSeq (dAsg (dBin modD (dVar 0) (dC (.int 4))) (gN 3))
  (dSeq (dAsg (dBin fdivD (dVar 0) (dC (.int 4))) (gN 0))
  (dSeq (dAsg (dLst dNil) (gN 4))
  (dSeq (dFor (dRg1 (dCons (dVar 1) dNil)) (gN 5) lb__law_names_0)
  (dRetV 4)))))) D env := rfl
def sp__law_names : SPD := spB 8 b__law_names
theorem e_sp__law_names (ds : List D) (Q : D → Sl → Prop) (E : EX → Sl → Prop) : sp__law_names ds Q E = b__law_names { nx := fun env => Q .non env, rt := Q, ex := E } (pad 8 ds) := rfl
def lb__law_rule_0 : TSd := (dSeq (dMS 6 (pVar 6) "list" appM (dCons (dIx (dVar 1) (dBin modD (dVar 3) (dCB lenD (bCons (dVar 1) bNil)))) dNil))
  (dAsg (dBin fdivD (dVar 3) (dCB lenD (bCons (dVar 1) bNil))) (gN 3)))
theorem e_lb__law_rule_0 D env : lb__law_rule_0 D env = (dSeq (dMS 6 (pVar 6) "list" appM (dCons (dIx (dVar 1) (dBin modD (dVar 3) (dCB lenD (bCons (dVar 1) bNil)))) dNil))
  (dAsg (dBin fdivD (dVar 3) (dCB lenD (bCons (dVar 1) bNil))) (gN 3))) D env := rfl
def b__law_rule : TSd := (dSeq (dAsg (dLst (dCons (dC (.str [114, 111, 119])) (dCons (dC (.str [109, 97, 114, 107, 115])) (dCons (dC (.str [103, 114, 101, 97, 116])) (dCons (dC (.str [97, 115])) (dCons (dC (.str [111, 118, 101, 114])) (dCons (dC (.str [102, 111, 114, 103, 101, 116])) (dCons (dC (.str [102, 105, 103, 117, 114, 101, 115])) (dCons (dC (.str [98, 108, 97, 110, 107, 115])) (dCons (dC (.str [98, 101, 104, 105, 110, 100])) dNil)))))))))) (gN 2))
  (dSeq (dAsg (dBin modD (dBin mulSD (dVar 0) (dC (.int 16807))) (dC (.int 2147483629))) (gN 3))
  (dSeq (dAsg (dBin modD (dVar 3) (dC (.int 9))) (gN 4))
  (dSeq (dIfS (dTst (dBin gtD (dVar 4) (dC (.int 5)))) (dRet (dTup (dCons (dIx (dVar 2) (dVar 4)) dNil))) dNext)
  (dSeq (dAsg (dBin fdivD (dVar 3) (dC (.int 9))) (gN 3))
  (dSeq (dAsg (dBin addD (dC (.int 2)) (dBin modD (dVar 3) (dC (.int 3)))) (gN 5))
  (dSeq (dIfS (dAndT (dTst (dBin neD (dVar 4) (dC (.int 2)))) (dTst (dBin neD (dVar 4) (dC (.int 3))))) (dAsg (dBin subD (dVar 5) (dC (.int 1))) (gN 5)) dNext)
  (dSeq (dAsg (dBin fdivD (dVar 3) (dC (.int 3))) (gN 3))
  (dSeq (dAsg (dLst dNil) (gN 6))
  (dSeq (dFor (dRg1 (dCons (dVar 5) dNil)) (gN 7) lb__law_rule_0)
  (dRet (dBin addD (dTup (dCons (dIx (dVar 2) (dVar 4)) dNil)) (dCB tupleD (bCons (dVar 6) bNil))))))))))))))
theorem e_b__law_rule D env : b__law_rule D env = (dSeq (dAsg (dLst (dCons (dC (.str [114, 111, 119])) (dCons (dC (.str [109, 97, 114, 107, 115])) (dCons (dC (.str [103, 114, 101, 97, 116])) (dCons (dC (.str [97, 115])) (dCons (dC (.str [111, 118, 101, 114])) (dCons (dC (.str [102, 111, 114, 103, 101, 116])) (dCons (dC (.str [102, 105, 103, 117, 114, 101, 115])) (dCons (dC (.str [98, 108, 97, 110, 107, 115])) (dCons (dC (.str [98, 101, 104, 105, 110, 100])) dNil)))))))))) (gN 2))
  (dSeq (dAsg (dBin modD (dBin mulSD (dVar 0) (dC (.int 16807))) (dC (.int 2147483629))) (gN 3))
  (dSeq (dAsg (dBin modD (dVar 3) (dC (.int 9))) (gN 4))
  (dSeq (dIfS (dTst (dBin gtD (dVar 4) (dC (.int 5)))) (dRet (dTup (dCons (dIx (dVar 2) (dVar 4)) dNil))) dNext)
  (dSeq (dAsg (dBin fdivD (dVar 3) (dC (.int 9))) (gN 3))
  (dSeq (dAsg (dBin addD (dC (.int 2)) (dBin modD (dVar 3) (dC (.int 3)))) (gN 5))
  (dSeq (dIfS (dAndT (dTst (dBin neD (dVar 4) (dC (.int 2)))) (dTst (dBin neD (dVar 4) (dC (.int 3))))) (dAsg (dBin subD (dVar 5) (dC (.int 1))) (gN 5)) dNext)
  (dSeq (dAsg (dBin fdivD (dVar 3) (dC (.int 3))) (gN 3))
  (dSeq (dAsg (dLst dNil) (gN 6))
  (dSeq (dFor (dRg1 (dCons (dVar 5) dNil)) (gN 7) lb__law_rule_0)
  (dRet (dBin addD (dTup (dCons (dIx (dVar 2) (dVar 4)) dNil)) (dCB tupleD (bCons (dVar 6) bNil)))))))))))))) D env := rfl
def sp__law_rule : SPD := spB 6 b__law_rule
theorem e_sp__law_rule (ds : List D) (Q : D → Sl → Prop) (E : EX → Sl → Prop) : sp__law_rule ds Q E = b__law_rule { nx := fun env => Q .non env, rt := Q, ex := E } (pad 6 ds) := rfl
def lb__law_lines_0 : TSd := (dSeq (dAsg (dBin modD (dBin mulSD (dVar 6) (dC (.int 48271))) (dC (.int 2147483647))) (gN 7))
  (dIfS (dOrT (dTst (dBin eqD (dVar 3) (dLst dNil))) (dAndT (dTst (dBin eqD (dBin modD (dVar 7) (dC (.int 5))) (dC (.int 1)))) (dTst (dBin ltD (dCB lenD (bCons (dVar 5) bNil)) (dC (.int 60)))))) (dSeq (dAsg (dIx (dVar 1) (dCB lenD (bCons (dVar 5) bNil))) (gN 8))
  (dSeq (dMS 5 (pVar 5) "list" appM (dCons (dVar 8) dNil))
  (dIfS (dTst (dBin eqD (dBin modD (dBin fdivD (dVar 7) (dC (.int 5))) (dC (.int 4))) (dC (.int 1)))) (dMS 3 (pVar 3) "list" appM (dCons (dBin addD (dBin addD (dBin addD (dC (.str [111, 114, 100, 101, 114, 32])) (dVar 8)) (dC (.str [32, 111, 102, 32]))) (dIx (dVar 1) (dBin modD (dBin fdivD (dVar 7) (dC (.int 20))) (dC (.int 60))))) dNil)) (dSeq (dMS 3 (pVar 3) "list" appM (dCons (dBin addD (dC (.str [111, 114, 100, 101, 114, 32])) (dVar 8)) dNil))
  (dSub 4 (pVar 4) (dVar 8) (dLst dNil)))))) (dSeq (dAsg (dCall 2 sp__law_rule [] (dCons (dBin fdivD (dVar 6) (dC (.int 5))) (dCons (dVar 2) dNil))) (gN 9))
  (dSeq (dMS 3 (pVar 3) "list" appM (dCons (dMV "str" joinD (dC (.str [32])) (bCons (dVar 9) bNil)) dNil))
  (dIfS (dAndT (dTst (dBin (inD false) (dIx (dVar 5) (dNeg (dC (.int 1)))) (dVar 4))) (dTst (dBin neD (dIx (dVar 9) (dC (.int 0))) (dC (.str [102, 111, 114, 103, 101, 116]))))) (dMS 4 (pIx 4 (pVar 4) (dIx (dVar 5) (dNeg (dC (.int 1))))) "list" appM (dCons (dVar 9) dNil)) dNext)))))
theorem e_lb__law_lines_0 D env : lb__law_lines_0 D env = (dSeq (dAsg (dBin modD (dBin mulSD (dVar 6) (dC (.int 48271))) (dC (.int 2147483647))) (gN 7))
  (dIfS (dOrT (dTst (dBin eqD (dVar 3) (dLst dNil))) (dAndT (dTst (dBin eqD (dBin modD (dVar 7) (dC (.int 5))) (dC (.int 1)))) (dTst (dBin ltD (dCB lenD (bCons (dVar 5) bNil)) (dC (.int 60)))))) (dSeq (dAsg (dIx (dVar 1) (dCB lenD (bCons (dVar 5) bNil))) (gN 8))
  (dSeq (dMS 5 (pVar 5) "list" appM (dCons (dVar 8) dNil))
  (dIfS (dTst (dBin eqD (dBin modD (dBin fdivD (dVar 7) (dC (.int 5))) (dC (.int 4))) (dC (.int 1)))) (dMS 3 (pVar 3) "list" appM (dCons (dBin addD (dBin addD (dBin addD (dC (.str [111, 114, 100, 101, 114, 32])) (dVar 8)) (dC (.str [32, 111, 102, 32]))) (dIx (dVar 1) (dBin modD (dBin fdivD (dVar 7) (dC (.int 20))) (dC (.int 60))))) dNil)) (dSeq (dMS 3 (pVar 3) "list" appM (dCons (dBin addD (dC (.str [111, 114, 100, 101, 114, 32])) (dVar 8)) dNil))
  (dSub 4 (pVar 4) (dVar 8) (dLst dNil)))))) (dSeq (dAsg (dCall 2 sp__law_rule [] (dCons (dBin fdivD (dVar 6) (dC (.int 5))) (dCons (dVar 2) dNil))) (gN 9))
  (dSeq (dMS 3 (pVar 3) "list" appM (dCons (dMV "str" joinD (dC (.str [32])) (bCons (dVar 9) bNil)) dNil))
  (dIfS (dAndT (dTst (dBin (inD false) (dIx (dVar 5) (dNeg (dC (.int 1)))) (dVar 4))) (dTst (dBin neD (dIx (dVar 9) (dC (.int 0))) (dC (.str [102, 111, 114, 103, 101, 116]))))) (dMS 4 (pIx 4 (pVar 4) (dIx (dVar 5) (dNeg (dC (.int 1))))) "list" appM (dCons (dVar 9) dNil)) dNext))))) D env := rfl
def b__law_lines : TSd := (dSeq (dAsg (dLst dNil) (gN 3))
  (dSeq (dAsg dDct0 (gN 4))
  (dSeq (dAsg (dLst dNil) (gN 5))
  (dSeq (dFor (dIt (dSl (dVar 0) (oSm (dC (.int 3))) (oSm (dC (.int 103))))) (gN 6) lb__law_lines_0)
  (dRetT [3, 5, 4] (dConsV 3 (dConsV 5 (dConsV 4 dNil))))))))
theorem e_b__law_lines D env : b__law_lines D env = (dSeq (dAsg (dLst dNil) (gN 3))
  (dSeq (dAsg dDct0 (gN 4))
  (dSeq (dAsg (dLst dNil) (gN 5))
  (dSeq (dFor (dIt (dSl (dVar 0) (oSm (dC (.int 3))) (oSm (dC (.int 103))))) (gN 6) lb__law_lines_0)
  (dRetT [3, 5, 4] (dConsV 3 (dConsV 5 (dConsV 4 dNil)))))))) D env := rfl
def sp__law_lines : SPD := spB 7 b__law_lines
theorem e_sp__law_lines (ds : List D) (Q : D → Sl → Prop) (E : EX → Sl → Prop) : sp__law_lines ds Q E = b__law_lines { nx := fun env => Q .non env, rt := Q, ex := E } (pad 7 ds) := rfl
def b_Book_begin : TSd := (dSeq (dIfS (dTst (dBin (inD false) (dVar 1) (dFld 14 1 (dVar 0)))) (dRaise 5 (dVar 1)) dNext)
  (dSeq (dSub 0 (pFl 0 (pVar 0) 14 1) (dVar 1) (dLst dNil))
  (dSeq (dSub 0 (pFl 0 (pVar 0) 14 0) (dVar 1) (dC .non))
  (dIfS (dTst (dBin neD (dVar 2) (dLst dNil))) (dSub 0 (pFl 0 (pVar 0) 14 0) (dVar 1) (dIx (dVar 2) (dC (.int 1)))) dNext))))
theorem e_b_Book_begin D env : b_Book_begin D env = (dSeq (dIfS (dTst (dBin (inD false) (dVar 1) (dFld 14 1 (dVar 0)))) (dRaise 5 (dVar 1)) dNext)
  (dSeq (dSub 0 (pFl 0 (pVar 0) 14 1) (dVar 1) (dLst dNil))
  (dSeq (dSub 0 (pFl 0 (pVar 0) 14 0) (dVar 1) (dC .non))
  (dIfS (dTst (dBin neD (dVar 2) (dLst dNil))) (dSub 0 (pFl 0 (pVar 0) 14 0) (dVar 1) (dIx (dVar 2) (dC (.int 1)))) dNext)))) D env := rfl
def sp_Book_begin : SPD := spB 0 b_Book_begin
theorem e_sp_Book_begin (ds : List D) (Q : D → Sl → Prop) (E : EX → Sl → Prop) : sp_Book_begin ds Q E = b_Book_begin { nx := fun env => Q .non env, rt := Q, ex := E } (pad 0 ds) := rfl
def lb_Book_init_0 : TSd := (dSeq (dAsg (dMV "str" splitD (dVar 5) (bCons (dC (.str [32])) bNil)) (gN 6))
  (dIfS (dTst (dCallL 1 sp_begins_order [] (bCons (dVar 6) bNil))) (dSeq (dAsg (dIx (dVar 6) (dC (.int 1))) (gN 3))
  (dMethS 0 (pVar 0) 14 3 sp_Book_begin [] (dCons (dVar 3) (dCons (dSl (dVar 6) (oSm (dC (.int 2))) oNo) dNil)) gDrop)) (dIfS (dTst (dBin isNo (dVar 3) (dC .non))) (dRaise 2 (dVar 4)) (dMS 0 (pIx 0 (pFl 0 (pVar 0) 14 1) (dVar 3)) "list" appM (dCons (dCall 2 sp_read_at [] (dCons (dVar 5) (dCons (dVar 4) dNil))) dNil)))))
theorem e_lb_Book_init_0 D env : lb_Book_init_0 D env = (dSeq (dAsg (dMV "str" splitD (dVar 5) (bCons (dC (.str [32])) bNil)) (gN 6))
  (dIfS (dTst (dCallL 1 sp_begins_order [] (bCons (dVar 6) bNil))) (dSeq (dAsg (dIx (dVar 6) (dC (.int 1))) (gN 3))
  (dMethS 0 (pVar 0) 14 3 sp_Book_begin [] (dCons (dVar 3) (dCons (dSl (dVar 6) (oSm (dC (.int 2))) oNo) dNil)) gDrop)) (dIfS (dTst (dBin isNo (dVar 3) (dC .non))) (dRaise 2 (dVar 4)) (dMS 0 (pIx 0 (pFl 0 (pVar 0) 14 1) (dVar 3)) "list" appM (dCons (dCall 2 sp_read_at [] (dCons (dVar 5) (dCons (dVar 4) dNil))) dNil))))) D env := rfl
def b_Book_init : TSd := (dSeq (dSfl 0 (pVar 0) 14 0 dDct0)
  (dSeq (dSfl 0 (pVar 0) 14 1 dDct0)
  (dSeq (dAsg (dLst dNil) (gN 2))
  (dSeq (dIfS (dTst (dBin neD (dVar 1) (dC (.str [])))) (dAsg (dMV "str" splitD (dVar 1) (bCons (dC (.str [10])) bNil)) (gN 2)) dNext)
  (dSeq (dAsg (dC .non) (gN 3))
  (dFz [2] (dFor (dEnum (dVar 2)) (gTu 2 (gsCons (gN 4) (gsCons (gN 5) gsNil))) lb_Book_init_0)))))))
theorem e_b_Book_init D env : b_Book_init D env = (dSeq (dSfl 0 (pVar 0) 14 0 dDct0)
  (dSeq (dSfl 0 (pVar 0) 14 1 dDct0)
  (dSeq (dAsg (dLst dNil) (gN 2))
  (dSeq (dIfS (dTst (dBin neD (dVar 1) (dC (.str [])))) (dAsg (dMV "str" splitD (dVar 1) (bCons (dC (.str [10])) bNil)) (gN 2)) dNext)
  (dSeq (dAsg (dC .non) (gN 3))
  (dFz [2] (dFor (dEnum (dVar 2)) (gTu 2 (gsCons (gN 4) (gsCons (gN 5) gsNil))) lb_Book_init_0))))))) D env := rfl
def sp_Book_init : SPD := spB 5 b_Book_init
theorem e_sp_Book_init (ds : List D) (Q : D → Sl → Prop) (E : EX → Sl → Prop) : sp_Book_init ds Q E = b_Book_init { nx := fun env => Q .non env, rt := Q, ex := E } (pad 5 ds) := rfl
def b_Book_names : TSd := (dRet (dCB listD (bCons (dFld 14 1 (dVar 0)) bNil)))
theorem e_b_Book_names D env : b_Book_names D env = (dRet (dCB listD (bCons (dFld 14 1 (dVar 0)) bNil))) D env := rfl
def sp_Book_names : SPD := spB 0 b_Book_names
theorem e_sp_Book_names (ds : List D) (Q : D → Sl → Prop) (E : EX → Sl → Prop) : sp_Book_names ds Q E = b_Book_names { nx := fun env => Q .non env, rt := Q, ex := E } (pad 0 ds) := rfl
def wc_Book_line_of_0 : TTd := (dTst (dBin isNt (dVar 1) (dC .non)))
theorem e_wc_Book_line_of_0 env Q E : wc_Book_line_of_0 env Q E = (dTst (dBin isNt (dVar 1) (dC .non))) env Q E := rfl
def lb_Book_line_of_0 : TSd := (dSeq (dIfS (dTst (dBin (inD false) (dVar 1) (dVar 2))) (dRaise 8 (dSl (dVar 2) (oSm (dMV "list" idxD (dVar 2) (bCons (dVar 1) bNil))) oNo)) dNext)
  (dSeq (dIfS (dTst (dBin (inD true) (dVar 1) (dFld 14 1 (dVar 0)))) (dRaise 7 (dVar 1)) dNext)
  (dSeq (dMS 2 (pVar 2) "list" appM (dCons (dVar 1) dNil))
  (dAsg (dIx (dFld 14 0 (dVar 0)) (dVar 1)) (gN 1)))))
theorem e_lb_Book_line_of_0 D env : lb_Book_line_of_0 D env = (dSeq (dIfS (dTst (dBin (inD false) (dVar 1) (dVar 2))) (dRaise 8 (dSl (dVar 2) (oSm (dMV "list" idxD (dVar 2) (bCons (dVar 1) bNil))) oNo)) dNext)
  (dSeq (dIfS (dTst (dBin (inD true) (dVar 1) (dFld 14 1 (dVar 0)))) (dRaise 7 (dVar 1)) dNext)
  (dSeq (dMS 2 (pVar 2) "list" appM (dCons (dVar 1) dNil))
  (dAsg (dIx (dFld 14 0 (dVar 0)) (dVar 1)) (gN 1))))) D env := rfl
def b_Book_line_of : TSd := (dSeq (dAsg (dLst dNil) (gN 2))
  (dSeq (dWhile wc_Book_line_of_0 lb_Book_line_of_0)
  (dRetV 2)))
theorem e_b_Book_line_of D env : b_Book_line_of D env = (dSeq (dAsg (dLst dNil) (gN 2))
  (dSeq (dWhile wc_Book_line_of_0 lb_Book_line_of_0)
  (dRetV 2))) D env := rfl
def sp_Book_line_of : SPD := spB 1 b_Book_line_of
theorem e_sp_Book_line_of (ds : List D) (Q : D → Sl → Prop) (E : EX → Sl → Prop) : sp_Book_line_of ds Q E = b_Book_line_of { nx := fun env => Q .non env, rt := Q, ex := E } (pad 1 ds) := rfl
def lb_Book_rules_of_0 : TSd := (dAsg (dCallL 2 sp_changed [] (bCons (dVar 2) (bCons (dIx (dFld 14 1 (dVar 0)) (dVar 3)) bNil))) (gN 2))
theorem e_lb_Book_rules_of_0 D env : lb_Book_rules_of_0 D env = (dAsg (dCallL 2 sp_changed [] (bCons (dVar 2) (bCons (dIx (dFld 14 1 (dVar 0)) (dVar 3)) bNil))) (gN 2)) D env := rfl
def b_Book_rules_of : TSd := (dSeq (dAsg (dLst dNil) (gN 2))
  (dSeq (dFor (dRev (dMethA 14 2 sp_Book_line_of [] (dVar 0) (dCons (dVar 1) dNil))) (gN 3) lb_Book_rules_of_0)
  (dRetV 2)))
theorem e_b_Book_rules_of D env : b_Book_rules_of D env = (dSeq (dAsg (dLst dNil) (gN 2))
  (dSeq (dFor (dRev (dMethA 14 2 sp_Book_line_of [] (dVar 0) (dCons (dVar 1) dNil))) (gN 3) lb_Book_rules_of_0)
  (dRetV 2))) D env := rfl
def sp_Book_rules_of : SPD := spB 2 b_Book_rules_of
theorem e_sp_Book_rules_of (ds : List D) (Q : D → Sl → Prop) (E : EX → Sl → Prop) : sp_Book_rules_of ds Q E = b_Book_rules_of { nx := fun env => Q .non env, rt := Q, ex := E } (pad 2 ds) := rfl
def lb_law_0 : TSd := (dIfS (dAndT (dTst (dBin (inD false) (dVar 6) (dVar 9))) (dTst (dBin neD (dMethL 14 2 sp_Book_rules_of [] (dVar 4) (bCons (dVar 6) bNil)) (dIx (dVar 9) (dVar 6))))) (dRet (dC (.bl false))) dNext)
theorem e_lb_law_0 D env : lb_law_0 D env = (dIfS (dAndT (dTst (dBin (inD false) (dVar 6) (dVar 9))) (dTst (dBin neD (dMethL 14 2 sp_Book_rules_of [] (dVar 4) (bCons (dVar 6) bNil)) (dIx (dVar 9) (dVar 6))))) (dRet (dC (.bl false))) dNext) D env := rfl
def lb_law_1 : TSd := (dIfS (dTst (dBin (inD false) (dVar 6) (dVar 9))) (dSeq (dAsg (dMethL 14 2 sp_Book_rules_of [] (dVar 4) (bCons (dVar 6) bNil)) (gN 10))
  (dSeq (dIfS (dOrT (dNotT (dTst (dIsi "list" (dVar 10)))) (dTst (dBin neD (dVar 10) (dIx (dVar 9) (dVar 6))))) (dRet (dC (.bl false))) dNext)
  (dSeq (dMS 10 (pVar 10) "list" revM dNil)
  (dMS 10 (pVar 10) "list" appM (dCons (dTup (dCons (dC (.str [114, 111, 119])) (dCons (dC (.str [97])) dNil))) dNil))))) dNext)
theorem e_lb_law_1 D env : lb_law_1 D env = (dIfS (dTst (dBin (inD false) (dVar 6) (dVar 9))) (dSeq (dAsg (dMethL 14 2 sp_Book_rules_of [] (dVar 4) (bCons (dVar 6) bNil)) (gN 10))
  (dSeq (dIfS (dOrT (dNotT (dTst (dIsi "list" (dVar 10)))) (dTst (dBin neD (dVar 10) (dIx (dVar 9) (dVar 6))))) (dRet (dC (.bl false))) dNext)
  (dSeq (dMS 10 (pVar 10) "list" revM dNil)
  (dMS 10 (pVar 10) "list" appM (dCons (dTup (dCons (dC (.str [114, 111, 119])) (dCons (dC (.str [97])) dNil))) dNil))))) dNext) D env := rfl
def b_law : TSd := (dSeq (dAsg (dCall 2 sp__law_cell_at [] (dCons (dVar 0) (dCons (dC (.int 0)) dNil))) (gN 1))
  (dSeq (dAsg (dCall 2 sp__law_pieces [] (dCons (dVar 1) (dCons (dBin addD (dC (.int 2)) (dBin modD (dVar 1) (dC (.int 11)))) dNil))) (gN 2))
  (dSeq (dAsg (dCall 2 sp__law_names [] (dCons (dBin modD (dBin mulSD (dCall 2 sp__law_cell_at [] (dCons (dVar 0) (dCons (dC (.int 1)) dNil))) (dC (.int 39373))) (dC (.int 2147483629))) (dCons (dC (.int 60)) dNil))) (gN 3))
  (dSeq (dAsg (dCallL 3 sp__law_lines [] (bCons (dVar 0) (bCons (dVar 3) (bCons (dVar 2) bNil)))) (gTu 3 (gsCons (gN 7) (gsCons (gN 8) (gsCons (gN 9) gsNil)))))
  (dSeq (dAsg (dMake 14 2 sp_Book_init [] (dCons (dMV "str" joinD (dC (.str [10])) (bCons (dVar 7) bNil)) dNil)) (gN 4))
  (dSeq (dAsg (dMethL 14 1 sp_Book_names [] (dVar 4) bNil) (gN 5))
  (dSeq (dIfS (dOrT (dNotT (dTst (dIsi "list" (dVar 5)))) (dTst (dBin neD (dVar 5) (dVar 8)))) (dRet (dC (.bl false))) dNext)
  (dSeq (dMS 5 (pVar 5) "list" clrM dNil)
  (dSeq (dFz [8] (dFor (dIt (dVar 8)) (gN 6) lb_law_1))
  (dSeq (dFz [8] (dFor (dIt (dVar 8)) (gN 6) lb_law_0))
  (dRet (dBin eqD (dMethL 14 1 sp_Book_names [] (dVar 4) bNil) (dVar 8)))))))))))))
theorem e_b_law D env : b_law D env = (dSeq (dAsg (dCall 2 sp__law_cell_at [] (dCons (dVar 0) (dCons (dC (.int 0)) dNil))) (gN 1))
  (dSeq (dAsg (dCall 2 sp__law_pieces [] (dCons (dVar 1) (dCons (dBin addD (dC (.int 2)) (dBin modD (dVar 1) (dC (.int 11)))) dNil))) (gN 2))
  (dSeq (dAsg (dCall 2 sp__law_names [] (dCons (dBin modD (dBin mulSD (dCall 2 sp__law_cell_at [] (dCons (dVar 0) (dCons (dC (.int 1)) dNil))) (dC (.int 39373))) (dC (.int 2147483629))) (dCons (dC (.int 60)) dNil))) (gN 3))
  (dSeq (dAsg (dCallL 3 sp__law_lines [] (bCons (dVar 0) (bCons (dVar 3) (bCons (dVar 2) bNil)))) (gTu 3 (gsCons (gN 7) (gsCons (gN 8) (gsCons (gN 9) gsNil)))))
  (dSeq (dAsg (dMake 14 2 sp_Book_init [] (dCons (dMV "str" joinD (dC (.str [10])) (bCons (dVar 7) bNil)) dNil)) (gN 4))
  (dSeq (dAsg (dMethL 14 1 sp_Book_names [] (dVar 4) bNil) (gN 5))
  (dSeq (dIfS (dOrT (dNotT (dTst (dIsi "list" (dVar 5)))) (dTst (dBin neD (dVar 5) (dVar 8)))) (dRet (dC (.bl false))) dNext)
  (dSeq (dMS 5 (pVar 5) "list" clrM dNil)
  (dSeq (dFz [8] (dFor (dIt (dVar 8)) (gN 6) lb_law_1))
  (dSeq (dFz [8] (dFor (dIt (dVar 8)) (gN 6) lb_law_0))
  (dRet (dBin eqD (dMethL 14 1 sp_Book_names [] (dVar 4) bNil) (dVar 8))))))))))))) D env := rfl
def sp_law : SPD := spB 10 b_law
theorem e_sp_law (ds : List D) (Q : D → Sl → Prop) (E : EX → Sl → Prop) : sp_law ds Q E = b_law { nx := fun env => Q .non env, rt := Q, ex := E } (pad 10 ds) := rfl
section
variable {Pg : Program} {w : World} {K : PySem.W.Frag} {mg : Str → Option Value} {base : Heap}
theorem exc_NoRule (T : Tx w K mg) : ExC K mg (RT0 T) 2 "NoRule" "at" T.xi_NoRule := ⟨T.xT_NoRule, rfl, T.xc_NoRule, T.xt_NoRule, T.xn_NoRule, T.xm_NoRule⟩
theorem xsc_NoRule : FnScope xp_NoRule xp_NoRule (defScope xs_NoRule) := ⟨rfl, rfl, rfl, by decide +kernel, rfl, by decide +kernel, by decide +kernel⟩
theorem xi_NoRule (T : Tx w K mg) : FnOk Pg w K mg base (CXm false Pg w) 1 T.xi_NoRule T.xd_NoRule xp_NoRule (spXi T.xk_NoRule "at") := by
  refine okXm T.xF_NoRule xsc_NoRule (fun vs H Q E h => ?_) fun cdv A outer s H vs Q E hr h => ⟨_, pss_one (ps_ost (pv 0) (pv 1)), xi_read T.xT_NoRule T.xn_NoRule rfl h⟩
  obtain ⟨a, v, rfl, _⟩ := h
  rfl
theorem exc_Twice (T : Tx w K mg) : ExC K mg (RT0 T) 5 "Twice" "name" T.xi_Twice := ⟨T.xT_Twice, rfl, T.xc_Twice, T.xt_Twice, T.xn_Twice, T.xm_Twice⟩
theorem xsc_Twice : FnScope xp_Twice xp_Twice (defScope xs_Twice) := ⟨rfl, rfl, rfl, by decide +kernel, rfl, by decide +kernel, by decide +kernel⟩
theorem xi_Twice (T : Tx w K mg) : FnOk Pg w K mg base (CXm false Pg w) 1 T.xi_Twice T.xd_Twice xp_Twice (spXi T.xk_Twice "name") := by
  refine okXm T.xF_Twice xsc_Twice (fun vs H Q E h => ?_) fun cdv A outer s H vs Q E hr h => ⟨_, pss_one (ps_ost (pv 0) (pv 1)), xi_read T.xT_Twice T.xn_Twice rfl h⟩
  obtain ⟨a, v, rfl, _⟩ := h
  rfl
theorem exc_NoName (T : Tx w K mg) : ExC K mg (RT0 T) 7 "NoName" "name" T.xi_NoName := ⟨T.xT_NoName, rfl, T.xc_NoName, T.xt_NoName, T.xn_NoName, T.xm_NoName⟩
theorem xsc_NoName : FnScope xp_NoName xp_NoName (defScope xs_NoName) := ⟨rfl, rfl, rfl, by decide +kernel, rfl, by decide +kernel, by decide +kernel⟩
theorem xi_NoName (T : Tx w K mg) : FnOk Pg w K mg base (CXm false Pg w) 1 T.xi_NoName T.xd_NoName xp_NoName (spXi T.xk_NoName "name") := by
  refine okXm T.xF_NoName xsc_NoName (fun vs H Q E h => ?_) fun cdv A outer s H vs Q E hr h => ⟨_, pss_one (ps_ost (pv 0) (pv 1)), xi_read T.xT_NoName T.xn_NoName rfl h⟩
  obtain ⟨a, v, rfl, _⟩ := h
  rfl
theorem exc_Ring (T : Tx w K mg) : ExC K mg (RT0 T) 8 "Ring" "around" T.xi_Ring := ⟨T.xT_Ring, rfl, T.xc_Ring, T.xt_Ring, T.xn_Ring, T.xm_Ring⟩
theorem xsc_Ring : FnScope xp_Ring xp_Ring (defScope xs_Ring) := ⟨rfl, rfl, rfl, by decide +kernel, rfl, by decide +kernel, by decide +kernel⟩
theorem xi_Ring (T : Tx w K mg) : FnOk Pg w K mg base (CXm false Pg w) 1 T.xi_Ring T.xd_Ring xp_Ring (spXi T.xk_Ring "around") := by
  refine okXm T.xF_Ring xsc_Ring (fun vs H Q E h => ?_) fun cdv A outer s H vs Q E hr h => ⟨_, pss_one (ps_ost (pv 0) (pv 1)), xi_read T.xT_Ring T.xn_Ring rfl h⟩
  obtain ⟨a, v, rfl, _⟩ := h
  rfl
theorem xih_NoRule (T : Tx w K mg) (k : Nat) : L2H.FnH Pg w K mg base (CXm false Pg w) (k + 1) T.xi_NoRule T.xd_NoRule xp_NoRule (spXi T.xk_NoRule "at") := by
  obtain ⟨oc, od, kV, doc, pm, an, cdv, ct, osl, e, lk, hcd⟩ := T.xF_NoRule.ex
  rw [e] at lk ⊢
  refine L2H.fn_ofH lk hcd xsc_NoRule (fun vs H Q E h => ?_) fun A outer s H vs Q E p hot hr h => ⟨_, pss_one (ps_ost (pv 0) (pv 1)), xi_read T.xT_NoRule T.xn_NoRule rfl h⟩
  obtain ⟨a, v, rfl, _⟩ := h
  rfl
theorem exm_NoRule (T : Tx w K mg) : ∀ i b, ex_NoRule i = some b → PySem.W.exmOne K (.ref ((RT0 T).cls i)) (.ref ((RT0 T).cls 2)) = some b := by
  intro i b h
  unfold ex_NoRule at h
  split at h
  · cases h; exact T.xe_NoRule_NoRule
  · cases h; exact T.xe_NoRule_Twice
  · cases h; exact T.xe_NoRule_NoName
  · cases h; exact T.xe_NoRule_Ring
  · cases h
theorem clsf_Book (T : Tx w K mg) : ClsF K (RT0 T) 14 where
  cls := T.cls_Book
  no := fun j f h => match j, f, h with
    | 0, f, h => by cases h; exact T.na_Book_elders
    | 1, f, h => by cases h; exact T.na_Book_own
    | _ + 2, _, h => by cases h
  nd := by show (["elders", "own"] : List Str).Nodup; decide
  few := by show (["elders", "own"] : List Str).length < 1000; decide
theorem sc_is_sign : FnScope N_is_sign ps_is_sign (defScope st_is_sign) := ⟨rfl, rfl, rfl, by decide +kernel, rfl, by decide +kernel, by decide +kernel⟩
theorem ok_is_sign (T : Tx w K mg) : FnOk Pg w K mg base (CXm true Pg w) 2 T.a_is_sign T.fd_is_sign ps_is_sign (toSp K (RT0 T) [] 1 sp_is_sign) := by
  have S := sc_is_sign
  refine fn_d T.F_is_sign S rfl (by decide) fun cdv A outer s H E hr => ?_
  exact (dss_one (ds_ret (de_and (de_chain leD_ok leD_ok de_int (de_callB ordD_ok rfl T.n_ord (by decide +kernel) (db_cons (de_var 0) db_nil)) de_int) (de_one (de_cmp (neD_ok hr.units) (de_callB ordD_ok rfl T.n_ord (by decide +kernel) (db_cons (de_var 0) db_nil)) de_int)))))
theorem sc_is_piece : FnScope N_is_piece ps_is_piece (defScope st_is_piece) := ⟨rfl, rfl, rfl, by decide +kernel, rfl, by decide +kernel, by decide +kernel⟩
theorem ok_is_piece (T : Tx w K mg) : FnOk Pg w K mg base (CXm true Pg w) 3 T.a_is_piece T.fd_is_piece ps_is_piece (toSp K (RT0 T) [] 1 sp_is_piece) := by
  have S := sc_is_piece
  refine fn_d T.F_is_piece S rfl (by decide) fun cdv A outer s H E hr => ?_
  exact (dss_cons (ds_if (dt_w (dw_or (dt_not (dt_val (de_isi rfl T.n_isinstance rfl T.n_str (by decide +kernel) (de_var 0)))) (dw_or1 (dt_not (dt_chain leD_ok leD_ok de_int (de_callB lenD_ok rfl T.n_len (by decide +kernel) (db_cons (de_var 0) db_nil)) de_int))))) (dss_one (ds_ret de_bl)) dss_nil)
  (dss_one (ds_ret (de_callB (allD_ok rfl) rfl T.n_all (by decide +kernel) (db_cons (de_lc (n := 2) rfl S.nd [("sign", 1)] (blkOk_by (by show blkC N_is_piece (defScope st_is_piece) _ _ = true; decide +kernel)) (di_it (de_var 0)) (fun s H C cl fp => (dg_name 1 S.nd)) (fun s H C cl fp => dts_nil) (fun s H C cl fp => (de_call ((ok_is_sign T).mono (by decide)) hr T.g_is_sign T.F_is_sign.kp T.b_is_sign .nil (da_cons (de_var 1) da_nil)))) db_nil)))))
theorem sc_read_rule : FnScope N_read_rule ps_read_rule (defScope st_read_rule) := ⟨rfl, rfl, rfl, by decide +kernel, rfl, by decide +kernel, by decide +kernel⟩
theorem ok_read_rule (T : Tx w K mg) : FnOk Pg w K mg base (CXm true Pg w) 4 T.a_read_rule T.fd_read_rule ps_read_rule (toSp K (RT0 T) [] 1 sp_read_rule) := by
  have S := sc_read_rule
  refine fn_d T.F_read_rule S rfl (by decide) fun cdv A outer s H E hr => ?_
  exact (dss_cons (ds_if (dt_not (dt_val (de_isi rfl T.n_isinstance rfl T.n_str (by decide +kernel) (de_var 0)))) (dss_one (ds_raise (k := 2) (exc_NoRule T) ((xi_NoRule T).mono (by decide)) hr T.xb_NoRule rfl de_int)) dss_nil)
  (dss_cons (ds_asg (de_mV splitD_ok PySem.F.plainAttrs_str PySem.F.slot_str_split PySem.F.type_str_split (de_var 0) (db_cons (de_str (by rfl)) db_nil)) (dg_name 1 S.nd))
  (dss_cons (ds_if (dt_gno T.gd_LEAST T.gm_LEAST (de_ix (hu_of hr) (de_var 1) de_int)) (dss_one (ds_raise (k := 2) (exc_NoRule T) ((xi_NoRule T).mono (by decide)) hr T.xb_NoRule rfl de_int)) dss_nil)
  (dss_cons (ds_asg (de_gix T.gd_LEAST T.gm_LEAST (de_ix (hu_of hr) (de_var 1) de_int)) (dg_name 2 S.nd))
  (dss_cons (ds_asg (de_bin subD_ok (de_callB lenD_ok rfl T.n_len (by decide +kernel) (db_cons (de_var 1) db_nil)) de_int) (dg_name 3 S.nd))
  (dss_cons (ds_if (dt_w (dw_or (dt_cmp (ltD_ok hr.units0) (de_var 3) (de_var 2)) (dw_or1 (dt_w (dw_and (dt_cmp (eqD_ok hr.units) (de_var 2) de_int) (dw_and1 (dt_cmp gtD_ok (de_var 3) de_int))))))) (dss_one (ds_raise (k := 2) (exc_NoRule T) ((xi_NoRule T).mono (by decide)) hr T.xb_NoRule rfl de_int)) dss_nil)
  (dss_cons (ds_for (passes_of rfl) rfl (di_it (de_sl (de_var 1) (do_sm de_int) do_no)) (dg_name 4 S.nd) (dss_one (ds_if (dt_not (dt_val (de_call ((ok_is_piece T).mono (by decide)) hr T.g_is_piece T.F_is_piece.kp T.b_is_piece .nil (da_cons (de_var 4) da_nil)))) (dss_one (ds_raise (k := 2) (exc_NoRule T) ((xi_NoRule T).mono (by decide)) hr T.xb_NoRule rfl de_int)) dss_nil)))
  (dss_one (ds_ret (de_callTy tupleD_ok rfl T.n_tuple (by decide +kernel) (db_cons (de_var 1) db_nil)))))))))))
theorem sc_forgotten : FnScope N_forgotten ps_forgotten (defScope st_forgotten) := ⟨rfl, rfl, rfl, by decide +kernel, rfl, by decide +kernel, by decide +kernel⟩
theorem ok_forgotten (T : Tx w K mg) : FnOk Pg w K mg base (CXm false Pg w) 2 T.a_forgotten T.fd_forgotten ps_forgotten (toSp K (RT0 T) [] 1 sp_forgotten) := by
  have S := sc_forgotten
  refine fn_d T.F_forgotten S rfl (by decide) fun cdv A outer s H E hr => ?_
  exact (dss_cons (ds_asg de_dct0 (dg_name 1 S.nd))
  (dss_cons (ds_for (passes_of rfl) rfl (di_it (de_var 0)) (dg_name 2 S.nd) (dss_one (ds_if (dt_cmp (eqD_ok hr.units) (de_ix (hu_of hr) (de_var 2) de_int) (de_str (by rfl))) (dss_one (ds_for (passes_of rfl) rfl (di_it (de_sl (de_var 2) (do_sm de_int) do_no)) (dg_name 3 S.nd) (dss_one (ds_sub (hu_of hr) de_bl (dp_var 1) (de_var 3))))) dss_nil)))
  (dss_one (ds_retV 1))))
theorem sc_without : FnScope N_without ps_without (defScope st_without) := ⟨rfl, rfl, rfl, by decide +kernel, rfl, by decide +kernel, by decide +kernel⟩
theorem ok_without (T : Tx w K mg) : FnOk Pg w K mg base (CXm false Pg w) 2 T.a_without T.fd_without ps_without (toSp K (RT0 T) [] 2 sp_without) := by
  have S := sc_without
  refine fn_d T.F_without S rfl (by decide) fun cdv A outer s H E hr => ?_
  exact (dss_cons (ds_if (dt_w (dw_and (dt_cmp (eqD_ok hr.units) (de_ix (hu_of hr) (de_var 0) de_int) (de_str (by rfl))) (dw_and1 (dt_cmp (inD_in (hu_of hr)) (de_ix (hu_of hr) (de_var 0) de_int) (de_var 1))))) (dss_one (ds_ret de_non)) dss_nil)
  (dss_cons (ds_if (dt_cmp (inD_no (hu_of hr)) (de_ix (hu_of hr) (de_var 0) de_int) (de_lst (da_cons (de_str (by rfl)) (da_cons (de_str (by rfl)) (da_cons (de_str (by rfl)) (da_cons (de_str (by rfl)) da_nil)))))) (dss_one (ds_retV 0)) dss_nil)
  (dss_cons (ds_asg de_int (dg_name 2 S.nd))
  (dss_cons (ds_if (dt_cmp (eqD_ok hr.units) (de_ix (hu_of hr) (de_var 0) de_int) (de_str (by rfl))) (dss_one (ds_asg de_int (dg_name 2 S.nd))) dss_nil)
  (dss_cons (ds_setLc (n := 5) rfl S.nd [("piece", 4)] (blkOk_by (by show blkC N_without (defScope st_without) _ _ = true; decide +kernel)) (di_it (de_sl (de_var 0) (do_sm (de_var 2)) do_no)) (fun s H C cl fp => (dg_name 4 S.nd)) (fun s H C cl fp => (dts_one (dt_cmp (inD_no (hu_of hr)) (de_var 4) (de_var 1)))) (fun s H C cl fp => (de_var 4)) (sw_true rfl rfl rfl rfl))
  (dss_cons (ds_if (dt_cmp (eqD_ok hr.units) (de_var 3) (de_lst da_nil)) (dss_one (ds_ret de_non)) dss_nil)
  (dss_one (ds_ret (de_bin addD_ok (de_sl (de_var 0) do_no (do_sm (de_var 2))) (de_callTy tupleD_ok rfl T.n_tuple (by decide +kernel) (db_cons (de_var 3) db_nil)))))))))))
theorem sc_changed : FnScope N_changed ps_changed (defScope st_changed) := ⟨rfl, rfl, rfl, by decide +kernel, rfl, by decide +kernel, by decide +kernel⟩
theorem ok_changed (T : Tx w K mg) : FnOk Pg w K mg base (CXm false Pg w) 3 T.a_changed T.fd_changed ps_changed (toSp K (RT0 T) [] 2 sp_changed) := by
  have S := sc_changed
  refine fn_d T.F_changed S rfl (by decide) fun cdv A outer s H E hr => ?_
  exact (dss_cons (ds_asg (de_call ((ok_forgotten T).mono (by decide)) hr T.g_forgotten T.F_forgotten.kp T.b_forgotten .nil (da_cons (de_var 1) da_nil)) (dg_name 2 S.nd))
  (dss_cons (ds_asg (de_lst da_nil) (dg_name 3 S.nd))
  (dss_cons (ds_for (passes_of rfl) rfl (di_it (de_var 0)) (dg_name 4 S.nd) (dss_cons (ds_asg (de_callL ((ok_without T).mono (by decide)) hr T.g_without T.F_without.kp T.b_without .nil (db_cons (de_var 4) (db_cons (de_var 2) db_nil))) (dg_name 5 S.nd))
  (dss_one (ds_if (dt_w (dw_and (dt_cmp (neD_ok hr.units) (de_ix (hu_of hr) (de_var 4) de_int) (de_str (by rfl))) (dw_and1 (dt_cmp isNt_ok (de_var 5) de_non)))) (dss_one (ds_mS appM_ok PySem.F.plainAttrs_list PySem.F.slot_list_append PySem.F.type_list_append (dp_var 3) (da_cons (de_var 5) da_nil))) dss_nil))))
  (dss_cons (ds_for (passes_of rfl) rfl (di_it (de_var 1)) (dg_name 4 S.nd) (dss_one (ds_if (dt_cmp (neD_ok hr.units) (de_ix (hu_of hr) (de_var 4) de_int) (de_str (by rfl))) (dss_one (ds_mS appM_ok PySem.F.plainAttrs_list PySem.F.slot_list_append PySem.F.type_list_append (dp_var 3) (da_cons (de_var 4) da_nil))) dss_nil)))
  (dss_one (ds_retV 3))))))
theorem sc_is_name : FnScope N_is_name ps_is_name (defScope st_is_name) := ⟨rfl, rfl, rfl, by decide +kernel, rfl, by decide +kernel, by decide +kernel⟩
theorem ok_is_name (T : Tx w K mg) : FnOk Pg w K mg base (CXm false Pg w) 2 T.a_is_name T.fd_is_name ps_is_name (toSp K (RT0 T) [] 1 sp_is_name) := by
  have S := sc_is_name
  refine fn_d T.F_is_name S rfl (by decide) fun cdv A outer s H E hr => ?_
  exact (dss_cons (ds_if (dt_not (dt_chain leD_ok leD_ok de_int (de_callB lenD_ok rfl T.n_len (by decide +kernel) (db_cons (de_var 0) db_nil)) (de_gs T.c_MOST))) (dss_one (ds_ret de_bl)) dss_nil)
  (dss_one (ds_ret (de_callB (allD_ok rfl) rfl T.n_all (by decide +kernel) (db_cons (de_lc (n := 2) rfl S.nd [("sign", 1)] (blkOk_by (by show blkC N_is_name (defScope st_is_name) _ _ = true; decide +kernel)) (di_it (de_var 0)) (fun s H C cl fp => (dg_name 1 S.nd)) (fun s H C cl fp => dts_nil) (fun s H C cl fp => (de_cmp (inD_in (hu_of hr)) (de_var 1) (de_gs T.c_SMALL)))) db_nil)))))
theorem sc_begins_order : FnScope N_begins_order ps_begins_order (defScope st_begins_order) := ⟨rfl, rfl, rfl, by decide +kernel, rfl, by decide +kernel, by decide +kernel⟩
theorem ok_begins_order (T : Tx w K mg) : FnOk Pg w K mg base (CXm false Pg w) 3 T.a_begins_order T.fd_begins_order ps_begins_order (toSp K (RT0 T) [] 1 sp_begins_order) := by
  have S := sc_begins_order
  refine fn_d T.F_begins_order S rfl (by decide) fun cdv A outer s H E hr => ?_
  exact (dss_cons (ds_if (dt_w (dw_or (dt_cmp (neD_ok hr.units) (de_ix (hu_of hr) (de_var 0) de_int) (de_str (by rfl))) (dw_or1 (dt_cmp (inD_no (hu_of hr)) (de_callB lenD_ok rfl T.n_len (by decide +kernel) (db_cons (de_var 0) db_nil)) (de_lst (da_cons de_int (da_cons de_int da_nil))))))) (dss_one (ds_ret de_bl)) dss_nil)
  (dss_cons (ds_if (dt_w (dw_and (dt_cmp (eqD_ok hr.units) (de_callB lenD_ok rfl T.n_len (by decide +kernel) (db_cons (de_var 0) db_nil)) de_int) (dw_and1 (dt_w (dw_or (dt_cmp (neD_ok hr.units) (de_ix (hu_of hr) (de_var 0) de_int) (de_str (by rfl))) (dw_or1 (dt_not (dt_val (de_call ((ok_is_name T).mono (by decide)) hr T.g_is_name T.F_is_name.kp T.b_is_name .nil (da_cons (de_ix (hu_of hr) (de_var 0) de_int) da_nil)))))))))) (dss_one (ds_ret de_bl)) dss_nil)
  (dss_one (ds_ret (de_call ((ok_is_name T).mono (by decide)) hr T.g_is_name T.F_is_name.kp T.b_is_name .nil (da_cons (de_ix (hu_of hr) (de_var 0) de_int) da_nil))))))
theorem sc_read_at : FnScope N_read_at ps_read_at (defScope st_read_at) := ⟨rfl, rfl, rfl, by decide +kernel, rfl, by decide +kernel, by decide +kernel⟩
theorem ok_read_at (T : Tx w K mg) : FnOk Pg w K mg base (CXm false Pg w) 5 T.a_read_at T.fd_read_at ps_read_at (toSp K (RT0 T) [] 2 sp_read_at) := by
  have S := sc_read_at
  refine fn_d T.F_read_at S rfl (by decide) fun cdv A outer s H E hr => ?_
  exact (dss_one (ds_tryR (k := 3) (c1 := 2) rfl rfl (fun hd => L2H.passesAt_of rfl hd) rfl (by decide) T.xm_NoRule (exm_NoRule T) (fun pn xe po => (dss_one (ds_ret (de_call ((ok_read_rule T).mono (by decide)) hr T.g_read_rule T.F_read_rule.kp T.b_read_rule .nil (da_cons (de_var 0) da_nil))))) (exc_NoRule T) (xih_NoRule T 2) hr T.xb_NoRule (fun a pn => (de_var 1))))
theorem sc__law_cell_at : FnScope N__law_cell_at ps__law_cell_at (defScope st__law_cell_at) := ⟨rfl, rfl, rfl, by decide +kernel, rfl, by decide +kernel, by decide +kernel⟩
theorem ok__law_cell_at (T : Tx w K mg) : FnOk Pg w K mg base (CXm false Pg w) 2 T.a__law_cell_at T.fd__law_cell_at ps__law_cell_at (toSp K (RT0 T) [] 2 sp__law_cell_at) := by
  have S := sc__law_cell_at
  refine fn_d T.F__law_cell_at S rfl (by decide) fun cdv A outer s H E hr => ?_
  exact (dss_cons (ds_if (dt_cmp (ltD_ok hr.units0) (de_var 1) (de_callB lenD_ok rfl T.n_len (by decide +kernel) (db_cons (de_var 0) db_nil))) (dss_one (ds_ret (de_ix (hu_of hr) (de_var 0) (de_var 1)))) dss_nil)
  (dss_one (ds_ret de_int)))
theorem sc__law_pieces : FnScope N__law_pieces ps__law_pieces (defScope st__law_pieces) := ⟨rfl, rfl, rfl, by decide +kernel, rfl, by decide +kernel, by decide +kernel⟩
theorem ok__law_pieces (T : Tx w K mg) : FnOk Pg w K mg base (CXm false Pg w) 2 T.a__law_pieces T.fd__law_pieces ps__law_pieces (toSp K (RT0 T) [] 2 sp__law_pieces) := by
  have S := sc__law_pieces
  refine fn_d T.F__law_pieces S rfl (by decide) fun cdv A outer s H E hr => ?_
  exact (dss_cons (ds_asg (de_str (by decide +kernel)) (dg_name 2 S.nd))
  (dss_cons (ds_asg (de_bin addD_ok (de_var 2) (de_str (by rfl))) (dg_name 2 S.nd))
  (dss_cons (ds_asg (de_bin modD_ok (de_bin mulSD_ok (de_var 0) de_int) de_int) (dg_name 3 S.nd))
  (dss_cons (ds_asg (de_ix (hu_of hr) (de_lst (da_cons de_int (da_cons de_int (da_cons de_int (da_cons de_int (da_cons de_int (da_cons de_int (da_cons de_int (da_cons de_int da_nil))))))))) (de_bin modD_ok (de_var 3) de_int)) (dg_name 4 S.nd))
  (dss_cons (ds_asg (de_bin modD_ok (de_bin fdivD_ok (de_var 3) de_int) de_int) (dg_name 5 S.nd))
  (dss_cons (ds_asg (de_bin modD_ok (de_bin fdivD_ok (de_var 3) de_int) de_int) (dg_name 6 S.nd))
  (dss_cons (ds_asg (de_lst da_nil) (dg_name 7 S.nd))
  (dss_cons (ds_for (passes_of rfl) rfl (di_range1 rfl T.n_range (da_cons (de_var 1) da_nil)) (dg_name 8 S.nd) (dss_cons (ds_asg (de_bin modD_ok (de_bin addD_ok (de_var 5) (de_bin mulSD_ok (de_var 8) (de_var 4))) de_int) (dg_name 9 S.nd))
  (dss_one (ds_if (dt_w (dw_or (dt_cmp (eqD_ok hr.units) (de_var 6) de_int) (dw_or1 (dt_w (dw_and (dt_cmp (eqD_ok hr.units) (de_var 6) de_int) (dw_and1 (dt_cmp (eqD_ok hr.units) (de_bin modD_ok (de_var 8) de_int) de_int))))))) (dss_one (ds_mS appM_ok PySem.F.plainAttrs_list PySem.F.slot_list_append PySem.F.type_list_append (dp_var 7) (da_cons (de_ix (hu_of hr) (de_var 2) (de_bin modD_ok (de_var 9) de_int)) da_nil))) (dss_one (ds_mS appM_ok PySem.F.plainAttrs_list PySem.F.slot_list_append PySem.F.type_list_append (dp_var 7) (da_cons (de_bin addD_ok (de_ix (hu_of hr) (de_var 2) (de_bin fdivD_ok (de_var 9) de_int)) (de_ix (hu_of hr) (de_var 2) (de_bin modD_ok (de_var 9) de_int))) da_nil)))))))
  (dss_one (ds_retV 7))))))))))
theorem sc__law_names : FnScope N__law_names ps__law_names (defScope st__law_names) := ⟨rfl, rfl, rfl, by decide +kernel, rfl, by decide +kernel, by decide +kernel⟩
theorem ok__law_names (T : Tx w K mg) : FnOk Pg w K mg base (CXm false Pg w) 2 T.a__law_names T.fd__law_names ps__law_names (toSp K (RT0 T) [] 2 sp__law_names) := by
  have S := sc__law_names
  refine fn_d T.F__law_names S rfl (by decide) fun cdv A outer s H E hr => ?_
  exact (dss_cons (ds_asg (de_str (by rfl)) (dg_name 2 S.nd))
  (dss_cons (ds_asg (de_bin modD_ok (de_var 0) de_int) (dg_name 3 S.nd))
  (dss_cons (ds_asg (de_bin fdivD_ok (de_var 0) de_int) (dg_name 0 S.nd))
  (dss_cons (ds_asg (de_lst da_nil) (dg_name 4 S.nd))
  (dss_cons (ds_for (passes_of rfl) rfl (di_range1 rfl T.n_range (da_cons (de_var 1) da_nil)) (dg_name 5 S.nd) (dss_cons (ds_asg (de_bin modD_ok (de_bin addD_ok (de_var 0) (de_bin mulSD_ok de_int (de_var 5))) de_int) (dg_name 6 S.nd))
  (dss_one (ds_if (dt_w (dw_and (dt_cmp (eqD_ok hr.units) (de_var 3) de_int) (dw_and1 (dt_cmp leD_ok (de_var 1) de_int)))) (dss_one (ds_mS appM_ok PySem.F.plainAttrs_list PySem.F.slot_list_append PySem.F.type_list_append (dp_var 4) (da_cons (de_bin mulSD_ok (de_ix (hu_of hr) (de_var 2) (de_bin modD_ok (de_var 0) de_int)) (de_bin addD_ok (de_var 5) de_int)) da_nil))) (dss_one (ds_if (dt_w (dw_and (dt_cmp (eqD_ok hr.units) (de_var 3) de_int) (dw_and1 (dt_cmp leD_ok (de_var 1) de_int)))) (dss_one (ds_mS appM_ok PySem.F.plainAttrs_list PySem.F.slot_list_append PySem.F.type_list_append (dp_var 4) (da_cons (de_ix (hu_of hr) (de_var 2) (de_bin modD_ok (de_bin addD_ok (de_var 0) (de_bin mulSD_ok de_int (de_var 5))) de_int)) da_nil))) (dss_cons (ds_asg (de_bin mulSD_ok (de_ix (hu_of hr) (de_var 2) (de_bin modD_ok (de_bin fdivD_ok (de_var 0) de_int) de_int)) (de_bin modD_ok (de_bin fdivD_ok (de_var 0) de_int) de_int)) (dg_name 7 S.nd))
  (dss_cons (ds_asg (de_bin mulSD_ok (de_ix (hu_of hr) (de_var 2) (de_bin modD_ok (de_bin fdivD_ok (de_var 0) de_int) de_int)) (de_bin modD_ok (de_bin fdivD_ok (de_var 0) de_int) de_int)) (dg_name 8 S.nd))
  (dss_cons (ds_asg (de_bin addD_ok (de_ix (hu_of hr) (de_var 2) (de_bin fdivD_ok (de_var 6) de_int)) (de_ix (hu_of hr) (de_var 2) (de_bin modD_ok (de_var 6) de_int))) (dg_name 9 S.nd))
  (dss_one (ds_mS appM_ok PySem.F.plainAttrs_list PySem.F.slot_list_append PySem.F.type_list_append (dp_var 4) (da_cons (de_bin addD_ok (de_bin addD_ok (de_var 7) (de_var 9)) (de_var 8)) da_nil))))))))))))
  (dss_one (ds_retV 4)))))))
theorem sc__law_rule : FnScope N__law_rule ps__law_rule (defScope st__law_rule) := ⟨rfl, rfl, rfl, by decide +kernel, rfl, by decide +kernel, by decide +kernel⟩
theorem ok__law_rule (T : Tx w K mg) : FnOk Pg w K mg base (CXm false Pg w) 2 T.a__law_rule T.fd__law_rule ps__law_rule (toSp K (RT0 T) [] 2 sp__law_rule) := by
  have S := sc__law_rule
  refine fn_d T.F__law_rule S rfl (by decide) fun cdv A outer s H E hr => ?_
  exact (dss_cons (ds_asg (de_lst (da_cons (de_str (by rfl)) (da_cons (de_str (by rfl)) (da_cons (de_str (by rfl)) (da_cons (de_str (by rfl)) (da_cons (de_str (by rfl)) (da_cons (de_str (by rfl)) (da_cons (de_str (by rfl)) (da_cons (de_str (by rfl)) (da_cons (de_str (by rfl)) da_nil)))))))))) (dg_name 2 S.nd))
  (dss_cons (ds_asg (de_bin modD_ok (de_bin mulSD_ok (de_var 0) de_int) de_int) (dg_name 3 S.nd))
  (dss_cons (ds_asg (de_bin modD_ok (de_var 3) de_int) (dg_name 4 S.nd))
  (dss_cons (ds_if (dt_cmp gtD_ok (de_var 4) de_int) (dss_one (ds_ret (de_tup (da_cons (de_ix (hu_of hr) (de_var 2) (de_var 4)) da_nil)))) dss_nil)
  (dss_cons (ds_asg (de_bin fdivD_ok (de_var 3) de_int) (dg_name 3 S.nd))
  (dss_cons (ds_asg (de_bin addD_ok de_int (de_bin modD_ok (de_var 3) de_int)) (dg_name 5 S.nd))
  (dss_cons (ds_if (dt_w (dw_and (dt_cmp (neD_ok hr.units) (de_var 4) de_int) (dw_and1 (dt_cmp (neD_ok hr.units) (de_var 4) de_int)))) (dss_one (ds_asg (de_bin subD_ok (de_var 5) de_int) (dg_name 5 S.nd))) dss_nil)
  (dss_cons (ds_asg (de_bin fdivD_ok (de_var 3) de_int) (dg_name 3 S.nd))
  (dss_cons (ds_asg (de_lst da_nil) (dg_name 6 S.nd))
  (dss_cons (ds_for (passes_of rfl) rfl (di_range1 rfl T.n_range (da_cons (de_var 5) da_nil)) (dg_name 7 S.nd) (dss_cons (ds_mS appM_ok PySem.F.plainAttrs_list PySem.F.slot_list_append PySem.F.type_list_append (dp_var 6) (da_cons (de_ix (hu_of hr) (de_var 1) (de_bin modD_ok (de_var 3) (de_callB lenD_ok rfl T.n_len (by decide +kernel) (db_cons (de_var 1) db_nil)))) da_nil))
  (dss_one (ds_asg (de_bin fdivD_ok (de_var 3) (de_callB lenD_ok rfl T.n_len (by decide +kernel) (db_cons (de_var 1) db_nil))) (dg_name 3 S.nd)))))
  (dss_one (ds_ret (de_bin addD_ok (de_tup (da_cons (de_ix (hu_of hr) (de_var 2) (de_var 4)) da_nil)) (de_callTy tupleD_ok rfl T.n_tuple (by decide +kernel) (db_cons (de_var 6) db_nil)))))))))))))))
theorem sc__law_lines : FnScope N__law_lines ps__law_lines (defScope st__law_lines) := ⟨rfl, rfl, rfl, by decide +kernel, rfl, by decide +kernel, by decide +kernel⟩
theorem ok__law_lines (T : Tx w K mg) : FnOk Pg w K mg base (CXm false Pg w) 3 T.a__law_lines T.fd__law_lines ps__law_lines (toSp K (RT0 T) [] 3 sp__law_lines) := by
  have S := sc__law_lines
  refine fn_d T.F__law_lines S rfl (by decide) fun cdv A outer s H E hr => ?_
  exact (dss_cons (ds_asg (de_lst da_nil) (dg_name 3 S.nd))
  (dss_cons (ds_asg de_dct0 (dg_name 4 S.nd))
  (dss_cons (ds_asg (de_lst da_nil) (dg_name 5 S.nd))
  (dss_cons (ds_for (passes_of rfl) rfl (di_it (de_sl (de_var 0) (do_sm de_int) (do_sm de_int))) (dg_name 6 S.nd) (dss_cons (ds_asg (de_bin modD_ok (de_bin mulSD_ok (de_var 6) de_int) de_int) (dg_name 7 S.nd))
  (dss_one (ds_if (dt_w (dw_or (dt_cmp (eqD_ok hr.units) (de_var 3) (de_lst da_nil)) (dw_or1 (dt_w (dw_and (dt_cmp (eqD_ok hr.units) (de_bin modD_ok (de_var 7) de_int) de_int) (dw_and1 (dt_cmp (ltD_ok hr.units0) (de_callB lenD_ok rfl T.n_len (by decide +kernel) (db_cons (de_var 5) db_nil)) de_int))))))) (dss_cons (ds_asg (de_ix (hu_of hr) (de_var 1) (de_callB lenD_ok rfl T.n_len (by decide +kernel) (db_cons (de_var 5) db_nil))) (dg_name 8 S.nd))
  (dss_cons (ds_mS appM_ok PySem.F.plainAttrs_list PySem.F.slot_list_append PySem.F.type_list_append (dp_var 5) (da_cons (de_var 8) da_nil))
  (dss_one (ds_if (dt_cmp (eqD_ok hr.units) (de_bin modD_ok (de_bin fdivD_ok (de_var 7) de_int) de_int) de_int) (dss_one (ds_mS appM_ok PySem.F.plainAttrs_list PySem.F.slot_list_append PySem.F.type_list_append (dp_var 3) (da_cons (de_bin addD_ok (de_bin addD_ok (de_bin addD_ok (de_str (by rfl)) (de_var 8)) (de_str (by rfl))) (de_ix (hu_of hr) (de_var 1) (de_bin modD_ok (de_bin fdivD_ok (de_var 7) de_int) de_int))) da_nil))) (dss_cons (ds_mS appM_ok PySem.F.plainAttrs_list PySem.F.slot_list_append PySem.F.type_list_append (dp_var 3) (da_cons (de_bin addD_ok (de_str (by rfl)) (de_var 8)) da_nil))
  (dss_one (ds_sub (hu_of hr) (de_lst da_nil) (dp_var 4) (de_var 8)))))))) (dss_cons (ds_asg (de_call ((ok__law_rule T).mono (by decide)) hr T.g__law_rule T.F__law_rule.kp T.b__law_rule .nil (da_cons (de_bin fdivD_ok (de_var 6) de_int) (da_cons (de_var 2) da_nil))) (dg_name 9 S.nd))
  (dss_cons (ds_mS appM_ok PySem.F.plainAttrs_list PySem.F.slot_list_append PySem.F.type_list_append (dp_var 3) (da_cons (de_mV joinD_ok PySem.F.plainAttrs_str PySem.F.slot_str_join PySem.F.type_str_join (de_str (by rfl)) (db_cons (de_var 9) db_nil)) da_nil))
  (dss_one (ds_if (dt_w (dw_and (dt_cmp (inD_in (hu_of hr)) (de_ix (hu_of hr) (de_var 5) (de_neg de_int)) (de_var 4)) (dw_and1 (dt_cmp (neD_ok hr.units) (de_ix (hu_of hr) (de_var 9) de_int) (de_str (by rfl)))))) (dss_one (ds_mS appM_ok PySem.F.plainAttrs_list PySem.F.slot_list_append PySem.F.type_list_append (dp_ix (hu_of hr) (dp_var 4) (de_ix (hu_of hr) (de_var 5) (de_neg de_int))) (da_cons (de_var 9) da_nil))) dss_nil))))))))
  (dss_one (ds_retT (dm_consV 3 (dm_consV 5 (dm_consV 4 dm_nil)))))))))
theorem sc_Book_begin : FnScope N_Book_begin ps_Book_begin (defScope st_Book_begin) := ⟨rfl, rfl, rfl, by decide +kernel, rfl, by decide +kernel, by decide +kernel⟩
theorem ok_Book_begin (T : Tx w K mg) : FnOk Pg w K mg base (CXm false Pg w) 4 T.a_Book_begin T.fd_Book_begin ps_Book_begin (toSp K (RT0 T) [0] 3 sp_Book_begin) := by
  have S := sc_Book_begin
  refine fn_d T.F_Book_begin S rfl (by decide) fun cdv A outer s H E hr => ?_
  exact (dss_cons (ds_if (dt_cmp (inD_in (hu_of hr)) (de_var 1) (de_fld (clsf_Book T) rfl (de_var 0))) (dss_one (ds_raise (k := 2) (exc_Twice T) ((xi_Twice T).mono (by decide)) hr T.xb_Twice rfl (de_var 1))) dss_nil)
  (dss_cons (ds_sub (hu_of hr) (de_lst da_nil) (dp_fl (clsf_Book T) rfl (dp_var 0)) (de_var 1))
  (dss_cons (ds_sub (hu_of hr) de_non (dp_fl (clsf_Book T) rfl (dp_var 0)) (de_var 1))
  (dss_one (ds_if (dt_cmp (neD_ok hr.units) (de_var 2) (de_lst da_nil)) (dss_one (ds_sub (hu_of hr) (de_ix (hu_of hr) (de_var 2) de_int) (dp_fl (clsf_Book T) rfl (dp_var 0)) (de_var 1))) dss_nil)))))
theorem sc_Book_init : FnScope N_Book_init ps_Book_init (defScope st_Book_init) := ⟨rfl, rfl, rfl, by decide +kernel, rfl, by decide +kernel, by decide +kernel⟩
theorem ok_Book_init (T : Tx w K mg) : FnOk Pg w K mg base (CXm false Pg w) 6 T.a_Book_init T.fd_Book_init ps_Book_init (toSp K (RT0 T) [0] 2 sp_Book_init) := by
  have S := sc_Book_init
  refine fn_d T.F_Book_init S rfl (by decide) fun cdv A outer s H E hr => ?_
  exact (dss_cons (ds_sfl (clsf_Book T) rfl de_dct0 (dp_var 0))
  (dss_cons (ds_sfl (clsf_Book T) rfl de_dct0 (dp_var 0))
  (dss_cons (ds_asg (de_lst da_nil) (dg_name 2 S.nd))
  (dss_cons (ds_if (dt_cmp (neD_ok hr.units) (de_var 1) (de_str (by rfl))) (dss_one (ds_asg (de_mV splitD_ok PySem.F.plainAttrs_str PySem.F.slot_str_split PySem.F.type_str_split (de_var 1) (db_cons (de_str (by rfl)) db_nil)) (dg_name 2 S.nd))) dss_nil)
  (dss_cons (ds_asg de_non (dg_name 3 S.nd))
  (dss_one (ds_fz [2] (ds_for (passes_of rfl) rfl (di_enum rfl T.n_enumerate (de_var 2)) (dg_tup rfl (dgs_cons (dg_name 4 S.nd) (dgs_cons (dg_name 5 S.nd) dgs_nil))) (dss_cons (ds_asg (de_mV splitD_ok PySem.F.plainAttrs_str PySem.F.slot_str_split PySem.F.type_str_split (de_var 5) (db_cons (de_str (by rfl)) db_nil)) (dg_name 6 S.nd))
  (dss_one (ds_if (dt_val (de_callL ((ok_begins_order T).mono (by decide)) hr T.g_begins_order T.F_begins_order.kp T.b_begins_order .nil (db_cons (de_var 6) db_nil))) (dss_cons (ds_asg (de_ix (hu_of hr) (de_var 6) de_int) (dg_name 3 S.nd))
  (dss_one (ds_methS T.cls_Book T.meth_Book_begin (by show ("begin" : Str) ∉ (["elders", "own"] : List Str); decide) ((ok_Book_begin T).mono (by decide)) hr T.b_Book_begin .nil (dp_var 0) (da_cons (de_var 3) (da_cons (de_sl (de_var 6) (do_sm de_int) do_no) da_nil))))) (dss_one (ds_if (dt_cmp isNo_ok (de_var 3) de_non) (dss_one (ds_raise (k := 4) (exc_NoRule T) ((xi_NoRule T).mono (by decide)) hr T.xb_NoRule rfl (de_var 4))) (dss_one (ds_mS appM_ok PySem.F.plainAttrs_list PySem.F.slot_list_append PySem.F.type_list_append (dp_ix (hu_of hr) (dp_fl (clsf_Book T) rfl (dp_var 0)) (de_var 3)) (da_cons (de_call ((ok_read_at T).mono (by decide)) hr T.g_read_at T.F_read_at.kp T.b_read_at .nil (da_cons (de_var 5) (da_cons (de_var 4) da_nil))) da_nil))))))))))))))))
theorem sc_Book_names : FnScope N_Book_names ps_Book_names (defScope st_Book_names) := ⟨rfl, rfl, rfl, by decide +kernel, rfl, by decide +kernel, by decide +kernel⟩
theorem ok_Book_names (T : Tx w K mg) : FnOk Pg w K mg base (CXm false Pg w) 2 T.a_Book_names T.fd_Book_names ps_Book_names (toSp K (RT0 T) [] 1 sp_Book_names) := by
  have S := sc_Book_names
  refine fn_d T.F_Book_names S rfl (by decide) fun cdv A outer s H E hr => ?_
  exact (dss_one (ds_ret (de_callTy (listD_ok rfl) rfl T.n_list (by decide +kernel) (db_cons (de_fld (clsf_Book T) rfl (de_var 0)) db_nil))))
theorem sc_Book_line_of : FnScope N_Book_line_of ps_Book_line_of (defScope st_Book_line_of) := ⟨rfl, rfl, rfl, by decide +kernel, rfl, by decide +kernel, by decide +kernel⟩
theorem ok_Book_line_of (T : Tx w K mg) : FnOk Pg w K mg base (CXm false Pg w) 4 T.a_Book_line_of T.fd_Book_line_of ps_Book_line_of (toSp K (RT0 T) [] 2 sp_Book_line_of) := by
  have S := sc_Book_line_of
  refine fn_d T.F_Book_line_of S rfl (by decide) fun cdv A outer s H E hr => ?_
  exact (dss_cons (ds_asg (de_lst da_nil) (dg_name 2 S.nd))
  (dss_cons (ds_while (passes_of rfl) (dt_cmp isNt_ok (de_var 1) de_non) (dss_cons (ds_if (dt_cmp (inD_in (hu_of hr)) (de_var 1) (de_var 2)) (dss_one (ds_raise (k := 2) (exc_Ring T) ((xi_Ring T).mono (by decide)) hr T.xb_Ring rfl (de_sl (de_var 2) (do_sm (de_mV idxD_ok PySem.F.plainAttrs_list PySem.F.slot_list_index PySem.F.type_list_index (de_var 2) (db_cons (de_var 1) db_nil))) do_no))) dss_nil)
  (dss_cons (ds_if (dt_cmp (inD_no (hu_of hr)) (de_var 1) (de_fld (clsf_Book T) rfl (de_var 0))) (dss_one (ds_raise (k := 2) (exc_NoName T) ((xi_NoName T).mono (by decide)) hr T.xb_NoName rfl (de_var 1))) dss_nil)
  (dss_cons (ds_mS appM_ok PySem.F.plainAttrs_list PySem.F.slot_list_append PySem.F.type_list_append (dp_var 2) (da_cons (de_var 1) da_nil))
  (dss_one (ds_asg (de_ix (hu_of hr) (de_fld (clsf_Book T) rfl (de_var 0)) (de_var 1)) (dg_name 1 S.nd)))))))
  (dss_one (ds_retV 2))))
theorem sc_Book_rules_of : FnScope N_Book_rules_of ps_Book_rules_of (defScope st_Book_rules_of) := ⟨rfl, rfl, rfl, by decide +kernel, rfl, by decide +kernel, by decide +kernel⟩
theorem ok_Book_rules_of (T : Tx w K mg) : FnOk Pg w K mg base (CXm false Pg w) 5 T.a_Book_rules_of T.fd_Book_rules_of ps_Book_rules_of (toSp K (RT0 T) [] 2 sp_Book_rules_of) := by
  have S := sc_Book_rules_of
  refine fn_d T.F_Book_rules_of S rfl (by decide) fun cdv A outer s H E hr => ?_
  exact (dss_cons (ds_asg (de_lst da_nil) (dg_name 2 S.nd))
  (dss_cons (ds_for (passes_of rfl) rfl (di_rev rfl T.n_reversed (de_methA T.cls_Book T.meth_Book_line_of (by show ("line_of" : Str) ∉ (["elders", "own"] : List Str); decide) ((ok_Book_line_of T).mono (by decide)) hr T.b_Book_line_of .nil (de_var 0) (da_cons (de_var 1) da_nil))) (dg_name 3 S.nd) (dss_one (ds_asg (de_callL ((ok_changed T).mono (by decide)) hr T.g_changed T.F_changed.kp T.b_changed .nil (db_cons (de_var 2) (db_cons (de_ix (hu_of hr) (de_fld (clsf_Book T) rfl (de_var 0)) (de_var 3)) db_nil))) (dg_name 2 S.nd))))
  (dss_one (ds_retV 2))))
theorem sc_law : FnScope N_law ps_law (defScope st_law) := ⟨rfl, rfl, rfl, by decide +kernel, rfl, by decide +kernel, by decide +kernel⟩
theorem ok_law (T : Tx w K mg) : FnOk Pg w K mg base (CXm false Pg w) 8 T.a_law T.fd_law ps_law (toSp K (RT0 T) [] 1 sp_law) := by
  have S := sc_law
  refine fn_d T.F_law S rfl (by decide) fun cdv A outer s H E hr => ?_
  exact (dss_cons (ds_asg (de_call ((ok__law_cell_at T).mono (by decide)) hr T.g__law_cell_at T.F__law_cell_at.kp T.b__law_cell_at .nil (da_cons (de_var 0) (da_cons de_int da_nil))) (dg_name 1 S.nd))
  (dss_cons (ds_asg (de_call ((ok__law_pieces T).mono (by decide)) hr T.g__law_pieces T.F__law_pieces.kp T.b__law_pieces .nil (da_cons (de_var 1) (da_cons (de_bin addD_ok de_int (de_bin modD_ok (de_var 1) de_int)) da_nil))) (dg_name 2 S.nd))
  (dss_cons (ds_asg (de_call ((ok__law_names T).mono (by decide)) hr T.g__law_names T.F__law_names.kp T.b__law_names .nil (da_cons (de_bin modD_ok (de_bin mulSD_ok (de_call ((ok__law_cell_at T).mono (by decide)) hr T.g__law_cell_at T.F__law_cell_at.kp T.b__law_cell_at .nil (da_cons (de_var 0) (da_cons de_int da_nil))) de_int) de_int) (da_cons de_int da_nil))) (dg_name 3 S.nd))
  (dss_cons (ds_asg (de_callL ((ok__law_lines T).mono (by decide)) hr T.g__law_lines T.F__law_lines.kp T.b__law_lines .nil (db_cons (de_var 0) (db_cons (de_var 3) (db_cons (de_var 2) db_nil)))) (dg_tup rfl (dgs_cons (dg_name 7 S.nd) (dgs_cons (dg_name 8 S.nd) (dgs_cons (dg_name 9 S.nd) dgs_nil)))))
  (dss_cons (ds_asg (de_make (k := 6) T.mk_Book ((ok_Book_init T).mono (by decide)) hr T.gm_Book T.b_Book_init .nil (da_cons (de_mV joinD_ok PySem.F.plainAttrs_str PySem.F.slot_str_join PySem.F.type_str_join (de_str (by rfl)) (db_cons (de_var 7) db_nil)) da_nil)) (dg_name 4 S.nd))
  (dss_cons (ds_asg (de_methL0 T.cls_Book T.meth_Book_names (by show ("names" : Str) ∉ (["elders", "own"] : List Str); decide) ((ok_Book_names T).mono (by decide)) hr T.b_Book_names .nil (de_var 4) ) (dg_name 5 S.nd))
  (dss_cons (ds_if (dt_w (dw_or (dt_not (dt_val (de_isi rfl T.n_isinstance rfl T.n_list (by decide +kernel) (de_var 5)))) (dw_or1 (dt_cmp (neD_ok hr.units) (de_var 5) (de_var 8))))) (dss_one (ds_ret de_bl)) dss_nil)
  (dss_cons (ds_mS0 clrM_ok PySem.F.plainAttrs_list PySem.F.slot_list_clear PySem.F.type_list_clear (dp_var 5))
  (dss_cons (ds_fz [8] (ds_for (passes_of rfl) rfl (di_it (de_var 8)) (dg_name 6 S.nd) (dss_one (ds_if (dt_cmp (inD_in (hu_of hr)) (de_var 6) (de_var 9)) (dss_cons (ds_asg (de_methL T.cls_Book T.meth_Book_rules_of (by show ("rules_of" : Str) ∉ (["elders", "own"] : List Str); decide) ((ok_Book_rules_of T).mono (by decide)) hr T.b_Book_rules_of .nil (de_var 4) (db_cons (de_var 6) db_nil)) (dg_name 10 S.nd))
  (dss_cons (ds_if (dt_w (dw_or (dt_not (dt_val (de_isi rfl T.n_isinstance rfl T.n_list (by decide +kernel) (de_var 10)))) (dw_or1 (dt_cmp (neD_ok hr.units) (de_var 10) (de_ix (hu_of hr) (de_var 9) (de_var 6)))))) (dss_one (ds_ret de_bl)) dss_nil)
  (dss_cons (ds_mS0 revM_ok PySem.F.plainAttrs_list PySem.F.slot_list_reverse PySem.F.type_list_reverse (dp_var 10))
  (dss_one (ds_mS appM_ok PySem.F.plainAttrs_list PySem.F.slot_list_append PySem.F.type_list_append (dp_var 10) (da_cons (de_tup (da_cons (de_str (by rfl)) (da_cons (de_str (by rfl)) da_nil))) da_nil)))))) dss_nil))))
  (dss_cons (ds_fz [8] (ds_for (passes_of rfl) rfl (di_it (de_var 8)) (dg_name 6 S.nd) (dss_one (ds_if (dt_w (dw_and (dt_cmp (inD_in (hu_of hr)) (de_var 6) (de_var 9)) (dw_and1 (dt_cmp (neD_ok hr.units) (de_methL T.cls_Book T.meth_Book_rules_of (by show ("rules_of" : Str) ∉ (["elders", "own"] : List Str); decide) ((ok_Book_rules_of T).mono (by decide)) hr T.b_Book_rules_of .nil (de_var 4) (db_cons (de_var 6) db_nil)) (de_ix (hu_of hr) (de_var 9) (de_var 6)))))) (dss_one (ds_ret de_bl)) dss_nil))))
  (dss_one (ds_ret (de_cmp (eqD_ok hr.units) (de_methL0 T.cls_Book T.meth_Book_names (by show ("names" : Str) ∉ (["elders", "own"] : List Str); decide) ((ok_Book_names T).mono (by decide)) hr T.b_Book_names .nil (de_var 4) ) (de_var 8))))))))))))))
end
end LW

set_option Elab.async false
set_option linter.all false
set_option maxRecDepth 100000
set_option maxHeartbeats 2000000
namespace LW
open L2 DL
/-! ## signs, pieces, names -/
theorem dec_int {i j : Nat} : decide (((i : Nat) : Int) = ((j : Nat) : Int)) = decide (i = j) := decide_eq_decide.mpr (by omega)
def isSign (c : Nat) : Bool := decide (33 ≤ c) && decide (c ≤ 126) && decide (c ≠ 37)
theorem is_sign_d {c : Nat} {Q : D → Sl → Prop} {E : EX → Sl → Prop} (q : ∀ env, Q (.bl (isSign c)) env) : sp_is_sign [.str [c]] Q E := by
  rw [e_sp_is_sign, e_b_is_sign]
  have d1 : decide ((33 : Int) ≤ ((c : Nat) : Int)) = decide (33 ≤ c) := decide_eq_decide.mpr (by omega)
  have d2 : decide (((c : Nat) : Int) ≤ (126 : Int)) = decide (c ≤ 126) := decide_eq_decide.mpr (by omega)
  have d3 : decide (((c : Nat) : Int) = (37 : Int)) = decide (c = 37) := decide_eq_decide.mpr (by omega)
  simp only [pad, dNext, dSeq, dAsg, dFor, dEnum, dIt, dWhile, dIfS, dMS, dMA, dMN, dSub, dSfl, dRet, dRetV, dRetN, dRetT, dDrop, dBreak, dCont, dFz, fzS, dConsV, dCons, dNil, bCons, bNil, dVar, dC, dBin, dIx, dNeg, dCB, dMV, dTst, dAndT, dOrT, dNotT, dAnd, dOr, dNot, dIf, dLst, dLC, dLc, lcD, dYes, wipeD, dTup, dDct0, dLRev, dIsi, dSl, oNo, oSm, dCall, dCallL, gN, gTu, gsCons, gsNil, dRg1, dRg2, dRev, dZip, pVar, pIx, atP, getP, setP, unsetL, List.map_cons, List.map_nil, List.replicate_succ, List.replicate_zero, List.cons_append, List.nil_append, List.set_cons_zero, List.set_cons_succ, List.getElem?_cons_zero, List.getElem?_cons_succ, List.length_cons, List.length_nil, o_lt, o_ltS, o_gt, o_le, o_ge, o_add, o_addS, o_addL, o_addT, o_sub, o_mul, o_fdiv, o_mod, o_pow, o_eq, o_eqN, o_ne, o_neN, o_isB, o_isI, o_len, o_lenC, o_lenT, o_lenD, o_lenS, o_ix, o_ixC, o_ixT, o_ixS, o_ixDs, o_ixDi, o_put, o_inD, o_inDi, o_inL, o_inT, o_inS, o_idx, o_list, o_listC, o_listT, o_listD, o_tuple, o_tupleT, o_intI, o_intB, o_ord, o_str, o_max, o_min, o_isNo, o_tyL, o_tyT, o_tyD, o_tyS, o_tyI, o_sl, o_slC, o_slS, o_slT, cutG_map, o_lsD, o_lsC, o_it, o_itC, o_itT, o_itS, o_app, o_ext, o_ins, o_pop, o_rev, o_clr, o_pos, o_posS, Option.bind_some, Option.map_some, List.length_map, if_true, Bool.not_false, Bool.not_true, Bool.false_bne, Bool.true_bne,  safe_sc, safe_lstF, safe_scr, safe_tup, safe_f, true_and, and_true, Option.some.injEq, exists_eq_left', exists_eq_left, decide_true, decide_false, Bool.false_eq_true, Bool.true_eq_false, reduceIte, Nat.zero_add, fz_lst, fz_dct, fz_ins, fz_sc, fz_lstF, fz_scr, Nat.zero_le, Nat.reduceLeDiff, Nat.reduceAdd, Nat.reduceLT, Int.reduceLT, Int.reduceLE, and_self, frz_lst, frz_dct, frz_dctF, frzL_ints, frzL_strs, frz_lstF, frz_scr, frz_tup, frz_sc, frzL_nil, frzL_cons, frzL_str, frzL_int, fzL_nil, fzL_cons, fzL_str, fzL_int, noC_sc, noC_lst, noC_tup, noC_dct, noCL_nil, noCL_cons, noCL_str, noCL_str2, noCL_int, Bool.and_self, Bool.and_true, Bool.true_and, List.append_nil, true_or, or_true, flat_str, flat_int, any_str, o_isiT, o_isiL, o_isiS, o_isiI, atI_0, atI_1, atI_2, atI_3, eqv_lst, eqv_tup, eqvL_nil, eqvL_cons, eqvL_str, eqv_str, eqS_int, ixN20, ixN21, fz_tup, Bool.false_and, Bool.and_false, o_posT, Int.cast_ofNat_Int, eq_self, dChain, dGin, dGix, o_gIn, o_gIx, o_mulI, o_mulS, dMake, dMethA, dMethL, dMethS, gDrop, slot0, o_insD, dRaise, dTryR, exM, dFld, pFl, dSfl, o_sflK, o_sflN, o_split, o_join, o_joinT, o_all, d1, d2, d3]
  have e : isSign c = (if decide (33 ≤ c) = true then if decide (c ≤ 126) = true then !decide (c = 37) else false else false) := by
    unfold isSign
    by_cases h1 : 33 ≤ c <;> by_cases h2 : c ≤ 126 <;> by_cases h3 : c = 37 <;> simp [h1, h2, h3]
  rw [e] at q
  split
  · rename_i h1
    split
    · rename_i h2
      simp only [h1, h2, if_true] at q
      exact q _
    · rename_i h2
      simp only [h1, h2, if_true, Bool.false_eq_true, if_false] at q
      exact q _
  · rename_i h1
    simp only [h1, Bool.false_eq_true, if_false] at q
    exact q _
def isPiece (t : Txt) : Bool := decide (1 ≤ t.length) && decide (t.length ≤ 2) && t.all isSign
theorem is_piece_d {t : Txt} (ht : t.length ≤ 1000) {Q : D → Sl → Prop} {E : EX → Sl → Prop} (q : ∀ env, Q (.bl (isPiece t)) env) : sp_is_piece [.str t] Q E := by
  rw [e_sp_is_piece, e_b_is_piece]
  have d1 : decide ((1 : Int) ≤ ((t.length : Nat) : Int)) = decide (1 ≤ t.length) := decide_eq_decide.mpr (by omega)
  have d2 : decide (((t.length : Nat) : Int) ≤ (2 : Int)) = decide (t.length ≤ 2) := decide_eq_decide.mpr (by omega)
  have l1 : t.length ≤ 16777216 := by omega
  unfold isPiece at q
  simp only [pad, dNext, dSeq, dAsg, dFor, dEnum, dIt, dWhile, dIfS, dMS, dMA, dMN, dSub, dSfl, dRet, dRetV, dRetN, dRetT, dDrop, dBreak, dCont, dFz, fzS, dConsV, dCons, dNil, bCons, bNil, dVar, dC, dBin, dIx, dNeg, dCB, dMV, dTst, dAndT, dOrT, dNotT, dAnd, dOr, dNot, dIf, dLst, dLC, dLc, lcD, dYes, wipeD, dTup, dDct0, dLRev, dIsi, dSl, oNo, oSm, dCall, dCallL, gN, gTu, gsCons, gsNil, dRg1, dRg2, dRev, dZip, pVar, pIx, atP, getP, setP, unsetL, List.map_cons, List.map_nil, List.replicate_succ, List.replicate_zero, List.cons_append, List.nil_append, List.set_cons_zero, List.set_cons_succ, List.getElem?_cons_zero, List.getElem?_cons_succ, List.length_cons, List.length_nil, o_lt, o_ltS, o_gt, o_le, o_ge, o_add, o_addS, o_addL, o_addT, o_sub, o_mul, o_fdiv, o_mod, o_pow, o_eq, o_eqN, o_ne, o_neN, o_isB, o_isI, o_len, o_lenC, o_lenT, o_lenD, o_lenS, o_ix, o_ixC, o_ixT, o_ixS, o_ixDs, o_ixDi, o_put, o_inD, o_inDi, o_inL, o_inT, o_inS, o_idx, o_list, o_listC, o_listT, o_listD, o_tuple, o_tupleT, o_intI, o_intB, o_ord, o_str, o_max, o_min, o_isNo, o_tyL, o_tyT, o_tyD, o_tyS, o_tyI, o_sl, o_slC, o_slS, o_slT, cutG_map, o_lsD, o_lsC, o_it, o_itC, o_itT, o_itS, o_app, o_ext, o_ins, o_pop, o_rev, o_clr, o_pos, o_posS, Option.bind_some, Option.map_some, List.length_map, if_true, Bool.not_false, Bool.not_true, Bool.false_bne, Bool.true_bne,  safe_sc, safe_lstF, safe_scr, safe_tup, safe_f, true_and, and_true, Option.some.injEq, exists_eq_left', exists_eq_left, decide_true, decide_false, Bool.false_eq_true, Bool.true_eq_false, reduceIte, Nat.zero_add, fz_lst, fz_dct, fz_ins, fz_sc, fz_lstF, fz_scr, Nat.zero_le, Nat.reduceLeDiff, Nat.reduceAdd, Nat.reduceLT, Int.reduceLT, Int.reduceLE, and_self, frz_lst, frz_dct, frz_dctF, frzL_ints, frzL_strs, frz_lstF, frz_scr, frz_tup, frz_sc, frzL_nil, frzL_cons, frzL_str, frzL_int, fzL_nil, fzL_cons, fzL_str, fzL_int, noC_sc, noC_lst, noC_tup, noC_dct, noCL_nil, noCL_cons, noCL_str, noCL_str2, noCL_int, Bool.and_self, Bool.and_true, Bool.true_and, List.append_nil, true_or, or_true, flat_str, flat_int, any_str, o_isiT, o_isiL, o_isiS, o_isiI, atI_0, atI_1, atI_2, atI_3, eqv_lst, eqv_tup, eqvL_nil, eqvL_cons, eqvL_str, eqv_str, eqS_int, ixN20, ixN21, fz_tup, Bool.false_and, Bool.and_false, o_posT, Int.cast_ofNat_Int, eq_self, dChain, dGin, dGix, o_gIn, o_gIx, o_mulI, o_mulS, dMake, dMethA, dMethL, dMethS, gDrop, slot0, o_insD, dRaise, dTryR, exM, dFld, pFl, dSfl, o_sflK, o_sflN, o_split, o_join, o_joinT, o_all, d1, d2, l1]
  split
  · rename_i h1
    split
    · rename_i h2
      rw [h1, show decide (t.length ≤ 2) = false by simpa using h2] at q
      exact q _
    · rename_i h2
      rw [h1, show decide (t.length ≤ 2) = true by simpa using h2] at q
      refine lcD_map (f := fun c => D.str [c]) (r := fun c => D.bl (isSign c)) (by simp) t [] (fun c _ Qd hq => ?_) (by simp; omega) ?_
      · simp only [pad, dNext, dSeq, dAsg, dFor, dEnum, dIt, dWhile, dIfS, dMS, dMA, dMN, dSub, dSfl, dRet, dRetV, dRetN, dRetT, dDrop, dBreak, dCont, dFz, fzS, dConsV, dCons, dNil, bCons, bNil, dVar, dC, dBin, dIx, dNeg, dCB, dMV, dTst, dAndT, dOrT, dNotT, dAnd, dOr, dNot, dIf, dLst, dLC, dLc, lcD, dYes, wipeD, dTup, dDct0, dLRev, dIsi, dSl, oNo, oSm, dCall, dCallL, gN, gTu, gsCons, gsNil, dRg1, dRg2, dRev, dZip, pVar, pIx, atP, getP, setP, unsetL, List.map_cons, List.map_nil, List.replicate_succ, List.replicate_zero, List.cons_append, List.nil_append, List.set_cons_zero, List.set_cons_succ, List.getElem?_cons_zero, List.getElem?_cons_succ, List.length_cons, List.length_nil, o_lt, o_ltS, o_gt, o_le, o_ge, o_add, o_addS, o_addL, o_addT, o_sub, o_mul, o_fdiv, o_mod, o_pow, o_eq, o_eqN, o_ne, o_neN, o_isB, o_isI, o_len, o_lenC, o_lenT, o_lenD, o_lenS, o_ix, o_ixC, o_ixT, o_ixS, o_ixDs, o_ixDi, o_put, o_inD, o_inDi, o_inL, o_inT, o_inS, o_idx, o_list, o_listC, o_listT, o_listD, o_tuple, o_tupleT, o_intI, o_intB, o_ord, o_str, o_max, o_min, o_isNo, o_tyL, o_tyT, o_tyD, o_tyS, o_tyI, o_sl, o_slC, o_slS, o_slT, cutG_map, o_lsD, o_lsC, o_it, o_itC, o_itT, o_itS, o_app, o_ext, o_ins, o_pop, o_rev, o_clr, o_pos, o_posS, Option.bind_some, Option.map_some, List.length_map, if_true, Bool.not_false, Bool.not_true, Bool.false_bne, Bool.true_bne,  safe_sc, safe_lstF, safe_scr, safe_tup, safe_f, true_and, and_true, Option.some.injEq, exists_eq_left', exists_eq_left, decide_true, decide_false, Bool.false_eq_true, Bool.true_eq_false, reduceIte, Nat.zero_add, fz_lst, fz_dct, fz_ins, fz_sc, fz_lstF, fz_scr, Nat.zero_le, Nat.reduceLeDiff, Nat.reduceAdd, Nat.reduceLT, Int.reduceLT, Int.reduceLE, and_self, frz_lst, frz_dct, frz_dctF, frzL_ints, frzL_strs, frz_lstF, frz_scr, frz_tup, frz_sc, frzL_nil, frzL_cons, frzL_str, frzL_int, fzL_nil, fzL_cons, fzL_str, fzL_int, noC_sc, noC_lst, noC_tup, noC_dct, noCL_nil, noCL_cons, noCL_str, noCL_str2, noCL_int, Bool.and_self, Bool.and_true, Bool.true_and, List.append_nil, true_or, or_true, flat_str, flat_int, any_str, o_isiT, o_isiL, o_isiS, o_isiI, atI_0, atI_1, atI_2, atI_3, eqv_lst, eqv_tup, eqvL_nil, eqvL_cons, eqvL_str, eqv_str, eqS_int, ixN20, ixN21, fz_tup, Bool.false_and, Bool.and_false, o_posT, Int.cast_ofNat_Int, eq_self, dChain, dGin, dGix, o_gIn, o_gIx, o_mulI, o_mulS, dMake, dMethA, dMethL, dMethS, gDrop, slot0, o_insD, dRaise, dTryR, exM, dFld, pFl, dSfl, o_sflK, o_sflN, o_split, o_join, o_joinT, o_all]
        exact is_sign_d fun env => hq
      · rw [List.nil_append, show t.map (fun c => D.bl (isSign c)) = (t.map isSign).map D.bl by rw [List.map_map]; rfl]
        simp only [pad, dNext, dSeq, dAsg, dFor, dEnum, dIt, dWhile, dIfS, dMS, dMA, dMN, dSub, dSfl, dRet, dRetV, dRetN, dRetT, dDrop, dBreak, dCont, dFz, fzS, dConsV, dCons, dNil, bCons, bNil, dVar, dC, dBin, dIx, dNeg, dCB, dMV, dTst, dAndT, dOrT, dNotT, dAnd, dOr, dNot, dIf, dLst, dLC, dLc, lcD, dYes, wipeD, dTup, dDct0, dLRev, dIsi, dSl, oNo, oSm, dCall, dCallL, gN, gTu, gsCons, gsNil, dRg1, dRg2, dRev, dZip, pVar, pIx, atP, getP, setP, unsetL, List.map_cons, List.map_nil, List.replicate_succ, List.replicate_zero, List.cons_append, List.nil_append, List.set_cons_zero, List.set_cons_succ, List.getElem?_cons_zero, List.getElem?_cons_succ, List.length_cons, List.length_nil, o_lt, o_ltS, o_gt, o_le, o_ge, o_add, o_addS, o_addL, o_addT, o_sub, o_mul, o_fdiv, o_mod, o_pow, o_eq, o_eqN, o_ne, o_neN, o_isB, o_isI, o_len, o_lenC, o_lenT, o_lenD, o_lenS, o_ix, o_ixC, o_ixT, o_ixS, o_ixDs, o_ixDi, o_put, o_inD, o_inDi, o_inL, o_inT, o_inS, o_idx, o_list, o_listC, o_listT, o_listD, o_tuple, o_tupleT, o_intI, o_intB, o_ord, o_str, o_max, o_min, o_isNo, o_tyL, o_tyT, o_tyD, o_tyS, o_tyI, o_sl, o_slC, o_slS, o_slT, cutG_map, o_lsD, o_lsC, o_it, o_itC, o_itT, o_itS, o_app, o_ext, o_ins, o_pop, o_rev, o_clr, o_pos, o_posS, Option.bind_some, Option.map_some, List.length_map, if_true, Bool.not_false, Bool.not_true, Bool.false_bne, Bool.true_bne,  safe_sc, safe_lstF, safe_scr, safe_tup, safe_f, true_and, and_true, Option.some.injEq, exists_eq_left', exists_eq_left, decide_true, decide_false, Bool.false_eq_true, Bool.true_eq_false, reduceIte, Nat.zero_add, fz_lst, fz_dct, fz_ins, fz_sc, fz_lstF, fz_scr, Nat.zero_le, Nat.reduceLeDiff, Nat.reduceAdd, Nat.reduceLT, Int.reduceLT, Int.reduceLE, and_self, frz_lst, frz_dct, frz_dctF, frzL_ints, frzL_strs, frz_lstF, frz_scr, frz_tup, frz_sc, frzL_nil, frzL_cons, frzL_str, frzL_int, fzL_nil, fzL_cons, fzL_str, fzL_int, noC_sc, noC_lst, noC_tup, noC_dct, noCL_nil, noCL_cons, noCL_str, noCL_str2, noCL_int, Bool.and_self, Bool.and_true, Bool.true_and, List.append_nil, true_or, or_true, flat_str, flat_int, any_str, o_isiT, o_isiL, o_isiS, o_isiI, atI_0, atI_1, atI_2, atI_3, eqv_lst, eqv_tup, eqvL_nil, eqvL_cons, eqvL_str, eqv_str, eqS_int, ixN20, ixN21, fz_tup, Bool.false_and, Bool.and_false, o_posT, Int.cast_ofNat_Int, eq_self, dChain, dGin, dGix, o_gIn, o_gIx, o_mulI, o_mulS, dMake, dMethA, dMethL, dMethS, gDrop, slot0, o_insD, dRaise, dTryR, exM, dFld, pFl, dSfl, o_sflK, o_sflN, o_split, o_join, o_joinT, o_all, all_map]
        exact q _
  · rename_i h1
    rw [show decide (1 ≤ t.length) = false by simpa using h1] at q
    exact q _
def small : Txt := [97, 98, 99, 100, 101, 102, 103, 104, 105, 106, 107, 108, 109, 110, 111, 112, 113, 114, 115, 116, 117, 118, 119, 120, 121, 122]
def isName (t : Txt) : Bool := decide (1 ≤ t.length) && decide (t.length ≤ 8) && t.all fun c => decide (c ∈ small)
theorem is_name_d {t : Txt} (ht : t.length ≤ 1000) {Q : D → Sl → Prop} {E : EX → Sl → Prop} (q : ∀ env, Q (.bl (isName t)) env) : sp_is_name [.str t] Q E := by
  rw [e_sp_is_name, e_b_is_name]
  have d1 : decide ((1 : Int) ≤ ((t.length : Nat) : Int)) = decide (1 ≤ t.length) := decide_eq_decide.mpr (by omega)
  have d2 : decide (((t.length : Nat) : Int) ≤ (8 : Int)) = decide (t.length ≤ 8) := decide_eq_decide.mpr (by omega)
  have l1 : t.length ≤ 16777216 := by omega
  unfold isName at q
  simp only [pad, dNext, dSeq, dAsg, dFor, dEnum, dIt, dWhile, dIfS, dMS, dMA, dMN, dSub, dSfl, dRet, dRetV, dRetN, dRetT, dDrop, dBreak, dCont, dFz, fzS, dConsV, dCons, dNil, bCons, bNil, dVar, dC, dBin, dIx, dNeg, dCB, dMV, dTst, dAndT, dOrT, dNotT, dAnd, dOr, dNot, dIf, dLst, dLC, dLc, lcD, dYes, wipeD, dTup, dDct0, dLRev, dIsi, dSl, oNo, oSm, dCall, dCallL, gN, gTu, gsCons, gsNil, dRg1, dRg2, dRev, dZip, pVar, pIx, atP, getP, setP, unsetL, List.map_cons, List.map_nil, List.replicate_succ, List.replicate_zero, List.cons_append, List.nil_append, List.set_cons_zero, List.set_cons_succ, List.getElem?_cons_zero, List.getElem?_cons_succ, List.length_cons, List.length_nil, o_lt, o_ltS, o_gt, o_le, o_ge, o_add, o_addS, o_addL, o_addT, o_sub, o_mul, o_fdiv, o_mod, o_pow, o_eq, o_eqN, o_ne, o_neN, o_isB, o_isI, o_len, o_lenC, o_lenT, o_lenD, o_lenS, o_ix, o_ixC, o_ixT, o_ixS, o_ixDs, o_ixDi, o_put, o_inD, o_inDi, o_inL, o_inT, o_inS, o_idx, o_list, o_listC, o_listT, o_listD, o_tuple, o_tupleT, o_intI, o_intB, o_ord, o_str, o_max, o_min, o_isNo, o_tyL, o_tyT, o_tyD, o_tyS, o_tyI, o_sl, o_slC, o_slS, o_slT, cutG_map, o_lsD, o_lsC, o_it, o_itC, o_itT, o_itS, o_app, o_ext, o_ins, o_pop, o_rev, o_clr, o_pos, o_posS, Option.bind_some, Option.map_some, List.length_map, if_true, Bool.not_false, Bool.not_true, Bool.false_bne, Bool.true_bne,  safe_sc, safe_lstF, safe_scr, safe_tup, safe_f, true_and, and_true, Option.some.injEq, exists_eq_left', exists_eq_left, decide_true, decide_false, Bool.false_eq_true, Bool.true_eq_false, reduceIte, Nat.zero_add, fz_lst, fz_dct, fz_ins, fz_sc, fz_lstF, fz_scr, Nat.zero_le, Nat.reduceLeDiff, Nat.reduceAdd, Nat.reduceLT, Int.reduceLT, Int.reduceLE, and_self, frz_lst, frz_dct, frz_dctF, frzL_ints, frzL_strs, frz_lstF, frz_scr, frz_tup, frz_sc, frzL_nil, frzL_cons, frzL_str, frzL_int, fzL_nil, fzL_cons, fzL_str, fzL_int, noC_sc, noC_lst, noC_tup, noC_dct, noCL_nil, noCL_cons, noCL_str, noCL_str2, noCL_int, Bool.and_self, Bool.and_true, Bool.true_and, List.append_nil, true_or, or_true, flat_str, flat_int, any_str, o_isiT, o_isiL, o_isiS, o_isiI, atI_0, atI_1, atI_2, atI_3, eqv_lst, eqv_tup, eqvL_nil, eqvL_cons, eqvL_str, eqv_str, eqS_int, ixN20, ixN21, fz_tup, Bool.false_and, Bool.and_false, o_posT, Int.cast_ofNat_Int, eq_self, dChain, dGin, dGix, o_gIn, o_gIx, o_mulI, o_mulS, dMake, dMethA, dMethL, dMethS, gDrop, slot0, o_insD, dRaise, dTryR, exM, dFld, pFl, dSfl, o_sflK, o_sflN, o_split, o_join, o_joinT, o_all, d1, d2, l1]
  split
  · rename_i h1
    split
    · rename_i h2
      rw [h1, show decide (t.length ≤ 8) = false by simpa using h2] at q
      exact q _
    · rename_i h2
      rw [h1, show decide (t.length ≤ 8) = true by simpa using h2] at q
      refine lcD_map (f := fun c => D.str [c]) (r := fun c => D.bl (decide (c ∈ small))) (by simp) t [] (fun c _ Qd hq => ?_) (by simp; omega) ?_
      · simp only [pad, dNext, dSeq, dAsg, dFor, dEnum, dIt, dWhile, dIfS, dMS, dMA, dMN, dSub, dSfl, dRet, dRetV, dRetN, dRetT, dDrop, dBreak, dCont, dFz, fzS, dConsV, dCons, dNil, bCons, bNil, dVar, dC, dBin, dIx, dNeg, dCB, dMV, dTst, dAndT, dOrT, dNotT, dAnd, dOr, dNot, dIf, dLst, dLC, dLc, lcD, dYes, wipeD, dTup, dDct0, dLRev, dIsi, dSl, oNo, oSm, dCall, dCallL, gN, gTu, gsCons, gsNil, dRg1, dRg2, dRev, dZip, pVar, pIx, atP, getP, setP, unsetL, List.map_cons, List.map_nil, List.replicate_succ, List.replicate_zero, List.cons_append, List.nil_append, List.set_cons_zero, List.set_cons_succ, List.getElem?_cons_zero, List.getElem?_cons_succ, List.length_cons, List.length_nil, o_lt, o_ltS, o_gt, o_le, o_ge, o_add, o_addS, o_addL, o_addT, o_sub, o_mul, o_fdiv, o_mod, o_pow, o_eq, o_eqN, o_ne, o_neN, o_isB, o_isI, o_len, o_lenC, o_lenT, o_lenD, o_lenS, o_ix, o_ixC, o_ixT, o_ixS, o_ixDs, o_ixDi, o_put, o_inD, o_inDi, o_inL, o_inT, o_inS, o_idx, o_list, o_listC, o_listT, o_listD, o_tuple, o_tupleT, o_intI, o_intB, o_ord, o_str, o_max, o_min, o_isNo, o_tyL, o_tyT, o_tyD, o_tyS, o_tyI, o_sl, o_slC, o_slS, o_slT, cutG_map, o_lsD, o_lsC, o_it, o_itC, o_itT, o_itS, o_app, o_ext, o_ins, o_pop, o_rev, o_clr, o_pos, o_posS, Option.bind_some, Option.map_some, List.length_map, if_true, Bool.not_false, Bool.not_true, Bool.false_bne, Bool.true_bne,  safe_sc, safe_lstF, safe_scr, safe_tup, safe_f, true_and, and_true, Option.some.injEq, exists_eq_left', exists_eq_left, decide_true, decide_false, Bool.false_eq_true, Bool.true_eq_false, reduceIte, Nat.zero_add, fz_lst, fz_dct, fz_ins, fz_sc, fz_lstF, fz_scr, Nat.zero_le, Nat.reduceLeDiff, Nat.reduceAdd, Nat.reduceLT, Int.reduceLT, Int.reduceLE, and_self, frz_lst, frz_dct, frz_dctF, frzL_ints, frzL_strs, frz_lstF, frz_scr, frz_tup, frz_sc, frzL_nil, frzL_cons, frzL_str, frzL_int, fzL_nil, fzL_cons, fzL_str, fzL_int, noC_sc, noC_lst, noC_tup, noC_dct, noCL_nil, noCL_cons, noCL_str, noCL_str2, noCL_int, Bool.and_self, Bool.and_true, Bool.true_and, List.append_nil, true_or, or_true, flat_str, flat_int, any_str, o_isiT, o_isiL, o_isiS, o_isiI, atI_0, atI_1, atI_2, atI_3, eqv_lst, eqv_tup, eqvL_nil, eqvL_cons, eqvL_str, eqv_str, eqS_int, ixN20, ixN21, fz_tup, Bool.false_and, Bool.and_false, o_posT, Int.cast_ofNat_Int, eq_self, dChain, dGin, dGix, o_gIn, o_gIx, o_mulI, o_mulS, dMake, dMethA, dMethL, dMethS, gDrop, slot0, o_insD, dRaise, dTryR, exM, dFld, pFl, dSfl, o_sflK, o_sflN, o_split, o_join, o_joinT, o_all]
        exact hq
      · rw [List.nil_append, show t.map (fun c => D.bl (decide (c ∈ small))) = (t.map fun c => decide (c ∈ small)).map D.bl by rw [List.map_map]; rfl]
        simp only [pad, dNext, dSeq, dAsg, dFor, dEnum, dIt, dWhile, dIfS, dMS, dMA, dMN, dSub, dSfl, dRet, dRetV, dRetN, dRetT, dDrop, dBreak, dCont, dFz, fzS, dConsV, dCons, dNil, bCons, bNil, dVar, dC, dBin, dIx, dNeg, dCB, dMV, dTst, dAndT, dOrT, dNotT, dAnd, dOr, dNot, dIf, dLst, dLC, dLc, lcD, dYes, wipeD, dTup, dDct0, dLRev, dIsi, dSl, oNo, oSm, dCall, dCallL, gN, gTu, gsCons, gsNil, dRg1, dRg2, dRev, dZip, pVar, pIx, atP, getP, setP, unsetL, List.map_cons, List.map_nil, List.replicate_succ, List.replicate_zero, List.cons_append, List.nil_append, List.set_cons_zero, List.set_cons_succ, List.getElem?_cons_zero, List.getElem?_cons_succ, List.length_cons, List.length_nil, o_lt, o_ltS, o_gt, o_le, o_ge, o_add, o_addS, o_addL, o_addT, o_sub, o_mul, o_fdiv, o_mod, o_pow, o_eq, o_eqN, o_ne, o_neN, o_isB, o_isI, o_len, o_lenC, o_lenT, o_lenD, o_lenS, o_ix, o_ixC, o_ixT, o_ixS, o_ixDs, o_ixDi, o_put, o_inD, o_inDi, o_inL, o_inT, o_inS, o_idx, o_list, o_listC, o_listT, o_listD, o_tuple, o_tupleT, o_intI, o_intB, o_ord, o_str, o_max, o_min, o_isNo, o_tyL, o_tyT, o_tyD, o_tyS, o_tyI, o_sl, o_slC, o_slS, o_slT, cutG_map, o_lsD, o_lsC, o_it, o_itC, o_itT, o_itS, o_app, o_ext, o_ins, o_pop, o_rev, o_clr, o_pos, o_posS, Option.bind_some, Option.map_some, List.length_map, if_true, Bool.not_false, Bool.not_true, Bool.false_bne, Bool.true_bne,  safe_sc, safe_lstF, safe_scr, safe_tup, safe_f, true_and, and_true, Option.some.injEq, exists_eq_left', exists_eq_left, decide_true, decide_false, Bool.false_eq_true, Bool.true_eq_false, reduceIte, Nat.zero_add, fz_lst, fz_dct, fz_ins, fz_sc, fz_lstF, fz_scr, Nat.zero_le, Nat.reduceLeDiff, Nat.reduceAdd, Nat.reduceLT, Int.reduceLT, Int.reduceLE, and_self, frz_lst, frz_dct, frz_dctF, frzL_ints, frzL_strs, frz_lstF, frz_scr, frz_tup, frz_sc, frzL_nil, frzL_cons, frzL_str, frzL_int, fzL_nil, fzL_cons, fzL_str, fzL_int, noC_sc, noC_lst, noC_tup, noC_dct, noCL_nil, noCL_cons, noCL_str, noCL_str2, noCL_int, Bool.and_self, Bool.and_true, Bool.true_and, List.append_nil, true_or, or_true, flat_str, flat_int, any_str, o_isiT, o_isiL, o_isiS, o_isiI, atI_0, atI_1, atI_2, atI_3, eqv_lst, eqv_tup, eqvL_nil, eqvL_cons, eqvL_str, eqv_str, eqS_int, ixN20, ixN21, fz_tup, Bool.false_and, Bool.and_false, o_posT, Int.cast_ofNat_Int, eq_self, dChain, dGin, dGix, o_gIn, o_gIx, o_mulI, o_mulS, dMake, dMethA, dMethL, dMethS, gDrop, slot0, o_insD, dRaise, dTryR, exM, dFld, pFl, dSfl, o_sflK, o_sflN, o_split, o_join, o_joinT, o_all, all_map]
        exact q _
  · rename_i h1
    rw [show decide (1 ≤ t.length) = false by simpa using h1] at q
    exact q _
end LW

set_option Elab.async false
set_option linter.all false
set_option maxRecDepth 100000
set_option maxHeartbeats 2000000
namespace LW
open L2 DL
def wOrder : Txt := [111, 114, 100, 101, 114]
def wOf : Txt := [111, 102]
theorem eqS_str {a b : Txt} : eqS (.str a) (.str b) = decide (a = b) := by by_cases h : a = b <;> simp [eqS, h]
theorem begins_no {w : Txt} {r : List Txt} (h : w ≠ wOrder) {Q : D → Sl → Prop} {E : EX → Sl → Prop} (q : ∀ env, Q (.bl false) env) : sp_begins_order [.nd (.lst false) ((w :: r).map D.str)] Q E := by
  rw [e_sp_begins_order, e_b_begins_order]
  have h1 : (!decide (w = [111, 114, 100, 101, 114])) = true := by
    have : ¬ w = [111, 114, 100, 101, 114] := h
    simp [this]
  simp only [pad, dNext, dSeq, dAsg, dFor, dEnum, dIt, dWhile, dIfS, dMS, dMA, dMN, dSub, dSfl, dRet, dRetV, dRetN, dRetT, dDrop, dBreak, dCont, dFz, fzS, dConsV, dCons, dNil, bCons, bNil, dVar, dC, dBin, dIx, dNeg, dCB, dMV, dTst, dAndT, dOrT, dNotT, dAnd, dOr, dNot, dIf, dLst, dLC, dLc, lcD, dYes, wipeD, dTup, dDct0, dLRev, dIsi, dSl, oNo, oSm, dCall, dCallL, gN, gTu, gsCons, gsNil, dRg1, dRg2, dRev, dZip, pVar, pIx, atP, getP, setP, unsetL, List.map_cons, List.map_nil, List.replicate_succ, List.replicate_zero, List.cons_append, List.nil_append, List.set_cons_zero, List.set_cons_succ, List.getElem?_cons_zero, List.getElem?_cons_succ, List.length_cons, List.length_nil, o_lt, o_ltS, o_gt, o_le, o_ge, o_add, o_addS, o_addL, o_addT, o_sub, o_mul, o_fdiv, o_mod, o_pow, o_eq, o_eqN, o_ne, o_neN, o_isB, o_isI, o_len, o_lenC, o_lenT, o_lenD, o_lenS, o_ix, o_ixC, o_ixT, o_ixS, o_ixDs, o_ixDi, o_put, o_inD, o_inDi, o_inL, o_inT, o_inS, o_idx, o_list, o_listC, o_listT, o_listD, o_tuple, o_tupleT, o_intI, o_intB, o_ord, o_str, o_max, o_min, o_isNo, o_tyL, o_tyT, o_tyD, o_tyS, o_tyI, o_sl, o_slC, o_slS, o_slT, cutG_map, o_lsD, o_lsC, o_it, o_itC, o_itT, o_itS, o_app, o_ext, o_ins, o_pop, o_rev, o_clr, o_pos, o_posS, Option.bind_some, Option.map_some, List.length_map, if_true, Bool.not_false, Bool.not_true, Bool.false_bne, Bool.true_bne,  safe_sc, safe_lstF, safe_scr, safe_tup, safe_f, true_and, and_true, Option.some.injEq, exists_eq_left', exists_eq_left, decide_true, decide_false, Bool.false_eq_true, Bool.true_eq_false, reduceIte, Nat.zero_add, fz_lst, fz_dct, fz_ins, fz_sc, fz_lstF, fz_scr, Nat.zero_le, Nat.reduceLeDiff, Nat.reduceAdd, Nat.reduceLT, Int.reduceLT, Int.reduceLE, and_self, frz_lst, frz_dct, frz_dctF, frzL_ints, frzL_strs, frz_lstF, frz_scr, frz_tup, frz_sc, frzL_nil, frzL_cons, frzL_str, frzL_int, fzL_nil, fzL_cons, fzL_str, fzL_int, noC_sc, noC_lst, noC_tup, noC_dct, noCL_nil, noCL_cons, noCL_str, noCL_str2, noCL_int, Bool.and_self, Bool.and_true, Bool.true_and, List.append_nil, true_or, or_true, flat_str, flat_int, any_str, o_isiT, o_isiL, o_isiS, o_isiI, atI_0, atI_1, atI_2, atI_3, eqv_lst, eqv_tup, eqvL_nil, eqvL_cons, eqvL_str, eqv_str, eqS_int, ixN20, ixN21, fz_tup, Bool.false_and, Bool.and_false, o_posT, Int.cast_ofNat_Int, eq_self, dChain, dGin, dGix, o_gIn, o_gIx, o_mulI, o_mulS, dMake, dMethA, dMethL, dMethS, gDrop, slot0, o_insD, dRaise, dTryR, exM, dFld, pFl, dSfl, o_sflK, o_sflN, o_split, o_join, o_joinT, o_all, eqS_str, h1]
  exact q _
theorem begins_two {nm : Txt} (h : isName nm = true) (hl : nm.length ≤ 1000) {Q : D → Sl → Prop} {E : EX → Sl → Prop} (q : ∀ env, Q (.bl true) env) : sp_begins_order [.nd (.lst false) [.str wOrder, .str nm]] Q E := by
  rw [e_sp_begins_order, e_b_begins_order]
  have h1 : (!decide (wOrder = [111, 114, 100, 101, 114])) = false := by decide
  have h2 : ([D.sc (.int 2), D.sc (.int 4)].all flatD) = true := by decide
  have h3 : ([D.sc (.int 2), D.sc (.int 4)].any fun d => eqv d (D.sc (.int 2))) = true := by simp [eqv, eqS]
  have h4 : decide ((2 : Int) = 4) = false := by decide
  simp only [pad, dNext, dSeq, dAsg, dFor, dEnum, dIt, dWhile, dIfS, dMS, dMA, dMN, dSub, dSfl, dRet, dRetV, dRetN, dRetT, dDrop, dBreak, dCont, dFz, fzS, dConsV, dCons, dNil, bCons, bNil, dVar, dC, dBin, dIx, dNeg, dCB, dMV, dTst, dAndT, dOrT, dNotT, dAnd, dOr, dNot, dIf, dLst, dLC, dLc, lcD, dYes, wipeD, dTup, dDct0, dLRev, dIsi, dSl, oNo, oSm, dCall, dCallL, gN, gTu, gsCons, gsNil, dRg1, dRg2, dRev, dZip, pVar, pIx, atP, getP, setP, unsetL, List.map_cons, List.map_nil, List.replicate_succ, List.replicate_zero, List.cons_append, List.nil_append, List.set_cons_zero, List.set_cons_succ, List.getElem?_cons_zero, List.getElem?_cons_succ, List.length_cons, List.length_nil, o_lt, o_ltS, o_gt, o_le, o_ge, o_add, o_addS, o_addL, o_addT, o_sub, o_mul, o_fdiv, o_mod, o_pow, o_eq, o_eqN, o_ne, o_neN, o_isB, o_isI, o_len, o_lenC, o_lenT, o_lenD, o_lenS, o_ix, o_ixC, o_ixT, o_ixS, o_ixDs, o_ixDi, o_put, o_inD, o_inDi, o_inL, o_inT, o_inS, o_idx, o_list, o_listC, o_listT, o_listD, o_tuple, o_tupleT, o_intI, o_intB, o_ord, o_str, o_max, o_min, o_isNo, o_tyL, o_tyT, o_tyD, o_tyS, o_tyI, o_sl, o_slC, o_slS, o_slT, cutG_map, o_lsD, o_lsC, o_it, o_itC, o_itT, o_itS, o_app, o_ext, o_ins, o_pop, o_rev, o_clr, o_pos, o_posS, Option.bind_some, Option.map_some, List.length_map, if_true, Bool.not_false, Bool.not_true, Bool.false_bne, Bool.true_bne,  safe_sc, safe_lstF, safe_scr, safe_tup, safe_f, true_and, and_true, Option.some.injEq, exists_eq_left', exists_eq_left, decide_true, decide_false, Bool.false_eq_true, Bool.true_eq_false, reduceIte, Nat.zero_add, fz_lst, fz_dct, fz_ins, fz_sc, fz_lstF, fz_scr, Nat.zero_le, Nat.reduceLeDiff, Nat.reduceAdd, Nat.reduceLT, Int.reduceLT, Int.reduceLE, and_self, frz_lst, frz_dct, frz_dctF, frzL_ints, frzL_strs, frz_lstF, frz_scr, frz_tup, frz_sc, frzL_nil, frzL_cons, frzL_str, frzL_int, fzL_nil, fzL_cons, fzL_str, fzL_int, noC_sc, noC_lst, noC_tup, noC_dct, noCL_nil, noCL_cons, noCL_str, noCL_str2, noCL_int, Bool.and_self, Bool.and_true, Bool.true_and, List.append_nil, true_or, or_true, flat_str, flat_int, any_str, o_isiT, o_isiL, o_isiS, o_isiI, atI_0, atI_1, atI_2, atI_3, eqv_lst, eqv_tup, eqvL_nil, eqvL_cons, eqvL_str, eqv_str, eqS_int, ixN20, ixN21, fz_tup, Bool.false_and, Bool.and_false, o_posT, Int.cast_ofNat_Int, eq_self, dChain, dGin, dGix, o_gIn, o_gIx, o_mulI, o_mulS, dMake, dMethA, dMethL, dMethS, gDrop, slot0, o_insD, dRaise, dTryR, exM, dFld, pFl, dSfl, o_sflK, o_sflN, o_split, o_join, o_joinT, o_all, eqS_str, h1]
  simp only [h2, h3, h4, pad, dNext, dSeq, dAsg, dFor, dEnum, dIt, dWhile, dIfS, dMS, dMA, dMN, dSub, dSfl, dRet, dRetV, dRetN, dRetT, dDrop, dBreak, dCont, dFz, fzS, dConsV, dCons, dNil, bCons, bNil, dVar, dC, dBin, dIx, dNeg, dCB, dMV, dTst, dAndT, dOrT, dNotT, dAnd, dOr, dNot, dIf, dLst, dLC, dLc, lcD, dYes, wipeD, dTup, dDct0, dLRev, dIsi, dSl, oNo, oSm, dCall, dCallL, gN, gTu, gsCons, gsNil, dRg1, dRg2, dRev, dZip, pVar, pIx, atP, getP, setP, unsetL, List.map_cons, List.map_nil, List.replicate_succ, List.replicate_zero, List.cons_append, List.nil_append, List.set_cons_zero, List.set_cons_succ, List.getElem?_cons_zero, List.getElem?_cons_succ, List.length_cons, List.length_nil, o_lt, o_ltS, o_gt, o_le, o_ge, o_add, o_addS, o_addL, o_addT, o_sub, o_mul, o_fdiv, o_mod, o_pow, o_eq, o_eqN, o_ne, o_neN, o_isB, o_isI, o_len, o_lenC, o_lenT, o_lenD, o_lenS, o_ix, o_ixC, o_ixT, o_ixS, o_ixDs, o_ixDi, o_put, o_inD, o_inDi, o_inL, o_inT, o_inS, o_idx, o_list, o_listC, o_listT, o_listD, o_tuple, o_tupleT, o_intI, o_intB, o_ord, o_str, o_max, o_min, o_isNo, o_tyL, o_tyT, o_tyD, o_tyS, o_tyI, o_sl, o_slC, o_slS, o_slT, cutG_map, o_lsD, o_lsC, o_it, o_itC, o_itT, o_itS, o_app, o_ext, o_ins, o_pop, o_rev, o_clr, o_pos, o_posS, Option.bind_some, Option.map_some, List.length_map, if_true, Bool.not_false, Bool.not_true, Bool.false_bne, Bool.true_bne,  safe_sc, safe_lstF, safe_scr, safe_tup, safe_f, true_and, and_true, Option.some.injEq, exists_eq_left', exists_eq_left, decide_true, decide_false, Bool.false_eq_true, Bool.true_eq_false, reduceIte, Nat.zero_add, fz_lst, fz_dct, fz_ins, fz_sc, fz_lstF, fz_scr, Nat.zero_le, Nat.reduceLeDiff, Nat.reduceAdd, Nat.reduceLT, Int.reduceLT, Int.reduceLE, and_self, frz_lst, frz_dct, frz_dctF, frzL_ints, frzL_strs, frz_lstF, frz_scr, frz_tup, frz_sc, frzL_nil, frzL_cons, frzL_str, frzL_int, fzL_nil, fzL_cons, fzL_str, fzL_int, noC_sc, noC_lst, noC_tup, noC_dct, noCL_nil, noCL_cons, noCL_str, noCL_str2, noCL_int, Bool.and_self, Bool.and_true, Bool.true_and, List.append_nil, true_or, or_true, flat_str, flat_int, any_str, o_isiT, o_isiL, o_isiS, o_isiI, atI_0, atI_1, atI_2, atI_3, eqv_lst, eqv_tup, eqvL_nil, eqvL_cons, eqvL_str, eqv_str, eqS_int, ixN20, ixN21, fz_tup, Bool.false_and, Bool.and_false, o_posT, Int.cast_ofNat_Int, eq_self, dChain, dGin, dGix, o_gIn, o_gIx, o_mulI, o_mulS, dMake, dMethA, dMethL, dMethS, gDrop, slot0, o_insD, dRaise, dTryR, exM, dFld, pFl, dSfl, o_sflK, o_sflN, o_split, o_join, o_joinT, o_all]
  exact is_name_d hl fun env => by rw [h]; exact q _
theorem begins_four {nm el : Txt} (h : isName nm = true) (hl : nm.length ≤ 1000) (h' : isName el = true) (hl' : el.length ≤ 1000) {Q : D → Sl → Prop} {E : EX → Sl → Prop} (q : ∀ env, Q (.bl true) env) : sp_begins_order [.nd (.lst false) [.str wOrder, .str nm, .str wOf, .str el]] Q E := by
  rw [e_sp_begins_order, e_b_begins_order]
  have h1 : (!decide (wOrder = [111, 114, 100, 101, 114])) = false := by decide
  have h1' : (!decide (wOf = [111, 102])) = false := by decide
  have h2 : ([D.sc (.int 2), D.sc (.int 4)].all flatD) = true := by decide
  have h3 : ([D.sc (.int 2), D.sc (.int 4)].any fun d => eqv d (D.sc (.int 4))) = true := by simp [eqv, eqS]
  simp only [pad, dNext, dSeq, dAsg, dFor, dEnum, dIt, dWhile, dIfS, dMS, dMA, dMN, dSub, dSfl, dRet, dRetV, dRetN, dRetT, dDrop, dBreak, dCont, dFz, fzS, dConsV, dCons, dNil, bCons, bNil, dVar, dC, dBin, dIx, dNeg, dCB, dMV, dTst, dAndT, dOrT, dNotT, dAnd, dOr, dNot, dIf, dLst, dLC, dLc, lcD, dYes, wipeD, dTup, dDct0, dLRev, dIsi, dSl, oNo, oSm, dCall, dCallL, gN, gTu, gsCons, gsNil, dRg1, dRg2, dRev, dZip, pVar, pIx, atP, getP, setP, unsetL, List.map_cons, List.map_nil, List.replicate_succ, List.replicate_zero, List.cons_append, List.nil_append, List.set_cons_zero, List.set_cons_succ, List.getElem?_cons_zero, List.getElem?_cons_succ, List.length_cons, List.length_nil, o_lt, o_ltS, o_gt, o_le, o_ge, o_add, o_addS, o_addL, o_addT, o_sub, o_mul, o_fdiv, o_mod, o_pow, o_eq, o_eqN, o_ne, o_neN, o_isB, o_isI, o_len, o_lenC, o_lenT, o_lenD, o_lenS, o_ix, o_ixC, o_ixT, o_ixS, o_ixDs, o_ixDi, o_put, o_inD, o_inDi, o_inL, o_inT, o_inS, o_idx, o_list, o_listC, o_listT, o_listD, o_tuple, o_tupleT, o_intI, o_intB, o_ord, o_str, o_max, o_min, o_isNo, o_tyL, o_tyT, o_tyD, o_tyS, o_tyI, o_sl, o_slC, o_slS, o_slT, cutG_map, o_lsD, o_lsC, o_it, o_itC, o_itT, o_itS, o_app, o_ext, o_ins, o_pop, o_rev, o_clr, o_pos, o_posS, Option.bind_some, Option.map_some, List.length_map, if_true, Bool.not_false, Bool.not_true, Bool.false_bne, Bool.true_bne,  safe_sc, safe_lstF, safe_scr, safe_tup, safe_f, true_and, and_true, Option.some.injEq, exists_eq_left', exists_eq_left, decide_true, decide_false, Bool.false_eq_true, Bool.true_eq_false, reduceIte, Nat.zero_add, fz_lst, fz_dct, fz_ins, fz_sc, fz_lstF, fz_scr, Nat.zero_le, Nat.reduceLeDiff, Nat.reduceAdd, Nat.reduceLT, Int.reduceLT, Int.reduceLE, and_self, frz_lst, frz_dct, frz_dctF, frzL_ints, frzL_strs, frz_lstF, frz_scr, frz_tup, frz_sc, frzL_nil, frzL_cons, frzL_str, frzL_int, fzL_nil, fzL_cons, fzL_str, fzL_int, noC_sc, noC_lst, noC_tup, noC_dct, noCL_nil, noCL_cons, noCL_str, noCL_str2, noCL_int, Bool.and_self, Bool.and_true, Bool.true_and, List.append_nil, true_or, or_true, flat_str, flat_int, any_str, o_isiT, o_isiL, o_isiS, o_isiI, atI_0, atI_1, atI_2, atI_3, eqv_lst, eqv_tup, eqvL_nil, eqvL_cons, eqvL_str, eqv_str, eqS_int, ixN20, ixN21, fz_tup, Bool.false_and, Bool.and_false, o_posT, Int.cast_ofNat_Int, eq_self, dChain, dGin, dGix, o_gIn, o_gIx, o_mulI, o_mulS, dMake, dMethA, dMethL, dMethS, gDrop, slot0, o_insD, dRaise, dTryR, exM, dFld, pFl, dSfl, o_sflK, o_sflN, o_split, o_join, o_joinT, o_all, eqS_str, h1, h1']
  simp only [h2, h3, pad, dNext, dSeq, dAsg, dFor, dEnum, dIt, dWhile, dIfS, dMS, dMA, dMN, dSub, dSfl, dRet, dRetV, dRetN, dRetT, dDrop, dBreak, dCont, dFz, fzS, dConsV, dCons, dNil, bCons, bNil, dVar, dC, dBin, dIx, dNeg, dCB, dMV, dTst, dAndT, dOrT, dNotT, dAnd, dOr, dNot, dIf, dLst, dLC, dLc, lcD, dYes, wipeD, dTup, dDct0, dLRev, dIsi, dSl, oNo, oSm, dCall, dCallL, gN, gTu, gsCons, gsNil, dRg1, dRg2, dRev, dZip, pVar, pIx, atP, getP, setP, unsetL, List.map_cons, List.map_nil, List.replicate_succ, List.replicate_zero, List.cons_append, List.nil_append, List.set_cons_zero, List.set_cons_succ, List.getElem?_cons_zero, List.getElem?_cons_succ, List.length_cons, List.length_nil, o_lt, o_ltS, o_gt, o_le, o_ge, o_add, o_addS, o_addL, o_addT, o_sub, o_mul, o_fdiv, o_mod, o_pow, o_eq, o_eqN, o_ne, o_neN, o_isB, o_isI, o_len, o_lenC, o_lenT, o_lenD, o_lenS, o_ix, o_ixC, o_ixT, o_ixS, o_ixDs, o_ixDi, o_put, o_inD, o_inDi, o_inL, o_inT, o_inS, o_idx, o_list, o_listC, o_listT, o_listD, o_tuple, o_tupleT, o_intI, o_intB, o_ord, o_str, o_max, o_min, o_isNo, o_tyL, o_tyT, o_tyD, o_tyS, o_tyI, o_sl, o_slC, o_slS, o_slT, cutG_map, o_lsD, o_lsC, o_it, o_itC, o_itT, o_itS, o_app, o_ext, o_ins, o_pop, o_rev, o_clr, o_pos, o_posS, Option.bind_some, Option.map_some, List.length_map, if_true, Bool.not_false, Bool.not_true, Bool.false_bne, Bool.true_bne,  safe_sc, safe_lstF, safe_scr, safe_tup, safe_f, true_and, and_true, Option.some.injEq, exists_eq_left', exists_eq_left, decide_true, decide_false, Bool.false_eq_true, Bool.true_eq_false, reduceIte, Nat.zero_add, fz_lst, fz_dct, fz_ins, fz_sc, fz_lstF, fz_scr, Nat.zero_le, Nat.reduceLeDiff, Nat.reduceAdd, Nat.reduceLT, Int.reduceLT, Int.reduceLE, and_self, frz_lst, frz_dct, frz_dctF, frzL_ints, frzL_strs, frz_lstF, frz_scr, frz_tup, frz_sc, frzL_nil, frzL_cons, frzL_str, frzL_int, fzL_nil, fzL_cons, fzL_str, fzL_int, noC_sc, noC_lst, noC_tup, noC_dct, noCL_nil, noCL_cons, noCL_str, noCL_str2, noCL_int, Bool.and_self, Bool.and_true, Bool.true_and, List.append_nil, true_or, or_true, flat_str, flat_int, any_str, o_isiT, o_isiL, o_isiS, o_isiI, atI_0, atI_1, atI_2, atI_3, eqv_lst, eqv_tup, eqvL_nil, eqvL_cons, eqvL_str, eqv_str, eqS_int, ixN20, ixN21, fz_tup, Bool.false_and, Bool.and_false, o_posT, Int.cast_ofNat_Int, eq_self, dChain, dGin, dGix, o_gIn, o_gIx, o_mulI, o_mulS, dMake, dMethA, dMethL, dMethS, gDrop, slot0, o_insD, dRaise, dTryR, exM, dFld, pFl, dSfl, o_sflK, o_sflN, o_split, o_join, o_joinT, o_all]
  refine is_name_d hl' fun env => ?_
  rw [h']
  simp only [pad, dNext, dSeq, dAsg, dFor, dEnum, dIt, dWhile, dIfS, dMS, dMA, dMN, dSub, dSfl, dRet, dRetV, dRetN, dRetT, dDrop, dBreak, dCont, dFz, fzS, dConsV, dCons, dNil, bCons, bNil, dVar, dC, dBin, dIx, dNeg, dCB, dMV, dTst, dAndT, dOrT, dNotT, dAnd, dOr, dNot, dIf, dLst, dLC, dLc, lcD, dYes, wipeD, dTup, dDct0, dLRev, dIsi, dSl, oNo, oSm, dCall, dCallL, gN, gTu, gsCons, gsNil, dRg1, dRg2, dRev, dZip, pVar, pIx, atP, getP, setP, unsetL, List.map_cons, List.map_nil, List.replicate_succ, List.replicate_zero, List.cons_append, List.nil_append, List.set_cons_zero, List.set_cons_succ, List.getElem?_cons_zero, List.getElem?_cons_succ, List.length_cons, List.length_nil, o_lt, o_ltS, o_gt, o_le, o_ge, o_add, o_addS, o_addL, o_addT, o_sub, o_mul, o_fdiv, o_mod, o_pow, o_eq, o_eqN, o_ne, o_neN, o_isB, o_isI, o_len, o_lenC, o_lenT, o_lenD, o_lenS, o_ix, o_ixC, o_ixT, o_ixS, o_ixDs, o_ixDi, o_put, o_inD, o_inDi, o_inL, o_inT, o_inS, o_idx, o_list, o_listC, o_listT, o_listD, o_tuple, o_tupleT, o_intI, o_intB, o_ord, o_str, o_max, o_min, o_isNo, o_tyL, o_tyT, o_tyD, o_tyS, o_tyI, o_sl, o_slC, o_slS, o_slT, cutG_map, o_lsD, o_lsC, o_it, o_itC, o_itT, o_itS, o_app, o_ext, o_ins, o_pop, o_rev, o_clr, o_pos, o_posS, Option.bind_some, Option.map_some, List.length_map, if_true, Bool.not_false, Bool.not_true, Bool.false_bne, Bool.true_bne,  safe_sc, safe_lstF, safe_scr, safe_tup, safe_f, true_and, and_true, Option.some.injEq, exists_eq_left', exists_eq_left, decide_true, decide_false, Bool.false_eq_true, Bool.true_eq_false, reduceIte, Nat.zero_add, fz_lst, fz_dct, fz_ins, fz_sc, fz_lstF, fz_scr, Nat.zero_le, Nat.reduceLeDiff, Nat.reduceAdd, Nat.reduceLT, Int.reduceLT, Int.reduceLE, and_self, frz_lst, frz_dct, frz_dctF, frzL_ints, frzL_strs, frz_lstF, frz_scr, frz_tup, frz_sc, frzL_nil, frzL_cons, frzL_str, frzL_int, fzL_nil, fzL_cons, fzL_str, fzL_int, noC_sc, noC_lst, noC_tup, noC_dct, noCL_nil, noCL_cons, noCL_str, noCL_str2, noCL_int, Bool.and_self, Bool.and_true, Bool.true_and, List.append_nil, true_or, or_true, flat_str, flat_int, any_str, o_isiT, o_isiL, o_isiS, o_isiI, atI_0, atI_1, atI_2, atI_3, eqv_lst, eqv_tup, eqvL_nil, eqvL_cons, eqvL_str, eqv_str, eqS_int, ixN20, ixN21, fz_tup, Bool.false_and, Bool.and_false, o_posT, Int.cast_ofNat_Int, eq_self, dChain, dGin, dGix, o_gIn, o_gIx, o_mulI, o_mulS, dMake, dMethA, dMethL, dMethS, gDrop, slot0, o_insD, dRaise, dTryR, exM, dFld, pFl, dSfl, o_sflK, o_sflN, o_split, o_join, o_joinT, o_all]
  exact is_name_d hl fun env => by rw [h]; exact q _
end LW

set_option Elab.async false
set_option linter.all false
set_option maxRecDepth 100000
set_option maxHeartbeats 2000000
namespace LW
open L2 DL TL
theorem pieces_loop84 (Dd : ED) (c0 c1 c2 c3 : Option D) (hD : ∀ c4, Dd.nx [c0, c1, c2, c3, c4]) : ∀ (ps : List Txt) (c4 : Option D), (∀ p ∈ ps, isPiece p = true) → (∀ p ∈ ps, p.length ≤ 1000) → forD (gN 4) lb_read_rule_0 Dd (ps.map D.str) [c0, c1, c2, c3, c4]
  | [], c4, _, _ => hD c4
  | p :: r, c4, h, hl => by
    simp only [List.map_cons, forD, e_lb_read_rule_0, pad, dNext, dSeq, dAsg, dFor, dEnum, dIt, dWhile, dIfS, dMS, dMA, dMN, dSub, dSfl, dRet, dRetV, dRetN, dRetT, dDrop, dBreak, dCont, dFz, fzS, dConsV, dCons, dNil, bCons, bNil, dVar, dC, dBin, dIx, dNeg, dCB, dMV, dTst, dAndT, dOrT, dNotT, dAnd, dOr, dNot, dIf, dLst, dLC, dLc, lcD, dYes, wipeD, dTup, dDct0, dLRev, dIsi, dSl, oNo, oSm, dCall, dCallL, gN, gTu, gsCons, gsNil, dRg1, dRg2, dRev, dZip, pVar, pIx, atP, getP, setP, unsetL, List.map_cons, List.map_nil, List.replicate_succ, List.replicate_zero, List.cons_append, List.nil_append, List.set_cons_zero, List.set_cons_succ, List.getElem?_cons_zero, List.getElem?_cons_succ, List.length_cons, List.length_nil, o_lt, o_ltS, o_gt, o_le, o_ge, o_add, o_addS, o_addL, o_addT, o_sub, o_mul, o_fdiv, o_mod, o_pow, o_eq, o_eqN, o_ne, o_neN, o_isB, o_isI, o_len, o_lenC, o_lenT, o_lenD, o_lenS, o_ix, o_ixC, o_ixT, o_ixS, o_ixDs, o_ixDi, o_put, o_inD, o_inDi, o_inL, o_inT, o_inS, o_idx, o_list, o_listC, o_listT, o_listD, o_tuple, o_tupleT, o_intI, o_intB, o_ord, o_str, o_max, o_min, o_isNo, o_tyL, o_tyT, o_tyD, o_tyS, o_tyI, o_sl, o_slC, o_slS, o_slT, cutG_map, o_lsD, o_lsC, o_it, o_itC, o_itT, o_itS, o_app, o_ext, o_ins, o_pop, o_rev, o_clr, o_pos, o_posS, Option.bind_some, Option.map_some, List.length_map, if_true, Bool.not_false, Bool.not_true, Bool.false_bne, Bool.true_bne,  safe_sc, safe_lstF, safe_scr, safe_tup, safe_f, true_and, and_true, Option.some.injEq, exists_eq_left', exists_eq_left, decide_true, decide_false, Bool.false_eq_true, Bool.true_eq_false, reduceIte, Nat.zero_add, fz_lst, fz_dct, fz_ins, fz_sc, fz_lstF, fz_scr, Nat.zero_le, Nat.reduceLeDiff, Nat.reduceAdd, Nat.reduceLT, Int.reduceLT, Int.reduceLE, and_self, frz_lst, frz_dct, frz_dctF, frzL_ints, frzL_strs, frz_lstF, frz_scr, frz_tup, frz_sc, frzL_nil, frzL_cons, frzL_str, frzL_int, fzL_nil, fzL_cons, fzL_str, fzL_int, noC_sc, noC_lst, noC_tup, noC_dct, noCL_nil, noCL_cons, noCL_str, noCL_str2, noCL_int, Bool.and_self, Bool.and_true, Bool.true_and, List.append_nil, true_or, or_true, flat_str, flat_int, any_str, o_isiT, o_isiL, o_isiS, o_isiI, atI_0, atI_1, atI_2, atI_3, eqv_lst, eqv_tup, eqvL_nil, eqvL_cons, eqvL_str, eqv_str, eqS_int, ixN20, ixN21, fz_tup, Bool.false_and, Bool.and_false, o_posT, Int.cast_ofNat_Int, eq_self, dChain, dGin, dGix, o_gIn, o_gIx, o_mulI, o_mulS, dMake, dMethA, dMethL, dMethS, gDrop, slot0, o_insD, dRaise, dTryR, exM, dFld, pFl, dSfl, o_sflK, o_sflN, o_split, o_join, o_joinT, o_all]
    refine is_piece_d (hl p List.mem_cons_self) fun env => ?_
    rw [h p List.mem_cons_self]
    simp only [pad, dNext, dSeq, dAsg, dFor, dEnum, dIt, dWhile, dIfS, dMS, dMA, dMN, dSub, dSfl, dRet, dRetV, dRetN, dRetT, dDrop, dBreak, dCont, dFz, fzS, dConsV, dCons, dNil, bCons, bNil, dVar, dC, dBin, dIx, dNeg, dCB, dMV, dTst, dAndT, dOrT, dNotT, dAnd, dOr, dNot, dIf, dLst, dLC, dLc, lcD, dYes, wipeD, dTup, dDct0, dLRev, dIsi, dSl, oNo, oSm, dCall, dCallL, gN, gTu, gsCons, gsNil, dRg1, dRg2, dRev, dZip, pVar, pIx, atP, getP, setP, unsetL, List.map_cons, List.map_nil, List.replicate_succ, List.replicate_zero, List.cons_append, List.nil_append, List.set_cons_zero, List.set_cons_succ, List.getElem?_cons_zero, List.getElem?_cons_succ, List.length_cons, List.length_nil, o_lt, o_ltS, o_gt, o_le, o_ge, o_add, o_addS, o_addL, o_addT, o_sub, o_mul, o_fdiv, o_mod, o_pow, o_eq, o_eqN, o_ne, o_neN, o_isB, o_isI, o_len, o_lenC, o_lenT, o_lenD, o_lenS, o_ix, o_ixC, o_ixT, o_ixS, o_ixDs, o_ixDi, o_put, o_inD, o_inDi, o_inL, o_inT, o_inS, o_idx, o_list, o_listC, o_listT, o_listD, o_tuple, o_tupleT, o_intI, o_intB, o_ord, o_str, o_max, o_min, o_isNo, o_tyL, o_tyT, o_tyD, o_tyS, o_tyI, o_sl, o_slC, o_slS, o_slT, cutG_map, o_lsD, o_lsC, o_it, o_itC, o_itT, o_itS, o_app, o_ext, o_ins, o_pop, o_rev, o_clr, o_pos, o_posS, Option.bind_some, Option.map_some, List.length_map, if_true, Bool.not_false, Bool.not_true, Bool.false_bne, Bool.true_bne,  safe_sc, safe_lstF, safe_scr, safe_tup, safe_f, true_and, and_true, Option.some.injEq, exists_eq_left', exists_eq_left, decide_true, decide_false, Bool.false_eq_true, Bool.true_eq_false, reduceIte, Nat.zero_add, fz_lst, fz_dct, fz_ins, fz_sc, fz_lstF, fz_scr, Nat.zero_le, Nat.reduceLeDiff, Nat.reduceAdd, Nat.reduceLT, Int.reduceLT, Int.reduceLE, and_self, frz_lst, frz_dct, frz_dctF, frzL_ints, frzL_strs, frz_lstF, frz_scr, frz_tup, frz_sc, frzL_nil, frzL_cons, frzL_str, frzL_int, fzL_nil, fzL_cons, fzL_str, fzL_int, noC_sc, noC_lst, noC_tup, noC_dct, noCL_nil, noCL_cons, noCL_str, noCL_str2, noCL_int, Bool.and_self, Bool.and_true, Bool.true_and, List.append_nil, true_or, or_true, flat_str, flat_int, any_str, o_isiT, o_isiL, o_isiS, o_isiI, atI_0, atI_1, atI_2, atI_3, eqv_lst, eqv_tup, eqvL_nil, eqvL_cons, eqvL_str, eqv_str, eqS_int, ixN20, ixN21, fz_tup, Bool.false_and, Bool.and_false, o_posT, Int.cast_ofNat_Int, eq_self, dChain, dGin, dGix, o_gIn, o_gIx, o_mulI, o_mulS, dMake, dMethA, dMethL, dMethS, gDrop, slot0, o_insD, dRaise, dTryR, exM, dFld, pFl, dSfl, o_sflK, o_sflN, o_split, o_join, o_joinT, o_all]
    exact pieces_loop84 Dd c0 c1 c2 c3 hD r _ (fun x hx => h x (List.mem_cons_of_mem _ hx)) (fun x hx => hl x (List.mem_cons_of_mem _ hx))
theorem read_rule_d {line w : Txt} {ps : List Txt} {least : Nat} (hs : spl [32] 0 [] line = w :: ps) (hl : line.length ≤ 1000000) (hk : lkT tab_LEAST w = some (.int least)) (h1 : least ≤ ps.length) (h2 : least = 0 → ps = []) (hp : ∀ p ∈ ps, isPiece p = true) (hpl : ∀ p ∈ ps, p.length ≤ 1000) (hn : ps.length ≤ 1000)
    {Q : D → Sl → Prop} {E : EX → Sl → Prop} (q : ∀ env, Q (.nd .tup ((w :: ps).map D.str)) env) : sp_read_rule [.str line] Q E := by
  rw [e_sp_read_rule, e_b_read_rule]
  have g1 : (true ^^ (lkT tab_LEAST w).isSome) = false := by rw [hk]; rfl
  have g2 : ([32] : Txt) ≠ [] := by decide
  have g3 : ∀ c ∈ ([32] : Txt), c < 256 := by decide
  have g4 : line.length ≤ 16000000 := by omega
  have st1 : stb (.lst true) (D.str w :: ps.map D.str) = true := stb_lst (fzL_str (w :: ps))
  simp only [pad, dNext, dSeq, dAsg, dFor, dEnum, dIt, dWhile, dIfS, dMS, dMA, dMN, dSub, dSfl, dRet, dRetV, dRetN, dRetT, dDrop, dBreak, dCont, dFz, fzS, dConsV, dCons, dNil, bCons, bNil, dVar, dC, dBin, dIx, dNeg, dCB, dMV, dTst, dAndT, dOrT, dNotT, dAnd, dOr, dNot, dIf, dLst, dLC, dLc, lcD, dYes, wipeD, dTup, dDct0, dLRev, dIsi, dSl, oNo, oSm, dCall, dCallL, gN, gTu, gsCons, gsNil, dRg1, dRg2, dRev, dZip, pVar, pIx, atP, getP, setP, unsetL, List.map_cons, List.map_nil, List.replicate_succ, List.replicate_zero, List.cons_append, List.nil_append, List.set_cons_zero, List.set_cons_succ, List.getElem?_cons_zero, List.getElem?_cons_succ, List.length_cons, List.length_nil, o_lt, o_ltS, o_gt, o_le, o_ge, o_add, o_addS, o_addL, o_addT, o_sub, o_mul, o_fdiv, o_mod, o_pow, o_eq, o_eqN, o_ne, o_neN, o_isB, o_isI, o_len, o_lenC, o_lenT, o_lenD, o_lenS, o_ix, o_ixC, o_ixT, o_ixS, o_ixDs, o_ixDi, o_put, o_inD, o_inDi, o_inL, o_inT, o_inS, o_idx, o_list, o_listC, o_listT, o_listD, o_tuple, o_tupleT, o_intI, o_intB, o_ord, o_str, o_max, o_min, o_isNo, o_tyL, o_tyT, o_tyD, o_tyS, o_tyI, o_sl, o_slC, o_slS, o_slT, cutG_map, o_lsD, o_lsC, o_it, o_itC, o_itT, o_itS, o_app, o_ext, o_ins, o_pop, o_rev, o_clr, o_pos, o_posS, Option.bind_some, Option.map_some, List.length_map, if_true, Bool.not_false, Bool.not_true, Bool.false_bne, Bool.true_bne,  safe_sc, safe_lstF, safe_scr, safe_tup, safe_f, true_and, and_true, Option.some.injEq, exists_eq_left', exists_eq_left, decide_true, decide_false, Bool.false_eq_true, Bool.true_eq_false, reduceIte, Nat.zero_add, fz_lst, fz_dct, fz_ins, fz_sc, fz_lstF, fz_scr, Nat.zero_le, Nat.reduceLeDiff, Nat.reduceAdd, Nat.reduceLT, Int.reduceLT, Int.reduceLE, and_self, frz_lst, frz_dct, frz_dctF, frzL_ints, frzL_strs, frz_lstF, frz_scr, frz_tup, frz_sc, frzL_nil, frzL_cons, frzL_str, frzL_int, fzL_nil, fzL_cons, fzL_str, fzL_int, noC_sc, noC_lst, noC_tup, noC_dct, noCL_nil, noCL_cons, noCL_str, noCL_str2, noCL_int, Bool.and_self, Bool.and_true, Bool.true_and, List.append_nil, true_or, or_true, flat_str, flat_int, any_str, o_isiT, o_isiL, o_isiS, o_isiI, atI_0, atI_1, atI_2, atI_3, eqv_lst, eqv_tup, eqvL_nil, eqvL_cons, eqvL_str, eqv_str, eqS_int, ixN20, ixN21, fz_tup, Bool.false_and, Bool.and_false, o_posT, Int.cast_ofNat_Int, eq_self, dChain, dGin, dGix, o_gIn, o_gIx, o_mulI, o_mulS, dMake, dMethA, dMethL, dMethS, gDrop, slot0, o_insD, dRaise, dTryR, exM, dFld, pFl, dSfl, o_sflK, o_sflN, o_split, o_join, o_joinT, o_all, hs, g2, g3, g4, g1, hk, ne_eq, not_false_eq_true, st1]
  refine ⟨g3, ?_⟩
  have e1 : (((ps.length + 1 : Nat) : Int)) - 1 = ((ps.length : Nat) : Int) := by omega
  have e2 : decide (((ps.length : Nat) : Int) < ((least : Nat) : Int)) = false := decide_eq_false (by omega)
  have e3 : (!(some (Sc.int ((least : Nat) : Int))).isSome) = false := rfl
  have ec : frzL (cutG (D.str w :: ps.map D.str) (some 1) none) = ps.map D.str := by
    rw [← List.map_cons, cutG_map, frzL_str]
    congr 1
    unfold cutG HT.sIx
    simp
  have fin : forD (gN 4) lb_read_rule_0 { nx := dRet (dCB tupleD (bCons (dVar 1) bNil)) { nx := fun env => Q D.non env, rt := Q, ex := E }, rt := Q, ex := E } (ps.map D.str)
      [some (D.str line), some (D.lst true (D.str w :: ps.map D.str)), some (D.sc (Sc.int ((least : Nat) : Int))), some (D.int ((ps.length : Nat) : Int)), none] :=
    pieces_loop84 _ _ _ _ _ (fun c4 => by simp only [pad, dNext, dSeq, dAsg, dFor, dEnum, dIt, dWhile, dIfS, dMS, dMA, dMN, dSub, dSfl, dRet, dRetV, dRetN, dRetT, dDrop, dBreak, dCont, dFz, fzS, dConsV, dCons, dNil, bCons, bNil, dVar, dC, dBin, dIx, dNeg, dCB, dMV, dTst, dAndT, dOrT, dNotT, dAnd, dOr, dNot, dIf, dLst, dLC, dLc, lcD, dYes, wipeD, dTup, dDct0, dLRev, dIsi, dSl, oNo, oSm, dCall, dCallL, gN, gTu, gsCons, gsNil, dRg1, dRg2, dRev, dZip, pVar, pIx, atP, getP, setP, unsetL, List.map_cons, List.map_nil, List.replicate_succ, List.replicate_zero, List.cons_append, List.nil_append, List.set_cons_zero, List.set_cons_succ, List.getElem?_cons_zero, List.getElem?_cons_succ, List.length_cons, List.length_nil, o_lt, o_ltS, o_gt, o_le, o_ge, o_add, o_addS, o_addL, o_addT, o_sub, o_mul, o_fdiv, o_mod, o_pow, o_eq, o_eqN, o_ne, o_neN, o_isB, o_isI, o_len, o_lenC, o_lenT, o_lenD, o_lenS, o_ix, o_ixC, o_ixT, o_ixS, o_ixDs, o_ixDi, o_put, o_inD, o_inDi, o_inL, o_inT, o_inS, o_idx, o_list, o_listC, o_listT, o_listD, o_tuple, o_tupleT, o_intI, o_intB, o_ord, o_str, o_max, o_min, o_isNo, o_tyL, o_tyT, o_tyD, o_tyS, o_tyI, o_sl, o_slC, o_slS, o_slT, cutG_map, o_lsD, o_lsC, o_it, o_itC, o_itT, o_itS, o_app, o_ext, o_ins, o_pop, o_rev, o_clr, o_pos, o_posS, Option.bind_some, Option.map_some, List.length_map, if_true, Bool.not_false, Bool.not_true, Bool.false_bne, Bool.true_bne,  safe_sc, safe_lstF, safe_scr, safe_tup, safe_f, true_and, and_true, Option.some.injEq, exists_eq_left', exists_eq_left, decide_true, decide_false, Bool.false_eq_true, Bool.true_eq_false, reduceIte, Nat.zero_add, fz_lst, fz_dct, fz_ins, fz_sc, fz_lstF, fz_scr, Nat.zero_le, Nat.reduceLeDiff, Nat.reduceAdd, Nat.reduceLT, Int.reduceLT, Int.reduceLE, and_self, frz_lst, frz_dct, frz_dctF, frzL_ints, frzL_strs, frz_lstF, frz_scr, frz_tup, frz_sc, frzL_nil, frzL_cons, frzL_str, frzL_int, fzL_nil, fzL_cons, fzL_str, fzL_int, noC_sc, noC_lst, noC_tup, noC_dct, noCL_nil, noCL_cons, noCL_str, noCL_str2, noCL_int, Bool.and_self, Bool.and_true, Bool.true_and, List.append_nil, true_or, or_true, flat_str, flat_int, any_str, o_isiT, o_isiL, o_isiS, o_isiI, atI_0, atI_1, atI_2, atI_3, eqv_lst, eqv_tup, eqvL_nil, eqvL_cons, eqvL_str, eqv_str, eqS_int, ixN20, ixN21, fz_tup, Bool.false_and, Bool.and_false, o_posT, Int.cast_ofNat_Int, eq_self, dChain, dGin, dGix, o_gIn, o_gIx, o_mulI, o_mulS, dMake, dMethA, dMethL, dMethS, gDrop, slot0, o_insD, dRaise, dTryR, exM, dFld, pFl, dSfl, o_sflK, o_sflN, o_split, o_join, o_joinT, o_all, st1]; exact q _) ps none hp hpl
  rw [e3, e1, e2, ec]
  simp only [Bool.false_eq_true, if_false]
  by_cases hz : least = 0
  · have e4 : decide (((least : Nat) : Int) = 0) = true := decide_eq_true (by omega)
    have e5 : decide ((0 : Int) < ((ps.length : Nat) : Int)) = false := decide_eq_false (by rw [h2 hz]; simp)
    rw [e4, e5]
    simp only [Bool.false_eq_true, if_false, if_true]
    exact fin
  · have e4 : decide (((least : Nat) : Int) = 0) = false := decide_eq_false (by omega)
    rw [e4]
    simp only [Bool.false_eq_true, if_false]
    exact fin
end LW

set_option Elab.async false
set_option linter.all false
set_option maxRecDepth 100000
set_option maxHeartbeats 2000000
namespace LW
open L2 DL TL
theorem read_at_d {line w : Txt} {ps : List Txt} {least : Nat} {k : Int} (hs : spl [32] 0 [] line = w :: ps) (hl : line.length ≤ 1000000) (hk : lkT tab_LEAST w = some (.int least)) (h1 : least ≤ ps.length) (h2 : least = 0 → ps = []) (hp : ∀ p ∈ ps, isPiece p = true) (hpl : ∀ p ∈ ps, p.length ≤ 1000) (hn : ps.length ≤ 1000)
    {Q : D → Sl → Prop} {E : EX → Sl → Prop} (q : ∀ env, Q (.nd .tup ((w :: ps).map D.str)) env) : sp_read_at [.str line, .int k] Q E := by
  rw [e_sp_read_at, e_b_read_at]
  simp only [pad, dNext, dSeq, dAsg, dFor, dEnum, dIt, dWhile, dIfS, dMS, dMA, dMN, dSub, dSfl, dRet, dRetV, dRetN, dRetT, dDrop, dBreak, dCont, dFz, fzS, dConsV, dCons, dNil, bCons, bNil, dVar, dC, dBin, dIx, dNeg, dCB, dMV, dTst, dAndT, dOrT, dNotT, dAnd, dOr, dNot, dIf, dLst, dLC, dLc, lcD, dYes, wipeD, dTup, dDct0, dLRev, dIsi, dSl, oNo, oSm, dCall, dCallL, gN, gTu, gsCons, gsNil, dRg1, dRg2, dRev, dZip, pVar, pIx, atP, getP, setP, unsetL, List.map_cons, List.map_nil, List.replicate_succ, List.replicate_zero, List.cons_append, List.nil_append, List.set_cons_zero, List.set_cons_succ, List.getElem?_cons_zero, List.getElem?_cons_succ, List.length_cons, List.length_nil, o_lt, o_ltS, o_gt, o_le, o_ge, o_add, o_addS, o_addL, o_addT, o_sub, o_mul, o_fdiv, o_mod, o_pow, o_eq, o_eqN, o_ne, o_neN, o_isB, o_isI, o_len, o_lenC, o_lenT, o_lenD, o_lenS, o_ix, o_ixC, o_ixT, o_ixS, o_ixDs, o_ixDi, o_put, o_inD, o_inDi, o_inL, o_inT, o_inS, o_idx, o_list, o_listC, o_listT, o_listD, o_tuple, o_tupleT, o_intI, o_intB, o_ord, o_str, o_max, o_min, o_isNo, o_tyL, o_tyT, o_tyD, o_tyS, o_tyI, o_sl, o_slC, o_slS, o_slT, cutG_map, o_lsD, o_lsC, o_it, o_itC, o_itT, o_itS, o_app, o_ext, o_ins, o_pop, o_rev, o_clr, o_pos, o_posS, Option.bind_some, Option.map_some, List.length_map, if_true, Bool.not_false, Bool.not_true, Bool.false_bne, Bool.true_bne,  safe_sc, safe_lstF, safe_scr, safe_tup, safe_f, true_and, and_true, Option.some.injEq, exists_eq_left', exists_eq_left, decide_true, decide_false, Bool.false_eq_true, Bool.true_eq_false, reduceIte, Nat.zero_add, fz_lst, fz_dct, fz_ins, fz_sc, fz_lstF, fz_scr, Nat.zero_le, Nat.reduceLeDiff, Nat.reduceAdd, Nat.reduceLT, Int.reduceLT, Int.reduceLE, and_self, frz_lst, frz_dct, frz_dctF, frzL_ints, frzL_strs, frz_lstF, frz_scr, frz_tup, frz_sc, frzL_nil, frzL_cons, frzL_str, frzL_int, fzL_nil, fzL_cons, fzL_str, fzL_int, noC_sc, noC_lst, noC_tup, noC_dct, noCL_nil, noCL_cons, noCL_str, noCL_str2, noCL_int, Bool.and_self, Bool.and_true, Bool.true_and, List.append_nil, true_or, or_true, flat_str, flat_int, any_str, o_isiT, o_isiL, o_isiS, o_isiI, atI_0, atI_1, atI_2, atI_3, eqv_lst, eqv_tup, eqvL_nil, eqvL_cons, eqvL_str, eqv_str, eqS_int, ixN20, ixN21, fz_tup, Bool.false_and, Bool.and_false, o_posT, Int.cast_ofNat_Int, eq_self, dChain, dGin, dGix, o_gIn, o_gIx, o_mulI, o_mulS, dMake, dMethA, dMethL, dMethS, gDrop, slot0, o_insD, dRaise, dTryR, exM, dFld, pFl, dSfl, o_sflK, o_sflN, o_split, o_join, o_joinT, o_all]
  exact read_rule_d hs hl hk h1 h2 hp hpl hn fun env => by simp only [pad, dNext, dSeq, dAsg, dFor, dEnum, dIt, dWhile, dIfS, dMS, dMA, dMN, dSub, dSfl, dRet, dRetV, dRetN, dRetT, dDrop, dBreak, dCont, dFz, fzS, dConsV, dCons, dNil, bCons, bNil, dVar, dC, dBin, dIx, dNeg, dCB, dMV, dTst, dAndT, dOrT, dNotT, dAnd, dOr, dNot, dIf, dLst, dLC, dLc, lcD, dYes, wipeD, dTup, dDct0, dLRev, dIsi, dSl, oNo, oSm, dCall, dCallL, gN, gTu, gsCons, gsNil, dRg1, dRg2, dRev, dZip, pVar, pIx, atP, getP, setP, unsetL, List.map_cons, List.map_nil, List.replicate_succ, List.replicate_zero, List.cons_append, List.nil_append, List.set_cons_zero, List.set_cons_succ, List.getElem?_cons_zero, List.getElem?_cons_succ, List.length_cons, List.length_nil, o_lt, o_ltS, o_gt, o_le, o_ge, o_add, o_addS, o_addL, o_addT, o_sub, o_mul, o_fdiv, o_mod, o_pow, o_eq, o_eqN, o_ne, o_neN, o_isB, o_isI, o_len, o_lenC, o_lenT, o_lenD, o_lenS, o_ix, o_ixC, o_ixT, o_ixS, o_ixDs, o_ixDi, o_put, o_inD, o_inDi, o_inL, o_inT, o_inS, o_idx, o_list, o_listC, o_listT, o_listD, o_tuple, o_tupleT, o_intI, o_intB, o_ord, o_str, o_max, o_min, o_isNo, o_tyL, o_tyT, o_tyD, o_tyS, o_tyI, o_sl, o_slC, o_slS, o_slT, cutG_map, o_lsD, o_lsC, o_it, o_itC, o_itT, o_itS, o_app, o_ext, o_ins, o_pop, o_rev, o_clr, o_pos, o_posS, Option.bind_some, Option.map_some, List.length_map, if_true, Bool.not_false, Bool.not_true, Bool.false_bne, Bool.true_bne,  safe_sc, safe_lstF, safe_scr, safe_tup, safe_f, true_and, and_true, Option.some.injEq, exists_eq_left', exists_eq_left, decide_true, decide_false, Bool.false_eq_true, Bool.true_eq_false, reduceIte, Nat.zero_add, fz_lst, fz_dct, fz_ins, fz_sc, fz_lstF, fz_scr, Nat.zero_le, Nat.reduceLeDiff, Nat.reduceAdd, Nat.reduceLT, Int.reduceLT, Int.reduceLE, and_self, frz_lst, frz_dct, frz_dctF, frzL_ints, frzL_strs, frz_lstF, frz_scr, frz_tup, frz_sc, frzL_nil, frzL_cons, frzL_str, frzL_int, fzL_nil, fzL_cons, fzL_str, fzL_int, noC_sc, noC_lst, noC_tup, noC_dct, noCL_nil, noCL_cons, noCL_str, noCL_str2, noCL_int, Bool.and_self, Bool.and_true, Bool.true_and, List.append_nil, true_or, or_true, flat_str, flat_int, any_str, o_isiT, o_isiL, o_isiS, o_isiI, atI_0, atI_1, atI_2, atI_3, eqv_lst, eqv_tup, eqvL_nil, eqvL_cons, eqvL_str, eqv_str, eqS_int, ixN20, ixN21, fz_tup, Bool.false_and, Bool.and_false, o_posT, Int.cast_ofNat_Int, eq_self, dChain, dGin, dGix, o_gIn, o_gIx, o_mulI, o_mulS, dMake, dMethA, dMethL, dMethS, gDrop, slot0, o_insD, dRaise, dTryR, exM, dFld, pFl, dSfl, o_sflK, o_sflN, o_split, o_join, o_joinT, o_all]; exact q _
/-! ## a book -/
abbrev Rl := List Txt
abbrev ruD (r : Rl) : D := .nd .tup (r.map D.str)
abbrev rusD (o : Bool) (rs : List Rl) : D := .nd (.lst o) (rs.map ruD)
def elD : Option Txt → D
  | none => .non
  | some t => .str t
abbrev elsD (o : Bool) (E : List (Txt × Option Txt)) : D := .nd (.dct o (E.map fun x => Sum.inr x.1)) (E.map fun x => elD x.2)
abbrev ownD (o o2 : Bool) (O : List (Txt × List Rl)) : D := .nd (.dct o (O.map fun x => Sum.inr x.1)) (O.map fun x => rusD o2 x.2)
abbrev bkD (E : List (Txt × Option Txt)) (O : List (Txt × List Rl)) : D := .nd (.ins true 14) [elsD true E, ownD true true O]
theorem has_key {α : Type} (O : List (Txt × α)) (n : Txt) : hasK (O.map fun x => Sum.inr x.1) (Sum.inr n : DK) = decide (n ∈ O.map (·.1)) := by
  by_cases h : n ∈ O.map (·.1)
  · rw [decide_eq_true h]
    obtain ⟨x, hx, e⟩ := List.mem_map.mp h
    exact hasK_iff.mpr (List.mem_map.mpr ⟨x, hx, by rw [e]⟩)
  · rw [decide_eq_false h]
    refine Bool.eq_false_iff.mpr fun z => h ?_
    obtain ⟨x, hx, e⟩ := List.mem_map.mp (hasK_iff.mp z)
    exact List.mem_map.mpr ⟨x, hx, Sum.inr.inj e⟩
theorem pos_no {α : Type} {O : List (Txt × α)} {n : Txt} (h : n ∉ O.map (·.1)) : posOf (O.map fun x => Sum.inr x.1) (Sum.inr n : DK) = none := posOf_none.mpr fun z => by
  obtain ⟨x, hx, e⟩ := List.mem_map.mp z
  exact h (List.mem_map.mpr ⟨x, hx, Sum.inr.inj e⟩)
theorem begin_none {E : List (Txt × Option Txt)} {O : List (Txt × List Rl)} {nm : Txt} (h1 : nm ∉ E.map (·.1)) (h2 : nm ∉ O.map (·.1)) (h3 : E.length ≤ 1000) (h4 : O.length ≤ 1000) {Q : D → Sl → Prop} {X : EX → Sl → Prop}
    (q : ∀ env, env[0]? = some (some (bkD (E ++ [(nm, none)]) (O ++ [(nm, [])]))) → Q .non env) : sp_Book_begin [bkD E O, .str nm, .nd (.lst false) []] Q X := by
  rw [e_sp_Book_begin, e_b_Book_begin]
  have g1 : (false ^^ hasK (O.map fun x => Sum.inr x.1) (Sum.inr nm : DK)) = false := by rw [has_key, decide_eq_false h2]; rfl
  have ok0 : ∀ o, okE 8 (.nd (.lst o) []) = true := fun o => okE_lst fun _ z => by cases z
  have l1 : O.length < 1000000 := by omega
  have l2 : E.length < 1000000 := by omega
  simp only [pad, dNext, dSeq, dAsg, dFor, dEnum, dIt, dWhile, dIfS, dMS, dMA, dMN, dSub, dSfl, dRet, dRetV, dRetN, dRetT, dDrop, dBreak, dCont, dFz, fzS, dConsV, dCons, dNil, bCons, bNil, dVar, dC, dBin, dIx, dNeg, dCB, dMV, dTst, dAndT, dOrT, dNotT, dAnd, dOr, dNot, dIf, dLst, dLC, dLc, lcD, dYes, wipeD, dTup, dDct0, dLRev, dIsi, dSl, oNo, oSm, dCall, dCallL, gN, gTu, gsCons, gsNil, dRg1, dRg2, dRev, dZip, pVar, pIx, atP, getP, setP, unsetL, List.map_cons, List.map_nil, List.replicate_succ, List.replicate_zero, List.cons_append, List.nil_append, List.set_cons_zero, List.set_cons_succ, List.getElem?_cons_zero, List.getElem?_cons_succ, List.length_cons, List.length_nil, o_lt, o_ltS, o_gt, o_le, o_ge, o_add, o_addS, o_addL, o_addT, o_sub, o_mul, o_fdiv, o_mod, o_pow, o_eq, o_eqN, o_ne, o_neN, o_isB, o_isI, o_len, o_lenC, o_lenT, o_lenD, o_lenS, o_ix, o_ixC, o_ixT, o_ixS, o_ixDs, o_ixDi, o_put, o_inD, o_inDi, o_inL, o_inT, o_inS, o_idx, o_list, o_listC, o_listT, o_listD, o_tuple, o_tupleT, o_intI, o_intB, o_ord, o_str, o_max, o_min, o_isNo, o_tyL, o_tyT, o_tyD, o_tyS, o_tyI, o_sl, o_slC, o_slS, o_slT, cutG_map, o_lsD, o_lsC, o_it, o_itC, o_itT, o_itS, o_app, o_ext, o_ins, o_pop, o_rev, o_clr, o_pos, o_posS, Option.bind_some, Option.map_some, List.length_map, if_true, Bool.not_false, Bool.not_true, Bool.false_bne, Bool.true_bne,  safe_sc, safe_lstF, safe_scr, safe_tup, safe_f, true_and, and_true, Option.some.injEq, exists_eq_left', exists_eq_left, decide_true, decide_false, Bool.false_eq_true, Bool.true_eq_false, reduceIte, Nat.zero_add, fz_lst, fz_dct, fz_ins, fz_sc, fz_lstF, fz_scr, Nat.zero_le, Nat.reduceLeDiff, Nat.reduceAdd, Nat.reduceLT, Int.reduceLT, Int.reduceLE, and_self, frz_lst, frz_dct, frz_dctF, frzL_ints, frzL_strs, frz_lstF, frz_scr, frz_tup, frz_sc, frzL_nil, frzL_cons, frzL_str, frzL_int, fzL_nil, fzL_cons, fzL_str, fzL_int, noC_sc, noC_lst, noC_tup, noC_dct, noCL_nil, noCL_cons, noCL_str, noCL_str2, noCL_int, Bool.and_self, Bool.and_true, Bool.true_and, List.append_nil, true_or, or_true, flat_str, flat_int, any_str, o_isiT, o_isiL, o_isiS, o_isiI, atI_0, atI_1, atI_2, atI_3, eqv_lst, eqv_tup, eqvL_nil, eqvL_cons, eqvL_str, eqv_str, eqS_int, ixN20, ixN21, fz_tup, Bool.false_and, Bool.and_false, o_posT, Int.cast_ofNat_Int, eq_self, dChain, dGin, dGix, o_gIn, o_gIx, o_mulI, o_mulS, dMake, dMethA, dMethL, dMethS, gDrop, slot0, o_insD, dRaise, dTryR, exM, dFld, pFl, dSfl, o_sflK, o_sflN, o_split, o_join, o_joinT, o_all, g1, o_putNs (pos_no h1), o_putNs (pos_no h2), l1, l2, ok0]
  refine q _ ?_
  simp [elD]
theorem begin_elder {E : List (Txt × Option Txt)} {O : List (Txt × List Rl)} {nm el : Txt} (h1 : nm ∉ E.map (·.1)) (h2 : nm ∉ O.map (·.1)) (hnd : (E.map (·.1)).Nodup) (h3 : E.length ≤ 1000) (h4 : O.length ≤ 1000) (hk : okT el) {Q : D → Sl → Prop} {X : EX → Sl → Prop}
    (q : ∀ env, env[0]? = some (some (bkD (E ++ [(nm, some el)]) (O ++ [(nm, [])]))) → Q .non env) : sp_Book_begin [bkD E O, .str nm, .nd (.lst false) [.str wOf, .str el]] Q X := by
  rw [e_sp_Book_begin, e_b_Book_begin]
  have g1 : (false ^^ hasK (O.map fun x => Sum.inr x.1) (Sum.inr nm : DK)) = false := by rw [has_key, decide_eq_false h2]; rfl
  have ok0 : okE 8 (.nd (.lst true) []) = true := okE_lst fun _ z => by cases z
  have ok1 : okE 8 (.nd (.lst false) [.str wOf, .str el]) = true := okE_lst fun x hx => by
    rcases List.mem_cons.mp hx with z | z
    · rw [z]; exact okE_str (by decide)
    · rw [List.mem_singleton.mp z]; exact okE_str hk
  have ne1 : eqvL [D.str wOf, D.str el] [] = false := by simp [eqvL]
  have l1 : O.length < 1000000 := by omega
  have l2 : E.length < 1000000 := by omega
  have l3 : E.length + 1 < 1000000 := by omega
  have pk : posOf (E.map (fun x => Sum.inr x.1) ++ [Sum.inr nm]) (Sum.inr nm : DK) = some E.length := by
    have : ∀ E : List (Txt × Option Txt), nm ∉ E.map (·.1) → posOf (E.map (fun x => Sum.inr x.1) ++ [Sum.inr nm]) (Sum.inr nm : DK) = some E.length := by
      intro E
      induction E with
      | nil => intro _; simp [posOf]
      | cons x r ih =>
        intro h
        have hne : ¬ (Sum.inr x.1 : DK) = Sum.inr nm := fun z => h (by rw [List.map_cons, Sum.inr.inj z]; exact List.mem_cons_self)
        rw [List.map_cons, List.cons_append, posOf, if_neg hne, ih fun z => h (List.mem_cons_of_mem _ z)]
        rfl
    exact this E h1
  have ndk : (E.map (fun x => Sum.inr x.1) ++ [Sum.inr nm] : List DK).Nodup := by
    have e : (E.map (fun x => Sum.inr x.1) ++ [Sum.inr nm] : List DK) = (E.map (·.1) ++ [nm]).map Sum.inr := by simp
    rw [e]
    have nd : (E.map (·.1) ++ [nm]).Nodup := List.nodup_append.mpr ⟨hnd, by simp, fun x hx y hy e => h1 (by rw [List.mem_singleton.mp hy] at e; rw [← e]; exact hx)⟩
    rw [List.nodup_iff_pairwise_ne, List.pairwise_map]
    exact nd.imp fun h z => h (Sum.inr.inj z)
  simp only [pad, dNext, dSeq, dAsg, dFor, dEnum, dIt, dWhile, dIfS, dMS, dMA, dMN, dSub, dSfl, dRet, dRetV, dRetN, dRetT, dDrop, dBreak, dCont, dFz, fzS, dConsV, dCons, dNil, bCons, bNil, dVar, dC, dBin, dIx, dNeg, dCB, dMV, dTst, dAndT, dOrT, dNotT, dAnd, dOr, dNot, dIf, dLst, dLC, dLc, lcD, dYes, wipeD, dTup, dDct0, dLRev, dIsi, dSl, oNo, oSm, dCall, dCallL, gN, gTu, gsCons, gsNil, dRg1, dRg2, dRev, dZip, pVar, pIx, atP, getP, setP, unsetL, List.map_cons, List.map_nil, List.replicate_succ, List.replicate_zero, List.cons_append, List.nil_append, List.set_cons_zero, List.set_cons_succ, List.getElem?_cons_zero, List.getElem?_cons_succ, List.length_cons, List.length_nil, o_lt, o_ltS, o_gt, o_le, o_ge, o_add, o_addS, o_addL, o_addT, o_sub, o_mul, o_fdiv, o_mod, o_pow, o_eq, o_eqN, o_ne, o_neN, o_isB, o_isI, o_len, o_lenC, o_lenT, o_lenD, o_lenS, o_ix, o_ixC, o_ixT, o_ixS, o_ixDs, o_ixDi, o_put, o_inD, o_inDi, o_inL, o_inT, o_inS, o_idx, o_list, o_listC, o_listT, o_listD, o_tuple, o_tupleT, o_intI, o_intB, o_ord, o_str, o_max, o_min, o_isNo, o_tyL, o_tyT, o_tyD, o_tyS, o_tyI, o_sl, o_slC, o_slS, o_slT, cutG_map, o_lsD, o_lsC, o_it, o_itC, o_itT, o_itS, o_app, o_ext, o_ins, o_pop, o_rev, o_clr, o_pos, o_posS, Option.bind_some, Option.map_some, List.length_map, if_true, Bool.not_false, Bool.not_true, Bool.false_bne, Bool.true_bne,  safe_sc, safe_lstF, safe_scr, safe_tup, safe_f, true_and, and_true, Option.some.injEq, exists_eq_left', exists_eq_left, decide_true, decide_false, Bool.false_eq_true, Bool.true_eq_false, reduceIte, Nat.zero_add, fz_lst, fz_dct, fz_ins, fz_sc, fz_lstF, fz_scr, Nat.zero_le, Nat.reduceLeDiff, Nat.reduceAdd, Nat.reduceLT, Int.reduceLT, Int.reduceLE, and_self, frz_lst, frz_dct, frz_dctF, frzL_ints, frzL_strs, frz_lstF, frz_scr, frz_tup, frz_sc, frzL_nil, frzL_cons, frzL_str, frzL_int, fzL_nil, fzL_cons, fzL_str, fzL_int, noC_sc, noC_lst, noC_tup, noC_dct, noCL_nil, noCL_cons, noCL_str, noCL_str2, noCL_int, Bool.and_self, Bool.and_true, Bool.true_and, List.append_nil, true_or, or_true, flat_str, flat_int, any_str, o_isiT, o_isiL, o_isiS, o_isiI, atI_0, atI_1, atI_2, atI_3, eqv_lst, eqv_tup, eqvL_nil, eqvL_cons, eqvL_str, eqv_str, eqS_int, ixN20, ixN21, fz_tup, Bool.false_and, Bool.and_false, o_posT, Int.cast_ofNat_Int, eq_self, dChain, dGin, dGix, o_gIn, o_gIx, o_mulI, o_mulS, dMake, dMethA, dMethL, dMethS, gDrop, slot0, o_insD, dRaise, dTryR, exM, dFld, pFl, dSfl, o_sflK, o_sflN, o_split, o_join, o_joinT, o_all, g1, o_putNs (pos_no h1), o_putNs (pos_no h2), l1, l2, ok0, ok1, ne1, l3]
  rw [o_putK (a := .str nm) (k := Sum.inr nm) rfl pk]
  refine ⟨by rw [List.length_append, List.length_map, List.length_singleton]; exact l3, ndk, q _ ?_⟩
  simp [elD]
end LW

set_option Elab.async false
set_option linter.all false
set_option maxRecDepth 100000
set_option maxHeartbeats 2000000
namespace LW
open L2 DL TL
/-! ## the lines of a book -/
inductive Ln where
  | beg (nm : Txt) (el : Option Txt)
  | rule (w : Txt) (ps : List Txt)
def Ln.words : Ln → List Txt
  | .beg nm none => [wOrder, nm]
  | .beg nm (some e) => [wOrder, nm, wOf, e]
  | .rule w ps => w :: ps
def Ln.line (l : Ln) : Txt := joinL [32] l.words
def plainT (t : Txt) : Prop := t.length ≤ 1000 ∧ 32 ∉ t ∧ 10 ∉ t ∧ okT t
def Ln.ok : Ln → Prop
  | .beg nm none => isName nm = true ∧ plainT nm
  | .beg nm (some e) => isName nm = true ∧ plainT nm ∧ isName e = true ∧ plainT e
  | .rule w ps => w ≠ wOrder ∧ plainT w ∧ (∃ least : Nat, lkT tab_LEAST w = some (.int least) ∧ least ≤ ps.length ∧ (least = 0 → ps = [])) ∧ (∀ p ∈ ps, isPiece p = true ∧ plainT p) ∧ ps.length ≤ 100
theorem Ln.split {l : Ln} (h : l.ok) : spl [32] 0 [] l.line = l.words := by
  unfold Ln.line
  have e32 : (32 : Nat) ∉ wOrder ∧ (32 : Nat) ∉ wOf := by decide
  cases l with
  | beg nm el =>
    cases el with
    | none =>
      refine spl_join (s := 32) (S := []) (by simp [Ln.words]) fun p hp => ?_
      simp only [Ln.words, List.mem_cons, List.not_mem_nil, or_false] at hp
      rcases hp with z | z
      · rw [z]; exact e32.1
      · rw [z]; exact h.2.2.1
    | some e =>
      refine spl_join (s := 32) (S := []) (by simp [Ln.words]) fun p hp => ?_
      simp only [Ln.words, List.mem_cons, List.not_mem_nil, or_false] at hp
      rcases hp with z | z | z | z
      · rw [z]; exact e32.1
      · rw [z]; exact h.2.1.2.1
      · rw [z]; exact e32.2
      · rw [z]; exact h.2.2.2.2.1
  | rule w ps =>
    refine spl_join (s := 32) (S := []) (by simp [Ln.words]) fun p hp => ?_
    rcases List.mem_cons.mp hp with z | z
    · rw [z]; exact h.2.1.2.1
    · exact (h.2.2.2.1 p z).2.2.1
end LW

set_option Elab.async false
set_option linter.all false
set_option maxRecDepth 100000
set_option maxHeartbeats 2000000
namespace LW
open L2 DL TL
theorem pos_last {α : Type} : ∀ {O : List (Txt × α)} {n : Txt}, n ∉ O.map (·.1) → posOf (O.map (fun x => Sum.inr x.1) ++ [Sum.inr n]) (Sum.inr n : DK) = some O.length
  | [], n, _ => by simp [posOf]
  | x :: r, n, h => by
    have hne : ¬ (Sum.inr x.1 : DK) = Sum.inr n := fun z => h (by rw [List.map_cons, Sum.inr.inj z]; exact List.mem_cons_self)
    rw [List.map_cons, List.cons_append, posOf, if_neg hne, pos_last fun z => h (List.mem_cons_of_mem _ z)]
    rfl
theorem rule_step (Dd : ED) (c1 c2 c4 c5 c6 : Option D) {E : List (Txt × Option Txt)} {O : List (Txt × List Rl)} {cur w : Txt} {rs : List Rl} {ps : List Txt} {k : Int} (hc : cur ∉ O.map (·.1)) (h : (Ln.rule w ps).ok) (hl : (Ln.rule w ps).line.length ≤ 1000000) (hr : rs.length ≤ 1000)
    (q : ∀ c6, Dd.nx [some (bkD E (O ++ [(cur, rs ++ [w :: ps])])), c1, c2, some (.str cur), some (.int k), some (.str (Ln.rule w ps).line), c6]) :
    lb_Book_init_0 Dd [some (bkD E (O ++ [(cur, rs)])), c1, c2, some (.str cur), some (.int k), some (.str (Ln.rule w ps).line), c6] := by
  have hs := Ln.split h
  have hw : (Ln.rule w ps).words = w :: ps := rfl
  rw [hw] at hs
  generalize (Ln.rule w ps).line = line at hs hl q ⊢
  obtain ⟨h1, h2, ⟨least, h3, h4, h5⟩, h6, h7⟩ := h
  have g2 : ([32] : Txt) ≠ [] := by decide
  have g3 : ∀ c ∈ ([32] : Txt), c < 256 := by decide
  have g4 : line.length ≤ 16000000 := by omega
  rw [e_lb_Book_init_0]
  simp only [pad, dNext, dSeq, dAsg, dFor, dEnum, dIt, dWhile, dIfS, dMS, dMA, dMN, dSub, dSfl, dRet, dRetV, dRetN, dRetT, dDrop, dBreak, dCont, dFz, fzS, dConsV, dCons, dNil, bCons, bNil, dVar, dC, dBin, dIx, dNeg, dCB, dMV, dTst, dAndT, dOrT, dNotT, dAnd, dOr, dNot, dIf, dLst, dLC, dLc, lcD, dYes, wipeD, dTup, dDct0, dLRev, dIsi, dSl, oNo, oSm, dCall, dCallL, gN, gTu, gsCons, gsNil, dRg1, dRg2, dRev, dZip, pVar, pIx, atP, getP, setP, unsetL, List.map_cons, List.map_nil, List.replicate_succ, List.replicate_zero, List.cons_append, List.nil_append, List.set_cons_zero, List.set_cons_succ, List.getElem?_cons_zero, List.getElem?_cons_succ, List.length_cons, List.length_nil, o_lt, o_ltS, o_gt, o_le, o_ge, o_add, o_addS, o_addL, o_addT, o_sub, o_mul, o_fdiv, o_mod, o_pow, o_eq, o_eqN, o_ne, o_neN, o_isB, o_isI, o_len, o_lenC, o_lenT, o_lenD, o_lenS, o_ix, o_ixC, o_ixT, o_ixS, o_ixDs, o_ixDi, o_put, o_inD, o_inDi, o_inL, o_inT, o_inS, o_idx, o_list, o_listC, o_listT, o_listD, o_tuple, o_tupleT, o_intI, o_intB, o_ord, o_str, o_max, o_min, o_isNo, o_tyL, o_tyT, o_tyD, o_tyS, o_tyI, o_sl, o_slC, o_slS, o_slT, cutG_map, o_lsD, o_lsC, o_it, o_itC, o_itT, o_itS, o_app, o_ext, o_ins, o_pop, o_rev, o_clr, o_pos, o_posS, Option.bind_some, Option.map_some, List.length_map, if_true, Bool.not_false, Bool.not_true, Bool.false_bne, Bool.true_bne,  safe_sc, safe_lstF, safe_scr, safe_tup, safe_f, true_and, and_true, Option.some.injEq, exists_eq_left', exists_eq_left, decide_true, decide_false, Bool.false_eq_true, Bool.true_eq_false, reduceIte, Nat.zero_add, fz_lst, fz_dct, fz_ins, fz_sc, fz_lstF, fz_scr, Nat.zero_le, Nat.reduceLeDiff, Nat.reduceAdd, Nat.reduceLT, Int.reduceLT, Int.reduceLE, and_self, frz_lst, frz_dct, frz_dctF, frzL_ints, frzL_strs, frz_lstF, frz_scr, frz_tup, frz_sc, frzL_nil, frzL_cons, frzL_str, frzL_int, fzL_nil, fzL_cons, fzL_str, fzL_int, noC_sc, noC_lst, noC_tup, noC_dct, noCL_nil, noCL_cons, noCL_str, noCL_str2, noCL_int, Bool.and_self, Bool.and_true, Bool.true_and, List.append_nil, true_or, or_true, flat_str, flat_int, any_str, o_isiT, o_isiL, o_isiS, o_isiI, atI_0, atI_1, atI_2, atI_3, eqv_lst, eqv_tup, eqvL_nil, eqvL_cons, eqvL_str, eqv_str, eqS_int, ixN20, ixN21, fz_tup, Bool.false_and, Bool.and_false, o_posT, Int.cast_ofNat_Int, eq_self, dChain, dGin, dGix, o_gIn, o_gIx, o_mulI, o_mulS, dMake, dMethA, dMethL, dMethS, gDrop, slot0, o_insD, dRaise, dTryR, exM, dFld, pFl, dSfl, o_sflK, o_sflN, o_split, o_join, o_joinT, o_all, hs, g2, g4, ne_eq, not_false_eq_true]
  refine ⟨g3, ?_⟩
  rw [← List.map_cons]
  refine begins_no h1 fun env => ?_
  have i1 : decide (Sc.str cur = Sc.non) = false := by simp
  have p1 := pos_last (α := List Rl) hc
  have a1 : (O.map (fun x => Sum.inr x.1) ++ [Sum.inr cur] : List DK) = (O ++ [(cur, rs)]).map fun x => Sum.inr x.1 := by simp
  rw [a1] at p1
  have a2 : ((O ++ [(cur, rs)]).map fun x => rusD true x.2)[O.length]? = some (rusD true rs) := by simp
  have r1 : rs.length < 1000000 := by omega
  simp only [pad, dNext, dSeq, dAsg, dFor, dEnum, dIt, dWhile, dIfS, dMS, dMA, dMN, dSub, dSfl, dRet, dRetV, dRetN, dRetT, dDrop, dBreak, dCont, dFz, fzS, dConsV, dCons, dNil, bCons, bNil, dVar, dC, dBin, dIx, dNeg, dCB, dMV, dTst, dAndT, dOrT, dNotT, dAnd, dOr, dNot, dIf, dLst, dLC, dLc, lcD, dYes, wipeD, dTup, dDct0, dLRev, dIsi, dSl, oNo, oSm, dCall, dCallL, gN, gTu, gsCons, gsNil, dRg1, dRg2, dRev, dZip, pVar, pIx, atP, getP, setP, unsetL, List.map_cons, List.map_nil, List.replicate_succ, List.replicate_zero, List.cons_append, List.nil_append, List.set_cons_zero, List.set_cons_succ, List.getElem?_cons_zero, List.getElem?_cons_succ, List.length_cons, List.length_nil, o_lt, o_ltS, o_gt, o_le, o_ge, o_add, o_addS, o_addL, o_addT, o_sub, o_mul, o_fdiv, o_mod, o_pow, o_eq, o_eqN, o_ne, o_neN, o_isB, o_isI, o_len, o_lenC, o_lenT, o_lenD, o_lenS, o_ix, o_ixC, o_ixT, o_ixS, o_ixDs, o_ixDi, o_put, o_inD, o_inDi, o_inL, o_inT, o_inS, o_idx, o_list, o_listC, o_listT, o_listD, o_tuple, o_tupleT, o_intI, o_intB, o_ord, o_str, o_max, o_min, o_isNo, o_tyL, o_tyT, o_tyD, o_tyS, o_tyI, o_sl, o_slC, o_slS, o_slT, cutG_map, o_lsD, o_lsC, o_it, o_itC, o_itT, o_itS, o_app, o_ext, o_ins, o_pop, o_rev, o_clr, o_pos, o_posS, Option.bind_some, Option.map_some, List.length_map, if_true, Bool.not_false, Bool.not_true, Bool.false_bne, Bool.true_bne,  safe_sc, safe_lstF, safe_scr, safe_tup, safe_f, true_and, and_true, Option.some.injEq, exists_eq_left', exists_eq_left, decide_true, decide_false, Bool.false_eq_true, Bool.true_eq_false, reduceIte, Nat.zero_add, fz_lst, fz_dct, fz_ins, fz_sc, fz_lstF, fz_scr, Nat.zero_le, Nat.reduceLeDiff, Nat.reduceAdd, Nat.reduceLT, Int.reduceLT, Int.reduceLE, and_self, frz_lst, frz_dct, frz_dctF, frzL_ints, frzL_strs, frz_lstF, frz_scr, frz_tup, frz_sc, frzL_nil, frzL_cons, frzL_str, frzL_int, fzL_nil, fzL_cons, fzL_str, fzL_int, noC_sc, noC_lst, noC_tup, noC_dct, noCL_nil, noCL_cons, noCL_str, noCL_str2, noCL_int, Bool.and_self, Bool.and_true, Bool.true_and, List.append_nil, true_or, or_true, flat_str, flat_int, any_str, o_isiT, o_isiL, o_isiS, o_isiI, atI_0, atI_1, atI_2, atI_3, eqv_lst, eqv_tup, eqvL_nil, eqvL_cons, eqvL_str, eqv_str, eqS_int, ixN20, ixN21, fz_tup, Bool.false_and, Bool.and_false, o_posT, Int.cast_ofNat_Int, eq_self, dChain, dGin, dGix, o_gIn, o_gIx, o_mulI, o_mulS, dMake, dMethA, dMethL, dMethS, gDrop, slot0, o_insD, dRaise, dTryR, exM, dFld, pFl, dSfl, o_sflK, o_sflN, o_split, o_join, o_joinT, o_all, i1, p1, a2]
  refine read_at_d hs hl h3 h4 h5 (fun p hp => (h6 p hp).1) (fun p hp => (h6 p hp).2.1) (by omega) fun env => ?_
  simp only [pad, dNext, dSeq, dAsg, dFor, dEnum, dIt, dWhile, dIfS, dMS, dMA, dMN, dSub, dSfl, dRet, dRetV, dRetN, dRetT, dDrop, dBreak, dCont, dFz, fzS, dConsV, dCons, dNil, bCons, bNil, dVar, dC, dBin, dIx, dNeg, dCB, dMV, dTst, dAndT, dOrT, dNotT, dAnd, dOr, dNot, dIf, dLst, dLC, dLc, lcD, dYes, wipeD, dTup, dDct0, dLRev, dIsi, dSl, oNo, oSm, dCall, dCallL, gN, gTu, gsCons, gsNil, dRg1, dRg2, dRev, dZip, pVar, pIx, atP, getP, setP, unsetL, List.map_cons, List.map_nil, List.replicate_succ, List.replicate_zero, List.cons_append, List.nil_append, List.set_cons_zero, List.set_cons_succ, List.getElem?_cons_zero, List.getElem?_cons_succ, List.length_cons, List.length_nil, o_lt, o_ltS, o_gt, o_le, o_ge, o_add, o_addS, o_addL, o_addT, o_sub, o_mul, o_fdiv, o_mod, o_pow, o_eq, o_eqN, o_ne, o_neN, o_isB, o_isI, o_len, o_lenC, o_lenT, o_lenD, o_lenS, o_ix, o_ixC, o_ixT, o_ixS, o_ixDs, o_ixDi, o_put, o_inD, o_inDi, o_inL, o_inT, o_inS, o_idx, o_list, o_listC, o_listT, o_listD, o_tuple, o_tupleT, o_intI, o_intB, o_ord, o_str, o_max, o_min, o_isNo, o_tyL, o_tyT, o_tyD, o_tyS, o_tyI, o_sl, o_slC, o_slS, o_slT, cutG_map, o_lsD, o_lsC, o_it, o_itC, o_itT, o_itS, o_app, o_ext, o_ins, o_pop, o_rev, o_clr, o_pos, o_posS, Option.bind_some, Option.map_some, List.length_map, if_true, Bool.not_false, Bool.not_true, Bool.false_bne, Bool.true_bne,  safe_sc, safe_lstF, safe_scr, safe_tup, safe_f, true_and, and_true, Option.some.injEq, exists_eq_left', exists_eq_left, decide_true, decide_false, Bool.false_eq_true, Bool.true_eq_false, reduceIte, Nat.zero_add, fz_lst, fz_dct, fz_ins, fz_sc, fz_lstF, fz_scr, Nat.zero_le, Nat.reduceLeDiff, Nat.reduceAdd, Nat.reduceLT, Int.reduceLT, Int.reduceLE, and_self, frz_lst, frz_dct, frz_dctF, frzL_ints, frzL_strs, frz_lstF, frz_scr, frz_tup, frz_sc, frzL_nil, frzL_cons, frzL_str, frzL_int, fzL_nil, fzL_cons, fzL_str, fzL_int, noC_sc, noC_lst, noC_tup, noC_dct, noCL_nil, noCL_cons, noCL_str, noCL_str2, noCL_int, Bool.and_self, Bool.and_true, Bool.true_and, List.append_nil, true_or, or_true, flat_str, flat_int, any_str, o_isiT, o_isiL, o_isiS, o_isiI, atI_0, atI_1, atI_2, atI_3, eqv_lst, eqv_tup, eqvL_nil, eqvL_cons, eqvL_str, eqv_str, eqS_int, ixN20, ixN21, fz_tup, Bool.false_and, Bool.and_false, o_posT, Int.cast_ofNat_Int, eq_self, dChain, dGin, dGix, o_gIn, o_gIx, o_mulI, o_mulS, dMake, dMethA, dMethL, dMethS, gDrop, slot0, o_insD, dRaise, dTryR, exM, dFld, pFl, dSfl, o_sflK, o_sflN, o_split, o_join, o_joinT, o_all, p1, a2, r1]
  have e2 : ownD true true (O ++ [(cur, rs ++ [w :: ps])]) = .nd (.dct true ((O ++ [(cur, rs)]).map fun x => Sum.inr x.1)) (((O ++ [(cur, rs)]).map fun x => rusD true x.2).set O.length (.nd (.lst true) (rs.map ruD ++ [.nd .tup (D.str w :: ps.map D.str)]))) := by simp
  have := q (some (.lst true (D.str w :: ps.map D.str)))
  rw [show bkD E (O ++ [(cur, rs ++ [w :: ps])]) = .nd (.ins true 14) [elsD true E, ownD true true (O ++ [(cur, rs ++ [w :: ps])])] from rfl, e2] at this
  exact this
theorem beg_step (Dd : ED) (c1 c2 c3 c4 c6 : Option D) {E : List (Txt × Option Txt)} {O : List (Txt × List Rl)} {nm : Txt} {el : Option Txt} {k : Int} (h1 : nm ∉ E.map (·.1)) (h2 : nm ∉ O.map (·.1)) (hnd : (E.map (·.1)).Nodup) (hE : E.length ≤ 1000) (hO : O.length ≤ 1000) (h : (Ln.beg nm el).ok) (hl : (Ln.beg nm el).line.length ≤ 1000000)
    (q : ∀ c6, Dd.nx [some (bkD (E ++ [(nm, el)]) (O ++ [(nm, [])])), c1, c2, some (.str nm), some (.int k), some (.str (Ln.beg nm el).line), c6]) :
    lb_Book_init_0 Dd [some (bkD E O), c1, c2, c3, some (.int k), some (.str (Ln.beg nm el).line), c6] := by
  have hs := Ln.split h
  generalize (Ln.beg nm el).line = line at hs hl q ⊢
  have g2 : ([32] : Txt) ≠ [] := by decide
  have g3 : ∀ c ∈ ([32] : Txt), c < 256 := by decide
  have g4 : line.length ≤ 16000000 := by omega
  rw [e_lb_Book_init_0]
  cases el with
  | none =>
    have hw : (Ln.beg nm none).words = [wOrder, nm] := rfl
    rw [hw] at hs
    have ec : cutG [D.str wOrder, D.str nm] (some 2) none = [] := by simp [cutG, HT.sIx]
    have st : stb (.lst true) [D.str wOrder, D.str nm] = true := stb_lst rfl
    simp only [pad, dNext, dSeq, dAsg, dFor, dEnum, dIt, dWhile, dIfS, dMS, dMA, dMN, dSub, dSfl, dRet, dRetV, dRetN, dRetT, dDrop, dBreak, dCont, dFz, fzS, dConsV, dCons, dNil, bCons, bNil, dVar, dC, dBin, dIx, dNeg, dCB, dMV, dTst, dAndT, dOrT, dNotT, dAnd, dOr, dNot, dIf, dLst, dLC, dLc, lcD, dYes, wipeD, dTup, dDct0, dLRev, dIsi, dSl, oNo, oSm, dCall, dCallL, gN, gTu, gsCons, gsNil, dRg1, dRg2, dRev, dZip, pVar, pIx, atP, getP, setP, unsetL, List.map_cons, List.map_nil, List.replicate_succ, List.replicate_zero, List.cons_append, List.nil_append, List.set_cons_zero, List.set_cons_succ, List.getElem?_cons_zero, List.getElem?_cons_succ, List.length_cons, List.length_nil, o_lt, o_ltS, o_gt, o_le, o_ge, o_add, o_addS, o_addL, o_addT, o_sub, o_mul, o_fdiv, o_mod, o_pow, o_eq, o_eqN, o_ne, o_neN, o_isB, o_isI, o_len, o_lenC, o_lenT, o_lenD, o_lenS, o_ix, o_ixC, o_ixT, o_ixS, o_ixDs, o_ixDi, o_put, o_inD, o_inDi, o_inL, o_inT, o_inS, o_idx, o_list, o_listC, o_listT, o_listD, o_tuple, o_tupleT, o_intI, o_intB, o_ord, o_str, o_max, o_min, o_isNo, o_tyL, o_tyT, o_tyD, o_tyS, o_tyI, o_sl, o_slC, o_slS, o_slT, cutG_map, o_lsD, o_lsC, o_it, o_itC, o_itT, o_itS, o_app, o_ext, o_ins, o_pop, o_rev, o_clr, o_pos, o_posS, Option.bind_some, Option.map_some, List.length_map, if_true, Bool.not_false, Bool.not_true, Bool.false_bne, Bool.true_bne,  safe_sc, safe_lstF, safe_scr, safe_tup, safe_f, true_and, and_true, Option.some.injEq, exists_eq_left', exists_eq_left, decide_true, decide_false, Bool.false_eq_true, Bool.true_eq_false, reduceIte, Nat.zero_add, fz_lst, fz_dct, fz_ins, fz_sc, fz_lstF, fz_scr, Nat.zero_le, Nat.reduceLeDiff, Nat.reduceAdd, Nat.reduceLT, Int.reduceLT, Int.reduceLE, and_self, frz_lst, frz_dct, frz_dctF, frzL_ints, frzL_strs, frz_lstF, frz_scr, frz_tup, frz_sc, frzL_nil, frzL_cons, frzL_str, frzL_int, fzL_nil, fzL_cons, fzL_str, fzL_int, noC_sc, noC_lst, noC_tup, noC_dct, noCL_nil, noCL_cons, noCL_str, noCL_str2, noCL_int, Bool.and_self, Bool.and_true, Bool.true_and, List.append_nil, true_or, or_true, flat_str, flat_int, any_str, o_isiT, o_isiL, o_isiS, o_isiI, atI_0, atI_1, atI_2, atI_3, eqv_lst, eqv_tup, eqvL_nil, eqvL_cons, eqvL_str, eqv_str, eqS_int, ixN20, ixN21, fz_tup, Bool.false_and, Bool.and_false, o_posT, Int.cast_ofNat_Int, eq_self, dChain, dGin, dGix, o_gIn, o_gIx, o_mulI, o_mulS, dMake, dMethA, dMethL, dMethS, gDrop, slot0, o_insD, dRaise, dTryR, exM, dFld, pFl, dSfl, o_sflK, o_sflN, o_split, o_join, o_joinT, o_all, hs, g2, g4, ne_eq, not_false_eq_true]
    refine ⟨g3, begins_two h.1 h.2.1 fun env => ?_⟩
    simp only [pad, dNext, dSeq, dAsg, dFor, dEnum, dIt, dWhile, dIfS, dMS, dMA, dMN, dSub, dSfl, dRet, dRetV, dRetN, dRetT, dDrop, dBreak, dCont, dFz, fzS, dConsV, dCons, dNil, bCons, bNil, dVar, dC, dBin, dIx, dNeg, dCB, dMV, dTst, dAndT, dOrT, dNotT, dAnd, dOr, dNot, dIf, dLst, dLC, dLc, lcD, dYes, wipeD, dTup, dDct0, dLRev, dIsi, dSl, oNo, oSm, dCall, dCallL, gN, gTu, gsCons, gsNil, dRg1, dRg2, dRev, dZip, pVar, pIx, atP, getP, setP, unsetL, List.map_cons, List.map_nil, List.replicate_succ, List.replicate_zero, List.cons_append, List.nil_append, List.set_cons_zero, List.set_cons_succ, List.getElem?_cons_zero, List.getElem?_cons_succ, List.length_cons, List.length_nil, o_lt, o_ltS, o_gt, o_le, o_ge, o_add, o_addS, o_addL, o_addT, o_sub, o_mul, o_fdiv, o_mod, o_pow, o_eq, o_eqN, o_ne, o_neN, o_isB, o_isI, o_len, o_lenC, o_lenT, o_lenD, o_lenS, o_ix, o_ixC, o_ixT, o_ixS, o_ixDs, o_ixDi, o_put, o_inD, o_inDi, o_inL, o_inT, o_inS, o_idx, o_list, o_listC, o_listT, o_listD, o_tuple, o_tupleT, o_intI, o_intB, o_ord, o_str, o_max, o_min, o_isNo, o_tyL, o_tyT, o_tyD, o_tyS, o_tyI, o_sl, o_slC, o_slS, o_slT, cutG_map, o_lsD, o_lsC, o_it, o_itC, o_itT, o_itS, o_app, o_ext, o_ins, o_pop, o_rev, o_clr, o_pos, o_posS, Option.bind_some, Option.map_some, List.length_map, if_true, Bool.not_false, Bool.not_true, Bool.false_bne, Bool.true_bne,  safe_sc, safe_lstF, safe_scr, safe_tup, safe_f, true_and, and_true, Option.some.injEq, exists_eq_left', exists_eq_left, decide_true, decide_false, Bool.false_eq_true, Bool.true_eq_false, reduceIte, Nat.zero_add, fz_lst, fz_dct, fz_ins, fz_sc, fz_lstF, fz_scr, Nat.zero_le, Nat.reduceLeDiff, Nat.reduceAdd, Nat.reduceLT, Int.reduceLT, Int.reduceLE, and_self, frz_lst, frz_dct, frz_dctF, frzL_ints, frzL_strs, frz_lstF, frz_scr, frz_tup, frz_sc, frzL_nil, frzL_cons, frzL_str, frzL_int, fzL_nil, fzL_cons, fzL_str, fzL_int, noC_sc, noC_lst, noC_tup, noC_dct, noCL_nil, noCL_cons, noCL_str, noCL_str2, noCL_int, Bool.and_self, Bool.and_true, Bool.true_and, List.append_nil, true_or, or_true, flat_str, flat_int, any_str, o_isiT, o_isiL, o_isiS, o_isiI, atI_0, atI_1, atI_2, atI_3, eqv_lst, eqv_tup, eqvL_nil, eqvL_cons, eqvL_str, eqv_str, eqS_int, ixN20, ixN21, fz_tup, Bool.false_and, Bool.and_false, o_posT, Int.cast_ofNat_Int, eq_self, dChain, dGin, dGix, o_gIn, o_gIx, o_mulI, o_mulS, dMake, dMethA, dMethL, dMethS, gDrop, slot0, o_insD, dRaise, dTryR, exM, dFld, pFl, dSfl, o_sflK, o_sflN, o_split, o_join, o_joinT, o_all, ec, st]
    refine begin_none h1 h2 hE hO fun env2 he => ?_
    simp only [he]
    exact q _
  | some e =>
    have hw : (Ln.beg nm (some e)).words = [wOrder, nm, wOf, e] := rfl
    rw [hw] at hs
    have ec : cutG [D.str wOrder, D.str nm, D.str wOf, D.str e] (some 2) none = [D.str wOf, D.str e] := by simp [cutG, HT.sIx]
    have st : stb (.lst true) [D.str wOrder, D.str nm, D.str wOf, D.str e] = true := stb_lst rfl
    simp only [pad, dNext, dSeq, dAsg, dFor, dEnum, dIt, dWhile, dIfS, dMS, dMA, dMN, dSub, dSfl, dRet, dRetV, dRetN, dRetT, dDrop, dBreak, dCont, dFz, fzS, dConsV, dCons, dNil, bCons, bNil, dVar, dC, dBin, dIx, dNeg, dCB, dMV, dTst, dAndT, dOrT, dNotT, dAnd, dOr, dNot, dIf, dLst, dLC, dLc, lcD, dYes, wipeD, dTup, dDct0, dLRev, dIsi, dSl, oNo, oSm, dCall, dCallL, gN, gTu, gsCons, gsNil, dRg1, dRg2, dRev, dZip, pVar, pIx, atP, getP, setP, unsetL, List.map_cons, List.map_nil, List.replicate_succ, List.replicate_zero, List.cons_append, List.nil_append, List.set_cons_zero, List.set_cons_succ, List.getElem?_cons_zero, List.getElem?_cons_succ, List.length_cons, List.length_nil, o_lt, o_ltS, o_gt, o_le, o_ge, o_add, o_addS, o_addL, o_addT, o_sub, o_mul, o_fdiv, o_mod, o_pow, o_eq, o_eqN, o_ne, o_neN, o_isB, o_isI, o_len, o_lenC, o_lenT, o_lenD, o_lenS, o_ix, o_ixC, o_ixT, o_ixS, o_ixDs, o_ixDi, o_put, o_inD, o_inDi, o_inL, o_inT, o_inS, o_idx, o_list, o_listC, o_listT, o_listD, o_tuple, o_tupleT, o_intI, o_intB, o_ord, o_str, o_max, o_min, o_isNo, o_tyL, o_tyT, o_tyD, o_tyS, o_tyI, o_sl, o_slC, o_slS, o_slT, cutG_map, o_lsD, o_lsC, o_it, o_itC, o_itT, o_itS, o_app, o_ext, o_ins, o_pop, o_rev, o_clr, o_pos, o_posS, Option.bind_some, Option.map_some, List.length_map, if_true, Bool.not_false, Bool.not_true, Bool.false_bne, Bool.true_bne,  safe_sc, safe_lstF, safe_scr, safe_tup, safe_f, true_and, and_true, Option.some.injEq, exists_eq_left', exists_eq_left, decide_true, decide_false, Bool.false_eq_true, Bool.true_eq_false, reduceIte, Nat.zero_add, fz_lst, fz_dct, fz_ins, fz_sc, fz_lstF, fz_scr, Nat.zero_le, Nat.reduceLeDiff, Nat.reduceAdd, Nat.reduceLT, Int.reduceLT, Int.reduceLE, and_self, frz_lst, frz_dct, frz_dctF, frzL_ints, frzL_strs, frz_lstF, frz_scr, frz_tup, frz_sc, frzL_nil, frzL_cons, frzL_str, frzL_int, fzL_nil, fzL_cons, fzL_str, fzL_int, noC_sc, noC_lst, noC_tup, noC_dct, noCL_nil, noCL_cons, noCL_str, noCL_str2, noCL_int, Bool.and_self, Bool.and_true, Bool.true_and, List.append_nil, true_or, or_true, flat_str, flat_int, any_str, o_isiT, o_isiL, o_isiS, o_isiI, atI_0, atI_1, atI_2, atI_3, eqv_lst, eqv_tup, eqvL_nil, eqvL_cons, eqvL_str, eqv_str, eqS_int, ixN20, ixN21, fz_tup, Bool.false_and, Bool.and_false, o_posT, Int.cast_ofNat_Int, eq_self, dChain, dGin, dGix, o_gIn, o_gIx, o_mulI, o_mulS, dMake, dMethA, dMethL, dMethS, gDrop, slot0, o_insD, dRaise, dTryR, exM, dFld, pFl, dSfl, o_sflK, o_sflN, o_split, o_join, o_joinT, o_all, hs, g2, g4, ne_eq, not_false_eq_true]
    refine ⟨g3, begins_four h.1 h.2.1.1 h.2.2.1 h.2.2.2.1 fun env => ?_⟩
    simp only [pad, dNext, dSeq, dAsg, dFor, dEnum, dIt, dWhile, dIfS, dMS, dMA, dMN, dSub, dSfl, dRet, dRetV, dRetN, dRetT, dDrop, dBreak, dCont, dFz, fzS, dConsV, dCons, dNil, bCons, bNil, dVar, dC, dBin, dIx, dNeg, dCB, dMV, dTst, dAndT, dOrT, dNotT, dAnd, dOr, dNot, dIf, dLst, dLC, dLc, lcD, dYes, wipeD, dTup, dDct0, dLRev, dIsi, dSl, oNo, oSm, dCall, dCallL, gN, gTu, gsCons, gsNil, dRg1, dRg2, dRev, dZip, pVar, pIx, atP, getP, setP, unsetL, List.map_cons, List.map_nil, List.replicate_succ, List.replicate_zero, List.cons_append, List.nil_append, List.set_cons_zero, List.set_cons_succ, List.getElem?_cons_zero, List.getElem?_cons_succ, List.length_cons, List.length_nil, o_lt, o_ltS, o_gt, o_le, o_ge, o_add, o_addS, o_addL, o_addT, o_sub, o_mul, o_fdiv, o_mod, o_pow, o_eq, o_eqN, o_ne, o_neN, o_isB, o_isI, o_len, o_lenC, o_lenT, o_lenD, o_lenS, o_ix, o_ixC, o_ixT, o_ixS, o_ixDs, o_ixDi, o_put, o_inD, o_inDi, o_inL, o_inT, o_inS, o_idx, o_list, o_listC, o_listT, o_listD, o_tuple, o_tupleT, o_intI, o_intB, o_ord, o_str, o_max, o_min, o_isNo, o_tyL, o_tyT, o_tyD, o_tyS, o_tyI, o_sl, o_slC, o_slS, o_slT, cutG_map, o_lsD, o_lsC, o_it, o_itC, o_itT, o_itS, o_app, o_ext, o_ins, o_pop, o_rev, o_clr, o_pos, o_posS, Option.bind_some, Option.map_some, List.length_map, if_true, Bool.not_false, Bool.not_true, Bool.false_bne, Bool.true_bne,  safe_sc, safe_lstF, safe_scr, safe_tup, safe_f, true_and, and_true, Option.some.injEq, exists_eq_left', exists_eq_left, decide_true, decide_false, Bool.false_eq_true, Bool.true_eq_false, reduceIte, Nat.zero_add, fz_lst, fz_dct, fz_ins, fz_sc, fz_lstF, fz_scr, Nat.zero_le, Nat.reduceLeDiff, Nat.reduceAdd, Nat.reduceLT, Int.reduceLT, Int.reduceLE, and_self, frz_lst, frz_dct, frz_dctF, frzL_ints, frzL_strs, frz_lstF, frz_scr, frz_tup, frz_sc, frzL_nil, frzL_cons, frzL_str, frzL_int, fzL_nil, fzL_cons, fzL_str, fzL_int, noC_sc, noC_lst, noC_tup, noC_dct, noCL_nil, noCL_cons, noCL_str, noCL_str2, noCL_int, Bool.and_self, Bool.and_true, Bool.true_and, List.append_nil, true_or, or_true, flat_str, flat_int, any_str, o_isiT, o_isiL, o_isiS, o_isiI, atI_0, atI_1, atI_2, atI_3, eqv_lst, eqv_tup, eqvL_nil, eqvL_cons, eqvL_str, eqv_str, eqS_int, ixN20, ixN21, fz_tup, Bool.false_and, Bool.and_false, o_posT, Int.cast_ofNat_Int, eq_self, dChain, dGin, dGix, o_gIn, o_gIx, o_mulI, o_mulS, dMake, dMethA, dMethL, dMethS, gDrop, slot0, o_insD, dRaise, dTryR, exM, dFld, pFl, dSfl, o_sflK, o_sflN, o_split, o_join, o_joinT, o_all, ec, st]
    refine begin_elder h1 h2 hnd hE hO h.2.2.2.2.2.2 fun env2 he => ?_
    simp only [he]
    exact q _
end LW

set_option Elab.async false
set_option linter.all false
set_option maxRecDepth 100000
set_option maxHeartbeats 2000000
namespace LW
open L2 DL TL
abbrev Bk := List (Txt × Option Txt) × List (Txt × List Rl)
/-- a run over the lines: from a book (and the name of the last order) to a book -/
inductive Run : Bk → Option Txt → List Ln → Bk → Prop
  | nil (b : Bk) (c : Option Txt) : Run b c [] b
  | beg {E : List (Txt × Option Txt)} {O : List (Txt × List Rl)} {c : Option Txt} {nm : Txt} {el : Option Txt} {r : List Ln} {b : Bk} : nm ∉ E.map (·.1) → nm ∉ O.map (·.1) → (E.map (·.1)).Nodup → E.length ≤ 1000 → O.length ≤ 1000 → (Ln.beg nm el).ok → (Ln.beg nm el).line.length ≤ 1000000 →
      Run (E ++ [(nm, el)], O ++ [(nm, [])]) (some nm) r b → Run (E, O) c (.beg nm el :: r) b
  | rule {E : List (Txt × Option Txt)} {O : List (Txt × List Rl)} {c w : Txt} {rs : List Rl} {ps : List Txt} {r : List Ln} {b : Bk} : c ∉ O.map (·.1) → (Ln.rule w ps).ok → (Ln.rule w ps).line.length ≤ 1000000 → rs.length ≤ 1000 →
      Run (E, O ++ [(c, rs ++ [w :: ps])]) (some c) r b → Run (E, O ++ [(c, rs)]) (some c) (.rule w ps :: r) b
theorem init_loop (Dd : ED) (c1 c2 : Option D) {b : Bk} (q : ∀ c3 c4 c5 c6, Dd.nx [some (bkD b.1 b.2), c1, c2, c3, c4, c5, c6]) : ∀ {ls : List Ln} {a : Bk} {c : Option Txt} (k : Nat) (c4 c5 c6 : Option D), Run a c ls b →
    forD (gTu 2 (gsCons (gN 4) (gsCons (gN 5) gsNil))) lb_Book_init_0 Dd (enumL k (ls.map fun l => D.str l.line)) [some (bkD a.1 a.2), c1, c2, some (elD c), c4, c5, c6]
  | _, _, _, k, c4, c5, c6, .nil _ c => q _ _ _ _
  | _, _, _, k, c4, c5, c6, .beg (E := E) (O := O) (c := c) (nm := nm) (el := el) (r := r) h1 h2 h3 h4 h5 h6 h7 h8 => by
    have ih := fun c6 => init_loop Dd c1 c2 q (k + 1) (some (.int ((k : Nat) : Int))) (some (.str (Ln.beg nm el).line)) c6 h8
    simp only [List.map_cons, enumL, forD, gTu, gsCons, gsNil, gN, List.set_cons_zero, List.set_cons_succ, List.length_cons, List.length_nil, true_and]
    exact beg_step _ c1 c2 _ none c6 h1 h2 h3 h4 h5 h6 h7 fun c6 => ih c6
  | _, _, _, k, c4, c5, c6, .rule (E := E) (O := O) (c := c) (w := w) (rs := rs) (ps := ps) (r := r) h1 h2 h3 h4 h5 => by
    have ih := fun c6 => init_loop Dd c1 c2 q (k + 1) (some (.int ((k : Nat) : Int))) (some (.str (Ln.rule w ps).line)) c6 h5
    simp only [List.map_cons, enumL, forD, gTu, gsCons, gsNil, gN, List.set_cons_zero, List.set_cons_succ, List.length_cons, List.length_nil, true_and]
    exact rule_step _ c1 c2 c4 c5 c6 h1 h2 h3 h4 fun c6 => ih c6
end LW

set_option Elab.async false
set_option linter.all false
set_option maxRecDepth 100000
set_option maxHeartbeats 2000000
namespace LW
open L2 DL TL
theorem book_init_d {ls : List Ln} {b : Bk} (hr : Run ([], []) none ls b) (h10 : ∀ l ∈ ls, 10 ∉ l.line) (hne : ∀ l ∈ ls, l.line ≠ []) (hl : (joinL [10] (ls.map Ln.line)).length ≤ 1000000) {Q : D → Sl → Prop} {E : EX → Sl → Prop} (q : ∀ env, env[0]? = some (some (bkD b.1 b.2)) → Q .non env) :
    sp_Book_init [.nd (.ins true 14) [], .str (joinL [10] (ls.map Ln.line))] Q E := by
  rw [e_sp_Book_init, e_b_Book_init]
  have g2 : ([10] : Txt) ≠ [] := by decide
  have g3 : ∀ c ∈ ([10] : Txt), c < 256 := by decide
  have s1 : ∀ {y : D} {Q : D → Prop}, putFl 14 0 (.nd (.ins true 14) []) y Q = Q (.nd (.ins true 14) [y]) := fun {y Q} => o_sflN rfl
  have s2 : ∀ {x y : D} {Q : D → Prop}, putFl 14 1 (.nd (.ins true 14) [x]) y Q = Q (.nd (.ins true 14) [x, y]) := fun {x y Q} => o_sflN rfl
  simp only [pad, dNext, dSeq, dAsg, dFor, dEnum, dIt, dWhile, dIfS, dMS, dMA, dMN, dSub, dSfl, dRet, dRetV, dRetN, dRetT, dDrop, dBreak, dCont, dFz, fzS, dConsV, dCons, dNil, bCons, bNil, dVar, dC, dBin, dIx, dNeg, dCB, dMV, dTst, dAndT, dOrT, dNotT, dAnd, dOr, dNot, dIf, dLst, dLC, dLc, lcD, dYes, wipeD, dTup, dDct0, dLRev, dIsi, dSl, oNo, oSm, dCall, dCallL, gN, gTu, gsCons, gsNil, dRg1, dRg2, dRev, dZip, pVar, pIx, atP, getP, setP, unsetL, List.map_cons, List.map_nil, List.replicate_succ, List.replicate_zero, List.cons_append, List.nil_append, List.set_cons_zero, List.set_cons_succ, List.getElem?_cons_zero, List.getElem?_cons_succ, List.length_cons, List.length_nil, o_lt, o_ltS, o_gt, o_le, o_ge, o_add, o_addS, o_addL, o_addT, o_sub, o_mul, o_fdiv, o_mod, o_pow, o_eq, o_eqN, o_ne, o_neN, o_isB, o_isI, o_len, o_lenC, o_lenT, o_lenD, o_lenS, o_ix, o_ixC, o_ixT, o_ixS, o_ixDs, o_ixDi, o_put, o_inD, o_inDi, o_inL, o_inT, o_inS, o_idx, o_list, o_listC, o_listT, o_listD, o_tuple, o_tupleT, o_intI, o_intB, o_ord, o_str, o_max, o_min, o_isNo, o_tyL, o_tyT, o_tyD, o_tyS, o_tyI, o_sl, o_slC, o_slS, o_slT, cutG_map, o_lsD, o_lsC, o_it, o_itC, o_itT, o_itS, o_app, o_ext, o_ins, o_pop, o_rev, o_clr, o_pos, o_posS, Option.bind_some, Option.map_some, List.length_map, if_true, Bool.not_false, Bool.not_true, Bool.false_bne, Bool.true_bne,  safe_sc, safe_lstF, safe_scr, safe_tup, safe_f, true_and, and_true, Option.some.injEq, exists_eq_left', exists_eq_left, decide_true, decide_false, Bool.false_eq_true, Bool.true_eq_false, reduceIte, Nat.zero_add, fz_lst, fz_dct, fz_ins, fz_sc, fz_lstF, fz_scr, Nat.zero_le, Nat.reduceLeDiff, Nat.reduceAdd, Nat.reduceLT, Int.reduceLT, Int.reduceLE, and_self, frz_lst, frz_dct, frz_dctF, frzL_ints, frzL_strs, frz_lstF, frz_scr, frz_tup, frz_sc, frzL_nil, frzL_cons, frzL_str, frzL_int, fzL_nil, fzL_cons, fzL_str, fzL_int, noC_sc, noC_lst, noC_tup, noC_dct, noCL_nil, noCL_cons, noCL_str, noCL_str2, noCL_int, Bool.and_self, Bool.and_true, Bool.true_and, List.append_nil, true_or, or_true, flat_str, flat_int, any_str, o_isiT, o_isiL, o_isiS, o_isiI, atI_0, atI_1, atI_2, atI_3, eqv_lst, eqv_tup, eqvL_nil, eqvL_cons, eqvL_str, eqv_str, eqS_int, ixN20, ixN21, fz_tup, Bool.false_and, Bool.and_false, o_posT, Int.cast_ofNat_Int, eq_self, dChain, dGin, dGix, o_gIn, o_gIx, o_mulI, o_mulS, dMake, dMethA, dMethL, dMethS, gDrop, slot0, o_insD, dRaise, dTryR, exM, dFld, pFl, dSfl, o_sflK, o_sflN, o_split, o_join, o_joinT, o_all, s1, s2, eqS_str]
  have key : ∀ c1 c2, forD (gTu 2 (gsCons (gN 4) (gsCons (gN 5) gsNil))) lb_Book_init_0 { nx := fun env => Q D.non env, rt := Q, ex := E } (enumL 0 (ls.map fun l => D.str l.line)) [some (bkD [] []), c1, c2, some (elD none), none, none, none] :=
    fun c1 c2 => init_loop _ c1 c2 (fun c3 c4 c5 c6 => q _ rfl) 0 none none none hr
  cases ls with
  | nil =>
    have e : (!decide (joinL [10] (([] : List Ln).map Ln.line) = [])) = false := by decide
    rw [e, if_neg Bool.false_ne_true]
    exact key _ _
  | cons l r =>
    have hj : joinL [10] ((l :: r).map Ln.line) ≠ [] := by
      intro z
      have hl0 := hne l List.mem_cons_self
      cases r with
      | nil => exact hl0 z
      | cons l2 r2 =>
        have : l.line ++ ([10] ++ joinL [10] ((l2 :: r2).map Ln.line)) = [] := z
        exact hl0 (List.append_eq_nil_iff.mp this).1
    have e : (!decide (joinL [10] ((l :: r).map Ln.line) = [])) = true := by rw [decide_eq_false hj]; rfl
    have hs : spl [10] 0 [] (joinL [10] ((l :: r).map Ln.line)) = (l :: r).map Ln.line := spl_join (s := 10) (S := []) (by simp) fun p hp => by
      obtain ⟨x, hx, rfl⟩ := List.mem_map.mp hp
      exact h10 x hx
    rw [e, if_pos rfl, hs, List.map_map]
    exact ⟨g2, g3, by omega, key _ _⟩
end LW

set_option Elab.async false
set_option linter.all false
set_option maxRecDepth 100000
set_option maxHeartbeats 2000000
namespace LW
open L2 DL TL
/-- a book that is looked at -/
abbrev bkF (E : List (Txt × Option Txt)) (O : List (Txt × List Rl)) : D := .nd (.ins false 14) [elsD false E, ownD false false O]
theorem names_d {E : List (Txt × Option Txt)} {O : List (Txt × List Rl)} {Q : D → Sl → Prop} {X : EX → Sl → Prop} (q : ∀ env, Q (.nd (.lst true) ((O.map (·.1)).map D.str)) env) : sp_Book_names [bkF E O] Q X := by
  rw [e_sp_Book_names, e_b_Book_names]
  have e : (O.map fun x => Sum.inr x.1 : List DK).map keyD = (O.map (·.1)).map D.str := by
    rw [List.map_map, List.map_map]
    rfl
  simp only [pad, dNext, dSeq, dAsg, dFor, dEnum, dIt, dWhile, dIfS, dMS, dMA, dMN, dSub, dSfl, dRet, dRetV, dRetN, dRetT, dDrop, dBreak, dCont, dFz, fzS, dConsV, dCons, dNil, bCons, bNil, dVar, dC, dBin, dIx, dNeg, dCB, dMV, dTst, dAndT, dOrT, dNotT, dAnd, dOr, dNot, dIf, dLst, dLC, dLc, lcD, dYes, wipeD, dTup, dDct0, dLRev, dIsi, dSl, oNo, oSm, dCall, dCallL, gN, gTu, gsCons, gsNil, dRg1, dRg2, dRev, dZip, pVar, pIx, atP, getP, setP, unsetL, List.map_cons, List.map_nil, List.replicate_succ, List.replicate_zero, List.cons_append, List.nil_append, List.set_cons_zero, List.set_cons_succ, List.getElem?_cons_zero, List.getElem?_cons_succ, List.length_cons, List.length_nil, o_lt, o_ltS, o_gt, o_le, o_ge, o_add, o_addS, o_addL, o_addT, o_sub, o_mul, o_fdiv, o_mod, o_pow, o_eq, o_eqN, o_ne, o_neN, o_isB, o_isI, o_len, o_lenC, o_lenT, o_lenD, o_lenS, o_ix, o_ixC, o_ixT, o_ixS, o_ixDs, o_ixDi, o_put, o_inD, o_inDi, o_inL, o_inT, o_inS, o_idx, o_list, o_listC, o_listT, o_listD, o_tuple, o_tupleT, o_intI, o_intB, o_ord, o_str, o_max, o_min, o_isNo, o_tyL, o_tyT, o_tyD, o_tyS, o_tyI, o_sl, o_slC, o_slS, o_slT, cutG_map, o_lsD, o_lsC, o_it, o_itC, o_itT, o_itS, o_app, o_ext, o_ins, o_pop, o_rev, o_clr, o_pos, o_posS, Option.bind_some, Option.map_some, List.length_map, if_true, Bool.not_false, Bool.not_true, Bool.false_bne, Bool.true_bne,  safe_sc, safe_lstF, safe_scr, safe_tup, safe_f, true_and, and_true, Option.some.injEq, exists_eq_left', exists_eq_left, decide_true, decide_false, Bool.false_eq_true, Bool.true_eq_false, reduceIte, Nat.zero_add, fz_lst, fz_dct, fz_ins, fz_sc, fz_lstF, fz_scr, Nat.zero_le, Nat.reduceLeDiff, Nat.reduceAdd, Nat.reduceLT, Int.reduceLT, Int.reduceLE, and_self, frz_lst, frz_dct, frz_dctF, frzL_ints, frzL_strs, frz_lstF, frz_scr, frz_tup, frz_sc, frzL_nil, frzL_cons, frzL_str, frzL_int, fzL_nil, fzL_cons, fzL_str, fzL_int, noC_sc, noC_lst, noC_tup, noC_dct, noCL_nil, noCL_cons, noCL_str, noCL_str2, noCL_int, Bool.and_self, Bool.and_true, Bool.true_and, List.append_nil, true_or, or_true, flat_str, flat_int, any_str, o_isiT, o_isiL, o_isiS, o_isiI, atI_0, atI_1, atI_2, atI_3, eqv_lst, eqv_tup, eqvL_nil, eqvL_cons, eqvL_str, eqv_str, eqS_int, ixN20, ixN21, fz_tup, Bool.false_and, Bool.and_false, o_posT, Int.cast_ofNat_Int, eq_self, dChain, dGin, dGix, o_gIn, o_gIx, o_mulI, o_mulS, dMake, dMethA, dMethL, dMethS, gDrop, slot0, o_insD, dRaise, dTryR, exM, dFld, pFl, dSfl, o_sflK, o_sflN, o_split, o_join, o_joinT, o_all, e]
  exact q _
theorem frz_rus (O : List (Txt × List Rl)) : frzL (O.map fun x => rusD true x.2) = O.map fun x => rusD false x.2 := by
  rw [frzL_map, List.map_map]
  refine List.map_congr_left fun x _ => ?_
  show frz (rusD true x.2) = rusD false x.2
  rw [frz_lst, frzL_map, List.map_map]
  congr 1
  refine List.map_congr_left fun r _ => ?_
  show frz (ruD r) = ruD r
  rw [frz_tup, frzL_str]
theorem frz_els (E : List (Txt × Option Txt)) : frzL (E.map fun x => elD x.2) = E.map fun x => elD x.2 := by
  rw [frzL_map, List.map_map]
  refine List.map_congr_left fun x _ => ?_
  show frz (elD x.2) = elD x.2
  cases x.2 <;> rfl
theorem frz_bk (E : List (Txt × Option Txt)) (O : List (Txt × List Rl)) : frz (bkD E O) = bkF E O := by
  show frz (.nd (.ins true 14) _) = _
  rw [frz, if_neg (by decide)]
  show D.nd (.ins false 14) (frzL [elsD true E, ownD true true O]) = _
  rw [frzL_cons, frzL_cons, frzL_nil, frz_dct, frz_dct, frz_rus, frz_els]
end LW

set_option Elab.async false
set_option linter.all false
set_option maxRecDepth 100000
set_option maxHeartbeats 2000000
namespace LW
open L2 DL TL
theorem o_isNt {x : Sc} {Q : D → Prop} : isNt (.sc x) (.sc .non) Q = Q (.bl (!decide (x = .non))) := by cases x <;> rfl
theorem line_of_one {E : List (Txt × Option Txt)} {O : List (Txt × List Rl)} {nm : Txt} (h1 : nm ∈ O.map (·.1)) (h2 : lkp (E.map fun x => Sum.inr x.1) (E.map fun x => elD x.2) (Sum.inr nm : DK) = some (elD none)) {Q : D → Sl → Prop} {X : EX → Sl → Prop} (q : ∀ env, Q (.nd (.lst true) [.str nm]) env) : sp_Book_line_of [bkF E O, .str nm] Q X := by
  rw [e_sp_Book_line_of, e_b_Book_line_of]
  have g1 : (!hasK (O.map fun x => Sum.inr x.1) (Sum.inr nm : DK)) = false := by rw [has_key, decide_eq_true h1]; rfl
  have g2 : (!decide (Sc.str nm = Sc.non)) = true := by simp
  have g3 : (!decide (Sc.non = Sc.non)) = false := by simp
  have g4 : (([] : List D).any fun d => eqv d (D.sc (Sc.str nm))) = false := rfl
  have g5 : ([] : List D).all flatD = true := rfl
  have h2' : lkp (E.map fun x => Sum.inr x.1) (E.map fun x => elD x.2) (Sum.inr nm : DK) = some (D.sc .non) := h2
  simp only [pad, dNext, dSeq, dAsg, dFor, dEnum, dIt, dWhile, dIfS, dMS, dMA, dMN, dSub, dSfl, dRet, dRetV, dRetN, dRetT, dDrop, dBreak, dCont, dFz, fzS, dConsV, dCons, dNil, bCons, bNil, dVar, dC, dBin, dIx, dNeg, dCB, dMV, dTst, dAndT, dOrT, dNotT, dAnd, dOr, dNot, dIf, dLst, dLC, dLc, lcD, dYes, wipeD, dTup, dDct0, dLRev, dIsi, dSl, oNo, oSm, dCall, dCallL, gN, gTu, gsCons, gsNil, dRg1, dRg2, dRev, dZip, pVar, pIx, atP, getP, setP, unsetL, List.map_cons, List.map_nil, List.replicate_succ, List.replicate_zero, List.cons_append, List.nil_append, List.set_cons_zero, List.set_cons_succ, List.getElem?_cons_zero, List.getElem?_cons_succ, List.length_cons, List.length_nil, o_lt, o_ltS, o_gt, o_le, o_ge, o_add, o_addS, o_addL, o_addT, o_sub, o_mul, o_fdiv, o_mod, o_pow, o_eq, o_eqN, o_ne, o_neN, o_isB, o_isI, o_len, o_lenC, o_lenT, o_lenD, o_lenS, o_ix, o_ixC, o_ixT, o_ixS, o_ixDs, o_ixDi, o_put, o_inD, o_inDi, o_inL, o_inT, o_inS, o_idx, o_list, o_listC, o_listT, o_listD, o_tuple, o_tupleT, o_intI, o_intB, o_ord, o_str, o_max, o_min, o_isNo, o_tyL, o_tyT, o_tyD, o_tyS, o_tyI, o_sl, o_slC, o_slS, o_slT, cutG_map, o_lsD, o_lsC, o_it, o_itC, o_itT, o_itS, o_app, o_ext, o_ins, o_pop, o_rev, o_clr, o_pos, o_posS, Option.bind_some, Option.map_some, List.length_map, if_true, Bool.not_false, Bool.not_true, Bool.false_bne, Bool.true_bne,  safe_sc, safe_lstF, safe_scr, safe_tup, safe_f, true_and, and_true, Option.some.injEq, exists_eq_left', exists_eq_left, decide_true, decide_false, Bool.false_eq_true, Bool.true_eq_false, reduceIte, Nat.zero_add, fz_lst, fz_dct, fz_ins, fz_sc, fz_lstF, fz_scr, Nat.zero_le, Nat.reduceLeDiff, Nat.reduceAdd, Nat.reduceLT, Int.reduceLT, Int.reduceLE, and_self, frz_lst, frz_dct, frz_dctF, frzL_ints, frzL_strs, frz_lstF, frz_scr, frz_tup, frz_sc, frzL_nil, frzL_cons, frzL_str, frzL_int, fzL_nil, fzL_cons, fzL_str, fzL_int, noC_sc, noC_lst, noC_tup, noC_dct, noCL_nil, noCL_cons, noCL_str, noCL_str2, noCL_int, Bool.and_self, Bool.and_true, Bool.true_and, List.append_nil, true_or, or_true, flat_str, flat_int, any_str, o_isiT, o_isiL, o_isiS, o_isiI, atI_0, atI_1, atI_2, atI_3, eqv_lst, eqv_tup, eqvL_nil, eqvL_cons, eqvL_str, eqv_str, eqS_int, ixN20, ixN21, fz_tup, Bool.false_and, Bool.and_false, o_posT, Int.cast_ofNat_Int, eq_self, dChain, dGin, dGix, o_gIn, o_gIx, o_mulI, o_mulS, dMake, dMethA, dMethL, dMethS, gDrop, slot0, o_insD, dRaise, dTryR, exM, dFld, pFl, dSfl, o_sflK, o_sflN, o_split, o_join, o_joinT, o_all]
  refine ⟨2, ?_⟩
  rw [whD]
  simp only [e_wc_Book_line_of_0, e_lb_Book_line_of_0, pad, dNext, dSeq, dAsg, dFor, dEnum, dIt, dWhile, dIfS, dMS, dMA, dMN, dSub, dSfl, dRet, dRetV, dRetN, dRetT, dDrop, dBreak, dCont, dFz, fzS, dConsV, dCons, dNil, bCons, bNil, dVar, dC, dBin, dIx, dNeg, dCB, dMV, dTst, dAndT, dOrT, dNotT, dAnd, dOr, dNot, dIf, dLst, dLC, dLc, lcD, dYes, wipeD, dTup, dDct0, dLRev, dIsi, dSl, oNo, oSm, dCall, dCallL, gN, gTu, gsCons, gsNil, dRg1, dRg2, dRev, dZip, pVar, pIx, atP, getP, setP, unsetL, List.map_cons, List.map_nil, List.replicate_succ, List.replicate_zero, List.cons_append, List.nil_append, List.set_cons_zero, List.set_cons_succ, List.getElem?_cons_zero, List.getElem?_cons_succ, List.length_cons, List.length_nil, o_lt, o_ltS, o_gt, o_le, o_ge, o_add, o_addS, o_addL, o_addT, o_sub, o_mul, o_fdiv, o_mod, o_pow, o_eq, o_eqN, o_ne, o_neN, o_isB, o_isI, o_len, o_lenC, o_lenT, o_lenD, o_lenS, o_ix, o_ixC, o_ixT, o_ixS, o_ixDs, o_ixDi, o_put, o_inD, o_inDi, o_inL, o_inT, o_inS, o_idx, o_list, o_listC, o_listT, o_listD, o_tuple, o_tupleT, o_intI, o_intB, o_ord, o_str, o_max, o_min, o_isNo, o_tyL, o_tyT, o_tyD, o_tyS, o_tyI, o_sl, o_slC, o_slS, o_slT, cutG_map, o_lsD, o_lsC, o_it, o_itC, o_itT, o_itS, o_app, o_ext, o_ins, o_pop, o_rev, o_clr, o_pos, o_posS, Option.bind_some, Option.map_some, List.length_map, if_true, Bool.not_false, Bool.not_true, Bool.false_bne, Bool.true_bne,  safe_sc, safe_lstF, safe_scr, safe_tup, safe_f, true_and, and_true, Option.some.injEq, exists_eq_left', exists_eq_left, decide_true, decide_false, Bool.false_eq_true, Bool.true_eq_false, reduceIte, Nat.zero_add, fz_lst, fz_dct, fz_ins, fz_sc, fz_lstF, fz_scr, Nat.zero_le, Nat.reduceLeDiff, Nat.reduceAdd, Nat.reduceLT, Int.reduceLT, Int.reduceLE, and_self, frz_lst, frz_dct, frz_dctF, frzL_ints, frzL_strs, frz_lstF, frz_scr, frz_tup, frz_sc, frzL_nil, frzL_cons, frzL_str, frzL_int, fzL_nil, fzL_cons, fzL_str, fzL_int, noC_sc, noC_lst, noC_tup, noC_dct, noCL_nil, noCL_cons, noCL_str, noCL_str2, noCL_int, Bool.and_self, Bool.and_true, Bool.true_and, List.append_nil, true_or, or_true, flat_str, flat_int, any_str, o_isiT, o_isiL, o_isiS, o_isiI, atI_0, atI_1, atI_2, atI_3, eqv_lst, eqv_tup, eqvL_nil, eqvL_cons, eqvL_str, eqv_str, eqS_int, ixN20, ixN21, fz_tup, Bool.false_and, Bool.and_false, o_posT, Int.cast_ofNat_Int, eq_self, dChain, dGin, dGix, o_gIn, o_gIx, o_mulI, o_mulS, dMake, dMethA, dMethL, dMethS, gDrop, slot0, o_insD, dRaise, dTryR, exM, dFld, pFl, dSfl, o_sflK, o_sflN, o_split, o_join, o_joinT, o_all, o_isNt, g1, g2, g4, g5, h2']
  rw [whD]
  simp only [e_wc_Book_line_of_0, pad, dNext, dSeq, dAsg, dFor, dEnum, dIt, dWhile, dIfS, dMS, dMA, dMN, dSub, dSfl, dRet, dRetV, dRetN, dRetT, dDrop, dBreak, dCont, dFz, fzS, dConsV, dCons, dNil, bCons, bNil, dVar, dC, dBin, dIx, dNeg, dCB, dMV, dTst, dAndT, dOrT, dNotT, dAnd, dOr, dNot, dIf, dLst, dLC, dLc, lcD, dYes, wipeD, dTup, dDct0, dLRev, dIsi, dSl, oNo, oSm, dCall, dCallL, gN, gTu, gsCons, gsNil, dRg1, dRg2, dRev, dZip, pVar, pIx, atP, getP, setP, unsetL, List.map_cons, List.map_nil, List.replicate_succ, List.replicate_zero, List.cons_append, List.nil_append, List.set_cons_zero, List.set_cons_succ, List.getElem?_cons_zero, List.getElem?_cons_succ, List.length_cons, List.length_nil, o_lt, o_ltS, o_gt, o_le, o_ge, o_add, o_addS, o_addL, o_addT, o_sub, o_mul, o_fdiv, o_mod, o_pow, o_eq, o_eqN, o_ne, o_neN, o_isB, o_isI, o_len, o_lenC, o_lenT, o_lenD, o_lenS, o_ix, o_ixC, o_ixT, o_ixS, o_ixDs, o_ixDi, o_put, o_inD, o_inDi, o_inL, o_inT, o_inS, o_idx, o_list, o_listC, o_listT, o_listD, o_tuple, o_tupleT, o_intI, o_intB, o_ord, o_str, o_max, o_min, o_isNo, o_tyL, o_tyT, o_tyD, o_tyS, o_tyI, o_sl, o_slC, o_slS, o_slT, cutG_map, o_lsD, o_lsC, o_it, o_itC, o_itT, o_itS, o_app, o_ext, o_ins, o_pop, o_rev, o_clr, o_pos, o_posS, Option.bind_some, Option.map_some, List.length_map, if_true, Bool.not_false, Bool.not_true, Bool.false_bne, Bool.true_bne,  safe_sc, safe_lstF, safe_scr, safe_tup, safe_f, true_and, and_true, Option.some.injEq, exists_eq_left', exists_eq_left, decide_true, decide_false, Bool.false_eq_true, Bool.true_eq_false, reduceIte, Nat.zero_add, fz_lst, fz_dct, fz_ins, fz_sc, fz_lstF, fz_scr, Nat.zero_le, Nat.reduceLeDiff, Nat.reduceAdd, Nat.reduceLT, Int.reduceLT, Int.reduceLE, and_self, frz_lst, frz_dct, frz_dctF, frzL_ints, frzL_strs, frz_lstF, frz_scr, frz_tup, frz_sc, frzL_nil, frzL_cons, frzL_str, frzL_int, fzL_nil, fzL_cons, fzL_str, fzL_int, noC_sc, noC_lst, noC_tup, noC_dct, noCL_nil, noCL_cons, noCL_str, noCL_str2, noCL_int, Bool.and_self, Bool.and_true, Bool.true_and, List.append_nil, true_or, or_true, flat_str, flat_int, any_str, o_isiT, o_isiL, o_isiS, o_isiI, atI_0, atI_1, atI_2, atI_3, eqv_lst, eqv_tup, eqvL_nil, eqvL_cons, eqvL_str, eqv_str, eqS_int, ixN20, ixN21, fz_tup, Bool.false_and, Bool.and_false, o_posT, Int.cast_ofNat_Int, eq_self, dChain, dGin, dGix, o_gIn, o_gIx, o_mulI, o_mulS, dMake, dMethA, dMethL, dMethS, gDrop, slot0, o_insD, dRaise, dTryR, exM, dFld, pFl, dSfl, o_sflK, o_sflN, o_split, o_join, o_joinT, o_all, o_isNt, g3]
  exact q _
end LW

set_option Elab.async false
set_option linter.all false
set_option maxRecDepth 100000
set_option maxHeartbeats 2000000
namespace LW
open L2 DL TL
/-! ## an elder's rules changed by a younger one's -/
def wForget : Txt := [102, 111, 114, 103, 101, 116]
def wRow : Txt := [114, 111, 119]
def wMarks : Txt := [109, 97, 114, 107, 115]
def wOver : Txt := [111, 118, 101, 114]
def wGreat : Txt := [103, 114, 101, 97, 116]
def wAs : Txt := [97, 115]
abbrev nmD (o : Bool) (ns : List Txt) : D := .nd (.dct o (ns.map Sum.inr)) (ns.map fun _ => D.bl true)
def addN (ns : List Txt) (p : Txt) : List Txt := if p ∈ ns then ns else ns ++ [p]
def addR (ns : List Txt) (r : Rl) : List Txt := if r.head? = some wForget then (r.drop 1).foldl addN ns else ns
def namedOf (more : List Rl) : List Txt := more.foldl addR []
theorem addN_nd {ns : List Txt} {p : Txt} (h : ns.Nodup) : (addN ns p).Nodup := by
  unfold addN
  split
  · exact h
  · rename_i hp
    exact List.nodup_append.mpr ⟨h, by simp, fun x hx y hy e => hp (by rw [List.mem_singleton.mp hy] at e; rw [← e]; exact hx)⟩
theorem addNs_nd : ∀ (ps ns : List Txt), ns.Nodup → (ps.foldl addN ns).Nodup
  | [], _, h => h
  | p :: r, ns, h => addNs_nd r _ (addN_nd h)
theorem addN_len (ns : List Txt) (p : Txt) : (addN ns p).length ≤ ns.length + 1 := by unfold addN; split <;> simp
theorem addNs_len : ∀ (ps ns : List Txt), (ps.foldl addN ns).length ≤ ns.length + ps.length
  | [], _ => Nat.le_refl _
  | p :: r, ns => by have h1 := addNs_len r (addN ns p); have h2 := addN_len ns p; rw [List.foldl_cons, List.length_cons]; omega
theorem addN_mem {ns : List Txt} {p x : Txt} : x ∈ addN ns p ↔ x ∈ ns ∨ x = p := by
  unfold addN
  split
  · rename_i h; exact ⟨.inl, fun z => z.elim id fun e => e ▸ h⟩
  · simp
theorem addNs_mem : ∀ (ps ns : List Txt) (x : Txt), x ∈ ps.foldl addN ns ↔ x ∈ ns ∨ x ∈ ps
  | [], _, _ => by simp
  | p :: r, ns, x => by rw [List.foldl_cons, addNs_mem r, addN_mem, List.mem_cons]; exact or_assoc
theorem addR_nd {ns : List Txt} {r : Rl} (h : ns.Nodup) : (addR ns r).Nodup := by
  unfold addR; split
  · exact addNs_nd _ _ h
  · exact h
theorem addR_len (ns : List Txt) (r : Rl) : (addR ns r).length ≤ ns.length + r.length := by
  unfold addR; split
  · have := addNs_len (r.drop 1) ns; rw [List.length_drop] at this; omega
  · omega
def isForget (r : Rl) : Bool := decide (r.head? = some wForget)
theorem named_mem_go : ∀ (more : List Rl) (ns : List Txt) (x : Txt), x ∈ more.foldl addR ns ↔ x ∈ ns ∨ ∃ r ∈ more, isForget r = true ∧ x ∈ r.drop 1
  | [], _, _ => by simp
  | r :: t, ns, x => by
    rw [List.foldl_cons, named_mem_go t]
    unfold addR isForget
    by_cases h : r.head? = some wForget
    · rw [if_pos h, addNs_mem]
      simp only [List.mem_cons, exists_eq_or_imp, h, decide_true, true_and]
      exact or_assoc
    · rw [if_neg h]
      simp only [List.mem_cons, exists_eq_or_imp, h, decide_false, Bool.false_eq_true, false_and, false_or]
theorem named_mem {more : List Rl} {x : Txt} : x ∈ namedOf more ↔ ∃ r ∈ more, isForget r = true ∧ x ∈ r.drop 1 := by
  unfold namedOf; rw [named_mem_go]; simp
theorem nm_true (ns : List Txt) (j : Nat) : (ns.map fun _ => D.bl true).set j (.bl true) = ns.map fun _ => D.bl true := by
  apply List.ext_getElem?
  intro i
  rw [List.getElem?_set]
  split
  · split
    · rename_i h1 h2; subst h1
      rw [List.length_map] at h2
      rw [List.getElem?_map, List.getElem?_eq_getElem h2]; rfl
    · rename_i h1 h2; subst h1
      rw [List.getElem?_eq_none (by omega)]
  · rfl
theorem put_nm {ns : List Txt} (nd : ns.Nodup) (hl : ns.length ≤ 100000) {p : Txt} {Q : D → Prop} (q : Q (nmD true (addN ns p))) : putD (nmD true ns) (.sc (.str p)) (.bl true) Q := by
  unfold addN at q
  by_cases h : p ∈ ns
  · rw [if_pos h] at q
    obtain ⟨j, hj⟩ := posOf_inr_in h
    rw [o_putK (k := Sum.inr p) rfl hj]
    rw [nm_true]
    exact ⟨by rw [List.length_map]; omega, nodup_inr nd, q⟩
  · rw [if_neg h] at q
    rw [o_putNs (posOf_inr_no h)]
    simp only [nmD, List.map_append, List.map_cons, List.map_nil] at q
    exact ⟨by rw [List.length_map]; omega, q⟩
theorem forgotten_in (Dd : ED) (c0 c2 : Option D) : ∀ (ps ns : List Txt) (c3 : Option D), ns.Nodup → ns.length + ps.length ≤ 100000 →
    (∀ c3, Dd.nx [c0, some (nmD true (ps.foldl addN ns)), c2, c3]) → forD (gN 3) lb_forgotten_0 Dd (ps.map D.str) [c0, some (nmD true ns), c2, c3]
  | [], ns, c3, nd, hl, q => q c3
  | p :: r, ns, c3, nd, hl, q => by
    rw [List.length_cons] at hl
    have hl2 := addN_len ns p
    simp only [List.map_cons, forD, e_lb_forgotten_0, pad, dNext, dSeq, dAsg, dFor, dEnum, dIt, dWhile, dIfS, dMS, dMA, dMN, dSub, dSfl, dRet, dRetV, dRetN, dRetT, dDrop, dBreak, dCont, dFz, fzS, dConsV, dCons, dNil, bCons, bNil, dVar, dC, dBin, dIx, dNeg, dCB, dMV, dTst, dAndT, dOrT, dNotT, dAnd, dOr, dNot, dIf, dLst, dLC, dLc, lcD, dYes, wipeD, dTup, dDct0, dLRev, dIsi, dSl, oNo, oSm, dCall, dCallL, gN, gTu, gsCons, gsNil, dRg1, dRg2, dRev, dZip, pVar, pIx, atP, getP, setP, unsetL, List.map_cons, List.map_nil, List.replicate_succ, List.replicate_zero, List.cons_append, List.nil_append, List.set_cons_zero, List.set_cons_succ, List.getElem?_cons_zero, List.getElem?_cons_succ, List.length_cons, List.length_nil, o_lt, o_ltS, o_gt, o_le, o_ge, o_add, o_addS, o_addL, o_addT, o_sub, o_mul, o_fdiv, o_mod, o_pow, o_eq, o_eqN, o_ne, o_neN, o_isB, o_isI, o_len, o_lenC, o_lenT, o_lenD, o_lenS, o_ix, o_ixC, o_ixT, o_ixS, o_ixDs, o_ixDi, o_put, o_inD, o_inDi, o_inL, o_inT, o_inS, o_idx, o_list, o_listC, o_listT, o_listD, o_tuple, o_tupleT, o_intI, o_intB, o_ord, o_str, o_max, o_min, o_isNo, o_tyL, o_tyT, o_tyD, o_tyS, o_tyI, o_sl, o_slC, o_slS, o_slT, cutG_map, o_lsD, o_lsC, o_it, o_itC, o_itT, o_itS, o_app, o_ext, o_ins, o_pop, o_rev, o_clr, o_pos, o_posS, Option.bind_some, Option.map_some, List.length_map, if_true, Bool.not_false, Bool.not_true, Bool.false_bne, Bool.true_bne,  safe_sc, safe_lstF, safe_scr, safe_tup, safe_f, true_and, and_true, Option.some.injEq, exists_eq_left', exists_eq_left, decide_true, decide_false, Bool.false_eq_true, Bool.true_eq_false, reduceIte, Nat.zero_add, fz_lst, fz_dct, fz_ins, fz_sc, fz_lstF, fz_scr, Nat.zero_le, Nat.reduceLeDiff, Nat.reduceAdd, Nat.reduceLT, Int.reduceLT, Int.reduceLE, and_self, frz_lst, frz_dct, frz_dctF, frzL_ints, frzL_strs, frz_lstF, frz_scr, frz_tup, frz_sc, frzL_nil, frzL_cons, frzL_str, frzL_int, fzL_nil, fzL_cons, fzL_str, fzL_int, noC_sc, noC_lst, noC_tup, noC_dct, noCL_nil, noCL_cons, noCL_str, noCL_str2, noCL_int, Bool.and_self, Bool.and_true, Bool.true_and, List.append_nil, true_or, or_true, flat_str, flat_int, any_str, o_isiT, o_isiL, o_isiS, o_isiI, atI_0, atI_1, atI_2, atI_3, eqv_lst, eqv_tup, eqvL_nil, eqvL_cons, eqvL_str, eqv_str, eqS_int, ixN20, ixN21, fz_tup, Bool.false_and, Bool.and_false, o_posT, Int.cast_ofNat_Int, eq_self, dChain, dGin, dGix, o_gIn, o_gIx, o_mulI, o_mulS, dMake, dMethA, dMethL, dMethS, gDrop, slot0, o_insD, dRaise, dTryR, exM, dFld, pFl, dSfl, o_sflK, o_sflN, o_split, o_join, o_joinT, o_all]
    refine put_nm nd (by omega) ?_
    exact forgotten_in Dd c0 c2 r (addN ns p) _ (addN_nd nd) (by omega) q
def wordOf : Rl → Txt
  | [] => []
  | w :: _ => w
def Rl.ok (r : Rl) : Prop := ∃ w ps, r = w :: ps ∧ (w = wAs → ps ≠ []) ∧ (w = wGreat → ps ≠ []) ∧ ps.length ≤ 700
theorem forgotten_out (Dd : ED) (c0 : Option D) : ∀ (rs : List Rl) (ns : List Txt) (c2 c3 : Option D), (∀ r ∈ rs, Rl.ok r) → ns.Nodup → ns.length + rs.flatten.length ≤ 100000 →
    (∀ c2 c3, Dd.nx [c0, some (nmD true (rs.foldl addR ns)), c2, c3]) → forD (gN 2) lb_forgotten_1 Dd (rs.map ruD) [c0, some (nmD true ns), c2, c3]
  | [], ns, c2, c3, ok, nd, hl, q => q c2 c3
  | r :: t, ns, c2, c3, ok, nd, hl, q => by
    obtain ⟨w, ps, er, _, _, hp⟩ := ok r List.mem_cons_self
    subst er
    have ok' := fun x hx => ok x (List.mem_cons_of_mem _ hx)
    rw [List.flatten_cons, List.length_append, List.length_cons] at hl
    have ih := forgotten_out Dd c0 t (addR ns (w :: ps)) (some (ruD (w :: ps)))
    rw [List.foldl_cons] at q
    have hl2 := addR_len ns (w :: ps)
    rw [List.length_cons] at hl2
    simp only [List.map_cons, forD, e_lb_forgotten_1, pad, dNext, dSeq, dAsg, dFor, dEnum, dIt, dWhile, dIfS, dMS, dMA, dMN, dSub, dSfl, dRet, dRetV, dRetN, dRetT, dDrop, dBreak, dCont, dFz, fzS, dConsV, dCons, dNil, bCons, bNil, dVar, dC, dBin, dIx, dNeg, dCB, dMV, dTst, dAndT, dOrT, dNotT, dAnd, dOr, dNot, dIf, dLst, dLC, dLc, lcD, dYes, wipeD, dTup, dDct0, dLRev, dIsi, dSl, oNo, oSm, dCall, dCallL, gN, gTu, gsCons, gsNil, dRg1, dRg2, dRev, dZip, pVar, pIx, atP, getP, setP, unsetL, List.map_cons, List.map_nil, List.replicate_succ, List.replicate_zero, List.cons_append, List.nil_append, List.set_cons_zero, List.set_cons_succ, List.getElem?_cons_zero, List.getElem?_cons_succ, List.length_cons, List.length_nil, o_lt, o_ltS, o_gt, o_le, o_ge, o_add, o_addS, o_addL, o_addT, o_sub, o_mul, o_fdiv, o_mod, o_pow, o_eq, o_eqN, o_ne, o_neN, o_isB, o_isI, o_len, o_lenC, o_lenT, o_lenD, o_lenS, o_ix, o_ixC, o_ixT, o_ixS, o_ixDs, o_ixDi, o_put, o_inD, o_inDi, o_inL, o_inT, o_inS, o_idx, o_list, o_listC, o_listT, o_listD, o_tuple, o_tupleT, o_intI, o_intB, o_ord, o_str, o_max, o_min, o_isNo, o_tyL, o_tyT, o_tyD, o_tyS, o_tyI, o_sl, o_slC, o_slS, o_slT, cutG_map, o_lsD, o_lsC, o_it, o_itC, o_itT, o_itS, o_app, o_ext, o_ins, o_pop, o_rev, o_clr, o_pos, o_posS, Option.bind_some, Option.map_some, List.length_map, if_true, Bool.not_false, Bool.not_true, Bool.false_bne, Bool.true_bne,  safe_sc, safe_lstF, safe_scr, safe_tup, safe_f, true_and, and_true, Option.some.injEq, exists_eq_left', exists_eq_left, decide_true, decide_false, Bool.false_eq_true, Bool.true_eq_false, reduceIte, Nat.zero_add, fz_lst, fz_dct, fz_ins, fz_sc, fz_lstF, fz_scr, Nat.zero_le, Nat.reduceLeDiff, Nat.reduceAdd, Nat.reduceLT, Int.reduceLT, Int.reduceLE, and_self, frz_lst, frz_dct, frz_dctF, frzL_ints, frzL_strs, frz_lstF, frz_scr, frz_tup, frz_sc, frzL_nil, frzL_cons, frzL_str, frzL_int, fzL_nil, fzL_cons, fzL_str, fzL_int, noC_sc, noC_lst, noC_tup, noC_dct, noCL_nil, noCL_cons, noCL_str, noCL_str2, noCL_int, Bool.and_self, Bool.and_true, Bool.true_and, List.append_nil, true_or, or_true, flat_str, flat_int, any_str, o_isiT, o_isiL, o_isiS, o_isiI, atI_0, atI_1, atI_2, atI_3, eqv_lst, eqv_tup, eqvL_nil, eqvL_cons, eqvL_str, eqv_str, eqS_int, ixN20, ixN21, fz_tup, Bool.false_and, Bool.and_false, o_posT, Int.cast_ofNat_Int, eq_self, dChain, dGin, dGix, o_gIn, o_gIx, o_mulI, o_mulS, dMake, dMethA, dMethL, dMethS, gDrop, slot0, o_insD, dRaise, dTryR, exM, dFld, pFl, dSfl, o_sflK, o_sflN, o_split, o_join, o_joinT, o_all, eqS_str, cutG_f1]
    by_cases h : w = wForget
    · have e1 : decide (w = [102, 111, 114, 103, 101, 116]) = true := decide_eq_true h
      have e2 : addR ns (w :: ps) = ps.foldl addN ns := by unfold addR; rw [if_pos (by rw [h]; rfl)]; rfl
      rw [e2] at ih hl2 q
      rw [if_pos e1]
      refine forgotten_in _ _ _ ps ns c3 nd (by omega) fun c3 => ?_
      exact ih c3 ok' (addNs_nd _ _ nd) (by omega) q
    · have e1 : ¬ decide (w = [102, 111, 114, 103, 101, 116]) = true := by
        have : ¬ w = [102, 111, 114, 103, 101, 116] := h
        simpa using this
      have e2 : addR ns (w :: ps) = ns := by unfold addR; exact if_neg fun z => h (Option.some.inj z)
      rw [e2] at ih q
      rw [if_neg e1]
      exact ih c3 ok' nd (by omega) q
theorem forgotten_d {rs : List Rl} (ok : ∀ r ∈ rs, Rl.ok r) (hl : rs.flatten.length ≤ 100000) {Q : D → Sl → Prop} {E : EX → Sl → Prop} (q : ∀ env, Q (nmD true (namedOf rs)) env) : sp_forgotten [rusD false rs] Q E := by
  rw [e_sp_forgotten, e_b_forgotten]
  simp only [pad, dNext, dSeq, dAsg, dFor, dEnum, dIt, dWhile, dIfS, dMS, dMA, dMN, dSub, dSfl, dRet, dRetV, dRetN, dRetT, dDrop, dBreak, dCont, dFz, fzS, dConsV, dCons, dNil, bCons, bNil, dVar, dC, dBin, dIx, dNeg, dCB, dMV, dTst, dAndT, dOrT, dNotT, dAnd, dOr, dNot, dIf, dLst, dLC, dLc, lcD, dYes, wipeD, dTup, dDct0, dLRev, dIsi, dSl, oNo, oSm, dCall, dCallL, gN, gTu, gsCons, gsNil, dRg1, dRg2, dRev, dZip, pVar, pIx, atP, getP, setP, unsetL, List.map_cons, List.map_nil, List.replicate_succ, List.replicate_zero, List.cons_append, List.nil_append, List.set_cons_zero, List.set_cons_succ, List.getElem?_cons_zero, List.getElem?_cons_succ, List.length_cons, List.length_nil, o_lt, o_ltS, o_gt, o_le, o_ge, o_add, o_addS, o_addL, o_addT, o_sub, o_mul, o_fdiv, o_mod, o_pow, o_eq, o_eqN, o_ne, o_neN, o_isB, o_isI, o_len, o_lenC, o_lenT, o_lenD, o_lenS, o_ix, o_ixC, o_ixT, o_ixS, o_ixDs, o_ixDi, o_put, o_inD, o_inDi, o_inL, o_inT, o_inS, o_idx, o_list, o_listC, o_listT, o_listD, o_tuple, o_tupleT, o_intI, o_intB, o_ord, o_str, o_max, o_min, o_isNo, o_tyL, o_tyT, o_tyD, o_tyS, o_tyI, o_sl, o_slC, o_slS, o_slT, cutG_map, o_lsD, o_lsC, o_it, o_itC, o_itT, o_itS, o_app, o_ext, o_ins, o_pop, o_rev, o_clr, o_pos, o_posS, Option.bind_some, Option.map_some, List.length_map, if_true, Bool.not_false, Bool.not_true, Bool.false_bne, Bool.true_bne,  safe_sc, safe_lstF, safe_scr, safe_tup, safe_f, true_and, and_true, Option.some.injEq, exists_eq_left', exists_eq_left, decide_true, decide_false, Bool.false_eq_true, Bool.true_eq_false, reduceIte, Nat.zero_add, fz_lst, fz_dct, fz_ins, fz_sc, fz_lstF, fz_scr, Nat.zero_le, Nat.reduceLeDiff, Nat.reduceAdd, Nat.reduceLT, Int.reduceLT, Int.reduceLE, and_self, frz_lst, frz_dct, frz_dctF, frzL_ints, frzL_strs, frz_lstF, frz_scr, frz_tup, frz_sc, frzL_nil, frzL_cons, frzL_str, frzL_int, fzL_nil, fzL_cons, fzL_str, fzL_int, noC_sc, noC_lst, noC_tup, noC_dct, noCL_nil, noCL_cons, noCL_str, noCL_str2, noCL_int, Bool.and_self, Bool.and_true, Bool.true_and, List.append_nil, true_or, or_true, flat_str, flat_int, any_str, o_isiT, o_isiL, o_isiS, o_isiI, atI_0, atI_1, atI_2, atI_3, eqv_lst, eqv_tup, eqvL_nil, eqvL_cons, eqvL_str, eqv_str, eqS_int, ixN20, ixN21, fz_tup, Bool.false_and, Bool.and_false, o_posT, Int.cast_ofNat_Int, eq_self, dChain, dGin, dGix, o_gIn, o_gIx, o_mulI, o_mulS, dMake, dMethA, dMethL, dMethS, gDrop, slot0, o_insD, dRaise, dTryR, exM, dFld, pFl, dSfl, o_sflK, o_sflN, o_split, o_join, o_joinT, o_all]
  refine forgotten_out _ _ rs [] none none ok List.nodup_nil (by simpa using hl) fun c2 c3 => ?_
  simp only [pad, dNext, dSeq, dAsg, dFor, dEnum, dIt, dWhile, dIfS, dMS, dMA, dMN, dSub, dSfl, dRet, dRetV, dRetN, dRetT, dDrop, dBreak, dCont, dFz, fzS, dConsV, dCons, dNil, bCons, bNil, dVar, dC, dBin, dIx, dNeg, dCB, dMV, dTst, dAndT, dOrT, dNotT, dAnd, dOr, dNot, dIf, dLst, dLC, dLc, lcD, dYes, wipeD, dTup, dDct0, dLRev, dIsi, dSl, oNo, oSm, dCall, dCallL, gN, gTu, gsCons, gsNil, dRg1, dRg2, dRev, dZip, pVar, pIx, atP, getP, setP, unsetL, List.map_cons, List.map_nil, List.replicate_succ, List.replicate_zero, List.cons_append, List.nil_append, List.set_cons_zero, List.set_cons_succ, List.getElem?_cons_zero, List.getElem?_cons_succ, List.length_cons, List.length_nil, o_lt, o_ltS, o_gt, o_le, o_ge, o_add, o_addS, o_addL, o_addT, o_sub, o_mul, o_fdiv, o_mod, o_pow, o_eq, o_eqN, o_ne, o_neN, o_isB, o_isI, o_len, o_lenC, o_lenT, o_lenD, o_lenS, o_ix, o_ixC, o_ixT, o_ixS, o_ixDs, o_ixDi, o_put, o_inD, o_inDi, o_inL, o_inT, o_inS, o_idx, o_list, o_listC, o_listT, o_listD, o_tuple, o_tupleT, o_intI, o_intB, o_ord, o_str, o_max, o_min, o_isNo, o_tyL, o_tyT, o_tyD, o_tyS, o_tyI, o_sl, o_slC, o_slS, o_slT, cutG_map, o_lsD, o_lsC, o_it, o_itC, o_itT, o_itS, o_app, o_ext, o_ins, o_pop, o_rev, o_clr, o_pos, o_posS, Option.bind_some, Option.map_some, List.length_map, if_true, Bool.not_false, Bool.not_true, Bool.false_bne, Bool.true_bne,  safe_sc, safe_lstF, safe_scr, safe_tup, safe_f, true_and, and_true, Option.some.injEq, exists_eq_left', exists_eq_left, decide_true, decide_false, Bool.false_eq_true, Bool.true_eq_false, reduceIte, Nat.zero_add, fz_lst, fz_dct, fz_ins, fz_sc, fz_lstF, fz_scr, Nat.zero_le, Nat.reduceLeDiff, Nat.reduceAdd, Nat.reduceLT, Int.reduceLT, Int.reduceLE, and_self, frz_lst, frz_dct, frz_dctF, frzL_ints, frzL_strs, frz_lstF, frz_scr, frz_tup, frz_sc, frzL_nil, frzL_cons, frzL_str, frzL_int, fzL_nil, fzL_cons, fzL_str, fzL_int, noC_sc, noC_lst, noC_tup, noC_dct, noCL_nil, noCL_cons, noCL_str, noCL_str2, noCL_int, Bool.and_self, Bool.and_true, Bool.true_and, List.append_nil, true_or, or_true, flat_str, flat_int, any_str, o_isiT, o_isiL, o_isiS, o_isiI, atI_0, atI_1, atI_2, atI_3, eqv_lst, eqv_tup, eqvL_nil, eqvL_cons, eqvL_str, eqv_str, eqS_int, ixN20, ixN21, fz_tup, Bool.false_and, Bool.and_false, o_posT, Int.cast_ofNat_Int, eq_self, dChain, dGin, dGix, o_gIn, o_gIx, o_mulI, o_mulS, dMake, dMethA, dMethL, dMethS, gDrop, slot0, o_insD, dRaise, dTryR, exM, dFld, pFl, dSfl, o_sflK, o_sflN, o_split, o_join, o_joinT, o_all]
  exact q _
end LW

set_option Elab.async false
set_option linter.all false
set_option maxRecDepth 100000
set_option maxHeartbeats 2000000
namespace LW
open L2 DL TL
def plainWords : List Txt := [wRow, wMarks, wOver, wGreat]
def withoutR (ns : List Txt) : Rl → Option Rl
  | [] => some []
  | w :: ps =>
    if w = wAs then (if ps.headD [] ∈ ns then none else some (w :: ps))
    else if w ∈ plainWords then
      (if w = wGreat then (if (ps.drop 1).filter (fun p => decide (p ∉ ns)) = [] then none else some (w :: ps.take 1 ++ (ps.drop 1).filter fun p => decide (p ∉ ns)))
       else if ps.filter (fun p => decide (p ∉ ns)) = [] then none else some (w :: ps.filter fun p => decide (p ∉ ns)))
    else some (w :: ps)
def optD : Option Rl → D
  | none => .non
  | some r => ruD r
theorem ne_dec {a b : Txt} (h : a ≠ b) : decide (a = b) = false := decide_eq_false h
theorem without_mid {T : Txt → D} {d0 d2 : D} {w : Txt} {pre ps ns : List Txt} {X : List D} (hX : X = (w :: pre).map D.str) (hl : ps.length ≤ 10000) (hl0 : pre.length ≤ 10) {Q : D → Sl → Prop} (hok : ∀ p ∈ ps, okT p)
    (q : ∀ env, Q (optD (if ps.filter (fun p => decide (p ∉ ns)) = [] then none else some (w :: pre ++ ps.filter fun p => decide (p ∉ ns)))) env) :
    lcD (gN 4) (dTst (dBin (inD true) (dVar 4) (dVar 1))) (dVar 4) [some d0, some (nmD false ns), some d2, none, none]
      (fun out => okE 8 (D.nd (Kind.lst true) out) = true ∧ okE 8 (D.nd (Kind.lst true) []) = true ∧
          if eqvL out [] = true then Q (D.sc Sc.non) [some d0, some (nmD false ns), some d2, some (D.lst true out), none]
          else stb (Kind.lst true) out = true ∧ fzL X = true ∧ fzL out = true ∧ X.length + out.length ≤ 16777216 ∧ Q (D.tup (X ++ out)) [some d0, some (nmD false ns), some d2, some (D.lst true out), none])
      (ps.map D.str) [] := by
  refine lcD_filt (f := D.str) (r := D.str) (p := fun p => decide (p ∉ ns)) (by simp) ps [] (fun c _ Qb hq => ?_) (fun c _ _ Qd hq => ?_) (by simp; omega) ?_
  · have e : (true ^^ hasK (ns.map Sum.inr) (Sum.inr c : DK)) = decide (c ∉ ns) := by rw [hasK_inr, Bool.true_xor, decide_not]
    simp only [pad, dNext, dSeq, dAsg, dFor, dEnum, dIt, dWhile, dIfS, dMS, dMA, dMN, dSub, dSfl, dRet, dRetV, dRetN, dRetT, dDrop, dBreak, dCont, dFz, fzS, dConsV, dCons, dNil, bCons, bNil, dVar, dC, dBin, dIx, dNeg, dCB, dMV, dTst, dAndT, dOrT, dNotT, dAnd, dOr, dNot, dIf, dLst, dLC, dLc, lcD, dYes, wipeD, dTup, dDct0, dLRev, dIsi, dSl, oNo, oSm, dCall, dCallL, gN, gTu, gsCons, gsNil, dRg1, dRg2, dRev, dZip, pVar, pIx, atP, getP, setP, unsetL, List.map_cons, List.map_nil, List.replicate_succ, List.replicate_zero, List.cons_append, List.nil_append, List.set_cons_zero, List.set_cons_succ, List.getElem?_cons_zero, List.getElem?_cons_succ, List.length_cons, List.length_nil, o_lt, o_ltS, o_gt, o_le, o_ge, o_add, o_addS, o_addL, o_addT, o_sub, o_mul, o_fdiv, o_mod, o_pow, o_eq, o_eqN, o_ne, o_neN, o_isB, o_isI, o_len, o_lenC, o_lenT, o_lenD, o_lenS, o_ix, o_ixC, o_ixT, o_ixS, o_ixDs, o_ixDi, o_put, o_inD, o_inDi, o_inL, o_inT, o_inS, o_idx, o_list, o_listC, o_listT, o_listD, o_tuple, o_tupleT, o_intI, o_intB, o_ord, o_str, o_max, o_min, o_isNo, o_tyL, o_tyT, o_tyD, o_tyS, o_tyI, o_sl, o_slC, o_slS, o_slT, cutG_map, o_lsD, o_lsC, o_it, o_itC, o_itT, o_itS, o_app, o_ext, o_ins, o_pop, o_rev, o_clr, o_pos, o_posS, Option.bind_some, Option.map_some, List.length_map, if_true, Bool.not_false, Bool.not_true, Bool.false_bne, Bool.true_bne,  safe_sc, safe_lstF, safe_scr, safe_tup, safe_f, true_and, and_true, Option.some.injEq, exists_eq_left', exists_eq_left, decide_true, decide_false, Bool.false_eq_true, Bool.true_eq_false, reduceIte, Nat.zero_add, fz_lst, fz_dct, fz_ins, fz_sc, fz_lstF, fz_scr, Nat.zero_le, Nat.reduceLeDiff, Nat.reduceAdd, Nat.reduceLT, Int.reduceLT, Int.reduceLE, and_self, frz_lst, frz_dct, frz_dctF, frzL_ints, frzL_strs, frz_lstF, frz_scr, frz_tup, frz_sc, frzL_nil, frzL_cons, frzL_str, frzL_int, fzL_nil, fzL_cons, fzL_str, fzL_int, noC_sc, noC_lst, noC_tup, noC_dct, noCL_nil, noCL_cons, noCL_str, noCL_str2, noCL_int, Bool.and_self, Bool.and_true, Bool.true_and, List.append_nil, true_or, or_true, flat_str, flat_int, any_str, o_isiT, o_isiL, o_isiS, o_isiI, atI_0, atI_1, atI_2, atI_3, eqv_lst, eqv_tup, eqvL_nil, eqvL_cons, eqvL_str, eqv_str, eqS_int, ixN20, ixN21, fz_tup, Bool.false_and, Bool.and_false, o_posT, Int.cast_ofNat_Int, eq_self, dChain, dGin, dGix, o_gIn, o_gIx, o_mulI, o_mulS, dMake, dMethA, dMethL, dMethS, gDrop, slot0, o_insD, dRaise, dTryR, exM, dFld, pFl, dSfl, o_sflK, o_sflN, o_split, o_join, o_joinT, o_all, e]
    exact hq
  · simp only [pad, dNext, dSeq, dAsg, dFor, dEnum, dIt, dWhile, dIfS, dMS, dMA, dMN, dSub, dSfl, dRet, dRetV, dRetN, dRetT, dDrop, dBreak, dCont, dFz, fzS, dConsV, dCons, dNil, bCons, bNil, dVar, dC, dBin, dIx, dNeg, dCB, dMV, dTst, dAndT, dOrT, dNotT, dAnd, dOr, dNot, dIf, dLst, dLC, dLc, lcD, dYes, wipeD, dTup, dDct0, dLRev, dIsi, dSl, oNo, oSm, dCall, dCallL, gN, gTu, gsCons, gsNil, dRg1, dRg2, dRev, dZip, pVar, pIx, atP, getP, setP, unsetL, List.map_cons, List.map_nil, List.replicate_succ, List.replicate_zero, List.cons_append, List.nil_append, List.set_cons_zero, List.set_cons_succ, List.getElem?_cons_zero, List.getElem?_cons_succ, List.length_cons, List.length_nil, o_lt, o_ltS, o_gt, o_le, o_ge, o_add, o_addS, o_addL, o_addT, o_sub, o_mul, o_fdiv, o_mod, o_pow, o_eq, o_eqN, o_ne, o_neN, o_isB, o_isI, o_len, o_lenC, o_lenT, o_lenD, o_lenS, o_ix, o_ixC, o_ixT, o_ixS, o_ixDs, o_ixDi, o_put, o_inD, o_inDi, o_inL, o_inT, o_inS, o_idx, o_list, o_listC, o_listT, o_listD, o_tuple, o_tupleT, o_intI, o_intB, o_ord, o_str, o_max, o_min, o_isNo, o_tyL, o_tyT, o_tyD, o_tyS, o_tyI, o_sl, o_slC, o_slS, o_slT, cutG_map, o_lsD, o_lsC, o_it, o_itC, o_itT, o_itS, o_app, o_ext, o_ins, o_pop, o_rev, o_clr, o_pos, o_posS, Option.bind_some, Option.map_some, List.length_map, if_true, Bool.not_false, Bool.not_true, Bool.false_bne, Bool.true_bne,  safe_sc, safe_lstF, safe_scr, safe_tup, safe_f, true_and, and_true, Option.some.injEq, exists_eq_left', exists_eq_left, decide_true, decide_false, Bool.false_eq_true, Bool.true_eq_false, reduceIte, Nat.zero_add, fz_lst, fz_dct, fz_ins, fz_sc, fz_lstF, fz_scr, Nat.zero_le, Nat.reduceLeDiff, Nat.reduceAdd, Nat.reduceLT, Int.reduceLT, Int.reduceLE, and_self, frz_lst, frz_dct, frz_dctF, frzL_ints, frzL_strs, frz_lstF, frz_scr, frz_tup, frz_sc, frzL_nil, frzL_cons, frzL_str, frzL_int, fzL_nil, fzL_cons, fzL_str, fzL_int, noC_sc, noC_lst, noC_tup, noC_dct, noCL_nil, noCL_cons, noCL_str, noCL_str2, noCL_int, Bool.and_self, Bool.and_true, Bool.true_and, List.append_nil, true_or, or_true, flat_str, flat_int, any_str, o_isiT, o_isiL, o_isiS, o_isiI, atI_0, atI_1, atI_2, atI_3, eqv_lst, eqv_tup, eqvL_nil, eqvL_cons, eqvL_str, eqv_str, eqS_int, ixN20, ixN21, fz_tup, Bool.false_and, Bool.and_false, o_posT, Int.cast_ofNat_Int, eq_self, dChain, dGin, dGix, o_gIn, o_gIx, o_mulI, o_mulS, dMake, dMethA, dMethL, dMethS, gDrop, slot0, o_insD, dRaise, dTryR, exM, dFld, pFl, dSfl, o_sflK, o_sflN, o_split, o_join, o_joinT, o_all]
    exact hq _ safe_sc
  · rw [List.nil_append]
    have fl : (ps.filter fun p => decide (p ∉ ns)).length ≤ 10000 := Nat.le_trans (List.length_filter_le _ _) hl
    have ok1 : okE 8 (.nd (.lst true) ((ps.filter fun p => decide (p ∉ ns)).map D.str)) = true := okE_lst fun x hx => by
      obtain ⟨t, ht, rfl⟩ := List.mem_map.mp hx
      exact okE_str (hok t (List.mem_filter.mp ht).1)
    have ok0 : okE 8 (.nd (.lst true) []) = true := okE_lst fun _ z => by cases z
    generalize (ps.filter fun p => decide (p ∉ ns)) = left at q fl ok1 ⊢
    have e0 : eqvL (left.map D.str) [] = decide (left = []) := eqvL_str left []
    have st : stb (.lst true) (left.map D.str) = true := stb_lst (fzL_str _)
    refine ⟨ok1, ok0, ?_⟩
    rw [e0]
    by_cases h : left = []
    · rw [if_pos (decide_eq_true h)]
      rw [if_pos h] at q
      exact q _
    · rw [if_neg (by simpa using h)]
      rw [if_neg h] at q
      subst hX
      refine ⟨st, fzL_str _, fzL_str _, ?_, ?_⟩
      · rw [List.length_map, List.length_map, List.length_cons]; omega
      · rw [← List.map_append]; exact q _
theorem without_d {r : Rl} {ns : List Txt} (ok : Rl.ok r) (hok : ∀ p ∈ r, okT p) {Q : D → Sl → Prop} {E : EX → Sl → Prop} (q : ∀ env, Q (optD (withoutR ns r)) env) : sp_without [ruD r, nmD false ns] Q E := by
  obtain ⟨w, ps, rfl, h1, h2, h3⟩ := ok
  rw [e_sp_without, e_b_without]
  have f4 : [D.sc (Sc.str [114, 111, 119]), D.sc (Sc.str [109, 97, 114, 107, 115]), D.sc (Sc.str [111, 118, 101, 114]), D.sc (Sc.str [103, 114, 101, 97, 116])].all flatD = true := flat_str plainWords
  have a4 : ([D.sc (Sc.str [114, 111, 119]), D.sc (Sc.str [109, 97, 114, 107, 115]), D.sc (Sc.str [111, 118, 101, 114]), D.sc (Sc.str [103, 114, 101, 97, 116])].any fun d => eqv d (D.sc (Sc.str w))) = decide (w ∈ plainWords) := any_str plainWords w
  have hw0 : ∀ p ∈ ps, okT p := fun p hp => hok p (List.mem_cons_of_mem _ hp)
  rw [withoutR] at q
  by_cases ha : w = wAs
  · rw [if_pos ha] at q
    have e1 : decide (w = [97, 115]) = true := decide_eq_true ha
    have nin : w ∉ plainWords := by rw [ha]; decide
    cases ps with
    | nil => exact absurd rfl (h1 ha)
    | cons p ps =>
      have e2 : (false ^^ hasK (ns.map Sum.inr) (Sum.inr p : DK)) = decide (p ∈ ns) := by rw [hasK_inr]; simp
      simp only [pad, dNext, dSeq, dAsg, dFor, dEnum, dIt, dWhile, dIfS, dMS, dMA, dMN, dSub, dSfl, dRet, dRetV, dRetN, dRetT, dDrop, dBreak, dCont, dFz, fzS, dConsV, dCons, dNil, bCons, bNil, dVar, dC, dBin, dIx, dNeg, dCB, dMV, dTst, dAndT, dOrT, dNotT, dAnd, dOr, dNot, dIf, dLst, dLC, dLc, lcD, dYes, wipeD, dTup, dDct0, dLRev, dIsi, dSl, oNo, oSm, dCall, dCallL, gN, gTu, gsCons, gsNil, dRg1, dRg2, dRev, dZip, pVar, pIx, atP, getP, setP, unsetL, List.map_cons, List.map_nil, List.replicate_succ, List.replicate_zero, List.cons_append, List.nil_append, List.set_cons_zero, List.set_cons_succ, List.getElem?_cons_zero, List.getElem?_cons_succ, List.length_cons, List.length_nil, o_lt, o_ltS, o_gt, o_le, o_ge, o_add, o_addS, o_addL, o_addT, o_sub, o_mul, o_fdiv, o_mod, o_pow, o_eq, o_eqN, o_ne, o_neN, o_isB, o_isI, o_len, o_lenC, o_lenT, o_lenD, o_lenS, o_ix, o_ixC, o_ixT, o_ixS, o_ixDs, o_ixDi, o_put, o_inD, o_inDi, o_inL, o_inT, o_inS, o_idx, o_list, o_listC, o_listT, o_listD, o_tuple, o_tupleT, o_intI, o_intB, o_ord, o_str, o_max, o_min, o_isNo, o_tyL, o_tyT, o_tyD, o_tyS, o_tyI, o_sl, o_slC, o_slS, o_slT, cutG_map, o_lsD, o_lsC, o_it, o_itC, o_itT, o_itS, o_app, o_ext, o_ins, o_pop, o_rev, o_clr, o_pos, o_posS, Option.bind_some, Option.map_some, List.length_map, if_true, Bool.not_false, Bool.not_true, Bool.false_bne, Bool.true_bne,  safe_sc, safe_lstF, safe_scr, safe_tup, safe_f, true_and, and_true, Option.some.injEq, exists_eq_left', exists_eq_left, decide_true, decide_false, Bool.false_eq_true, Bool.true_eq_false, reduceIte, Nat.zero_add, fz_lst, fz_dct, fz_ins, fz_sc, fz_lstF, fz_scr, Nat.zero_le, Nat.reduceLeDiff, Nat.reduceAdd, Nat.reduceLT, Int.reduceLT, Int.reduceLE, and_self, frz_lst, frz_dct, frz_dctF, frzL_ints, frzL_strs, frz_lstF, frz_scr, frz_tup, frz_sc, frzL_nil, frzL_cons, frzL_str, frzL_int, fzL_nil, fzL_cons, fzL_str, fzL_int, noC_sc, noC_lst, noC_tup, noC_dct, noCL_nil, noCL_cons, noCL_str, noCL_str2, noCL_int, Bool.and_self, Bool.and_true, Bool.true_and, List.append_nil, true_or, or_true, flat_str, flat_int, any_str, o_isiT, o_isiL, o_isiS, o_isiI, atI_0, atI_1, atI_2, atI_3, eqv_lst, eqv_tup, eqvL_nil, eqvL_cons, eqvL_str, eqv_str, eqS_int, ixN20, ixN21, fz_tup, Bool.false_and, Bool.and_false, o_posT, Int.cast_ofNat_Int, eq_self, dChain, dGin, dGix, o_gIn, o_gIx, o_mulI, o_mulS, dMake, dMethA, dMethL, dMethS, gDrop, slot0, o_insD, dRaise, dTryR, exM, dFld, pFl, dSfl, o_sflK, o_sflN, o_split, o_join, o_joinT, o_all, eqS_str, e1, e2, f4, a4]
      by_cases hp : p ∈ ns
      · rw [if_pos (decide_eq_true hp)]
        rw [List.headD_cons, if_pos hp] at q
        exact q _
      · rw [if_neg (by simpa using hp), decide_eq_false nin]
        rw [List.headD_cons, if_neg hp] at q
        exact q _
  · rw [if_neg ha] at q
    have e1 : decide (w = [97, 115]) = false := decide_eq_false ha
    simp only [pad, dNext, dSeq, dAsg, dFor, dEnum, dIt, dWhile, dIfS, dMS, dMA, dMN, dSub, dSfl, dRet, dRetV, dRetN, dRetT, dDrop, dBreak, dCont, dFz, fzS, dConsV, dCons, dNil, bCons, bNil, dVar, dC, dBin, dIx, dNeg, dCB, dMV, dTst, dAndT, dOrT, dNotT, dAnd, dOr, dNot, dIf, dLst, dLC, dLc, lcD, dYes, wipeD, dTup, dDct0, dLRev, dIsi, dSl, oNo, oSm, dCall, dCallL, gN, gTu, gsCons, gsNil, dRg1, dRg2, dRev, dZip, pVar, pIx, atP, getP, setP, unsetL, List.map_cons, List.map_nil, List.replicate_succ, List.replicate_zero, List.cons_append, List.nil_append, List.set_cons_zero, List.set_cons_succ, List.getElem?_cons_zero, List.getElem?_cons_succ, List.length_cons, List.length_nil, o_lt, o_ltS, o_gt, o_le, o_ge, o_add, o_addS, o_addL, o_addT, o_sub, o_mul, o_fdiv, o_mod, o_pow, o_eq, o_eqN, o_ne, o_neN, o_isB, o_isI, o_len, o_lenC, o_lenT, o_lenD, o_lenS, o_ix, o_ixC, o_ixT, o_ixS, o_ixDs, o_ixDi, o_put, o_inD, o_inDi, o_inL, o_inT, o_inS, o_idx, o_list, o_listC, o_listT, o_listD, o_tuple, o_tupleT, o_intI, o_intB, o_ord, o_str, o_max, o_min, o_isNo, o_tyL, o_tyT, o_tyD, o_tyS, o_tyI, o_sl, o_slC, o_slS, o_slT, cutG_map, o_lsD, o_lsC, o_it, o_itC, o_itT, o_itS, o_app, o_ext, o_ins, o_pop, o_rev, o_clr, o_pos, o_posS, Option.bind_some, Option.map_some, List.length_map, if_true, Bool.not_false, Bool.not_true, Bool.false_bne, Bool.true_bne,  safe_sc, safe_lstF, safe_scr, safe_tup, safe_f, true_and, and_true, Option.some.injEq, exists_eq_left', exists_eq_left, decide_true, decide_false, Bool.false_eq_true, Bool.true_eq_false, reduceIte, Nat.zero_add, fz_lst, fz_dct, fz_ins, fz_sc, fz_lstF, fz_scr, Nat.zero_le, Nat.reduceLeDiff, Nat.reduceAdd, Nat.reduceLT, Int.reduceLT, Int.reduceLE, and_self, frz_lst, frz_dct, frz_dctF, frzL_ints, frzL_strs, frz_lstF, frz_scr, frz_tup, frz_sc, frzL_nil, frzL_cons, frzL_str, frzL_int, fzL_nil, fzL_cons, fzL_str, fzL_int, noC_sc, noC_lst, noC_tup, noC_dct, noCL_nil, noCL_cons, noCL_str, noCL_str2, noCL_int, Bool.and_self, Bool.and_true, Bool.true_and, List.append_nil, true_or, or_true, flat_str, flat_int, any_str, o_isiT, o_isiL, o_isiS, o_isiI, atI_0, atI_1, atI_2, atI_3, eqv_lst, eqv_tup, eqvL_nil, eqvL_cons, eqvL_str, eqv_str, eqS_int, ixN20, ixN21, fz_tup, Bool.false_and, Bool.and_false, o_posT, Int.cast_ofNat_Int, eq_self, dChain, dGin, dGix, o_gIn, o_gIx, o_mulI, o_mulS, dMake, dMethA, dMethL, dMethS, gDrop, slot0, o_insD, dRaise, dTryR, exM, dFld, pFl, dSfl, o_sflK, o_sflN, o_split, o_join, o_joinT, o_all, eqS_str, e1, f4, a4]
    by_cases hp : w ∈ plainWords
    · rw [if_pos hp] at q
      simp only [decide_eq_true hp, pad, dNext, dSeq, dAsg, dFor, dEnum, dIt, dWhile, dIfS, dMS, dMA, dMN, dSub, dSfl, dRet, dRetV, dRetN, dRetT, dDrop, dBreak, dCont, dFz, fzS, dConsV, dCons, dNil, bCons, bNil, dVar, dC, dBin, dIx, dNeg, dCB, dMV, dTst, dAndT, dOrT, dNotT, dAnd, dOr, dNot, dIf, dLst, dLC, dLc, lcD, dYes, wipeD, dTup, dDct0, dLRev, dIsi, dSl, oNo, oSm, dCall, dCallL, gN, gTu, gsCons, gsNil, dRg1, dRg2, dRev, dZip, pVar, pIx, atP, getP, setP, unsetL, List.map_cons, List.map_nil, List.replicate_succ, List.replicate_zero, List.cons_append, List.nil_append, List.set_cons_zero, List.set_cons_succ, List.getElem?_cons_zero, List.getElem?_cons_succ, List.length_cons, List.length_nil, o_lt, o_ltS, o_gt, o_le, o_ge, o_add, o_addS, o_addL, o_addT, o_sub, o_mul, o_fdiv, o_mod, o_pow, o_eq, o_eqN, o_ne, o_neN, o_isB, o_isI, o_len, o_lenC, o_lenT, o_lenD, o_lenS, o_ix, o_ixC, o_ixT, o_ixS, o_ixDs, o_ixDi, o_put, o_inD, o_inDi, o_inL, o_inT, o_inS, o_idx, o_list, o_listC, o_listT, o_listD, o_tuple, o_tupleT, o_intI, o_intB, o_ord, o_str, o_max, o_min, o_isNo, o_tyL, o_tyT, o_tyD, o_tyS, o_tyI, o_sl, o_slC, o_slS, o_slT, cutG_map, o_lsD, o_lsC, o_it, o_itC, o_itT, o_itS, o_app, o_ext, o_ins, o_pop, o_rev, o_clr, o_pos, o_posS, Option.bind_some, Option.map_some, List.length_map, if_true, Bool.not_false, Bool.not_true, Bool.false_bne, Bool.true_bne,  safe_sc, safe_lstF, safe_scr, safe_tup, safe_f, true_and, and_true, Option.some.injEq, exists_eq_left', exists_eq_left, decide_true, decide_false, Bool.false_eq_true, Bool.true_eq_false, reduceIte, Nat.zero_add, fz_lst, fz_dct, fz_ins, fz_sc, fz_lstF, fz_scr, Nat.zero_le, Nat.reduceLeDiff, Nat.reduceAdd, Nat.reduceLT, Int.reduceLT, Int.reduceLE, and_self, frz_lst, frz_dct, frz_dctF, frzL_ints, frzL_strs, frz_lstF, frz_scr, frz_tup, frz_sc, frzL_nil, frzL_cons, frzL_str, frzL_int, fzL_nil, fzL_cons, fzL_str, fzL_int, noC_sc, noC_lst, noC_tup, noC_dct, noCL_nil, noCL_cons, noCL_str, noCL_str2, noCL_int, Bool.and_self, Bool.and_true, Bool.true_and, List.append_nil, true_or, or_true, flat_str, flat_int, any_str, o_isiT, o_isiL, o_isiS, o_isiI, atI_0, atI_1, atI_2, atI_3, eqv_lst, eqv_tup, eqvL_nil, eqvL_cons, eqvL_str, eqv_str, eqS_int, ixN20, ixN21, fz_tup, Bool.false_and, Bool.and_false, o_posT, Int.cast_ofNat_Int, eq_self, dChain, dGin, dGix, o_gIn, o_gIx, o_mulI, o_mulS, dMake, dMethA, dMethL, dMethS, gDrop, slot0, o_insD, dRaise, dTryR, exM, dFld, pFl, dSfl, o_sflK, o_sflN, o_split, o_join, o_joinT, o_all]
      by_cases hg : w = wGreat
      · rw [if_pos hg] at q
        rw [if_pos (show decide (w = [103, 114, 101, 97, 116]) = true from decide_eq_true hg)]
        cases ps with
        | nil => exact absurd rfl (h2 hg)
        | cons p ps =>
          rw [List.length_cons] at h3
          rw [List.map_cons, cutG_f2, cutG_t2, frzL_str]
          exact without_mid (T := D.str) (pre := [p]) (ps := ps) rfl (by omega) (by simp) (fun x hx => hw0 x (List.mem_cons_of_mem _ hx)) q
      · rw [if_neg hg] at q
        rw [if_neg (show ¬ decide (w = [103, 114, 101, 97, 116]) = true from by rw [show decide (w = [103, 114, 101, 97, 116]) = false from decide_eq_false hg]; decide)]
        rw [cutG_f1, cutG_t1, frzL_str]
        exact without_mid (T := D.str) (pre := []) (ps := ps) rfl (by omega) (by simp) hw0 q
    · rw [if_neg hp] at q
      simp only [decide_eq_false hp, pad, dNext, dSeq, dAsg, dFor, dEnum, dIt, dWhile, dIfS, dMS, dMA, dMN, dSub, dSfl, dRet, dRetV, dRetN, dRetT, dDrop, dBreak, dCont, dFz, fzS, dConsV, dCons, dNil, bCons, bNil, dVar, dC, dBin, dIx, dNeg, dCB, dMV, dTst, dAndT, dOrT, dNotT, dAnd, dOr, dNot, dIf, dLst, dLC, dLc, lcD, dYes, wipeD, dTup, dDct0, dLRev, dIsi, dSl, oNo, oSm, dCall, dCallL, gN, gTu, gsCons, gsNil, dRg1, dRg2, dRev, dZip, pVar, pIx, atP, getP, setP, unsetL, List.map_cons, List.map_nil, List.replicate_succ, List.replicate_zero, List.cons_append, List.nil_append, List.set_cons_zero, List.set_cons_succ, List.getElem?_cons_zero, List.getElem?_cons_succ, List.length_cons, List.length_nil, o_lt, o_ltS, o_gt, o_le, o_ge, o_add, o_addS, o_addL, o_addT, o_sub, o_mul, o_fdiv, o_mod, o_pow, o_eq, o_eqN, o_ne, o_neN, o_isB, o_isI, o_len, o_lenC, o_lenT, o_lenD, o_lenS, o_ix, o_ixC, o_ixT, o_ixS, o_ixDs, o_ixDi, o_put, o_inD, o_inDi, o_inL, o_inT, o_inS, o_idx, o_list, o_listC, o_listT, o_listD, o_tuple, o_tupleT, o_intI, o_intB, o_ord, o_str, o_max, o_min, o_isNo, o_tyL, o_tyT, o_tyD, o_tyS, o_tyI, o_sl, o_slC, o_slS, o_slT, cutG_map, o_lsD, o_lsC, o_it, o_itC, o_itT, o_itS, o_app, o_ext, o_ins, o_pop, o_rev, o_clr, o_pos, o_posS, Option.bind_some, Option.map_some, List.length_map, if_true, Bool.not_false, Bool.not_true, Bool.false_bne, Bool.true_bne,  safe_sc, safe_lstF, safe_scr, safe_tup, safe_f, true_and, and_true, Option.some.injEq, exists_eq_left', exists_eq_left, decide_true, decide_false, Bool.false_eq_true, Bool.true_eq_false, reduceIte, Nat.zero_add, fz_lst, fz_dct, fz_ins, fz_sc, fz_lstF, fz_scr, Nat.zero_le, Nat.reduceLeDiff, Nat.reduceAdd, Nat.reduceLT, Int.reduceLT, Int.reduceLE, and_self, frz_lst, frz_dct, frz_dctF, frzL_ints, frzL_strs, frz_lstF, frz_scr, frz_tup, frz_sc, frzL_nil, frzL_cons, frzL_str, frzL_int, fzL_nil, fzL_cons, fzL_str, fzL_int, noC_sc, noC_lst, noC_tup, noC_dct, noCL_nil, noCL_cons, noCL_str, noCL_str2, noCL_int, Bool.and_self, Bool.and_true, Bool.true_and, List.append_nil, true_or, or_true, flat_str, flat_int, any_str, o_isiT, o_isiL, o_isiS, o_isiI, atI_0, atI_1, atI_2, atI_3, eqv_lst, eqv_tup, eqvL_nil, eqvL_cons, eqvL_str, eqv_str, eqS_int, ixN20, ixN21, fz_tup, Bool.false_and, Bool.and_false, o_posT, Int.cast_ofNat_Int, eq_self, dChain, dGin, dGix, o_gIn, o_gIx, o_mulI, o_mulS, dMake, dMethA, dMethL, dMethS, gDrop, slot0, o_insD, dRaise, dTryR, exM, dFld, pFl, dSfl, o_sflK, o_sflN, o_split, o_join, o_joinT, o_all]
      exact q _
end LW

set_option Elab.async false
set_option linter.all false
set_option maxRecDepth 100000
set_option maxHeartbeats 2000000
namespace LW
open L2 DL TL
def changedR (rules more : List Rl) : List Rl := (rules.filter fun r => !isForget r).filterMap (withoutR (namedOf more)) ++ more.filter fun r => !isForget r
def stepE (ns : List Txt) (acc : List Rl) (r : Rl) : List Rl := if isForget r then acc else match withoutR ns r with
  | some x => acc ++ [x]
  | none => acc
def stepM (acc : List Rl) (r : Rl) : List Rl := if isForget r then acc else acc ++ [r]
theorem isForget_cons (w : Txt) (ps : List Txt) : isForget (w :: ps) = decide (w = wForget) := by
  unfold isForget
  by_cases h : w = wForget
  · rw [decide_eq_true h, decide_eq_true (by rw [h]; rfl)]
  · rw [decide_eq_false h]
    show decide (some w = some wForget) = false
    exact decide_eq_false fun z => h (Option.some.inj z)
theorem stepM_y {acc : List Rl} {w : Txt} {ps : List Txt} (h : w = wForget) : stepM acc (w :: ps) = acc := by unfold stepM; rw [isForget_cons, if_pos (decide_eq_true h)]
theorem stepM_n {acc : List Rl} {w : Txt} {ps : List Txt} (h : ¬ w = wForget) : stepM acc (w :: ps) = acc ++ [w :: ps] := by unfold stepM; rw [isForget_cons, if_neg (by simpa using h)]
theorem stepE_y {ns : List Txt} {acc : List Rl} {w : Txt} {ps : List Txt} (h : w = wForget) : stepE ns acc (w :: ps) = acc := by unfold stepE; rw [isForget_cons, if_pos (decide_eq_true h)]
theorem stepE_n {ns : List Txt} {acc : List Rl} {w : Txt} {ps : List Txt} (h : ¬ w = wForget) (e : withoutR ns (w :: ps) = none) : stepE ns acc (w :: ps) = acc := by unfold stepE; rw [isForget_cons, if_neg (by simpa using h), e]
theorem stepE_s {ns : List Txt} {acc : List Rl} {w : Txt} {ps : List Txt} {x : Rl} (h : ¬ w = wForget) (e : withoutR ns (w :: ps) = some x) : stepE ns acc (w :: ps) = acc ++ [x] := by unfold stepE; rw [isForget_cons, if_neg (by simpa using h), e]
theorem rus_snoc (o : Bool) (acc : List Rl) (r : Rl) : D.nd (.lst o) (acc.map ruD ++ [ruD r]) = rusD o (acc ++ [r]) := by simp [rusD]
theorem stepE_all (ns : List Txt) : ∀ (rs acc : List Rl), rs.foldl (stepE ns) acc = acc ++ (rs.filter fun r => !isForget r).filterMap (withoutR ns)
  | [], acc => by simp
  | r :: t, acc => by
    rw [List.foldl_cons, stepE_all ns t]
    unfold stepE
    by_cases h : isForget r = true
    · rw [if_pos h, List.filter_cons_of_neg (by simp [h])]
    · rw [if_neg h, List.filter_cons_of_pos (by simpa using h)]
      cases hw : withoutR ns r with
      | none => rw [List.filterMap_cons_none hw]
      | some x => rw [List.filterMap_cons_some hw, List.append_assoc]; rfl
theorem stepM_all : ∀ (rs acc : List Rl), rs.foldl stepM acc = acc ++ rs.filter fun r => !isForget r
  | [], acc => by simp
  | r :: t, acc => by
    rw [List.foldl_cons, stepM_all t]
    unfold stepM
    by_cases h : isForget r = true
    · rw [if_pos h, List.filter_cons_of_neg (by simp [h])]
    · rw [if_neg h, List.filter_cons_of_pos (by simpa using h), List.append_assoc]; rfl
theorem changed_more (Dd : ED) (c0 c1 c2 : Option D) : ∀ (rs acc : List Rl) (c4 c5 : Option D), (∀ r ∈ rs, Rl.ok r) → acc.length + rs.length ≤ 100000 →
    (∀ c4 c5, Dd.nx [c0, c1, c2, some (rusD true (rs.foldl stepM acc)), c4, c5]) → forD (gN 4) lb_changed_0 Dd (rs.map ruD) [c0, c1, c2, some (rusD true acc), c4, c5]
  | [], acc, c4, c5, ok, hl, q => q c4 c5
  | r :: t, acc, c4, c5, ok, hl, q => by
    obtain ⟨w, ps, er, _, _, hp⟩ := ok r List.mem_cons_self
    subst er
    rw [List.length_cons] at hl
    have ok' := fun x hx => ok x (List.mem_cons_of_mem _ hx)
    have l1 : acc.length < 1000000 := by omega
    have ih := fun acc2 => changed_more Dd c0 c1 c2 t acc2 (some (ruD (w :: ps))) c5 ok'
    simp only [List.map_cons, forD, e_lb_changed_0, pad, dNext, dSeq, dAsg, dFor, dEnum, dIt, dWhile, dIfS, dMS, dMA, dMN, dSub, dSfl, dRet, dRetV, dRetN, dRetT, dDrop, dBreak, dCont, dFz, fzS, dConsV, dCons, dNil, bCons, bNil, dVar, dC, dBin, dIx, dNeg, dCB, dMV, dTst, dAndT, dOrT, dNotT, dAnd, dOr, dNot, dIf, dLst, dLC, dLc, lcD, dYes, wipeD, dTup, dDct0, dLRev, dIsi, dSl, oNo, oSm, dCall, dCallL, gN, gTu, gsCons, gsNil, dRg1, dRg2, dRev, dZip, pVar, pIx, atP, getP, setP, unsetL, List.map_cons, List.map_nil, List.replicate_succ, List.replicate_zero, List.cons_append, List.nil_append, List.set_cons_zero, List.set_cons_succ, List.getElem?_cons_zero, List.getElem?_cons_succ, List.length_cons, List.length_nil, o_lt, o_ltS, o_gt, o_le, o_ge, o_add, o_addS, o_addL, o_addT, o_sub, o_mul, o_fdiv, o_mod, o_pow, o_eq, o_eqN, o_ne, o_neN, o_isB, o_isI, o_len, o_lenC, o_lenT, o_lenD, o_lenS, o_ix, o_ixC, o_ixT, o_ixS, o_ixDs, o_ixDi, o_put, o_inD, o_inDi, o_inL, o_inT, o_inS, o_idx, o_list, o_listC, o_listT, o_listD, o_tuple, o_tupleT, o_intI, o_intB, o_ord, o_str, o_max, o_min, o_isNo, o_tyL, o_tyT, o_tyD, o_tyS, o_tyI, o_sl, o_slC, o_slS, o_slT, cutG_map, o_lsD, o_lsC, o_it, o_itC, o_itT, o_itS, o_app, o_ext, o_ins, o_pop, o_rev, o_clr, o_pos, o_posS, Option.bind_some, Option.map_some, List.length_map, if_true, Bool.not_false, Bool.not_true, Bool.false_bne, Bool.true_bne,  safe_sc, safe_lstF, safe_scr, safe_tup, safe_f, true_and, and_true, Option.some.injEq, exists_eq_left', exists_eq_left, decide_true, decide_false, Bool.false_eq_true, Bool.true_eq_false, reduceIte, Nat.zero_add, fz_lst, fz_dct, fz_ins, fz_sc, fz_lstF, fz_scr, Nat.zero_le, Nat.reduceLeDiff, Nat.reduceAdd, Nat.reduceLT, Int.reduceLT, Int.reduceLE, and_self, frz_lst, frz_dct, frz_dctF, frzL_ints, frzL_strs, frz_lstF, frz_scr, frz_tup, frz_sc, frzL_nil, frzL_cons, frzL_str, frzL_int, fzL_nil, fzL_cons, fzL_str, fzL_int, noC_sc, noC_lst, noC_tup, noC_dct, noCL_nil, noCL_cons, noCL_str, noCL_str2, noCL_int, Bool.and_self, Bool.and_true, Bool.true_and, List.append_nil, true_or, or_true, flat_str, flat_int, any_str, o_isiT, o_isiL, o_isiS, o_isiI, atI_0, atI_1, atI_2, atI_3, eqv_lst, eqv_tup, eqvL_nil, eqvL_cons, eqvL_str, eqv_str, eqS_int, ixN20, ixN21, fz_tup, Bool.false_and, Bool.and_false, o_posT, Int.cast_ofNat_Int, eq_self, dChain, dGin, dGix, o_gIn, o_gIx, o_mulI, o_mulS, dMake, dMethA, dMethL, dMethS, gDrop, slot0, o_insD, dRaise, dTryR, exM, dFld, pFl, dSfl, o_sflK, o_sflN, o_split, o_join, o_joinT, o_all, eqS_str, l1]
    rw [List.foldl_cons] at q
    by_cases h : w = wForget
    · have e1 : decide (w = [102, 111, 114, 103, 101, 116]) = true := decide_eq_true h
      rw [stepM_y h] at q
      rw [if_neg (by rw [e1]; decide)]
      exact ih acc (by omega) q
    · have e1 : decide (w = [102, 111, 114, 103, 101, 116]) = false := decide_eq_false h
      rw [stepM_n h] at q
      rw [if_pos (by rw [e1]; rfl)]
      first | rw [rus_snoc] | skip
      exact ih (acc ++ [w :: ps]) (by rw [List.length_append, List.length_singleton]; omega) q
theorem changed_rules (Dd : ED) (c0 c1 : Option D) {ns : List Txt} : ∀ (rs acc : List Rl) (c4 c5 : Option D), (∀ r ∈ rs, Rl.ok r ∧ ∀ p ∈ r, okT p) → acc.length + rs.length ≤ 100000 →
    (∀ c4 c5, Dd.nx [c0, c1, some (nmD true ns), some (rusD true (rs.foldl (stepE ns) acc)), c4, c5]) → forD (gN 4) lb_changed_1 Dd (rs.map ruD) [c0, c1, some (nmD true ns), some (rusD true acc), c4, c5]
  | [], acc, c4, c5, ok, hl, q => q c4 c5
  | r :: t, acc, c4, c5, ok, hl, q => by
    have ok0 := ok r List.mem_cons_self
    have ok' := fun x hx => ok x (List.mem_cons_of_mem _ hx)
    rw [List.length_cons] at hl
    have l1 : acc.length < 1000000 := by omega
    have nc : noC (optD (withoutR ns r)) = true := by
      cases withoutR ns r with
      | none => rfl
      | some x => show noC (ruD x) = true; rw [noC_tup, noCL_str]
    have fb : frzL (ns.map fun _ => D.bl true) = ns.map fun _ => D.bl true := frzL_sc (fun _ => Sc.bl true) ns
    have ih := fun acc2 c4 c5 => changed_rules Dd c0 c1 (ns := ns) t acc2 c4 c5 ok'
    rw [List.foldl_cons] at q
    obtain ⟨⟨w, ps, er, h1, h2, h3⟩, hk⟩ := ok0
    subst er
    rw [List.map_cons, forD]
    generalize hF : forD (gN 4) lb_changed_1 Dd (t.map ruD) = F at ih
    simp only [e_lb_changed_1, pad, dNext, dSeq, dAsg, dFor, dEnum, dIt, dWhile, dIfS, dMS, dMA, dMN, dSub, dSfl, dRet, dRetV, dRetN, dRetT, dDrop, dBreak, dCont, dFz, fzS, dConsV, dCons, dNil, bCons, bNil, dVar, dC, dBin, dIx, dNeg, dCB, dMV, dTst, dAndT, dOrT, dNotT, dAnd, dOr, dNot, dIf, dLst, dLC, dLc, lcD, dYes, wipeD, dTup, dDct0, dLRev, dIsi, dSl, oNo, oSm, dCall, dCallL, gN, gTu, gsCons, gsNil, dRg1, dRg2, dRev, dZip, pVar, pIx, atP, getP, setP, unsetL, List.map_cons, List.map_nil, List.replicate_succ, List.replicate_zero, List.cons_append, List.nil_append, List.set_cons_zero, List.set_cons_succ, List.getElem?_cons_zero, List.getElem?_cons_succ, List.length_cons, List.length_nil, o_lt, o_ltS, o_gt, o_le, o_ge, o_add, o_addS, o_addL, o_addT, o_sub, o_mul, o_fdiv, o_mod, o_pow, o_eq, o_eqN, o_ne, o_neN, o_isB, o_isI, o_len, o_lenC, o_lenT, o_lenD, o_lenS, o_ix, o_ixC, o_ixT, o_ixS, o_ixDs, o_ixDi, o_put, o_inD, o_inDi, o_inL, o_inT, o_inS, o_idx, o_list, o_listC, o_listT, o_listD, o_tuple, o_tupleT, o_intI, o_intB, o_ord, o_str, o_max, o_min, o_isNo, o_tyL, o_tyT, o_tyD, o_tyS, o_tyI, o_sl, o_slC, o_slS, o_slT, cutG_map, o_lsD, o_lsC, o_it, o_itC, o_itT, o_itS, o_app, o_ext, o_ins, o_pop, o_rev, o_clr, o_pos, o_posS, Option.bind_some, Option.map_some, List.length_map, if_true, Bool.not_false, Bool.not_true, Bool.false_bne, Bool.true_bne,  safe_sc, safe_lstF, safe_scr, safe_tup, safe_f, true_and, and_true, Option.some.injEq, exists_eq_left', exists_eq_left, decide_true, decide_false, Bool.false_eq_true, Bool.true_eq_false, reduceIte, Nat.zero_add, fz_lst, fz_dct, fz_ins, fz_sc, fz_lstF, fz_scr, Nat.zero_le, Nat.reduceLeDiff, Nat.reduceAdd, Nat.reduceLT, Int.reduceLT, Int.reduceLE, and_self, frz_lst, frz_dct, frz_dctF, frzL_ints, frzL_strs, frz_lstF, frz_scr, frz_tup, frz_sc, frzL_nil, frzL_cons, frzL_str, frzL_int, fzL_nil, fzL_cons, fzL_str, fzL_int, noC_sc, noC_lst, noC_tup, noC_dct, noCL_nil, noCL_cons, noCL_str, noCL_str2, noCL_int, Bool.and_self, Bool.and_true, Bool.true_and, List.append_nil, true_or, or_true, flat_str, flat_int, any_str, o_isiT, o_isiL, o_isiS, o_isiI, atI_0, atI_1, atI_2, atI_3, eqv_lst, eqv_tup, eqvL_nil, eqvL_cons, eqvL_str, eqv_str, eqS_int, ixN20, ixN21, fz_tup, Bool.false_and, Bool.and_false, o_posT, Int.cast_ofNat_Int, eq_self, dChain, dGin, dGix, o_gIn, o_gIx, o_mulI, o_mulS, dMake, dMethA, dMethL, dMethS, gDrop, slot0, o_insD, dRaise, dTryR, exM, dFld, pFl, dSfl, o_sflK, o_sflN, o_split, o_join, o_joinT, o_all, eqS_str, l1, fb]
    refine without_d (r := w :: ps) ⟨w, ps, rfl, h1, h2, h3⟩ hk fun env => ?_
    refine ⟨nc, ?_⟩
    by_cases h : w = wForget
    · rw [stepE_y h] at q
      rw [if_neg (by rw [show decide (w = [102, 111, 114, 103, 101, 116]) = true from decide_eq_true h]; decide)]
      exact ih acc _ _ (by omega) q
    · rw [if_pos (by rw [show decide (w = [102, 111, 114, 103, 101, 116]) = false from decide_eq_false h]; rfl)]
      cases hx : withoutR ns (w :: ps) with
      | none =>
        rw [stepE_n h hx] at q
        simp only [optD, o_isNt', pad, dNext, dSeq, dAsg, dFor, dEnum, dIt, dWhile, dIfS, dMS, dMA, dMN, dSub, dSfl, dRet, dRetV, dRetN, dRetT, dDrop, dBreak, dCont, dFz, fzS, dConsV, dCons, dNil, bCons, bNil, dVar, dC, dBin, dIx, dNeg, dCB, dMV, dTst, dAndT, dOrT, dNotT, dAnd, dOr, dNot, dIf, dLst, dLC, dLc, lcD, dYes, wipeD, dTup, dDct0, dLRev, dIsi, dSl, oNo, oSm, dCall, dCallL, gN, gTu, gsCons, gsNil, dRg1, dRg2, dRev, dZip, pVar, pIx, atP, getP, setP, unsetL, List.map_cons, List.map_nil, List.replicate_succ, List.replicate_zero, List.cons_append, List.nil_append, List.set_cons_zero, List.set_cons_succ, List.getElem?_cons_zero, List.getElem?_cons_succ, List.length_cons, List.length_nil, o_lt, o_ltS, o_gt, o_le, o_ge, o_add, o_addS, o_addL, o_addT, o_sub, o_mul, o_fdiv, o_mod, o_pow, o_eq, o_eqN, o_ne, o_neN, o_isB, o_isI, o_len, o_lenC, o_lenT, o_lenD, o_lenS, o_ix, o_ixC, o_ixT, o_ixS, o_ixDs, o_ixDi, o_put, o_inD, o_inDi, o_inL, o_inT, o_inS, o_idx, o_list, o_listC, o_listT, o_listD, o_tuple, o_tupleT, o_intI, o_intB, o_ord, o_str, o_max, o_min, o_isNo, o_tyL, o_tyT, o_tyD, o_tyS, o_tyI, o_sl, o_slC, o_slS, o_slT, cutG_map, o_lsD, o_lsC, o_it, o_itC, o_itT, o_itS, o_app, o_ext, o_ins, o_pop, o_rev, o_clr, o_pos, o_posS, Option.bind_some, Option.map_some, List.length_map, if_true, Bool.not_false, Bool.not_true, Bool.false_bne, Bool.true_bne,  safe_sc, safe_lstF, safe_scr, safe_tup, safe_f, true_and, and_true, Option.some.injEq, exists_eq_left', exists_eq_left, decide_true, decide_false, Bool.false_eq_true, Bool.true_eq_false, reduceIte, Nat.zero_add, fz_lst, fz_dct, fz_ins, fz_sc, fz_lstF, fz_scr, Nat.zero_le, Nat.reduceLeDiff, Nat.reduceAdd, Nat.reduceLT, Int.reduceLT, Int.reduceLE, and_self, frz_lst, frz_dct, frz_dctF, frzL_ints, frzL_strs, frz_lstF, frz_scr, frz_tup, frz_sc, frzL_nil, frzL_cons, frzL_str, frzL_int, fzL_nil, fzL_cons, fzL_str, fzL_int, noC_sc, noC_lst, noC_tup, noC_dct, noCL_nil, noCL_cons, noCL_str, noCL_str2, noCL_int, Bool.and_self, Bool.and_true, Bool.true_and, List.append_nil, true_or, or_true, flat_str, flat_int, any_str, o_isiT, o_isiL, o_isiS, o_isiI, atI_0, atI_1, atI_2, atI_3, eqv_lst, eqv_tup, eqvL_nil, eqvL_cons, eqvL_str, eqv_str, eqS_int, ixN20, ixN21, fz_tup, Bool.false_and, Bool.and_false, o_posT, Int.cast_ofNat_Int, eq_self, dChain, dGin, dGix, o_gIn, o_gIx, o_mulI, o_mulS, dMake, dMethA, dMethL, dMethS, gDrop, slot0, o_insD, dRaise, dTryR, exM, dFld, pFl, dSfl, o_sflK, o_sflN, o_split, o_join, o_joinT, o_all]
        exact ih acc _ _ (by omega) q
      | some x =>
        rw [stepE_s h hx] at q
        have fx : fzL (x.map D.str) = true := fzL_str x
        simp only [optD, o_isNtN, pad, dNext, dSeq, dAsg, dFor, dEnum, dIt, dWhile, dIfS, dMS, dMA, dMN, dSub, dSfl, dRet, dRetV, dRetN, dRetT, dDrop, dBreak, dCont, dFz, fzS, dConsV, dCons, dNil, bCons, bNil, dVar, dC, dBin, dIx, dNeg, dCB, dMV, dTst, dAndT, dOrT, dNotT, dAnd, dOr, dNot, dIf, dLst, dLC, dLc, lcD, dYes, wipeD, dTup, dDct0, dLRev, dIsi, dSl, oNo, oSm, dCall, dCallL, gN, gTu, gsCons, gsNil, dRg1, dRg2, dRev, dZip, pVar, pIx, atP, getP, setP, unsetL, List.map_cons, List.map_nil, List.replicate_succ, List.replicate_zero, List.cons_append, List.nil_append, List.set_cons_zero, List.set_cons_succ, List.getElem?_cons_zero, List.getElem?_cons_succ, List.length_cons, List.length_nil, o_lt, o_ltS, o_gt, o_le, o_ge, o_add, o_addS, o_addL, o_addT, o_sub, o_mul, o_fdiv, o_mod, o_pow, o_eq, o_eqN, o_ne, o_neN, o_isB, o_isI, o_len, o_lenC, o_lenT, o_lenD, o_lenS, o_ix, o_ixC, o_ixT, o_ixS, o_ixDs, o_ixDi, o_put, o_inD, o_inDi, o_inL, o_inT, o_inS, o_idx, o_list, o_listC, o_listT, o_listD, o_tuple, o_tupleT, o_intI, o_intB, o_ord, o_str, o_max, o_min, o_isNo, o_tyL, o_tyT, o_tyD, o_tyS, o_tyI, o_sl, o_slC, o_slS, o_slT, cutG_map, o_lsD, o_lsC, o_it, o_itC, o_itT, o_itS, o_app, o_ext, o_ins, o_pop, o_rev, o_clr, o_pos, o_posS, Option.bind_some, Option.map_some, List.length_map, if_true, Bool.not_false, Bool.not_true, Bool.false_bne, Bool.true_bne,  safe_sc, safe_lstF, safe_scr, safe_tup, safe_f, true_and, and_true, Option.some.injEq, exists_eq_left', exists_eq_left, decide_true, decide_false, Bool.false_eq_true, Bool.true_eq_false, reduceIte, Nat.zero_add, fz_lst, fz_dct, fz_ins, fz_sc, fz_lstF, fz_scr, Nat.zero_le, Nat.reduceLeDiff, Nat.reduceAdd, Nat.reduceLT, Int.reduceLT, Int.reduceLE, and_self, frz_lst, frz_dct, frz_dctF, frzL_ints, frzL_strs, frz_lstF, frz_scr, frz_tup, frz_sc, frzL_nil, frzL_cons, frzL_str, frzL_int, fzL_nil, fzL_cons, fzL_str, fzL_int, noC_sc, noC_lst, noC_tup, noC_dct, noCL_nil, noCL_cons, noCL_str, noCL_str2, noCL_int, Bool.and_self, Bool.and_true, Bool.true_and, List.append_nil, true_or, or_true, flat_str, flat_int, any_str, o_isiT, o_isiL, o_isiS, o_isiI, atI_0, atI_1, atI_2, atI_3, eqv_lst, eqv_tup, eqvL_nil, eqvL_cons, eqvL_str, eqv_str, eqS_int, ixN20, ixN21, fz_tup, Bool.false_and, Bool.and_false, o_posT, Int.cast_ofNat_Int, eq_self, dChain, dGin, dGix, o_gIn, o_gIx, o_mulI, o_mulS, dMake, dMethA, dMethL, dMethS, gDrop, slot0, o_insD, dRaise, dTryR, exM, dFld, pFl, dSfl, o_sflK, o_sflN, o_split, o_join, o_joinT, o_all, fx]
        rw [rus_snoc]
        exact ih (acc ++ [x]) _ _ (by rw [List.length_append, List.length_singleton]; omega) q
theorem changed_d {rules more : List Rl} (ok1 : ∀ r ∈ rules, Rl.ok r ∧ ∀ p ∈ r, okT p) (ok2 : ∀ r ∈ more, Rl.ok r) (hl1 : rules.length ≤ 30000) (hl2 : more.flatten.length ≤ 30000) (hl3 : more.length ≤ 30000) {Q : D → Sl → Prop} {E : EX → Sl → Prop} (q : ∀ env, Q (rusD true (changedR rules more)) env) :
    sp_changed [rusD false rules, rusD false more] Q E := by
  rw [e_sp_changed, e_b_changed]
  simp only [pad, dNext, dSeq, dAsg, dFor, dEnum, dIt, dWhile, dIfS, dMS, dMA, dMN, dSub, dSfl, dRet, dRetV, dRetN, dRetT, dDrop, dBreak, dCont, dFz, fzS, dConsV, dCons, dNil, bCons, bNil, dVar, dC, dBin, dIx, dNeg, dCB, dMV, dTst, dAndT, dOrT, dNotT, dAnd, dOr, dNot, dIf, dLst, dLC, dLc, lcD, dYes, wipeD, dTup, dDct0, dLRev, dIsi, dSl, oNo, oSm, dCall, dCallL, gN, gTu, gsCons, gsNil, dRg1, dRg2, dRev, dZip, pVar, pIx, atP, getP, setP, unsetL, List.map_cons, List.map_nil, List.replicate_succ, List.replicate_zero, List.cons_append, List.nil_append, List.set_cons_zero, List.set_cons_succ, List.getElem?_cons_zero, List.getElem?_cons_succ, List.length_cons, List.length_nil, o_lt, o_ltS, o_gt, o_le, o_ge, o_add, o_addS, o_addL, o_addT, o_sub, o_mul, o_fdiv, o_mod, o_pow, o_eq, o_eqN, o_ne, o_neN, o_isB, o_isI, o_len, o_lenC, o_lenT, o_lenD, o_lenS, o_ix, o_ixC, o_ixT, o_ixS, o_ixDs, o_ixDi, o_put, o_inD, o_inDi, o_inL, o_inT, o_inS, o_idx, o_list, o_listC, o_listT, o_listD, o_tuple, o_tupleT, o_intI, o_intB, o_ord, o_str, o_max, o_min, o_isNo, o_tyL, o_tyT, o_tyD, o_tyS, o_tyI, o_sl, o_slC, o_slS, o_slT, cutG_map, o_lsD, o_lsC, o_it, o_itC, o_itT, o_itS, o_app, o_ext, o_ins, o_pop, o_rev, o_clr, o_pos, o_posS, Option.bind_some, Option.map_some, List.length_map, if_true, Bool.not_false, Bool.not_true, Bool.false_bne, Bool.true_bne,  safe_sc, safe_lstF, safe_scr, safe_tup, safe_f, true_and, and_true, Option.some.injEq, exists_eq_left', exists_eq_left, decide_true, decide_false, Bool.false_eq_true, Bool.true_eq_false, reduceIte, Nat.zero_add, fz_lst, fz_dct, fz_ins, fz_sc, fz_lstF, fz_scr, Nat.zero_le, Nat.reduceLeDiff, Nat.reduceAdd, Nat.reduceLT, Int.reduceLT, Int.reduceLE, and_self, frz_lst, frz_dct, frz_dctF, frzL_ints, frzL_strs, frz_lstF, frz_scr, frz_tup, frz_sc, frzL_nil, frzL_cons, frzL_str, frzL_int, fzL_nil, fzL_cons, fzL_str, fzL_int, noC_sc, noC_lst, noC_tup, noC_dct, noCL_nil, noCL_cons, noCL_str, noCL_str2, noCL_int, Bool.and_self, Bool.and_true, Bool.true_and, List.append_nil, true_or, or_true, flat_str, flat_int, any_str, o_isiT, o_isiL, o_isiS, o_isiI, atI_0, atI_1, atI_2, atI_3, eqv_lst, eqv_tup, eqvL_nil, eqvL_cons, eqvL_str, eqv_str, eqS_int, ixN20, ixN21, fz_tup, Bool.false_and, Bool.and_false, o_posT, Int.cast_ofNat_Int, eq_self, dChain, dGin, dGix, o_gIn, o_gIx, o_mulI, o_mulS, dMake, dMethA, dMethL, dMethS, gDrop, slot0, o_insD, dRaise, dTryR, exM, dFld, pFl, dSfl, o_sflK, o_sflN, o_split, o_join, o_joinT, o_all]
  refine forgotten_d ok2 (by omega) fun env => ?_
  refine changed_rules _ _ _ rules [] none none ok1 (by simp; omega) fun c4 c5 => ?_
  have hle : (rules.foldl (stepE (namedOf more)) []).length ≤ rules.length := by
    rw [stepE_all, List.nil_append]
    exact Nat.le_trans (List.length_filterMap_le _ _) (List.length_filter_le _ _)
  simp only [pad, dNext, dSeq, dAsg, dFor, dEnum, dIt, dWhile, dIfS, dMS, dMA, dMN, dSub, dSfl, dRet, dRetV, dRetN, dRetT, dDrop, dBreak, dCont, dFz, fzS, dConsV, dCons, dNil, bCons, bNil, dVar, dC, dBin, dIx, dNeg, dCB, dMV, dTst, dAndT, dOrT, dNotT, dAnd, dOr, dNot, dIf, dLst, dLC, dLc, lcD, dYes, wipeD, dTup, dDct0, dLRev, dIsi, dSl, oNo, oSm, dCall, dCallL, gN, gTu, gsCons, gsNil, dRg1, dRg2, dRev, dZip, pVar, pIx, atP, getP, setP, unsetL, List.map_cons, List.map_nil, List.replicate_succ, List.replicate_zero, List.cons_append, List.nil_append, List.set_cons_zero, List.set_cons_succ, List.getElem?_cons_zero, List.getElem?_cons_succ, List.length_cons, List.length_nil, o_lt, o_ltS, o_gt, o_le, o_ge, o_add, o_addS, o_addL, o_addT, o_sub, o_mul, o_fdiv, o_mod, o_pow, o_eq, o_eqN, o_ne, o_neN, o_isB, o_isI, o_len, o_lenC, o_lenT, o_lenD, o_lenS, o_ix, o_ixC, o_ixT, o_ixS, o_ixDs, o_ixDi, o_put, o_inD, o_inDi, o_inL, o_inT, o_inS, o_idx, o_list, o_listC, o_listT, o_listD, o_tuple, o_tupleT, o_intI, o_intB, o_ord, o_str, o_max, o_min, o_isNo, o_tyL, o_tyT, o_tyD, o_tyS, o_tyI, o_sl, o_slC, o_slS, o_slT, cutG_map, o_lsD, o_lsC, o_it, o_itC, o_itT, o_itS, o_app, o_ext, o_ins, o_pop, o_rev, o_clr, o_pos, o_posS, Option.bind_some, Option.map_some, List.length_map, if_true, Bool.not_false, Bool.not_true, Bool.false_bne, Bool.true_bne,  safe_sc, safe_lstF, safe_scr, safe_tup, safe_f, true_and, and_true, Option.some.injEq, exists_eq_left', exists_eq_left, decide_true, decide_false, Bool.false_eq_true, Bool.true_eq_false, reduceIte, Nat.zero_add, fz_lst, fz_dct, fz_ins, fz_sc, fz_lstF, fz_scr, Nat.zero_le, Nat.reduceLeDiff, Nat.reduceAdd, Nat.reduceLT, Int.reduceLT, Int.reduceLE, and_self, frz_lst, frz_dct, frz_dctF, frzL_ints, frzL_strs, frz_lstF, frz_scr, frz_tup, frz_sc, frzL_nil, frzL_cons, frzL_str, frzL_int, fzL_nil, fzL_cons, fzL_str, fzL_int, noC_sc, noC_lst, noC_tup, noC_dct, noCL_nil, noCL_cons, noCL_str, noCL_str2, noCL_int, Bool.and_self, Bool.and_true, Bool.true_and, List.append_nil, true_or, or_true, flat_str, flat_int, any_str, o_isiT, o_isiL, o_isiS, o_isiI, atI_0, atI_1, atI_2, atI_3, eqv_lst, eqv_tup, eqvL_nil, eqvL_cons, eqvL_str, eqv_str, eqS_int, ixN20, ixN21, fz_tup, Bool.false_and, Bool.and_false, o_posT, Int.cast_ofNat_Int, eq_self, dChain, dGin, dGix, o_gIn, o_gIx, o_mulI, o_mulS, dMake, dMethA, dMethL, dMethS, gDrop, slot0, o_insD, dRaise, dTryR, exM, dFld, pFl, dSfl, o_sflK, o_sflN, o_split, o_join, o_joinT, o_all]
  refine changed_more _ _ _ _ more (rules.foldl (stepE (namedOf more)) []) c4 c5 ok2 (by omega) fun c4 c5 => ?_
  have e : more.foldl stepM (rules.foldl (stepE (namedOf more)) []) = changedR rules more := by rw [stepM_all, stepE_all]; rfl
  rw [e]
  exact q _
end LW

set_option Elab.async false
set_option linter.all false
set_option maxRecDepth 100000
set_option maxHeartbeats 2000000
namespace LW
open L2 DL TL
/-! ## going from elder to elder -/
inductive LRes where
  | ok (met : List Txt) | ring (around : List Txt) | none (n : Txt)
abbrev Els := List (Txt × Option Txt)
abbrev Owns := List (Txt × List Rl)
def elAt (E : Els) (n : Txt) : Option D := lkp (E.map fun x => (Sum.inr x.1 : DK)) (E.map fun x => elD x.2) (Sum.inr n)
inductive Goes (E : Els) (O : Owns) : List Txt → Option Txt → LRes → Prop
  | done (met : List Txt) : Goes E O met none (.ok met)
  | ring {met : List Txt} {n : Txt} : n ∈ met → Goes E O met (some n) (.ring (met.drop (List.idxOf n met)))
  | no {met : List Txt} {n : Txt} : n ∉ met → n ∉ O.map (·.1) → Goes E O met (some n) (.none n)
  | step {met : List Txt} {n : Txt} {e : Option Txt} {r : LRes} : n ∉ met → n ∈ O.map (·.1) → elAt E n = some (elD e) → Goes E O (met ++ [n]) e r → Goes E O met (some n) r
def LRes.post (Q : D → Sl → Prop) (X : EX → Sl → Prop) : LRes → Prop
  | .ok met => ∀ env, Q (.nd (.lst true) (met.map D.str)) env
  | .ring a => ∀ env, X ⟨8, [.nd (.lst false) (a.map D.str)]⟩ env
  | .none n => ∀ env, X ⟨7, [.str n]⟩ env
theorem elD_isNt (e : Option Txt) {Q : D → Prop} : isNt (elD e) (.sc .non) Q = Q (.bl e.isSome) := by cases e <;> rfl
theorem line_wh {E : Els} {O : Owns} {Q : D → Sl → Prop} {X : EX → Sl → Prop} : ∀ {met : List Txt} {n : Option Txt} {r : LRes}, Goes E O met n r → met.length ≤ O.length → (∀ m ∈ met, m ∈ O.map (·.1)) → met.Nodup → O.length ≤ 1000 → r.post Q X →
    ∃ k, whD wc_Book_line_of_0 lb_Book_line_of_0 { nx := fun env => dRetV 2 { nx := fun env => Q D.non env, rt := Q, ex := X } env, rt := Q, ex := X } k [some (bkF E O), some (elD n), some (.nd (.lst true) (met.map D.str))]
  | _, _, _, .done met, hl, hs, nd, hO, q => by
    refine ⟨1, ?_⟩
    rw [whD]
    simp only [e_wc_Book_line_of_0, pad, dNext, dSeq, dAsg, dFor, dEnum, dIt, dWhile, dIfS, dMS, dMA, dMN, dSub, dSfl, dRet, dRetV, dRetN, dRetT, dDrop, dBreak, dCont, dFz, fzS, dConsV, dCons, dNil, bCons, bNil, dVar, dC, dBin, dIx, dNeg, dCB, dMV, dTst, dAndT, dOrT, dNotT, dAnd, dOr, dNot, dIf, dLst, dLC, dLc, lcD, dYes, wipeD, dTup, dDct0, dLRev, dIsi, dSl, oNo, oSm, dCall, dCallL, gN, gTu, gsCons, gsNil, dRg1, dRg2, dRev, dZip, pVar, pIx, atP, getP, setP, unsetL, List.map_cons, List.map_nil, List.replicate_succ, List.replicate_zero, List.cons_append, List.nil_append, List.set_cons_zero, List.set_cons_succ, List.getElem?_cons_zero, List.getElem?_cons_succ, List.length_cons, List.length_nil, o_lt, o_ltS, o_gt, o_le, o_ge, o_add, o_addS, o_addL, o_addT, o_sub, o_mul, o_fdiv, o_mod, o_pow, o_eq, o_eqN, o_ne, o_neN, o_isB, o_isI, o_len, o_lenC, o_lenT, o_lenD, o_lenS, o_ix, o_ixC, o_ixT, o_ixS, o_ixDs, o_ixDi, o_put, o_inD, o_inDi, o_inL, o_inT, o_inS, o_idx, o_list, o_listC, o_listT, o_listD, o_tuple, o_tupleT, o_intI, o_intB, o_ord, o_str, o_max, o_min, o_isNo, o_tyL, o_tyT, o_tyD, o_tyS, o_tyI, o_sl, o_slC, o_slS, o_slT, cutG_map, o_lsD, o_lsC, o_it, o_itC, o_itT, o_itS, o_app, o_ext, o_ins, o_pop, o_rev, o_clr, o_pos, o_posS, Option.bind_some, Option.map_some, List.length_map, if_true, Bool.not_false, Bool.not_true, Bool.false_bne, Bool.true_bne,  safe_sc, safe_lstF, safe_scr, safe_tup, safe_f, true_and, and_true, Option.some.injEq, exists_eq_left', exists_eq_left, decide_true, decide_false, Bool.false_eq_true, Bool.true_eq_false, reduceIte, Nat.zero_add, fz_lst, fz_dct, fz_ins, fz_sc, fz_lstF, fz_scr, Nat.zero_le, Nat.reduceLeDiff, Nat.reduceAdd, Nat.reduceLT, Int.reduceLT, Int.reduceLE, and_self, frz_lst, frz_dct, frz_dctF, frzL_ints, frzL_strs, frz_lstF, frz_scr, frz_tup, frz_sc, frzL_nil, frzL_cons, frzL_str, frzL_int, fzL_nil, fzL_cons, fzL_str, fzL_int, noC_sc, noC_lst, noC_tup, noC_dct, noCL_nil, noCL_cons, noCL_str, noCL_str2, noCL_int, Bool.and_self, Bool.and_true, Bool.true_and, List.append_nil, true_or, or_true, flat_str, flat_int, any_str, o_isiT, o_isiL, o_isiS, o_isiI, atI_0, atI_1, atI_2, atI_3, eqv_lst, eqv_tup, eqvL_nil, eqvL_cons, eqvL_str, eqv_str, eqS_int, ixN20, ixN21, fz_tup, Bool.false_and, Bool.and_false, o_posT, Int.cast_ofNat_Int, eq_self, dChain, dGin, dGix, o_gIn, o_gIx, o_mulI, o_mulS, dMake, dMethA, dMethL, dMethS, gDrop, slot0, o_insD, dRaise, dTryR, exM, dFld, pFl, dSfl, o_sflK, o_sflN, o_split, o_join, o_joinT, o_all, elD_isNt, Option.isSome_none]
    exact q _
  | _, _, _, .ring (met := met) (n := n) h, hl, hs, nd, hO, q => by
    refine ⟨1, ?_⟩
    rw [whD]
    have fl : (met.map D.str).all flatD = true := flat_str met
    have e1 : ((met.map D.str).any fun d => eqv d (.sc (.str n))) = true := by rw [any_str]; exact decide_eq_true h
    have ix : idxS (met.map D.str) (.str n) = some (List.idxOf n met) := by rw [idx_str, if_pos h]
    simp only [e_wc_Book_line_of_0, e_lb_Book_line_of_0, elD_isNt, Option.isSome_some, pad, dNext, dSeq, dAsg, dFor, dEnum, dIt, dWhile, dIfS, dMS, dMA, dMN, dSub, dSfl, dRet, dRetV, dRetN, dRetT, dDrop, dBreak, dCont, dFz, fzS, dConsV, dCons, dNil, bCons, bNil, dVar, dC, dBin, dIx, dNeg, dCB, dMV, dTst, dAndT, dOrT, dNotT, dAnd, dOr, dNot, dIf, dLst, dLC, dLc, lcD, dYes, wipeD, dTup, dDct0, dLRev, dIsi, dSl, oNo, oSm, dCall, dCallL, gN, gTu, gsCons, gsNil, dRg1, dRg2, dRev, dZip, pVar, pIx, atP, getP, setP, unsetL, List.map_cons, List.map_nil, List.replicate_succ, List.replicate_zero, List.cons_append, List.nil_append, List.set_cons_zero, List.set_cons_succ, List.getElem?_cons_zero, List.getElem?_cons_succ, List.length_cons, List.length_nil, o_lt, o_ltS, o_gt, o_le, o_ge, o_add, o_addS, o_addL, o_addT, o_sub, o_mul, o_fdiv, o_mod, o_pow, o_eq, o_eqN, o_ne, o_neN, o_isB, o_isI, o_len, o_lenC, o_lenT, o_lenD, o_lenS, o_ix, o_ixC, o_ixT, o_ixS, o_ixDs, o_ixDi, o_put, o_inD, o_inDi, o_inL, o_inT, o_inS, o_idx, o_list, o_listC, o_listT, o_listD, o_tuple, o_tupleT, o_intI, o_intB, o_ord, o_str, o_max, o_min, o_isNo, o_tyL, o_tyT, o_tyD, o_tyS, o_tyI, o_sl, o_slC, o_slS, o_slT, cutG_map, o_lsD, o_lsC, o_it, o_itC, o_itT, o_itS, o_app, o_ext, o_ins, o_pop, o_rev, o_clr, o_pos, o_posS, Option.bind_some, Option.map_some, List.length_map, if_true, Bool.not_false, Bool.not_true, Bool.false_bne, Bool.true_bne,  safe_sc, safe_lstF, safe_scr, safe_tup, safe_f, true_and, and_true, Option.some.injEq, exists_eq_left', exists_eq_left, decide_true, decide_false, Bool.false_eq_true, Bool.true_eq_false, reduceIte, Nat.zero_add, fz_lst, fz_dct, fz_ins, fz_sc, fz_lstF, fz_scr, Nat.zero_le, Nat.reduceLeDiff, Nat.reduceAdd, Nat.reduceLT, Int.reduceLT, Int.reduceLE, and_self, frz_lst, frz_dct, frz_dctF, frzL_ints, frzL_strs, frz_lstF, frz_scr, frz_tup, frz_sc, frzL_nil, frzL_cons, frzL_str, frzL_int, fzL_nil, fzL_cons, fzL_str, fzL_int, noC_sc, noC_lst, noC_tup, noC_dct, noCL_nil, noCL_cons, noCL_str, noCL_str2, noCL_int, Bool.and_self, Bool.and_true, Bool.true_and, List.append_nil, true_or, or_true, flat_str, flat_int, any_str, o_isiT, o_isiL, o_isiS, o_isiI, atI_0, atI_1, atI_2, atI_3, eqv_lst, eqv_tup, eqvL_nil, eqvL_cons, eqvL_str, eqv_str, eqS_int, ixN20, ixN21, fz_tup, Bool.false_and, Bool.and_false, o_posT, Int.cast_ofNat_Int, eq_self, dChain, dGin, dGix, o_gIn, o_gIx, o_mulI, o_mulS, dMake, dMethA, dMethL, dMethS, gDrop, slot0, o_insD, dRaise, dTryR, exM, dFld, pFl, dSfl, o_sflK, o_sflN, o_split, o_join, o_joinT, o_all, fl, e1, elD, ix, cutG_from]
    have st : stb (.lst true) (met.map D.str) = true := stb_lst (fzL_str _)
    simp only [st, frzL_str, true_and]
    exact q _
  | _, _, _, .no (met := met) (n := n) h1 h2, hl, hs, nd, hO, q => by
    refine ⟨1, ?_⟩
    rw [whD]
    have fl : (met.map D.str).all flatD = true := flat_str met
    have e1 : ((met.map D.str).any fun d => eqv d (.sc (.str n))) = false := by rw [any_str]; exact decide_eq_false h1
    have e2 : (!hasK (O.map fun x => Sum.inr x.1) (Sum.inr n : DK)) = true := by rw [has_key, decide_eq_false h2]; rfl
    simp only [e_wc_Book_line_of_0, e_lb_Book_line_of_0, elD_isNt, Option.isSome_some, pad, dNext, dSeq, dAsg, dFor, dEnum, dIt, dWhile, dIfS, dMS, dMA, dMN, dSub, dSfl, dRet, dRetV, dRetN, dRetT, dDrop, dBreak, dCont, dFz, fzS, dConsV, dCons, dNil, bCons, bNil, dVar, dC, dBin, dIx, dNeg, dCB, dMV, dTst, dAndT, dOrT, dNotT, dAnd, dOr, dNot, dIf, dLst, dLC, dLc, lcD, dYes, wipeD, dTup, dDct0, dLRev, dIsi, dSl, oNo, oSm, dCall, dCallL, gN, gTu, gsCons, gsNil, dRg1, dRg2, dRev, dZip, pVar, pIx, atP, getP, setP, unsetL, List.map_cons, List.map_nil, List.replicate_succ, List.replicate_zero, List.cons_append, List.nil_append, List.set_cons_zero, List.set_cons_succ, List.getElem?_cons_zero, List.getElem?_cons_succ, List.length_cons, List.length_nil, o_lt, o_ltS, o_gt, o_le, o_ge, o_add, o_addS, o_addL, o_addT, o_sub, o_mul, o_fdiv, o_mod, o_pow, o_eq, o_eqN, o_ne, o_neN, o_isB, o_isI, o_len, o_lenC, o_lenT, o_lenD, o_lenS, o_ix, o_ixC, o_ixT, o_ixS, o_ixDs, o_ixDi, o_put, o_inD, o_inDi, o_inL, o_inT, o_inS, o_idx, o_list, o_listC, o_listT, o_listD, o_tuple, o_tupleT, o_intI, o_intB, o_ord, o_str, o_max, o_min, o_isNo, o_tyL, o_tyT, o_tyD, o_tyS, o_tyI, o_sl, o_slC, o_slS, o_slT, cutG_map, o_lsD, o_lsC, o_it, o_itC, o_itT, o_itS, o_app, o_ext, o_ins, o_pop, o_rev, o_clr, o_pos, o_posS, Option.bind_some, Option.map_some, List.length_map, if_true, Bool.not_false, Bool.not_true, Bool.false_bne, Bool.true_bne,  safe_sc, safe_lstF, safe_scr, safe_tup, safe_f, true_and, and_true, Option.some.injEq, exists_eq_left', exists_eq_left, decide_true, decide_false, Bool.false_eq_true, Bool.true_eq_false, reduceIte, Nat.zero_add, fz_lst, fz_dct, fz_ins, fz_sc, fz_lstF, fz_scr, Nat.zero_le, Nat.reduceLeDiff, Nat.reduceAdd, Nat.reduceLT, Int.reduceLT, Int.reduceLE, and_self, frz_lst, frz_dct, frz_dctF, frzL_ints, frzL_strs, frz_lstF, frz_scr, frz_tup, frz_sc, frzL_nil, frzL_cons, frzL_str, frzL_int, fzL_nil, fzL_cons, fzL_str, fzL_int, noC_sc, noC_lst, noC_tup, noC_dct, noCL_nil, noCL_cons, noCL_str, noCL_str2, noCL_int, Bool.and_self, Bool.and_true, Bool.true_and, List.append_nil, true_or, or_true, flat_str, flat_int, any_str, o_isiT, o_isiL, o_isiS, o_isiI, atI_0, atI_1, atI_2, atI_3, eqv_lst, eqv_tup, eqvL_nil, eqvL_cons, eqvL_str, eqv_str, eqS_int, ixN20, ixN21, fz_tup, Bool.false_and, Bool.and_false, o_posT, Int.cast_ofNat_Int, eq_self, dChain, dGin, dGix, o_gIn, o_gIx, o_mulI, o_mulS, dMake, dMethA, dMethL, dMethS, gDrop, slot0, o_insD, dRaise, dTryR, exM, dFld, pFl, dSfl, o_sflK, o_sflN, o_split, o_join, o_joinT, o_all, fl, e1, e2, elD]
    exact q _
  | _, _, _, .step (met := met) (n := n) (e := e) h1 h2 h3 h4, hl, hs, nd, hO, q => by
    have nd' : (met ++ [n]).Nodup := List.nodup_append.mpr ⟨nd, by simp, fun x hx y hy e => h1 (by rw [List.mem_singleton.mp hy] at e; rw [← e]; exact hx)⟩
    have hs' : ∀ m ∈ met ++ [n], m ∈ O.map (·.1) := fun m hm => (List.mem_append.mp hm).elim (hs m) fun z => by rw [List.mem_singleton.mp z]; exact h2
    have hl' : (met ++ [n]).length ≤ O.length := by
      have := nodup_len nd' hs'
      rwa [List.length_map] at this
    obtain ⟨k, hk⟩ := line_wh h4 hl' hs' nd' hO q
    refine ⟨k + 1, ?_⟩
    rw [whD]
    have fl : (met.map D.str).all flatD = true := flat_str met
    have e1 : ((met.map D.str).any fun d => eqv d (.sc (.str n))) = false := by rw [any_str]; exact decide_eq_false h1
    have e2 : (!hasK (O.map fun x => Sum.inr x.1) (Sum.inr n : DK)) = false := by rw [has_key, decide_eq_true h2]; rfl
    have l1 : met.length < 1000000 := by omega
    have h3' : lkp (E.map fun x => (Sum.inr x.1 : DK)) (E.map fun x => elD x.2) (Sum.inr n) = some (elD e) := h3
    have sf : safe true (elD e) := by cases e <;> exact safe_sc
    rw [List.map_append] at hk
    simp only [e_wc_Book_line_of_0, e_lb_Book_line_of_0, elD_isNt, Option.isSome_some, pad, dNext, dSeq, dAsg, dFor, dEnum, dIt, dWhile, dIfS, dMS, dMA, dMN, dSub, dSfl, dRet, dRetV, dRetN, dRetT, dDrop, dBreak, dCont, dFz, fzS, dConsV, dCons, dNil, bCons, bNil, dVar, dC, dBin, dIx, dNeg, dCB, dMV, dTst, dAndT, dOrT, dNotT, dAnd, dOr, dNot, dIf, dLst, dLC, dLc, lcD, dYes, wipeD, dTup, dDct0, dLRev, dIsi, dSl, oNo, oSm, dCall, dCallL, gN, gTu, gsCons, gsNil, dRg1, dRg2, dRev, dZip, pVar, pIx, atP, getP, setP, unsetL, List.map_cons, List.map_nil, List.replicate_succ, List.replicate_zero, List.cons_append, List.nil_append, List.set_cons_zero, List.set_cons_succ, List.getElem?_cons_zero, List.getElem?_cons_succ, List.length_cons, List.length_nil, o_lt, o_ltS, o_gt, o_le, o_ge, o_add, o_addS, o_addL, o_addT, o_sub, o_mul, o_fdiv, o_mod, o_pow, o_eq, o_eqN, o_ne, o_neN, o_isB, o_isI, o_len, o_lenC, o_lenT, o_lenD, o_lenS, o_ix, o_ixC, o_ixT, o_ixS, o_ixDs, o_ixDi, o_put, o_inD, o_inDi, o_inL, o_inT, o_inS, o_idx, o_list, o_listC, o_listT, o_listD, o_tuple, o_tupleT, o_intI, o_intB, o_ord, o_str, o_max, o_min, o_isNo, o_tyL, o_tyT, o_tyD, o_tyS, o_tyI, o_sl, o_slC, o_slS, o_slT, cutG_map, o_lsD, o_lsC, o_it, o_itC, o_itT, o_itS, o_app, o_ext, o_ins, o_pop, o_rev, o_clr, o_pos, o_posS, Option.bind_some, Option.map_some, List.length_map, if_true, Bool.not_false, Bool.not_true, Bool.false_bne, Bool.true_bne,  safe_sc, safe_lstF, safe_scr, safe_tup, safe_f, true_and, and_true, Option.some.injEq, exists_eq_left', exists_eq_left, decide_true, decide_false, Bool.false_eq_true, Bool.true_eq_false, reduceIte, Nat.zero_add, fz_lst, fz_dct, fz_ins, fz_sc, fz_lstF, fz_scr, Nat.zero_le, Nat.reduceLeDiff, Nat.reduceAdd, Nat.reduceLT, Int.reduceLT, Int.reduceLE, and_self, frz_lst, frz_dct, frz_dctF, frzL_ints, frzL_strs, frz_lstF, frz_scr, frz_tup, frz_sc, frzL_nil, frzL_cons, frzL_str, frzL_int, fzL_nil, fzL_cons, fzL_str, fzL_int, noC_sc, noC_lst, noC_tup, noC_dct, noCL_nil, noCL_cons, noCL_str, noCL_str2, noCL_int, Bool.and_self, Bool.and_true, Bool.true_and, List.append_nil, true_or, or_true, flat_str, flat_int, any_str, o_isiT, o_isiL, o_isiS, o_isiI, atI_0, atI_1, atI_2, atI_3, eqv_lst, eqv_tup, eqvL_nil, eqvL_cons, eqvL_str, eqv_str, eqS_int, ixN20, ixN21, fz_tup, Bool.false_and, Bool.and_false, o_posT, Int.cast_ofNat_Int, eq_self, dChain, dGin, dGix, o_gIn, o_gIx, o_mulI, o_mulS, dMake, dMethA, dMethL, dMethS, gDrop, slot0, o_insD, dRaise, dTryR, exM, dFld, pFl, dSfl, o_sflK, o_sflN, o_split, o_join, o_joinT, o_all, fl, e1, e2, l1, h3', show elD (some n) = .sc (.str n) from rfl, sf]
    exact hk
theorem line_of_d {E : Els} {O : Owns} {nm : Txt} {r : LRes} (h : Goes E O [] (some nm) r) (hO : O.length ≤ 1000) {Q : D → Sl → Prop} {X : EX → Sl → Prop} (q : r.post Q X) : sp_Book_line_of [bkF E O, .str nm] Q X := by
  rw [e_sp_Book_line_of, e_b_Book_line_of]
  obtain ⟨k, hk⟩ := line_wh h (Nat.zero_le _) (fun _ z => by cases z) List.nodup_nil hO q
  simp only [pad, dNext, dSeq, dAsg, dFor, dEnum, dIt, dWhile, dIfS, dMS, dMA, dMN, dSub, dSfl, dRet, dRetV, dRetN, dRetT, dDrop, dBreak, dCont, dFz, fzS, dConsV, dCons, dNil, bCons, bNil, dVar, dC, dBin, dIx, dNeg, dCB, dMV, dTst, dAndT, dOrT, dNotT, dAnd, dOr, dNot, dIf, dLst, dLC, dLc, lcD, dYes, wipeD, dTup, dDct0, dLRev, dIsi, dSl, oNo, oSm, dCall, dCallL, gN, gTu, gsCons, gsNil, dRg1, dRg2, dRev, dZip, pVar, pIx, atP, getP, setP, unsetL, List.map_cons, List.map_nil, List.replicate_succ, List.replicate_zero, List.cons_append, List.nil_append, List.set_cons_zero, List.set_cons_succ, List.getElem?_cons_zero, List.getElem?_cons_succ, List.length_cons, List.length_nil, o_lt, o_ltS, o_gt, o_le, o_ge, o_add, o_addS, o_addL, o_addT, o_sub, o_mul, o_fdiv, o_mod, o_pow, o_eq, o_eqN, o_ne, o_neN, o_isB, o_isI, o_len, o_lenC, o_lenT, o_lenD, o_lenS, o_ix, o_ixC, o_ixT, o_ixS, o_ixDs, o_ixDi, o_put, o_inD, o_inDi, o_inL, o_inT, o_inS, o_idx, o_list, o_listC, o_listT, o_listD, o_tuple, o_tupleT, o_intI, o_intB, o_ord, o_str, o_max, o_min, o_isNo, o_tyL, o_tyT, o_tyD, o_tyS, o_tyI, o_sl, o_slC, o_slS, o_slT, cutG_map, o_lsD, o_lsC, o_it, o_itC, o_itT, o_itS, o_app, o_ext, o_ins, o_pop, o_rev, o_clr, o_pos, o_posS, Option.bind_some, Option.map_some, List.length_map, if_true, Bool.not_false, Bool.not_true, Bool.false_bne, Bool.true_bne,  safe_sc, safe_lstF, safe_scr, safe_tup, safe_f, true_and, and_true, Option.some.injEq, exists_eq_left', exists_eq_left, decide_true, decide_false, Bool.false_eq_true, Bool.true_eq_false, reduceIte, Nat.zero_add, fz_lst, fz_dct, fz_ins, fz_sc, fz_lstF, fz_scr, Nat.zero_le, Nat.reduceLeDiff, Nat.reduceAdd, Nat.reduceLT, Int.reduceLT, Int.reduceLE, and_self, frz_lst, frz_dct, frz_dctF, frzL_ints, frzL_strs, frz_lstF, frz_scr, frz_tup, frz_sc, frzL_nil, frzL_cons, frzL_str, frzL_int, fzL_nil, fzL_cons, fzL_str, fzL_int, noC_sc, noC_lst, noC_tup, noC_dct, noCL_nil, noCL_cons, noCL_str, noCL_str2, noCL_int, Bool.and_self, Bool.and_true, Bool.true_and, List.append_nil, true_or, or_true, flat_str, flat_int, any_str, o_isiT, o_isiL, o_isiS, o_isiI, atI_0, atI_1, atI_2, atI_3, eqv_lst, eqv_tup, eqvL_nil, eqvL_cons, eqvL_str, eqv_str, eqS_int, ixN20, ixN21, fz_tup, Bool.false_and, Bool.and_false, o_posT, Int.cast_ofNat_Int, eq_self, dChain, dGin, dGix, o_gIn, o_gIx, o_mulI, o_mulS, dMake, dMethA, dMethL, dMethS, gDrop, slot0, o_insD, dRaise, dTryR, exM, dFld, pFl, dSfl, o_sflK, o_sflN, o_split, o_join, o_joinT, o_all]
  refine ⟨k, ?_⟩
  simp only [pad, dNext, dSeq, dAsg, dFor, dEnum, dIt, dWhile, dIfS, dMS, dMA, dMN, dSub, dSfl, dRet, dRetV, dRetN, dRetT, dDrop, dBreak, dCont, dFz, fzS, dConsV, dCons, dNil, bCons, bNil, dVar, dC, dBin, dIx, dNeg, dCB, dMV, dTst, dAndT, dOrT, dNotT, dAnd, dOr, dNot, dIf, dLst, dLC, dLc, lcD, dYes, wipeD, dTup, dDct0, dLRev, dIsi, dSl, oNo, oSm, dCall, dCallL, gN, gTu, gsCons, gsNil, dRg1, dRg2, dRev, dZip, pVar, pIx, atP, getP, setP, unsetL, List.map_cons, List.map_nil, List.replicate_succ, List.replicate_zero, List.cons_append, List.nil_append, List.set_cons_zero, List.set_cons_succ, List.getElem?_cons_zero, List.getElem?_cons_succ, List.length_cons, List.length_nil, o_lt, o_ltS, o_gt, o_le, o_ge, o_add, o_addS, o_addL, o_addT, o_sub, o_mul, o_fdiv, o_mod, o_pow, o_eq, o_eqN, o_ne, o_neN, o_isB, o_isI, o_len, o_lenC, o_lenT, o_lenD, o_lenS, o_ix, o_ixC, o_ixT, o_ixS, o_ixDs, o_ixDi, o_put, o_inD, o_inDi, o_inL, o_inT, o_inS, o_idx, o_list, o_listC, o_listT, o_listD, o_tuple, o_tupleT, o_intI, o_intB, o_ord, o_str, o_max, o_min, o_isNo, o_tyL, o_tyT, o_tyD, o_tyS, o_tyI, o_sl, o_slC, o_slS, o_slT, cutG_map, o_lsD, o_lsC, o_it, o_itC, o_itT, o_itS, o_app, o_ext, o_ins, o_pop, o_rev, o_clr, o_pos, o_posS, Option.bind_some, Option.map_some, List.length_map, if_true, Bool.not_false, Bool.not_true, Bool.false_bne, Bool.true_bne,  safe_sc, safe_lstF, safe_scr, safe_tup, safe_f, true_and, and_true, Option.some.injEq, exists_eq_left', exists_eq_left, decide_true, decide_false, Bool.false_eq_true, Bool.true_eq_false, reduceIte, Nat.zero_add, fz_lst, fz_dct, fz_ins, fz_sc, fz_lstF, fz_scr, Nat.zero_le, Nat.reduceLeDiff, Nat.reduceAdd, Nat.reduceLT, Int.reduceLT, Int.reduceLE, and_self, frz_lst, frz_dct, frz_dctF, frzL_ints, frzL_strs, frz_lstF, frz_scr, frz_tup, frz_sc, frzL_nil, frzL_cons, frzL_str, frzL_int, fzL_nil, fzL_cons, fzL_str, fzL_int, noC_sc, noC_lst, noC_tup, noC_dct, noCL_nil, noCL_cons, noCL_str, noCL_str2, noCL_int, Bool.and_self, Bool.and_true, Bool.true_and, List.append_nil, true_or, or_true, flat_str, flat_int, any_str, o_isiT, o_isiL, o_isiS, o_isiI, atI_0, atI_1, atI_2, atI_3, eqv_lst, eqv_tup, eqvL_nil, eqvL_cons, eqvL_str, eqv_str, eqS_int, ixN20, ixN21, fz_tup, Bool.false_and, Bool.and_false, o_posT, Int.cast_ofNat_Int, eq_self, dChain, dGin, dGix, o_gIn, o_gIx, o_mulI, o_mulS, dMake, dMethA, dMethL, dMethS, gDrop, slot0, o_insD, dRaise, dTryR, exM, dFld, pFl, dSfl, o_sflK, o_sflN, o_split, o_join, o_joinT, o_all] at hk
  exact hk
end LW

set_option Elab.async false
set_option linter.all false
set_option maxRecDepth 100000
set_option maxHeartbeats 2000000
namespace LW
open L2 DL TL
/-! ## the rules of a name -/
def ownOf (O : Owns) (n : Txt) : List Rl := match O with
  | [] => []
  | (k, rs) :: r => if k = n then rs else ownOf r n
theorem own_at (o : Bool) : ∀ {O : Owns} {n : Txt}, n ∈ O.map (·.1) → lkp (O.map fun x => (Sum.inr x.1 : DK)) (O.map fun x => rusD o x.2) (Sum.inr n) = some (rusD o (ownOf O n))
  | [], n, h => by cases h
  | (k, rs) :: r, n, h => by
    rw [List.map_cons, List.map_cons, lkp, ownOf]
    by_cases e : k = n
    · rw [if_pos (by rw [e]), if_pos e]
    · rw [if_neg (fun z => e (Sum.inr.inj z)), if_neg e]
      exact own_at o ((List.mem_cons.mp h).resolve_left fun z => e z.symm)
theorem own_in : ∀ {O : Owns} {n : Txt}, n ∈ O.map (·.1) → (n, ownOf O n) ∈ O
  | [], n, h => by cases h
  | (k, rs) :: r, n, h => by
    rw [ownOf]
    by_cases e : k = n
    · rw [if_pos e, e]; exact List.mem_cons_self
    · rw [if_neg e]
      exact List.mem_cons_of_mem _ (own_in ((List.mem_cons.mp h).resolve_left fun z => e z.symm))
def Rl.fit (r : Rl) : Prop := Rl.ok r ∧ ∀ p ∈ r, okT p
def Fit (m : Nat) (rs : List Rl) : Prop := (∀ r ∈ rs, Rl.fit r) ∧ rs.length ≤ m ∧ rs.flatten.length ≤ 20000
def OFit (m : Nat) (O : Owns) : Prop := ∀ x ∈ O, Fit m x.2
theorem without_fit {ns : List Txt} {r x : Rl} (h : Rl.fit r) (e : withoutR ns r = some x) : Rl.fit x := by
  obtain ⟨⟨w, ps, rfl, h1, h2, h3⟩, hk⟩ := h
  rw [withoutR] at e
  have key : ∀ {pre post : List Txt} {f : Txt → Bool}, ps = pre ++ post → (w = wGreat → pre ≠ []) → w ≠ wAs → Rl.fit (w :: pre ++ post.filter f) := fun {pre post f} ep hg ha => by
    refine ⟨⟨w, pre ++ post.filter f, rfl, fun z => absurd z ha, fun z => fun en => hg z (List.append_eq_nil_iff.mp en).1, ?_⟩, fun p hp => ?_⟩
    · rw [List.length_append]
      have := List.length_filter_le f post
      rw [ep, List.length_append] at h3
      omega
    · rcases List.mem_append.mp hp with z | z
      · rcases List.mem_cons.mp z with z | z
        · rw [z]; exact hk w List.mem_cons_self
        · exact hk p (by rw [ep]; exact List.mem_cons_of_mem _ (List.mem_append_left _ z))
      · exact hk p (by rw [ep]; exact List.mem_cons_of_mem _ (List.mem_append_right _ (List.mem_filter.mp z).1))
  have same : Rl.fit (w :: ps) := ⟨⟨w, ps, rfl, h1, h2, h3⟩, hk⟩
  split at e
  · split at e
    · cases e
    · cases e; exact same
  · rename_i ha
    split at e
    · split at e
      · rename_i hg
        split at e
        · cases e
        · cases e
          refine key (List.take_append_drop 1 ps).symm (fun _ => ?_) ha
          cases ps with
          | nil => exact absurd rfl (h2 hg)
          | cons a b => simp
      · rename_i hg
        split at e
        · cases e
        · cases e
          exact key (pre := []) (List.nil_append ps).symm (fun z => absurd z hg) ha
    · cases e; exact same
theorem changed_fit {rules more : List Rl} (h1 : ∀ r ∈ rules, Rl.fit r) (h2 : ∀ r ∈ more, Rl.fit r) : ∀ r ∈ changedR rules more, Rl.fit r := fun r hr => by
  rcases List.mem_append.mp hr with z | z
  · obtain ⟨y, hy, e⟩ := List.mem_filterMap.mp z
    exact without_fit (h1 y (List.mem_filter.mp hy).1) e
  · exact h2 r (List.mem_filter.mp z).1
theorem changed_len (rules more : List Rl) : (changedR rules more).length ≤ rules.length + more.length := by
  unfold changedR
  rw [List.length_append]
  exact Nat.add_le_add (Nat.le_trans (List.length_filterMap_le _ _) (List.length_filter_le _ _)) (List.length_filter_le _ _)
def along (O : Owns) (l : List Txt) (rs : List Rl) : List Rl := l.foldl (fun rs n => changedR rs (ownOf O n)) rs
theorem rules_loop (Dd : ED) {E : Els} {O : Owns} (c1 : Option D) {m : Nat} (hm : m ≤ 1000) (hO : OFit m O) : ∀ (l : List Txt) (rs : List Rl) (c3 : Option D), (∀ n ∈ l, n ∈ O.map (·.1)) → (∀ r ∈ rs, Rl.fit r) → rs.length + l.length * m ≤ 30000 →
    (∀ c3, Dd.nx [some (bkF E O), c1, some (rusD true (along O l rs)), c3]) → forD (gN 3) lb_Book_rules_of_0 Dd (l.map D.str) [some (bkF E O), c1, some (rusD true rs), c3]
  | [], rs, c3, hl, hr, hn, q => q c3
  | n :: t, rs, c3, hl, hr, hn, q => by
    have hno := hl n List.mem_cons_self
    obtain ⟨f1, f2, f3⟩ := hO _ (own_in hno)
    simp only at f1 f2 f3
    have a1 := own_at false hno
    have ih := rules_loop Dd (E := E) c1 hm hO t (changedR rs (ownOf O n)) (some (.str n)) (fun m hm => hl m (List.mem_cons_of_mem _ hm)) (changed_fit hr f1)
      (by have := changed_len rs (ownOf O n); rw [List.length_cons, Nat.succ_mul] at hn; omega) q
    rw [List.map_cons, forD]
    generalize hF : forD (gN 3) lb_Book_rules_of_0 Dd (t.map D.str) = F at ih
    have hrs : frzL (rs.map ruD) = rs.map ruD := by
      rw [frzL_map, List.map_map]
      refine List.map_congr_left fun r _ => ?_
      show frz (ruD r) = ruD r
      rw [frz_tup, frzL_str]
    simp only [e_lb_Book_rules_of_0, pad, dNext, dSeq, dAsg, dFor, dEnum, dIt, dWhile, dIfS, dMS, dMA, dMN, dSub, dSfl, dRet, dRetV, dRetN, dRetT, dDrop, dBreak, dCont, dFz, fzS, dConsV, dCons, dNil, bCons, bNil, dVar, dC, dBin, dIx, dNeg, dCB, dMV, dTst, dAndT, dOrT, dNotT, dAnd, dOr, dNot, dIf, dLst, dLC, dLc, lcD, dYes, wipeD, dTup, dDct0, dLRev, dIsi, dSl, oNo, oSm, dCall, dCallL, gN, gTu, gsCons, gsNil, dRg1, dRg2, dRev, dZip, pVar, pIx, atP, getP, setP, unsetL, List.map_cons, List.map_nil, List.replicate_succ, List.replicate_zero, List.cons_append, List.nil_append, List.set_cons_zero, List.set_cons_succ, List.getElem?_cons_zero, List.getElem?_cons_succ, List.length_cons, List.length_nil, o_lt, o_ltS, o_gt, o_le, o_ge, o_add, o_addS, o_addL, o_addT, o_sub, o_mul, o_fdiv, o_mod, o_pow, o_eq, o_eqN, o_ne, o_neN, o_isB, o_isI, o_len, o_lenC, o_lenT, o_lenD, o_lenS, o_ix, o_ixC, o_ixT, o_ixS, o_ixDs, o_ixDi, o_put, o_inD, o_inDi, o_inL, o_inT, o_inS, o_idx, o_list, o_listC, o_listT, o_listD, o_tuple, o_tupleT, o_intI, o_intB, o_ord, o_str, o_max, o_min, o_isNo, o_tyL, o_tyT, o_tyD, o_tyS, o_tyI, o_sl, o_slC, o_slS, o_slT, cutG_map, o_lsD, o_lsC, o_it, o_itC, o_itT, o_itS, o_app, o_ext, o_ins, o_pop, o_rev, o_clr, o_pos, o_posS, Option.bind_some, Option.map_some, List.length_map, if_true, Bool.not_false, Bool.not_true, Bool.false_bne, Bool.true_bne,  safe_sc, safe_lstF, safe_scr, safe_tup, safe_f, true_and, and_true, Option.some.injEq, exists_eq_left', exists_eq_left, decide_true, decide_false, Bool.false_eq_true, Bool.true_eq_false, reduceIte, Nat.zero_add, fz_lst, fz_dct, fz_ins, fz_sc, fz_lstF, fz_scr, Nat.zero_le, Nat.reduceLeDiff, Nat.reduceAdd, Nat.reduceLT, Int.reduceLT, Int.reduceLE, and_self, frz_lst, frz_dct, frz_dctF, frzL_ints, frzL_strs, frz_lstF, frz_scr, frz_tup, frz_sc, frzL_nil, frzL_cons, frzL_str, frzL_int, fzL_nil, fzL_cons, fzL_str, fzL_int, noC_sc, noC_lst, noC_tup, noC_dct, noCL_nil, noCL_cons, noCL_str, noCL_str2, noCL_int, Bool.and_self, Bool.and_true, Bool.true_and, List.append_nil, true_or, or_true, flat_str, flat_int, any_str, o_isiT, o_isiL, o_isiS, o_isiI, atI_0, atI_1, atI_2, atI_3, eqv_lst, eqv_tup, eqvL_nil, eqvL_cons, eqvL_str, eqv_str, eqS_int, ixN20, ixN21, fz_tup, Bool.false_and, Bool.and_false, o_posT, Int.cast_ofNat_Int, eq_self, dChain, dGin, dGix, o_gIn, o_gIx, o_mulI, o_mulS, dMake, dMethA, dMethL, dMethS, gDrop, slot0, o_insD, dRaise, dTryR, exM, dFld, pFl, dSfl, o_sflK, o_sflN, o_split, o_join, o_joinT, o_all, a1, hrs]
    refine changed_d (fun r hr' => hr r hr') (fun r hr' => (f1 r hr').1) (by omega) (by omega) (by omega) fun env => ?_
    have nc : noC (rusD true (changedR rs (ownOf O n))) = true := by
      rw [noC_lst]
      exact noCL_map fun r _ => by show noC (ruD r) = true; rw [noC_tup, noCL_str]
    exact ⟨nc, ih⟩
def LRes.postR (O : Owns) (Q : D → Sl → Prop) (X : EX → Sl → Prop) : LRes → Prop
  | .ok met => ∀ env, Q (rusD true (along O met.reverse [])) env
  | .ring a => ∀ env, X ⟨8, [.nd (.lst false) (a.map D.str)]⟩ env
  | .none n => ∀ env, X ⟨7, [.str n]⟩ env
theorem goes_in {E : Els} {O : Owns} : ∀ {met : List Txt} {n : Option Txt} {r : LRes}, Goes E O met n r → ∀ out, r = .ok out → (∀ m ∈ met, m ∈ O.map (·.1)) → met.Nodup → (∀ m ∈ out, m ∈ O.map (·.1)) ∧ out.Nodup
  | _, _, _, .done met, out, e, hs, nd => by cases e; exact ⟨hs, nd⟩
  | _, _, _, .ring _, out, e, hs, nd => by cases e
  | _, _, _, .no _ _, out, e, hs, nd => by cases e
  | _, _, _, .step (met := met) (n := n) h1 h2 h3 h4, out, e, hs, nd =>
    goes_in h4 out e (fun m hm => (List.mem_append.mp hm).elim (hs m) fun z => by rw [List.mem_singleton.mp z]; exact h2) (List.nodup_append.mpr ⟨nd, by simp, fun x hx y hy e => h1 (by rw [List.mem_singleton.mp hy] at e; rw [← e]; exact hx)⟩)
theorem rules_of_d {E : Els} {O : Owns} {nm : Txt} {r : LRes} {m : Nat} (h : Goes E O [] (some nm) r) (hm : m ≤ 1000) (hO : OFit m O) (hl : ∀ met, r = .ok met → met.length * m ≤ 30000) (hO2 : O.length ≤ 1000) {Q : D → Sl → Prop} {X : EX → Sl → Prop} (q : r.postR O Q X) : sp_Book_rules_of [bkF E O, .str nm] Q X := by
  rw [e_sp_Book_rules_of, e_b_Book_rules_of]
  have ff : fz (bkF E O) = true := by show fz (.nd (.ins false 14) _) = true; simp [fz, Kind.cold]
  have fr : frz (bkF E O) = bkF E O := by show frz (.nd (.ins false 14) _) = _; rw [frz, if_pos (by decide)]
  simp only [pad, dNext, dSeq, dAsg, dFor, dEnum, dIt, dWhile, dIfS, dMS, dMA, dMN, dSub, dSfl, dRet, dRetV, dRetN, dRetT, dDrop, dBreak, dCont, dFz, fzS, dConsV, dCons, dNil, bCons, bNil, dVar, dC, dBin, dIx, dNeg, dCB, dMV, dTst, dAndT, dOrT, dNotT, dAnd, dOr, dNot, dIf, dLst, dLC, dLc, lcD, dYes, wipeD, dTup, dDct0, dLRev, dIsi, dSl, oNo, oSm, dCall, dCallL, gN, gTu, gsCons, gsNil, dRg1, dRg2, dRev, dZip, pVar, pIx, atP, getP, setP, unsetL, List.map_cons, List.map_nil, List.replicate_succ, List.replicate_zero, List.cons_append, List.nil_append, List.set_cons_zero, List.set_cons_succ, List.getElem?_cons_zero, List.getElem?_cons_succ, List.length_cons, List.length_nil, o_lt, o_ltS, o_gt, o_le, o_ge, o_add, o_addS, o_addL, o_addT, o_sub, o_mul, o_fdiv, o_mod, o_pow, o_eq, o_eqN, o_ne, o_neN, o_isB, o_isI, o_len, o_lenC, o_lenT, o_lenD, o_lenS, o_ix, o_ixC, o_ixT, o_ixS, o_ixDs, o_ixDi, o_put, o_inD, o_inDi, o_inL, o_inT, o_inS, o_idx, o_list, o_listC, o_listT, o_listD, o_tuple, o_tupleT, o_intI, o_intB, o_ord, o_str, o_max, o_min, o_isNo, o_tyL, o_tyT, o_tyD, o_tyS, o_tyI, o_sl, o_slC, o_slS, o_slT, cutG_map, o_lsD, o_lsC, o_it, o_itC, o_itT, o_itS, o_app, o_ext, o_ins, o_pop, o_rev, o_clr, o_pos, o_posS, Option.bind_some, Option.map_some, List.length_map, if_true, Bool.not_false, Bool.not_true, Bool.false_bne, Bool.true_bne,  safe_sc, safe_lstF, safe_scr, safe_tup, safe_f, true_and, and_true, Option.some.injEq, exists_eq_left', exists_eq_left, decide_true, decide_false, Bool.false_eq_true, Bool.true_eq_false, reduceIte, Nat.zero_add, fz_lst, fz_dct, fz_ins, fz_sc, fz_lstF, fz_scr, Nat.zero_le, Nat.reduceLeDiff, Nat.reduceAdd, Nat.reduceLT, Int.reduceLT, Int.reduceLE, and_self, frz_lst, frz_dct, frz_dctF, frzL_ints, frzL_strs, frz_lstF, frz_scr, frz_tup, frz_sc, frzL_nil, frzL_cons, frzL_str, frzL_int, fzL_nil, fzL_cons, fzL_str, fzL_int, noC_sc, noC_lst, noC_tup, noC_dct, noCL_nil, noCL_cons, noCL_str, noCL_str2, noCL_int, Bool.and_self, Bool.and_true, Bool.true_and, List.append_nil, true_or, or_true, flat_str, flat_int, any_str, o_isiT, o_isiL, o_isiS, o_isiI, atI_0, atI_1, atI_2, atI_3, eqv_lst, eqv_tup, eqvL_nil, eqvL_cons, eqvL_str, eqv_str, eqS_int, ixN20, ixN21, fz_tup, Bool.false_and, Bool.and_false, o_posT, Int.cast_ofNat_Int, eq_self, dChain, dGin, dGix, o_gIn, o_gIx, o_mulI, o_mulS, dMake, dMethA, dMethL, dMethS, gDrop, slot0, o_insD, dRaise, dTryR, exM, dFld, pFl, dSfl, o_sflK, o_sflN, o_split, o_join, o_joinT, o_all]
  refine ⟨.inr ff, ?_⟩
  rw [fr]
  refine line_of_d h hO2 ?_
  cases r with
  | ok met =>
    intro env
    obtain ⟨g1, g2⟩ := goes_in h met rfl (fun _ z => by cases z) List.nodup_nil
    simp only [pad, dNext, dSeq, dAsg, dFor, dEnum, dIt, dWhile, dIfS, dMS, dMA, dMN, dSub, dSfl, dRet, dRetV, dRetN, dRetT, dDrop, dBreak, dCont, dFz, fzS, dConsV, dCons, dNil, bCons, bNil, dVar, dC, dBin, dIx, dNeg, dCB, dMV, dTst, dAndT, dOrT, dNotT, dAnd, dOr, dNot, dIf, dLst, dLC, dLc, lcD, dYes, wipeD, dTup, dDct0, dLRev, dIsi, dSl, oNo, oSm, dCall, dCallL, gN, gTu, gsCons, gsNil, dRg1, dRg2, dRev, dZip, pVar, pIx, atP, getP, setP, unsetL, List.map_cons, List.map_nil, List.replicate_succ, List.replicate_zero, List.cons_append, List.nil_append, List.set_cons_zero, List.set_cons_succ, List.getElem?_cons_zero, List.getElem?_cons_succ, List.length_cons, List.length_nil, o_lt, o_ltS, o_gt, o_le, o_ge, o_add, o_addS, o_addL, o_addT, o_sub, o_mul, o_fdiv, o_mod, o_pow, o_eq, o_eqN, o_ne, o_neN, o_isB, o_isI, o_len, o_lenC, o_lenT, o_lenD, o_lenS, o_ix, o_ixC, o_ixT, o_ixS, o_ixDs, o_ixDi, o_put, o_inD, o_inDi, o_inL, o_inT, o_inS, o_idx, o_list, o_listC, o_listT, o_listD, o_tuple, o_tupleT, o_intI, o_intB, o_ord, o_str, o_max, o_min, o_isNo, o_tyL, o_tyT, o_tyD, o_tyS, o_tyI, o_sl, o_slC, o_slS, o_slT, cutG_map, o_lsD, o_lsC, o_it, o_itC, o_itT, o_itS, o_app, o_ext, o_ins, o_pop, o_rev, o_clr, o_pos, o_posS, Option.bind_some, Option.map_some, List.length_map, if_true, Bool.not_false, Bool.not_true, Bool.false_bne, Bool.true_bne,  safe_sc, safe_lstF, safe_scr, safe_tup, safe_f, true_and, and_true, Option.some.injEq, exists_eq_left', exists_eq_left, decide_true, decide_false, Bool.false_eq_true, Bool.true_eq_false, reduceIte, Nat.zero_add, fz_lst, fz_dct, fz_ins, fz_sc, fz_lstF, fz_scr, Nat.zero_le, Nat.reduceLeDiff, Nat.reduceAdd, Nat.reduceLT, Int.reduceLT, Int.reduceLE, and_self, frz_lst, frz_dct, frz_dctF, frzL_ints, frzL_strs, frz_lstF, frz_scr, frz_tup, frz_sc, frzL_nil, frzL_cons, frzL_str, frzL_int, fzL_nil, fzL_cons, fzL_str, fzL_int, noC_sc, noC_lst, noC_tup, noC_dct, noCL_nil, noCL_cons, noCL_str, noCL_str2, noCL_int, Bool.and_self, Bool.and_true, Bool.true_and, List.append_nil, true_or, or_true, flat_str, flat_int, any_str, o_isiT, o_isiL, o_isiS, o_isiI, atI_0, atI_1, atI_2, atI_3, eqv_lst, eqv_tup, eqvL_nil, eqvL_cons, eqvL_str, eqv_str, eqS_int, ixN20, ixN21, fz_tup, Bool.false_and, Bool.and_false, o_posT, Int.cast_ofNat_Int, eq_self, dChain, dGin, dGix, o_gIn, o_gIx, o_mulI, o_mulS, dMake, dMethA, dMethL, dMethS, gDrop, slot0, o_insD, dRaise, dTryR, exM, dFld, pFl, dSfl, o_sflK, o_sflN, o_split, o_join, o_joinT, o_all, ← List.map_reverse]
    refine rules_loop _ _ hm hO met.reverse [] none (fun n hn => g1 n (List.mem_reverse.mp hn)) (fun _ z => by cases z) (by rw [List.length_reverse]; have := hl met rfl; simp; omega) fun c3 => ?_
    simp only [pad, dNext, dSeq, dAsg, dFor, dEnum, dIt, dWhile, dIfS, dMS, dMA, dMN, dSub, dSfl, dRet, dRetV, dRetN, dRetT, dDrop, dBreak, dCont, dFz, fzS, dConsV, dCons, dNil, bCons, bNil, dVar, dC, dBin, dIx, dNeg, dCB, dMV, dTst, dAndT, dOrT, dNotT, dAnd, dOr, dNot, dIf, dLst, dLC, dLc, lcD, dYes, wipeD, dTup, dDct0, dLRev, dIsi, dSl, oNo, oSm, dCall, dCallL, gN, gTu, gsCons, gsNil, dRg1, dRg2, dRev, dZip, pVar, pIx, atP, getP, setP, unsetL, List.map_cons, List.map_nil, List.replicate_succ, List.replicate_zero, List.cons_append, List.nil_append, List.set_cons_zero, List.set_cons_succ, List.getElem?_cons_zero, List.getElem?_cons_succ, List.length_cons, List.length_nil, o_lt, o_ltS, o_gt, o_le, o_ge, o_add, o_addS, o_addL, o_addT, o_sub, o_mul, o_fdiv, o_mod, o_pow, o_eq, o_eqN, o_ne, o_neN, o_isB, o_isI, o_len, o_lenC, o_lenT, o_lenD, o_lenS, o_ix, o_ixC, o_ixT, o_ixS, o_ixDs, o_ixDi, o_put, o_inD, o_inDi, o_inL, o_inT, o_inS, o_idx, o_list, o_listC, o_listT, o_listD, o_tuple, o_tupleT, o_intI, o_intB, o_ord, o_str, o_max, o_min, o_isNo, o_tyL, o_tyT, o_tyD, o_tyS, o_tyI, o_sl, o_slC, o_slS, o_slT, cutG_map, o_lsD, o_lsC, o_it, o_itC, o_itT, o_itS, o_app, o_ext, o_ins, o_pop, o_rev, o_clr, o_pos, o_posS, Option.bind_some, Option.map_some, List.length_map, if_true, Bool.not_false, Bool.not_true, Bool.false_bne, Bool.true_bne,  safe_sc, safe_lstF, safe_scr, safe_tup, safe_f, true_and, and_true, Option.some.injEq, exists_eq_left', exists_eq_left, decide_true, decide_false, Bool.false_eq_true, Bool.true_eq_false, reduceIte, Nat.zero_add, fz_lst, fz_dct, fz_ins, fz_sc, fz_lstF, fz_scr, Nat.zero_le, Nat.reduceLeDiff, Nat.reduceAdd, Nat.reduceLT, Int.reduceLT, Int.reduceLE, and_self, frz_lst, frz_dct, frz_dctF, frzL_ints, frzL_strs, frz_lstF, frz_scr, frz_tup, frz_sc, frzL_nil, frzL_cons, frzL_str, frzL_int, fzL_nil, fzL_cons, fzL_str, fzL_int, noC_sc, noC_lst, noC_tup, noC_dct, noCL_nil, noCL_cons, noCL_str, noCL_str2, noCL_int, Bool.and_self, Bool.and_true, Bool.true_and, List.append_nil, true_or, or_true, flat_str, flat_int, any_str, o_isiT, o_isiL, o_isiS, o_isiI, atI_0, atI_1, atI_2, atI_3, eqv_lst, eqv_tup, eqvL_nil, eqvL_cons, eqvL_str, eqv_str, eqS_int, ixN20, ixN21, fz_tup, Bool.false_and, Bool.and_false, o_posT, Int.cast_ofNat_Int, eq_self, dChain, dGin, dGix, o_gIn, o_gIx, o_mulI, o_mulS, dMake, dMethA, dMethL, dMethS, gDrop, slot0, o_insD, dRaise, dTryR, exM, dFld, pFl, dSfl, o_sflK, o_sflN, o_split, o_join, o_joinT, o_all]
    exact q _
  | ring a => intro env; exact q _
  | none n => intro env; exact q _
end LW

set_option Elab.async false
set_option linter.all false
set_option maxRecDepth 100000
set_option maxHeartbeats 2000000
namespace LW
open L2 DL KM
/-! ## the law's own makers: cells, pieces, turns -/
abbrev gDl (g : List Txt) : D := .nd (.lst true) (g.map D.str)
theorem cell_at_d {ns : List Int} {k : Nat} {Q : D → Sl → Prop} {E : EX → Sl → Prop} (q : ∀ env, Q (.int (ns.getD k 0)) env) : sp__law_cell_at [.scr (ns.map D.int), .int (k : Int)] Q E := by
  rw [e_sp__law_cell_at, e_b__law_cell_at]
  by_cases h : k < ns.length
  · have h1 : ((k : Nat) : Int) < ((ns.length : Nat) : Int) := by omega
    have h2 : atI (ns.map D.int) ((k : Nat) : Int) = some (.int (ns.getD k 0)) := atI_nat (by rw [List.getElem?_map, List.getElem?_eq_getElem h, List.getD_eq_getElem?_getD, List.getElem?_eq_getElem h]; rfl)
    simp only [pad, dNext, dSeq, dAsg, dFor, dEnum, dIt, dWhile, dIfS, dMS, dMA, dMN, dSub, dSfl, dRet, dRetV, dRetN, dRetT, dDrop, dBreak, dCont, dFz, fzS, dConsV, dCons, dNil, bCons, bNil, dVar, dC, dBin, dIx, dNeg, dCB, dMV, dTst, dAndT, dOrT, dNotT, dAnd, dOr, dNot, dIf, dLst, dLC, dLc, lcD, dYes, wipeD, dTup, dDct0, dLRev, dIsi, dSl, oNo, oSm, dCall, dCallL, gN, gTu, gsCons, gsNil, dRg1, dRg2, dRev, dZip, pVar, pIx, atP, getP, setP, unsetL, List.map_cons, List.map_nil, List.replicate_succ, List.replicate_zero, List.cons_append, List.nil_append, List.set_cons_zero, List.set_cons_succ, List.getElem?_cons_zero, List.getElem?_cons_succ, List.length_cons, List.length_nil, o_lt, o_ltS, o_gt, o_le, o_ge, o_add, o_addS, o_addL, o_addT, o_sub, o_mul, o_fdiv, o_mod, o_pow, o_eq, o_eqN, o_ne, o_neN, o_isB, o_isI, o_len, o_lenC, o_lenT, o_lenD, o_lenS, o_ix, o_ixC, o_ixT, o_ixS, o_ixDs, o_ixDi, o_put, o_inD, o_inDi, o_inL, o_inT, o_inS, o_idx, o_list, o_listC, o_listT, o_listD, o_tuple, o_tupleT, o_intI, o_intB, o_ord, o_str, o_max, o_min, o_isNo, o_tyL, o_tyT, o_tyD, o_tyS, o_tyI, o_sl, o_slC, o_slS, o_slT, cutG_map, o_lsD, o_lsC, o_it, o_itC, o_itT, o_itS, o_app, o_ext, o_ins, o_pop, o_rev, o_clr, o_pos, o_posS, Option.bind_some, Option.map_some, List.length_map, if_true, Bool.not_false, Bool.not_true, Bool.false_bne, Bool.true_bne,  safe_sc, safe_lstF, safe_scr, safe_tup, safe_f, true_and, and_true, Option.some.injEq, exists_eq_left', exists_eq_left, decide_true, decide_false, Bool.false_eq_true, Bool.true_eq_false, reduceIte, Nat.zero_add, fz_lst, fz_dct, fz_ins, fz_sc, fz_lstF, fz_scr, Nat.zero_le, Nat.reduceLeDiff, Nat.reduceAdd, Nat.reduceLT, Int.reduceLT, Int.reduceLE, and_self, frz_lst, frz_dct, frz_dctF, frzL_ints, frzL_strs, frz_lstF, frz_scr, frz_tup, frz_sc, frzL_nil, frzL_cons, frzL_str, frzL_int, fzL_nil, fzL_cons, fzL_str, fzL_int, noC_sc, noC_lst, noC_tup, noC_dct, noCL_nil, noCL_cons, noCL_str, noCL_str2, noCL_int, Bool.and_self, Bool.and_true, Bool.true_and, List.append_nil, true_or, or_true, flat_str, flat_int, any_str, o_isiT, o_isiL, o_isiS, o_isiI, atI_0, atI_1, atI_2, atI_3, eqv_lst, eqv_tup, eqvL_nil, eqvL_cons, eqvL_str, eqv_str, eqS_int, ixN20, ixN21, fz_tup, Bool.false_and, Bool.and_false, o_posT, Int.cast_ofNat_Int, eq_self, dChain, dGin, dGix, o_gIn, o_gIx, o_mulI, o_mulS, dMake, dMethA, dMethL, dMethS, gDrop, slot0, o_insD, dRaise, dTryR, exM, dFld, pFl, dSfl, o_sflK, o_sflN, o_split, o_join, o_joinT, o_all, h1, h2]
    exact q _
  · have h1 : ¬ ((k : Nat) : Int) < ((ns.length : Nat) : Int) := by omega
    have h2 : ns.getD k 0 = 0 := by rw [List.getD_eq_getElem?_getD, List.getElem?_eq_none (by omega)]; rfl
    rw [h2] at q
    simp only [pad, dNext, dSeq, dAsg, dFor, dEnum, dIt, dWhile, dIfS, dMS, dMA, dMN, dSub, dSfl, dRet, dRetV, dRetN, dRetT, dDrop, dBreak, dCont, dFz, fzS, dConsV, dCons, dNil, bCons, bNil, dVar, dC, dBin, dIx, dNeg, dCB, dMV, dTst, dAndT, dOrT, dNotT, dAnd, dOr, dNot, dIf, dLst, dLC, dLc, lcD, dYes, wipeD, dTup, dDct0, dLRev, dIsi, dSl, oNo, oSm, dCall, dCallL, gN, gTu, gsCons, gsNil, dRg1, dRg2, dRev, dZip, pVar, pIx, atP, getP, setP, unsetL, List.map_cons, List.map_nil, List.replicate_succ, List.replicate_zero, List.cons_append, List.nil_append, List.set_cons_zero, List.set_cons_succ, List.getElem?_cons_zero, List.getElem?_cons_succ, List.length_cons, List.length_nil, o_lt, o_ltS, o_gt, o_le, o_ge, o_add, o_addS, o_addL, o_addT, o_sub, o_mul, o_fdiv, o_mod, o_pow, o_eq, o_eqN, o_ne, o_neN, o_isB, o_isI, o_len, o_lenC, o_lenT, o_lenD, o_lenS, o_ix, o_ixC, o_ixT, o_ixS, o_ixDs, o_ixDi, o_put, o_inD, o_inDi, o_inL, o_inT, o_inS, o_idx, o_list, o_listC, o_listT, o_listD, o_tuple, o_tupleT, o_intI, o_intB, o_ord, o_str, o_max, o_min, o_isNo, o_tyL, o_tyT, o_tyD, o_tyS, o_tyI, o_sl, o_slC, o_slS, o_slT, cutG_map, o_lsD, o_lsC, o_it, o_itC, o_itT, o_itS, o_app, o_ext, o_ins, o_pop, o_rev, o_clr, o_pos, o_posS, Option.bind_some, Option.map_some, List.length_map, if_true, Bool.not_false, Bool.not_true, Bool.false_bne, Bool.true_bne,  safe_sc, safe_lstF, safe_scr, safe_tup, safe_f, true_and, and_true, Option.some.injEq, exists_eq_left', exists_eq_left, decide_true, decide_false, Bool.false_eq_true, Bool.true_eq_false, reduceIte, Nat.zero_add, fz_lst, fz_dct, fz_ins, fz_sc, fz_lstF, fz_scr, Nat.zero_le, Nat.reduceLeDiff, Nat.reduceAdd, Nat.reduceLT, Int.reduceLT, Int.reduceLE, and_self, frz_lst, frz_dct, frz_dctF, frzL_ints, frzL_strs, frz_lstF, frz_scr, frz_tup, frz_sc, frzL_nil, frzL_cons, frzL_str, frzL_int, fzL_nil, fzL_cons, fzL_str, fzL_int, noC_sc, noC_lst, noC_tup, noC_dct, noCL_nil, noCL_cons, noCL_str, noCL_str2, noCL_int, Bool.and_self, Bool.and_true, Bool.true_and, List.append_nil, true_or, or_true, flat_str, flat_int, any_str, o_isiT, o_isiL, o_isiS, o_isiI, atI_0, atI_1, atI_2, atI_3, eqv_lst, eqv_tup, eqvL_nil, eqvL_cons, eqvL_str, eqv_str, eqS_int, ixN20, ixN21, fz_tup, Bool.false_and, Bool.and_false, o_posT, Int.cast_ofNat_Int, eq_self, dChain, dGin, dGix, o_gIn, o_gIx, o_mulI, o_mulS, dMake, dMethA, dMethL, dMethS, gDrop, slot0, o_insD, dRaise, dTryR, exM, dFld, pFl, dSfl, o_sflK, o_sflN, o_split, o_join, o_joinT, o_all, h1]
    exact q _
def signs : Txt := [33, 34, 35, 36, 38, 39, 40, 41, 42, 43, 44, 45, 46, 47, 48, 49, 50, 51, 52, 53, 54, 55, 56, 57, 58, 59, 60, 61, 62, 63, 64, 65, 66, 67, 68, 69, 70, 71, 72, 73, 74, 75, 76, 77, 78, 79, 80, 81, 82, 83, 84, 85, 86, 87, 88, 89, 90, 91, 92, 93, 94, 95, 96,
  97, 98, 99, 100, 101, 102, 103, 104, 105, 106, 107, 108, 109, 110, 111, 112, 113, 114, 115, 116, 117, 118, 119, 120, 121, 122, 123, 124, 125, 126]
def piece (shape begin' step k : Nat) : Txt :=
  let place := (begin' + k * step) % 8649
  if shape = 0 ∨ (shape = 1 ∧ k % 2 = 1) then [signs.getD (place % 93) 0] else [signs.getD (place / 93) 0, signs.getD (place % 93) 0]
def steps : List Nat := [1, 2, 5, 94, 187, 1000, 4001, 8648]
theorem signs_len : signs.length = 93 := by decide
theorem atI_signs {i : Nat} (h : i < 93) : atI signs ((i : Nat) : Int) = some (signs.getD i 0) := atI_nat (by rw [List.getD_eq_getElem?_getD, List.getElem?_eq_getElem (by rw [signs_len]; exact h)]; rfl)
theorem pieces_loop (Dd : ED) (c m : Option D) (c3 c9 : Option D) {shape begin' step : Nat} (hb : begin' < 8649) : ∀ (ks : List Nat) (acc : List Txt) (k9 k8 : Option D), acc.length + ks.length ≤ 1000 → (∀ k ∈ ks, k ≤ 1000) → step ≤ 10000 →
    (∀ k8 k9, Dd.nx [c, m, some (.str signs), c3, some (.int ((step : Nat) : Int)), some (.int ((begin' : Nat) : Int)), some (.int ((shape : Nat) : Int)), some (.nd (.lst true) ((acc ++ ks.map (piece shape begin' step)).map D.str)), k8, k9]) →
    forD (gN 8) lb__law_pieces_0 Dd (ks.map fun k => D.int ((k : Nat) : Int)) [c, m, some (.str signs), c3, some (.int ((step : Nat) : Int)), some (.int ((begin' : Nat) : Int)), some (.int ((shape : Nat) : Int)), some (.nd (.lst true) (acc.map D.str)), k8, k9]
  | [], acc, k9, k8, hl, hk, hs, q => by
    have := q k8 k9
    rw [List.map_nil, List.append_nil] at this
    exact this
  | k :: r, acc, k9, k8, hl, hk, hs, q => by
    have hk0 : k ≤ 1000 := hk k List.mem_cons_self
    have hm : -(2 ^ 64) < (k : Int) ∧ (k : Int) < 2 ^ 64 := by omega
    have hacc : acc.length < 1000000 := by rw [List.length_cons] at hl; omega
    have e1 : ((begin' : Nat) : Int) + ((k : Nat) : Int) * ((step : Nat) : Int) = ((begin' + k * step : Nat) : Int) := by push_cast; rfl
    have e2 : (((begin' + k * step : Nat) : Int)) % 8649 = (((begin' + k * step) % 8649 : Nat) : Int) := by omega
    have ih := pieces_loop Dd c m c3 c9 hb r (acc ++ [piece shape begin' step k]) (some (.int (((begin' + k * step) % 8649 : Nat) : Int))) (some (.int ((k : Nat) : Int))) (by simp at hl ⊢; omega) (fun x hx => hk x (List.mem_cons_of_mem _ hx)) hs (by simpa using q)
    have hp := Nat.mod_lt (begin' + k * step) (by decide : 0 < 8649)
    have e3 : ((((begin' + k * step) % 8649 : Nat) : Int)) % 93 = (((begin' + k * step) % 8649 % 93 : Nat) : Int) := by omega
    have e4 : ((((begin' + k * step) % 8649 : Nat) : Int)) / 93 = (((begin' + k * step) % 8649 / 93 : Nat) : Int) := by omega
    have e5 : ((k : Nat) : Int) % 2 = ((k % 2 : Nat) : Int) := by omega
    have a1 := atI_signs (i := (begin' + k * step) % 8649 % 93) (Nat.mod_lt _ (by decide))
    have a2 := atI_signs (i := (begin' + k * step) % 8649 / 93) (by omega)
    have l1 : signs.length ≤ 16777216 := by rw [signs_len]; decide
    have d1 : decide (((shape : Nat) : Int) = 0) = decide (shape = 0) := by by_cases h : shape = 0 <;> simp [h]
    have d2 : decide (((shape : Nat) : Int) = 1) = decide (shape = 1) := by by_cases h : shape = 1 <;> simp [h]; omega
    have d3 : decide (((k % 2 : Nat) : Int) = 1) = decide (k % 2 = 1) := by by_cases h : k % 2 = 1 <;> simp [h]; omega
    rw [List.map_append, List.map_cons, List.map_nil] at ih
    simp only [forD, e_lb__law_pieces_0, pad, dNext, dSeq, dAsg, dFor, dEnum, dIt, dWhile, dIfS, dMS, dMA, dMN, dSub, dSfl, dRet, dRetV, dRetN, dRetT, dDrop, dBreak, dCont, dFz, fzS, dConsV, dCons, dNil, bCons, bNil, dVar, dC, dBin, dIx, dNeg, dCB, dMV, dTst, dAndT, dOrT, dNotT, dAnd, dOr, dNot, dIf, dLst, dLC, dLc, lcD, dYes, wipeD, dTup, dDct0, dLRev, dIsi, dSl, oNo, oSm, dCall, dCallL, gN, gTu, gsCons, gsNil, dRg1, dRg2, dRev, dZip, pVar, pIx, atP, getP, setP, unsetL, List.map_cons, List.map_nil, List.replicate_succ, List.replicate_zero, List.cons_append, List.nil_append, List.set_cons_zero, List.set_cons_succ, List.getElem?_cons_zero, List.getElem?_cons_succ, List.length_cons, List.length_nil, o_lt, o_ltS, o_gt, o_le, o_ge, o_add, o_addS, o_addL, o_addT, o_sub, o_mul, o_fdiv, o_mod, o_pow, o_eq, o_eqN, o_ne, o_neN, o_isB, o_isI, o_len, o_lenC, o_lenT, o_lenD, o_lenS, o_ix, o_ixC, o_ixT, o_ixS, o_ixDs, o_ixDi, o_put, o_inD, o_inDi, o_inL, o_inT, o_inS, o_idx, o_list, o_listC, o_listT, o_listD, o_tuple, o_tupleT, o_intI, o_intB, o_ord, o_str, o_max, o_min, o_isNo, o_tyL, o_tyT, o_tyD, o_tyS, o_tyI, o_sl, o_slC, o_slS, o_slT, cutG_map, o_lsD, o_lsC, o_it, o_itC, o_itT, o_itS, o_app, o_ext, o_ins, o_pop, o_rev, o_clr, o_pos, o_posS, Option.bind_some, Option.map_some, List.length_map, if_true, Bool.not_false, Bool.not_true, Bool.false_bne, Bool.true_bne,  safe_sc, safe_lstF, safe_scr, safe_tup, safe_f, true_and, and_true, Option.some.injEq, exists_eq_left', exists_eq_left, decide_true, decide_false, Bool.false_eq_true, Bool.true_eq_false, reduceIte, Nat.zero_add, fz_lst, fz_dct, fz_ins, fz_sc, fz_lstF, fz_scr, Nat.zero_le, Nat.reduceLeDiff, Nat.reduceAdd, Nat.reduceLT, Int.reduceLT, Int.reduceLE, and_self, frz_lst, frz_dct, frz_dctF, frzL_ints, frzL_strs, frz_lstF, frz_scr, frz_tup, frz_sc, frzL_nil, frzL_cons, frzL_str, frzL_int, fzL_nil, fzL_cons, fzL_str, fzL_int, noC_sc, noC_lst, noC_tup, noC_dct, noCL_nil, noCL_cons, noCL_str, noCL_str2, noCL_int, Bool.and_self, Bool.and_true, Bool.true_and, List.append_nil, true_or, or_true, flat_str, flat_int, any_str, o_isiT, o_isiL, o_isiS, o_isiI, atI_0, atI_1, atI_2, atI_3, eqv_lst, eqv_tup, eqvL_nil, eqvL_cons, eqvL_str, eqv_str, eqS_int, ixN20, ixN21, fz_tup, Bool.false_and, Bool.and_false, o_posT, Int.cast_ofNat_Int, eq_self, dChain, dGin, dGix, o_gIn, o_gIx, o_mulI, o_mulS, dMake, dMethA, dMethL, dMethS, gDrop, slot0, o_insD, dRaise, dTryR, exM, dFld, pFl, dSfl, o_sflK, o_sflN, o_split, o_join, o_joinT, o_all, hm, e1, e2, e3, e4, e5, a1, a2, l1, eqS_int, d1, d2, d3, hacc]
    unfold piece at ih
    by_cases h0 : shape = 0
    · rw [if_pos (.inl h0)] at ih
      rw [if_pos (decide_eq_true h0)]
      exact ih
    · rw [if_neg (by simpa using h0)]
      by_cases h1 : shape = 1
      · rw [if_pos (decide_eq_true h1)]
        by_cases h2 : k % 2 = 1
        · rw [if_pos (.inr ⟨h1, h2⟩)] at ih
          rw [if_pos (decide_eq_true h2)]
          exact ih
        · rw [if_neg (fun z => z.elim h0 fun z => h2 z.2)] at ih
          rw [if_neg (by simpa using h2)]
          exact ih
      · rw [if_neg (fun z => z.elim h0 fun z => h1 z.1)] at ih
        rw [if_neg (by simpa using h1)]
        exact ih
theorem steps_at (n : Nat) : ∃ s, atI (steps.map fun k => D.int ((k : Nat) : Int)) (((n % 8 : Nat)) : Int) = some (.int ((s : Nat) : Int)) ∧ s ∈ steps := by
  have h : n % 8 < steps.length := Nat.mod_lt _ (by decide)
  exact ⟨steps[n % 8], atI_nat (by rw [List.getElem?_map, List.getElem?_eq_getElem h]; rfl), List.getElem_mem h⟩
theorem steps_le : ∀ s ∈ steps, s ≤ 10000 := by decide
/-- what the pieces are -/
theorem pieces_d {c : Int} {m : Nat} (hm : m ≤ 61) {Q : D → Sl → Prop} {E : EX → Sl → Prop} (q : ∀ (shape begin' step : Nat) env, begin' < 8649 → step ∈ steps → Q (.nd (.lst true) (((List.range m).map (piece shape begin' step)).map D.str)) env) : sp__law_pieces [.int c, .int (m : Int)] Q E := by
  rw [e_sp__law_pieces, e_b__law_pieces]
  obtain ⟨n, hn⟩ : ∃ n : Nat, c * 48271 % 2147483647 = (n : Int) := ⟨(c * 48271 % 2147483647).toNat, (Int.toNat_of_nonneg (Int.emod_nonneg _ (by decide))).symm⟩
  have e1 : ((n : Nat) : Int) % 8 = ((n % 8 : Nat) : Int) := by omega
  have e2 : ((n : Nat) : Int) / 8 % 8649 = ((n / 8 % 8649 : Nat) : Int) := by omega
  have e3 : ((n : Nat) : Int) / 69192 % 3 = ((n / 69192 % 3 : Nat) : Int) := by omega
  obtain ⟨s, hs, hsm⟩ := steps_at n
  have hs' : atI [D.int 1, D.int 2, D.int 5, D.int 94, D.int 187, D.int 1000, D.int 4001, D.int 8648] ((n % 8 : Nat) : Int) = some (.int ((s : Nat) : Int)) := hs
  have m1 : -(2 ^ 64) < (48271 : Int) ∧ (48271 : Int) < 2 ^ 64 := by decide
  have m2 : -(2 ^ 62) ≤ ((m : Nat) : Int) ∧ ((m : Nat) : Int) < 2 ^ 62 := by omega
  have t1 : ((m : Nat) : Int).toNat = m := rfl
  simp only [pad, dNext, dSeq, dAsg, dFor, dEnum, dIt, dWhile, dIfS, dMS, dMA, dMN, dSub, dSfl, dRet, dRetV, dRetN, dRetT, dDrop, dBreak, dCont, dFz, fzS, dConsV, dCons, dNil, bCons, bNil, dVar, dC, dBin, dIx, dNeg, dCB, dMV, dTst, dAndT, dOrT, dNotT, dAnd, dOr, dNot, dIf, dLst, dLC, dLc, lcD, dYes, wipeD, dTup, dDct0, dLRev, dIsi, dSl, oNo, oSm, dCall, dCallL, gN, gTu, gsCons, gsNil, dRg1, dRg2, dRev, dZip, pVar, pIx, atP, getP, setP, unsetL, List.map_cons, List.map_nil, List.replicate_succ, List.replicate_zero, List.cons_append, List.nil_append, List.set_cons_zero, List.set_cons_succ, List.getElem?_cons_zero, List.getElem?_cons_succ, List.length_cons, List.length_nil, o_lt, o_ltS, o_gt, o_le, o_ge, o_add, o_addS, o_addL, o_addT, o_sub, o_mul, o_fdiv, o_mod, o_pow, o_eq, o_eqN, o_ne, o_neN, o_isB, o_isI, o_len, o_lenC, o_lenT, o_lenD, o_lenS, o_ix, o_ixC, o_ixT, o_ixS, o_ixDs, o_ixDi, o_put, o_inD, o_inDi, o_inL, o_inT, o_inS, o_idx, o_list, o_listC, o_listT, o_listD, o_tuple, o_tupleT, o_intI, o_intB, o_ord, o_str, o_max, o_min, o_isNo, o_tyL, o_tyT, o_tyD, o_tyS, o_tyI, o_sl, o_slC, o_slS, o_slT, cutG_map, o_lsD, o_lsC, o_it, o_itC, o_itT, o_itS, o_app, o_ext, o_ins, o_pop, o_rev, o_clr, o_pos, o_posS, Option.bind_some, Option.map_some, List.length_map, if_true, Bool.not_false, Bool.not_true, Bool.false_bne, Bool.true_bne,  safe_sc, safe_lstF, safe_scr, safe_tup, safe_f, true_and, and_true, Option.some.injEq, exists_eq_left', exists_eq_left, decide_true, decide_false, Bool.false_eq_true, Bool.true_eq_false, reduceIte, Nat.zero_add, fz_lst, fz_dct, fz_ins, fz_sc, fz_lstF, fz_scr, Nat.zero_le, Nat.reduceLeDiff, Nat.reduceAdd, Nat.reduceLT, Int.reduceLT, Int.reduceLE, and_self, frz_lst, frz_dct, frz_dctF, frzL_ints, frzL_strs, frz_lstF, frz_scr, frz_tup, frz_sc, frzL_nil, frzL_cons, frzL_str, frzL_int, fzL_nil, fzL_cons, fzL_str, fzL_int, noC_sc, noC_lst, noC_tup, noC_dct, noCL_nil, noCL_cons, noCL_str, noCL_str2, noCL_int, Bool.and_self, Bool.and_true, Bool.true_and, List.append_nil, true_or, or_true, flat_str, flat_int, any_str, o_isiT, o_isiL, o_isiS, o_isiI, atI_0, atI_1, atI_2, atI_3, eqv_lst, eqv_tup, eqvL_nil, eqvL_cons, eqvL_str, eqv_str, eqS_int, ixN20, ixN21, fz_tup, Bool.false_and, Bool.and_false, o_posT, Int.cast_ofNat_Int, eq_self, dChain, dGin, dGix, o_gIn, o_gIx, o_mulI, o_mulS, dMake, dMethA, dMethL, dMethS, gDrop, slot0, o_insD, dRaise, dTryR, exM, dFld, pFl, dSfl, o_sflK, o_sflN, o_split, o_join, o_joinT, o_all, hn, e1, e2, e3, hs', m1, m2, t1]
  refine pieces_loop _ _ _ _ none (Nat.mod_lt _ (by decide)) (List.range m) [] none none (by simp; omega) (fun k hk => by have := List.mem_range.mp hk; omega) (steps_le s hsm) fun k8 k9 => ?_
  simp only [pad, dNext, dSeq, dAsg, dFor, dEnum, dIt, dWhile, dIfS, dMS, dMA, dMN, dSub, dSfl, dRet, dRetV, dRetN, dRetT, dDrop, dBreak, dCont, dFz, fzS, dConsV, dCons, dNil, bCons, bNil, dVar, dC, dBin, dIx, dNeg, dCB, dMV, dTst, dAndT, dOrT, dNotT, dAnd, dOr, dNot, dIf, dLst, dLC, dLc, lcD, dYes, wipeD, dTup, dDct0, dLRev, dIsi, dSl, oNo, oSm, dCall, dCallL, gN, gTu, gsCons, gsNil, dRg1, dRg2, dRev, dZip, pVar, pIx, atP, getP, setP, unsetL, List.map_cons, List.map_nil, List.replicate_succ, List.replicate_zero, List.cons_append, List.nil_append, List.set_cons_zero, List.set_cons_succ, List.getElem?_cons_zero, List.getElem?_cons_succ, List.length_cons, List.length_nil, o_lt, o_ltS, o_gt, o_le, o_ge, o_add, o_addS, o_addL, o_addT, o_sub, o_mul, o_fdiv, o_mod, o_pow, o_eq, o_eqN, o_ne, o_neN, o_isB, o_isI, o_len, o_lenC, o_lenT, o_lenD, o_lenS, o_ix, o_ixC, o_ixT, o_ixS, o_ixDs, o_ixDi, o_put, o_inD, o_inDi, o_inL, o_inT, o_inS, o_idx, o_list, o_listC, o_listT, o_listD, o_tuple, o_tupleT, o_intI, o_intB, o_ord, o_str, o_max, o_min, o_isNo, o_tyL, o_tyT, o_tyD, o_tyS, o_tyI, o_sl, o_slC, o_slS, o_slT, cutG_map, o_lsD, o_lsC, o_it, o_itC, o_itT, o_itS, o_app, o_ext, o_ins, o_pop, o_rev, o_clr, o_pos, o_posS, Option.bind_some, Option.map_some, List.length_map, if_true, Bool.not_false, Bool.not_true, Bool.false_bne, Bool.true_bne,  safe_sc, safe_lstF, safe_scr, safe_tup, safe_f, true_and, and_true, Option.some.injEq, exists_eq_left', exists_eq_left, decide_true, decide_false, Bool.false_eq_true, Bool.true_eq_false, reduceIte, Nat.zero_add, fz_lst, fz_dct, fz_ins, fz_sc, fz_lstF, fz_scr, Nat.zero_le, Nat.reduceLeDiff, Nat.reduceAdd, Nat.reduceLT, Int.reduceLT, Int.reduceLE, and_self, frz_lst, frz_dct, frz_dctF, frzL_ints, frzL_strs, frz_lstF, frz_scr, frz_tup, frz_sc, frzL_nil, frzL_cons, frzL_str, frzL_int, fzL_nil, fzL_cons, fzL_str, fzL_int, noC_sc, noC_lst, noC_tup, noC_dct, noCL_nil, noCL_cons, noCL_str, noCL_str2, noCL_int, Bool.and_self, Bool.and_true, Bool.true_and, List.append_nil, true_or, or_true, flat_str, flat_int, any_str, o_isiT, o_isiL, o_isiS, o_isiI, atI_0, atI_1, atI_2, atI_3, eqv_lst, eqv_tup, eqvL_nil, eqvL_cons, eqvL_str, eqv_str, eqS_int, ixN20, ixN21, fz_tup, Bool.false_and, Bool.and_false, o_posT, Int.cast_ofNat_Int, eq_self, dChain, dGin, dGix, o_gIn, o_gIx, o_mulI, o_mulS, dMake, dMethA, dMethL, dMethS, gDrop, slot0, o_insD, dRaise, dTryR, exM, dFld, pFl, dSfl, o_sflK, o_sflN, o_split, o_join, o_joinT, o_all]
  exact q _ _ _ _ (Nat.mod_lt _ (by decide)) hsm
theorem signs_inj : ∀ i, i < 93 → ∀ j, j < 93 → signs.getD i 0 = signs.getD j 0 → i = j := by decide +kernel
theorem signs_ok : ∀ i, signs.getD i 0 < 1114112 := by
  intro i
  by_cases h : i < 93
  · revert i; decide +kernel
  · rw [List.getD_eq_getElem?_getD, List.getElem?_eq_none (by rw [signs_len]; omega)]; decide
theorem piece_ok (shape b s k : Nat) : okT (piece shape b s k) := by
  intro c hc
  unfold piece at hc
  simp only at hc
  split at hc
  · rw [List.mem_singleton.mp hc]; exact signs_ok _
  · rcases List.mem_cons.mp hc with z | z
    · rw [z]; exact signs_ok _
    · rw [List.mem_singleton.mp z]; exact signs_ok _
theorem place_inj {b s i j : Nat} (hs : s ∈ steps) (hi : i < 61) (hj : j < 61) (h : (b + i * s) % 8649 % 93 = (b + j * s) % 8649 % 93) : i = j := by
  simp only [steps, List.mem_cons, List.not_mem_nil, or_false] at hs
  rcases hs with z | z | z | z | z | z | z | z <;> subst z <;> omega
theorem piece_inj {shape b s i j : Nat} (hb : b < 8649) (hs : s ∈ steps) (hi : i < 61) (hj : j < 61) (h : piece shape b s i = piece shape b s j) : i = j := by
  have key : signs.getD ((b + i * s) % 8649 % 93) 0 = signs.getD ((b + j * s) % 8649 % 93) 0 := by
    unfold piece at h
    simp only at h
    split at h <;> split at h
    · exact (List.cons.inj h).1
    · cases (List.cons.inj h).2
    · cases (List.cons.inj h).2
    · exact (List.cons.inj (List.cons.inj h).2).1
  exact place_inj hs hi hj (signs_inj _ (Nat.mod_lt _ (by decide)) _ (Nat.mod_lt _ (by decide)) key)
theorem pieces_nd {shape b s m : Nat} (hb : b < 8649) (hs : s ∈ steps) (hm : m ≤ 61) : ((List.range m).map (piece shape b s)).Nodup := by
  rw [List.nodup_iff_pairwise_ne, List.pairwise_map]
  refine List.Pairwise.imp_of_mem ?_ List.nodup_range
  intro i j hi hj hne e
  exact hne (piece_inj hb hs (by have := List.mem_range.mp hi; omega) (by have := List.mem_range.mp hj; omega) e)
/-- at a place of a list that is not empty -/
theorem mod_at {z : Int} {n : Nat} (h : 0 < n) : ∃ j : Nat, z % ((n : Nat) : Int) = ((j : Nat) : Int) ∧ j < n :=
  ⟨(z % (n : Int)).toNat, (Int.toNat_of_nonneg (Int.emod_nonneg _ (by omega))).symm, by have := Int.emod_lt_of_pos z (show (0 : Int) < n by omega); have := Int.emod_nonneg z (show (n : Int) ≠ 0 by omega); omega⟩
end LW

set_option Elab.async false
set_option linter.all false
set_option maxRecDepth 100000
set_option maxHeartbeats 2000000
namespace LW
open L2 DL KM
/-! ## drawn names -/
def smAt (i : Nat) : Nat := small.getD i 0
theorem small_len : small.length = 26 := by decide
theorem atI_small {i : Nat} (h : i < 26) : atI small ((i : Nat) : Int) = some (smAt i) := atI_nat (by unfold smAt; rw [List.getD_eq_getElem?_getD, List.getElem?_eq_getElem (by rw [small_len]; exact h)]; rfl)
theorem smAt_in {i : Nat} (h : i < 26) : smAt i ∈ small := by
  unfold smAt
  rw [List.getD_eq_getElem?_getD, List.getElem?_eq_getElem (by rw [small_len]; exact h)]
  exact List.getElem_mem _
theorem smAt_inj : ∀ i, i < 26 → ∀ j, j < 26 → smAt i = smAt j → i = j := by decide +kernel
def nameOf (n sh m k : Nat) : Txt :=
  if sh = 1 ∧ m ≤ 8 then repT [smAt (n % 26)] (k + 1)
  else if sh = 2 ∧ m ≤ 26 then [smAt ((n + 5 * k) % 26)]
  else repT [smAt (n / 676 % 26)] (n / 17576 % 4) ++ [smAt ((n + 7 * k) % 676 / 26), smAt ((n + 7 * k) % 676 % 26)] ++ repT [smAt (n / 70304 % 26)] (n / 1827904 % 4)
theorem repT_one (c n : Nat) : repT [c] n = List.replicate n c := by
  unfold repT
  induction n with
  | zero => rfl
  | succ n ih => rw [List.replicate_succ, List.flatten_cons, ih, List.replicate_succ]; rfl
theorem names_loop (Dd : ED) (c1 c7 c8 c9 : Option D) {n sh m : Nat} (hm : m ≤ 61) : ∀ (ks : List Nat) (acc : List Txt) (c5 c6 c7 c8 c9 : Option D), acc.length + ks.length ≤ 1000 → (∀ k ∈ ks, k < 61) → (∀ k ∈ ks, m ≤ 8 → k < 8) →
    (∀ c5 c6 c7 c8 c9, Dd.nx [some (.int ((n : Nat) : Int)), some (.int ((m : Nat) : Int)), some (.str small), some (.int ((sh : Nat) : Int)), some (.nd (.lst true) ((acc ++ ks.map (nameOf n sh m)).map D.str)), c5, c6, c7, c8, c9]) →
    forD (gN 5) lb__law_names_0 Dd (ks.map fun k => D.int ((k : Nat) : Int)) [some (.int ((n : Nat) : Int)), some (.int ((m : Nat) : Int)), some (.str small), some (.int ((sh : Nat) : Int)), some (.nd (.lst true) (acc.map D.str)), c5, c6, c7, c8, c9]
  | [], acc, c5, c6, c7, c8, c9, hl, hk, h8, q => by
    have := q c5 c6 c7 c8 c9
    rw [List.map_nil, List.append_nil] at this
    exact this
  | k :: r, acc, c5, c6, c7, c8, c9, hl, hk, h8, q => by
    rw [List.length_cons] at hl
    have hk0 := hk k List.mem_cons_self
    have ih := fun c6 c7 c8 c9 => names_loop Dd c1 c7 c8 c9 (n := n) (sh := sh) hm r (acc ++ [nameOf n sh m k]) (some (.int ((k : Nat) : Int))) c6 c7 c8 c9 (by rw [List.length_append, List.length_singleton]; omega) (fun x hx => hk x (List.mem_cons_of_mem _ hx)) (fun x hx => h8 x (List.mem_cons_of_mem _ hx)) (by simpa using q)
    rw [List.map_append, List.map_cons, List.map_nil] at ih
    have e1 : ((n : Nat) : Int) + 7 * ((k : Nat) : Int) = ((n + 7 * k : Nat) : Int) := by push_cast; rfl
    have e1b : ((n : Nat) : Int) + 5 * ((k : Nat) : Int) = ((n + 5 * k : Nat) : Int) := by push_cast; rfl
    have e2 : ∀ a b : Nat, ((a : Nat) : Int) % ((b : Nat) : Int) = ((a % b : Nat) : Int) := fun a b => rfl
    have e676 : ∀ a : Nat, ((a : Nat) : Int) % 676 = ((a % 676 : Nat) : Int) := fun a => rfl
    have e26 : ∀ a : Nat, ((a : Nat) : Int) % 26 = ((a % 26 : Nat) : Int) := fun a => rfl
    have e4 : ∀ a : Nat, ((a : Nat) : Int) % 4 = ((a % 4 : Nat) : Int) := fun a => rfl
    have d26 : ∀ a : Nat, ((a : Nat) : Int) / 26 = ((a / 26 : Nat) : Int) := fun a => rfl
    have d676 : ∀ a : Nat, ((a : Nat) : Int) / 676 = ((a / 676 : Nat) : Int) := fun a => rfl
    have d17 : ∀ a : Nat, ((a : Nat) : Int) / 17576 = ((a / 17576 : Nat) : Int) := fun a => rfl
    have d70 : ∀ a : Nat, ((a : Nat) : Int) / 70304 = ((a / 70304 : Nat) : Int) := fun a => rfl
    have d18 : ∀ a : Nat, ((a : Nat) : Int) / 1827904 = ((a / 1827904 : Nat) : Int) := fun a => rfl
    have hacc : acc.length < 1000000 := by omega
    have a26 : ∀ a : Nat, atI small ((a % 26 : Nat) : Int) = some (smAt (a % 26)) := fun a => atI_small (Nat.mod_lt _ (by decide))
    have a676 : atI small (((n + 7 * k) % 676 / 26 : Nat) : Int) = some (smAt ((n + 7 * k) % 676 / 26)) := atI_small (by omega)
    have l1 : small.length ≤ 16777216 := by rw [small_len]; decide
    have t1 : ∀ a : Nat, (((a : Nat) : Int)).toNat = a := fun a => rfl
    have t2 : (((k : Nat) : Int) + 1).toNat = k + 1 := by omega
    have b0 : ∀ a : Nat, -1000 ≤ ((a : Nat) : Int) := fun a => by omega
    have b1 : ∀ a : Nat, ((a % 4 : Nat) : Int) ≤ 1000 := fun a => by omega
    have b2 : -1000 ≤ ((k : Nat) : Int) + 1 := by omega
    have b3 : ((k : Nat) : Int) + 1 ≤ 1000 := by omega
    have s1 : decide (((sh : Nat) : Int) = 1) = decide (sh = 1) := decide_eq_decide.mpr (by omega)
    have s2 : decide (((sh : Nat) : Int) = 2) = decide (sh = 2) := decide_eq_decide.mpr (by omega)
    have s3 : decide (((m : Nat) : Int) ≤ 8) = decide (m ≤ 8) := decide_eq_decide.mpr (by omega)
    have s4 : decide (((m : Nat) : Int) ≤ 26) = decide (m ≤ 26) := decide_eq_decide.mpr (by omega)
    have r1 : ∀ a c, (repT [c] (a % 4)).length ≤ 3 := fun a c => by rw [repT_one, List.length_replicate]; omega
    have m7 : -(2 ^ 64) < (7 : Int) ∧ (7 : Int) < 2 ^ 64 := by decide
    have m5 : -(2 ^ 64) < (5 : Int) ∧ (5 : Int) < 2 ^ 64 := by decide
    rw [List.map_cons, forD]
    generalize hF : forD (gN 5) lb__law_names_0 Dd (r.map fun k => D.int ((k : Nat) : Int)) = F at ih
    simp only [e_lb__law_names_0, pad, dNext, dSeq, dAsg, dFor, dEnum, dIt, dWhile, dIfS, dMS, dMA, dMN, dSub, dSfl, dRet, dRetV, dRetN, dRetT, dDrop, dBreak, dCont, dFz, fzS, dConsV, dCons, dNil, bCons, bNil, dVar, dC, dBin, dIx, dNeg, dCB, dMV, dTst, dAndT, dOrT, dNotT, dAnd, dOr, dNot, dIf, dLst, dLC, dLc, lcD, dYes, wipeD, dTup, dDct0, dLRev, dIsi, dSl, oNo, oSm, dCall, dCallL, gN, gTu, gsCons, gsNil, dRg1, dRg2, dRev, dZip, pVar, pIx, atP, getP, setP, unsetL, List.map_cons, List.map_nil, List.replicate_succ, List.replicate_zero, List.cons_append, List.nil_append, List.set_cons_zero, List.set_cons_succ, List.getElem?_cons_zero, List.getElem?_cons_succ, List.length_cons, List.length_nil, o_lt, o_ltS, o_gt, o_le, o_ge, o_add, o_addS, o_addL, o_addT, o_sub, o_mul, o_fdiv, o_mod, o_pow, o_eq, o_eqN, o_ne, o_neN, o_isB, o_isI, o_len, o_lenC, o_lenT, o_lenD, o_lenS, o_ix, o_ixC, o_ixT, o_ixS, o_ixDs, o_ixDi, o_put, o_inD, o_inDi, o_inL, o_inT, o_inS, o_idx, o_list, o_listC, o_listT, o_listD, o_tuple, o_tupleT, o_intI, o_intB, o_ord, o_str, o_max, o_min, o_isNo, o_tyL, o_tyT, o_tyD, o_tyS, o_tyI, o_sl, o_slC, o_slS, o_slT, cutG_map, o_lsD, o_lsC, o_it, o_itC, o_itT, o_itS, o_app, o_ext, o_ins, o_pop, o_rev, o_clr, o_pos, o_posS, Option.bind_some, Option.map_some, List.length_map, if_true, Bool.not_false, Bool.not_true, Bool.false_bne, Bool.true_bne,  safe_sc, safe_lstF, safe_scr, safe_tup, safe_f, true_and, and_true, Option.some.injEq, exists_eq_left', exists_eq_left, decide_true, decide_false, Bool.false_eq_true, Bool.true_eq_false, reduceIte, Nat.zero_add, fz_lst, fz_dct, fz_ins, fz_sc, fz_lstF, fz_scr, Nat.zero_le, Nat.reduceLeDiff, Nat.reduceAdd, Nat.reduceLT, Int.reduceLT, Int.reduceLE, and_self, frz_lst, frz_dct, frz_dctF, frzL_ints, frzL_strs, frz_lstF, frz_scr, frz_tup, frz_sc, frzL_nil, frzL_cons, frzL_str, frzL_int, fzL_nil, fzL_cons, fzL_str, fzL_int, noC_sc, noC_lst, noC_tup, noC_dct, noCL_nil, noCL_cons, noCL_str, noCL_str2, noCL_int, Bool.and_self, Bool.and_true, Bool.true_and, List.append_nil, true_or, or_true, flat_str, flat_int, any_str, o_isiT, o_isiL, o_isiS, o_isiI, atI_0, atI_1, atI_2, atI_3, eqv_lst, eqv_tup, eqvL_nil, eqvL_cons, eqvL_str, eqv_str, eqS_int, ixN20, ixN21, fz_tup, Bool.false_and, Bool.and_false, o_posT, Int.cast_ofNat_Int, eq_self, dChain, dGin, dGix, o_gIn, o_gIx, o_mulI, o_mulS, dMake, dMethA, dMethL, dMethS, gDrop, slot0, o_insD, dRaise, dTryR, exM, dFld, pFl, dSfl, o_sflK, o_sflN, o_split, o_join, o_joinT, o_all, eqS_int, m7, m5, e1, e1b, e676, e26, e4, d26, d676, d17, d70, d18, a26, a676, l1, t1, t2, b0, b1, b2, b3, s1, s2, s3, s4, hacc]
    unfold nameOf at ih
    by_cases h1 : sh = 1
    · rw [if_pos (decide_eq_true h1)]
      by_cases h2 : m ≤ 8
      · rw [if_pos (decide_eq_true h2)]
        rw [if_pos ⟨h1, h2⟩] at ih
        exact ih _ _ _ _
      · rw [if_neg (show ¬ decide (m ≤ 8) = true by simpa using h2), if_neg (show ¬ decide (sh = 2) = true by simp; omega)]
        rw [if_neg (fun z => h2 z.2), if_neg (fun z => by omega)] at ih
        refine ⟨by have := r1 (n / 17576) (smAt (n / 676 % 26)); omega, ?_, ih _ _ _ _⟩
        have := r1 (n / 17576) (smAt (n / 676 % 26)); have := r1 (n / 1827904) (smAt (n / 70304 % 26))
        rw [List.length_append]
        simp only [List.length_cons, List.length_nil]
        omega
    · rw [if_neg (show ¬ decide (sh = 1) = true by simpa using h1)]
      rw [if_neg (fun z => h1 z.1)] at ih
      by_cases h2 : sh = 2
      · rw [if_pos (decide_eq_true h2)]
        by_cases h3 : m ≤ 26
        · rw [if_pos (decide_eq_true h3)]
          rw [if_pos ⟨h2, h3⟩] at ih
          exact ih _ _ _ _
        · rw [if_neg (show ¬ decide (m ≤ 26) = true by simpa using h3)]
          rw [if_neg (fun z => h3 z.2)] at ih
          refine ⟨by have := r1 (n / 17576) (smAt (n / 676 % 26)); omega, ?_, ih _ _ _ _⟩
          have := r1 (n / 17576) (smAt (n / 676 % 26)); have := r1 (n / 1827904) (smAt (n / 70304 % 26))
          rw [List.length_append]
          simp only [List.length_cons, List.length_nil]
          omega
      · rw [if_neg (show ¬ decide (sh = 2) = true by simpa using h2)]
        rw [if_neg (fun z => h2 z.1)] at ih
        refine ⟨by have := r1 (n / 17576) (smAt (n / 676 % 26)); omega, ?_, ih _ _ _ _⟩
        have := r1 (n / 17576) (smAt (n / 676 % 26)); have := r1 (n / 1827904) (smAt (n / 70304 % 26))
        rw [List.length_append]
        simp only [List.length_cons, List.length_nil]
        omega
end LW

set_option Elab.async false
set_option linter.all false
set_option maxRecDepth 100000
set_option maxHeartbeats 2000000
namespace LW
open L2 DL KM
def namesOf (N m : Nat) : List Txt := (List.range m).map (nameOf (N / 4) (N % 4) m)
theorem names_d' {N m : Nat} (hm : m ≤ 61) {Q : D → Sl → Prop} {E : EX → Sl → Prop} (q : ∀ env, Q (.nd (.lst true) ((namesOf N m).map D.str)) env) : sp__law_names [.int ((N : Nat) : Int), .int ((m : Nat) : Int)] Q E := by
  rw [e_sp__law_names, e_b__law_names]
  have e1 : ((N : Nat) : Int) % 4 = ((N % 4 : Nat) : Int) := rfl
  have e2 : ((N : Nat) : Int) / 4 = ((N / 4 : Nat) : Int) := rfl
  have m2 : -(2 ^ 62) ≤ ((m : Nat) : Int) ∧ ((m : Nat) : Int) < 2 ^ 62 := by omega
  have t1 : ((m : Nat) : Int).toNat = m := rfl
  simp only [pad, dNext, dSeq, dAsg, dFor, dEnum, dIt, dWhile, dIfS, dMS, dMA, dMN, dSub, dSfl, dRet, dRetV, dRetN, dRetT, dDrop, dBreak, dCont, dFz, fzS, dConsV, dCons, dNil, bCons, bNil, dVar, dC, dBin, dIx, dNeg, dCB, dMV, dTst, dAndT, dOrT, dNotT, dAnd, dOr, dNot, dIf, dLst, dLC, dLc, lcD, dYes, wipeD, dTup, dDct0, dLRev, dIsi, dSl, oNo, oSm, dCall, dCallL, gN, gTu, gsCons, gsNil, dRg1, dRg2, dRev, dZip, pVar, pIx, atP, getP, setP, unsetL, List.map_cons, List.map_nil, List.replicate_succ, List.replicate_zero, List.cons_append, List.nil_append, List.set_cons_zero, List.set_cons_succ, List.getElem?_cons_zero, List.getElem?_cons_succ, List.length_cons, List.length_nil, o_lt, o_ltS, o_gt, o_le, o_ge, o_add, o_addS, o_addL, o_addT, o_sub, o_mul, o_fdiv, o_mod, o_pow, o_eq, o_eqN, o_ne, o_neN, o_isB, o_isI, o_len, o_lenC, o_lenT, o_lenD, o_lenS, o_ix, o_ixC, o_ixT, o_ixS, o_ixDs, o_ixDi, o_put, o_inD, o_inDi, o_inL, o_inT, o_inS, o_idx, o_list, o_listC, o_listT, o_listD, o_tuple, o_tupleT, o_intI, o_intB, o_ord, o_str, o_max, o_min, o_isNo, o_tyL, o_tyT, o_tyD, o_tyS, o_tyI, o_sl, o_slC, o_slS, o_slT, cutG_map, o_lsD, o_lsC, o_it, o_itC, o_itT, o_itS, o_app, o_ext, o_ins, o_pop, o_rev, o_clr, o_pos, o_posS, Option.bind_some, Option.map_some, List.length_map, if_true, Bool.not_false, Bool.not_true, Bool.false_bne, Bool.true_bne,  safe_sc, safe_lstF, safe_scr, safe_tup, safe_f, true_and, and_true, Option.some.injEq, exists_eq_left', exists_eq_left, decide_true, decide_false, Bool.false_eq_true, Bool.true_eq_false, reduceIte, Nat.zero_add, fz_lst, fz_dct, fz_ins, fz_sc, fz_lstF, fz_scr, Nat.zero_le, Nat.reduceLeDiff, Nat.reduceAdd, Nat.reduceLT, Int.reduceLT, Int.reduceLE, and_self, frz_lst, frz_dct, frz_dctF, frzL_ints, frzL_strs, frz_lstF, frz_scr, frz_tup, frz_sc, frzL_nil, frzL_cons, frzL_str, frzL_int, fzL_nil, fzL_cons, fzL_str, fzL_int, noC_sc, noC_lst, noC_tup, noC_dct, noCL_nil, noCL_cons, noCL_str, noCL_str2, noCL_int, Bool.and_self, Bool.and_true, Bool.true_and, List.append_nil, true_or, or_true, flat_str, flat_int, any_str, o_isiT, o_isiL, o_isiS, o_isiI, atI_0, atI_1, atI_2, atI_3, eqv_lst, eqv_tup, eqvL_nil, eqvL_cons, eqvL_str, eqv_str, eqS_int, ixN20, ixN21, fz_tup, Bool.false_and, Bool.and_false, o_posT, Int.cast_ofNat_Int, eq_self, dChain, dGin, dGix, o_gIn, o_gIx, o_mulI, o_mulS, dMake, dMethA, dMethL, dMethS, gDrop, slot0, o_insD, dRaise, dTryR, exM, dFld, pFl, dSfl, o_sflK, o_sflN, o_split, o_join, o_joinT, o_all, e1, e2, m2, t1]
  refine names_loop _ none none none none hm (List.range m) [] none none none none none (by simp; omega) (fun k hk => by have := List.mem_range.mp hk; omega) (fun k hk h => by have := List.mem_range.mp hk; omega) fun c5 c6 c7 c8 c9 => ?_
  simp only [pad, dNext, dSeq, dAsg, dFor, dEnum, dIt, dWhile, dIfS, dMS, dMA, dMN, dSub, dSfl, dRet, dRetV, dRetN, dRetT, dDrop, dBreak, dCont, dFz, fzS, dConsV, dCons, dNil, bCons, bNil, dVar, dC, dBin, dIx, dNeg, dCB, dMV, dTst, dAndT, dOrT, dNotT, dAnd, dOr, dNot, dIf, dLst, dLC, dLc, lcD, dYes, wipeD, dTup, dDct0, dLRev, dIsi, dSl, oNo, oSm, dCall, dCallL, gN, gTu, gsCons, gsNil, dRg1, dRg2, dRev, dZip, pVar, pIx, atP, getP, setP, unsetL, List.map_cons, List.map_nil, List.replicate_succ, List.replicate_zero, List.cons_append, List.nil_append, List.set_cons_zero, List.set_cons_succ, List.getElem?_cons_zero, List.getElem?_cons_succ, List.length_cons, List.length_nil, o_lt, o_ltS, o_gt, o_le, o_ge, o_add, o_addS, o_addL, o_addT, o_sub, o_mul, o_fdiv, o_mod, o_pow, o_eq, o_eqN, o_ne, o_neN, o_isB, o_isI, o_len, o_lenC, o_lenT, o_lenD, o_lenS, o_ix, o_ixC, o_ixT, o_ixS, o_ixDs, o_ixDi, o_put, o_inD, o_inDi, o_inL, o_inT, o_inS, o_idx, o_list, o_listC, o_listT, o_listD, o_tuple, o_tupleT, o_intI, o_intB, o_ord, o_str, o_max, o_min, o_isNo, o_tyL, o_tyT, o_tyD, o_tyS, o_tyI, o_sl, o_slC, o_slS, o_slT, cutG_map, o_lsD, o_lsC, o_it, o_itC, o_itT, o_itS, o_app, o_ext, o_ins, o_pop, o_rev, o_clr, o_pos, o_posS, Option.bind_some, Option.map_some, List.length_map, if_true, Bool.not_false, Bool.not_true, Bool.false_bne, Bool.true_bne,  safe_sc, safe_lstF, safe_scr, safe_tup, safe_f, true_and, and_true, Option.some.injEq, exists_eq_left', exists_eq_left, decide_true, decide_false, Bool.false_eq_true, Bool.true_eq_false, reduceIte, Nat.zero_add, fz_lst, fz_dct, fz_ins, fz_sc, fz_lstF, fz_scr, Nat.zero_le, Nat.reduceLeDiff, Nat.reduceAdd, Nat.reduceLT, Int.reduceLT, Int.reduceLE, and_self, frz_lst, frz_dct, frz_dctF, frzL_ints, frzL_strs, frz_lstF, frz_scr, frz_tup, frz_sc, frzL_nil, frzL_cons, frzL_str, frzL_int, fzL_nil, fzL_cons, fzL_str, fzL_int, noC_sc, noC_lst, noC_tup, noC_dct, noCL_nil, noCL_cons, noCL_str, noCL_str2, noCL_int, Bool.and_self, Bool.and_true, Bool.true_and, List.append_nil, true_or, or_true, flat_str, flat_int, any_str, o_isiT, o_isiL, o_isiS, o_isiI, atI_0, atI_1, atI_2, atI_3, eqv_lst, eqv_tup, eqvL_nil, eqvL_cons, eqvL_str, eqv_str, eqS_int, ixN20, ixN21, fz_tup, Bool.false_and, Bool.and_false, o_posT, Int.cast_ofNat_Int, eq_self, dChain, dGin, dGix, o_gIn, o_gIx, o_mulI, o_mulS, dMake, dMethA, dMethL, dMethS, gDrop, slot0, o_insD, dRaise, dTryR, exM, dFld, pFl, dSfl, o_sflK, o_sflN, o_split, o_join, o_joinT, o_all]
  exact q _
theorem name_all {n sh m k : Nat} : ∀ c ∈ nameOf n sh m k, c ∈ small := by
  intro c hc
  have sm : ∀ a, smAt (a % 26) ∈ small := fun a => smAt_in (Nat.mod_lt _ (by decide))
  have rp : ∀ {a n : Nat}, c ∈ repT [smAt (a % 26)] n → c ∈ small := fun {a n} h => by
    rw [repT_one] at h
    rw [List.eq_of_mem_replicate h]
    exact sm a
  unfold nameOf at hc
  split at hc
  · exact rp hc
  · split at hc
    · rw [List.mem_singleton.mp hc]; exact sm _
    · rcases List.mem_append.mp hc with z | z
      · rcases List.mem_append.mp z with z | z
        · exact rp z
        · rcases List.mem_cons.mp z with z | z
          · rw [z]
            exact smAt_in (by have := Nat.mod_lt (n + 7 * k) (by decide : 0 < 676); omega)
          · rw [List.mem_singleton.mp z]; exact sm _
      · exact rp z
theorem name_len {n sh m k : Nat} (hk : m ≤ 8 → k < 8) : 1 ≤ (nameOf n sh m k).length ∧ (nameOf n sh m k).length ≤ 8 := by
  unfold nameOf
  split
  · rename_i h; have := hk h.2; rw [repT_one, List.length_replicate]; omega
  · split
    · simp
    · rw [List.length_append, List.length_append, repT_one, repT_one, List.length_replicate, List.length_replicate]
      simp only [List.length_cons, List.length_nil]
      omega
theorem small_facts : ∀ c ∈ small, c ≠ 32 ∧ c ≠ 10 ∧ c < 1114112 := by decide
theorem isName_of {t : Txt} (h1 : 1 ≤ t.length) (h2 : t.length ≤ 8) (h3 : ∀ c ∈ t, c ∈ small) : isName t = true ∧ plainT t := by
  refine ⟨?_, by omega, fun z => (small_facts _ (h3 _ z)).1 rfl, fun z => (small_facts _ (h3 _ z)).2.1 rfl, fun c hc => (small_facts _ (h3 c hc)).2.2⟩
  unfold isName
  rw [decide_eq_true h1, decide_eq_true h2]
  simp only [Bool.true_and, List.all_eq_true, decide_eq_true_eq]
  exact h3
theorem name_ok {n sh m k : Nat} (hk : m ≤ 8 → k < 8) : isName (nameOf n sh m k) = true ∧ plainT (nameOf n sh m k) := isName_of (name_len hk).1 (name_len hk).2 name_all
theorem app_inj_len {a b c d : Txt} (h : a ++ b = c ++ d) (e : a.length = c.length) : a = c ∧ b = d := List.append_inj h e
theorem name_inj {n sh m i j : Nat} (hm : m ≤ 61) (hi : i < m) (hj : j < m) (h : nameOf n sh m i = nameOf n sh m j) : i = j := by
  unfold nameOf at h
  split at h
  · rename_i h1
    rw [repT_one, repT_one] at h
    have := congrArg List.length h
    rw [List.length_replicate, List.length_replicate] at this
    omega
  · split at h
    · rename_i h1 h2
      have := smAt_inj _ (Nat.mod_lt _ (by decide)) _ (Nat.mod_lt _ (by decide)) (List.cons.inj h).1
      omega
    · have h1 := (List.append_inj h (by rw [List.length_append, List.length_append]; rfl)).1
      have h2 := (List.append_inj h1 rfl).2
      have a := smAt_inj _ (by have := Nat.mod_lt (n + 7 * i) (by decide : 0 < 676); omega) _ (by have := Nat.mod_lt (n + 7 * j) (by decide : 0 < 676); omega) (List.cons.inj h2).1
      have b := smAt_inj _ (Nat.mod_lt _ (by decide)) _ (Nat.mod_lt _ (by decide)) (List.cons.inj (List.cons.inj h2).2).1
      omega
theorem names_nd {N m : Nat} (hm : m ≤ 61) : (namesOf N m).Nodup := by
  unfold namesOf
  rw [List.nodup_iff_pairwise_ne, List.pairwise_map]
  refine List.Pairwise.imp_of_mem ?_ List.nodup_range
  intro i j hi hj hne e
  exact hne (name_inj hm (List.mem_range.mp hi) (List.mem_range.mp hj) e)
theorem names_len (N m : Nat) : (namesOf N m).length = m := by simp [namesOf]
theorem names_ok {N m : Nat} : ∀ t ∈ namesOf N m, isName t = true ∧ plainT t := fun t ht => by
  obtain ⟨k, hk, rfl⟩ := List.mem_map.mp ht
  exact name_ok fun h => by have := List.mem_range.mp hk; omega
end LW

set_option Elab.async false
set_option linter.all false
set_option maxRecDepth 100000
set_option maxHeartbeats 2000000
namespace LW
open L2 DL KM
/-! ## drawn pieces, drawn rules -/
theorem signs_sign : ∀ i, i < 93 → isSign (signs.getD i 0) = true := by decide +kernel
theorem signs_plain : ∀ i, i < 93 → signs.getD i 0 ≠ 32 ∧ signs.getD i 0 ≠ 10 := by decide +kernel
theorem piece_signs {shape b s k c : Nat} (hc : c ∈ piece shape b s k) : ∃ i, i < 93 ∧ c = signs.getD i 0 := by
  have hp := Nat.mod_lt (b + k * s) (by decide : 0 < 8649)
  unfold piece at hc
  simp only at hc
  split at hc
  · exact ⟨_, Nat.mod_lt _ (by decide), List.mem_singleton.mp hc⟩
  · rcases List.mem_cons.mp hc with z | z
    · exact ⟨_, by omega, z⟩
    · exact ⟨_, Nat.mod_lt _ (by decide), List.mem_singleton.mp z⟩
theorem piece_len (shape b s k : Nat) : 1 ≤ (piece shape b s k).length ∧ (piece shape b s k).length ≤ 2 := by
  unfold piece
  simp only
  split <;> simp
def PieceOk (t : Txt) : Prop := isPiece t = true ∧ plainT t
theorem piece_isPiece (shape b s k : Nat) : PieceOk (piece shape b s k) := by
  have hl := piece_len shape b s k
  refine ⟨?_, by omega, fun z => ?_, fun z => ?_, piece_ok _ _ _ _⟩
  · unfold isPiece
    rw [decide_eq_true hl.1, decide_eq_true hl.2]
    simp only [Bool.true_and, List.all_eq_true]
    intro c hc
    obtain ⟨i, hi, e⟩ := piece_signs hc
    rw [e]; exact signs_sign i hi
  · obtain ⟨i, hi, e⟩ := piece_signs z
    exact (signs_plain i hi).1 e.symm
  · obtain ⟨i, hi, e⟩ := piece_signs z
    exact (signs_plain i hi).2 e.symm
def ruleWords : List Txt := [wRow, wMarks, wGreat, wAs, wOver, wForget, [102, 105, 103, 117, 114, 101, 115], [98, 108, 97, 110, 107, 115], [98, 101, 104, 105, 110, 100]]
def leastAt : Nat → Nat
  | 2 => 2
  | 3 => 2
  | 6 => 0
  | 7 => 0
  | 8 => 0
  | _ => 1
theorem word_facts : ∀ i, i < 9 → (ruleWords.getD i []) ≠ wOrder ∧ plainT (ruleWords.getD i []) ∧ lkT tab_LEAST (ruleWords.getD i []) = some (.int (leastAt i)) ∧ (ruleWords.getD i [] = wAs → i = 3) ∧ (ruleWords.getD i [] = wGreat → i = 2) := by
  intro i hi
  have h : ∀ j : Fin 9, (ruleWords.getD j.1 []) ≠ wOrder ∧ ((ruleWords.getD j.1 []).length ≤ 1000 ∧ 32 ∉ (ruleWords.getD j.1 []) ∧ 10 ∉ (ruleWords.getD j.1 []) ∧ ∀ c ∈ ruleWords.getD j.1 [], c < 1114112) ∧ lkT tab_LEAST (ruleWords.getD j.1 []) = some (.int (leastAt j.1)) ∧ (ruleWords.getD j.1 [] = wAs → j.1 = 3) ∧ (ruleWords.getD j.1 [] = wGreat → j.1 = 2) := by decide +kernel
  exact h ⟨i, hi⟩
/-- a drawn rule -/
def DrawnRule (sm : List Txt) (r : Rl) : Prop := ∃ i ps, i < 9 ∧ r = ruleWords.getD i [] :: ps ∧ leastAt i ≤ ps.length ∧ (leastAt i = 0 → ps = []) ∧ ps.length ≤ 4 ∧ ∀ p ∈ ps, p ∈ sm
theorem words_at {i : Nat} (h : i < 9) : atI [D.sc (.str [114, 111, 119]), D.sc (.str [109, 97, 114, 107, 115]), D.sc (.str [103, 114, 101, 97, 116]), D.sc (.str [97, 115]), D.sc (.str [111, 118, 101, 114]), D.sc (.str [102, 111, 114, 103, 101, 116]), D.sc (.str [102, 105, 103, 117, 114, 101, 115]), D.sc (.str [98, 108, 97, 110, 107, 115]), D.sc (.str [98, 101, 104, 105, 110, 100])] ((i : Nat) : Int) = some (.str (ruleWords.getD i [])) := by
  have hl : i < ruleWords.length := h
  exact atI_nat (show (ruleWords.map D.str)[i]? = _ by rw [List.getElem?_map, List.getElem?_eq_getElem hl, List.getD_eq_getElem?_getD, List.getElem?_eq_getElem hl]; rfl)
theorem rule_pieces (Dd : ED) {sm : List Txt} (h0 : 0 < sm.length) (hs : sm.length ≤ 1000) (c0 c2 c4 c5 : Option D) : ∀ (ks : List Nat) (n : Nat) (acc : List Txt) (c7 : Option D), acc.length + ks.length ≤ 1000 → (∀ p ∈ acc, p ∈ sm) →
    (∀ n' acc' c7, acc'.length = acc.length + ks.length → (∀ p ∈ acc', p ∈ sm) → Dd.nx [c0, some (gDl' false sm), c2, some (.int ((n' : Nat) : Int)), c4, c5, some (gDl' true acc'), c7]) →
    forD (gN 7) lb__law_rule_0 Dd (ks.map fun k => D.int ((k : Nat) : Int)) [c0, some (gDl' false sm), c2, some (.int ((n : Nat) : Int)), c4, c5, some (gDl' true acc), c7]
  | [], n, acc, c7, hl, hm, q => q n acc c7 rfl hm
  | k :: r, n, acc, c7, hl, hm, q => by
    rw [List.length_cons] at hl
    have hj : n % sm.length < sm.length := Nat.mod_lt _ h0
    have ih := fun c7 => rule_pieces Dd h0 hs c0 c2 c4 c5 r (n / sm.length) (acc ++ [sm[n % sm.length]]) c7 (by rw [List.length_append, List.length_singleton]; omega)
      (fun p hp => (List.mem_append.mp hp).elim (hm p) fun z => by rw [List.mem_singleton.mp z]; exact List.getElem_mem _)
      (fun n' acc' c7 h1 h2 => q n' acc' c7 (by rw [h1, List.length_append, List.length_singleton, List.length_cons]; omega) h2)
    have e1 : ((n : Nat) : Int) % ((sm.length : Nat) : Int) = ((n % sm.length : Nat) : Int) := rfl
    have e2 : ((n : Nat) : Int) / ((sm.length : Nat) : Int) = ((n / sm.length : Nat) : Int) := rfl
    have p1 : (0 : Int) < ((sm.length : Nat) : Int) := by omega
    have p2 : ((sm.length : Nat) : Int) < 1073741824 := by omega
    have a1 : atI (sm.map D.str) ((n % sm.length : Nat) : Int) = some (.str sm[n % sm.length]) := atI_nat (by rw [List.getElem?_map, List.getElem?_eq_getElem hj]; rfl)
    have l1 : acc.length < 1000000 := by omega
    rw [List.map_cons, forD]
    generalize hF : forD (gN 7) lb__law_rule_0 Dd (r.map fun k => D.int ((k : Nat) : Int)) = F at ih
    simp only [e_lb__law_rule_0, pad, dNext, dSeq, dAsg, dFor, dEnum, dIt, dWhile, dIfS, dMS, dMA, dMN, dSub, dSfl, dRet, dRetV, dRetN, dRetT, dDrop, dBreak, dCont, dFz, fzS, dConsV, dCons, dNil, bCons, bNil, dVar, dC, dBin, dIx, dNeg, dCB, dMV, dTst, dAndT, dOrT, dNotT, dAnd, dOr, dNot, dIf, dLst, dLC, dLc, lcD, dYes, wipeD, dTup, dDct0, dLRev, dIsi, dSl, oNo, oSm, dCall, dCallL, gN, gTu, gsCons, gsNil, dRg1, dRg2, dRev, dZip, pVar, pIx, atP, getP, setP, unsetL, List.map_cons, List.map_nil, List.replicate_succ, List.replicate_zero, List.cons_append, List.nil_append, List.set_cons_zero, List.set_cons_succ, List.getElem?_cons_zero, List.getElem?_cons_succ, List.length_cons, List.length_nil, o_lt, o_ltS, o_gt, o_le, o_ge, o_add, o_addS, o_addL, o_addT, o_sub, o_mul, o_fdiv, o_mod, o_pow, o_eq, o_eqN, o_ne, o_neN, o_isB, o_isI, o_len, o_lenC, o_lenT, o_lenD, o_lenS, o_ix, o_ixC, o_ixT, o_ixS, o_ixDs, o_ixDi, o_put, o_inD, o_inDi, o_inL, o_inT, o_inS, o_idx, o_list, o_listC, o_listT, o_listD, o_tuple, o_tupleT, o_intI, o_intB, o_ord, o_str, o_max, o_min, o_isNo, o_tyL, o_tyT, o_tyD, o_tyS, o_tyI, o_sl, o_slC, o_slS, o_slT, cutG_map, o_lsD, o_lsC, o_it, o_itC, o_itT, o_itS, o_app, o_ext, o_ins, o_pop, o_rev, o_clr, o_pos, o_posS, Option.bind_some, Option.map_some, List.length_map, if_true, Bool.not_false, Bool.not_true, Bool.false_bne, Bool.true_bne,  safe_sc, safe_lstF, safe_scr, safe_tup, safe_f, true_and, and_true, Option.some.injEq, exists_eq_left', exists_eq_left, decide_true, decide_false, Bool.false_eq_true, Bool.true_eq_false, reduceIte, Nat.zero_add, fz_lst, fz_dct, fz_ins, fz_sc, fz_lstF, fz_scr, Nat.zero_le, Nat.reduceLeDiff, Nat.reduceAdd, Nat.reduceLT, Int.reduceLT, Int.reduceLE, and_self, frz_lst, frz_dct, frz_dctF, frzL_ints, frzL_strs, frz_lstF, frz_scr, frz_tup, frz_sc, frzL_nil, frzL_cons, frzL_str, frzL_int, fzL_nil, fzL_cons, fzL_str, fzL_int, noC_sc, noC_lst, noC_tup, noC_dct, noCL_nil, noCL_cons, noCL_str, noCL_str2, noCL_int, Bool.and_self, Bool.and_true, Bool.true_and, List.append_nil, true_or, or_true, flat_str, flat_int, any_str, o_isiT, o_isiL, o_isiS, o_isiI, atI_0, atI_1, atI_2, atI_3, eqv_lst, eqv_tup, eqvL_nil, eqvL_cons, eqvL_str, eqv_str, eqS_int, ixN20, ixN21, fz_tup, Bool.false_and, Bool.and_false, o_posT, Int.cast_ofNat_Int, eq_self, dChain, dGin, dGix, o_gIn, o_gIx, o_mulI, o_mulS, dMake, dMethA, dMethL, dMethS, gDrop, slot0, o_insD, dRaise, dTryR, exM, dFld, pFl, dSfl, o_sflK, o_sflN, o_split, o_join, o_joinT, o_all, e1, e2, p1, p2, a1, l1]
    rw [snoc_strs]
    exact ih _
theorem rule_d {c : Int} {sm : List Txt} (h0 : 0 < sm.length) (hs : sm.length ≤ 1000) {Q : D → Sl → Prop} {E : EX → Sl → Prop} (q : ∀ r env, DrawnRule sm r → Q (ruD r) env) : sp__law_rule [.int c, gDl' false sm] Q E := by
  rw [e_sp__law_rule, e_b__law_rule]
  obtain ⟨n, hn⟩ : ∃ n : Nat, c * 16807 % 2147483629 = (n : Int) := ⟨(c * 16807 % 2147483629).toNat, (Int.toNat_of_nonneg (Int.emod_nonneg _ (by decide))).symm⟩
  have m1 : -(2 ^ 64) < (16807 : Int) ∧ (16807 : Int) < 2 ^ 64 := by decide
  have e9 : ((n : Nat) : Int) % 9 = ((n % 9 : Nat) : Int) := rfl
  have h9 : n % 9 < 9 := Nat.mod_lt _ (by decide)
  generalize hi : n % 9 = i at e9 h9
  have a1 := words_at h9
  have e3 : ((n : Nat) : Int) / 9 % 3 = ((n / 9 % 3 : Nat) : Int) := rfl
  have e4 : ((n : Nat) : Int) / 9 / 3 = ((n / 9 / 3 : Nat) : Int) := rfl
  have d5 : decide ((5 : Int) < ((i : Nat) : Int)) = decide (5 < i) := decide_eq_decide.mpr (by omega)
  have d2 : decide (((i : Nat) : Int) = 2) = decide (i = 2) := decide_eq_decide.mpr (by omega)
  have d3 : decide (((i : Nat) : Int) = 3) = decide (i = 3) := decide_eq_decide.mpr (by omega)
  have e5 : (2 : Int) + ((n / 9 % 3 : Nat) : Int) = ((2 + n / 9 % 3 : Nat) : Int) := rfl
  have e6 : ((2 + n / 9 % 3 : Nat) : Int) - 1 = ((1 + n / 9 % 3 : Nat) : Int) := by omega
  have fin : ∀ (m : Nat) (c5 : Option D), 1 ≤ m → m ≤ 4 → (i = 2 ∨ i = 3 → 2 ≤ m) → i ≤ 5 → forD (gN 7) lb__law_rule_0
      { nx := dRet (dBin addD (dTup (dCons (dIx (dVar 2) (dVar 4)) dNil)) (dCB tupleD (bCons (dVar 6) bNil))) { nx := fun env => Q D.non env, rt := Q, ex := E }, rt := Q, ex := E } ((List.range m).map fun k => D.int ((k : Nat) : Int))
      [some (.int c), some (gDl' false sm), some (.nd (.lst true) [D.sc (.str [114, 111, 119]), D.sc (.str [109, 97, 114, 107, 115]), D.sc (.str [103, 114, 101, 97, 116]), D.sc (.str [97, 115]), D.sc (.str [111, 118, 101, 114]), D.sc (.str [102, 111, 114, 103, 101, 116]), D.sc (.str [102, 105, 103, 117, 114, 101, 115]), D.sc (.str [98, 108, 97, 110, 107, 115]), D.sc (.str [98, 101, 104, 105, 110, 100])]), some (.int ((n / 9 / 3 : Nat) : Int)), some (.int ((i : Nat) : Int)), c5, some (gDl' true []), none] := fun m c5 hm1 hm4 hm2 hi5 => by
    refine rule_pieces _ h0 hs _ _ _ _ (List.range m) _ [] none (by simp; omega) (fun _ z => by cases z) fun n' acc' c7 h1 h2 => ?_
    simp only [List.length_nil, List.length_range, Nat.zero_add] at h1
    have st : stb (.lst true) (acc'.map D.str) = true := stb_lst (fzL_str _)
    have fz1 : fzL (acc'.map D.str) = true := fzL_str _
    have l1 : 0 + 1 + acc'.length ≤ 16777216 := by omega
    have l2 : acc'.length ≤ 16777215 := by omega
    simp only [pad, dNext, dSeq, dAsg, dFor, dEnum, dIt, dWhile, dIfS, dMS, dMA, dMN, dSub, dSfl, dRet, dRetV, dRetN, dRetT, dDrop, dBreak, dCont, dFz, fzS, dConsV, dCons, dNil, bCons, bNil, dVar, dC, dBin, dIx, dNeg, dCB, dMV, dTst, dAndT, dOrT, dNotT, dAnd, dOr, dNot, dIf, dLst, dLC, dLc, lcD, dYes, wipeD, dTup, dDct0, dLRev, dIsi, dSl, oNo, oSm, dCall, dCallL, gN, gTu, gsCons, gsNil, dRg1, dRg2, dRev, dZip, pVar, pIx, atP, getP, setP, unsetL, List.map_cons, List.map_nil, List.replicate_succ, List.replicate_zero, List.cons_append, List.nil_append, List.set_cons_zero, List.set_cons_succ, List.getElem?_cons_zero, List.getElem?_cons_succ, List.length_cons, List.length_nil, o_lt, o_ltS, o_gt, o_le, o_ge, o_add, o_addS, o_addL, o_addT, o_sub, o_mul, o_fdiv, o_mod, o_pow, o_eq, o_eqN, o_ne, o_neN, o_isB, o_isI, o_len, o_lenC, o_lenT, o_lenD, o_lenS, o_ix, o_ixC, o_ixT, o_ixS, o_ixDs, o_ixDi, o_put, o_inD, o_inDi, o_inL, o_inT, o_inS, o_idx, o_list, o_listC, o_listT, o_listD, o_tuple, o_tupleT, o_intI, o_intB, o_ord, o_str, o_max, o_min, o_isNo, o_tyL, o_tyT, o_tyD, o_tyS, o_tyI, o_sl, o_slC, o_slS, o_slT, cutG_map, o_lsD, o_lsC, o_it, o_itC, o_itT, o_itS, o_app, o_ext, o_ins, o_pop, o_rev, o_clr, o_pos, o_posS, Option.bind_some, Option.map_some, List.length_map, if_true, Bool.not_false, Bool.not_true, Bool.false_bne, Bool.true_bne,  safe_sc, safe_lstF, safe_scr, safe_tup, safe_f, true_and, and_true, Option.some.injEq, exists_eq_left', exists_eq_left, decide_true, decide_false, Bool.false_eq_true, Bool.true_eq_false, reduceIte, Nat.zero_add, fz_lst, fz_dct, fz_ins, fz_sc, fz_lstF, fz_scr, Nat.zero_le, Nat.reduceLeDiff, Nat.reduceAdd, Nat.reduceLT, Int.reduceLT, Int.reduceLE, and_self, frz_lst, frz_dct, frz_dctF, frzL_ints, frzL_strs, frz_lstF, frz_scr, frz_tup, frz_sc, frzL_nil, frzL_cons, frzL_str, frzL_int, fzL_nil, fzL_cons, fzL_str, fzL_int, noC_sc, noC_lst, noC_tup, noC_dct, noCL_nil, noCL_cons, noCL_str, noCL_str2, noCL_int, Bool.and_self, Bool.and_true, Bool.true_and, List.append_nil, true_or, or_true, flat_str, flat_int, any_str, o_isiT, o_isiL, o_isiS, o_isiI, atI_0, atI_1, atI_2, atI_3, eqv_lst, eqv_tup, eqvL_nil, eqvL_cons, eqvL_str, eqv_str, eqS_int, ixN20, ixN21, fz_tup, Bool.false_and, Bool.and_false, o_posT, Int.cast_ofNat_Int, eq_self, dChain, dGin, dGix, o_gIn, o_gIx, o_mulI, o_mulS, dMake, dMethA, dMethL, dMethS, gDrop, slot0, o_insD, dRaise, dTryR, exM, dFld, pFl, dSfl, o_sflK, o_sflN, o_split, o_join, o_joinT, o_all, a1, st, fz1, l1]
    refine q _ _ ⟨i, acc', h9, rfl, ?_, ?_, by omega, h2⟩
    · have : leastAt i = if i = 2 ∨ i = 3 then 2 else 1 := by
        have : ∀ j : Fin 6, leastAt j.1 = if j.1 = 2 ∨ j.1 = 3 then 2 else 1 := by decide
        exact this ⟨i, by omega⟩
      rw [this]
      split
      · rename_i h; have := hm2 h; omega
      · omega
    · intro z
      have : ∀ j : Fin 6, leastAt j.1 ≠ 0 := by decide
      exact absurd z (this ⟨i, by omega⟩)
  have m2 : ∀ m : Nat, m ≤ 4 → -(2 ^ 62) ≤ ((m : Nat) : Int) ∧ ((m : Nat) : Int) < 2 ^ 62 := fun m h => by omega
  have t1 : ∀ m : Nat, ((m : Nat) : Int).toNat = m := fun m => rfl
  have k3 : n / 9 % 3 < 3 := Nat.mod_lt _ (by decide)
  simp only [pad, dNext, dSeq, dAsg, dFor, dEnum, dIt, dWhile, dIfS, dMS, dMA, dMN, dSub, dSfl, dRet, dRetV, dRetN, dRetT, dDrop, dBreak, dCont, dFz, fzS, dConsV, dCons, dNil, bCons, bNil, dVar, dC, dBin, dIx, dNeg, dCB, dMV, dTst, dAndT, dOrT, dNotT, dAnd, dOr, dNot, dIf, dLst, dLC, dLc, lcD, dYes, wipeD, dTup, dDct0, dLRev, dIsi, dSl, oNo, oSm, dCall, dCallL, gN, gTu, gsCons, gsNil, dRg1, dRg2, dRev, dZip, pVar, pIx, atP, getP, setP, unsetL, List.map_cons, List.map_nil, List.replicate_succ, List.replicate_zero, List.cons_append, List.nil_append, List.set_cons_zero, List.set_cons_succ, List.getElem?_cons_zero, List.getElem?_cons_succ, List.length_cons, List.length_nil, o_lt, o_ltS, o_gt, o_le, o_ge, o_add, o_addS, o_addL, o_addT, o_sub, o_mul, o_fdiv, o_mod, o_pow, o_eq, o_eqN, o_ne, o_neN, o_isB, o_isI, o_len, o_lenC, o_lenT, o_lenD, o_lenS, o_ix, o_ixC, o_ixT, o_ixS, o_ixDs, o_ixDi, o_put, o_inD, o_inDi, o_inL, o_inT, o_inS, o_idx, o_list, o_listC, o_listT, o_listD, o_tuple, o_tupleT, o_intI, o_intB, o_ord, o_str, o_max, o_min, o_isNo, o_tyL, o_tyT, o_tyD, o_tyS, o_tyI, o_sl, o_slC, o_slS, o_slT, cutG_map, o_lsD, o_lsC, o_it, o_itC, o_itT, o_itS, o_app, o_ext, o_ins, o_pop, o_rev, o_clr, o_pos, o_posS, Option.bind_some, Option.map_some, List.length_map, if_true, Bool.not_false, Bool.not_true, Bool.false_bne, Bool.true_bne,  safe_sc, safe_lstF, safe_scr, safe_tup, safe_f, true_and, and_true, Option.some.injEq, exists_eq_left', exists_eq_left, decide_true, decide_false, Bool.false_eq_true, Bool.true_eq_false, reduceIte, Nat.zero_add, fz_lst, fz_dct, fz_ins, fz_sc, fz_lstF, fz_scr, Nat.zero_le, Nat.reduceLeDiff, Nat.reduceAdd, Nat.reduceLT, Int.reduceLT, Int.reduceLE, and_self, frz_lst, frz_dct, frz_dctF, frzL_ints, frzL_strs, frz_lstF, frz_scr, frz_tup, frz_sc, frzL_nil, frzL_cons, frzL_str, frzL_int, fzL_nil, fzL_cons, fzL_str, fzL_int, noC_sc, noC_lst, noC_tup, noC_dct, noCL_nil, noCL_cons, noCL_str, noCL_str2, noCL_int, Bool.and_self, Bool.and_true, Bool.true_and, List.append_nil, true_or, or_true, flat_str, flat_int, any_str, o_isiT, o_isiL, o_isiS, o_isiI, atI_0, atI_1, atI_2, atI_3, eqv_lst, eqv_tup, eqvL_nil, eqvL_cons, eqvL_str, eqv_str, eqS_int, ixN20, ixN21, fz_tup, Bool.false_and, Bool.and_false, o_posT, Int.cast_ofNat_Int, eq_self, dChain, dGin, dGix, o_gIn, o_gIx, o_mulI, o_mulS, dMake, dMethA, dMethL, dMethS, gDrop, slot0, o_insD, dRaise, dTryR, exM, dFld, pFl, dSfl, o_sflK, o_sflN, o_split, o_join, o_joinT, o_all, eqS_int, m1, hn, e9, d5, d2, d3, e3, e4, e5, e6, a1]
  split
  · rename_i h5
    have h5' := of_decide_eq_true h5
    refine q _ _ ⟨i, [], h9, rfl, ?_, fun _ => rfl, by simp, fun _ z => by cases z⟩
    have : ∀ j : Fin 3, leastAt (j.1 + 6) = 0 := by decide
    have := this ⟨i - 6, by omega⟩
    simp only [show i - 6 + 6 = i by omega] at this
    rw [this]; exact Nat.zero_le _
  · rename_i h5
    have h5' : i ≤ 5 := Nat.not_lt.mp fun z => h5 (decide_eq_true z)
    clear hn e9 hi
    by_cases h2 : i = 2
    · rw [if_neg (by simp [h2])]
      exact ⟨(m2 _ (by omega)).1, (m2 _ (by omega)).2, fin _ _ (by omega) (by omega) (fun _ => by omega) h5'⟩
    · by_cases h3 : i = 3
      · rw [if_pos (by simp [h2]), if_neg (by simp [h3])]
        exact ⟨(m2 _ (by omega)).1, (m2 _ (by omega)).2, fin _ _ (by omega) (by omega) (fun _ => by omega) h5'⟩
      · rw [if_pos (by simp [h2]), if_pos (by simp [h3])]
        exact ⟨(m2 _ (by omega)).1, (m2 _ (by omega)).2, fin _ _ (by omega) (by omega) (fun z => absurd z (by omega)) h5'⟩
end LW

set_option Elab.async false
set_option linter.all false
set_option maxRecDepth 100000
set_option maxHeartbeats 2000000
namespace LW
open L2 DL KM TL
/-! ## lines as texts -/
theorem join_len (S : Txt) : ∀ ps : List Txt, (joinL S ps).length ≤ (ps.map (·.length)).sum + ps.length * S.length
  | [] => by simp [joinL]
  | [p] => by simp [joinL]
  | p :: q :: r => by
    have ih := join_len S (q :: r)
    have e : joinL S (p :: q :: r) = p ++ (S ++ joinL S (q :: r)) := rfl
    rw [e, List.length_append, List.length_append]
    simp only [List.map_cons, List.sum_cons, List.length_cons, Nat.succ_mul] at ih ⊢
    omega
theorem join_mem {S : Txt} {c : Nat} : ∀ {ps : List Txt}, c ∈ joinL S ps → c ∈ S ∨ ∃ p ∈ ps, c ∈ p
  | [], h => by cases h
  | [p], h => .inr ⟨p, List.mem_cons_self, h⟩
  | p :: q :: r, h => by
    have e : joinL S (p :: q :: r) = p ++ (S ++ joinL S (q :: r)) := rfl
    rw [e] at h
    rcases List.mem_append.mp h with z | z
    · exact .inr ⟨p, List.mem_cons_self, z⟩
    · rcases List.mem_append.mp z with z | z
      · exact .inl z
      · rcases join_mem z with z | ⟨p', h1, h2⟩
        · exact .inl z
        · exact .inr ⟨p', List.mem_cons_of_mem _ h1, h2⟩
theorem sum_le (m : Nat) : ∀ ps : List Txt, (∀ p ∈ ps, p.length ≤ m) → (ps.map (·.length)).sum ≤ ps.length * m
  | [], _ => by simp
  | p :: r, h => by
    have ih := sum_le m r fun x hx => h x (List.mem_cons_of_mem _ hx)
    have := h p List.mem_cons_self
    simp only [List.map_cons, List.sum_cons, List.length_cons, Nat.succ_mul]
    omega
def shortT (m : Nat) (t : Txt) : Prop := t.length ≤ m
theorem words_plain {l : Ln} (h : l.ok) : ∀ p ∈ l.words, plainT p := by
  have o1 : plainT wOrder ∧ plainT wOf := by unfold plainT okT; decide
  cases l with
  | beg nm el =>
    cases el with
    | none =>
      intro p hp
      rcases List.mem_cons.mp hp with z | z
      · rw [z]; exact o1.1
      · rw [List.mem_singleton.mp z]; exact h.2
    | some e =>
      intro p hp
      simp only [Ln.words, List.mem_cons, List.not_mem_nil, or_false] at hp
      rcases hp with z | z | z | z
      · rw [z]; exact o1.1
      · rw [z]; exact h.2.1
      · rw [z]; exact o1.2
      · rw [z]; exact h.2.2.2
  | rule w ps =>
    intro p hp
    rcases List.mem_cons.mp hp with z | z
    · rw [z]; exact h.2.1
    · exact (h.2.2.2.1 p z).2
theorem line_okT {l : Ln} (h : l.ok) : okT l.line := fun c hc => by
  rcases join_mem hc with z | ⟨p, h1, h2⟩
  · rw [List.mem_singleton.mp z]; decide
  · exact (words_plain h p h1).2.2.2 c h2
theorem line_10 {l : Ln} (h : l.ok) : 10 ∉ l.line := fun hc => by
  rcases join_mem hc with z | ⟨p, h1, h2⟩
  · cases List.mem_singleton.mp z
  · exact (words_plain h p h1).2.2.1 h2
theorem line_ne {l : Ln} (h : l.ok) : l.line ≠ [] := by
  cases l with
  | beg nm el => cases el <;> exact fun z => by cases z
  | rule w ps =>
    intro z
    have hw : w ≠ [] := fun e => by
      obtain ⟨least, h3, _⟩ := h.2.2.1
      rw [e] at h3
      have : lkT tab_LEAST [] = none := by decide
      rw [this] at h3; cases h3
    cases ps with
    | nil => exact hw z
    | cons p r => exact hw (List.append_eq_nil_iff.mp (show w ++ _ = [] from z)).1
theorem beg_line_none (nm : Txt) : (Ln.beg nm none).line = [111, 114, 100, 101, 114, 32] ++ nm := rfl
theorem beg_line_some (nm e : Txt) : (Ln.beg nm (some e)).line = [111, 114, 100, 101, 114, 32] ++ nm ++ [32, 111, 102, 32] ++ e := by
  rw [List.append_assoc, List.append_assoc]; rfl
/-! ## a book's lines from the left -/
inductive Built : List Ln → Bk → Option Txt → Prop
  | nil : Built [] ([], []) none
  | beg {ls : List Ln} {E : Els} {O : Owns} {c : Option Txt} {nm : Txt} {el : Option Txt} : Built ls (E, O) c → nm ∉ E.map (·.1) → nm ∉ O.map (·.1) → (E.map (·.1)).Nodup → E.length ≤ 1000 → O.length ≤ 1000 → (Ln.beg nm el).ok → (Ln.beg nm el).line.length ≤ 1000000 →
      Built (ls ++ [.beg nm el]) (E ++ [(nm, el)], O ++ [(nm, [])]) (some nm)
  | rule {ls : List Ln} {E : Els} {O : Owns} {c w : Txt} {rs : List Rl} {ps : List Txt} : Built ls (E, O ++ [(c, rs)]) (some c) → c ∉ O.map (·.1) → (Ln.rule w ps).ok → (Ln.rule w ps).line.length ≤ 1000000 → rs.length ≤ 1000 →
      Built (ls ++ [.rule w ps]) (E, O ++ [(c, rs ++ [w :: ps])]) (some c)
theorem Built.run {ls : List Ln} {b : Bk} {c : Option Txt} (h : Built ls b c) : ∀ {r : List Ln} {b' : Bk}, Run b c r b' → Run ([], []) none (ls ++ r) b' := by
  induction h with
  | nil => exact fun h => h
  | beg h h1 h2 h3 h4 h5 h6 h7 ih =>
    intro r b' hr
    rw [List.append_assoc]
    exact ih (.beg h1 h2 h3 h4 h5 h6 h7 hr)
  | rule h h1 h2 h3 h4 ih =>
    intro r b' hr
    rw [List.append_assoc]
    exact ih (.rule h1 h2 h3 h4 hr)
theorem Built.run' {ls : List Ln} {b : Bk} {c : Option Txt} (h : Built ls b c) : Run ([], []) none ls b := by
  have := h.run (.nil b c)
  rwa [List.append_nil] at this
theorem Built.ok {ls : List Ln} {b : Bk} {c : Option Txt} (h : Built ls b c) : ∀ l ∈ ls, l.ok := by
  induction h with
  | nil => exact fun _ z => by cases z
  | beg h h1 h2 h3 h4 h5 h6 h7 ih => exact fun l hl => (List.mem_append.mp hl).elim (ih l) fun z => by rw [List.mem_singleton.mp z]; exact h6
  | rule h h1 h2 h3 h4 ih => exact fun l hl => (List.mem_append.mp hl).elim (ih l) fun z => by rw [List.mem_singleton.mp z]; exact h2
/-- a drawn rule is a line -/
theorem drawn_ok {sm : List Txt} (hs : ∀ t ∈ sm, PieceOk t) {r : Rl} (h : DrawnRule sm r) : ∃ w ps, r = w :: ps ∧ (Ln.rule w ps).ok ∧ Rl.fit r ∧ w.length ≤ 10 ∧ ps.length ≤ 4 ∧ ∀ p ∈ ps, p ∈ sm := by
  obtain ⟨i, ps, h1, rfl, h2, h3, h4, h5⟩ := h
  obtain ⟨f1, f2, f3, f4, f5⟩ := word_facts i h1
  have fl : (ruleWords.getD i []).length ≤ 10 := by
    have : ∀ j : Fin 9, (ruleWords.getD j.1 []).length ≤ 10 := by decide
    exact this ⟨i, h1⟩
  refine ⟨_, ps, rfl, ⟨f1, f2, ⟨_, f3, h2, h3⟩, fun p hp => hs p (h5 p hp), by omega⟩, ⟨⟨_, ps, rfl, fun z => ?_, fun z => ?_, by omega⟩, fun p hp => ?_⟩, fl, h4, h5⟩
  · intro e
    have := f4 z; subst this; rw [e] at h2; exact absurd h2 (by decide)
  · intro e
    have := f5 z; subst this; rw [e] at h2; exact absurd h2 (by decide)
  · rcases List.mem_cons.mp hp with z | z
    · rw [z]; exact f2.2.2.2
    · exact (hs p (h5 p z)).2.2.2.2
end LW

set_option Elab.async false
set_option linter.all false
set_option maxRecDepth 100000
set_option maxHeartbeats 2000000
namespace LW
open L2 DL KM TL
abbrev lnD (ls : List Ln) : D := .nd (.lst true) (ls.map fun l => D.str l.line)
theorem ln_snoc (ls : List Ln) (l : Ln) (t : Txt) (h : t = l.line) : D.nd (.lst true) ((ls.map fun l => D.str l.line) ++ [D.sc (.str t)]) = lnD (ls ++ [l]) := by subst h; simp
theorem ln_okE {ls : List Ln} (h : ∀ l ∈ ls, l.ok) : okE 8 (lnD ls) = true := okE_lst fun x hx => by
  obtain ⟨l, hl, rfl⟩ := List.mem_map.mp hx
  exact okE_str (line_okT (h l hl))
theorem ln_nil (ls : List Ln) : eqvL (ls.map fun l => D.str l.line) [] = decide (ls = []) := by cases ls <;> simp [eqvL]
theorem lines_beg (Dd : ED) {nms sm : List Txt} {ls : List Ln} {Ow : Owns} {k : Nat} {z : Int} (c0 c2 c7 c8 c9 : Option D) (hn : nms.length = 60) (hk : k < 60) (hnm : ∀ t ∈ nms, isName t = true ∧ plainT t) (h8 : ∀ t ∈ nms, t.length ≤ 8)
    (hc : ls = [] ∨ (z * 48271 % 2147483647 % 5 = 1)) (hok : ∀ l ∈ ls, l.ok) (hll : ls.length ≤ 1000) (hOw : nms.getD k [] ∉ Ow.map (·.1)) (hOl : Ow.length ≤ 1000)
    (q : ∀ (el : Option Txt) c7 c8 c9, (∀ e, el = some e → e ∈ nms) → Dd.nx [c0, some (gDl' false nms), c2, some (lnD (ls ++ [.beg (nms.getD k []) el])), some (ownD true true (Ow ++ if el = none then [(nms.getD k [], [])] else [])), some (gDl' true (nms.take k ++ [nms.getD k []])), some (.int z), c7, c8, c9]) :
    lb__law_lines_0 Dd [c0, some (gDl' false nms), c2, some (lnD ls), some (ownD true true Ow), some (gDl' true (nms.take k)), some (.int z), c7, c8, c9] := by
  obtain ⟨n, hn'⟩ : ∃ n : Nat, z * 48271 % 2147483647 = (n : Int) := ⟨(z * 48271 % 2147483647).toNat, (Int.toNat_of_nonneg (Int.emod_nonneg _ (by decide))).symm⟩
  have m1 : -(2 ^ 64) < (48271 : Int) ∧ (48271 : Int) < 2 ^ 64 := by decide
  have ok0 : okE 8 (.nd (.lst true) []) = true := okE_lst fun _ z => by cases z
  have ok1 := ln_okE hok
  have e5 : decide (((n : Nat) : Int) % 5 = 1) = decide (n % 5 = 1) := decide_eq_decide.mpr (by omega)
  have e54 : decide (((n : Nat) : Int) / 5 % 4 = 1) = decide (n / 5 % 4 = 1) := decide_eq_decide.mpr (by omega)
  have e20 : ((n : Nat) : Int) / 20 % 60 = ((n / 20 % 60 : Nat) : Int) := rfl
  have lk : (nms.take k).length = k := by rw [List.length_take]; omega
  have k60 : decide (((k : Nat) : Int) < 60) = true := decide_eq_true (by omega)
  have gd : ∀ i, i < 60 → atI (nms.map D.str) ((i : Nat) : Int) = some (.str (nms.getD i [])) := fun i hi => atI_nat (by rw [List.getElem?_map, List.getD_eq_getElem?_getD, List.getElem?_eq_getElem (by omega)]; rfl)
  have a1 := gd k hk
  have a2 := gd (n / 20 % 60) (Nat.mod_lt _ (by decide))
  have mem : ∀ i, i < 60 → nms.getD i [] ∈ nms := fun i hi => by rw [List.getD_eq_getElem?_getD, List.getElem?_eq_getElem (by omega)]; exact List.getElem_mem _
  have l8 := h8 _ (mem k hk)
  have l8' := h8 _ (mem (n / 20 % 60) (Nat.mod_lt _ (by decide)))
  have mem2 := mem (n / 20 % 60) (Nat.mod_lt _ (by decide))
  generalize nms.getD (n / 20 % 60) [] = el at a2 l8' mem2
  have l1 : k < 1000000 := by omega
  have l2 : ls.length < 1000000 := by omega
  have po : posOf (Ow.map fun x => Sum.inr x.1) (Sum.inr (nms.getD k []) : DK) = none := pos_no hOw
  have l3 : Ow.length < 1000000 := by omega
  generalize nms.getD k [] = nm at a1 l8 po q hOw
  simp only [e_lb__law_lines_0, pad, dNext, dSeq, dAsg, dFor, dEnum, dIt, dWhile, dIfS, dMS, dMA, dMN, dSub, dSfl, dRet, dRetV, dRetN, dRetT, dDrop, dBreak, dCont, dFz, fzS, dConsV, dCons, dNil, bCons, bNil, dVar, dC, dBin, dIx, dNeg, dCB, dMV, dTst, dAndT, dOrT, dNotT, dAnd, dOr, dNot, dIf, dLst, dLC, dLc, lcD, dYes, wipeD, dTup, dDct0, dLRev, dIsi, dSl, oNo, oSm, dCall, dCallL, gN, gTu, gsCons, gsNil, dRg1, dRg2, dRev, dZip, pVar, pIx, atP, getP, setP, unsetL, List.map_cons, List.map_nil, List.replicate_succ, List.replicate_zero, List.cons_append, List.nil_append, List.set_cons_zero, List.set_cons_succ, List.getElem?_cons_zero, List.getElem?_cons_succ, List.length_cons, List.length_nil, o_lt, o_ltS, o_gt, o_le, o_ge, o_add, o_addS, o_addL, o_addT, o_sub, o_mul, o_fdiv, o_mod, o_pow, o_eq, o_eqN, o_ne, o_neN, o_isB, o_isI, o_len, o_lenC, o_lenT, o_lenD, o_lenS, o_ix, o_ixC, o_ixT, o_ixS, o_ixDs, o_ixDi, o_put, o_inD, o_inDi, o_inL, o_inT, o_inS, o_idx, o_list, o_listC, o_listT, o_listD, o_tuple, o_tupleT, o_intI, o_intB, o_ord, o_str, o_max, o_min, o_isNo, o_tyL, o_tyT, o_tyD, o_tyS, o_tyI, o_sl, o_slC, o_slS, o_slT, cutG_map, o_lsD, o_lsC, o_it, o_itC, o_itT, o_itS, o_app, o_ext, o_ins, o_pop, o_rev, o_clr, o_pos, o_posS, Option.bind_some, Option.map_some, List.length_map, if_true, Bool.not_false, Bool.not_true, Bool.false_bne, Bool.true_bne,  safe_sc, safe_lstF, safe_scr, safe_tup, safe_f, true_and, and_true, Option.some.injEq, exists_eq_left', exists_eq_left, decide_true, decide_false, Bool.false_eq_true, Bool.true_eq_false, reduceIte, Nat.zero_add, fz_lst, fz_dct, fz_ins, fz_sc, fz_lstF, fz_scr, Nat.zero_le, Nat.reduceLeDiff, Nat.reduceAdd, Nat.reduceLT, Int.reduceLT, Int.reduceLE, and_self, frz_lst, frz_dct, frz_dctF, frzL_ints, frzL_strs, frz_lstF, frz_scr, frz_tup, frz_sc, frzL_nil, frzL_cons, frzL_str, frzL_int, fzL_nil, fzL_cons, fzL_str, fzL_int, noC_sc, noC_lst, noC_tup, noC_dct, noCL_nil, noCL_cons, noCL_str, noCL_str2, noCL_int, Bool.and_self, Bool.and_true, Bool.true_and, List.append_nil, true_or, or_true, flat_str, flat_int, any_str, o_isiT, o_isiL, o_isiS, o_isiI, atI_0, atI_1, atI_2, atI_3, eqv_lst, eqv_tup, eqvL_nil, eqvL_cons, eqvL_str, eqv_str, eqS_int, ixN20, ixN21, fz_tup, Bool.false_and, Bool.and_false, o_posT, Int.cast_ofNat_Int, eq_self, dChain, dGin, dGix, o_gIn, o_gIx, o_mulI, o_mulS, dMake, dMethA, dMethL, dMethS, gDrop, slot0, o_insD, dRaise, dTryR, exM, dFld, pFl, dSfl, o_sflK, o_sflN, o_split, o_join, o_joinT, o_all, eqS_int, hn', m1, e5, k60, lk, ok0, ok1, ln_nil, a1, l1, e54, l2, e20, a2]
  rw [ite_or2 (by
    rcases hc with z | z
    · exact .inl (decide_eq_true z)
    · rw [hn'] at z; exact .inr (decide_eq_true (by omega)))]
  split
  · refine ⟨by first | omega | (simp; omega), by first | omega | (simp; omega), by first | omega | (simp; omega), ?_⟩
    rw [snoc_strs, ln_snoc ls (.beg nm (some el)) _ (by rw [beg_line_some]; simp)]
    have := q (some el) (some (.int ((n : Nat) : Int))) (some (.str nm)) c9 (fun e h => by cases h; exact mem2)
    rw [if_neg (by simp), List.append_nil] at this
    exact this
  · refine ⟨by first | omega | (simp; omega), ?_⟩
    rw [o_putNs po]
    rw [snoc_strs, ln_snoc ls (.beg nm none) _ (by rw [beg_line_none]; simp)]
    have := q none (some (.int ((n : Nat) : Int))) (some (.str nm)) c9 (fun e h => by cases h)
    rw [if_pos rfl] at this
    refine ⟨by rw [List.length_map]; exact l3, ?_⟩
    have e : ownD true true (Ow ++ [(nm, [])]) = D.nd (Kind.dct true (Ow.map (fun x => Sum.inr x.1) ++ [Sum.inr nm])) (Ow.map (fun x => rusD true x.2) ++ [.nd (.lst true) []]) := by simp
    rw [e] at this
    exact this
theorem lines_rule (Dd : ED) {nms sm : List Txt} {ls : List Ln} {Ow : Owns} {bg : List Txt} {nm : Txt} {z : Int} (c0 c7 c8 c9 : Option D) (hs : ∀ t ∈ sm, PieceOk t) (h0 : 0 < sm.length) (hsl : sm.length ≤ 1000)
    (h2 : ∀ t ∈ sm, t.length ≤ 2) (hc : ls ≠ []) (hc5 : ¬ (z * 48271 % 2147483647 % 5 = 1 ∧ bg.length + 1 < 60)) (hok : ∀ l ∈ ls, l.ok) (hll : ls.length ≤ 1000) (hol : ∀ x ∈ Ow, x.2.length ≤ 1000)
    (hin : nm ∉ Ow.map (·.1) ∨ ∃ Ow0 rs, Ow = Ow0 ++ [(nm, rs)] ∧ nm ∉ Ow0.map (·.1))
    (q : ∀ (w : Txt) (ps : List Txt) (Ow' : Owns) c7 c9, (Ln.rule w ps).ok → Rl.fit (w :: ps) → (Ln.rule w ps).line.length ≤ 100 → ps.length ≤ 4 → (nm ∉ Ow.map (·.1) → Ow' = Ow) → (∀ Ow0 rs, Ow = Ow0 ++ [(nm, rs)] → Ow' = Ow0 ++ [(nm, rs ++ [w :: ps].filter fun r => !isForget r)]) →
      Dd.nx [c0, some (gDl' false nms), some (gDl' false sm), some (lnD (ls ++ [.rule w ps])), some (ownD true true Ow'), some (gDl' true (bg ++ [nm])), some (.int z), c7, c8, c9]) :
    lb__law_lines_0 Dd [c0, some (gDl' false nms), some (gDl' false sm), some (lnD ls), some (ownD true true Ow), some (gDl' true (bg ++ [nm])), some (.int z), c7, c8, c9] := by
  obtain ⟨n, hn'⟩ : ∃ n : Nat, z * 48271 % 2147483647 = (n : Int) := ⟨(z * 48271 % 2147483647).toNat, (Int.toNat_of_nonneg (Int.emod_nonneg _ (by decide))).symm⟩
  have m1 : -(2 ^ 64) < (48271 : Int) ∧ (48271 : Int) < 2 ^ 64 := by decide
  have ok0 : okE 8 (.nd (.lst true) []) = true := okE_lst fun _ z => by cases z
  have ok1 := ln_okE hok
  have lb : (((bg ++ [nm]).length : Nat) : Int) = ((bg.length + 1 : Nat) : Int) := by simp
  have l2 : ls.length < 1000000 := by omega
  have ft : frz (gDl' false sm) = gDl' false sm := frz_lstF
  have eb : ∀ b : Bool, (false ^^ b) = b := fun b => by cases b <;> rfl
  simp only [e_lb__law_lines_0, pad, dNext, dSeq, dAsg, dFor, dEnum, dIt, dWhile, dIfS, dMS, dMA, dMN, dSub, dSfl, dRet, dRetV, dRetN, dRetT, dDrop, dBreak, dCont, dFz, fzS, dConsV, dCons, dNil, bCons, bNil, dVar, dC, dBin, dIx, dNeg, dCB, dMV, dTst, dAndT, dOrT, dNotT, dAnd, dOr, dNot, dIf, dLst, dLC, dLc, lcD, dYes, wipeD, dTup, dDct0, dLRev, dIsi, dSl, oNo, oSm, dCall, dCallL, gN, gTu, gsCons, gsNil, dRg1, dRg2, dRev, dZip, pVar, pIx, atP, getP, setP, unsetL, List.map_cons, List.map_nil, List.replicate_succ, List.replicate_zero, List.cons_append, List.nil_append, List.set_cons_zero, List.set_cons_succ, List.getElem?_cons_zero, List.getElem?_cons_succ, List.length_cons, List.length_nil, o_lt, o_ltS, o_gt, o_le, o_ge, o_add, o_addS, o_addL, o_addT, o_sub, o_mul, o_fdiv, o_mod, o_pow, o_eq, o_eqN, o_ne, o_neN, o_isB, o_isI, o_len, o_lenC, o_lenT, o_lenD, o_lenS, o_ix, o_ixC, o_ixT, o_ixS, o_ixDs, o_ixDi, o_put, o_inD, o_inDi, o_inL, o_inT, o_inS, o_idx, o_list, o_listC, o_listT, o_listD, o_tuple, o_tupleT, o_intI, o_intB, o_ord, o_str, o_max, o_min, o_isNo, o_tyL, o_tyT, o_tyD, o_tyS, o_tyI, o_sl, o_slC, o_slS, o_slT, cutG_map, o_lsD, o_lsC, o_it, o_itC, o_itT, o_itS, o_app, o_ext, o_ins, o_pop, o_rev, o_clr, o_pos, o_posS, Option.bind_some, Option.map_some, List.length_map, if_true, Bool.not_false, Bool.not_true, Bool.false_bne, Bool.true_bne,  safe_sc, safe_lstF, safe_scr, safe_tup, safe_f, true_and, and_true, Option.some.injEq, exists_eq_left', exists_eq_left, decide_true, decide_false, Bool.false_eq_true, Bool.true_eq_false, reduceIte, Nat.zero_add, fz_lst, fz_dct, fz_ins, fz_sc, fz_lstF, fz_scr, Nat.zero_le, Nat.reduceLeDiff, Nat.reduceAdd, Nat.reduceLT, Int.reduceLT, Int.reduceLE, and_self, frz_lst, frz_dct, frz_dctF, frzL_ints, frzL_strs, frz_lstF, frz_scr, frz_tup, frz_sc, frzL_nil, frzL_cons, frzL_str, frzL_int, fzL_nil, fzL_cons, fzL_str, fzL_int, noC_sc, noC_lst, noC_tup, noC_dct, noCL_nil, noCL_cons, noCL_str, noCL_str2, noCL_int, Bool.and_self, Bool.and_true, Bool.true_and, List.append_nil, true_or, or_true, flat_str, flat_int, any_str, o_isiT, o_isiL, o_isiS, o_isiI, atI_0, atI_1, atI_2, atI_3, eqv_lst, eqv_tup, eqvL_nil, eqvL_cons, eqvL_str, eqv_str, eqS_int, ixN20, ixN21, fz_tup, Bool.false_and, Bool.and_false, o_posT, Int.cast_ofNat_Int, eq_self, dChain, dGin, dGix, o_gIn, o_gIx, o_mulI, o_mulS, dMake, dMethA, dMethL, dMethS, gDrop, slot0, o_insD, dRaise, dTryR, exM, dFld, pFl, dSfl, o_sflK, o_sflN, o_split, o_join, o_joinT, o_all, eqS_int, hn', m1, ok0, ok1, ln_nil, l2, ft, List.map_append, atI_end, has_key, eb]
  rw [ite_no3 (by simpa using hc) (fun a b => by
    have a' := of_decide_eq_true a
    have b' := of_decide_eq_true b
    rw [List.length_append, List.length_singleton, List.length_map] at b'
    exact hc5 ⟨by rw [hn']; omega, by omega⟩)]
  refine rule_d h0 hsl fun r env hr => ?_
  obtain ⟨w, ps, rfl, g1, g2, g3, g4, g5⟩ := drawn_ok hs hr
  have l10 : ((w :: ps).map (·.length)).sum ≤ 10 + 4 * 2 := by
    have := sum_le 2 ps fun p hp => h2 p (g5 p hp)
    rw [List.map_cons, List.sum_cons]
    omega
  have jl : (joinL [32] (w :: ps)).length ≤ 30 := by
    have := join_len [32] (w :: ps)
    simp only [List.length_cons, List.length_nil] at this ⊢
    omega
  rw [o_joinT]
  refine ⟨by simp only [List.length_cons, List.length_nil]; omega, ?_⟩
  have eS : ((ls.map fun l => D.str l.line) ++ [D.str (joinL [32] (w :: ps))]) = (ls ++ [Ln.rule w ps]).map fun l => D.str l.line := by simp [Ln.line, Ln.words]
  rw [eS]
  have key := fun Ow' => q w ps Ow' (some (.int ((n : Nat) : Int))) (some (ruD (w :: ps))) g1 g2 (by show (joinL [32] (w :: ps)).length ≤ 100; omega) g4
  rcases hin with h | ⟨Ow0, rs, e, h⟩
  · rw [if_neg (by simpa using h)]
    exact key Ow (fun _ => rfl) (fun Ow0 rs e => absurd (by rw [e]; simp) h)
  · have hi : nm ∈ Ow.map (·.1) := by rw [e]; simp
    have rl : rs.length < 1000000 := by have := hol (nm, rs) (by rw [e]; simp); simp only at this; omega
    rw [if_pos (decide_eq_true hi)]
    simp only [pad, dNext, dSeq, dAsg, dFor, dEnum, dIt, dWhile, dIfS, dMS, dMA, dMN, dSub, dSfl, dRet, dRetV, dRetN, dRetT, dDrop, dBreak, dCont, dFz, fzS, dConsV, dCons, dNil, bCons, bNil, dVar, dC, dBin, dIx, dNeg, dCB, dMV, dTst, dAndT, dOrT, dNotT, dAnd, dOr, dNot, dIf, dLst, dLC, dLc, lcD, dYes, wipeD, dTup, dDct0, dLRev, dIsi, dSl, oNo, oSm, dCall, dCallL, gN, gTu, gsCons, gsNil, dRg1, dRg2, dRev, dZip, pVar, pIx, atP, getP, setP, unsetL, List.map_cons, List.map_nil, List.replicate_succ, List.replicate_zero, List.cons_append, List.nil_append, List.set_cons_zero, List.set_cons_succ, List.getElem?_cons_zero, List.getElem?_cons_succ, List.length_cons, List.length_nil, o_lt, o_ltS, o_gt, o_le, o_ge, o_add, o_addS, o_addL, o_addT, o_sub, o_mul, o_fdiv, o_mod, o_pow, o_eq, o_eqN, o_ne, o_neN, o_isB, o_isI, o_len, o_lenC, o_lenT, o_lenD, o_lenS, o_ix, o_ixC, o_ixT, o_ixS, o_ixDs, o_ixDi, o_put, o_inD, o_inDi, o_inL, o_inT, o_inS, o_idx, o_list, o_listC, o_listT, o_listD, o_tuple, o_tupleT, o_intI, o_intB, o_ord, o_str, o_max, o_min, o_isNo, o_tyL, o_tyT, o_tyD, o_tyS, o_tyI, o_sl, o_slC, o_slS, o_slT, cutG_map, o_lsD, o_lsC, o_it, o_itC, o_itT, o_itS, o_app, o_ext, o_ins, o_pop, o_rev, o_clr, o_pos, o_posS, Option.bind_some, Option.map_some, List.length_map, if_true, Bool.not_false, Bool.not_true, Bool.false_bne, Bool.true_bne,  safe_sc, safe_lstF, safe_scr, safe_tup, safe_f, true_and, and_true, Option.some.injEq, exists_eq_left', exists_eq_left, decide_true, decide_false, Bool.false_eq_true, Bool.true_eq_false, reduceIte, Nat.zero_add, fz_lst, fz_dct, fz_ins, fz_sc, fz_lstF, fz_scr, Nat.zero_le, Nat.reduceLeDiff, Nat.reduceAdd, Nat.reduceLT, Int.reduceLT, Int.reduceLE, and_self, frz_lst, frz_dct, frz_dctF, frzL_ints, frzL_strs, frz_lstF, frz_scr, frz_tup, frz_sc, frzL_nil, frzL_cons, frzL_str, frzL_int, fzL_nil, fzL_cons, fzL_str, fzL_int, noC_sc, noC_lst, noC_tup, noC_dct, noCL_nil, noCL_cons, noCL_str, noCL_str2, noCL_int, Bool.and_self, Bool.and_true, Bool.true_and, List.append_nil, true_or, or_true, flat_str, flat_int, any_str, o_isiT, o_isiL, o_isiS, o_isiI, atI_0, atI_1, atI_2, atI_3, eqv_lst, eqv_tup, eqvL_nil, eqvL_cons, eqvL_str, eqv_str, eqS_int, ixN20, ixN21, fz_tup, Bool.false_and, Bool.and_false, o_posT, Int.cast_ofNat_Int, eq_self, dChain, dGin, dGix, o_gIn, o_gIx, o_mulI, o_mulS, dMake, dMethA, dMethL, dMethS, gDrop, slot0, o_insD, dRaise, dTryR, exM, dFld, pFl, dSfl, o_sflK, o_sflN, o_split, o_join, o_joinT, o_all, eqS_str]
    by_cases hw : w = wForget
    · rw [show decide (w = [102, 111, 114, 103, 101, 116]) = true from decide_eq_true hw, if_neg (by decide)]
      refine key Ow (fun _ => rfl) (fun Ow1 rs1 e1 => ?_)
      have : [w :: ps].filter (fun r => !isForget r) = [] := by rw [List.filter_cons_of_neg (by rw [isForget_cons, decide_eq_true hw]; decide)]; rfl
      rw [this, List.append_nil]; exact e1
    · rw [show decide (w = [102, 111, 114, 103, 101, 116]) = false from decide_eq_false hw, if_pos (by decide)]
      have hf : [w :: ps].filter (fun r => !isForget r) = [w :: ps] := by rw [List.filter_cons_of_pos (by rw [isForget_cons, decide_eq_false hw]; decide)]; rfl
      subst e
      have p1 : posOf ((Ow0 ++ [(nm, rs)]).map fun x => Sum.inr x.1) (Sum.inr nm : DK) = some Ow0.length := by rw [List.map_append]; exact pos_last h
      have p2 : ((Ow0 ++ [(nm, rs)]).map fun x => rusD true x.2)[Ow0.length]? = some (rusD true rs) := by simp
      have p3 : ((Ow0 ++ [(nm, rs)]).map fun x => rusD true x.2).set Ow0.length (rusD true (rs ++ [w :: ps])) = (Ow0 ++ [(nm, rs ++ [w :: ps])]).map fun x => rusD true x.2 := by simp
      have fzr : fzL (ps.map D.str) = true := fzL_str ps
      refine ⟨Ow0.length, p1, ?_⟩
      have k2 := key (Ow0 ++ [(nm, rs ++ [w :: ps])]) (fun z => absurd hi z) (fun Ow1 rs1 e1 => by
        obtain ⟨a, b⟩ := List.append_inj' e1 rfl
        cases b
        rw [a, hf])
      have k3 : ownD true true (Ow0 ++ [(nm, rs ++ [w :: ps])]) = D.nd (Kind.dct true ((Ow0 ++ [(nm, rs)]).map fun x => Sum.inr x.1)) (((Ow0 ++ [(nm, rs)]).map fun x => rusD true x.2).set Ow0.length (rusD true (rs ++ [w :: ps]))) := by rw [p3]; simp
      rw [k3] at k2
      simp only [p2, Option.bind_some, pad, dNext, dSeq, dAsg, dFor, dEnum, dIt, dWhile, dIfS, dMS, dMA, dMN, dSub, dSfl, dRet, dRetV, dRetN, dRetT, dDrop, dBreak, dCont, dFz, fzS, dConsV, dCons, dNil, bCons, bNil, dVar, dC, dBin, dIx, dNeg, dCB, dMV, dTst, dAndT, dOrT, dNotT, dAnd, dOr, dNot, dIf, dLst, dLC, dLc, lcD, dYes, wipeD, dTup, dDct0, dLRev, dIsi, dSl, oNo, oSm, dCall, dCallL, gN, gTu, gsCons, gsNil, dRg1, dRg2, dRev, dZip, pVar, pIx, atP, getP, setP, unsetL, List.map_cons, List.map_nil, List.replicate_succ, List.replicate_zero, List.cons_append, List.nil_append, List.set_cons_zero, List.set_cons_succ, List.getElem?_cons_zero, List.getElem?_cons_succ, List.length_cons, List.length_nil, o_lt, o_ltS, o_gt, o_le, o_ge, o_add, o_addS, o_addL, o_addT, o_sub, o_mul, o_fdiv, o_mod, o_pow, o_eq, o_eqN, o_ne, o_neN, o_isB, o_isI, o_len, o_lenC, o_lenT, o_lenD, o_lenS, o_ix, o_ixC, o_ixT, o_ixS, o_ixDs, o_ixDi, o_put, o_inD, o_inDi, o_inL, o_inT, o_inS, o_idx, o_list, o_listC, o_listT, o_listD, o_tuple, o_tupleT, o_intI, o_intB, o_ord, o_str, o_max, o_min, o_isNo, o_tyL, o_tyT, o_tyD, o_tyS, o_tyI, o_sl, o_slC, o_slS, o_slT, cutG_map, o_lsD, o_lsC, o_it, o_itC, o_itT, o_itS, o_app, o_ext, o_ins, o_pop, o_rev, o_clr, o_pos, o_posS, Option.bind_some, Option.map_some, List.length_map, if_true, Bool.not_false, Bool.not_true, Bool.false_bne, Bool.true_bne,  safe_sc, safe_lstF, safe_scr, safe_tup, safe_f, true_and, and_true, Option.some.injEq, exists_eq_left', exists_eq_left, decide_true, decide_false, Bool.false_eq_true, Bool.true_eq_false, reduceIte, Nat.zero_add, fz_lst, fz_dct, fz_ins, fz_sc, fz_lstF, fz_scr, Nat.zero_le, Nat.reduceLeDiff, Nat.reduceAdd, Nat.reduceLT, Int.reduceLT, Int.reduceLE, and_self, frz_lst, frz_dct, frz_dctF, frzL_ints, frzL_strs, frz_lstF, frz_scr, frz_tup, frz_sc, frzL_nil, frzL_cons, frzL_str, frzL_int, fzL_nil, fzL_cons, fzL_str, fzL_int, noC_sc, noC_lst, noC_tup, noC_dct, noCL_nil, noCL_cons, noCL_str, noCL_str2, noCL_int, Bool.and_self, Bool.and_true, Bool.true_and, List.append_nil, true_or, or_true, flat_str, flat_int, any_str, o_isiT, o_isiL, o_isiS, o_isiI, atI_0, atI_1, atI_2, atI_3, eqv_lst, eqv_tup, eqvL_nil, eqvL_cons, eqvL_str, eqv_str, eqS_int, ixN20, ixN21, fz_tup, Bool.false_and, Bool.and_false, o_posT, Int.cast_ofNat_Int, eq_self, dChain, dGin, dGix, o_gIn, o_gIx, o_mulI, o_mulS, dMake, dMethA, dMethL, dMethS, gDrop, slot0, o_insD, dRaise, dTryR, exM, dFld, pFl, dSfl, o_sflK, o_sflN, o_split, o_join, o_joinT, o_all, fzr, rl]
      rw [rus_snoc]
      exact k2
end LW

set_option Elab.async false
set_option linter.all false
set_option maxRecDepth 100000
set_option maxHeartbeats 2000000
namespace LW
open L2 DL KM TL
def noF (rs : List Rl) : List Rl := rs.filter fun r => !isForget r
def owOf : Els → Owns → Owns
  | [], _ => []
  | _ :: _, [] => []
  | (n, e) :: E, (_, rs) :: O => (if e = none then [(n, noF rs)] else []) ++ owOf E O
theorem owOf_snoc : ∀ {E : Els} {O : Owns} {n n' : Txt} {e : Option Txt} {rs : List Rl}, E.length = O.length → owOf (E ++ [(n, e)]) (O ++ [(n', rs)]) = owOf E O ++ if e = none then [(n, noF rs)] else []
  | [], [], n, n', e, rs, h => by simp [owOf]
  | (a, b) :: E, (c, d) :: O, n, n', e, rs, h => by
    have ih := owOf_snoc (E := E) (O := O) (n := n) (n' := n') (e := e) (rs := rs) (by simpa using h)
    simp only [List.cons_append, owOf, ih, List.append_assoc]
  | [], _ :: _, _, _, _, _, h => by simp at h
  | _ :: _, [], _, _, _, _, h => by simp at h
theorem owOf_keys : ∀ {E : Els} {O : Owns} {n : Txt}, n ∈ (owOf E O).map (·.1) → n ∈ E.map (·.1)
  | [], _, n, h => by rw [owOf] at h; cases h
  | (a, b) :: E, [], n, h => by rw [owOf] at h; cases h
  | (a, b) :: E, (c, d) :: O, n, h => by
    rw [owOf, List.map_append] at h
    rcases List.mem_append.mp h with z | z
    · split at z
      · rw [List.mem_singleton.mp z]; exact List.mem_cons_self
      · cases z
    · exact List.mem_cons_of_mem _ (owOf_keys z)
theorem owOf_len : ∀ (E : Els) (O : Owns), (owOf E O).length ≤ E.length
  | [], _ => Nat.zero_le _
  | (a, b) :: E, [] => Nat.zero_le _
  | (a, b) :: E, (c, d) :: O => by
    have := owOf_len E O
    rw [owOf, List.length_append, List.length_cons]
    split <;> simp <;> omega
theorem owOf_vals : ∀ {E : Els} {O : Owns} {x : Txt × List Rl}, x ∈ owOf E O → ∃ rs, (∃ m, (m, rs) ∈ O) ∧ x.2 = noF rs
  | [], _, x, h => by rw [owOf] at h; cases h
  | (a, b) :: E, [], x, h => by rw [owOf] at h; cases h
  | (a, b) :: E, (c, d) :: O, x, h => by
    rw [owOf] at h
    rcases List.mem_append.mp h with z | z
    · split at z
      · rw [List.mem_singleton.mp z]; exact ⟨d, ⟨c, List.mem_cons_self⟩, rfl⟩
      · cases z
    · obtain ⟨rs, ⟨m, h1⟩, h2⟩ := owOf_vals z
      exact ⟨rs, ⟨m, List.mem_cons_of_mem _ h1⟩, h2⟩
def RFit (O : Owns) : Prop := ∀ x ∈ O, (∀ r ∈ x.2, Rl.fit r ∧ r.length ≤ 5) ∧ x.2.length ≤ 100
def LFin (nms : List Txt) (ls : List Ln) (E : Els) (O : Owns) : Prop :=
  Run ([], []) none ls (E, O) ∧ (∀ l ∈ ls, l.ok ∧ l.line.length ≤ 100) ∧ ls.length ≤ 100 ∧ E.map (·.1) = O.map (·.1) ∧ (O.map (·.1)).Nodup ∧ (∀ t ∈ O.map (·.1), t ∈ nms) ∧ O.length ≤ 60 ∧ RFit O
structure LInv (nms : List Txt) (ls : List Ln) (E : Els) (O : Owns) (nm : Txt) (el : Option Txt) (rs : List Rl) (k : Nat) : Prop where
  built : Built ls (E ++ [(nm, el)], O ++ [(nm, rs)]) (some nm)
  kE : E.map (·.1) = nms.take k
  kO : O.map (·.1) = nms.take k
  hnm : nm = nms.getD k []
  hk : k < 60
  fit : ∀ x ∈ O ++ [(nm, rs)], (∀ r ∈ x.2, Rl.fit r ∧ r.length ≤ 5) ∧ x.2.length ≤ ls.length
  short : ∀ l ∈ ls, l.line.length ≤ 100
  ne : ls ≠ []
theorem take_snoc {nms : List Txt} {k : Nat} (h : k < nms.length) : nms.take k ++ [nms.getD k []] = nms.take (k + 1) := by
  rw [List.take_succ, List.getD_eq_getElem?_getD, List.getElem?_eq_getElem h]; rfl
theorem not_taken {nms : List Txt} (nd : nms.Nodup) {k : Nat} (h : k < nms.length) : nms.getD k [] ∉ nms.take k := by
  rw [List.getD_eq_getElem?_getD, List.getElem?_eq_getElem h]
  intro z
  have e := List.take_append_drop k nms
  have e2 : nms.drop k = nms[k] :: nms.drop (k + 1) := List.drop_eq_getElem_cons h
  rw [← e, e2] at nd
  exact (List.nodup_append.mp nd).2.2 _ z _ List.mem_cons_self rfl
theorem LInv.fin {nms : List Txt} {ls : List Ln} {E : Els} {O : Owns} {nm : Txt} {el : Option Txt} {rs : List Rl} {k : Nat} (I : LInv nms ls E O nm el rs k) (hn : nms.length = 60) (nd : nms.Nodup) (hl : ls.length ≤ 100) : LFin nms ls (E ++ [(nm, el)]) (O ++ [(nm, rs)]) := by
  have hk : k < nms.length := by rw [hn]; exact I.hk
  have e2 : (O ++ [(nm, rs)]).map (·.1) = nms.take (k + 1) := by rw [List.map_append, I.kO, ← take_snoc hk, ← I.hnm]; rfl
  refine ⟨I.built.run', fun l hl => ⟨I.built.ok l hl, I.short l hl⟩, hl, ?_, ?_, ?_, ?_, fun x hx => ⟨(I.fit x hx).1, Nat.le_trans (I.fit x hx).2 hl⟩⟩
  · rw [List.map_append, List.map_append, I.kE, I.kO]; rfl
  · rw [e2]; exact nd.sublist (List.take_sublist _ _)
  · intro t ht; rw [e2] at ht; exact List.mem_of_mem_take ht
  · have := congrArg List.length e2
    rw [List.length_map, List.length_take] at this
    have := I.hk
    omega
theorem beg_ok {nms : List Txt} (hnm : ∀ t ∈ nms, isName t = true ∧ plainT t) (h8 : ∀ t ∈ nms, t.length ≤ 8) {nm : Txt} (hm : nm ∈ nms) {el : Option Txt} (he : ∀ e, el = some e → e ∈ nms) : (Ln.beg nm el).ok ∧ (Ln.beg nm el).line.length ≤ 100 := by
  have l0 := h8 nm hm
  cases el with
  | none => exact ⟨hnm nm hm, by rw [beg_line_none, List.length_append]; simp; omega⟩
  | some e =>
    have l1 := h8 e (he e rfl)
    exact ⟨⟨(hnm nm hm).1, (hnm nm hm).2, (hnm e (he e rfl)).1, (hnm e (he e rfl)).2⟩, by rw [beg_line_some]; simp only [List.length_append, List.length_cons, List.length_nil]; omega⟩
theorem lines_loop (Dd : ED) {nms sm : List Txt} (c0 : Option D) (hn : nms.length = 60) (nd : nms.Nodup) (hnm : ∀ t ∈ nms, isName t = true ∧ plainT t) (h8 : ∀ t ∈ nms, t.length ≤ 8) (hs : ∀ t ∈ sm, PieceOk t) (h0 : 0 < sm.length) (hsl : sm.length ≤ 1000) (h2 : ∀ t ∈ sm, t.length ≤ 2)
    (q : ∀ ls E O c6 c7 c8 c9, LFin nms ls E O → Dd.nx [c0, some (gDl' false nms), some (gDl' false sm), some (lnD ls), some (ownD true true (owOf E O)), some (gDl' true (O.map (·.1))), c6, c7, c8, c9]) :
    ∀ (zs : List Int) (ls : List Ln) (E : Els) (O : Owns) (nm : Txt) (el : Option Txt) (rs : List Rl) (k : Nat) (c6 c7 c8 c9 : Option D), LInv nms ls E O nm el rs k → ls.length + zs.length ≤ 100 →
    forD (gN 6) lb__law_lines_0 Dd (zs.map D.int) [c0, some (gDl' false nms), some (gDl' false sm), some (lnD ls), some (ownD true true (owOf E O ++ if el = none then [(nm, noF rs)] else [])), some (gDl' true (nms.take k ++ [nm])), c6, c7, c8, c9]
  | [], ls, E, O, nm, el, rs, k, c6, c7, c8, c9, I, hl => by
    have := q ls (E ++ [(nm, el)]) (O ++ [(nm, rs)]) c6 c7 c8 c9 (I.fin hn nd (by simpa using hl))
    have he : E.length = O.length := by have := congrArg List.length (I.kE.trans I.kO.symm); rwa [List.length_map, List.length_map] at this
    rw [owOf_snoc he, List.map_append, I.kO] at this
    exact this
  | z :: r, ls, E, O, nm, el, rs, k, c6, c7, c8, c9, I, hl => by
    have he : E.length = O.length := by have := congrArg List.length (I.kE.trans I.kO.symm); rwa [List.length_map, List.length_map] at this
    have hk : k < nms.length := by rw [hn]; exact I.hk
    have ts := take_snoc hk
    rw [← I.hnm] at ts
    have hEl : E.length = k := by have := congrArg List.length I.kE; rw [List.length_map, List.length_take] at this; omega
    rw [List.length_cons] at hl
    have nin : nm ∉ nms.take k := by rw [I.hnm]; exact not_taken nd hk
    have kk : (owOf E O).map (·.1) = (owOf E O).map (·.1) := rfl
    have key2 : ∀ t, t ∈ (owOf E O ++ if el = none then [(nm, noF rs)] else []).map (·.1) → t ∈ nms.take (k + 1) := fun t ht => by
      rw [List.map_append] at ht
      rcases List.mem_append.mp ht with z | z
      · have := owOf_keys z
        rw [I.kE] at this
        rw [← ts]; exact List.mem_append_left _ this
      · split at z
        · rw [← ts]; exact List.mem_append_right _ (by simpa using z)
        · cases z
    have ih := fun ls E O nm el rs k c6 c7 c8 c9 => lines_loop Dd c0 hn nd hnm h8 hs h0 hsl h2 q r ls E O nm el rs k c6 c7 c8 c9
    rw [List.map_cons, forD]
    generalize hF : forD (gN 6) lb__law_lines_0 Dd (r.map D.int) = F at ih
    show lb__law_lines_0 _ [c0, some (gDl' false nms), some (gDl' false sm), some (lnD ls), some (ownD true true (owOf E O ++ if el = none then [(nm, noF rs)] else [])), some (gDl' true (nms.take k ++ [nm])), some (.int z), c7, c8, c9]
    have okl := I.built.ok
    have lOw : (owOf E O ++ if el = none then [(nm, noF rs)] else []).length ≤ 1000 := by
      have := owOf_len E O
      rw [List.length_append]
      have : (if el = none then [(nm, noF rs)] else [] : Owns).length ≤ 1 := by split <;> simp
      have := I.hk
      omega
    by_cases hc : z * 48271 % 2147483647 % 5 = 1 ∧ (nms.take k).length + 1 < 60
    · rw [List.length_take] at hc
      have hk1 : k + 1 < 60 := by omega
      have hk1' : k + 1 < nms.length := by omega
      rw [ts]
      have nin1 := not_taken nd hk1'
      refine lines_beg (ls := ls) (Ow := owOf E O ++ if el = none then [(nm, noF rs)] else []) (k := k + 1) (sm := sm) _ c0 _ c7 c8 c9 hn hk1 hnm h8 (.inr hc.1) okl (by omega) (fun z => nin1 (key2 _ z)) lOw fun el2 c7 c8 c9 hel => ?_
      have mem : nms.getD (k + 1) [] ∈ nms := by rw [List.getD_eq_getElem?_getD, List.getElem?_eq_getElem hk1']; exact List.getElem_mem _
      obtain ⟨b1, b2⟩ := beg_ok hnm h8 mem hel
      have kE1 : (E ++ [(nm, el)]).map (·.1) = nms.take (k + 1) := by rw [List.map_append, I.kE, ← ts]; rfl
      have kO1 : (O ++ [(nm, rs)]).map (·.1) = nms.take (k + 1) := by rw [List.map_append, I.kO, ← ts]; rfl
      have I2 : LInv nms (ls ++ [.beg (nms.getD (k + 1) []) el2]) (E ++ [(nm, el)]) (O ++ [(nm, rs)]) (nms.getD (k + 1) []) el2 [] (k + 1) := by
        refine ⟨.beg I.built (by rw [kE1]; exact nin1) (by rw [kO1]; exact nin1) (by rw [kE1]; exact nd.sublist (List.take_sublist _ _)) (by simp; omega) (by simp; omega) b1 (by omega), kE1, kO1, rfl, hk1, fun x hx => ?_, fun l hl => ?_, by simp⟩
        · rw [List.length_append]
          rcases List.mem_append.mp hx with z | z
          · exact ⟨(I.fit x z).1, Nat.le_trans (I.fit x z).2 (Nat.le_add_right _ _)⟩
          · rw [List.mem_singleton.mp z]; exact ⟨fun _ y => (by cases y), Nat.zero_le _⟩
        · rcases List.mem_append.mp hl with z | z
          · exact I.short l z
          · rw [List.mem_singleton.mp z]; exact b2
      have := ih _ _ _ _ _ _ _ (some (.int z)) c7 c8 c9 I2 (by rw [List.length_append, List.length_singleton]; omega)
      rw [owOf_snoc he] at this
      exact this
    · have hin : nm ∉ (owOf E O ++ if el = none then [(nm, noF rs)] else []).map (·.1) ∨ ∃ Ow0 rs', (owOf E O ++ if el = none then [(nm, noF rs)] else []) = Ow0 ++ [(nm, rs')] ∧ nm ∉ Ow0.map (·.1) := by
        have nin2 : nm ∉ (owOf E O).map (·.1) := fun z => nin (by have := owOf_keys z; rwa [I.kE] at this)
        by_cases e : el = none
        · rw [if_pos e]; exact .inr ⟨_, _, rfl, nin2⟩
        · rw [if_neg e, List.append_nil]; exact .inl nin2
      refine lines_rule (sm := sm) (ls := ls) (Ow := owOf E O ++ if el = none then [(nm, noF rs)] else []) (bg := nms.take k) _ c0 c7 c8 c9 hs h0 hsl h2 I.ne hc okl (by omega) (fun x hx => ?_) hin fun w ps Ow' c7 c9 g1 g2 g3 g4 g5 g6 => ?_
      · have : ∃ rs', (∃ m, (m, rs') ∈ O ++ [(nm, rs)]) ∧ x.2 = noF rs' := by
          rcases List.mem_append.mp hx with z | z
          · obtain ⟨rs', ⟨m, h1⟩, h2⟩ := owOf_vals z
            exact ⟨rs', ⟨m, List.mem_append_left _ h1⟩, h2⟩
          · split at z
            · rw [List.mem_singleton.mp z]; exact ⟨rs, ⟨nm, by simp⟩, rfl⟩
            · cases z
        obtain ⟨rs', ⟨m, h1⟩, h2⟩ := this
        have := (I.fit _ h1).2
        have h3 : (noF rs').length ≤ rs'.length := List.length_filter_le _ _
        rw [h2]; simp only at this; omega
      · have I2 : LInv nms (ls ++ [.rule w ps]) E O nm el (rs ++ [w :: ps]) k := by
          have f0 := I.fit (nm, rs) (by simp)
          refine ⟨.rule I.built (by rw [I.kO]; exact nin) g1 (by omega) (by have := f0.2; simp only at this; omega), I.kE, I.kO, I.hnm, I.hk, fun x hx => ?_, fun l hl => ?_, by simp⟩
          · rw [List.length_append]
            rcases List.mem_append.mp hx with z | z
            · exact ⟨(I.fit x (List.mem_append_left _ z)).1, Nat.le_trans (I.fit x (List.mem_append_left _ z)).2 (Nat.le_add_right _ _)⟩
            · rw [List.mem_singleton.mp z]
              refine ⟨fun r hr => ?_, ?_⟩
              · rcases List.mem_append.mp hr with z | z
                · exact f0.1 r z
                · rw [List.mem_singleton.mp z]; exact ⟨g2, by rw [List.length_cons]; omega⟩
              · rw [List.length_append]; exact Nat.add_le_add f0.2 (Nat.le_refl _)
          · rcases List.mem_append.mp hl with z | z
            · exact I.short l z
            · rw [List.mem_singleton.mp z]; exact g3
        have := ih _ _ _ _ _ _ _ (some (.int z)) c7 c8 c9 I2 (by rw [List.length_append, List.length_singleton]; omega)
        have eo : Ow' = owOf E O ++ if el = none then [(nm, noF (rs ++ [w :: ps]))] else [] := by
          by_cases e : el = none
          · rw [if_pos e]
            rw [if_pos e] at g6
            rw [g6 _ _ rfl]; unfold noF; rw [List.filter_append]
          · rw [if_neg e] at g5 ⊢
            rw [List.append_nil] at g5 ⊢
            exact g5 fun z => nin (by have := owOf_keys z; rwa [I.kE] at this)
        rw [← eo] at this
        exact this
end LW

set_option Elab.async false
set_option linter.all false
set_option maxRecDepth 100000
set_option maxHeartbeats 2000000
namespace LW
open L2 DL KM TL
theorem cutG_len {α : Type} (xs : List α) (lo hi : Option Int) : (cutG xs lo hi).length ≤ xs.length := by
  unfold cutG
  rw [List.length_take, List.length_drop]
  omega
theorem lines_d {ns : List Int} (hl : ns.length ≤ 63) {nms sm : List Txt} (hn : nms.length = 60) (nd : nms.Nodup) (hnm : ∀ t ∈ nms, isName t = true ∧ plainT t) (h8 : ∀ t ∈ nms, t.length ≤ 8) (hs : ∀ t ∈ sm, PieceOk t) (h0 : 0 < sm.length) (hsl : sm.length ≤ 1000) (h2 : ∀ t ∈ sm, t.length ≤ 2)
    {Q : D → Sl → Prop} {X : EX → Sl → Prop} (q : ∀ ls E O env, LFin nms ls E O → Q (.nd .tup [lnD ls, gDl' true (O.map (·.1)), ownD true true (owOf E O)]) env) : sp__law_lines [.scr (ns.map D.int), gDl' false nms, gDl' false sm] Q X := by
  rw [e_sp__law_lines, e_b__law_lines]
  have lc := cutG_len ns (some 3) (some 103)
  simp only [pad, dNext, dSeq, dAsg, dFor, dEnum, dIt, dWhile, dIfS, dMS, dMA, dMN, dSub, dSfl, dRet, dRetV, dRetN, dRetT, dDrop, dBreak, dCont, dFz, fzS, dConsV, dCons, dNil, bCons, bNil, dVar, dC, dBin, dIx, dNeg, dCB, dMV, dTst, dAndT, dOrT, dNotT, dAnd, dOr, dNot, dIf, dLst, dLC, dLc, lcD, dYes, wipeD, dTup, dDct0, dLRev, dIsi, dSl, oNo, oSm, dCall, dCallL, gN, gTu, gsCons, gsNil, dRg1, dRg2, dRev, dZip, pVar, pIx, atP, getP, setP, unsetL, List.map_cons, List.map_nil, List.replicate_succ, List.replicate_zero, List.cons_append, List.nil_append, List.set_cons_zero, List.set_cons_succ, List.getElem?_cons_zero, List.getElem?_cons_succ, List.length_cons, List.length_nil, o_lt, o_ltS, o_gt, o_le, o_ge, o_add, o_addS, o_addL, o_addT, o_sub, o_mul, o_fdiv, o_mod, o_pow, o_eq, o_eqN, o_ne, o_neN, o_isB, o_isI, o_len, o_lenC, o_lenT, o_lenD, o_lenS, o_ix, o_ixC, o_ixT, o_ixS, o_ixDs, o_ixDi, o_put, o_inD, o_inDi, o_inL, o_inT, o_inS, o_idx, o_list, o_listC, o_listT, o_listD, o_tuple, o_tupleT, o_intI, o_intB, o_ord, o_str, o_max, o_min, o_isNo, o_tyL, o_tyT, o_tyD, o_tyS, o_tyI, o_sl, o_slC, o_slS, o_slT, cutG_map, o_lsD, o_lsC, o_it, o_itC, o_itT, o_itS, o_app, o_ext, o_ins, o_pop, o_rev, o_clr, o_pos, o_posS, Option.bind_some, Option.map_some, List.length_map, if_true, Bool.not_false, Bool.not_true, Bool.false_bne, Bool.true_bne,  safe_sc, safe_lstF, safe_scr, safe_tup, safe_f, true_and, and_true, Option.some.injEq, exists_eq_left', exists_eq_left, decide_true, decide_false, Bool.false_eq_true, Bool.true_eq_false, reduceIte, Nat.zero_add, fz_lst, fz_dct, fz_ins, fz_sc, fz_lstF, fz_scr, Nat.zero_le, Nat.reduceLeDiff, Nat.reduceAdd, Nat.reduceLT, Int.reduceLT, Int.reduceLE, and_self, frz_lst, frz_dct, frz_dctF, frzL_ints, frzL_strs, frz_lstF, frz_scr, frz_tup, frz_sc, frzL_nil, frzL_cons, frzL_str, frzL_int, fzL_nil, fzL_cons, fzL_str, fzL_int, noC_sc, noC_lst, noC_tup, noC_dct, noCL_nil, noCL_cons, noCL_str, noCL_str2, noCL_int, Bool.and_self, Bool.and_true, Bool.true_and, List.append_nil, true_or, or_true, flat_str, flat_int, any_str, o_isiT, o_isiL, o_isiS, o_isiI, atI_0, atI_1, atI_2, atI_3, eqv_lst, eqv_tup, eqvL_nil, eqvL_cons, eqvL_str, eqv_str, eqS_int, ixN20, ixN21, fz_tup, Bool.false_and, Bool.and_false, o_posT, Int.cast_ofNat_Int, eq_self, dChain, dGin, dGix, o_gIn, o_gIx, o_mulI, o_mulS, dMake, dMethA, dMethL, dMethS, gDrop, slot0, o_insD, dRaise, dTryR, exM, dFld, pFl, dSfl, o_sflK, o_sflN, o_split, o_join, o_joinT, o_all]
  generalize cutG ns (some 3) (some 103) = zs at lc
  have fin : ∀ ls E O c6 c7 c8 c9, LFin nms ls E O → dRetT [3, 5, 4] (dConsV 3 (dConsV 5 (dConsV 4 dNil))) { nx := fun env => Q D.non env, rt := Q, ex := X } [some (.scr (ns.map D.int)), some (gDl' false nms), some (gDl' false sm), some (lnD ls), some (ownD true true (owOf E O)), some (gDl' true (O.map (·.1))), c6, c7, c8, c9] := fun ls E O c6 c7 c8 c9 h => by
    simp only [pad, dNext, dSeq, dAsg, dFor, dEnum, dIt, dWhile, dIfS, dMS, dMA, dMN, dSub, dSfl, dRet, dRetV, dRetN, dRetT, dDrop, dBreak, dCont, dFz, fzS, dConsV, dCons, dNil, bCons, bNil, dVar, dC, dBin, dIx, dNeg, dCB, dMV, dTst, dAndT, dOrT, dNotT, dAnd, dOr, dNot, dIf, dLst, dLC, dLc, lcD, dYes, wipeD, dTup, dDct0, dLRev, dIsi, dSl, oNo, oSm, dCall, dCallL, gN, gTu, gsCons, gsNil, dRg1, dRg2, dRev, dZip, pVar, pIx, atP, getP, setP, unsetL, List.map_cons, List.map_nil, List.replicate_succ, List.replicate_zero, List.cons_append, List.nil_append, List.set_cons_zero, List.set_cons_succ, List.getElem?_cons_zero, List.getElem?_cons_succ, List.length_cons, List.length_nil, o_lt, o_ltS, o_gt, o_le, o_ge, o_add, o_addS, o_addL, o_addT, o_sub, o_mul, o_fdiv, o_mod, o_pow, o_eq, o_eqN, o_ne, o_neN, o_isB, o_isI, o_len, o_lenC, o_lenT, o_lenD, o_lenS, o_ix, o_ixC, o_ixT, o_ixS, o_ixDs, o_ixDi, o_put, o_inD, o_inDi, o_inL, o_inT, o_inS, o_idx, o_list, o_listC, o_listT, o_listD, o_tuple, o_tupleT, o_intI, o_intB, o_ord, o_str, o_max, o_min, o_isNo, o_tyL, o_tyT, o_tyD, o_tyS, o_tyI, o_sl, o_slC, o_slS, o_slT, cutG_map, o_lsD, o_lsC, o_it, o_itC, o_itT, o_itS, o_app, o_ext, o_ins, o_pop, o_rev, o_clr, o_pos, o_posS, Option.bind_some, Option.map_some, List.length_map, if_true, Bool.not_false, Bool.not_true, Bool.false_bne, Bool.true_bne,  safe_sc, safe_lstF, safe_scr, safe_tup, safe_f, true_and, and_true, Option.some.injEq, exists_eq_left', exists_eq_left, decide_true, decide_false, Bool.false_eq_true, Bool.true_eq_false, reduceIte, Nat.zero_add, fz_lst, fz_dct, fz_ins, fz_sc, fz_lstF, fz_scr, Nat.zero_le, Nat.reduceLeDiff, Nat.reduceAdd, Nat.reduceLT, Int.reduceLT, Int.reduceLE, and_self, frz_lst, frz_dct, frz_dctF, frzL_ints, frzL_strs, frz_lstF, frz_scr, frz_tup, frz_sc, frzL_nil, frzL_cons, frzL_str, frzL_int, fzL_nil, fzL_cons, fzL_str, fzL_int, noC_sc, noC_lst, noC_tup, noC_dct, noCL_nil, noCL_cons, noCL_str, noCL_str2, noCL_int, Bool.and_self, Bool.and_true, Bool.true_and, List.append_nil, true_or, or_true, flat_str, flat_int, any_str, o_isiT, o_isiL, o_isiS, o_isiI, atI_0, atI_1, atI_2, atI_3, eqv_lst, eqv_tup, eqvL_nil, eqvL_cons, eqvL_str, eqv_str, eqS_int, ixN20, ixN21, fz_tup, Bool.false_and, Bool.and_false, o_posT, Int.cast_ofNat_Int, eq_self, dChain, dGin, dGix, o_gIn, o_gIx, o_mulI, o_mulS, dMake, dMethA, dMethL, dMethS, gDrop, slot0, o_insD, dRaise, dTryR, exM, dFld, pFl, dSfl, o_sflK, o_sflN, o_split, o_join, o_joinT, o_all]
    exact q ls E O _ h
  cases zs with
  | nil => exact fin [] [] [] none none none none ⟨.nil _ _, fun _ y => (by cases y), Nat.zero_le _, rfl, List.nodup_nil, fun _ y => (by cases y), Nat.zero_le _, fun _ y => (by cases y)⟩
  | cons z r =>
    have loop := lines_loop { nx := dRetT [3, 5, 4] (dConsV 3 (dConsV 5 (dConsV 4 dNil))) { nx := fun env => Q D.non env, rt := Q, ex := X }, rt := Q, ex := X } (some (.scr (ns.map D.int))) hn nd hnm h8 hs h0 hsl h2 fin r
    rw [List.map_cons, forD]
    generalize hF : forD (gN 6) lb__law_lines_0 _ (r.map D.int) = F at loop ⊢
    show lb__law_lines_0 _ [some (.scr (ns.map D.int)), some (gDl' false nms), some (gDl' false sm), some (lnD []), some (ownD true true []), some (gDl' true (nms.take 0)), some (.int z), none, none, none]
    refine lines_beg (ls := []) (Ow := []) (k := 0) (sm := sm) _ _ _ none none none hn (by decide) hnm h8 (.inl rfl) (fun _ y => (by cases y)) (Nat.zero_le _) (by simp) (Nat.zero_le _) fun el2 c7 c8 c9 hel => ?_
    have mem : nms.getD 0 [] ∈ nms := by rw [List.getD_eq_getElem?_getD, List.getElem?_eq_getElem (by omega)]; exact List.getElem_mem _
    obtain ⟨b1, b2⟩ := beg_ok hnm h8 mem hel
    have I : LInv nms ([] ++ [.beg (nms.getD 0 []) el2]) [] [] (nms.getD 0 []) el2 [] 0 :=
      ⟨.beg .nil (by simp) (by simp) List.nodup_nil (Nat.zero_le _) (Nat.zero_le _) b1 (by omega), rfl, rfl, rfl, by decide,
        fun x hx => by rw [List.mem_singleton.mp hx]; exact ⟨fun _ y => (by cases y), Nat.zero_le _⟩, fun l hl => by rw [List.mem_singleton.mp hl]; exact b2, by simp⟩
    have := loop _ _ _ _ _ _ _ (some (.int z)) c7 c8 c9 I (by rw [List.length_cons] at lc; simp; omega)
    exact this
theorem eqvL_gen {α : Type} [DecidableEq α] {f : α → D} (hf : ∀ a b, eqv (f a) (f b) = decide (a = b)) : ∀ l m : List α, eqvL (l.map f) (m.map f) = decide (l = m)
  | [], [] => by rw [List.map_nil, eqvL]; rfl
  | [], _ :: _ => by rw [List.map_nil, List.map_cons, eqvL]; simp
  | _ :: _, [] => by rw [List.map_nil, List.map_cons, eqvL]; simp
  | x :: a, y :: b => by
    rw [List.map_cons, List.map_cons, eqvL, eqvL_gen hf a b, hf]
    by_cases h1 : x = y <;> by_cases h2 : a = b <;> simp [h1, h2]
theorem eqv_ru (a b : Rl) : eqv (ruD a) (ruD b) = decide (a = b) := by rw [eqv_tup, eqvL_str]
theorem eqv_rus (o p : Bool) (a b : List Rl) : eqv (rusD o a) (rusD p b) = decide (a = b) := by rw [eqv_lst]; exact eqvL_gen eqv_ru a b
theorem okE_tup {n : Nat} {xs : List D} (h : ∀ x ∈ xs, okE n x = true) : okE (n + 1) (.nd .tup xs) = true := by
  rw [okE, okEL_all]
  exact Bool.and_eq_true_iff.mpr ⟨rfl, List.all_eq_true.mpr h⟩
theorem ok_rus {o : Bool} {a : List Rl} (h : ∀ r ∈ a, ∀ p ∈ r, okT p) : okE 8 (rusD o a) = true := okE_lst fun x hx => by
  obtain ⟨r, hr, rfl⟩ := List.mem_map.mp hx
  exact okE_tup fun y hy => by
    obtain ⟨p, hp, rfl⟩ := List.mem_map.mp hy
    exact okE_str (h r hr p hp)
theorem ok_strs {o : Bool} {a : List Txt} (h : ∀ p ∈ a, okT p) : okE 8 (gDl' o a) = true := okE_lst fun x hx => by
  obtain ⟨r, hr, rfl⟩ := List.mem_map.mp hx
  exact okE_str (h r hr)
theorem owOf_at : ∀ {E : Els} {O : Owns} {n : Txt}, E.map (·.1) = O.map (·.1) → (O.map (·.1)).Nodup → n ∈ (owOf E O).map (·.1) → elAt E n = some (elD none) ∧ ownOf (owOf E O) n = noF (ownOf O n) ∧ n ∈ O.map (·.1)
  | [], O, n, he, nd, h => by rw [owOf] at h; cases h
  | _ :: _, [], n, he, nd, h => by rw [owOf] at h; cases h
  | (a, b) :: E, (c, d) :: O, n, he, nd, h => by
    rw [List.map_cons, List.map_cons, List.cons.injEq] at he
    simp only at he
    obtain ⟨e1, e2⟩ := he
    rw [List.map_cons, List.nodup_cons] at nd
    have h' := h
    rw [owOf, List.map_append] at h
    unfold elAt
    rw [List.map_cons, List.map_cons, lkp, List.map_cons]
    simp only
    by_cases hn : c = n
    · rw [if_pos (by rw [e1, hn])]
      have hb : b = none := by
        rcases List.mem_append.mp h with z | z
        · split at z
          · assumption
          · cases z
        · have := owOf_keys z
          rw [e2] at this
          exact absurd this (by rw [← hn]; exact nd.1)
      refine ⟨by rw [hb], ?_, by rw [← hn]; exact List.mem_cons_self⟩
      rw [owOf, if_pos hb, List.singleton_append, ownOf, if_pos (e1.trans hn), ownOf, if_pos hn]
    · rw [if_neg (fun z => hn (e1.symm.trans (Sum.inr.inj z)))]
      have hr : n ∈ (owOf E O).map (·.1) := by
        rcases List.mem_append.mp h with z | z
        · split at z
          · exact absurd (e1.symm.trans (List.mem_singleton.mp z).symm) hn
          · cases z
        · exact z
      obtain ⟨g1, g2, g3⟩ := owOf_at e2 nd.2 hr
      refine ⟨g1, ?_, List.mem_cons_of_mem _ g3⟩
      rw [owOf, ownOf, if_neg hn, ← g2]
      split
      · rw [List.singleton_append, ownOf, if_neg (fun z => hn (e1.symm.trans z))]
      · rfl
end LW

set_option Elab.async false
set_option linter.all false
set_option maxRecDepth 100000
set_option maxHeartbeats 4000000
namespace LW
open L2 DL KM TL
theorem noF_mem {rs : List Rl} {r : Rl} (h : r ∈ noF rs) : r ∈ rs := (List.mem_filter.mp h).1
theorem sum_own : ∀ {rs : List Rl}, (∀ r ∈ rs, r.length ≤ 5) → rs.flatten.length ≤ rs.length * 5
  | [], _ => Nat.zero_le _
  | r :: t, h => by
    have ih := sum_own fun x hx => h x (List.mem_cons_of_mem _ hx)
    have := h r List.mem_cons_self
    rw [List.flatten_cons, List.length_append, List.length_cons, Nat.succ_mul]
    omega
theorem rfit_ofit {O : Owns} (h : RFit O) : OFit 100 O := fun x hx => by
  obtain ⟨h1, h2⟩ := h x hx
  exact ⟨fun r hr => (h1 r hr).1, h2, by have := sum_own fun r hr => (h1 r hr).2; omega⟩
theorem rules_alone {E : Els} {O : Owns} {n : Txt} (hO : RFit O) (hl : O.length ≤ 60) (h1 : n ∈ O.map (·.1)) (h2 : elAt E n = some (elD none)) {Q : D → Sl → Prop} {X : EX → Sl → Prop} (q : ∀ env, Q (rusD true (noF (ownOf O n))) env) : sp_Book_rules_of [bkF E O, .str n] Q X := by
  have hg : Goes E O [] (some n) (.ok [n]) := .step (by simp) h1 h2 (.done _)
  refine rules_of_d hg (by decide) (rfit_ofit hO) (fun met e => by cases e; simp) (by omega) ?_
  show ∀ env, Q (rusD true (along O ([n] : List Txt).reverse [])) env
  have e : along O ([n] : List Txt).reverse [] = noF (ownOf O n) := by
    show changedR [] (ownOf O n) = _
    unfold changedR
    simp [noF]
  rw [e]
  exact q
theorem noC_rus (rs : List Rl) : noC (rusD true rs) = true := by
  rw [noC_lst]
  exact noCL_map fun r _ => by show noC (ruD r) = true; rw [noC_tup, noCL_str]
theorem ask_one (Dd : ED) {E : Els} {O : Owns} (c0 c1 c2 c3 c5 c7 c8 : Option D) (hO : RFit O) (hl : O.length ≤ 60) (he : E.map (·.1) = O.map (·.1)) (nd : (O.map (·.1)).Nodup) : ∀ (l : List Txt) (c6 c10 : Option D),
    (∀ c6 c10, Dd.nx [c0, c1, c2, c3, some (bkD E O), c5, c6, c7, c8, some (ownD true true (owOf E O)), c10]) →
    forD (gN 6) lb_law_1 Dd (l.map D.str) [c0, c1, c2, c3, some (bkD E O), c5, c6, c7, c8, some (ownD true true (owOf E O)), c10]
  | [], c6, c10, q => q c6 c10
  | n :: t, c6, c10, q => by
    have ih := fun c10 => ask_one Dd c0 c1 c2 c3 c5 c7 c8 hO hl he nd t (some (.str n)) c10 q
    rw [List.map_cons, forD]
    generalize hF : forD (gN 6) lb_law_1 Dd (t.map D.str) = F at ih
    have fb : frz (bkD E O) = bkF E O := frz_bk E O
    have eb : ∀ b : Bool, (false ^^ b) = b := fun b => by cases b <;> rfl
    simp only [e_lb_law_1, pad, dNext, dSeq, dAsg, dFor, dEnum, dIt, dWhile, dIfS, dMS, dMA, dMN, dSub, dSfl, dRet, dRetV, dRetN, dRetT, dDrop, dBreak, dCont, dFz, fzS, dConsV, dCons, dNil, bCons, bNil, dVar, dC, dBin, dIx, dNeg, dCB, dMV, dTst, dAndT, dOrT, dNotT, dAnd, dOr, dNot, dIf, dLst, dLC, dLc, lcD, dYes, wipeD, dTup, dDct0, dLRev, dIsi, dSl, oNo, oSm, dCall, dCallL, gN, gTu, gsCons, gsNil, dRg1, dRg2, dRev, dZip, pVar, pIx, atP, getP, setP, unsetL, List.map_cons, List.map_nil, List.replicate_succ, List.replicate_zero, List.cons_append, List.nil_append, List.set_cons_zero, List.set_cons_succ, List.getElem?_cons_zero, List.getElem?_cons_succ, List.length_cons, List.length_nil, o_lt, o_ltS, o_gt, o_le, o_ge, o_add, o_addS, o_addL, o_addT, o_sub, o_mul, o_fdiv, o_mod, o_pow, o_eq, o_eqN, o_ne, o_neN, o_isB, o_isI, o_len, o_lenC, o_lenT, o_lenD, o_lenS, o_ix, o_ixC, o_ixT, o_ixS, o_ixDs, o_ixDi, o_put, o_inD, o_inDi, o_inL, o_inT, o_inS, o_idx, o_list, o_listC, o_listT, o_listD, o_tuple, o_tupleT, o_intI, o_intB, o_ord, o_str, o_max, o_min, o_isNo, o_tyL, o_tyT, o_tyD, o_tyS, o_tyI, o_sl, o_slC, o_slS, o_slT, cutG_map, o_lsD, o_lsC, o_it, o_itC, o_itT, o_itS, o_app, o_ext, o_ins, o_pop, o_rev, o_clr, o_pos, o_posS, Option.bind_some, Option.map_some, List.length_map, if_true, Bool.not_false, Bool.not_true, Bool.false_bne, Bool.true_bne,  safe_sc, safe_lstF, safe_scr, safe_tup, safe_f, true_and, and_true, Option.some.injEq, exists_eq_left', exists_eq_left, decide_true, decide_false, Bool.false_eq_true, Bool.true_eq_false, reduceIte, Nat.zero_add, fz_lst, fz_dct, fz_ins, fz_sc, fz_lstF, fz_scr, Nat.zero_le, Nat.reduceLeDiff, Nat.reduceAdd, Nat.reduceLT, Int.reduceLT, Int.reduceLE, and_self, frz_lst, frz_dct, frz_dctF, frzL_ints, frzL_strs, frz_lstF, frz_scr, frz_tup, frz_sc, frzL_nil, frzL_cons, frzL_str, frzL_int, fzL_nil, fzL_cons, fzL_str, fzL_int, noC_sc, noC_lst, noC_tup, noC_dct, noCL_nil, noCL_cons, noCL_str, noCL_str2, noCL_int, Bool.and_self, Bool.and_true, Bool.true_and, List.append_nil, true_or, or_true, flat_str, flat_int, any_str, o_isiT, o_isiL, o_isiS, o_isiI, atI_0, atI_1, atI_2, atI_3, eqv_lst, eqv_tup, eqvL_nil, eqvL_cons, eqvL_str, eqv_str, eqS_int, ixN20, ixN21, fz_tup, Bool.false_and, Bool.and_false, o_posT, Int.cast_ofNat_Int, eq_self, dChain, dGin, dGix, o_gIn, o_gIx, o_mulI, o_mulS, dMake, dMethA, dMethL, dMethS, gDrop, slot0, o_insD, dRaise, dTryR, exM, dFld, pFl, dSfl, o_sflK, o_sflN, o_split, o_join, o_joinT, o_all, fb, has_key, eb]
    by_cases h : n ∈ (owOf E O).map (·.1)
    · rw [if_pos (decide_eq_true h)]
      obtain ⟨g1, g2, g3⟩ := owOf_at he nd h
      have a1 := own_at true h
      rw [g2] at a1
      have rf := hO _ (own_in g3)
      have l5 : (noF (ownOf O n)).length < 1000000 := by
        have := rf.2
        have h3 : (noF (ownOf O n)).length ≤ (ownOf O n).length := List.length_filter_le _ _
        simp only at this; omega
      have ok1 : okE 8 (rusD true (noF (ownOf O n))) = true := ok_rus fun r hr => ((rf.1 r (noF_mem hr)).1).2
      refine rules_alone hO hl g3 g1 fun env => ?_
      refine ⟨noC_rus _, ?_⟩
      have e1 : eqvL ((noF (ownOf O n)).map ruD) ((noF (ownOf O n)).map ruD) = true := by rw [eqvL_gen eqv_ru]; exact decide_eq_true rfl
      simp only [pad, dNext, dSeq, dAsg, dFor, dEnum, dIt, dWhile, dIfS, dMS, dMA, dMN, dSub, dSfl, dRet, dRetV, dRetN, dRetT, dDrop, dBreak, dCont, dFz, fzS, dConsV, dCons, dNil, bCons, bNil, dVar, dC, dBin, dIx, dNeg, dCB, dMV, dTst, dAndT, dOrT, dNotT, dAnd, dOr, dNot, dIf, dLst, dLC, dLc, lcD, dYes, wipeD, dTup, dDct0, dLRev, dIsi, dSl, oNo, oSm, dCall, dCallL, gN, gTu, gsCons, gsNil, dRg1, dRg2, dRev, dZip, pVar, pIx, atP, getP, setP, unsetL, List.map_cons, List.map_nil, List.replicate_succ, List.replicate_zero, List.cons_append, List.nil_append, List.set_cons_zero, List.set_cons_succ, List.getElem?_cons_zero, List.getElem?_cons_succ, List.length_cons, List.length_nil, o_lt, o_ltS, o_gt, o_le, o_ge, o_add, o_addS, o_addL, o_addT, o_sub, o_mul, o_fdiv, o_mod, o_pow, o_eq, o_eqN, o_ne, o_neN, o_isB, o_isI, o_len, o_lenC, o_lenT, o_lenD, o_lenS, o_ix, o_ixC, o_ixT, o_ixS, o_ixDs, o_ixDi, o_put, o_inD, o_inDi, o_inL, o_inT, o_inS, o_idx, o_list, o_listC, o_listT, o_listD, o_tuple, o_tupleT, o_intI, o_intB, o_ord, o_str, o_max, o_min, o_isNo, o_tyL, o_tyT, o_tyD, o_tyS, o_tyI, o_sl, o_slC, o_slS, o_slT, cutG_map, o_lsD, o_lsC, o_it, o_itC, o_itT, o_itS, o_app, o_ext, o_ins, o_pop, o_rev, o_clr, o_pos, o_posS, Option.bind_some, Option.map_some, List.length_map, if_true, Bool.not_false, Bool.not_true, Bool.false_bne, Bool.true_bne,  safe_sc, safe_lstF, safe_scr, safe_tup, safe_f, true_and, and_true, Option.some.injEq, exists_eq_left', exists_eq_left, decide_true, decide_false, Bool.false_eq_true, Bool.true_eq_false, reduceIte, Nat.zero_add, fz_lst, fz_dct, fz_ins, fz_sc, fz_lstF, fz_scr, Nat.zero_le, Nat.reduceLeDiff, Nat.reduceAdd, Nat.reduceLT, Int.reduceLT, Int.reduceLE, and_self, frz_lst, frz_dct, frz_dctF, frzL_ints, frzL_strs, frz_lstF, frz_scr, frz_tup, frz_sc, frzL_nil, frzL_cons, frzL_str, frzL_int, fzL_nil, fzL_cons, fzL_str, fzL_int, noC_sc, noC_lst, noC_tup, noC_dct, noCL_nil, noCL_cons, noCL_str, noCL_str2, noCL_int, Bool.and_self, Bool.and_true, Bool.true_and, List.append_nil, true_or, or_true, flat_str, flat_int, any_str, o_isiT, o_isiL, o_isiS, o_isiI, atI_0, atI_1, atI_2, atI_3, eqv_lst, eqv_tup, eqvL_nil, eqvL_cons, eqvL_str, eqv_str, eqS_int, ixN20, ixN21, fz_tup, Bool.false_and, Bool.and_false, o_posT, Int.cast_ofNat_Int, eq_self, dChain, dGin, dGix, o_gIn, o_gIx, o_mulI, o_mulS, dMake, dMethA, dMethL, dMethS, gDrop, slot0, o_insD, dRaise, dTryR, exM, dFld, pFl, dSfl, o_sflK, o_sflN, o_split, o_join, o_joinT, o_all, a1, ok1, e1, l5, List.length_reverse]
      exact ih _
    · rw [if_neg (by simpa using h)]
      exact ih _
theorem ask_two (Dd : ED) {E : Els} {O : Owns} (c0 c1 c2 c3 c5 c7 c8 : Option D) (hO : RFit O) (hl : O.length ≤ 60) (he : E.map (·.1) = O.map (·.1)) (nd : (O.map (·.1)).Nodup) : ∀ (l : List Txt) (c6 c10 : Option D),
    (∀ c6 c10, Dd.nx [c0, c1, c2, c3, some (bkD E O), c5, c6, c7, c8, some (ownD true true (owOf E O)), c10]) →
    forD (gN 6) lb_law_0 Dd (l.map D.str) [c0, c1, c2, c3, some (bkD E O), c5, c6, c7, c8, some (ownD true true (owOf E O)), c10]
  | [], c6, c10, q => q c6 c10
  | n :: t, c6, c10, q => by
    have ih := fun c10 => ask_two Dd c0 c1 c2 c3 c5 c7 c8 hO hl he nd t (some (.str n)) c10 q
    rw [List.map_cons, forD]
    generalize hF : forD (gN 6) lb_law_0 Dd (t.map D.str) = F at ih
    have fb : frz (bkD E O) = bkF E O := frz_bk E O
    have eb : ∀ b : Bool, (false ^^ b) = b := fun b => by cases b <;> rfl
    simp only [e_lb_law_0, pad, dNext, dSeq, dAsg, dFor, dEnum, dIt, dWhile, dIfS, dMS, dMA, dMN, dSub, dSfl, dRet, dRetV, dRetN, dRetT, dDrop, dBreak, dCont, dFz, fzS, dConsV, dCons, dNil, bCons, bNil, dVar, dC, dBin, dIx, dNeg, dCB, dMV, dTst, dAndT, dOrT, dNotT, dAnd, dOr, dNot, dIf, dLst, dLC, dLc, lcD, dYes, wipeD, dTup, dDct0, dLRev, dIsi, dSl, oNo, oSm, dCall, dCallL, gN, gTu, gsCons, gsNil, dRg1, dRg2, dRev, dZip, pVar, pIx, atP, getP, setP, unsetL, List.map_cons, List.map_nil, List.replicate_succ, List.replicate_zero, List.cons_append, List.nil_append, List.set_cons_zero, List.set_cons_succ, List.getElem?_cons_zero, List.getElem?_cons_succ, List.length_cons, List.length_nil, o_lt, o_ltS, o_gt, o_le, o_ge, o_add, o_addS, o_addL, o_addT, o_sub, o_mul, o_fdiv, o_mod, o_pow, o_eq, o_eqN, o_ne, o_neN, o_isB, o_isI, o_len, o_lenC, o_lenT, o_lenD, o_lenS, o_ix, o_ixC, o_ixT, o_ixS, o_ixDs, o_ixDi, o_put, o_inD, o_inDi, o_inL, o_inT, o_inS, o_idx, o_list, o_listC, o_listT, o_listD, o_tuple, o_tupleT, o_intI, o_intB, o_ord, o_str, o_max, o_min, o_isNo, o_tyL, o_tyT, o_tyD, o_tyS, o_tyI, o_sl, o_slC, o_slS, o_slT, cutG_map, o_lsD, o_lsC, o_it, o_itC, o_itT, o_itS, o_app, o_ext, o_ins, o_pop, o_rev, o_clr, o_pos, o_posS, Option.bind_some, Option.map_some, List.length_map, if_true, Bool.not_false, Bool.not_true, Bool.false_bne, Bool.true_bne,  safe_sc, safe_lstF, safe_scr, safe_tup, safe_f, true_and, and_true, Option.some.injEq, exists_eq_left', exists_eq_left, decide_true, decide_false, Bool.false_eq_true, Bool.true_eq_false, reduceIte, Nat.zero_add, fz_lst, fz_dct, fz_ins, fz_sc, fz_lstF, fz_scr, Nat.zero_le, Nat.reduceLeDiff, Nat.reduceAdd, Nat.reduceLT, Int.reduceLT, Int.reduceLE, and_self, frz_lst, frz_dct, frz_dctF, frzL_ints, frzL_strs, frz_lstF, frz_scr, frz_tup, frz_sc, frzL_nil, frzL_cons, frzL_str, frzL_int, fzL_nil, fzL_cons, fzL_str, fzL_int, noC_sc, noC_lst, noC_tup, noC_dct, noCL_nil, noCL_cons, noCL_str, noCL_str2, noCL_int, Bool.and_self, Bool.and_true, Bool.true_and, List.append_nil, true_or, or_true, flat_str, flat_int, any_str, o_isiT, o_isiL, o_isiS, o_isiI, atI_0, atI_1, atI_2, atI_3, eqv_lst, eqv_tup, eqvL_nil, eqvL_cons, eqvL_str, eqv_str, eqS_int, ixN20, ixN21, fz_tup, Bool.false_and, Bool.and_false, o_posT, Int.cast_ofNat_Int, eq_self, dChain, dGin, dGix, o_gIn, o_gIx, o_mulI, o_mulS, dMake, dMethA, dMethL, dMethS, gDrop, slot0, o_insD, dRaise, dTryR, exM, dFld, pFl, dSfl, o_sflK, o_sflN, o_split, o_join, o_joinT, o_all, fb, has_key, eb]
    by_cases h : n ∈ (owOf E O).map (·.1)
    · rw [if_pos (decide_eq_true h)]
      obtain ⟨g1, g2, g3⟩ := owOf_at he nd h
      have a1 := own_at true h
      rw [g2] at a1
      have rf := hO _ (own_in g3)
      have ok1 : okE 8 (rusD true (noF (ownOf O n))) = true := ok_rus fun r hr => ((rf.1 r (noF_mem hr)).1).2
      refine rules_alone hO hl g3 g1 fun env => ?_
      refine ⟨noC_rus _, ?_⟩
      have e1 : eqvL ((noF (ownOf O n)).map ruD) ((noF (ownOf O n)).map ruD) = true := by rw [eqvL_gen eqv_ru]; exact decide_eq_true rfl
      simp only [pad, dNext, dSeq, dAsg, dFor, dEnum, dIt, dWhile, dIfS, dMS, dMA, dMN, dSub, dSfl, dRet, dRetV, dRetN, dRetT, dDrop, dBreak, dCont, dFz, fzS, dConsV, dCons, dNil, bCons, bNil, dVar, dC, dBin, dIx, dNeg, dCB, dMV, dTst, dAndT, dOrT, dNotT, dAnd, dOr, dNot, dIf, dLst, dLC, dLc, lcD, dYes, wipeD, dTup, dDct0, dLRev, dIsi, dSl, oNo, oSm, dCall, dCallL, gN, gTu, gsCons, gsNil, dRg1, dRg2, dRev, dZip, pVar, pIx, atP, getP, setP, unsetL, List.map_cons, List.map_nil, List.replicate_succ, List.replicate_zero, List.cons_append, List.nil_append, List.set_cons_zero, List.set_cons_succ, List.getElem?_cons_zero, List.getElem?_cons_succ, List.length_cons, List.length_nil, o_lt, o_ltS, o_gt, o_le, o_ge, o_add, o_addS, o_addL, o_addT, o_sub, o_mul, o_fdiv, o_mod, o_pow, o_eq, o_eqN, o_ne, o_neN, o_isB, o_isI, o_len, o_lenC, o_lenT, o_lenD, o_lenS, o_ix, o_ixC, o_ixT, o_ixS, o_ixDs, o_ixDi, o_put, o_inD, o_inDi, o_inL, o_inT, o_inS, o_idx, o_list, o_listC, o_listT, o_listD, o_tuple, o_tupleT, o_intI, o_intB, o_ord, o_str, o_max, o_min, o_isNo, o_tyL, o_tyT, o_tyD, o_tyS, o_tyI, o_sl, o_slC, o_slS, o_slT, cutG_map, o_lsD, o_lsC, o_it, o_itC, o_itT, o_itS, o_app, o_ext, o_ins, o_pop, o_rev, o_clr, o_pos, o_posS, Option.bind_some, Option.map_some, List.length_map, if_true, Bool.not_false, Bool.not_true, Bool.false_bne, Bool.true_bne,  safe_sc, safe_lstF, safe_scr, safe_tup, safe_f, true_and, and_true, Option.some.injEq, exists_eq_left', exists_eq_left, decide_true, decide_false, Bool.false_eq_true, Bool.true_eq_false, reduceIte, Nat.zero_add, fz_lst, fz_dct, fz_ins, fz_sc, fz_lstF, fz_scr, Nat.zero_le, Nat.reduceLeDiff, Nat.reduceAdd, Nat.reduceLT, Int.reduceLT, Int.reduceLE, and_self, frz_lst, frz_dct, frz_dctF, frzL_ints, frzL_strs, frz_lstF, frz_scr, frz_tup, frz_sc, frzL_nil, frzL_cons, frzL_str, frzL_int, fzL_nil, fzL_cons, fzL_str, fzL_int, noC_sc, noC_lst, noC_tup, noC_dct, noCL_nil, noCL_cons, noCL_str, noCL_str2, noCL_int, Bool.and_self, Bool.and_true, Bool.true_and, List.append_nil, true_or, or_true, flat_str, flat_int, any_str, o_isiT, o_isiL, o_isiS, o_isiI, atI_0, atI_1, atI_2, atI_3, eqv_lst, eqv_tup, eqvL_nil, eqvL_cons, eqvL_str, eqv_str, eqS_int, ixN20, ixN21, fz_tup, Bool.false_and, Bool.and_false, o_posT, Int.cast_ofNat_Int, eq_self, dChain, dGin, dGix, o_gIn, o_gIx, o_mulI, o_mulS, dMake, dMethA, dMethL, dMethS, gDrop, slot0, o_insD, dRaise, dTryR, exM, dFld, pFl, dSfl, o_sflK, o_sflN, o_split, o_join, o_joinT, o_all, a1, ok1, e1]
      exact ih _
    · rw [if_neg (by simpa using h)]
      exact ih _
theorem law_holds (ns : List Int) (hl : ns.length ≤ 63) : sp_law [.scr (ns.map D.int)] (fun d _ => d = .bl true) (fun _ _ => False) := by
  rw [e_sp_law, e_b_law]
  simp only [pad, dNext, dSeq, dAsg, dFor, dEnum, dIt, dWhile, dIfS, dMS, dMA, dMN, dSub, dSfl, dRet, dRetV, dRetN, dRetT, dDrop, dBreak, dCont, dFz, fzS, dConsV, dCons, dNil, bCons, bNil, dVar, dC, dBin, dIx, dNeg, dCB, dMV, dTst, dAndT, dOrT, dNotT, dAnd, dOr, dNot, dIf, dLst, dLC, dLc, lcD, dYes, wipeD, dTup, dDct0, dLRev, dIsi, dSl, oNo, oSm, dCall, dCallL, gN, gTu, gsCons, gsNil, dRg1, dRg2, dRev, dZip, pVar, pIx, atP, getP, setP, unsetL, List.map_cons, List.map_nil, List.replicate_succ, List.replicate_zero, List.cons_append, List.nil_append, List.set_cons_zero, List.set_cons_succ, List.getElem?_cons_zero, List.getElem?_cons_succ, List.length_cons, List.length_nil, o_lt, o_ltS, o_gt, o_le, o_ge, o_add, o_addS, o_addL, o_addT, o_sub, o_mul, o_fdiv, o_mod, o_pow, o_eq, o_eqN, o_ne, o_neN, o_isB, o_isI, o_len, o_lenC, o_lenT, o_lenD, o_lenS, o_ix, o_ixC, o_ixT, o_ixS, o_ixDs, o_ixDi, o_put, o_inD, o_inDi, o_inL, o_inT, o_inS, o_idx, o_list, o_listC, o_listT, o_listD, o_tuple, o_tupleT, o_intI, o_intB, o_ord, o_str, o_max, o_min, o_isNo, o_tyL, o_tyT, o_tyD, o_tyS, o_tyI, o_sl, o_slC, o_slS, o_slT, cutG_map, o_lsD, o_lsC, o_it, o_itC, o_itT, o_itS, o_app, o_ext, o_ins, o_pop, o_rev, o_clr, o_pos, o_posS, Option.bind_some, Option.map_some, List.length_map, if_true, Bool.not_false, Bool.not_true, Bool.false_bne, Bool.true_bne,  safe_sc, safe_lstF, safe_scr, safe_tup, safe_f, true_and, and_true, Option.some.injEq, exists_eq_left', exists_eq_left, decide_true, decide_false, Bool.false_eq_true, Bool.true_eq_false, reduceIte, Nat.zero_add, fz_lst, fz_dct, fz_ins, fz_sc, fz_lstF, fz_scr, Nat.zero_le, Nat.reduceLeDiff, Nat.reduceAdd, Nat.reduceLT, Int.reduceLT, Int.reduceLE, and_self, frz_lst, frz_dct, frz_dctF, frzL_ints, frzL_strs, frz_lstF, frz_scr, frz_tup, frz_sc, frzL_nil, frzL_cons, frzL_str, frzL_int, fzL_nil, fzL_cons, fzL_str, fzL_int, noC_sc, noC_lst, noC_tup, noC_dct, noCL_nil, noCL_cons, noCL_str, noCL_str2, noCL_int, Bool.and_self, Bool.and_true, Bool.true_and, List.append_nil, true_or, or_true, flat_str, flat_int, any_str, o_isiT, o_isiL, o_isiS, o_isiI, atI_0, atI_1, atI_2, atI_3, eqv_lst, eqv_tup, eqvL_nil, eqvL_cons, eqvL_str, eqv_str, eqS_int, ixN20, ixN21, fz_tup, Bool.false_and, Bool.and_false, o_posT, Int.cast_ofNat_Int, eq_self, dChain, dGin, dGix, o_gIn, o_gIx, o_mulI, o_mulS, dMake, dMethA, dMethL, dMethS, gDrop, slot0, o_insD, dRaise, dTryR, exM, dFld, pFl, dSfl, o_sflK, o_sflN, o_split, o_join, o_joinT, o_all]
  refine cell_at_d (k := 0) fun env => ?_
  obtain ⟨m, hm, hm61⟩ := mod_at (z := ns.getD 0 0) (n := 11) (by decide)
  have hm' : ns.getD 0 0 % 11 = ((m : Nat) : Int) := hm
  have hm2 : (2 : Int) + ((m : Nat) : Int) = ((2 + m : Nat) : Int) := rfl
  simp only [pad, dNext, dSeq, dAsg, dFor, dEnum, dIt, dWhile, dIfS, dMS, dMA, dMN, dSub, dSfl, dRet, dRetV, dRetN, dRetT, dDrop, dBreak, dCont, dFz, fzS, dConsV, dCons, dNil, bCons, bNil, dVar, dC, dBin, dIx, dNeg, dCB, dMV, dTst, dAndT, dOrT, dNotT, dAnd, dOr, dNot, dIf, dLst, dLC, dLc, lcD, dYes, wipeD, dTup, dDct0, dLRev, dIsi, dSl, oNo, oSm, dCall, dCallL, gN, gTu, gsCons, gsNil, dRg1, dRg2, dRev, dZip, pVar, pIx, atP, getP, setP, unsetL, List.map_cons, List.map_nil, List.replicate_succ, List.replicate_zero, List.cons_append, List.nil_append, List.set_cons_zero, List.set_cons_succ, List.getElem?_cons_zero, List.getElem?_cons_succ, List.length_cons, List.length_nil, o_lt, o_ltS, o_gt, o_le, o_ge, o_add, o_addS, o_addL, o_addT, o_sub, o_mul, o_fdiv, o_mod, o_pow, o_eq, o_eqN, o_ne, o_neN, o_isB, o_isI, o_len, o_lenC, o_lenT, o_lenD, o_lenS, o_ix, o_ixC, o_ixT, o_ixS, o_ixDs, o_ixDi, o_put, o_inD, o_inDi, o_inL, o_inT, o_inS, o_idx, o_list, o_listC, o_listT, o_listD, o_tuple, o_tupleT, o_intI, o_intB, o_ord, o_str, o_max, o_min, o_isNo, o_tyL, o_tyT, o_tyD, o_tyS, o_tyI, o_sl, o_slC, o_slS, o_slT, cutG_map, o_lsD, o_lsC, o_it, o_itC, o_itT, o_itS, o_app, o_ext, o_ins, o_pop, o_rev, o_clr, o_pos, o_posS, Option.bind_some, Option.map_some, List.length_map, if_true, Bool.not_false, Bool.not_true, Bool.false_bne, Bool.true_bne,  safe_sc, safe_lstF, safe_scr, safe_tup, safe_f, true_and, and_true, Option.some.injEq, exists_eq_left', exists_eq_left, decide_true, decide_false, Bool.false_eq_true, Bool.true_eq_false, reduceIte, Nat.zero_add, fz_lst, fz_dct, fz_ins, fz_sc, fz_lstF, fz_scr, Nat.zero_le, Nat.reduceLeDiff, Nat.reduceAdd, Nat.reduceLT, Int.reduceLT, Int.reduceLE, and_self, frz_lst, frz_dct, frz_dctF, frzL_ints, frzL_strs, frz_lstF, frz_scr, frz_tup, frz_sc, frzL_nil, frzL_cons, frzL_str, frzL_int, fzL_nil, fzL_cons, fzL_str, fzL_int, noC_sc, noC_lst, noC_tup, noC_dct, noCL_nil, noCL_cons, noCL_str, noCL_str2, noCL_int, Bool.and_self, Bool.and_true, Bool.true_and, List.append_nil, true_or, or_true, flat_str, flat_int, any_str, o_isiT, o_isiL, o_isiS, o_isiI, atI_0, atI_1, atI_2, atI_3, eqv_lst, eqv_tup, eqvL_nil, eqvL_cons, eqvL_str, eqv_str, eqS_int, ixN20, ixN21, fz_tup, Bool.false_and, Bool.and_false, o_posT, Int.cast_ofNat_Int, eq_self, dChain, dGin, dGix, o_gIn, o_gIx, o_mulI, o_mulS, dMake, dMethA, dMethL, dMethS, gDrop, slot0, o_insD, dRaise, dTryR, exM, dFld, pFl, dSfl, o_sflK, o_sflN, o_split, o_join, o_joinT, o_all, hm', hm2]
  refine pieces_d (by omega) fun shape b s env hb hs => ?_
  have hone : ∀ t ∈ (List.range (2 + m)).map (piece shape b s), PieceOk t ∧ t.length ≤ 2 := fun t ht => by
    obtain ⟨k, _, rfl⟩ := List.mem_map.mp ht
    exact ⟨piece_isPiece _ _ _ _, (piece_len _ _ _ _).2⟩
  have hlen : ((List.range (2 + m)).map (piece shape b s)).length = 2 + m := by simp
  generalize (List.range (2 + m)).map (piece shape b s) = sm at hone hlen
  refine cell_at_d (k := 1) fun env => ?_
  have m1 : -(2 ^ 64) < (39373 : Int) ∧ (39373 : Int) < 2 ^ 64 := by decide
  obtain ⟨N, hN⟩ : ∃ n : Nat, ns.getD 1 0 * 39373 % 2147483629 = (n : Int) := ⟨(ns.getD 1 0 * 39373 % 2147483629).toNat, (Int.toNat_of_nonneg (Int.emod_nonneg _ (by decide))).symm⟩
  simp only [pad, dNext, dSeq, dAsg, dFor, dEnum, dIt, dWhile, dIfS, dMS, dMA, dMN, dSub, dSfl, dRet, dRetV, dRetN, dRetT, dDrop, dBreak, dCont, dFz, fzS, dConsV, dCons, dNil, bCons, bNil, dVar, dC, dBin, dIx, dNeg, dCB, dMV, dTst, dAndT, dOrT, dNotT, dAnd, dOr, dNot, dIf, dLst, dLC, dLc, lcD, dYes, wipeD, dTup, dDct0, dLRev, dIsi, dSl, oNo, oSm, dCall, dCallL, gN, gTu, gsCons, gsNil, dRg1, dRg2, dRev, dZip, pVar, pIx, atP, getP, setP, unsetL, List.map_cons, List.map_nil, List.replicate_succ, List.replicate_zero, List.cons_append, List.nil_append, List.set_cons_zero, List.set_cons_succ, List.getElem?_cons_zero, List.getElem?_cons_succ, List.length_cons, List.length_nil, o_lt, o_ltS, o_gt, o_le, o_ge, o_add, o_addS, o_addL, o_addT, o_sub, o_mul, o_fdiv, o_mod, o_pow, o_eq, o_eqN, o_ne, o_neN, o_isB, o_isI, o_len, o_lenC, o_lenT, o_lenD, o_lenS, o_ix, o_ixC, o_ixT, o_ixS, o_ixDs, o_ixDi, o_put, o_inD, o_inDi, o_inL, o_inT, o_inS, o_idx, o_list, o_listC, o_listT, o_listD, o_tuple, o_tupleT, o_intI, o_intB, o_ord, o_str, o_max, o_min, o_isNo, o_tyL, o_tyT, o_tyD, o_tyS, o_tyI, o_sl, o_slC, o_slS, o_slT, cutG_map, o_lsD, o_lsC, o_it, o_itC, o_itT, o_itS, o_app, o_ext, o_ins, o_pop, o_rev, o_clr, o_pos, o_posS, Option.bind_some, Option.map_some, List.length_map, if_true, Bool.not_false, Bool.not_true, Bool.false_bne, Bool.true_bne,  safe_sc, safe_lstF, safe_scr, safe_tup, safe_f, true_and, and_true, Option.some.injEq, exists_eq_left', exists_eq_left, decide_true, decide_false, Bool.false_eq_true, Bool.true_eq_false, reduceIte, Nat.zero_add, fz_lst, fz_dct, fz_ins, fz_sc, fz_lstF, fz_scr, Nat.zero_le, Nat.reduceLeDiff, Nat.reduceAdd, Nat.reduceLT, Int.reduceLT, Int.reduceLE, and_self, frz_lst, frz_dct, frz_dctF, frzL_ints, frzL_strs, frz_lstF, frz_scr, frz_tup, frz_sc, frzL_nil, frzL_cons, frzL_str, frzL_int, fzL_nil, fzL_cons, fzL_str, fzL_int, noC_sc, noC_lst, noC_tup, noC_dct, noCL_nil, noCL_cons, noCL_str, noCL_str2, noCL_int, Bool.and_self, Bool.and_true, Bool.true_and, List.append_nil, true_or, or_true, flat_str, flat_int, any_str, o_isiT, o_isiL, o_isiS, o_isiI, atI_0, atI_1, atI_2, atI_3, eqv_lst, eqv_tup, eqvL_nil, eqvL_cons, eqvL_str, eqv_str, eqS_int, ixN20, ixN21, fz_tup, Bool.false_and, Bool.and_false, o_posT, Int.cast_ofNat_Int, eq_self, dChain, dGin, dGix, o_gIn, o_gIx, o_mulI, o_mulS, dMake, dMethA, dMethL, dMethS, gDrop, slot0, o_insD, dRaise, dTryR, exM, dFld, pFl, dSfl, o_sflK, o_sflN, o_split, o_join, o_joinT, o_all, m1, hN]
  refine names_d' (m := 60) (by decide) fun env => ?_
  have h8 : ∀ t ∈ namesOf N 60, t.length ≤ 8 := fun t ht => by
    obtain ⟨k, hk, rfl⟩ := List.mem_map.mp ht
    exact (name_len fun h => absurd h (by decide)).2
  have hnl := names_len N 60
  have hnd := names_nd (N := N) (m := 60) (by decide)
  have hnm := names_ok (N := N) (m := 60)
  generalize namesOf N 60 = nms at h8 hnl hnd hnm
  simp only [pad, dNext, dSeq, dAsg, dFor, dEnum, dIt, dWhile, dIfS, dMS, dMA, dMN, dSub, dSfl, dRet, dRetV, dRetN, dRetT, dDrop, dBreak, dCont, dFz, fzS, dConsV, dCons, dNil, bCons, bNil, dVar, dC, dBin, dIx, dNeg, dCB, dMV, dTst, dAndT, dOrT, dNotT, dAnd, dOr, dNot, dIf, dLst, dLC, dLc, lcD, dYes, wipeD, dTup, dDct0, dLRev, dIsi, dSl, oNo, oSm, dCall, dCallL, gN, gTu, gsCons, gsNil, dRg1, dRg2, dRev, dZip, pVar, pIx, atP, getP, setP, unsetL, List.map_cons, List.map_nil, List.replicate_succ, List.replicate_zero, List.cons_append, List.nil_append, List.set_cons_zero, List.set_cons_succ, List.getElem?_cons_zero, List.getElem?_cons_succ, List.length_cons, List.length_nil, o_lt, o_ltS, o_gt, o_le, o_ge, o_add, o_addS, o_addL, o_addT, o_sub, o_mul, o_fdiv, o_mod, o_pow, o_eq, o_eqN, o_ne, o_neN, o_isB, o_isI, o_len, o_lenC, o_lenT, o_lenD, o_lenS, o_ix, o_ixC, o_ixT, o_ixS, o_ixDs, o_ixDi, o_put, o_inD, o_inDi, o_inL, o_inT, o_inS, o_idx, o_list, o_listC, o_listT, o_listD, o_tuple, o_tupleT, o_intI, o_intB, o_ord, o_str, o_max, o_min, o_isNo, o_tyL, o_tyT, o_tyD, o_tyS, o_tyI, o_sl, o_slC, o_slS, o_slT, cutG_map, o_lsD, o_lsC, o_it, o_itC, o_itT, o_itS, o_app, o_ext, o_ins, o_pop, o_rev, o_clr, o_pos, o_posS, Option.bind_some, Option.map_some, List.length_map, if_true, Bool.not_false, Bool.not_true, Bool.false_bne, Bool.true_bne,  safe_sc, safe_lstF, safe_scr, safe_tup, safe_f, true_and, and_true, Option.some.injEq, exists_eq_left', exists_eq_left, decide_true, decide_false, Bool.false_eq_true, Bool.true_eq_false, reduceIte, Nat.zero_add, fz_lst, fz_dct, fz_ins, fz_sc, fz_lstF, fz_scr, Nat.zero_le, Nat.reduceLeDiff, Nat.reduceAdd, Nat.reduceLT, Int.reduceLT, Int.reduceLE, and_self, frz_lst, frz_dct, frz_dctF, frzL_ints, frzL_strs, frz_lstF, frz_scr, frz_tup, frz_sc, frzL_nil, frzL_cons, frzL_str, frzL_int, fzL_nil, fzL_cons, fzL_str, fzL_int, noC_sc, noC_lst, noC_tup, noC_dct, noCL_nil, noCL_cons, noCL_str, noCL_str2, noCL_int, Bool.and_self, Bool.and_true, Bool.true_and, List.append_nil, true_or, or_true, flat_str, flat_int, any_str, o_isiT, o_isiL, o_isiS, o_isiI, atI_0, atI_1, atI_2, atI_3, eqv_lst, eqv_tup, eqvL_nil, eqvL_cons, eqvL_str, eqv_str, eqS_int, ixN20, ixN21, fz_tup, Bool.false_and, Bool.and_false, o_posT, Int.cast_ofNat_Int, eq_self, dChain, dGin, dGix, o_gIn, o_gIx, o_mulI, o_mulS, dMake, dMethA, dMethL, dMethS, gDrop, slot0, o_insD, dRaise, dTryR, exM, dFld, pFl, dSfl, o_sflK, o_sflN, o_split, o_join, o_joinT, o_all]
  refine lines_d hl hnl hnd hnm h8 (fun t ht => (hone t ht).1) (by omega) (by omega) (fun t ht => (hone t ht).2) fun ls E O env hf => ?_
  refine ⟨?_, ?_⟩
  · rw [noC_tup, noCL_cons, noCL_cons, noCL_cons, noCL_nil, noC_lst, noC_lst, noC_dct]
    rw [noCL_str, noCL_str2, noCL_map fun x _ => noC_rus x.2]
    rfl
  obtain ⟨f1, f2, f3, f4, f5, f6, f7, f8⟩ := hf
  have jl : (joinL [10] (ls.map Ln.line)).length ≤ 20000 := by
    have h1 := join_len [10] (ls.map Ln.line)
    have h2 := sum_le 100 (ls.map Ln.line) fun p hp => by obtain ⟨l, hl', rfl⟩ := List.mem_map.mp hp; exact (f2 l hl').2
    rw [List.length_map] at h1 h2
    simp only [List.length_cons, List.length_nil] at h1
    omega
  have jj : ((ls.map Ln.line).map (·.length)).sum + ls.length * ([10] : Txt).length ≤ 16777216 := by
    have h2 := sum_le 100 (ls.map Ln.line) fun p hp => by obtain ⟨l, hl', rfl⟩ := List.mem_map.mp hp; exact (f2 l hl').2
    rw [List.length_map] at h2
    simp only [List.length_cons, List.length_nil]
    omega
  have el : lnD ls = gDl' true (ls.map Ln.line) := by show D.nd _ _ = D.nd _ _; rw [List.map_map]; rfl
  have okn : ∀ p ∈ O.map (·.1), okT p := fun p hp => (hnm p (f6 p hp)).2.2.2.2
  have okb : okE 8 (gDl' true (O.map (·.1))) = true := ok_strs okn
  have okb' : okE 8 (gDl' false (O.map (·.1))) = true := ok_strs okn
  have fb : frz (bkD E O) = bkF E O := frz_bk E O
  simp only [pad, dNext, dSeq, dAsg, dFor, dEnum, dIt, dWhile, dIfS, dMS, dMA, dMN, dSub, dSfl, dRet, dRetV, dRetN, dRetT, dDrop, dBreak, dCont, dFz, fzS, dConsV, dCons, dNil, bCons, bNil, dVar, dC, dBin, dIx, dNeg, dCB, dMV, dTst, dAndT, dOrT, dNotT, dAnd, dOr, dNot, dIf, dLst, dLC, dLc, lcD, dYes, wipeD, dTup, dDct0, dLRev, dIsi, dSl, oNo, oSm, dCall, dCallL, gN, gTu, gsCons, gsNil, dRg1, dRg2, dRev, dZip, pVar, pIx, atP, getP, setP, unsetL, List.map_cons, List.map_nil, List.replicate_succ, List.replicate_zero, List.cons_append, List.nil_append, List.set_cons_zero, List.set_cons_succ, List.getElem?_cons_zero, List.getElem?_cons_succ, List.length_cons, List.length_nil, o_lt, o_ltS, o_gt, o_le, o_ge, o_add, o_addS, o_addL, o_addT, o_sub, o_mul, o_fdiv, o_mod, o_pow, o_eq, o_eqN, o_ne, o_neN, o_isB, o_isI, o_len, o_lenC, o_lenT, o_lenD, o_lenS, o_ix, o_ixC, o_ixT, o_ixS, o_ixDs, o_ixDi, o_put, o_inD, o_inDi, o_inL, o_inT, o_inS, o_idx, o_list, o_listC, o_listT, o_listD, o_tuple, o_tupleT, o_intI, o_intB, o_ord, o_str, o_max, o_min, o_isNo, o_tyL, o_tyT, o_tyD, o_tyS, o_tyI, o_sl, o_slC, o_slS, o_slT, cutG_map, o_lsD, o_lsC, o_it, o_itC, o_itT, o_itS, o_app, o_ext, o_ins, o_pop, o_rev, o_clr, o_pos, o_posS, Option.bind_some, Option.map_some, List.length_map, if_true, Bool.not_false, Bool.not_true, Bool.false_bne, Bool.true_bne,  safe_sc, safe_lstF, safe_scr, safe_tup, safe_f, true_and, and_true, Option.some.injEq, exists_eq_left', exists_eq_left, decide_true, decide_false, Bool.false_eq_true, Bool.true_eq_false, reduceIte, Nat.zero_add, fz_lst, fz_dct, fz_ins, fz_sc, fz_lstF, fz_scr, Nat.zero_le, Nat.reduceLeDiff, Nat.reduceAdd, Nat.reduceLT, Int.reduceLT, Int.reduceLE, and_self, frz_lst, frz_dct, frz_dctF, frzL_ints, frzL_strs, frz_lstF, frz_scr, frz_tup, frz_sc, frzL_nil, frzL_cons, frzL_str, frzL_int, fzL_nil, fzL_cons, fzL_str, fzL_int, noC_sc, noC_lst, noC_tup, noC_dct, noCL_nil, noCL_cons, noCL_str, noCL_str2, noCL_int, Bool.and_self, Bool.and_true, Bool.true_and, List.append_nil, true_or, or_true, flat_str, flat_int, any_str, o_isiT, o_isiL, o_isiS, o_isiI, atI_0, atI_1, atI_2, atI_3, eqv_lst, eqv_tup, eqvL_nil, eqvL_cons, eqvL_str, eqv_str, eqS_int, ixN20, ixN21, fz_tup, Bool.false_and, Bool.and_false, o_posT, Int.cast_ofNat_Int, eq_self, dChain, dGin, dGix, o_gIn, o_gIx, o_mulI, o_mulS, dMake, dMethA, dMethL, dMethS, gDrop, slot0, o_insD, dRaise, dTryR, exM, dFld, pFl, dSfl, o_sflK, o_sflN, o_split, o_join, o_joinT, o_all]
  rw [el, o_join]
  refine ⟨by rw [List.length_map]; exact jj, ?_⟩
  refine book_init_d f1 (fun l hl' => line_10 (f2 l hl').1) (fun l hl' => line_ne (f2 l hl').1) (by omega) fun env he => ?_
  simp only [pad, dNext, dSeq, dAsg, dFor, dEnum, dIt, dWhile, dIfS, dMS, dMA, dMN, dSub, dSfl, dRet, dRetV, dRetN, dRetT, dDrop, dBreak, dCont, dFz, fzS, dConsV, dCons, dNil, bCons, bNil, dVar, dC, dBin, dIx, dNeg, dCB, dMV, dTst, dAndT, dOrT, dNotT, dAnd, dOr, dNot, dIf, dLst, dLC, dLc, lcD, dYes, wipeD, dTup, dDct0, dLRev, dIsi, dSl, oNo, oSm, dCall, dCallL, gN, gTu, gsCons, gsNil, dRg1, dRg2, dRev, dZip, pVar, pIx, atP, getP, setP, unsetL, List.map_cons, List.map_nil, List.replicate_succ, List.replicate_zero, List.cons_append, List.nil_append, List.set_cons_zero, List.set_cons_succ, List.getElem?_cons_zero, List.getElem?_cons_succ, List.length_cons, List.length_nil, o_lt, o_ltS, o_gt, o_le, o_ge, o_add, o_addS, o_addL, o_addT, o_sub, o_mul, o_fdiv, o_mod, o_pow, o_eq, o_eqN, o_ne, o_neN, o_isB, o_isI, o_len, o_lenC, o_lenT, o_lenD, o_lenS, o_ix, o_ixC, o_ixT, o_ixS, o_ixDs, o_ixDi, o_put, o_inD, o_inDi, o_inL, o_inT, o_inS, o_idx, o_list, o_listC, o_listT, o_listD, o_tuple, o_tupleT, o_intI, o_intB, o_ord, o_str, o_max, o_min, o_isNo, o_tyL, o_tyT, o_tyD, o_tyS, o_tyI, o_sl, o_slC, o_slS, o_slT, cutG_map, o_lsD, o_lsC, o_it, o_itC, o_itT, o_itS, o_app, o_ext, o_ins, o_pop, o_rev, o_clr, o_pos, o_posS, Option.bind_some, Option.map_some, List.length_map, if_true, Bool.not_false, Bool.not_true, Bool.false_bne, Bool.true_bne,  safe_sc, safe_lstF, safe_scr, safe_tup, safe_f, true_and, and_true, Option.some.injEq, exists_eq_left', exists_eq_left, decide_true, decide_false, Bool.false_eq_true, Bool.true_eq_false, reduceIte, Nat.zero_add, fz_lst, fz_dct, fz_ins, fz_sc, fz_lstF, fz_scr, Nat.zero_le, Nat.reduceLeDiff, Nat.reduceAdd, Nat.reduceLT, Int.reduceLT, Int.reduceLE, and_self, frz_lst, frz_dct, frz_dctF, frzL_ints, frzL_strs, frz_lstF, frz_scr, frz_tup, frz_sc, frzL_nil, frzL_cons, frzL_str, frzL_int, fzL_nil, fzL_cons, fzL_str, fzL_int, noC_sc, noC_lst, noC_tup, noC_dct, noCL_nil, noCL_cons, noCL_str, noCL_str2, noCL_int, Bool.and_self, Bool.and_true, Bool.true_and, List.append_nil, true_or, or_true, flat_str, flat_int, any_str, o_isiT, o_isiL, o_isiS, o_isiI, atI_0, atI_1, atI_2, atI_3, eqv_lst, eqv_tup, eqvL_nil, eqvL_cons, eqvL_str, eqv_str, eqS_int, ixN20, ixN21, fz_tup, Bool.false_and, Bool.and_false, o_posT, Int.cast_ofNat_Int, eq_self, dChain, dGin, dGix, o_gIn, o_gIx, o_mulI, o_mulS, dMake, dMethA, dMethL, dMethS, gDrop, slot0, o_insD, dRaise, dTryR, exM, dFld, pFl, dSfl, o_sflK, o_sflN, o_split, o_join, o_joinT, o_all, he, fb]
  refine names_d fun env => ?_
  have e1 : eqvL ((O.map (·.1)).map D.str) ((O.map (·.1)).map D.str) = true := by rw [eqvL_str]; exact decide_eq_true rfl
  have nc : noC (gDl' true (O.map (·.1))) = true := by rw [noC_lst, noCL_str]
  refine ⟨nc, ?_⟩
  simp only [pad, dNext, dSeq, dAsg, dFor, dEnum, dIt, dWhile, dIfS, dMS, dMA, dMN, dSub, dSfl, dRet, dRetV, dRetN, dRetT, dDrop, dBreak, dCont, dFz, fzS, dConsV, dCons, dNil, bCons, bNil, dVar, dC, dBin, dIx, dNeg, dCB, dMV, dTst, dAndT, dOrT, dNotT, dAnd, dOr, dNot, dIf, dLst, dLC, dLc, lcD, dYes, wipeD, dTup, dDct0, dLRev, dIsi, dSl, oNo, oSm, dCall, dCallL, gN, gTu, gsCons, gsNil, dRg1, dRg2, dRev, dZip, pVar, pIx, atP, getP, setP, unsetL, List.map_cons, List.map_nil, List.replicate_succ, List.replicate_zero, List.cons_append, List.nil_append, List.set_cons_zero, List.set_cons_succ, List.getElem?_cons_zero, List.getElem?_cons_succ, List.length_cons, List.length_nil, o_lt, o_ltS, o_gt, o_le, o_ge, o_add, o_addS, o_addL, o_addT, o_sub, o_mul, o_fdiv, o_mod, o_pow, o_eq, o_eqN, o_ne, o_neN, o_isB, o_isI, o_len, o_lenC, o_lenT, o_lenD, o_lenS, o_ix, o_ixC, o_ixT, o_ixS, o_ixDs, o_ixDi, o_put, o_inD, o_inDi, o_inL, o_inT, o_inS, o_idx, o_list, o_listC, o_listT, o_listD, o_tuple, o_tupleT, o_intI, o_intB, o_ord, o_str, o_max, o_min, o_isNo, o_tyL, o_tyT, o_tyD, o_tyS, o_tyI, o_sl, o_slC, o_slS, o_slT, cutG_map, o_lsD, o_lsC, o_it, o_itC, o_itT, o_itS, o_app, o_ext, o_ins, o_pop, o_rev, o_clr, o_pos, o_posS, Option.bind_some, Option.map_some, List.length_map, if_true, Bool.not_false, Bool.not_true, Bool.false_bne, Bool.true_bne,  safe_sc, safe_lstF, safe_scr, safe_tup, safe_f, true_and, and_true, Option.some.injEq, exists_eq_left', exists_eq_left, decide_true, decide_false, Bool.false_eq_true, Bool.true_eq_false, reduceIte, Nat.zero_add, fz_lst, fz_dct, fz_ins, fz_sc, fz_lstF, fz_scr, Nat.zero_le, Nat.reduceLeDiff, Nat.reduceAdd, Nat.reduceLT, Int.reduceLT, Int.reduceLE, and_self, frz_lst, frz_dct, frz_dctF, frzL_ints, frzL_strs, frz_lstF, frz_scr, frz_tup, frz_sc, frzL_nil, frzL_cons, frzL_str, frzL_int, fzL_nil, fzL_cons, fzL_str, fzL_int, noC_sc, noC_lst, noC_tup, noC_dct, noCL_nil, noCL_cons, noCL_str, noCL_str2, noCL_int, Bool.and_self, Bool.and_true, Bool.true_and, List.append_nil, true_or, or_true, flat_str, flat_int, any_str, o_isiT, o_isiL, o_isiS, o_isiI, atI_0, atI_1, atI_2, atI_3, eqv_lst, eqv_tup, eqvL_nil, eqvL_cons, eqvL_str, eqv_str, eqS_int, ixN20, ixN21, fz_tup, Bool.false_and, Bool.and_false, o_posT, Int.cast_ofNat_Int, eq_self, dChain, dGin, dGix, o_gIn, o_gIx, o_mulI, o_mulS, dMake, dMethA, dMethL, dMethS, gDrop, slot0, o_insD, dRaise, dTryR, exM, dFld, pFl, dSfl, o_sflK, o_sflN, o_split, o_join, o_joinT, o_all, okb, e1]
  refine ask_one _ _ _ _ _ _ _ _ f8 f7 f4 f5 (O.map (·.1)) _ _ fun c6 c10 => ?_
  simp only [pad, dNext, dSeq, dAsg, dFor, dEnum, dIt, dWhile, dIfS, dMS, dMA, dMN, dSub, dSfl, dRet, dRetV, dRetN, dRetT, dDrop, dBreak, dCont, dFz, fzS, dConsV, dCons, dNil, bCons, bNil, dVar, dC, dBin, dIx, dNeg, dCB, dMV, dTst, dAndT, dOrT, dNotT, dAnd, dOr, dNot, dIf, dLst, dLC, dLc, lcD, dYes, wipeD, dTup, dDct0, dLRev, dIsi, dSl, oNo, oSm, dCall, dCallL, gN, gTu, gsCons, gsNil, dRg1, dRg2, dRev, dZip, pVar, pIx, atP, getP, setP, unsetL, List.map_cons, List.map_nil, List.replicate_succ, List.replicate_zero, List.cons_append, List.nil_append, List.set_cons_zero, List.set_cons_succ, List.getElem?_cons_zero, List.getElem?_cons_succ, List.length_cons, List.length_nil, o_lt, o_ltS, o_gt, o_le, o_ge, o_add, o_addS, o_addL, o_addT, o_sub, o_mul, o_fdiv, o_mod, o_pow, o_eq, o_eqN, o_ne, o_neN, o_isB, o_isI, o_len, o_lenC, o_lenT, o_lenD, o_lenS, o_ix, o_ixC, o_ixT, o_ixS, o_ixDs, o_ixDi, o_put, o_inD, o_inDi, o_inL, o_inT, o_inS, o_idx, o_list, o_listC, o_listT, o_listD, o_tuple, o_tupleT, o_intI, o_intB, o_ord, o_str, o_max, o_min, o_isNo, o_tyL, o_tyT, o_tyD, o_tyS, o_tyI, o_sl, o_slC, o_slS, o_slT, cutG_map, o_lsD, o_lsC, o_it, o_itC, o_itT, o_itS, o_app, o_ext, o_ins, o_pop, o_rev, o_clr, o_pos, o_posS, Option.bind_some, Option.map_some, List.length_map, if_true, Bool.not_false, Bool.not_true, Bool.false_bne, Bool.true_bne,  safe_sc, safe_lstF, safe_scr, safe_tup, safe_f, true_and, and_true, Option.some.injEq, exists_eq_left', exists_eq_left, decide_true, decide_false, Bool.false_eq_true, Bool.true_eq_false, reduceIte, Nat.zero_add, fz_lst, fz_dct, fz_ins, fz_sc, fz_lstF, fz_scr, Nat.zero_le, Nat.reduceLeDiff, Nat.reduceAdd, Nat.reduceLT, Int.reduceLT, Int.reduceLE, and_self, frz_lst, frz_dct, frz_dctF, frzL_ints, frzL_strs, frz_lstF, frz_scr, frz_tup, frz_sc, frzL_nil, frzL_cons, frzL_str, frzL_int, fzL_nil, fzL_cons, fzL_str, fzL_int, noC_sc, noC_lst, noC_tup, noC_dct, noCL_nil, noCL_cons, noCL_str, noCL_str2, noCL_int, Bool.and_self, Bool.and_true, Bool.true_and, List.append_nil, true_or, or_true, flat_str, flat_int, any_str, o_isiT, o_isiL, o_isiS, o_isiI, atI_0, atI_1, atI_2, atI_3, eqv_lst, eqv_tup, eqvL_nil, eqvL_cons, eqvL_str, eqv_str, eqS_int, ixN20, ixN21, fz_tup, Bool.false_and, Bool.and_false, o_posT, Int.cast_ofNat_Int, eq_self, dChain, dGin, dGix, o_gIn, o_gIx, o_mulI, o_mulS, dMake, dMethA, dMethL, dMethS, gDrop, slot0, o_insD, dRaise, dTryR, exM, dFld, pFl, dSfl, o_sflK, o_sflN, o_split, o_join, o_joinT, o_all]
  refine ask_two _ _ _ _ _ _ _ _ f8 f7 f4 f5 (O.map (·.1)) _ _ fun c6 c10 => ?_
  simp only [pad, dNext, dSeq, dAsg, dFor, dEnum, dIt, dWhile, dIfS, dMS, dMA, dMN, dSub, dSfl, dRet, dRetV, dRetN, dRetT, dDrop, dBreak, dCont, dFz, fzS, dConsV, dCons, dNil, bCons, bNil, dVar, dC, dBin, dIx, dNeg, dCB, dMV, dTst, dAndT, dOrT, dNotT, dAnd, dOr, dNot, dIf, dLst, dLC, dLc, lcD, dYes, wipeD, dTup, dDct0, dLRev, dIsi, dSl, oNo, oSm, dCall, dCallL, gN, gTu, gsCons, gsNil, dRg1, dRg2, dRev, dZip, pVar, pIx, atP, getP, setP, unsetL, List.map_cons, List.map_nil, List.replicate_succ, List.replicate_zero, List.cons_append, List.nil_append, List.set_cons_zero, List.set_cons_succ, List.getElem?_cons_zero, List.getElem?_cons_succ, List.length_cons, List.length_nil, o_lt, o_ltS, o_gt, o_le, o_ge, o_add, o_addS, o_addL, o_addT, o_sub, o_mul, o_fdiv, o_mod, o_pow, o_eq, o_eqN, o_ne, o_neN, o_isB, o_isI, o_len, o_lenC, o_lenT, o_lenD, o_lenS, o_ix, o_ixC, o_ixT, o_ixS, o_ixDs, o_ixDi, o_put, o_inD, o_inDi, o_inL, o_inT, o_inS, o_idx, o_list, o_listC, o_listT, o_listD, o_tuple, o_tupleT, o_intI, o_intB, o_ord, o_str, o_max, o_min, o_isNo, o_tyL, o_tyT, o_tyD, o_tyS, o_tyI, o_sl, o_slC, o_slS, o_slT, cutG_map, o_lsD, o_lsC, o_it, o_itC, o_itT, o_itS, o_app, o_ext, o_ins, o_pop, o_rev, o_clr, o_pos, o_posS, Option.bind_some, Option.map_some, List.length_map, if_true, Bool.not_false, Bool.not_true, Bool.false_bne, Bool.true_bne,  safe_sc, safe_lstF, safe_scr, safe_tup, safe_f, true_and, and_true, Option.some.injEq, exists_eq_left', exists_eq_left, decide_true, decide_false, Bool.false_eq_true, Bool.true_eq_false, reduceIte, Nat.zero_add, fz_lst, fz_dct, fz_ins, fz_sc, fz_lstF, fz_scr, Nat.zero_le, Nat.reduceLeDiff, Nat.reduceAdd, Nat.reduceLT, Int.reduceLT, Int.reduceLE, and_self, frz_lst, frz_dct, frz_dctF, frzL_ints, frzL_strs, frz_lstF, frz_scr, frz_tup, frz_sc, frzL_nil, frzL_cons, frzL_str, frzL_int, fzL_nil, fzL_cons, fzL_str, fzL_int, noC_sc, noC_lst, noC_tup, noC_dct, noCL_nil, noCL_cons, noCL_str, noCL_str2, noCL_int, Bool.and_self, Bool.and_true, Bool.true_and, List.append_nil, true_or, or_true, flat_str, flat_int, any_str, o_isiT, o_isiL, o_isiS, o_isiI, atI_0, atI_1, atI_2, atI_3, eqv_lst, eqv_tup, eqvL_nil, eqvL_cons, eqvL_str, eqv_str, eqS_int, ixN20, ixN21, fz_tup, Bool.false_and, Bool.and_false, o_posT, Int.cast_ofNat_Int, eq_self, dChain, dGin, dGix, o_gIn, o_gIx, o_mulI, o_mulS, dMake, dMethA, dMethL, dMethS, gDrop, slot0, o_insD, dRaise, dTryR, exM, dFld, pFl, dSfl, o_sflK, o_sflN, o_split, o_join, o_joinT, o_all, fb]
  refine names_d fun env => ?_
  refine ⟨nc, ?_⟩
  simp only [pad, dNext, dSeq, dAsg, dFor, dEnum, dIt, dWhile, dIfS, dMS, dMA, dMN, dSub, dSfl, dRet, dRetV, dRetN, dRetT, dDrop, dBreak, dCont, dFz, fzS, dConsV, dCons, dNil, bCons, bNil, dVar, dC, dBin, dIx, dNeg, dCB, dMV, dTst, dAndT, dOrT, dNotT, dAnd, dOr, dNot, dIf, dLst, dLC, dLc, lcD, dYes, wipeD, dTup, dDct0, dLRev, dIsi, dSl, oNo, oSm, dCall, dCallL, gN, gTu, gsCons, gsNil, dRg1, dRg2, dRev, dZip, pVar, pIx, atP, getP, setP, unsetL, List.map_cons, List.map_nil, List.replicate_succ, List.replicate_zero, List.cons_append, List.nil_append, List.set_cons_zero, List.set_cons_succ, List.getElem?_cons_zero, List.getElem?_cons_succ, List.length_cons, List.length_nil, o_lt, o_ltS, o_gt, o_le, o_ge, o_add, o_addS, o_addL, o_addT, o_sub, o_mul, o_fdiv, o_mod, o_pow, o_eq, o_eqN, o_ne, o_neN, o_isB, o_isI, o_len, o_lenC, o_lenT, o_lenD, o_lenS, o_ix, o_ixC, o_ixT, o_ixS, o_ixDs, o_ixDi, o_put, o_inD, o_inDi, o_inL, o_inT, o_inS, o_idx, o_list, o_listC, o_listT, o_listD, o_tuple, o_tupleT, o_intI, o_intB, o_ord, o_str, o_max, o_min, o_isNo, o_tyL, o_tyT, o_tyD, o_tyS, o_tyI, o_sl, o_slC, o_slS, o_slT, cutG_map, o_lsD, o_lsC, o_it, o_itC, o_itT, o_itS, o_app, o_ext, o_ins, o_pop, o_rev, o_clr, o_pos, o_posS, Option.bind_some, Option.map_some, List.length_map, if_true, Bool.not_false, Bool.not_true, Bool.false_bne, Bool.true_bne,  safe_sc, safe_lstF, safe_scr, safe_tup, safe_f, true_and, and_true, Option.some.injEq, exists_eq_left', exists_eq_left, decide_true, decide_false, Bool.false_eq_true, Bool.true_eq_false, reduceIte, Nat.zero_add, fz_lst, fz_dct, fz_ins, fz_sc, fz_lstF, fz_scr, Nat.zero_le, Nat.reduceLeDiff, Nat.reduceAdd, Nat.reduceLT, Int.reduceLT, Int.reduceLE, and_self, frz_lst, frz_dct, frz_dctF, frzL_ints, frzL_strs, frz_lstF, frz_scr, frz_tup, frz_sc, frzL_nil, frzL_cons, frzL_str, frzL_int, fzL_nil, fzL_cons, fzL_str, fzL_int, noC_sc, noC_lst, noC_tup, noC_dct, noCL_nil, noCL_cons, noCL_str, noCL_str2, noCL_int, Bool.and_self, Bool.and_true, Bool.true_and, List.append_nil, true_or, or_true, flat_str, flat_int, any_str, o_isiT, o_isiL, o_isiS, o_isiI, atI_0, atI_1, atI_2, atI_3, eqv_lst, eqv_tup, eqvL_nil, eqvL_cons, eqvL_str, eqv_str, eqS_int, ixN20, ixN21, fz_tup, Bool.false_and, Bool.and_false, o_posT, Int.cast_ofNat_Int, eq_self, dChain, dGin, dGix, o_gIn, o_gIx, o_mulI, o_mulS, dMake, dMethA, dMethL, dMethS, gDrop, slot0, o_insD, dRaise, dTryR, exM, dFld, pFl, dSfl, o_sflK, o_sflN, o_split, o_join, o_joinT, o_all, okb, okb', e1]
end LW

set_option Elab.async false
set_option linter.all false
set_option maxRecDepth 100000
set_option maxHeartbeats 4000000
namespace LW
open PySem PySem.Spec PyProof.Rows L2 DL
def spLaw (K : PySem.W.Frag) : Sp := fun vs H Q E => ∀ R : RT, toSp K R [] 1 sp_law vs H Q E
theorem repl_ints {K : PySem.W.Frag} {R : RT} {F H : Hp} : ∀ ns : List Int, RepL K R F H (ns.map V.int) (ns.map D.int) []
  | [] => .nil
  | n :: r => RepL.cons (A := []) (B := []) (.sc (.int n)) (repl_ints r)
theorem law_sp {K : PySem.W.Frag} {H : Hp} {a : Addr} {ns : List Int} (hl : ns.length ≤ 63) (hS : SqL K H a (ns.map V.int)) : spLaw K [.ref a] H (fun v _ => v = .bl true) (fun _ _ _ => False) := fun R => by
  refine ⟨H, [.scr (ns.map D.int)], fun _ => [], fun d _ => d = .bl true, fun _ _ => False, rfl, .refl _, EnvR.args (RepL.cons (A := []) (B := []) (.fz (k := .scr) hS (repl_ints ns) (.inr rfl)) .nil), fun _ _ => rfl, law_holds ns hl, ?_, fun _ _ _ _ _ _ _ _ _ _ q => q⟩
  intro F' H' σ' env' As' v d B ok r o q
  subst q
  cases r
  rfl
theorem cx_no {P : Program} {w : World} {H : Hp} {s : Shared} {e : Value} {s' : Shared} (h : CXm false P w [] H s (fun _ _ _ => False) e s') : False := by
  have h : L2.CX P w [] H s (fun _ _ _ => False) e s' := h
  obtain ⟨_, _, _, _, _, _, _, _, _, _, _, _, z⟩ := h
  exact z
theorem all_mk {l : PySem.W.OpenLaw} {w : World} {K : PySem.W.Frag} {h : Heap} {mg : Str → Option Value} {fa : Addr} (X : K.In h) (G : h.Ns mainGlobals mg) (hfa : mg "law" = some (.ref fa))
    {v_a_is_sign : Addr}
    {od1 an1 : Option Addr} {sl1 : Array (Option Value)} {oc1 kV1 dc1 pm1 cd1 ct1 : Value}
    {v_a_is_piece : Addr}
    {od2 an2 : Option Addr} {sl2 : Array (Option Value)} {oc2 kV2 dc2 pm2 cd2 ct2 : Value}
    {v_a_read_rule : Addr}
    {od3 an3 : Option Addr} {sl3 : Array (Option Value)} {oc3 kV3 dc3 pm3 cd3 ct3 : Value}
    {v_a_forgotten : Addr}
    {od4 an4 : Option Addr} {sl4 : Array (Option Value)} {oc4 kV4 dc4 pm4 cd4 ct4 : Value}
    {v_a_without : Addr}
    {od5 an5 : Option Addr} {sl5 : Array (Option Value)} {oc5 kV5 dc5 pm5 cd5 ct5 : Value}
    {v_a_changed : Addr}
    {od6 an6 : Option Addr} {sl6 : Array (Option Value)} {oc6 kV6 dc6 pm6 cd6 ct6 : Value}
    {v_a_is_name : Addr}
    {od7 an7 : Option Addr} {sl7 : Array (Option Value)} {oc7 kV7 dc7 pm7 cd7 ct7 : Value}
    {v_a_begins_order : Addr}
    {od8 an8 : Option Addr} {sl8 : Array (Option Value)} {oc8 kV8 dc8 pm8 cd8 ct8 : Value}
    {v_a_read_at : Addr}
    {od9 an9 : Option Addr} {sl9 : Array (Option Value)} {oc9 kV9 dc9 pm9 cd9 ct9 : Value}
    {v_a__law_cell_at : Addr}
    {od10 an10 : Option Addr} {sl10 : Array (Option Value)} {oc10 kV10 dc10 pm10 cd10 ct10 : Value}
    {v_a__law_pieces : Addr}
    {od11 an11 : Option Addr} {sl11 : Array (Option Value)} {oc11 kV11 dc11 pm11 cd11 ct11 : Value}
    {v_a__law_names : Addr}
    {od12 an12 : Option Addr} {sl12 : Array (Option Value)} {oc12 kV12 dc12 pm12 cd12 ct12 : Value}
    {v_a__law_rule : Addr}
    {od13 an13 : Option Addr} {sl13 : Array (Option Value)} {oc13 kV13 dc13 pm13 cd13 ct13 : Value}
    {v_a__law_lines : Addr}
    {od14 an14 : Option Addr} {sl14 : Array (Option Value)} {oc14 kV14 dc14 pm14 cd14 ct14 : Value}
    {v_a_Book_begin : Addr}
    {od15 an15 : Option Addr} {sl15 : Array (Option Value)} {oc15 kV15 dc15 pm15 cd15 ct15 : Value}
    {v_a_Book_init : Addr}
    {od16 an16 : Option Addr} {sl16 : Array (Option Value)} {oc16 kV16 dc16 pm16 cd16 ct16 : Value}
    {v_a_Book_names : Addr}
    {od17 an17 : Option Addr} {sl17 : Array (Option Value)} {oc17 kV17 dc17 pm17 cd17 ct17 : Value}
    {v_a_Book_line_of : Addr}
    {od18 an18 : Option Addr} {sl18 : Array (Option Value)} {oc18 kV18 dc18 pm18 cd18 ct18 : Value}
    {v_a_Book_rules_of : Addr}
    {od19 an19 : Option Addr} {sl19 : Array (Option Value)} {oc19 kV19 dc19 pm19 cd19 ct19 : Value}
    {v_a_law : Addr}
    {od20 an20 : Option Addr} {sl20 : Array (Option Value)} {oc20 kV20 dc20 pm20 cd20 ct20 : Value}
    {v_xk_NoRule : Addr}
    {v_xi_NoRule : Addr}
    {od21 an21 : Option Addr} {sl21 : Array (Option Value)} {oc21 kV21 dc21 pm21 cd21 ct21 : Value}
    {nm_xk_NoRule q_xk_NoRule : Str} {N_xk_NoRule : Addr} {bs_xk_NoRule bm_xk_NoRule : List Value} {sn_xk_NoRule : List Str} {sub_xk_NoRule : List Value} {ab_xk_NoRule : Bool} {col_xk_NoRule : Option Bool} {dd_xk_NoRule : Option Addr} {m0_xk_NoRule m1_xk_NoRule m2_xk_NoRule m3_xk_NoRule m5_xk_NoRule : Option Value}
    {v_xk_Twice : Addr}
    {v_xi_Twice : Addr}
    {od22 an22 : Option Addr} {sl22 : Array (Option Value)} {oc22 kV22 dc22 pm22 cd22 ct22 : Value}
    {nm_xk_Twice q_xk_Twice : Str} {N_xk_Twice : Addr} {bs_xk_Twice bm_xk_Twice : List Value} {sn_xk_Twice : List Str} {sub_xk_Twice : List Value} {ab_xk_Twice : Bool} {col_xk_Twice : Option Bool} {dd_xk_Twice : Option Addr} {m0_xk_Twice m1_xk_Twice m2_xk_Twice m3_xk_Twice m5_xk_Twice : Option Value}
    {v_xk_NoName : Addr}
    {v_xi_NoName : Addr}
    {od23 an23 : Option Addr} {sl23 : Array (Option Value)} {oc23 kV23 dc23 pm23 cd23 ct23 : Value}
    {nm_xk_NoName q_xk_NoName : Str} {N_xk_NoName : Addr} {bs_xk_NoName bm_xk_NoName : List Value} {sn_xk_NoName : List Str} {sub_xk_NoName : List Value} {ab_xk_NoName : Bool} {col_xk_NoName : Option Bool} {dd_xk_NoName : Option Addr} {m0_xk_NoName m1_xk_NoName m2_xk_NoName m3_xk_NoName m5_xk_NoName : Option Value}
    {v_xk_Ring : Addr}
    {v_xi_Ring : Addr}
    {od24 an24 : Option Addr} {sl24 : Array (Option Value)} {oc24 kV24 dc24 pm24 cd24 ct24 : Value}
    {nm_xk_Ring q_xk_Ring : Str} {N_xk_Ring : Addr} {bs_xk_Ring bm_xk_Ring : List Value} {sn_xk_Ring : List Str} {sub_xk_Ring : List Value} {ab_xk_Ring : Bool} {col_xk_Ring : Option Bool} {dd_xk_Ring : Option Addr} {m0_xk_Ring m1_xk_Ring m2_xk_Ring m3_xk_Ring m5_xk_Ring : Option Value}
    {v_k_Book : Addr}
    {v_ga_LEAST : Addr}
    {tk_c_MOST : Tok}
    {tk_c_SMALL : Tok}
    (l1 : K.lookup v_a_is_sign = some ⟨oc1, od1, .func (PySem.W.fnOf "is_sign" "is_sign" (defArgs st_is_sign) (defBody st_is_sign) (defScope st_is_sign) .none kV1 dc1 pm1 an1 cd1 ct1), sl1⟩)
    (c1 : PySem.W.codeIn K cd1 "is_sign" = true)
    (k1 : PySem.W.keepIn K (.ref v_a_is_sign) = true)
    (g_g_is_sign : PySem.W.nsIn K mainGlobals "is_sign" = some (some (.ref v_a_is_sign)))
    (l2 : K.lookup v_a_is_piece = some ⟨oc2, od2, .func (PySem.W.fnOf "is_piece" "is_piece" (defArgs st_is_piece) (defBody st_is_piece) (defScope st_is_piece) .none kV2 dc2 pm2 an2 cd2 ct2), sl2⟩)
    (c2 : PySem.W.codeIn K cd2 "is_piece" = true)
    (k2 : PySem.W.keepIn K (.ref v_a_is_piece) = true)
    (g_g_is_piece : PySem.W.nsIn K mainGlobals "is_piece" = some (some (.ref v_a_is_piece)))
    (l3 : K.lookup v_a_read_rule = some ⟨oc3, od3, .func (PySem.W.fnOf "read_rule" "read_rule" (defArgs st_read_rule) (defBody st_read_rule) (defScope st_read_rule) .none kV3 dc3 pm3 an3 cd3 ct3), sl3⟩)
    (c3 : PySem.W.codeIn K cd3 "read_rule" = true)
    (k3 : PySem.W.keepIn K (.ref v_a_read_rule) = true)
    (g_g_read_rule : PySem.W.nsIn K mainGlobals "read_rule" = some (some (.ref v_a_read_rule)))
    (l4 : K.lookup v_a_forgotten = some ⟨oc4, od4, .func (PySem.W.fnOf "forgotten" "forgotten" (defArgs st_forgotten) (defBody st_forgotten) (defScope st_forgotten) .none kV4 dc4 pm4 an4 cd4 ct4), sl4⟩)
    (c4 : PySem.W.codeIn K cd4 "forgotten" = true)
    (k4 : PySem.W.keepIn K (.ref v_a_forgotten) = true)
    (g_g_forgotten : PySem.W.nsIn K mainGlobals "forgotten" = some (some (.ref v_a_forgotten)))
    (l5 : K.lookup v_a_without = some ⟨oc5, od5, .func (PySem.W.fnOf "without" "without" (defArgs st_without) (defBody st_without) (defScope st_without) .none kV5 dc5 pm5 an5 cd5 ct5), sl5⟩)
    (c5 : PySem.W.codeIn K cd5 "without" = true)
    (k5 : PySem.W.keepIn K (.ref v_a_without) = true)
    (g_g_without : PySem.W.nsIn K mainGlobals "without" = some (some (.ref v_a_without)))
    (l6 : K.lookup v_a_changed = some ⟨oc6, od6, .func (PySem.W.fnOf "changed" "changed" (defArgs st_changed) (defBody st_changed) (defScope st_changed) .none kV6 dc6 pm6 an6 cd6 ct6), sl6⟩)
    (c6 : PySem.W.codeIn K cd6 "changed" = true)
    (k6 : PySem.W.keepIn K (.ref v_a_changed) = true)
    (g_g_changed : PySem.W.nsIn K mainGlobals "changed" = some (some (.ref v_a_changed)))
    (l7 : K.lookup v_a_is_name = some ⟨oc7, od7, .func (PySem.W.fnOf "is_name" "is_name" (defArgs st_is_name) (defBody st_is_name) (defScope st_is_name) .none kV7 dc7 pm7 an7 cd7 ct7), sl7⟩)
    (c7 : PySem.W.codeIn K cd7 "is_name" = true)
    (k7 : PySem.W.keepIn K (.ref v_a_is_name) = true)
    (g_g_is_name : PySem.W.nsIn K mainGlobals "is_name" = some (some (.ref v_a_is_name)))
    (l8 : K.lookup v_a_begins_order = some ⟨oc8, od8, .func (PySem.W.fnOf "begins_order" "begins_order" (defArgs st_begins_order) (defBody st_begins_order) (defScope st_begins_order) .none kV8 dc8 pm8 an8 cd8 ct8), sl8⟩)
    (c8 : PySem.W.codeIn K cd8 "begins_order" = true)
    (k8 : PySem.W.keepIn K (.ref v_a_begins_order) = true)
    (g_g_begins_order : PySem.W.nsIn K mainGlobals "begins_order" = some (some (.ref v_a_begins_order)))
    (l9 : K.lookup v_a_read_at = some ⟨oc9, od9, .func (PySem.W.fnOf "read_at" "read_at" (defArgs st_read_at) (defBody st_read_at) (defScope st_read_at) .none kV9 dc9 pm9 an9 cd9 ct9), sl9⟩)
    (c9 : PySem.W.codeIn K cd9 "read_at" = true)
    (k9 : PySem.W.keepIn K (.ref v_a_read_at) = true)
    (g_g_read_at : PySem.W.nsIn K mainGlobals "read_at" = some (some (.ref v_a_read_at)))
    (l10 : K.lookup v_a__law_cell_at = some ⟨oc10, od10, .func (PySem.W.fnOf "_law_cell_at" "_law_cell_at" (defArgs st__law_cell_at) (defBody st__law_cell_at) (defScope st__law_cell_at) .none kV10 dc10 pm10 an10 cd10 ct10), sl10⟩)
    (c10 : PySem.W.codeIn K cd10 "_law_cell_at" = true)
    (k10 : PySem.W.keepIn K (.ref v_a__law_cell_at) = true)
    (g_g__law_cell_at : PySem.W.nsIn K mainGlobals "_law_cell_at" = some (some (.ref v_a__law_cell_at)))
    (l11 : K.lookup v_a__law_pieces = some ⟨oc11, od11, .func (PySem.W.fnOf "_law_pieces" "_law_pieces" (defArgs st__law_pieces) (defBody st__law_pieces) (defScope st__law_pieces) .none kV11 dc11 pm11 an11 cd11 ct11), sl11⟩)
    (c11 : PySem.W.codeIn K cd11 "_law_pieces" = true)
    (k11 : PySem.W.keepIn K (.ref v_a__law_pieces) = true)
    (g_g__law_pieces : PySem.W.nsIn K mainGlobals "_law_pieces" = some (some (.ref v_a__law_pieces)))
    (l12 : K.lookup v_a__law_names = some ⟨oc12, od12, .func (PySem.W.fnOf "_law_names" "_law_names" (defArgs st__law_names) (defBody st__law_names) (defScope st__law_names) .none kV12 dc12 pm12 an12 cd12 ct12), sl12⟩)
    (c12 : PySem.W.codeIn K cd12 "_law_names" = true)
    (k12 : PySem.W.keepIn K (.ref v_a__law_names) = true)
    (g_g__law_names : PySem.W.nsIn K mainGlobals "_law_names" = some (some (.ref v_a__law_names)))
    (l13 : K.lookup v_a__law_rule = some ⟨oc13, od13, .func (PySem.W.fnOf "_law_rule" "_law_rule" (defArgs st__law_rule) (defBody st__law_rule) (defScope st__law_rule) .none kV13 dc13 pm13 an13 cd13 ct13), sl13⟩)
    (c13 : PySem.W.codeIn K cd13 "_law_rule" = true)
    (k13 : PySem.W.keepIn K (.ref v_a__law_rule) = true)
    (g_g__law_rule : PySem.W.nsIn K mainGlobals "_law_rule" = some (some (.ref v_a__law_rule)))
    (l14 : K.lookup v_a__law_lines = some ⟨oc14, od14, .func (PySem.W.fnOf "_law_lines" "_law_lines" (defArgs st__law_lines) (defBody st__law_lines) (defScope st__law_lines) .none kV14 dc14 pm14 an14 cd14 ct14), sl14⟩)
    (c14 : PySem.W.codeIn K cd14 "_law_lines" = true)
    (k14 : PySem.W.keepIn K (.ref v_a__law_lines) = true)
    (g_g__law_lines : PySem.W.nsIn K mainGlobals "_law_lines" = some (some (.ref v_a__law_lines)))
    (l15 : K.lookup v_a_Book_begin = some ⟨oc15, od15, .func (PySem.W.fnOf "begin" "Book.begin" (defArgs st_Book_begin) (defBody st_Book_begin) (defScope st_Book_begin) .none kV15 dc15 pm15 an15 cd15 ct15), sl15⟩)
    (c15 : PySem.W.codeIn K cd15 "Book.begin" = true)
    (k15 : PySem.W.keepIn K (.ref v_a_Book_begin) = true)
    (l16 : K.lookup v_a_Book_init = some ⟨oc16, od16, .func (PySem.W.fnOf "__init__" "Book.__init__" (defArgs st_Book_init) (defBody st_Book_init) (defScope st_Book_init) .none kV16 dc16 pm16 an16 cd16 ct16), sl16⟩)
    (c16 : PySem.W.codeIn K cd16 "Book.__init__" = true)
    (k16 : PySem.W.keepIn K (.ref v_a_Book_init) = true)
    (l17 : K.lookup v_a_Book_names = some ⟨oc17, od17, .func (PySem.W.fnOf "names" "Book.names" (defArgs st_Book_names) (defBody st_Book_names) (defScope st_Book_names) .none kV17 dc17 pm17 an17 cd17 ct17), sl17⟩)
    (c17 : PySem.W.codeIn K cd17 "Book.names" = true)
    (k17 : PySem.W.keepIn K (.ref v_a_Book_names) = true)
    (l18 : K.lookup v_a_Book_line_of = some ⟨oc18, od18, .func (PySem.W.fnOf "line_of" "Book.line_of" (defArgs st_Book_line_of) (defBody st_Book_line_of) (defScope st_Book_line_of) .none kV18 dc18 pm18 an18 cd18 ct18), sl18⟩)
    (c18 : PySem.W.codeIn K cd18 "Book.line_of" = true)
    (k18 : PySem.W.keepIn K (.ref v_a_Book_line_of) = true)
    (l19 : K.lookup v_a_Book_rules_of = some ⟨oc19, od19, .func (PySem.W.fnOf "rules_of" "Book.rules_of" (defArgs st_Book_rules_of) (defBody st_Book_rules_of) (defScope st_Book_rules_of) .none kV19 dc19 pm19 an19 cd19 ct19), sl19⟩)
    (c19 : PySem.W.codeIn K cd19 "Book.rules_of" = true)
    (k19 : PySem.W.keepIn K (.ref v_a_Book_rules_of) = true)
    (l20 : K.lookup v_a_law = some ⟨oc20, od20, .func (PySem.W.fnOf "law" "law" (defArgs st_law) (defBody st_law) (defScope st_law) .none kV20 dc20 pm20 an20 cd20 ct20), sl20⟩)
    (c20 : PySem.W.codeIn K cd20 "law" = true)
    (k20 : PySem.W.keepIn K (.ref v_a_law) = true)
    (g_g_law : PySem.W.nsIn K mainGlobals "law" = some (some (.ref v_a_law)))
    (l21 : K.lookup v_xi_NoRule = some ⟨oc21, od21, .func (PySem.W.fnOf "__init__" "NoRule.__init__" (defArgs xs_NoRule) (defBody xs_NoRule) (defScope xs_NoRule) .none kV21 dc21 pm21 an21 cd21 ct21), sl21⟩)
    (c21 : PySem.W.codeIn K cd21 "NoRule.__init__" = true)
    (k21 : PySem.W.keepIn K (.ref v_xi_NoRule) = true)
    (xl_xk_NoRule : K.lookup v_xk_NoRule = some (excClassObj nm_xk_NoRule q_xk_NoRule v_xk_NoRule N_xk_NoRule bs_xk_NoRule bm_xk_NoRule true sn_xk_NoRule sub_xk_NoRule ab_xk_NoRule col_xk_NoRule dd_xk_NoRule m0_xk_NoRule m1_xk_NoRule m2_xk_NoRule m3_xk_NoRule m5_xk_NoRule "ValueError.__new__"))
    (xr_xk_NoRule : PySem.HandSPX.refsVE bm_xk_NoRule = true)
    (xsa_xk_NoRule : PySem.W.findIn K (.ref v_xk_NoRule) "__setattr__" = some (some (.builtin "object.__setattr__")))
    (xex_xk_NoRule : PySem.W.subIn K (.ref v_xk_NoRule) (.type "BaseException") = some true)
    (xty_xk_NoRule : PySem.W.typeIn K (.ref v_xk_NoRule) = some (.type "type"))
    (xkc_xk_NoRule : PySem.W.keepIn K (.ref v_xk_NoRule) = true)
    (p_xc_NoRule : PySem.W.findIn K (.ref v_xk_NoRule) "__init__" = some (some (.ref v_xi_NoRule)))
    (p_xt_NoRule : PySem.W.typeIn K (.ref v_xi_NoRule) = some (.type "function"))
    (p_xn_NoRule : PySem.W.findIn K (.ref v_xk_NoRule) "at" = some none)
    (g_xm_NoRule : PySem.W.nsIn K mainGlobals "NoRule" = some (some (.ref v_xk_NoRule)))
    (l22 : K.lookup v_xi_Twice = some ⟨oc22, od22, .func (PySem.W.fnOf "__init__" "Twice.__init__" (defArgs xs_Twice) (defBody xs_Twice) (defScope xs_Twice) .none kV22 dc22 pm22 an22 cd22 ct22), sl22⟩)
    (c22 : PySem.W.codeIn K cd22 "Twice.__init__" = true)
    (k22 : PySem.W.keepIn K (.ref v_xi_Twice) = true)
    (xl_xk_Twice : K.lookup v_xk_Twice = some (excClassObj nm_xk_Twice q_xk_Twice v_xk_Twice N_xk_Twice bs_xk_Twice bm_xk_Twice true sn_xk_Twice sub_xk_Twice ab_xk_Twice col_xk_Twice dd_xk_Twice m0_xk_Twice m1_xk_Twice m2_xk_Twice m3_xk_Twice m5_xk_Twice "ValueError.__new__"))
    (xr_xk_Twice : PySem.HandSPX.refsVE bm_xk_Twice = true)
    (xsa_xk_Twice : PySem.W.findIn K (.ref v_xk_Twice) "__setattr__" = some (some (.builtin "object.__setattr__")))
    (xex_xk_Twice : PySem.W.subIn K (.ref v_xk_Twice) (.type "BaseException") = some true)
    (xty_xk_Twice : PySem.W.typeIn K (.ref v_xk_Twice) = some (.type "type"))
    (xkc_xk_Twice : PySem.W.keepIn K (.ref v_xk_Twice) = true)
    (p_xc_Twice : PySem.W.findIn K (.ref v_xk_Twice) "__init__" = some (some (.ref v_xi_Twice)))
    (p_xt_Twice : PySem.W.typeIn K (.ref v_xi_Twice) = some (.type "function"))
    (p_xn_Twice : PySem.W.findIn K (.ref v_xk_Twice) "name" = some none)
    (g_xm_Twice : PySem.W.nsIn K mainGlobals "Twice" = some (some (.ref v_xk_Twice)))
    (l23 : K.lookup v_xi_NoName = some ⟨oc23, od23, .func (PySem.W.fnOf "__init__" "NoName.__init__" (defArgs xs_NoName) (defBody xs_NoName) (defScope xs_NoName) .none kV23 dc23 pm23 an23 cd23 ct23), sl23⟩)
    (c23 : PySem.W.codeIn K cd23 "NoName.__init__" = true)
    (k23 : PySem.W.keepIn K (.ref v_xi_NoName) = true)
    (xl_xk_NoName : K.lookup v_xk_NoName = some (excClassObj nm_xk_NoName q_xk_NoName v_xk_NoName N_xk_NoName bs_xk_NoName bm_xk_NoName true sn_xk_NoName sub_xk_NoName ab_xk_NoName col_xk_NoName dd_xk_NoName m0_xk_NoName m1_xk_NoName m2_xk_NoName m3_xk_NoName m5_xk_NoName "ValueError.__new__"))
    (xr_xk_NoName : PySem.HandSPX.refsVE bm_xk_NoName = true)
    (xsa_xk_NoName : PySem.W.findIn K (.ref v_xk_NoName) "__setattr__" = some (some (.builtin "object.__setattr__")))
    (xex_xk_NoName : PySem.W.subIn K (.ref v_xk_NoName) (.type "BaseException") = some true)
    (xty_xk_NoName : PySem.W.typeIn K (.ref v_xk_NoName) = some (.type "type"))
    (xkc_xk_NoName : PySem.W.keepIn K (.ref v_xk_NoName) = true)
    (p_xc_NoName : PySem.W.findIn K (.ref v_xk_NoName) "__init__" = some (some (.ref v_xi_NoName)))
    (p_xt_NoName : PySem.W.typeIn K (.ref v_xi_NoName) = some (.type "function"))
    (p_xn_NoName : PySem.W.findIn K (.ref v_xk_NoName) "name" = some none)
    (g_xm_NoName : PySem.W.nsIn K mainGlobals "NoName" = some (some (.ref v_xk_NoName)))
    (l24 : K.lookup v_xi_Ring = some ⟨oc24, od24, .func (PySem.W.fnOf "__init__" "Ring.__init__" (defArgs xs_Ring) (defBody xs_Ring) (defScope xs_Ring) .none kV24 dc24 pm24 an24 cd24 ct24), sl24⟩)
    (c24 : PySem.W.codeIn K cd24 "Ring.__init__" = true)
    (k24 : PySem.W.keepIn K (.ref v_xi_Ring) = true)
    (xl_xk_Ring : K.lookup v_xk_Ring = some (excClassObj nm_xk_Ring q_xk_Ring v_xk_Ring N_xk_Ring bs_xk_Ring bm_xk_Ring true sn_xk_Ring sub_xk_Ring ab_xk_Ring col_xk_Ring dd_xk_Ring m0_xk_Ring m1_xk_Ring m2_xk_Ring m3_xk_Ring m5_xk_Ring "ValueError.__new__"))
    (xr_xk_Ring : PySem.HandSPX.refsVE bm_xk_Ring = true)
    (xsa_xk_Ring : PySem.W.findIn K (.ref v_xk_Ring) "__setattr__" = some (some (.builtin "object.__setattr__")))
    (xex_xk_Ring : PySem.W.subIn K (.ref v_xk_Ring) (.type "BaseException") = some true)
    (xty_xk_Ring : PySem.W.typeIn K (.ref v_xk_Ring) = some (.type "type"))
    (xkc_xk_Ring : PySem.W.keepIn K (.ref v_xk_Ring) = true)
    (p_xc_Ring : PySem.W.findIn K (.ref v_xk_Ring) "__init__" = some (some (.ref v_xi_Ring)))
    (p_xt_Ring : PySem.W.typeIn K (.ref v_xi_Ring) = some (.type "function"))
    (p_xn_Ring : PySem.W.findIn K (.ref v_xk_Ring) "around" = some none)
    (g_xm_Ring : PySem.W.nsIn K mainGlobals "Ring" = some (some (.ref v_xk_Ring)))
    (p_xe_NoRule_NoRule : PySem.W.exmOne K (.ref v_xk_NoRule) (.ref v_xk_NoRule) = some true)
    (p_xe_NoRule_Twice : PySem.W.exmOne K (.ref v_xk_Twice) (.ref v_xk_NoRule) = some false)
    (p_xe_NoRule_NoName : PySem.W.exmOne K (.ref v_xk_NoName) (.ref v_xk_NoRule) = some false)
    (p_xe_NoRule_Ring : PySem.W.exmOne K (.ref v_xk_Ring) (.ref v_xk_NoRule) = some false)
    (pg_k_Book : PySem.W.plainGet K v_k_Book Str.empty = true)
    (hd_k_Book : PySem.W.hasDictIn K v_k_Book = true)
    (po_k_Book : PySem.W.plainOver K v_k_Book = true)
    (sa_k_Book : PySem.W.findIn K (.ref v_k_Book) "__setattr__" = some (some (.builtin "object.__setattr__")))
    (g_gm_Book : PySem.W.nsIn K mainGlobals "Book" = some (some (.ref v_k_Book)))
    (mm_k_Book : PySem.W.makesIn K v_k_Book = true)
    (mi_k_Book : PySem.W.findIn K (.ref v_k_Book) "__init__" = some (some (.ref v_a_Book_init)))
    (mf_k_Book : PySem.W.isFn K (.ref v_a_Book_init) = true)
    (mk_k_Book : PySem.W.keepIn K (.ref v_k_Book) = true)
    (ta_a_Book_begin : PySem.W.findIn K (.ref v_k_Book) "begin" = some (some (.ref v_a_Book_begin)))
    (tf_a_Book_begin : PySem.W.isFn K (.ref v_a_Book_begin) = true)
    (ta_a_Book_names : PySem.W.findIn K (.ref v_k_Book) "names" = some (some (.ref v_a_Book_names)))
    (tf_a_Book_names : PySem.W.isFn K (.ref v_a_Book_names) = true)
    (ta_a_Book_line_of : PySem.W.findIn K (.ref v_k_Book) "line_of" = some (some (.ref v_a_Book_line_of)))
    (tf_a_Book_line_of : PySem.W.isFn K (.ref v_a_Book_line_of) = true)
    (ta_a_Book_rules_of : PySem.W.findIn K (.ref v_k_Book) "rules_of" = some (some (.ref v_a_Book_rules_of)))
    (tf_a_Book_rules_of : PySem.W.isFn K (.ref v_a_Book_rules_of) = true)
    (na_na_Book_elders : PySem.W.findIn K (.ref v_k_Book) "elders" = some none)
    (na_na_Book_own : PySem.W.findIn K (.ref v_k_Book) "own" = some none)
    (g_gm_LEAST : PySem.W.nsIn K mainGlobals "LEAST" = some (some (.ref v_ga_LEAST)))
    (dw_ga_LEAST : He.dicW K v_ga_LEAST = some (He.keysIn w.params ["row", "marks", "great", "as", "over", "figures", "blanks", "behind", "forget"]))
    (ds_ga_LEAST : dsc K v_ga_LEAST = some (tab_LEAST.map fun p => (strV p.1, encS p.2)))
    (cc_c_MOST : PySem.W.nsIn K mainGlobals "MOST" = some (some (.int 8 tk_c_MOST)))
    (cc_c_SMALL : PySem.W.nsIn K mainGlobals "SMALL" = some (some (.str "abcdefghijklmnopqrstuvwxyz" tk_c_SMALL)))
    (z_n_all : PySem.W.nsIn K mainGlobals "all" = some none)
    (z_n_enumerate : PySem.W.nsIn K mainGlobals "enumerate" = some none)
    (z_n_isinstance : PySem.W.nsIn K mainGlobals "isinstance" = some none)
    (z_n_len : PySem.W.nsIn K mainGlobals "len" = some none)
    (z_n_list : PySem.W.nsIn K mainGlobals "list" = some none)
    (z_n_ord : PySem.W.nsIn K mainGlobals "ord" = some none)
    (z_n_range : PySem.W.nsIn K mainGlobals "range" = some none)
    (z_n_reversed : PySem.W.nsIn K mainGlobals "reversed" = some none)
    (z_n_str : PySem.W.nsIn K mainGlobals "str" = some none)
    (z_n_tuple : PySem.W.nsIn K mainGlobals "tuple" = some none)
    : ∃ fd : FuncData, (∀ (s : Shared) (v : Value), BindsTo s fd ⟨[v], []⟩ [("_law_script", v)]) ∧ ∀ base : Heap, K.In base → base.Ns mainGlobals mg → FnOk l.prog w K mg base (CXm false l.prog w) 8 fa fd ["_law_script"] (spLaw K) := by
  have e := hfa.symm.trans (PySem.W.mg_of X G g_g_law)
  cases e
  have F1 := fun_mk (st := st_is_sign) l1 c1 k1
  have b1 := F1.binds (ps := ps_is_sign) fun _ _ _ _ _ _ us hl => match us, hl with | [_], _ => rfl
  have F2 := fun_mk (st := st_is_piece) l2 c2 k2
  have b2 := F2.binds (ps := ps_is_piece) fun _ _ _ _ _ _ us hl => match us, hl with | [_], _ => rfl
  have F3 := fun_mk (st := st_read_rule) l3 c3 k3
  have b3 := F3.binds (ps := ps_read_rule) fun _ _ _ _ _ _ us hl => match us, hl with | [_], _ => rfl
  have F4 := fun_mk (st := st_forgotten) l4 c4 k4
  have b4 := F4.binds (ps := ps_forgotten) fun _ _ _ _ _ _ us hl => match us, hl with | [_], _ => rfl
  have F5 := fun_mk (st := st_without) l5 c5 k5
  have b5 := F5.binds (ps := ps_without) fun _ _ _ _ _ _ us hl => match us, hl with | [_, _], _ => rfl
  have F6 := fun_mk (st := st_changed) l6 c6 k6
  have b6 := F6.binds (ps := ps_changed) fun _ _ _ _ _ _ us hl => match us, hl with | [_, _], _ => rfl
  have F7 := fun_mk (st := st_is_name) l7 c7 k7
  have b7 := F7.binds (ps := ps_is_name) fun _ _ _ _ _ _ us hl => match us, hl with | [_], _ => rfl
  have F8 := fun_mk (st := st_begins_order) l8 c8 k8
  have b8 := F8.binds (ps := ps_begins_order) fun _ _ _ _ _ _ us hl => match us, hl with | [_], _ => rfl
  have F9 := fun_mk (st := st_read_at) l9 c9 k9
  have b9 := F9.binds (ps := ps_read_at) fun _ _ _ _ _ _ us hl => match us, hl with | [_, _], _ => rfl
  have F10 := fun_mk (st := st__law_cell_at) l10 c10 k10
  have b10 := F10.binds (ps := ps__law_cell_at) fun _ _ _ _ _ _ us hl => match us, hl with | [_, _], _ => rfl
  have F11 := fun_mk (st := st__law_pieces) l11 c11 k11
  have b11 := F11.binds (ps := ps__law_pieces) fun _ _ _ _ _ _ us hl => match us, hl with | [_, _], _ => rfl
  have F12 := fun_mk (st := st__law_names) l12 c12 k12
  have b12 := F12.binds (ps := ps__law_names) fun _ _ _ _ _ _ us hl => match us, hl with | [_, _], _ => rfl
  have F13 := fun_mk (st := st__law_rule) l13 c13 k13
  have b13 := F13.binds (ps := ps__law_rule) fun _ _ _ _ _ _ us hl => match us, hl with | [_, _], _ => rfl
  have F14 := fun_mk (st := st__law_lines) l14 c14 k14
  have b14 := F14.binds (ps := ps__law_lines) fun _ _ _ _ _ _ us hl => match us, hl with | [_, _, _], _ => rfl
  have F15 := fun_mk (st := st_Book_begin) l15 c15 k15
  have b15 := F15.binds (ps := ps_Book_begin) fun _ _ _ _ _ _ us hl => match us, hl with | [_, _, _], _ => rfl
  have F16 := fun_mk (st := st_Book_init) l16 c16 k16
  have b16 := F16.binds (ps := ps_Book_init) fun _ _ _ _ _ _ us hl => match us, hl with | [_, _], _ => rfl
  have F17 := fun_mk (st := st_Book_names) l17 c17 k17
  have b17 := F17.binds (ps := ps_Book_names) fun _ _ _ _ _ _ us hl => match us, hl with | [_], _ => rfl
  have F18 := fun_mk (st := st_Book_line_of) l18 c18 k18
  have b18 := F18.binds (ps := ps_Book_line_of) fun _ _ _ _ _ _ us hl => match us, hl with | [_, _], _ => rfl
  have F19 := fun_mk (st := st_Book_rules_of) l19 c19 k19
  have b19 := F19.binds (ps := ps_Book_rules_of) fun _ _ _ _ _ _ us hl => match us, hl with | [_, _], _ => rfl
  have F20 := fun_mk (st := st_law) l20 c20 k20
  have b20 := F20.binds (ps := ps_law) fun _ _ _ _ _ _ us hl => match us, hl with | [_], _ => rfl
  have F21 := fun_mk (st := xs_NoRule) l21 c21 k21
  have b21 := F21.binds (ps := xp_NoRule) fun _ _ _ _ _ _ us hl => match us, hl with | [_, _], _ => rfl
  have F22 := fun_mk (st := xs_Twice) l22 c22 k22
  have b22 := F22.binds (ps := xp_Twice) fun _ _ _ _ _ _ us hl => match us, hl with | [_, _], _ => rfl
  have F23 := fun_mk (st := xs_NoName) l23 c23 k23
  have b23 := F23.binds (ps := xp_NoName) fun _ _ _ _ _ _ us hl => match us, hl with | [_, _], _ => rfl
  have F24 := fun_mk (st := xs_Ring) l24 c24 k24
  have b24 := F24.binds (ps := xp_Ring) fun _ _ _ _ _ _ us hl => match us, hl with | [_, _], _ => rfl
  let T : Tx w K mg := ⟨v_a_is_sign,
    _,
    F1,
    b1,
    PySem.W.mg_of X G g_g_is_sign,
    v_a_is_piece,
    _,
    F2,
    b2,
    PySem.W.mg_of X G g_g_is_piece,
    v_a_read_rule,
    _,
    F3,
    b3,
    PySem.W.mg_of X G g_g_read_rule,
    v_a_forgotten,
    _,
    F4,
    b4,
    PySem.W.mg_of X G g_g_forgotten,
    v_a_without,
    _,
    F5,
    b5,
    PySem.W.mg_of X G g_g_without,
    v_a_changed,
    _,
    F6,
    b6,
    PySem.W.mg_of X G g_g_changed,
    v_a_is_name,
    _,
    F7,
    b7,
    PySem.W.mg_of X G g_g_is_name,
    v_a_begins_order,
    _,
    F8,
    b8,
    PySem.W.mg_of X G g_g_begins_order,
    v_a_read_at,
    _,
    F9,
    b9,
    PySem.W.mg_of X G g_g_read_at,
    v_a__law_cell_at,
    _,
    F10,
    b10,
    PySem.W.mg_of X G g_g__law_cell_at,
    v_a__law_pieces,
    _,
    F11,
    b11,
    PySem.W.mg_of X G g_g__law_pieces,
    v_a__law_names,
    _,
    F12,
    b12,
    PySem.W.mg_of X G g_g__law_names,
    v_a__law_rule,
    _,
    F13,
    b13,
    PySem.W.mg_of X G g_g__law_rule,
    v_a__law_lines,
    _,
    F14,
    b14,
    PySem.W.mg_of X G g_g__law_lines,
    v_a_Book_begin,
    _,
    F15,
    b15,
    v_a_Book_init,
    _,
    F16,
    b16,
    v_a_Book_names,
    _,
    F17,
    b17,
    v_a_Book_line_of,
    _,
    F18,
    b18,
    v_a_Book_rules_of,
    _,
    F19,
    b19,
    fa,
    _,
    F20,
    b20,
    PySem.W.mg_of X G g_g_law,
    v_xk_NoRule,
    v_xi_NoRule,
    _,
    F21,
    b21,
    ⟨⟨_, _, _, _, _, _, _, _, _, _, _, _, _, _, _, xl_xk_NoRule, xr_xk_NoRule⟩, xsa_xk_NoRule, xex_xk_NoRule, xty_xk_NoRule, xkc_xk_NoRule⟩,
    p_xc_NoRule,
    p_xt_NoRule,
    p_xn_NoRule,
    PySem.W.mg_of X G g_xm_NoRule,
    v_xk_Twice,
    v_xi_Twice,
    _,
    F22,
    b22,
    ⟨⟨_, _, _, _, _, _, _, _, _, _, _, _, _, _, _, xl_xk_Twice, xr_xk_Twice⟩, xsa_xk_Twice, xex_xk_Twice, xty_xk_Twice, xkc_xk_Twice⟩,
    p_xc_Twice,
    p_xt_Twice,
    p_xn_Twice,
    PySem.W.mg_of X G g_xm_Twice,
    v_xk_NoName,
    v_xi_NoName,
    _,
    F23,
    b23,
    ⟨⟨_, _, _, _, _, _, _, _, _, _, _, _, _, _, _, xl_xk_NoName, xr_xk_NoName⟩, xsa_xk_NoName, xex_xk_NoName, xty_xk_NoName, xkc_xk_NoName⟩,
    p_xc_NoName,
    p_xt_NoName,
    p_xn_NoName,
    PySem.W.mg_of X G g_xm_NoName,
    v_xk_Ring,
    v_xi_Ring,
    _,
    F24,
    b24,
    ⟨⟨_, _, _, _, _, _, _, _, _, _, _, _, _, _, _, xl_xk_Ring, xr_xk_Ring⟩, xsa_xk_Ring, xex_xk_Ring, xty_xk_Ring, xkc_xk_Ring⟩,
    p_xc_Ring,
    p_xt_Ring,
    p_xn_Ring,
    PySem.W.mg_of X G g_xm_Ring,
    p_xe_NoRule_NoRule,
    p_xe_NoRule_Twice,
    p_xe_NoRule_NoName,
    p_xe_NoRule_Ring,
    v_k_Book,
    ⟨pg_k_Book, hd_k_Book, po_k_Book, sa_k_Book⟩,
    PySem.W.mg_of X G g_gm_Book,
    ⟨mm_k_Book, mi_k_Book, mf_k_Book, mk_k_Book⟩,
    ⟨ta_a_Book_begin, tf_a_Book_begin, k15⟩,
    ⟨ta_a_Book_names, tf_a_Book_names, k17⟩,
    ⟨ta_a_Book_line_of, tf_a_Book_line_of, k18⟩,
    ⟨ta_a_Book_rules_of, tf_a_Book_rules_of, k19⟩,
    na_na_Book_elders,
    na_na_Book_own,
    v_ga_LEAST,
    PySem.W.mg_of X G g_gm_LEAST,
    ⟨He.dicW_ok dw_ga_LEAST, ds_ga_LEAST⟩,
    ⟨_, PySem.W.mg_of X G cc_c_MOST, ⟨_, rfl⟩⟩,
    ⟨_, PySem.W.mg_of X G cc_c_SMALL, ⟨_, rfl⟩⟩,
    PySem.W.mg_none_of X G z_n_all,
    PySem.W.mg_none_of X G z_n_enumerate,
    PySem.W.mg_none_of X G z_n_isinstance,
    PySem.W.mg_none_of X G z_n_len,
    PySem.W.mg_none_of X G z_n_list,
    PySem.W.mg_none_of X G z_n_ord,
    PySem.W.mg_none_of X G z_n_range,
    PySem.W.mg_none_of X G z_n_reversed,
    PySem.W.mg_none_of X G z_n_str,
    PySem.W.mg_none_of X G z_n_tuple⟩
  refine ⟨T.fd_law, fun s v => .of_eq rfl, fun base _ _ => ?_⟩
  exact FnOk.imp (ok_law T) fun vs H Q E h => h (RT0 T)
end LW
open PySem PySem.W PyProof.Rows
set_option maxHeartbeats 0 in
theorem PySem.Challenge.cw_sortlore_k84_a_book_read_holds : PySem.Challenge.rw_sortlore_k84_a_book_read.Holds := by
  w_on; o_law; k_head; (case hw => w_witness2)
  k_fill
  refine L2.walk_of (l := PySem.Challenge.rw_sortlore_k84_a_book_read) (n := 63) (k := 8) (x := "_law_script") (CX := fun w => DL.CXm false PySem.Challenge.pw_sortlore_k84_a_book_read w) (sp := fun w => LW.spLaw _) rfl (by decide) rfl ⟨rfl, by decide, by decide⟩ (fun w h Y => PySem.W.kIn_of Y) ?F (fun _ _ a ns hl _ hS => LW.law_sp hl hS) (fun _ _ _ _ _ h => LW.cx_no h)
  case F =>
    intro w mg fa h KX G hmg
    refine' LW.all_mk KX G hmg ?l1 ?c1 ?k1 ?g_g_is_sign ?l2 ?c2 ?k2 ?g_g_is_piece ?l3 ?c3 ?k3 ?g_g_read_rule ?l4 ?c4 ?k4 ?g_g_forgotten ?l5 ?c5 ?k5 ?g_g_without ?l6 ?c6 ?k6 ?g_g_changed ?l7 ?c7 ?k7 ?g_g_is_name ?l8 ?c8 ?k8 ?g_g_begins_order ?l9 ?c9 ?k9 ?g_g_read_at ?l10 ?c10 ?k10 ?g_g__law_cell_at ?l11 ?c11 ?k11 ?g_g__law_pieces ?l12 ?c12 ?k12 ?g_g__law_names ?l13 ?c13 ?k13 ?g_g__law_rule ?l14 ?c14 ?k14 ?g_g__law_lines ?l15 ?c15 ?k15 ?l16 ?c16 ?k16 ?l17 ?c17 ?k17 ?l18 ?c18 ?k18 ?l19 ?c19 ?k19 ?l20 ?c20 ?k20 ?g_g_law ?l21 ?c21 ?k21 ?xl_xk_NoRule ?xr_xk_NoRule ?xsa_xk_NoRule ?xex_xk_NoRule ?xty_xk_NoRule ?xkc_xk_NoRule ?p_xc_NoRule ?p_xt_NoRule ?p_xn_NoRule ?g_xm_NoRule ?l22 ?c22 ?k22 ?xl_xk_Twice ?xr_xk_Twice ?xsa_xk_Twice ?xex_xk_Twice ?xty_xk_Twice ?xkc_xk_Twice ?p_xc_Twice ?p_xt_Twice ?p_xn_Twice ?g_xm_Twice ?l23 ?c23 ?k23 ?xl_xk_NoName ?xr_xk_NoName ?xsa_xk_NoName ?xex_xk_NoName ?xty_xk_NoName ?xkc_xk_NoName ?p_xc_NoName ?p_xt_NoName ?p_xn_NoName ?g_xm_NoName ?l24 ?c24 ?k24 ?xl_xk_Ring ?xr_xk_Ring ?xsa_xk_Ring ?xex_xk_Ring ?xty_xk_Ring ?xkc_xk_Ring ?p_xc_Ring ?p_xt_Ring ?p_xn_Ring ?g_xm_Ring ?p_xe_NoRule_NoRule ?p_xe_NoRule_Twice ?p_xe_NoRule_NoName ?p_xe_NoRule_Ring ?pg_k_Book ?hd_k_Book ?po_k_Book ?sa_k_Book ?g_gm_Book ?mm_k_Book ?mi_k_Book ?mf_k_Book ?mk_k_Book ?ta_a_Book_begin ?tf_a_Book_begin ?ta_a_Book_names ?tf_a_Book_names ?ta_a_Book_line_of ?tf_a_Book_line_of ?ta_a_Book_rules_of ?tf_a_Book_rules_of ?na_na_Book_elders ?na_na_Book_own ?g_gm_LEAST ?dw_ga_LEAST ?ds_ga_LEAST ?cc_c_MOST ?cc_c_SMALL ?z_n_all ?z_n_enumerate ?z_n_isinstance ?z_n_len ?z_n_list ?z_n_ord ?z_n_range ?z_n_reversed ?z_n_str ?z_n_tuple
    (case g_g_is_sign => first | k_is | rfl)
    (case g_g_is_piece => first | k_is | rfl)
    (case g_g_read_rule => first | k_is | rfl)
    (case g_g_forgotten => first | k_is | rfl)
    (case g_g_without => first | k_is | rfl)
    (case g_g_changed => first | k_is | rfl)
    (case g_g_is_name => first | k_is | rfl)
    (case g_g_begins_order => first | k_is | rfl)
    (case g_g_read_at => first | k_is | rfl)
    (case g_g__law_cell_at => first | k_is | rfl)
    (case g_g__law_pieces => first | k_is | rfl)
    (case g_g__law_names => first | k_is | rfl)
    (case g_g__law_rule => first | k_is | rfl)
    (case g_g__law_lines => first | k_is | rfl)
    (case g_g_law => first | k_is | rfl)
    (case g_xm_NoRule => first | k_is | rfl)
    (case g_xm_Twice => first | k_is | rfl)
    (case g_xm_NoName => first | k_is | rfl)
    (case g_xm_Ring => first | k_is | rfl)
    (case g_gm_Book => first | k_is | rfl)
    (case g_gm_LEAST => first | k_is | rfl)
    (case p_xc_NoRule => first | k_is | rfl)
    (case p_xc_Twice => first | k_is | rfl)
    (case p_xc_NoName => first | k_is | rfl)
    (case p_xc_Ring => first | k_is | rfl)
    (case mi_k_Book => first | k_is | rfl)
    (case ta_a_Book_begin => first | k_is | rfl)
    (case ta_a_Book_names => first | k_is | rfl)
    (case ta_a_Book_line_of => first | k_is | rfl)
    (case ta_a_Book_rules_of => first | k_is | rfl)
    (case l1 => first | k_is | rfl)
    (case l2 => first | k_is | rfl)
    (case l3 => first | k_is | rfl)
    (case l4 => first | k_is | rfl)
    (case l5 => first | k_is | rfl)
    (case l6 => first | k_is | rfl)
    (case l7 => first | k_is | rfl)
    (case l8 => first | k_is | rfl)
    (case l9 => first | k_is | rfl)
    (case l10 => first | k_is | rfl)
    (case l11 => first | k_is | rfl)
    (case l12 => first | k_is | rfl)
    (case l13 => first | k_is | rfl)
    (case l14 => first | k_is | rfl)
    (case l15 => first | k_is | rfl)
    (case l16 => first | k_is | rfl)
    (case l17 => first | k_is | rfl)
    (case l18 => first | k_is | rfl)
    (case l19 => first | k_is | rfl)
    (case l20 => first | k_is | rfl)
    (case l21 => first | k_is | rfl)
    (case l22 => first | k_is | rfl)
    (case l23 => first | k_is | rfl)
    (case l24 => first | k_is | rfl)
    (case xl_xk_NoRule => first | k_is | rfl)
    (case xl_xk_Twice => first | k_is | rfl)
    (case xl_xk_NoName => first | k_is | rfl)
    (case xl_xk_Ring => first | k_is | rfl)
    (case c1 => first | k_is | rfl)
    (case k1 => first | k_is | rfl)
    (case c2 => first | k_is | rfl)
    (case k2 => first | k_is | rfl)
    (case c3 => first | k_is | rfl)
    (case k3 => first | k_is | rfl)
    (case c4 => first | k_is | rfl)
    (case k4 => first | k_is | rfl)
    (case c5 => first | k_is | rfl)
    (case k5 => first | k_is | rfl)
    (case c6 => first | k_is | rfl)
    (case k6 => first | k_is | rfl)
    (case c7 => first | k_is | rfl)
    (case k7 => first | k_is | rfl)
    (case c8 => first | k_is | rfl)
    (case k8 => first | k_is | rfl)
    (case c9 => first | k_is | rfl)
    (case k9 => first | k_is | rfl)
    (case c10 => first | k_is | rfl)
    (case k10 => first | k_is | rfl)
    (case c11 => first | k_is | rfl)
    (case k11 => first | k_is | rfl)
    (case c12 => first | k_is | rfl)
    (case k12 => first | k_is | rfl)
    (case c13 => first | k_is | rfl)
    (case k13 => first | k_is | rfl)
    (case c14 => first | k_is | rfl)
    (case k14 => first | k_is | rfl)
    (case c15 => first | k_is | rfl)
    (case k15 => first | k_is | rfl)
    (case c16 => first | k_is | rfl)
    (case k16 => first | k_is | rfl)
    (case c17 => first | k_is | rfl)
    (case k17 => first | k_is | rfl)
    (case c18 => first | k_is | rfl)
    (case k18 => first | k_is | rfl)
    (case c19 => first | k_is | rfl)
    (case k19 => first | k_is | rfl)
    (case c20 => first | k_is | rfl)
    (case k20 => first | k_is | rfl)
    (case c21 => first | k_is | rfl)
    (case k21 => first | k_is | rfl)
    (case xr_xk_NoRule => first | k_is | rfl)
    (case xsa_xk_NoRule => first | k_is | rfl)
    (case xex_xk_NoRule => first | k_is | rfl)
    (case xty_xk_NoRule => first | k_is | rfl)
    (case xkc_xk_NoRule => first | k_is | rfl)
    (case p_xt_NoRule => first | k_is | rfl)
    (case p_xn_NoRule => first | k_is | rfl)
    (case c22 => first | k_is | rfl)
    (case k22 => first | k_is | rfl)
    (case xr_xk_Twice => first | k_is | rfl)
    (case xsa_xk_Twice => first | k_is | rfl)
    (case xex_xk_Twice => first | k_is | rfl)
    (case xty_xk_Twice => first | k_is | rfl)
    (case xkc_xk_Twice => first | k_is | rfl)
    (case p_xt_Twice => first | k_is | rfl)
    (case p_xn_Twice => first | k_is | rfl)
    (case c23 => first | k_is | rfl)
    (case k23 => first | k_is | rfl)
    (case xr_xk_NoName => first | k_is | rfl)
    (case xsa_xk_NoName => first | k_is | rfl)
    (case xex_xk_NoName => first | k_is | rfl)
    (case xty_xk_NoName => first | k_is | rfl)
    (case xkc_xk_NoName => first | k_is | rfl)
    (case p_xt_NoName => first | k_is | rfl)
    (case p_xn_NoName => first | k_is | rfl)
    (case c24 => first | k_is | rfl)
    (case k24 => first | k_is | rfl)
    (case xr_xk_Ring => first | k_is | rfl)
    (case xsa_xk_Ring => first | k_is | rfl)
    (case xex_xk_Ring => first | k_is | rfl)
    (case xty_xk_Ring => first | k_is | rfl)
    (case xkc_xk_Ring => first | k_is | rfl)
    (case p_xt_Ring => first | k_is | rfl)
    (case p_xn_Ring => first | k_is | rfl)
    (case p_xe_NoRule_NoRule => first | k_is | rfl)
    (case p_xe_NoRule_Twice => first | k_is | rfl)
    (case p_xe_NoRule_NoName => first | k_is | rfl)
    (case p_xe_NoRule_Ring => first | k_is | rfl)
    (case pg_k_Book => first | k_is | rfl)
    (case hd_k_Book => first | k_is | rfl)
    (case po_k_Book => first | k_is | rfl)
    (case sa_k_Book => first | k_is | rfl)
    (case mm_k_Book => first | k_is | rfl)
    (case mf_k_Book => first | k_is | rfl)
    (case mk_k_Book => first | k_is | rfl)
    (case tf_a_Book_begin => first | k_is | rfl)
    (case tf_a_Book_names => first | k_is | rfl)
    (case tf_a_Book_line_of => first | k_is | rfl)
    (case tf_a_Book_rules_of => first | k_is | rfl)
    (case na_na_Book_elders => first | k_is | rfl)
    (case na_na_Book_own => first | k_is | rfl)
    (case dw_ga_LEAST => first | k_is | rfl)
    (case ds_ga_LEAST => first | k_is | rfl)
    (case cc_c_MOST => first | k_is | rfl)
    (case cc_c_SMALL => first | k_is | rfl)
    (case z_n_all => first | k_is | rfl)
    (case z_n_enumerate => first | k_is | rfl)
    (case z_n_isinstance => first | k_is | rfl)
    (case z_n_len => first | k_is | rfl)
    (case z_n_list => first | k_is | rfl)
    (case z_n_ord => first | k_is | rfl)
    (case z_n_range => first | k_is | rfl)
    (case z_n_reversed => first | k_is | rfl)
    (case z_n_str => first | k_is | rfl)
    (case z_n_tuple => first | k_is | rfl)
