import PyProof.Rows.All
import Wide.All
import OpenK.AllK
import Wide.FinOn
import HandS.ForMost
import HandS.Wide
import HandS.IsInst
import HandS.Zip
import HandS.Conv
import HandS.NoneIn
import HandS.SetFor
import HandS.More
import HandS.Flow
import HandS.Style
import HandS.DictComp
import HandS.Walk
import HandS.Defaults
import KE.KDictZip
import KE.GoesMore
import KE.GoesEnum
import HandS.Small
import KE.DataCmp
import HandS.Head2
import HandS.HeadHook2
import PySem.Challenge.RW_howfarback_k64_whole_windows_edits_and_r
import HandS.Head0
import HandS.Head1
import HandS.HeadEnd
import HandS.HeadHook1
section
set_option Elab.async false
set_option linter.all false
set_option maxRecDepth 100000
set_option maxHeartbeats 1000000
/-! La: values as data (D), what stands for them in the abstract heap (Rep), frozen and owned objects, states (StOk), steps (Step), and the judgements DE, DT, DA, DI, DG, DS: a piece of syntax denotes a plain function of the slots. -/
namespace Vd
open PySem L2

/-- data: what a Python value is, without addresses -/
inductive D where
  | non
  | bl (b : Bool)
  | int (i : Int)
  | str (x : Str)
  | scr (ns : List Int)
  | lst (xs : List D)
  | tup (xs : List D)
  | dic (kvs : List (Key × D))
  | ins (t : Nat) (xs : List D)

/-- the written part, the own classes by number: address, attribute names in the order of their making -/
structure Kx where
  K : PySem.W.Frag
  cm : Nat → Addr
  nm : Nat → List Str

mutual
inductive Rep (x : Kx) (F : Hp) : D → V → Prop
  | non : Rep x F .non .non
  | bl (b : Bool) : Rep x F (.bl b) (.bl b)
  | int (i : Int) : Rep x F (.int i) (.int i)
  | str (z : Str) : Rep x F (.str z) (.str z)
  | scr {a : Addr} {ns : List Int} : SqL x.K F a (ns.map V.int) → Rep x F (.scr ns) (.ref a)
  | lst {a : Addr} {xs : List V} {ds : List D} : F a = some (.lst xs) → RepL x F ds xs → Rep x F (.lst ds) (.ref a)
  | tup {a : Addr} {xs : List V} {ds : List D} : SqT x.K F a xs → RepL x F ds xs → Rep x F (.tup ds) (.ref a)
  | dic {a : Addr} {kvs : List (Key × V)} {ds : List (Key × D)} : F a = some (.dK kvs) → RepK x F ds kvs → Rep x F (.dic ds) (.ref a)
  | ins {a dx : Addr} {t : Nat} {xs : List V} {ds : List D} : F a = some (.ins (x.cm t) dx ((x.nm t).zip xs)) → RepL x F ds xs → Rep x F (.ins t ds) (.ref a)
inductive RepL (x : Kx) (F : Hp) : List D → List V → Prop
  | nil : RepL x F [] []
  | cons {d : D} {v : V} {ds : List D} {vs : List V} : Rep x F d v → RepL x F ds vs → RepL x F (d :: ds) (v :: vs)
inductive RepK (x : Kx) (F : Hp) : List (Key × D) → List (Key × V) → Prop
  | nil : RepK x F [] []
  | cons {k : Key} {d : D} {v : V} {ds : List (Key × D)} {vs : List (Key × V)} : Rep x F d v → RepK x F ds vs → RepK x F ((k, d) :: ds) ((k, v) :: vs)
end

theorem same_t {K : PySem.W.Frag} {H H' : Hp} {a : Addr} {xs : List V} (e : Same H H') (h : SqT K H a xs) : SqT K H' a xs := by
  rcases h with (h | ⟨o, h⟩) | h
  · exact .inl (.inl (e _ _ h))
  · exact .inl (.inr ⟨o, e _ _ h⟩)
  · exact .inr h
mutual
theorem Rep.mono {x : Kx} {F F' : Hp} (s : Same F F') : ∀ {d : D} {v : V}, Rep x F d v → Rep x F' d v
  | _, _, .non => .non
  | _, _, .bl b => .bl b
  | _, _, .int i => .int i
  | _, _, .str z => .str z
  | _, _, .scr h => .scr (s.seq h)
  | _, _, .lst h r => .lst (s _ _ h) (RepL.mono s r)
  | _, _, .tup h r => .tup (same_t s h) (RepL.mono s r)
  | _, _, .dic h r => .dic (s _ _ h) (RepK.mono s r)
  | _, _, .ins h r => .ins (s _ _ h) (RepL.mono s r)
theorem RepL.mono {x : Kx} {F F' : Hp} (s : Same F F') : ∀ {ds : List D} {vs : List V}, RepL x F ds vs → RepL x F' ds vs
  | _, _, .nil => .nil
  | _, _, .cons h r => .cons (Rep.mono s h) (RepL.mono s r)
theorem RepK.mono {x : Kx} {F F' : Hp} (s : Same F F') : ∀ {ds : List (Key × D)} {vs : List (Key × V)}, RepK x F ds vs → RepK x F' ds vs
  | _, _, .nil => .nil
  | _, _, .cons h r => .cons (Rep.mono s h) (RepK.mono s r)
end
section
variable {x : Kx} {F : Hp}
theorem RepL.len : ∀ {ds : List D} {vs : List V}, RepL x F ds vs → vs.length = ds.length
  | _, _, .nil => rfl
  | _, _, .cons _ r => congrArg Nat.succ r.len
theorem RepL.get : ∀ {ds : List D} {vs : List V} {i : Nat} {d : D}, RepL x F ds vs → ds[i]? = some d → ∃ v, vs[i]? = some v ∧ Rep x F d v
  | _, _, _, _, .nil, e => by simp at e
  | _, _, 0, _, .cons h _, e => by simp at e; subst e; exact ⟨_, rfl, h⟩
  | _, _, i + 1, d, .cons _ r, e => by
    obtain ⟨v, h1, h2⟩ := RepL.get (i := i) (d := d) r (by simpa using e)
    exact ⟨v, by simpa using h1, h2⟩
theorem RepL.get' : ∀ {ds : List D} {vs : List V} {i : Nat} {v : V}, RepL x F ds vs → vs[i]? = some v → ∃ d, ds[i]? = some d ∧ Rep x F d v
  | _, _, _, _, .nil, e => by simp at e
  | _, _, 0, _, .cons h _, e => by simp at e; subst e; exact ⟨_, rfl, h⟩
  | _, _, i + 1, v, .cons _ r, e => by
    obtain ⟨d, h1, h2⟩ := RepL.get' (i := i) (v := v) r (by simpa using e)
    exact ⟨d, by simpa using h1, h2⟩
theorem RepL.app : ∀ {ds es : List D} {vs us : List V}, RepL x F ds vs → RepL x F es us → RepL x F (ds ++ es) (vs ++ us)
  | _, _, _, _, .nil, s => s
  | _, _, _, _, .cons h r, s => .cons h (RepL.app r s)
theorem RepL.set {d : D} {v : V} (h : Rep x F d v) : ∀ {ds : List D} {vs : List V} (i : Nat), RepL x F ds vs → RepL x F (ds.set i d) (vs.set i v)
  | _, _, _, .nil => .nil
  | _, _, 0, .cons _ r => .cons h r
  | _, _, i + 1, .cons q r => .cons q (RepL.set h i r)
theorem RepL.drop : ∀ {ds : List D} {vs : List V} (n : Nat), RepL x F ds vs → RepL x F (ds.drop n) (vs.drop n)
  | _, _, 0, r => r
  | _, _, _ + 1, .nil => .nil
  | _, _, n + 1, .cons _ r => RepL.drop n r
theorem RepL.take : ∀ {ds : List D} {vs : List V} (n : Nat), RepL x F ds vs → RepL x F (ds.take n) (vs.take n)
  | _, _, 0, _ => .nil
  | _, _, _ + 1, .nil => .nil
  | _, _, n + 1, .cons h r => .cons h (RepL.take n r)
theorem RepL.eraseIdx : ∀ {ds : List D} {vs : List V} (i : Nat), RepL x F ds vs → RepL x F (ds.eraseIdx i) (vs.eraseIdx i)
  | _, _, _, .nil => .nil
  | _, _, 0, .cons _ r => r
  | _, _, i + 1, .cons h r => .cons h (RepL.eraseIdx i r)
theorem RepL.reverse {ds : List D} {vs : List V} (r : RepL x F ds vs) : RepL x F ds.reverse vs.reverse := by
  induction ds generalizing vs with
  | nil => cases r; exact .nil
  | cons d ds ih =>
    cases r with
    | cons h r =>
      rw [List.reverse_cons, List.reverse_cons]
      exact (ih r).app (.cons h .nil)
theorem RepL.ints : ∀ {ns : List Int} {vs : List V}, RepL x F (ns.map D.int) vs → vs = ns.map V.int
  | [], _, .nil => rfl
  | n :: ns, _, .cons h r => by
    cases h
    rw [RepL.ints r]
    rfl
theorem RepL.of_ints : ∀ ns : List Int, RepL x F (ns.map D.int) (ns.map V.int)
  | [] => .nil
  | n :: ns => .cons (.int n) (RepL.of_ints ns)
theorem RepL.bls : ∀ {ns : List Bool} {vs : List V}, RepL x F (ns.map D.bl) vs → vs = ns.map V.bl
  | [], _, .nil => rfl
  | n :: ns, _, .cons h r => by
    cases h
    rw [RepL.bls r]
    rfl
theorem RepL.strs : ∀ {ns : List Str} {vs : List V}, RepL x F (ns.map D.str) vs → vs = ns.map V.str
  | [], _, .nil => rfl
  | n :: ns, _, .cons h r => by
    cases h
    rw [RepL.strs r]
    rfl
theorem RepK.len : ∀ {ds : List (Key × D)} {vs : List (Key × V)}, RepK x F ds vs → vs.length = ds.length
  | _, _, .nil => rfl
  | _, _, .cons _ r => congrArg Nat.succ r.len
end

/-- a slot: empty, a frozen value, an object that this frame alone may change -/
inductive Sl where
  | no
  | fz (d : D)
  | ow (d : D)
abbrev En := List Sl

/-- the object at a holds d, its parts frozen -/
def RepO (x : Kx) (F H : Hp) (a : Addr) : D → Prop
  | .lst ds => ∃ xs, H a = some (.lst xs) ∧ RepL x F ds xs
  | .dic ds => ∃ kvs, H a = some (.dK kvs) ∧ RepK x F ds kvs
  | .ins t ds => ∃ dx xs, H a = some (.ins (x.cm t) dx ((x.nm t).zip xs)) ∧ RepL x F ds xs
  | _ => False
theorem RepO.mono {x : Kx} {F F' H H' : Hp} {a : Addr} {d : D} (h : RepO x F H a d) (s : Same F F') (k : ∀ o, H a = some o → H' a = some o) : RepO x F' H' a d := by
  cases d with
  | lst ds => obtain ⟨xs, e, r⟩ := h; exact ⟨xs, k _ e, r.mono s⟩
  | dic ds => obtain ⟨xs, e, r⟩ := h; exact ⟨xs, k _ e, r.mono s⟩
  | ins t ds => obtain ⟨dx, xs, e, r⟩ := h; exact ⟨dx, xs, k _ e, r.mono s⟩
  | _ => exact h.elim
theorem RepO.there {x : Kx} {F H : Hp} {a : Addr} {d : D} (h : RepO x F H a d) : ∃ o, H a = some o := by
  cases d with
  | lst ds => obtain ⟨xs, e, r⟩ := h; exact ⟨_, e⟩
  | dic ds => obtain ⟨xs, e, r⟩ := h; exact ⟨_, e⟩
  | ins t ds => obtain ⟨dx, xs, e, r⟩ := h; exact ⟨_, e⟩
  | _ => exact h.elim
theorem Same.upd {F : Hp} {a : Addr} {o : HO} (h : F a = none) : Same F (upd F a o) := fun b u e => by
  rw [upd_ne (ne_of_none e h)]
  exact e
/-- an owned object is frozen -/
theorem RepO.freeze {x : Kx} {F H : Hp} {a : Addr} {d : D} (h : RepO x F H a d) (n : F a = none) : ∃ o, H a = some o ∧ Rep x (upd F a o) d (.ref a) := by
  have s : ∀ o, Same F (upd F a o) := fun o => Same.upd n
  cases d with
  | lst ds => obtain ⟨xs, e, r⟩ := h; exact ⟨_, e, .lst upd_same (r.mono (s _))⟩
  | dic ds => obtain ⟨xs, e, r⟩ := h; exact ⟨_, e, .dic upd_same (r.mono (s _))⟩
  | ins t ds => obtain ⟨dx, xs, e, r⟩ := h; exact ⟨_, e, .ins upd_same (r.mono (s _))⟩
  | _ => exact h.elim

/-- the slots stand for env: F the frozen part of the heap H -/
structure StOk (x : Kx) (F H : Hp) (env : En) (σ : L2.St) : Prop where
  good : Same F H
  len : env.length = σ.length
  fz : ∀ (i : Nat) (d : D), env[i]? = some (.fz d) → ∃ v, σ[i]? = some (some v) ∧ Rep x F d v
  ow : ∀ (i : Nat) (d : D), env[i]? = some (.ow d) → ∃ a, σ[i]? = some (some (.ref a)) ∧ F a = none ∧ RepO x F H a d
  inj : ∀ (i j : Nat) (d e : D) (a : Addr), env[i]? = some (.ow d) → env[j]? = some (.ow e) → σ[i]? = some (some (.ref a)) → σ[j]? = some (some (.ref a)) → i = j
/-- the addresses that the frame owns -/
def Ow (env : En) (σ : L2.St) (a : Addr) : Prop := ∃ (i : Nat) (d : D), env[i]? = some (.ow d) ∧ σ[i]? = some (some (.ref a))

/-- what a piece of code may do: frozen stays, foreign stays and is not frozen, nothing goes, what it owns behind it owned ahead or made -/
structure Step (F H : Hp) (S : Addr → Prop) (F' H' : Hp) (S' : Addr → Prop) : Prop where
  fro : Same F F'
  kp : ∀ a o, H a = some o → F a = none → ¬ S a → H' a = some o ∧ F' a = none
  tr : ∀ a, H' a = none → H a = none
  ow : ∀ a, S' a → S a ∨ H a = none
theorem Step.refl {F H : Hp} {S : Addr → Prop} : Step F H S F H S := ⟨fun _ _ e => e, fun _ _ e f _ => ⟨e, f⟩, fun _ e => e, fun _ h => .inl h⟩
theorem Step.trans {F H F1 H1 F2 H2 : Hp} {S S1 S2 : Addr → Prop} (a : Step F H S F1 H1 S1) (b : Step F1 H1 S1 F2 H2 S2) : Step F H S F2 H2 S2 where
  fro := fun c o e => b.fro c o (a.fro c o e)
  kp := fun c o e f n => by
    obtain ⟨e1, f1⟩ := a.kp c o e f n
    refine b.kp c o e1 f1 fun h => ?_
    rcases a.ow c h with q | q
    · exact n q
    · rw [e] at q; cases q
  tr := fun c e => a.tr c (b.tr c e)
  ow := fun c h => by
    rcases b.ow c h with q | q
    · exact a.ow c q
    · exact .inr (a.tr c q)
theorem Step.sub {F H F' H' : Hp} {S S' S2 : Addr → Prop} (a : Step F H S F' H' S') (h : ∀ c, S2 c → S' c) : Step F H S F' H' S2 := ⟨a.fro, a.kp, a.tr, fun c q => a.ow c (h c q)⟩

/-- only new objects -/
structure Grow (F H F' H' : Hp) : Prop where
  fF : Same F F'
  fH : Same H H'
  nw : ∀ a o, F' a = some o → F a = some o ∨ H a = none
  good : Same F' H'
theorem Grow.refl {F H : Hp} (g : Same F H) : Grow F H F H := ⟨fun _ _ e => e, fun _ _ e => e, fun _ _ e => .inl e, g⟩
theorem Grow.trans {F H F1 H1 F2 H2 : Hp} (a : Grow F H F1 H1) (b : Grow F1 H1 F2 H2) : Grow F H F2 H2 :=
  ⟨fun c o e => b.fF c o (a.fF c o e), fun c o e => b.fH c o (a.fH c o e), fun c o e => by
    rcases b.nw c o e with q | q
    · exact a.nw c o q
    · exact .inr (by
        cases h : H c with
        | none => rfl
        | some u => rw [a.fH c u h] at q; cases q), b.good⟩
theorem Grow.nope {F H F' H' : Hp} (g : Grow F H F' H') {a : Addr} {o : HO} (e : H a = some o) (n : F a = none) : F' a = none := by
  cases q : F' a with
  | none => rfl
  | some u =>
    rcases g.nw a u q with z | z
    · rw [n] at z; cases z
    · rw [e] at z; cases z
/-- a new frozen object -/
theorem Grow.new {F H : Hp} (g : Same F H) {p : Addr} {o : HO} (n : H p = none) : Grow F H (upd F p o) (upd H p o) := by
  have fn : F p = none := by
    cases q : F p with
    | none => rfl
    | some u => rw [g p u q] at n; cases n
  refine ⟨Same.upd fn, Same.upd n, fun a u e => ?_, fun a u e => ?_⟩
  · by_cases h : a = p
    · subst h; exact .inr n
    · rw [upd_ne h] at e; exact .inl e
  · by_cases h : a = p
    · subst h; rw [upd_same] at e ⊢; exact e
    · rw [upd_ne h] at e ⊢; exact g a u e
/-- a new object, not frozen -/
theorem Grow.raw {F H : Hp} (g : Same F H) {p : Addr} {o : HO} (n : H p = none) : Grow F H F (upd H p o) :=
  ⟨fun _ _ e => e, Same.upd n, fun _ _ e => .inl e, fun a u e => Same.upd n a u (g a u e)⟩
theorem Grow.step {F H F' H' : Hp} (g : Grow F H F' H') (S : Addr → Prop) : Step F H S F' H' S where
  fro := g.fF
  kp := fun a o e f _ => ⟨g.fH a o e, g.nope e f⟩
  tr := fun a e => by
    cases h : H a with
    | none => rfl
    | some u => rw [g.fH a u h] at e; cases e
  ow := fun _ h => .inl h
theorem StOk.grow {x : Kx} {F H F' H' : Hp} {env : En} {σ : L2.St} (s : StOk x F H env σ) (g : Grow F H F' H') : StOk x F' H' env σ where
  good := g.good
  len := s.len
  fz := fun i d e => by
    obtain ⟨v, h, r⟩ := s.fz i d e
    exact ⟨v, h, r.mono g.fF⟩
  ow := fun i d e => by
    obtain ⟨a, h, n, r⟩ := s.ow i d e
    obtain ⟨o, ho⟩ := r.there
    exact ⟨a, h, g.nope ho n, r.mono g.fF fun o q => g.fH a o q⟩
  inj := s.inj
/-- an object that this frame does not own is frozen -/
theorem StOk.fro {x : Kx} {F H : Hp} {env : En} {σ : L2.St} (s : StOk x F H env σ) {a : Addr} {o : HO} (n : F a = none) (e : H a = some o) (no : ¬ Ow env σ a) : StOk x (upd F a o) H env σ where
  good := fun b u q => by
    by_cases h : b = a
    · subst h; rw [upd_same] at q; rw [← q]; exact e
    · rw [upd_ne h] at q; exact s.good b u q
  len := s.len
  fz := fun i d q => by
    obtain ⟨v, h, r⟩ := s.fz i d q
    exact ⟨v, h, r.mono (Same.upd n)⟩
  ow := fun i d q => by
    obtain ⟨b, h, m, r⟩ := s.ow i d q
    refine ⟨b, h, ?_, r.mono (Same.upd n) fun _ z => z⟩
    rw [upd_ne (fun z => no ⟨i, d, q, by rw [h, z]⟩)]
    exact m
  inj := s.inj
/-- a slot's own object is frozen -/
theorem StOk.freeze {x : Kx} {F H : Hp} {env : En} {σ : L2.St} (s : StOk x F H env σ) {i : Nat} {d : D} (e : env[i]? = some (.ow d)) :
    ∃ a o, σ[i]? = some (some (.ref a)) ∧ Rep x (upd F a o) d (.ref a) ∧ StOk x (upd F a o) H (env.set i (.fz d)) σ ∧ Step F H (Ow env σ) (upd F a o) H (Ow (env.set i (.fz d)) σ) := by
  obtain ⟨a, h, n, r⟩ := s.ow i d e
  obtain ⟨o, ho, rf⟩ := r.freeze n
  have hi : i < env.length := (List.getElem?_eq_some_iff.mp e).1
  have back : ∀ j c, (env.set i (.fz d))[j]? = some (.ow c) → j ≠ i ∧ env[j]? = some (.ow c) := fun j c q => by
    by_cases hj : j = i
    · subst hj; rw [List.getElem?_set_self hi] at q; cases q
    · rw [List.getElem?_set_ne (Ne.symm hj)] at q; exact ⟨hj, q⟩
  have s1 : Same F (upd F a o) := Same.upd n
  refine ⟨a, o, h, rf, ⟨fun b u q => ?_, by rw [List.length_set]; exact s.len, fun j c q => ?_, fun j c q => ?_, fun j k c c' b q q' => ?_⟩, ⟨s1, fun b u q f no => ?_, fun _ q => q, fun b ⟨j, c, q, q2⟩ => .inl ⟨j, c, (back j c q).2, q2⟩⟩⟩
  · by_cases hb : b = a
    · subst hb; rw [upd_same] at q; rw [← q]; exact ho
    · rw [upd_ne hb] at q; exact s.good b u q
  · by_cases hj : j = i
    · subst hj
      rw [List.getElem?_set_self hi] at q
      cases q
      exact ⟨_, h, rf⟩
    · rw [List.getElem?_set_ne (Ne.symm hj)] at q
      obtain ⟨v, h1, r1⟩ := s.fz j c q
      exact ⟨v, h1, r1.mono s1⟩
  · obtain ⟨hj, q⟩ := back j c q
    obtain ⟨b, h1, n1, r1⟩ := s.ow j c q
    refine ⟨b, h1, ?_, r1.mono s1 fun _ z => z⟩
    rw [upd_ne (fun z => hj (s.inj j i c d b q e h1 (by rw [h, z])))]
    exact n1
  · exact s.inj j k c c' b (back j c q).2 (back k c' q').2
  · refine ⟨q, ?_⟩
    rw [upd_ne (fun z => no ⟨i, d, e, by rw [h, z]⟩)]
    exact f

/-! ### denotations -/
abbrev FE := En → Option (D × En)
abbrev FT := En → Option (Bool × En)
/-- an argument: a value; the slot of an own object that is lent -/
inductive Ar where
  | va (d : D)
  | by_ (i : Nat)
abbrev FA := En → Option (List D × En)
abbrev FI := En → Option (List D × En)
abbrev FG := D → En → Option En
/-- a statement's end; a def hands back a frozen value or a new object of the caller's own -/
inductive Out where
  | nx (e : En)
  | rt (r : Sl) (e : En)
  | bk (e : En)
  | ct (e : En)
abbrev FS := En → Option Out

def RfE (x : Kx) (t : TE) (f : FE) : Prop := ∀ (F H : Hp) (env : En) (σ : L2.St) (Q : VK) (d : D) (env' : En), StOk x F H env σ → f env = some (d, env') →
  (∀ F' H' v, Step F H (Ow env σ) F' H' (Ow env' σ) → StOk x F' H' env' σ → Rep x F' d v → Q v H') → t σ H Q
/-- a new object, owned by whoever asked for it -/
def RfN (x : Kx) (t : TE) (f : FE) : Prop := ∀ (F H : Hp) (env : En) (σ : L2.St) (Q : VK) (d : D) (env' : En), StOk x F H env σ → f env = some (d, env') →
  (∀ F' H' a, Step F H (Ow env σ) F' H' (Ow env' σ) → StOk x F' H' env' σ → H a = none → F' a = none → ¬ Ow env' σ a → RepO x F' H' a d → Q (.ref a) H') → t σ H Q
def RfT (x : Kx) (t : TT) (f : FT) : Prop := ∀ (F H : Hp) (env : En) (σ : L2.St) (Q : Bool → Hp → Prop) (b : Bool) (env' : En), StOk x F H env σ → f env = some (b, env') →
  (∀ F' H', Step F H (Ow env σ) F' H' (Ow env' σ) → StOk x F' H' env' σ → Q b H') → t σ H Q
def RfA (x : Kx) (t : TA) (f : FA) : Prop := ∀ (F H : Hp) (env : En) (σ : L2.St) (Q : List V → Hp → Prop) (ds : List D) (env' : En), StOk x F H env σ → f env = some (ds, env') →
  (∀ F' H' vs, Step F H (Ow env σ) F' H' (Ow env' σ) → StOk x F' H' env' σ → RepL x F' ds vs → Q vs H') → t σ H Q
/-- what is walked gives the items ds, whatever new objects have come meanwhile -/
structure WalkD (x : Kx) (J : It) (F : Hp) (ds : List D) : Prop where
  go : ∀ F1 H1 i, Same F F1 → Same F1 H1 → i < ds.length → J.go i H1
  stop : ∀ F1 H1, Same F F1 → Same F1 H1 → J.stop ds.length H1
  yld : ∀ F1 H1 i v H2 d, Same F F1 → Same F1 H1 → ds[i]? = some d → J.yld i H1 v H2 → ∃ F2, Grow F1 H1 F2 H2 ∧ Rep x F2 d v
def RfI (x : Kx) (t : TI) (f : FI) : Prop := ∀ (F H : Hp) (env : En) (σ : L2.St) (R : It → Hp → Prop) (ds : List D) (env' : En), StOk x F H env σ → f env = some (ds, env') →
  (∀ F' H' J, Step F H (Ow env σ) F' H' (Ow env' σ) → StOk x F' H' env' σ → WalkD x J F' ds → R J H') → t σ H R
/-- slots that are not stored to (a def's own parameters) -/
abbrev Prt := Nat → Bool
structure KeepS (P : Prt) (σ σ' : L2.St) : Prop where
  len : σ'.length = σ.length
  at_ : ∀ i, P i = true → σ'[i]? = σ[i]?
theorem KeepS.refl {P : Prt} {σ : L2.St} : KeepS P σ σ := ⟨rfl, fun _ _ => rfl⟩
theorem KeepS.trans {P : Prt} {σ σ1 σ2 : L2.St} (a : KeepS P σ σ1) (b : KeepS P σ1 σ2) : KeepS P σ σ2 := ⟨b.len.trans a.len, fun i h => (b.at_ i h).trans (a.at_ i h)⟩
def RfG (x : Kx) (P : Prt) (g : TG) (f : FG) : Prop := ∀ (F H : Hp) (env : En) (σ : L2.St) (Q : L2.St → Hp → Prop) (d : D) (v : V) (env' : En), StOk x F H env σ → Rep x F d v → f d env = some env' →
  (∀ σ', Step F H (Ow env σ) F H (Ow env' σ') → StOk x F H env' σ' → KeepS P σ σ' → Q σ' H) → g v σ H Q
/-- what a def hands back -/
def ResOk (x : Kx) (H0 F' H' : Hp) (S : Addr → Prop) : Sl → V → Prop
  | .no, _ => False
  | .fz d, v => Rep x F' d v
  | .ow d, v => ∃ a, v = .ref a ∧ H0 a = none ∧ F' a = none ∧ ¬ S a ∧ RepO x F' H' a d
def After (x : Kx) (P : Prt) (F H : Hp) (env : En) (σ : L2.St) (D : Ends) : Out → Prop
  | .nx env' => ∀ F' H' σ', Step F H (Ow env σ) F' H' (Ow env' σ') → StOk x F' H' env' σ' → KeepS P σ σ' → D.nx σ' H'
  | .bk env' => ∀ F' H' σ', Step F H (Ow env σ) F' H' (Ow env' σ') → StOk x F' H' env' σ' → KeepS P σ σ' → D.bk σ' H'
  | .ct env' => ∀ F' H' σ', Step F H (Ow env σ) F' H' (Ow env' σ') → StOk x F' H' env' σ' → KeepS P σ σ' → D.ct σ' H'
  | .rt r env' => ∀ F' H' σ' v, Step F H (Ow env σ) F' H' (Ow env' σ') → StOk x F' H' env' σ' → KeepS P σ σ' → ResOk x H F' H' (Ow env' σ') r v → D.rt v H'
def RfS (x : Kx) (P : Prt) (t : TS) (f : FS) : Prop := ∀ (F H : Hp) (env : En) (σ : L2.St) (D : Ends) (out : Out), StOk x F H env σ → f env = some out → After x P F H env σ D out → t D σ H
end Vd

end

section
set_option Elab.async false
set_option linter.all false
set_option maxRecDepth 100000
set_option maxHeartbeats 1000000
/-! Lb: operands, operators by values, expressions. -/
namespace Vd
open PySem L2

/-- the object as it stands now: frozen, or owned by the frame -/
inductive View (x : Kx) (F H : Hp) : D → V → Prop
  | non : View x F H .non .non
  | bl (b : Bool) : View x F H (.bl b) (.bl b)
  | int (i : Int) : View x F H (.int i) (.int i)
  | str (z : Str) : View x F H (.str z) (.str z)
  | scr {a : Addr} {ns : List Int} : SqL x.K H a (ns.map V.int) → View x F H (.scr ns) (.ref a)
  | lst {a : Addr} {xs : List V} {ds : List D} : H a = some (.lst xs) → RepL x F ds xs → View x F H (.lst ds) (.ref a)
  | tup {a : Addr} {xs : List V} {ds : List D} : SqT x.K H a xs → RepL x F ds xs → View x F H (.tup ds) (.ref a)
  | dic {a : Addr} {kvs : List (Key × V)} {ds : List (Key × D)} : H a = some (.dK kvs) → RepK x F ds kvs → View x F H (.dic ds) (.ref a)
  | ins {a dx : Addr} {t : Nat} {xs : List V} {ds : List D} : H a = some (.ins (x.cm t) dx ((x.nm t).zip xs)) → RepL x F ds xs → View x F H (.ins t ds) (.ref a)
theorem Rep.view {x : Kx} {F H : Hp} (g : Same F H) {d : D} {v : V} (r : Rep x F d v) : View x F H d v := by
  cases r with
  | non => exact .non
  | bl b => exact .bl b
  | int i => exact .int i
  | str z => exact .str z
  | scr h => exact .scr (g.seq h)
  | lst h r => exact .lst (g _ _ h) r
  | tup h r => exact .tup (same_t g h) r
  | dic h r => exact .dic (g _ _ h) r
  | ins h r => exact .ins (g _ _ h) r
theorem RepO.view {x : Kx} {F H : Hp} {a : Addr} {d : D} (r : RepO x F H a d) : View x F H d (.ref a) := by
  cases d with
  | lst ds => obtain ⟨xs, e, r⟩ := r; exact .lst e r
  | dic ds => obtain ⟨xs, e, r⟩ := r; exact .dic e r
  | ins t ds => obtain ⟨dx, xs, e, r⟩ := r; exact .ins e r
  | _ => exact r.elim

/-! ### operands -/
inductive Opn where
  | va (d : D)
  | sl (k : Nat)
def slD : Option Sl → Option D
  | some (.fz d) => some d
  | some (.ow d) => some d
  | _ => none
def res : Opn → En → Option D
  | .va d, _ => some d
  | .sl k, e => slD e[k]?
def OpOk (x : Kx) (F : Hp) (σ : L2.St) : Opn → V → Prop
  | .va d, v => Rep x F d v
  | .sl k, v => σ[k]? = some (some v)
theorem OpOk.mono {x : Kx} {F F' : Hp} {σ : L2.St} {o : Opn} {v : V} (h : OpOk x F σ o v) (s : Same F F') : OpOk x F' σ o v := by
  cases o with
  | va d => exact Rep.mono s h
  | sl k => exact h
theorem OpOk.view {x : Kx} {F H : Hp} {env : En} {σ : L2.St} {o : Opn} {v : V} {d : D} (h : OpOk x F σ o v) (s : StOk x F H env σ) (e : res o env = some d) : View x F H d v := by
  cases o with
  | va d' =>
    cases e
    exact Rep.view s.good h
  | sl k =>
    have h : σ[k]? = some (some v) := h
    have e : slD env[k]? = some d := e
    cases q : env[k]? with
    | none => rw [q] at e; cases e
    | some z =>
      rw [q] at e
      cases z with
      | no => cases e
      | fz c =>
        cases e
        obtain ⟨u, h1, r⟩ := s.fz k _ q
        rw [h] at h1; cases h1
        exact r.view s.good
      | ow c =>
        cases e
        obtain ⟨a, h1, n, r⟩ := s.ow k _ q
        rw [h] at h1; cases h1
        exact r.view
abbrev FO := En → Option (Opn × En)
def RfO (x : Kx) (t : TE) (f : FO) : Prop := ∀ (F H : Hp) (env : En) (σ : L2.St) (Q : VK) (o : Opn) (env' : En), StOk x F H env σ → f env = some (o, env') →
  (∀ F' H' v, Step F H (Ow env σ) F' H' (Ow env' σ) → StOk x F' H' env' σ → OpOk x F' σ o v → Q v H') → t σ H Q

/-! ### judgements over a family of contexts -/
section
variable {ι : Type}
structure DE (X : ι → Cx) (x : Kx) (e : Expr) (f : FE) : Prop where
  ex : ∃ t, (∀ i, PE (X i) e t) ∧ RfE x t f
structure DN (X : ι → Cx) (x : Kx) (e : Expr) (f : FE) : Prop where
  ex : ∃ t, (∀ i, PE (X i) e t) ∧ RfN x t f
structure DO (X : ι → Cx) (x : Kx) (e : Expr) (f : FO) : Prop where
  ex : ∃ t, (∀ i, PE (X i) e t) ∧ RfO x t f
structure DT (X : ι → Cx) (x : Kx) (e : Expr) (f : FT) : Prop where
  ex : ∃ t, (∀ i, PT (X i) e t) ∧ RfT x t f
structure DW (X : ι → Cx) (x : Kx) (e : Expr) (f : FT) : Prop where
  ex : ∃ t, (∀ i, PW (X i) e t) ∧ RfT x t f
structure DA (X : ι → Cx) (x : Kx) (es : List Expr) (f : FA) : Prop where
  ex : ∃ t, (∀ i, PA (X i) es t) ∧ RfA x t f
structure DI (X : ι → Cx) (x : Kx) (tg e : Expr) (f : FI) : Prop where
  ex : ∃ t, (∀ i, PI (X i) tg e t) ∧ RfI x t f
structure DG (X : ι → Cx) (x : Kx) (P : Prt) (e : Expr) (f : FG) : Prop where
  ex : ∃ t, (∀ i, PG (X i) e t) ∧ RfG x P t f
structure DS (X : ι → Cx) (x : Kx) (P : Prt) (s : Stmt) (f : FS) : Prop where
  ex : ∃ t, (∀ i, PS (X i) s t) ∧ RfS x P t f
structure DB (X : ι → Cx) (x : Kx) (P : Prt) (s : List Stmt) (f : FS) : Prop where
  ex : ∃ t, (∀ i, PSs (X i) s t) ∧ RfS x P t f

variable {X : ι → Cx} {x : Kx} {a b c e : Expr} {es : List Expr} {pos : Pos} {f fa fb fc : FE}

/-! ### names, constants -/
def fC (d : D) : FE := fun e => some (d, e)
theorem dC {d : D} {v : V} (hr : ∀ F, Rep x F d v) (h : ∀ i, PE (X i) e (tC v)) : DE X x e (fC d) := ⟨_, h, fun F H env σ Q d' env' s q k => by
  cases q
  exact k F H v Step.refl s (hr F)⟩
theorem dInt {i : Int} {j} : DE X x (.Constant (.int i) j pos) (fC (.int i)) := dC (fun _ => .int i) fun _ => pe_int
theorem dBl {i : Bool} {j} : DE X x (.Constant (.bool i) j pos) (fC (.bl i)) := dC (fun _ => .bl i) fun _ => pe_bl
theorem dNon {j} : DE X x (.Constant .none j pos) (fC .non) := dC (fun _ => .non) fun _ => pe_non
theorem dStr {z : Str} {j} : DE X x (.Constant (.str z) j pos) (fC (.str z)) := dC (fun _ => .str z) fun _ => pe_str
/-- a module's constant -/
theorem dGlob {z : Str} {d : D} {v : V} {u : Value} (hr : ∀ F, Rep x F d v) (hg : ∀ i, Gl (X i) z) (hm : ∀ i, (X i).mg z = some u) (r : RelV v u) (hd : (z == ("__debug__" : Str)) = false := by decide) :
    DE X x (.Name z pos) (fC d) := dC hr fun i => pe_glob (hg i) (hm i) r hd
/-- a name, read: what the frame owned there is frozen -/
def fVar (k : Nat) : FE := fun e => match e[k]? with
  | some (.fz d) => some (d, e)
  | some (.ow d) => some (d, e.set k (.fz d))
  | _ => none
theorem rf_var {k : Nat} : RfE x (tVar k) (fVar k) := fun F H env σ Q d env' s q kk => by
  unfold fVar at q
  cases h : env[k]? with
  | none => rw [h] at q; cases q
  | some z =>
    rw [h] at q
    cases z with
    | no => cases q
    | fz c =>
      cases q
      obtain ⟨v, h1, r⟩ := s.fz k _ h
      exact ⟨v, h1, kk F H v Step.refl s r⟩
    | ow c =>
      cases q
      obtain ⟨a, o, h1, r, s1, st⟩ := s.freeze h
      exact ⟨_, h1, kk _ H _ st s1 r⟩
theorem dVar (k : Nat) {z : Str} (hN : ∀ i, (X i).N[k]? = some z) (hv : ∀ i, Vis (X i).env.scope z) (hd : (z == ("__debug__" : Str)) = false := by decide) (hcd : (z == ("__classdict__" : Str)) = false := by decide) :
    DE X x (.Name z pos) (fVar k) := ⟨_, fun i => pe_var (hN i) (hv i) hd hcd, rf_var⟩
/-- a name as an operand: nothing is frozen -/
def fOB (k : Nat) : FO := fun e => (res (.sl k) e).map fun _ => (.sl k, e)
def fOV (f : FE) : FO := fun e => (f e).map fun p => (.va p.1, p.2)
theorem dOB (k : Nat) {z : Str} (hN : ∀ i, (X i).N[k]? = some z) (hv : ∀ i, Vis (X i).env.scope z) (hd : (z == ("__debug__" : Str)) = false := by decide) (hcd : (z == ("__classdict__" : Str)) = false := by decide) :
    DO X x (.Name z pos) (fOB k) := ⟨_, fun i => pe_var (hN i) (hv i) hd hcd, fun F H env σ Q o env' s q kk => by
  unfold fOB at q
  cases h : res (.sl k) env with
  | none => rw [h] at q; cases q
  | some d =>
    rw [h] at q
    cases q
    have : ∃ v, σ[k]? = some (some v) := by
      have h : slD env[k]? = some d := h
      cases h1 : env[k]? with
      | none => rw [h1] at h; cases h
      | some z =>
        cases z with
        | no => rw [h1] at h; cases h
        | fz c => obtain ⟨v, q, _⟩ := s.fz k _ h1; exact ⟨v, q⟩
        | ow c => obtain ⟨v, q, _⟩ := s.ow k _ h1; exact ⟨_, q⟩
    obtain ⟨v, q⟩ := this
    exact ⟨v, q, kk F H v Step.refl s q⟩⟩
theorem dOV (h : DE X x e f) : DO X x e (fOV f) := by
  obtain ⟨t, hp, hr⟩ := h
  refine ⟨t, hp, fun F H env σ Q o env' s q kk => ?_⟩
  unfold fOV at q
  obtain ⟨p, q1, q2⟩ := Option.map_eq_some_iff.mp q
  cases q2
  exact hr F H env σ Q p.1 p.2 s q1 fun F' H' v st s' r => kk F' H' v st s' r
/-- a new object, frozen at once -/
theorem dNE (h : DN X x e f) : DE X x e f := by
  obtain ⟨t, hp, hr⟩ := h
  refine ⟨t, hp, fun F H env σ Q d env' s q kk => ?_⟩
  refine hr F H env σ Q d env' s q fun F' H' a st s' n n' no ro => ?_
  obtain ⟨o, ho, rf⟩ := ro.freeze n'
  refine kk (upd F' a o) H' _ ⟨fun b u e => Same.upd n' b u (st.fro b u e), fun b u e f no' => ?_, st.tr, st.ow⟩ (s'.fro n' ho no) rf
  obtain ⟨h1, h2⟩ := st.kp b u e f no'
  refine ⟨h1, ?_⟩
  rw [upd_ne (fun z => by rw [z, n] at e; cases e)]
  exact h2

/-! ### operators by values -/
def OpD (x : Kx) (r : R2) (o : D → D → Option D) : Prop := ∀ (F H : Hp) (u v : V) (da db d : D) (Q : VK), Same F H → View x F H da u → View x F H db v → o da db = some d →
  (∀ F' H' z, Grow F H F' H' → Rep x F' d z → Q z H') → r u v H Q
def UnD (x : Kx) (r : V → Hp → VK → Prop) (o : D → Option D) : Prop := ∀ (F H : Hp) (u : V) (da d : D) (Q : VK), Same F H → View x F H da u → o da = some d →
  (∀ F' H' z, Grow F H F' H' → Rep x F' d z → Q z H') → r u H Q
def fBin (o : D → D → Option D) (fa fb : FO) : FE := fun e => (fa e).bind fun p => (fb p.2).bind fun q => (res p.1 q.2).bind fun a => (res q.1 q.2).bind fun b => (o a b).map fun d => (d, q.2)
def fUn (o : D → Option D) (fa : FO) : FE := fun e => (fa e).bind fun p => (res p.1 p.2).bind fun a => (o a).map fun d => (d, p.2)
section
variable {ga gb gc : FO}
theorem rf_bin {r : R2} {o : D → D → Option D} {ta tb : TE} (hs : OpD x r o) (ha : RfO x ta ga) (hb : RfO x tb gb) : RfE x (tOp r ta tb) (fBin o ga gb) := fun F H env σ Q d env' s q kk => by
  unfold fBin at q
  obtain ⟨p, q1, q⟩ := Option.bind_eq_some_iff.mp q
  obtain ⟨p2, q2, q⟩ := Option.bind_eq_some_iff.mp q
  obtain ⟨da, q3, q⟩ := Option.bind_eq_some_iff.mp q
  obtain ⟨db, q4, q⟩ := Option.bind_eq_some_iff.mp q
  obtain ⟨d', q5, q⟩ := Option.map_eq_some_iff.mp q
  cases q
  refine ha F H env σ _ p.1 p.2 s q1 fun F1 H1 u st1 s1 o1 => ?_
  refine hb F1 H1 p.2 σ _ p2.1 p2.2 s1 q2 fun F2 H2 v st2 s2 o2 => ?_
  refine hs F2 H2 u v da db d Q s2.good ((o1.mono st2.fro).view s2 q3) (o2.view s2 q4) q5 fun F3 H3 z g r => ?_
  exact kk F3 H3 z ((st1.trans st2).trans (g.step _)) (s2.grow g) r
theorem rf_un {r : V → Hp → VK → Prop} {o : D → Option D} {ta : TE} (hs : UnD x r o) (ha : RfO x ta ga) : RfE x (tUn r ta) (fUn o ga) := fun F H env σ Q d env' s q kk => by
  unfold fUn at q
  obtain ⟨p, q1, q⟩ := Option.bind_eq_some_iff.mp q
  obtain ⟨da, q3, q⟩ := Option.bind_eq_some_iff.mp q
  obtain ⟨d', q5, q⟩ := Option.map_eq_some_iff.mp q
  cases q
  refine ha F H env σ _ p.1 p.2 s q1 fun F1 H1 u st1 s1 o1 => ?_
  refine hs F1 H1 u da d Q s1.good (o1.view s1 q3) q5 fun F3 H3 z g r => ?_
  exact kk F3 H3 z (st1.trans (g.step _)) (s1.grow g) r
theorem dBin {op : Operator} {r : R2} {o : D → D → Option D} (ho : ∀ i, OpR (X i) (binaryOp op) r) (hs : OpD x r o) (ha : DO X x a ga) (hb : DO X x b gb) : DE X x (.BinOp a op b pos) (fBin o ga gb) := by
  obtain ⟨ta, pa, ra⟩ := ha
  obtain ⟨tb, pb, rb⟩ := hb
  exact ⟨_, fun i => pe_op (ho i) (pa i) (pb i), rf_bin hs ra rb⟩
theorem dCmp {op : CmpOp} {r : R2} {o : D → D → Option D} (ho : ∀ i, OpR (X i) (compareOp op) r) (hs : OpD x r o) (ha : DO X x a ga) (hb : DO X x b gb) (hm : behindInMarks op b = false) : DE X x (.Compare a [op] [b] pos) (fBin o ga gb) := by
  obtain ⟨ta, pa, ra⟩ := ha
  obtain ⟨tb, pb, rb⟩ := hb
  exact ⟨_, fun i => pe_cmpR (ho i) (pa i) (pb i) hm, rf_bin hs ra rb⟩
theorem dUn {op : UnaryOp} {r : V → Hp → VK → Prop} {o : D → Option D} (ho : ∀ i, UnR (X i) (unaryOp op) r) (hs : UnD x r o) (ha : DO X x a ga) : DE X x (.UnaryOp op a pos) (fUn o ga) := by
  obtain ⟨ta, pa, ra⟩ := ha
  exact ⟨_, fun i => pe_un (ho i) (pa i), rf_un hs ra⟩
theorem dIx {r : R2} {o : D → D → Option D} (ho : ∀ i, IxR (X i) r) (hs : OpD x r o) (ha : DO X x a ga) (hb : DO X x b gb) (hp : PlainIx b) : DE X x (.Subscript a b pos) (fBin o ga gb) := by
  obtain ⟨ta, pa, ra⟩ := ha
  obtain ⟨tb, pb, rb⟩ := hb
  exact ⟨_, fun i => pe_ix (ho i) (pa i) (pb i) hp, rf_bin hs ra rb⟩
end

/-! ### tests -/
def fTst (f : FE) : FT := fun e => (f e).bind fun p => match p.1 with
  | .bl b => some (b, p.2)
  | _ => none
theorem rf_tst {t : TE} (h : RfE x t f) : RfT x (tB t) (fTst f) := fun F H env σ Q b env' s q kk => by
  unfold fTst at q
  obtain ⟨p, q1, q⟩ := Option.bind_eq_some_iff.mp q
  obtain ⟨d, e1⟩ := p
  cases d with
  | bl b' =>
    cases q
    refine h F H env σ _ _ _ s q1 fun F' H' v st s' r => ?_
    cases r
    exact ⟨b, rfl, kk F' H' st s'⟩
  | _ => cases q
theorem dTcmp {op : CmpOp} {r : R2} {o : D → D → Option D} {ga gb : FO} (ho : ∀ i, OpR (X i) (compareOp op) r) (hs : OpD x r o) (ha : DO X x a ga) (hb : DO X x b gb) (hm : behindInMarks op b = false) : DT X x (.Compare a [op] [b] pos) (fTst (fBin o ga gb)) := by
  obtain ⟨ta, pa, ra⟩ := ha
  obtain ⟨tb, pb, rb⟩ := hb
  exact ⟨_, fun i => pt_cmpR (ho i) (pa i) (pb i) hm, rf_tst (rf_bin hs ra rb)⟩
theorem dTval (h : DE X x e f) (he : ∀ i whole, isTrue e (X i).env whole = (do let v ← whole; standAt e.pos; holding [v] (truthy v))) : DT X x e (fTst f) := by
  obtain ⟨t, hp, hr⟩ := h
  exact ⟨_, fun i => pt_val (hp i) (he i), rf_tst hr⟩
def fTnot (f : FT) : FT := fun e => (f e).map fun p => (!p.1, p.2)
def fTand (f g : FT) : FT := fun e => (f e).bind fun p => match p.1 with
  | true => g p.2
  | false => some (false, p.2)
def fTor (f g : FT) : FT := fun e => (f e).bind fun p => match p.1 with
  | true => some (true, p.2)
  | false => g p.2
section
variable {ft gt : FT} {rest : List Expr}
theorem dWT (h : DW X x e ft) : DT X x e ft := by
  obtain ⟨t, hp, hr⟩ := h
  exact ⟨t, fun i => (hp i).pt, hr⟩
theorem dTnot (h : DT X x e ft) : DT X x (.UnaryOp .Not e pos) (fTnot ft) := by
  obtain ⟨t, hp, hr⟩ := h
  refine ⟨_, fun i => pt_not (hp i), fun F H env σ Q b env' s q kk => ?_⟩
  unfold fTnot at q
  obtain ⟨p, q1, q⟩ := Option.map_eq_some_iff.mp q
  cases q
  exact hr F H env σ _ p.1 p.2 s q1 fun F' H' st s' => kk F' H' st s'
theorem dWand1 (h : DT X x a ft) : DW X x (.BoolOp .And [a] pos) ft := by
  obtain ⟨t, hp, hr⟩ := h
  exact ⟨t, fun i => pw_and1 (hp i), hr⟩
theorem dWor1 (h : DT X x a ft) : DW X x (.BoolOp .Or [a] pos) ft := by
  obtain ⟨t, hp, hr⟩ := h
  exact ⟨t, fun i => pw_or1 (hp i), hr⟩
theorem dWand (h : DT X x a ft) (g : DW X x (.BoolOp .And (b :: rest) pos) gt) : DW X x (.BoolOp .And (a :: b :: rest) pos) (fTand ft gt) := by
  obtain ⟨t, hp, hr⟩ := h
  obtain ⟨u, gp, gr⟩ := g
  refine ⟨_, fun i => pw_and (hp i) (gp i), fun F H env σ Q b env' s q kk => ?_⟩
  unfold fTand at q
  obtain ⟨p, q1, q⟩ := Option.bind_eq_some_iff.mp q
  obtain ⟨b1, e1⟩ := p
  refine hr F H env σ _ b1 e1 s q1 fun F' H' st s' => ?_
  cases b1 with
  | true => exact gr F' H' e1 σ Q b env' s' q fun F2 H2 st2 s2 => kk F2 H2 (st.trans st2) s2
  | false => cases q; exact kk F' H' st s'
theorem dWor (h : DT X x a ft) (g : DW X x (.BoolOp .Or (b :: rest) pos) gt) : DW X x (.BoolOp .Or (a :: b :: rest) pos) (fTor ft gt) := by
  obtain ⟨t, hp, hr⟩ := h
  obtain ⟨u, gp, gr⟩ := g
  refine ⟨_, fun i => pw_or (hp i) (gp i), fun F H env σ Q b env' s q kk => ?_⟩
  unfold fTor at q
  obtain ⟨p, q1, q⟩ := Option.bind_eq_some_iff.mp q
  obtain ⟨b1, e1⟩ := p
  refine hr F H env σ _ b1 e1 s q1 fun F' H' st s' => ?_
  cases b1 with
  | false => exact gr F' H' e1 σ Q b env' s' q fun F2 H2 st2 s2 => kk F2 H2 (st.trans st2) s2
  | true => cases q; exact kk F' H' st s'
end
/-- and, or, not as values; a if t else b -/
def fAndV (f g : FE) : FE := fun e => (f e).bind fun p => match p.1 with
  | .bl true => g p.2
  | .bl false => some (.bl false, p.2)
  | _ => none
def fOrV (f g : FE) : FE := fun e => (f e).bind fun p => match p.1 with
  | .bl true => some (.bl true, p.2)
  | .bl false => g p.2
  | _ => none
def fNotV (f : FE) : FE := fun e => (f e).bind fun p => match p.1 with
  | .bl b => some (.bl (!b), p.2)
  | _ => none
def fIf (ft : FT) (f g : FE) : FE := fun e => (ft e).bind fun p => match p.1 with
  | true => f p.2
  | false => g p.2
section
variable {g : FE} {ft : FT} {rest : List Expr}
theorem dOne {op} (h : DE X x a f) : DE X x (.BoolOp op [a] pos) f := by
  obtain ⟨t, hp, hr⟩ := h
  exact ⟨t, fun i => pe_one (hp i), hr⟩
theorem dAndV (h : DE X x a f) (k : DE X x (.BoolOp .And (b :: rest) pos) g) : DE X x (.BoolOp .And (a :: b :: rest) pos) (fAndV f g) := by
  obtain ⟨t, hp, hr⟩ := h
  obtain ⟨u, gp, gr⟩ := k
  refine ⟨_, fun i => pe_and (hp i) (gp i), fun F H env σ Q d env' s q kk => ?_⟩
  unfold fAndV at q
  obtain ⟨p, q1, q⟩ := Option.bind_eq_some_iff.mp q
  obtain ⟨d1, e1⟩ := p
  refine hr F H env σ _ d1 e1 s q1 fun F' H' v st s' r => ?_
  cases r with
  | bl b1 =>
    cases b1 with
    | true => exact ⟨true, rfl, gr F' H' e1 σ Q d env' s' q fun F2 H2 v st2 s2 r => kk F2 H2 v (st.trans st2) s2 r⟩
    | false => cases q; exact ⟨false, rfl, kk F' H' _ st s' (.bl false)⟩
  | _ => cases q
theorem dOrV (h : DE X x a f) (k : DE X x (.BoolOp .Or (b :: rest) pos) g) : DE X x (.BoolOp .Or (a :: b :: rest) pos) (fOrV f g) := by
  obtain ⟨t, hp, hr⟩ := h
  obtain ⟨u, gp, gr⟩ := k
  refine ⟨_, fun i => pe_or (hp i) (gp i), fun F H env σ Q d env' s q kk => ?_⟩
  unfold fOrV at q
  obtain ⟨p, q1, q⟩ := Option.bind_eq_some_iff.mp q
  obtain ⟨d1, e1⟩ := p
  refine hr F H env σ _ d1 e1 s q1 fun F' H' v st s' r => ?_
  cases r with
  | bl b1 =>
    cases b1 with
    | false => exact ⟨false, rfl, gr F' H' e1 σ Q d env' s' q fun F2 H2 v st2 s2 r => kk F2 H2 v (st.trans st2) s2 r⟩
    | true => cases q; exact ⟨true, rfl, kk F' H' _ st s' (.bl true)⟩
  | _ => cases q
theorem dNotV (h : DE X x a f) : DE X x (.UnaryOp .Not a pos) (fNotV f) := by
  obtain ⟨t, hp, hr⟩ := h
  refine ⟨_, fun i => pe_not (hp i), fun F H env σ Q d env' s q kk => ?_⟩
  unfold fNotV at q
  obtain ⟨p, q1, q⟩ := Option.bind_eq_some_iff.mp q
  obtain ⟨d1, e1⟩ := p
  refine hr F H env σ _ d1 e1 s q1 fun F' H' v st s' r => ?_
  cases r with
  | bl b1 => cases q; exact ⟨b1, rfl, kk F' H' _ st s' (.bl _)⟩
  | _ => cases q
theorem dIf (ht : DT X x c ft) (h : DE X x a f) (k : DE X x b g) : DE X x (.IfExp c a b pos) (fIf ft f g) := by
  obtain ⟨t, tp, tr⟩ := ht
  obtain ⟨u, hp, hr⟩ := h
  obtain ⟨w, gp, gr⟩ := k
  refine ⟨_, fun i => pe_ifExp (tp i) (hp i) (gp i), fun F H env σ Q d env' s q kk => ?_⟩
  unfold fIf at q
  obtain ⟨p, q1, q⟩ := Option.bind_eq_some_iff.mp q
  obtain ⟨b1, e1⟩ := p
  refine tr F H env σ _ b1 e1 s q1 fun F' H' st s' => ?_
  cases b1 with
  | true => exact hr F' H' e1 σ Q d env' s' q fun F2 H2 v st2 s2 r => kk F2 H2 v (st.trans st2) s2 r
  | false => exact gr F' H' e1 σ Q d env' s' q fun F2 H2 v st2 s2 r => kk F2 H2 v (st.trans st2) s2 r
end
/-- a < b < c -/
def fChain (o o' : D → D → Option D) (fa fb fc : FO) : FT := fun e => (fa e).bind fun p => (fb p.2).bind fun q => (res p.1 q.2).bind fun a => (res q.1 q.2).bind fun b => (o a b).bind fun z => match z with
  | .bl true => (fc q.2).bind fun r => (res q.1 r.2).bind fun b' => (res r.1 r.2).bind fun c => (o' b' c).bind fun w => match w with
    | .bl k => some (k, r.2)
    | _ => none
  | .bl false => some (false, q.2)
  | _ => none

/-! ### argument lists, displays -/
def fNil : FA := fun e => some ([], e)
def fCons (f : FE) (r : FA) : FA := fun e => (f e).bind fun p => (r p.2).map fun q => (p.1 :: q.1, q.2)
theorem dNil : DA X x [] fNil := ⟨_, fun _ => pa_nil, fun F H env σ Q ds env' s q kk => by
  cases q
  exact kk F H [] Step.refl s .nil⟩
theorem dCons {r : FA} (h : DE X x e f) (k : DA X x es r) (hs : ∀ i, starEach (e :: es) (X i).env = (false, eval e (X i).env) :: starEach es (X i).env := by intro _; rfl) : DA X x (e :: es) (fCons f r) := by
  obtain ⟨t, hp, hr⟩ := h
  obtain ⟨u, gp, gr⟩ := k
  refine ⟨_, fun i => pa_cons (hp i) (gp i) (hs i), fun F H env σ Q ds env' s q kk => ?_⟩
  unfold fCons at q
  obtain ⟨p, q1, q⟩ := Option.bind_eq_some_iff.mp q
  obtain ⟨p2, q2, q⟩ := Option.map_eq_some_iff.mp q
  cases q
  refine hr F H env σ _ p.1 p.2 s q1 fun F1 H1 v st1 s1 r1 => ?_
  exact gr F1 H1 p.2 σ _ p2.1 p2.2 s1 q2 fun F2 H2 vs st2 s2 r2 => kk F2 H2 (v :: vs) (st1.trans st2) s2 (.cons (r1.mono st2.fro) r2)
theorem size_ok {n : Nat} (h : n ≤ 100000) : n ≤ sizeLine := Nat.le_trans h (by decide)
theorem size_lt {n : Nat} (h : n < 100000) : n < sizeLine := Nat.lt_of_lt_of_le h (by decide)
def fLst (fa : FA) : FE := fun e => (fa e).bind fun p => if p.1.length ≤ 100000 then some (.lst p.1, p.2) else none
def fTup (fa : FA) : FE := fun e => (fa e).bind fun p => if p.1.length ≤ 100000 then some (.tup p.1, p.2) else none
theorem Step.raw {F H : Hp} (g : Same F H) {S : Addr → Prop} {p : Addr} {o : HO} (n : H p = none) : Step F H S F (upd H p o) S := (Grow.raw g n).step S
theorem StOk.notOw {F H : Hp} {env : En} {σ : L2.St} (s : StOk x F H env σ) {p : Addr} (n : H p = none) : ¬ Ow env σ p := fun ⟨i, d, h1, h2⟩ => by
  obtain ⟨a, h3, _, r⟩ := s.ow i d h1
  rw [h2] at h3; cases h3
  obtain ⟨o, ho⟩ := r.there
  rw [n] at ho; cases ho
theorem fnone {F H : Hp} (g : Same F H) {p : Addr} (n : H p = none) : F p = none := by
  cases q : F p with
  | none => rfl
  | some u => rw [g p u q] at n; cases n
theorem dLst {fa : FA} (h : DA X x es fa) : DN X x (.List es pos) (fLst fa) := by
  obtain ⟨t, hp, hr⟩ := h
  refine ⟨_, fun i => pe_lst (hp i), fun F H env σ Q d env' s q kk => ?_⟩
  unfold fLst at q
  obtain ⟨p, q1, q⟩ := Option.bind_eq_some_iff.mp q
  by_cases hl : p.1.length ≤ 100000
  · rw [if_pos hl] at q
    cases q
    refine hr F H env σ _ p.1 p.2 s q1 fun F1 H1 vs st1 s1 r1 => ⟨size_ok (by rw [r1.len]; exact hl), fun a na => ?_⟩
    exact kk F1 _ a (st1.trans (Step.raw s1.good na)) (s1.grow (Grow.raw s1.good na)) (st1.tr a na) (fnone s1.good na) (s1.notOw na) ⟨vs, upd_same, r1⟩
  · rw [if_neg hl] at q
    cases q
theorem dTup {fa : FA} {kk} (h : DA X x es fa) : DE X x (.Tuple es kk pos) (fTup fa) := by
  obtain ⟨t, hp, hr⟩ := h
  refine ⟨_, fun i => pe_tup (hp i), fun F H env σ Q d env' s q kk => ?_⟩
  unfold fTup at q
  obtain ⟨p, q1, q⟩ := Option.bind_eq_some_iff.mp q
  by_cases hl : p.1.length ≤ 100000
  · rw [if_pos hl] at q
    cases q
    refine hr F H env σ _ p.1 p.2 s q1 fun F1 H1 vs st1 s1 r1 => ⟨size_ok (by rw [r1.len]; exact hl), fun a na => ?_⟩
    have g : Grow F1 H1 (upd F1 a (.tup vs)) (upd H1 a (.tup vs)) := Grow.new s1.good na
    exact kk _ _ _ (st1.trans (g.step _)) (s1.grow g) (.tup (SqT.of upd_same) (r1.mono g.fF))
  · rw [if_neg hl] at q
    cases q
def fDnew : FE := fun e => some (.dic [], e)
theorem dDnew : DN X x (.Dict [] [] pos) fDnew := ⟨_, fun _ => pe_dnewK, fun F H env σ Q d env' s q kk a na => by
  cases q
  exact kk F _ a (Step.raw s.good na) (s.grow (Grow.raw s.good na)) na (fnone s.good na) (s.notOw na) ⟨[], upd_same, .nil⟩⟩
end
end Vd

end

section
set_option Elab.async false
set_option linter.all false
set_option maxRecDepth 100000
set_option maxHeartbeats 1000000
/-! Lc: statements, loops, what a def promises, calls. -/
namespace Vd
open PySem L2

/-! ### states behind stores -/
section
variable {x : Kx} {F H : Hp} {env : En} {σ : L2.St} {P : Prt}
theorem keep_set {k : Nat} {v : Option V} (h : P k = false) : KeepS P σ (σ.set k v) := ⟨List.length_set, fun i hi => List.getElem?_set_ne (fun e : k = i => by rw [e, hi] at h; cases h)⟩
/-- what stands at j behind a store at k -/
theorem set_at {α : Type} {l : List α} {k j : Nat} {y z : α} (h : (l.set k y)[j]? = some z) : (j = k ∧ z = y ∧ k < l.length) ∨ (j ≠ k ∧ l[j]? = some z) := by
  by_cases e : j = k
  · subst e
    by_cases hl : j < l.length
    · rw [List.getElem?_set_self hl] at h
      exact .inl ⟨rfl, (Option.some.inj h).symm, hl⟩
    · rw [List.getElem?_eq_none (by simpa using hl)] at h
      cases h
  · rw [List.getElem?_set_ne (Ne.symm e)] at h
    exact .inr ⟨e, h⟩
theorem StOk.put (s : StOk x F H env σ) (k : Nat) {d : D} {v : V} (r : Rep x F d v) :
    StOk x F H (env.set k (.fz d)) (σ.set k (some v)) ∧ Step F H (Ow env σ) F H (Ow (env.set k (.fz d)) (σ.set k (some v))) := by
  have own : ∀ (i : Nat) (c : D), (env.set k (.fz d))[i]? = some (.ow c) → i ≠ k ∧ env[i]? = some (.ow c) := fun i c q => by
    rcases set_at q with ⟨_, q, _⟩ | q
    · cases q
    · exact q
  refine ⟨⟨s.good, by rw [List.length_set, List.length_set]; exact s.len, fun i c q => ?_, fun i c q => ?_, fun i j c c' a q1 q2 q3 q4 => ?_⟩, Step.refl.sub fun a ⟨i, c, q1, q2⟩ => ?_⟩
  · rcases set_at q with ⟨rfl, q, hl⟩ | ⟨hi, q⟩
    · cases q
      exact ⟨v, List.getElem?_set_self (by rw [← s.len]; exact hl), r⟩
    · obtain ⟨u, h1, r1⟩ := s.fz i c q
      exact ⟨u, by rw [List.getElem?_set_ne (Ne.symm hi)]; exact h1, r1⟩
  · obtain ⟨hi, q⟩ := own i c q
    obtain ⟨a, h1, r1⟩ := s.ow i c q
    exact ⟨a, by rw [List.getElem?_set_ne (Ne.symm hi)]; exact h1, r1⟩
  · obtain ⟨hi, q1⟩ := own i c q1
    obtain ⟨hj, q2⟩ := own j c' q2
    rw [List.getElem?_set_ne (Ne.symm hi)] at q3
    rw [List.getElem?_set_ne (Ne.symm hj)] at q4
    exact s.inj i j c c' a q1 q2 q3 q4
  · obtain ⟨hi, q1⟩ := own i c q1
    rw [List.getElem?_set_ne (Ne.symm hi)] at q2
    exact ⟨i, c, q1, q2⟩
/-- a new object of the frame's own -/
theorem StOk.putN {F0 H0 : Hp} {S : Addr → Prop} (s : StOk x F H env σ) (st : Step F0 H0 S F H (Ow env σ)) (k : Nat) {d : D} {a : Addr} (n0 : H0 a = none) (n : F a = none) (no : ¬ Ow env σ a) (r : RepO x F H a d) :
    StOk x F H (env.set k (.ow d)) (σ.set k (some (.ref a))) ∧ Step F0 H0 S F H (Ow (env.set k (.ow d)) (σ.set k (some (.ref a)))) := by
  have slot : ∀ i, k < env.length → i = k → (σ.set k (some (V.ref a)))[i]? = some (some (.ref a)) := fun i hl e => by
    subst e
    exact List.getElem?_set_self (by rw [← s.len]; exact hl)
  refine ⟨⟨s.good, by rw [List.length_set, List.length_set]; exact s.len, fun i c q => ?_, fun i c q => ?_, fun i j c c' b q1 q2 q3 q4 => ?_⟩, st.fro, st.kp, st.tr, fun b ⟨i, c, q1, q2⟩ => ?_⟩
  · rcases set_at q with ⟨_, q, _⟩ | ⟨hi, q⟩
    · cases q
    · obtain ⟨u, h1, r1⟩ := s.fz i c q
      exact ⟨u, by rw [List.getElem?_set_ne (Ne.symm hi)]; exact h1, r1⟩
  · rcases set_at q with ⟨e, q, hl⟩ | ⟨hi, q⟩
    · cases q
      exact ⟨a, slot i hl e, n, r⟩
    · obtain ⟨b, h1, r1⟩ := s.ow i c q
      exact ⟨b, by rw [List.getElem?_set_ne (Ne.symm hi)]; exact h1, r1⟩
  · rcases set_at q1 with ⟨ei, _, hl⟩ | ⟨hi, q1⟩ <;> rcases set_at q2 with ⟨ej, _, hl'⟩ | ⟨hj, q2⟩
    · rw [ei, ej]
    · rw [slot i hl ei] at q3
      cases q3
      rw [List.getElem?_set_ne (Ne.symm hj)] at q4
      exact (no ⟨j, c', q2, q4⟩).elim
    · rw [slot j hl' ej] at q4
      cases q4
      rw [List.getElem?_set_ne (Ne.symm hi)] at q3
      exact (no ⟨i, c, q1, q3⟩).elim
    · rw [List.getElem?_set_ne (Ne.symm hi)] at q3
      rw [List.getElem?_set_ne (Ne.symm hj)] at q4
      exact s.inj i j c c' b q1 q2 q3 q4
  · rcases set_at q1 with ⟨e, _, hl⟩ | ⟨hi, q1⟩
    · rw [slot i hl e] at q2
      cases q2
      exact .inr n0
    · rw [List.getElem?_set_ne (Ne.symm hi)] at q2
      exact st.ow b ⟨i, c, q1, q2⟩
/-- the frame's own object is changed -/
theorem StOk.mut (s : StOk x F H env σ) {k : Nat} {c d : D} {a : Addr} {o : HO} (e : env[k]? = some (.ow c)) (ha : σ[k]? = some (some (.ref a))) (n : F a = none) (r : RepO x F (upd H a o) a d) :
    StOk x F (upd H a o) (env.set k (.ow d)) σ ∧ Step F H (Ow env σ) F (upd H a o) (Ow (env.set k (.ow d)) σ) := by
  have hk : k < env.length := (List.getElem?_eq_some_iff.mp e).1
  have good : Same F (upd H a o) := fun b u q => by
    rw [upd_ne (ne_of_none q n)]
    exact s.good b u q
  have old : ∀ (i : Nat) (c' : D), (env.set k (.ow d))[i]? = some (.ow c') → ∃ c2, env[i]? = some (.ow c2) := fun i c' q => by
    rcases set_at q with ⟨rfl, _, _⟩ | ⟨_, q⟩
    · exact ⟨c, e⟩
    · exact ⟨c', q⟩
  refine ⟨⟨good, by rw [List.length_set]; exact s.len, fun i c' q => ?_, fun i c' q => ?_, fun i j c1 c2 b q1 q2 q3 q4 => ?_⟩, fun _ _ q => q, fun b u q f no => ⟨?_, f⟩, fun b q => ?_, fun b ⟨i, c', q1, q2⟩ => ?_⟩
  · rcases set_at q with ⟨_, q, _⟩ | ⟨_, q⟩
    · cases q
    · exact s.fz i c' q
  · rcases set_at q with ⟨rfl, q, _⟩ | ⟨hi, q⟩
    · cases q
      exact ⟨a, ha, n, r⟩
    · obtain ⟨b, h1, n1, r1⟩ := s.ow i c' q
      have nb : b ≠ a := fun z => hi (s.inj i k c' c a q e (by rw [h1, z]) ha)
      exact ⟨b, h1, n1, r1.mono (fun _ _ q => q) fun u q => by rw [upd_ne nb]; exact q⟩
  · obtain ⟨d1, q1⟩ := old i c1 q1
    obtain ⟨d2, q2⟩ := old j c2 q2
    exact s.inj i j d1 d2 b q1 q2 q3 q4
  · rw [upd_ne (fun z => no ⟨k, c, e, by rw [ha, z]⟩)]
    exact q
  · by_cases hb : b = a
    · subst hb
      rw [upd_same] at q
      cases q
    · rw [upd_ne hb] at q
      exact q
  · obtain ⟨d1, q1⟩ := old i c' q1
    exact .inl ⟨i, d1, q1, q2⟩
end

/-! ### statements -/
theorem After.shift {x : Kx} {P : Prt} {F H F1 H1 : Hp} {env env1 : En} {σ σ1 : L2.St} {D : Ends} (st : Step F H (Ow env σ) F1 H1 (Ow env1 σ1)) (k : KeepS P σ σ1) : ∀ {o : Out}, After x P F H env σ D o → After x P F1 H1 env1 σ1 D o
  | .nx e, h => fun F' H' σ' a b c => h F' H' σ' (st.trans a) b (k.trans c)
  | .bk e, h => fun F' H' σ' a b c => h F' H' σ' (st.trans a) b (k.trans c)
  | .ct e, h => fun F' H' σ' a b c => h F' H' σ' (st.trans a) b (k.trans c)
  | .rt r e, h => fun F' H' σ' v a b c q => h F' H' σ' v (st.trans a) b (k.trans c) (by
    cases r with
    | no => exact q
    | fz d => exact q
    | ow d =>
      obtain ⟨p, h1, h2, h3⟩ := q
      exact ⟨p, h1, st.tr p h2, h3⟩)
section
variable {ι : Type} {X : ι → Cx} {x : Kx} {P : Prt} {a b c e : Expr} {es : List Expr} {pos : Pos} {f : FE} {st : Stmt} {rest sa sb : List Stmt} {fs gs : FS} {ft : FT}
def fSeq (f g : FS) : FS := fun e => (f e).bind fun o => match o with
  | .nx e1 => g e1
  | .rt r e1 => some (.rt r e1)
  | .bk e1 => some (.bk e1)
  | .ct e1 => some (.ct e1)
def fNext : FS := fun e => some (.nx e)
theorem rf_seq {t u : TS} (h : RfS x P t fs) (k : RfS x P u gs) : RfS x P (tSeq t u) (fSeq fs gs) := fun F H env σ D out s q kk => by
  unfold fSeq at q
  obtain ⟨o, q1, q⟩ := Option.bind_eq_some_iff.mp q
  refine h F H env σ { D with nx := u D } o s q1 ?_
  cases o with
  | nx e1 => exact fun F' H' σ' st s' kp => k F' H' e1 σ' D out s' q (kk.shift st kp)
  | rt r e1 => cases q; exact kk
  | bk e1 => cases q; exact kk
  | ct e1 => cases q; exact kk
theorem bNil : DB X x P [] fNext := ⟨_, fun _ => pss_nil, fun F H env σ D out s q kk => by
  cases q
  exact kk F H σ Step.refl s KeepS.refl⟩
theorem bCons (h : DS X x P st fs) (k : DB X x P rest gs) : DB X x P (st :: rest) (fSeq fs gs) := by
  obtain ⟨t, hp, hr⟩ := h
  obtain ⟨u, gp, gr⟩ := k
  exact ⟨_, fun i => pss_cons (hp i) (gp i), rf_seq hr gr⟩
theorem bOne (h : DS X x P st fs) : DB X x P [st] fs := by
  obtain ⟨t, hp, hr⟩ := h
  exact ⟨_, fun i => pss_one (hp i), hr⟩
/-- a block that is never reached -/
def fNo : FS := fun _ => none
theorem bNo {sts : List Stmt} : DB X x P sts fNo := ⟨_, fun _ => pss_never, fun _ _ _ _ _ _ _ q _ => by cases q⟩
theorem sNo : DS X x P st fNo := ⟨_, fun _ => ps_never, fun _ _ _ _ _ _ _ q _ => by cases q⟩
theorem sPass : DS X x P (.Pass pos) fNext := ⟨_, fun _ => ps_pass, fun F H env σ D out s q kk => by
  cases q
  exact kk F H σ Step.refl s KeepS.refl⟩
def fBreak : FS := fun e => some (.bk e)
def fCont : FS := fun e => some (.ct e)
theorem sBreak : DS X x P (.Break pos) fBreak := ⟨_, fun _ => ps_break, fun F H env σ D out s q kk => by
  cases q
  exact kk F H σ Step.refl s KeepS.refl⟩
theorem sCont : DS X x P (.Continue pos) fCont := ⟨_, fun _ => ps_continue, fun F H env σ D out s q kk => by
  cases q
  exact kk F H σ Step.refl s KeepS.refl⟩
def fDrop (f : FE) : FS := fun e => (f e).map fun p => .nx p.2
theorem sExpr (h : DE X x e f) (hs : ∀ i, swapsWith e none pos.line (X i).env = pure false := by intro _; rfl) : DS X x P (.Expr e pos) (fDrop f) := by
  obtain ⟨t, hp, hr⟩ := h
  refine ⟨_, fun i => ps_expr (hp i) (hs i), fun F H env σ D out s q kk => ?_⟩
  unfold fDrop at q
  obtain ⟨p, q1, q⟩ := Option.map_eq_some_iff.mp q
  cases q
  exact hr F H env σ _ p.1 p.2 s q1 fun F' H' v st s' r => kk F' H' σ st s' KeepS.refl
def fRet (f : FE) : FS := fun e => (f e).map fun p => .rt (.fz p.1) p.2
def fRetN (f : FE) : FS := fun e => (f e).map fun p => .rt (.ow p.1) p.2
def fRetV : FS := fun e => some (.rt (.fz .non) e)
theorem sRet (h : DE X x e f) : DS X x P (.Return (some e) pos) (fRet f) := by
  obtain ⟨t, hp, hr⟩ := h
  refine ⟨_, fun i => ps_ret (hp i), fun F H env σ D out s q kk => ?_⟩
  unfold fRet at q
  obtain ⟨p, q1, q⟩ := Option.map_eq_some_iff.mp q
  cases q
  exact hr F H env σ _ p.1 p.2 s q1 fun F' H' v st s' r => kk F' H' σ v st s' KeepS.refl r
theorem sRetN (h : DN X x e f) : DS X x P (.Return (some e) pos) (fRetN f) := by
  obtain ⟨t, hp, hr⟩ := h
  refine ⟨_, fun i => ps_ret (hp i), fun F H env σ D out s q kk => ?_⟩
  unfold fRetN at q
  obtain ⟨p, q1, q⟩ := Option.map_eq_some_iff.mp q
  cases q
  exact hr F H env σ _ p.1 p.2 s q1 fun F' H' a st s' n n' no r => kk F' H' σ _ st s' KeepS.refl ⟨a, rfl, n, n', no, r⟩
theorem sRetV : DS X x P (.Return none pos) fRetV := ⟨_, fun _ => ps_retN, fun F H env σ D out s q kk => by
  cases q
  exact kk F H σ .non Step.refl s KeepS.refl .non⟩
def fIfS (ft : FT) (f g : FS) : FS := fun e => (ft e).bind fun p => match p.1 with
  | true => f p.2
  | false => g p.2
theorem sIf (ht : DT X x c ft) (h : DB X x P sa fs) (k : DB X x P sb gs) : DS X x P (.If c sa sb pos) (fIfS ft fs gs) := by
  obtain ⟨t, tp, tr⟩ := ht
  obtain ⟨u, hp, hr⟩ := h
  obtain ⟨w, gp, gr⟩ := k
  refine ⟨_, fun i => ps_if (tp i) (hp i) (gp i), fun F H env σ D out s q kk => ?_⟩
  unfold fIfS at q
  obtain ⟨p, q1, q⟩ := Option.bind_eq_some_iff.mp q
  obtain ⟨b1, e1⟩ := p
  refine tr F H env σ _ b1 e1 s q1 fun F' H' st s' => ?_
  cases b1 with
  | true => exact hr F' H' e1 σ D out s' q (kk.shift st KeepS.refl)
  | false => exact gr F' H' e1 σ D out s' q (kk.shift st KeepS.refl)
/-- x = e -/
def fSet (k : Nat) (f : FE) : FS := fun e => (f e).map fun p => .nx (p.2.set k (.fz p.1))
def fSetN (k : Nat) (f : FE) : FS := fun e => (f e).map fun p => .nx (p.2.set k (.ow p.1))
theorem sSet (k : Nat) {z : Str} {pos' : Pos} (hP : P k = false) (hN : ∀ i, (X i).N.Nodup) (hi : ∀ i, (X i).N[k]? = some z) (hx : ∀ i, Loc (X i).env.scope z) (he : DE X x e f)
    (hs : ∀ i, swapsWith e (some (.Name z pos')) pos.line (X i).env = pure false := by intro _; rfl) (hf : ∀ i, (X i).fn z = true ∨ (X i).env.scope.names.lookup z = some .local := by intro _; exact .inl rfl) :
    DS X x P (.Assign [.Name z pos'] e pos) (fSet k f) := by
  obtain ⟨t, hp, hr⟩ := he
  refine ⟨_, fun i => ps_set (hN i) (hi i) (hx i) (hp i) (hs i) (hf i), fun F H env σ D out s q kk => ?_⟩
  unfold fSet at q
  obtain ⟨p, q1, q⟩ := Option.map_eq_some_iff.mp q
  cases q
  refine hr F H env σ _ p.1 p.2 s q1 fun F' H' v st s' r => ?_
  obtain ⟨s2, st2⟩ := s'.put k r
  exact kk F' H' _ (st.trans st2) s2 (keep_set hP)
theorem sSetN (k : Nat) {z : Str} {pos' : Pos} (hP : P k = false) (hN : ∀ i, (X i).N.Nodup) (hi : ∀ i, (X i).N[k]? = some z) (hx : ∀ i, Loc (X i).env.scope z) (he : DN X x e f)
    (hs : ∀ i, swapsWith e (some (.Name z pos')) pos.line (X i).env = pure false := by intro _; rfl) (hf : ∀ i, (X i).fn z = true ∨ (X i).env.scope.names.lookup z = some .local := by intro _; exact .inl rfl) :
    DS X x P (.Assign [.Name z pos'] e pos) (fSetN k f) := by
  obtain ⟨t, hp, hr⟩ := he
  refine ⟨_, fun i => ps_set (hN i) (hi i) (hx i) (hp i) (hs i) (hf i), fun F H env σ D out s q kk => ?_⟩
  unfold fSetN at q
  obtain ⟨p, q1, q⟩ := Option.map_eq_some_iff.mp q
  cases q
  refine hr F H env σ _ p.1 p.2 s q1 fun F' H' a st s' n n' no r => ?_
  obtain ⟨s2, st2⟩ := s'.putN st k n n' no r
  exact kk F' H' _ st2 s2 (keep_set hP)

/-! ### targets -/
def gN (k : Nat) : FG := fun d e => some (e.set k (.fz d))
theorem gName_ (k : Nat) {z : Str} (hP : P k = false) (hN : ∀ i, (X i).N.Nodup) (hi : ∀ i, (X i).N[k]? = some z) (hx : ∀ i, Loc (X i).env.scope z) (hf : ∀ i, (X i).fn z = true ∨ (X i).env.scope.names.lookup z = some .local := by intro _; exact .inl rfl) :
    DG X x P (.Name z pos) (gN k) := ⟨_, fun i => pg_name (hN i) (hi i) (hx i) (hf i), fun F H env σ Q d v env' s r q kk => by
  cases q
  obtain ⟨s2, st2⟩ := s.put k r
  exact kk _ st2 s2 (keep_set hP)⟩
abbrev FGs := List D → En → Option En
def RfGs (x : Kx) (P : Prt) (g : TGs) (f : FGs) : Prop := ∀ (F H : Hp) (env : En) (σ : L2.St) (Q : L2.St → Hp → Prop) (ds : List D) (vs : List V) (env' : En), StOk x F H env σ → RepL x F ds vs → f ds env = some env' →
  (∀ σ', Step F H (Ow env σ) F H (Ow env' σ') → StOk x F H env' σ' → KeepS P σ σ' → Q σ' H) → g vs σ H Q
structure DGs (X : ι → Cx) (x : Kx) (P : Prt) (es : List Expr) (f : FGs) : Prop where
  ex : ∃ t, (∀ i, PGs (X i) es t) ∧ RfGs x P t f
def gsNil : FGs := fun ds e => match ds with
  | [] => some e
  | _ :: _ => none
def gsCons (g : FG) (r : FGs) : FGs := fun ds e => match ds with
  | [] => none
  | d :: ds => (g d e).bind fun e1 => r ds e1
theorem gsNil_ : DGs X x P [] gsNil := ⟨_, fun _ => pgs_nil, fun F H env σ Q ds vs env' s r q kk => by
  cases r with
  | nil => cases q; exact ⟨rfl, kk _ Step.refl s KeepS.refl⟩
  | cons _ _ => cases q⟩
theorem gsCons_ {g : FG} {r : FGs} (h : DG X x P e g) (k : DGs X x P es r) (hs : ∀ i, (assignEach (e :: es) (X i).env).map (·.2) = assign e (X i).env :: (assignEach es (X i).env).map (·.2) := by intro _; rfl) : DGs X x P (e :: es) (gsCons g r) := by
  obtain ⟨t, hp, hr⟩ := h
  obtain ⟨u, gp, gr⟩ := k
  refine ⟨_, fun i => pgs_cons (hp i) (gp i) (hs i), fun F H env σ Q ds vs env' s r q kk => ?_⟩
  cases r with
  | nil => cases q
  | cons r1 r2 =>
    obtain ⟨e1, q1, q⟩ := Option.bind_eq_some_iff.mp q
    refine ⟨_, _, rfl, hr F H env σ _ _ _ e1 s r1 q1 fun σ1 st1 s1 k1 => ?_⟩
    exact gr F H e1 σ1 _ _ _ env' s1 r2 q fun σ2 st2 s2 k2 => kk σ2 (st1.trans st2) s2 (k1.trans k2)
def gT (n : Nat) (g : FGs) : FG := fun d e => match d with
  | .tup ds => if ds.length = n then g ds e else none
  | .lst ds => if ds.length = n then g ds e else none
  | _ => none
theorem pg_or {X : Cx} {e : Expr} {t t' : TG} (h : PG X e t) (h' : PG X e t') : PG X e (fun v σ H Q => t v σ H Q ∨ t' v σ H Q) :=
  ⟨fun pins s σ H v u Q I r q => q.elim (fun q => h.run pins s σ H v u Q I r q) fun q => h'.run pins s σ H v u Q I r q⟩
theorem gTup_ {g : FGs} {kk n : Nat} (hK : ∀ i, (X i).K = x.K) (hc : ∀ i, (X i).calm = true) (h : DGs X x P es g)
    (hn : ∀ i, (assignEach es (X i).env).length = n := by intro _; rfl) (hst : ∀ i, (assignEach es (X i).env).findIdx? (·.1) = none := by intro _; rfl) : DG X x P (.Tuple es kk pos) (gT n g) := by
  obtain ⟨t, hp, hr⟩ := h
  refine ⟨fun v σ H Q => gTup x.K n t v σ H Q ∨ gUnl x.K n t v σ H Q, fun i => by
    have h1 := pg_tup (pos := pos) (k := kk) (hc i) (hp i) (hn i) (hst i)
    have h2 := pg_unl (pos := pos) (k := kk) (hc i) (hp i) (hn i) (hst i)
    rw [hK i] at h1 h2
    exact pg_or h1 h2, fun F H env σ Q d v env' s r q kk => ?_⟩
  cases r with
  | @tup a xs ds h r =>
    by_cases hl : ds.length = n
    · have q : (if ds.length = n then g ds env else none) = some env' := q
      rw [if_pos hl] at q
      exact .inl ⟨a, xs, rfl, same_t s.good h, by rw [r.len]; exact hl, hr F H env σ Q ds xs env' s r q kk⟩
    · have q : (if ds.length = n then g ds env else none) = some env' := q
      rw [if_neg hl] at q
      cases q
  | @lst a xs ds h r =>
    by_cases hl : ds.length = n
    · have q : (if ds.length = n then g ds env else none) = some env' := q
      rw [if_pos hl] at q
      exact .inr ⟨a, xs, rfl, SqL.of (s.good _ _ h), by rw [r.len]; exact hl, hr F H env σ Q ds xs env' s r q kk⟩
    · have q : (if ds.length = n then g ds env else none) = some env' := q
      rw [if_neg hl] at q
      cases q
  | _ => cases q
/-- target = value -/
def fAsg (g : FG) (f : FE) : FS := fun e => (f e).bind fun p => (g p.1 p.2).map .nx
theorem sAsg {tg : Expr} {g : FG} (he : DE X x e f) (hg : DG X x P tg g) (hs : ∀ i, swapsWithSole [tg] e pos.line (X i).env = pure false := by intro _; rfl) (hw : ∀ i, swappedStores [tg] e (X i).env = pure none := by intro _; rfl)
    (h1 : ∀ i, (assignEach [tg] (X i).env).map (·.2) = [assign tg (X i).env] := by intro _; rfl) : DS X x P (.Assign [tg] e pos) (fAsg g f) := by
  obtain ⟨t, hp, hr⟩ := he
  obtain ⟨u, gp, gr⟩ := hg
  refine ⟨_, fun i => ps_asg (hp i) (gp i) (hs i) (hw i) (h1 i), fun F H env σ D out s q kk => ?_⟩
  unfold fAsg at q
  obtain ⟨p, q1, q⟩ := Option.bind_eq_some_iff.mp q
  obtain ⟨e2, q2, q⟩ := Option.map_eq_some_iff.mp q
  cases q
  refine hr F H env σ _ p.1 p.2 s q1 fun F1 H1 v st s1 r => ?_
  exact gr F1 H1 p.2 σ _ p.1 v e2 s1 r q2 fun σ2 st2 s2 k2 => kk F1 H1 σ2 (st.trans st2) s2 k2

/-! ### for -/
def loopF (g : FG) (b : FS) : List D → En → Option Out
  | [], e => some (.nx e)
  | d :: ds, e => (g d e).bind fun e1 => (b e1).bind fun o => match o with
    | .nx e2 => loopF g b ds e2
    | .ct e2 => loopF g b ds e2
    | .bk e2 => some (.nx e2)
    | .rt r e2 => some (.rt r e2)
def fFor (i : FI) (g : FG) (b : FS) : FS := fun e => (i e).bind fun p => loopF g b p.1 p.2
theorem rf_for {wi : TI} {tg : TG} {tb : TS} {fi : FI} {g : FG} (hi : RfI x wi fi) (hg : RfG x P tg g) (hb : RfS x P tb fs) : RfS x P (tFor wi tg tb) (fFor fi g fs) := fun F H env σ D out s q kk => by
  unfold fFor at q
  obtain ⟨p, q1, q⟩ := Option.bind_eq_some_iff.mp q
  obtain ⟨ds, e1⟩ := p
  refine hi F H env σ _ ds e1 s q1 fun F1 H1 J st1 s1 wk => ?_
  refine ⟨fun i m σ' H' => i ≤ ds.length ∧ m = ds.length - i ∧ ∃ F' env', Step F H (Ow env σ) F' H' (Ow env' σ') ∧ Same F1 F' ∧ StOk x F' H' env' σ' ∧ KeepS P σ σ' ∧ loopF g fs (ds.drop i) env' = some out,
    ⟨_, Nat.zero_le _, rfl, F1, e1, st1, fun _ _ z => z, s1, KeepS.refl, q⟩, ?_⟩
  rintro i m σ' H' ⟨hi', rfl, F', env', st', sf, s', kp, hq⟩
  by_cases hlt : i < ds.length
  · obtain ⟨d, hd⟩ : ∃ d, ds[i]? = some d := ⟨ds[i], List.getElem?_eq_getElem hlt⟩
    have hdrop : ds.drop i = d :: ds.drop (i + 1) := by
      rw [List.drop_eq_getElem_cons hlt]
      rw [List.getElem?_eq_getElem hlt] at hd
      cases hd
      rfl
    rw [hdrop] at hq
    unfold loopF at hq
    obtain ⟨e2, q2, hq⟩ := Option.bind_eq_some_iff.mp hq
    obtain ⟨o, q3, hq⟩ := Option.bind_eq_some_iff.mp hq
    refine .inr ⟨wk.go F' H' i sf s'.good hlt, fun σ2 H2 => ∃ F2 env2, Step F H (Ow env σ) F2 H2 (Ow env2 σ2) ∧ Same F1 F2 ∧ StOk x F2 H2 env2 σ2 ∧ KeepS P σ σ2 ∧ loopF g fs (ds.drop (i + 1)) env2 = some out,
      fun σ2 H2 ⟨F2, env2, a1, a2, a3, a4, a5⟩ => ⟨ds.length - (i + 1), by omega, hlt, rfl, F2, env2, a1, a2, a3, a4, a5⟩, fun v H2 hy => ?_⟩
    obtain ⟨F2, gr, rv⟩ := wk.yld F' H' i v H2 d sf s'.good hd hy
    refine hg F2 H2 env' σ' _ d v e2 (s'.grow gr) rv q2 fun σ3 st3 s3 k3 => ?_
    have st13 : Step F H (Ow env σ) F2 H2 (Ow e2 σ3) := (st'.trans (gr.step _)).trans st3
    have sf3 : Same F1 F2 := fun b u z => gr.fF b u (sf b u z)
    refine hb F2 H2 e2 σ3 _ o s3 q3 ?_
    cases o with
    | nx e4 => exact fun F4 H4 σ4 st4 s4 k4 => ⟨F4, e4, st13.trans st4, fun b u z => st4.fro b u (sf3 b u z), s4, (kp.trans k3).trans k4, hq⟩
    | ct e4 => exact fun F4 H4 σ4 st4 s4 k4 => ⟨F4, e4, st13.trans st4, fun b u z => st4.fro b u (sf3 b u z), s4, (kp.trans k3).trans k4, hq⟩
    | bk e4 =>
      cases hq
      exact fun F4 H4 σ4 st4 s4 k4 => kk F4 H4 σ4 (st13.trans st4) s4 ((kp.trans k3).trans k4)
    | rt r e4 =>
      cases hq
      exact fun F4 H4 σ4 v st4 s4 k4 rr => After.shift (o := .rt r e4) st13 (kp.trans k3) kk F4 H4 σ4 v st4 s4 k4 rr
  · have e : i = ds.length := by omega
    subst e
    rw [List.drop_length] at hq
    cases hq
    exact .inl ⟨wk.stop F' H' sf s'.good, kk F' H' σ' st' s' kp⟩
theorem sFor {tg iter : Expr} {fi : FI} {g : FG} (hp : ∀ i, PassesOwn (model (X i).prog (X i).w) (X i).A (X i).env (X i).xe) (hc : ∀ i, (X i).calm = true) (hi : DI X x tg iter fi) (hg : DG X x P tg g) (hb : DB X x P sa fs)
    (hs : ∀ i y, foldedSetIterable iter (X i).env y = pure y := by intro _ _; rfl) : DS X x P (.For tg iter sa [] pos) (fFor fi g fs) := by
  obtain ⟨t, ip, ir⟩ := hi
  obtain ⟨u, gp, gr⟩ := hg
  obtain ⟨w, bp, br⟩ := hb
  exact ⟨_, fun i => ps_for (hp i) (hc i) (ip i) (gp i) (bp i) (hs i), rf_for ir gr br⟩

/-! ### while -/
def loopW (t : FT) (b : FS) : Nat → En → Option Out
  | 0, _ => none
  | n + 1, e => (t e).bind fun p => match p.1 with
    | false => some (.nx p.2)
    | true => (b p.2).bind fun o => match o with
      | .nx e2 => loopW t b n e2
      | .ct e2 => loopW t b n e2
      | .bk e2 => some (.nx e2)
      | .rt r e2 => some (.rt r e2)
def fWhile (n : Nat) (t : FT) (b : FS) : FS := loopW t b n
theorem sWhile (n : Nat) (hp : ∀ i, PassesOwn (model (X i).prog (X i).w) (X i).A (X i).env (X i).xe) (ht : DT X x c ft) (hb : DB X x P sa fs) : DS X x P (.While c sa [] pos) (fWhile n ft fs) := by
  obtain ⟨t, tp, tr⟩ := ht
  obtain ⟨w, bp, br⟩ := hb
  refine ⟨_, fun i => ps_while (hp i) (tp i) (bp i), fun F H env σ D out s q kk => ?_⟩
  refine ⟨fun m σ' H' => ∃ F' env', Step F H (Ow env σ) F' H' (Ow env' σ') ∧ StOk x F' H' env' σ' ∧ KeepS P σ σ' ∧ loopW ft fs m env' = some out, ⟨n, F, env, Step.refl, s, KeepS.refl, q⟩, ?_⟩
  rintro m σ' H' ⟨F', env', st', s', kp, hq⟩
  cases m with
  | zero => cases hq
  | succ m =>
    unfold loopW at hq
    obtain ⟨p, q1, hq⟩ := Option.bind_eq_some_iff.mp hq
    obtain ⟨b1, e1⟩ := p
    refine tr F' H' env' σ' _ b1 e1 s' q1 fun F1 H1 st1 s1 => ?_
    cases b1 with
    | false =>
      cases hq
      exact kk F1 H1 σ' (st'.trans st1) s1 kp
    | true =>
      obtain ⟨o, q2, hq⟩ := Option.bind_eq_some_iff.mp hq
      have st2 := st'.trans st1
      refine ⟨fun σ2 H2 => ∃ F2 env2, Step F H (Ow env σ) F2 H2 (Ow env2 σ2) ∧ StOk x F2 H2 env2 σ2 ∧ KeepS P σ σ2 ∧ loopW ft fs m env2 = some out, fun σ2 H2 h => ⟨m, Nat.lt_succ_self _, h⟩, ?_⟩
      refine br F1 H1 e1 σ' _ o s1 q2 ?_
      cases o with
      | nx e4 => exact fun F4 H4 σ4 st4 s4 k4 => ⟨F4, e4, st2.trans st4, s4, kp.trans k4, hq⟩
      | ct e4 => exact fun F4 H4 σ4 st4 s4 k4 => ⟨F4, e4, st2.trans st4, s4, kp.trans k4, hq⟩
      | bk e4 =>
        cases hq
        exact fun F4 H4 σ4 st4 s4 k4 => kk F4 H4 σ4 (st2.trans st4) s4 (kp.trans k4)
      | rt r e4 =>
        cases hq
        exact fun F4 H4 σ4 v st4 s4 k4 rr => After.shift (o := .rt r e4) st2 kp kk F4 H4 σ4 v st4 s4 k4 rr
end
end Vd

end

section
set_option Elab.async false
set_option linter.all false
set_option maxRecDepth 100000
set_option maxHeartbeats 1000000
/-! Ld: what a def promises (spD), a def by its body, calls. -/
namespace Vd
open PySem L2 PyProof.Rows

/-! ### the promise: g from the arguments' slots to the result and the arguments' slots behind -/
def spD (x : Kx) (n : Nat) (g : List Sl → Option (Sl × List Sl)) : Sp := fun vs H Q _ => vs.length = n ∧ ∃ F sls r sls', StOk x F H sls (vs.map some) ∧ g sls = some (r, sls') ∧
  ∀ F' H' v, Step F H (Ow sls (vs.map some)) F' H' (Ow sls' (vs.map some)) → StOk x F' H' sls' (vs.map some) → ResOk x H F' H' (Ow sls' (vs.map some)) r v → Q v H'
/-- the arguments' slots behind a def: those at P as the body leaves them; the others were values -/
def finL (P : Prt) : Nat → List Sl → En → Option (List Sl)
  | _, [], _ => some []
  | i, s :: ss, e :: es => match P i with
    | true => (finL P (i + 1) ss es).map fun r => e :: r
    | false => match s with
      | .ow _ => none
      | s => (finL P (i + 1) ss es).map fun r => s :: r
  | _, _ :: _, [] => none
def runD (P : Prt) (N : Nat) (b : FS) : List Sl → Option (Sl × List Sl) := fun sls =>
  (b (sls ++ List.replicate (N - sls.length) .no)).bind fun o => match o with
    | .rt r e => (finL P 0 sls e).map fun s => (r, s)
    | .nx e => (finL P 0 sls e).map fun s => (.fz .non, s)
    | _ => none
theorem finL_at {P : Prt} : ∀ {ss : List Sl} {e : En} {i : Nat} {r : List Sl}, finL P i ss e = some r → r.length = ss.length ∧ ∀ (j : Nat) (s : Sl), r[j]? = some s → (P (i + j) = true ∧ e[j]? = some s) ∨ (ss[j]? = some s ∧ ∀ d, s ≠ .ow d)
  | [], e, i, r, h => by
    cases h
    exact ⟨rfl, fun j s q => by simp at q⟩
  | s0 :: ss, [], i, r, h => by cases h
  | s0 :: ss, e0 :: es, i, r, h => by
    unfold finL at h
    cases hc : P i with
    | true =>
      rw [hc] at h
      obtain ⟨r1, h1, h2⟩ := Option.map_eq_some_iff.mp h
      subst h2
      obtain ⟨l, ih⟩ := finL_at h1
      refine ⟨by rw [List.length_cons, List.length_cons, l], fun j s q => ?_⟩
      cases j with
      | zero =>
        cases q
        exact .inl ⟨hc, rfl⟩
      | succ j =>
        have := ih j s (by simpa using q)
        rw [show i + (j + 1) = i + 1 + j by omega]
        simpa using this
    | false =>
      rw [hc] at h
      have h' : (∀ d, s0 ≠ .ow d) ∧ (finL P (i + 1) ss es).map (fun r => s0 :: r) = some r := by
        cases s0 with
        | no => exact ⟨fun d z => (nomatch z), h⟩
        | fz d => exact ⟨fun d z => (nomatch z), h⟩
        | ow d => cases h
      obtain ⟨hn, h⟩ := h'
      obtain ⟨r1, h1, h2⟩ := Option.map_eq_some_iff.mp h
      subst h2
      obtain ⟨l, ih⟩ := finL_at h1
      refine ⟨by rw [List.length_cons, List.length_cons, l], fun j s q => ?_⟩
      cases j with
      | zero =>
        cases q
        exact .inr ⟨rfl, hn⟩
      | succ j =>
        have := ih j s (by simpa using q)
        rw [show i + (j + 1) = i + 1 + j by omega]
        simpa using this
section
variable {x : Kx}
theorem start_at {N : List Str} {vs : List V} {i : Nat} {v : V} (h : vs[i]? = some v) : (L2.start N vs)[i]? = some (some v) := by
  unfold L2.start
  have hi := (List.getElem?_eq_some_iff.mp h).1
  rw [List.getElem?_append_left (by simpa using hi), List.getElem?_map, h]
  rfl
theorem StOk.start {F H : Hp} {sls : List Sl} {vs : List V} {N : List Str} (s : StOk x F H sls (vs.map some)) :
    StOk x F H (sls ++ List.replicate (N.length - sls.length) .no) (L2.start N vs) ∧ ∀ a, Ow (sls ++ List.replicate (N.length - sls.length) .no) (L2.start N vs) a ↔ Ow sls (vs.map some) a := by
  have hl : sls.length = vs.length := by simpa using s.len
  have old : ∀ (i : Nat) (z : Sl), z ≠ .no → (sls ++ List.replicate (N.length - sls.length) Sl.no)[i]? = some z → sls[i]? = some z := fun i z hz q => by
    by_cases hi : i < sls.length
    · rwa [List.getElem?_append_left hi] at q
    · rw [List.getElem?_append_right (by omega), List.getElem?_replicate] at q
      split at q
      · exact absurd (Option.some.inj q).symm hz
      · cases q
  have up : ∀ (i : Nat) (z : Sl), sls[i]? = some z → (sls ++ List.replicate (N.length - sls.length) Sl.no)[i]? = some z := fun i z q => by
    rw [List.getElem?_append_left (List.getElem?_eq_some_iff.mp q).1]
    exact q
  have sl : ∀ {i : Nat} {v : V}, (vs.map some)[i]? = some (some v) → (L2.start N vs)[i]? = some (some v) := fun {i v} q => by
    rw [List.getElem?_map] at q
    cases h : vs[i]? with
    | none => rw [h] at q; cases q
    | some u => rw [h] at q; cases q; exact start_at h
  have ls : ∀ {i : Nat} {v : V}, i < sls.length → (L2.start N vs)[i]? = some (some v) → (vs.map some)[i]? = some (some v) := fun {i v} hi q => by
    have h : vs[i]? = some (vs[i]'(by omega)) := List.getElem?_eq_getElem (by omega)
    rw [start_at h] at q
    rw [List.getElem?_map, h]
    cases q
    rfl
  refine ⟨⟨s.good, ?_, fun i d q => ?_, fun i d q => ?_, fun i j d d' a q1 q2 q3 q4 => ?_⟩, fun a => ⟨fun ⟨i, d, q1, q2⟩ => ?_, fun ⟨i, d, q1, q2⟩ => ?_⟩⟩
  · unfold L2.start
    rw [List.length_append, List.length_append, List.length_replicate, List.length_replicate, List.length_map, hl]
  · obtain ⟨v, h1, r⟩ := s.fz i d (old i _ (fun z => nomatch z) q)
    exact ⟨v, sl h1, r⟩
  · obtain ⟨v, h1, r⟩ := s.ow i d (old i _ (fun z => nomatch z) q)
    exact ⟨v, sl h1, r⟩
  · have q1 := old i (.ow d) (fun z => nomatch z) q1
    have q2 := old j (.ow d') (fun z => nomatch z) q2
    exact s.inj i j d d' a q1 q2 (ls (List.getElem?_eq_some_iff.mp q1).1 q3) (ls (List.getElem?_eq_some_iff.mp q2).1 q4)
  · have q1 := old i (.ow d) (fun z => nomatch z) q1
    exact ⟨i, d, q1, ls (List.getElem?_eq_some_iff.mp q1).1 q2⟩
  · exact ⟨i, d, up i _ q1, sl q2⟩
/-- behind the body: the arguments' slots -/
theorem StOk.fin {F H F' H' : Hp} {sls r : List Sl} {vs : List V} {e : En} {σ' : L2.St} {N : List Str} {P : Prt} (s : StOk x F H sls (vs.map some)) (fr : Same F F') (s' : StOk x F' H' e σ') (kp : KeepS P (L2.start N vs) σ') (h : finL P 0 sls e = some r) :
    StOk x F' H' r (vs.map some) ∧ ∀ a, Ow r (vs.map some) a → Ow e σ' a := by
  obtain ⟨hl, hr⟩ := finL_at h
  have lv : sls.length = vs.length := by simpa using s.len
  have at_ : ∀ {j : Nat} {z : Sl}, r[j]? = some z → (P j = true ∧ e[j]? = some z ∧ ∃ v, vs[j]? = some v ∧ σ'[j]? = some (some v)) ∨ (sls[j]? = some z ∧ ∀ d, z ≠ .ow d) := fun {j z} q => by
    rcases hr j z q with ⟨h1, h2⟩ | h1
    · rw [Nat.zero_add] at h1
      have hj : j < vs.length := by have := (List.getElem?_eq_some_iff.mp q).1; omega
      have hv : vs[j]? = some vs[j] := List.getElem?_eq_getElem hj
      exact .inl ⟨h1, h2, _, hv, (kp.at_ j h1).trans (start_at hv)⟩
    · exact .inr h1
  have own : ∀ {j : Nat} {d : D}, r[j]? = some (.ow d) → e[j]? = some (.ow d) ∧ ∃ v, vs[j]? = some v ∧ σ'[j]? = some (some v) := fun {j d} q => by
    rcases at_ q with ⟨_, h1, h2⟩ | ⟨_, h2⟩
    · exact ⟨h1, h2⟩
    · exact absurd rfl (h2 d)
  have mv : ∀ {j : Nat} {v u : V}, vs[j]? = some v → (vs.map some)[j]? = some (some u) → u = v := fun {j v u} h1 h2 => by
    rw [List.getElem?_map, h1] at h2
    cases h2
    rfl
  refine ⟨⟨s'.good, by rw [hl]; exact s.len, fun j d q => ?_, fun j d q => ?_, fun i j d d' a q1 q2 q3 q4 => ?_⟩, fun a ⟨j, d, q1, q2⟩ => ?_⟩
  · rcases at_ q with ⟨_, h1, v, h2, h3⟩ | ⟨h1, _⟩
    · obtain ⟨u, h4, r4⟩ := s'.fz j d h1
      rw [h3] at h4; cases h4
      exact ⟨v, by rw [List.getElem?_map, h2]; rfl, r4⟩
    · obtain ⟨u, h4, r4⟩ := s.fz j d h1
      exact ⟨u, h4, r4.mono fr⟩
  · obtain ⟨h1, v, h2, h3⟩ := own q
    obtain ⟨a, h4, r4⟩ := s'.ow j d h1
    rw [h3] at h4; cases h4
    exact ⟨a, by rw [List.getElem?_map, h2]; rfl, r4⟩
  · obtain ⟨h1, v, h2, h3⟩ := own q1
    obtain ⟨h1', v', h2', h3'⟩ := own q2
    have e1 := mv h2 q3
    have e2 := mv h2' q4
    subst e1; subst e2
    exact s'.inj i j d d' a h1 h1' h3 h3'
  · obtain ⟨h1, v, h2, h3⟩ := own q1
    have e1 := mv h2 q2
    subst e1
    exact ⟨j, d, h1, h3⟩
theorem Step.from {F H F' H' : Hp} {S S1 S' : Addr → Prop} (a : Step F H S F' H' S') (h : ∀ c, S1 c ↔ S c) : Step F H S1 F' H' S' := ⟨a.fro, fun c o e f n => a.kp c o e f fun z => n ((h c).mpr z), a.tr, fun c q => by
  rcases a.ow c q with z | z
  · exact .inl ((h c).mpr z)
  · exact .inr z⟩
/-- the body's end gives what was promised -/
theorem rf_body {P : Prt} {N : List Str} {t : TS} {b : FS} {vs : List V} {H : Hp} {Q : VK} {E : XK} {n : Nat} (h : RfS x P t b) (sp : spD x n (runD P N.length b) vs H Q E) : t { nx := fun _ H' => Q .non H', rt := Q } (L2.start N vs) H := by
  obtain ⟨hn, F, sls, r, sls', s, q, k⟩ := sp
  unfold runD at q
  obtain ⟨o, q1, q⟩ := Option.bind_eq_some_iff.mp q
  obtain ⟨s0, ho⟩ := s.start (N := N)
  refine h F H _ (L2.start N vs) _ o s0 q1 ?_
  cases o with
  | bk e => cases q
  | ct e => cases q
  | nx e =>
    obtain ⟨sl, q2, q⟩ := Option.map_eq_some_iff.mp q
    cases q
    intro F' H' σ' st s' kp
    obtain ⟨s2, hs⟩ := s.fin st.fro s' kp q2
    exact k F' H' .non ((st.from fun a => (ho a).symm).sub hs) s2 (Rep.non : Rep x F' .non .non)
  | rt r1 e =>
    obtain ⟨sl, q2, q⟩ := Option.map_eq_some_iff.mp q
    cases q
    intro F' H' σ' v st s' kp ro
    obtain ⟨s2, hs⟩ := s.fin st.fro s' kp q2
    refine k F' H' v ((st.from fun a => (ho a).symm).sub hs) s2 ?_
    cases r with
    | no => exact ro
    | fz d => exact ro
    | ow d =>
      obtain ⟨a, h1, h2, h3, h4, h5⟩ := ro
      exact ⟨a, h1, h2, h3, fun z => h4 (hs a z), h5⟩
end

/-! ### a def by its body -/
section
variable {Pr : Program} {w : World} {mg : Str → Option Value} {base : Heap} {K : PySem.W.Frag}
theorem fn_d {x qual : Str} {params : Arguments} {body : List Stmt} {scope : Scope} {dvs : List V} {kws : List (Str × V)} {f : Addr} {fd : FuncData} {N ps : List Str} {k : Nat} {P : Prt} {b : FS} {κ : Kx}
    (F : FunD K x qual params body scope dvs kws f fd) (S : FnScope N ps scope)
    (hb : ∀ (cdv : Value) (A : Around) (outer : List PySem.Env) (s : Shared) (H : Hp) (E : XK), Room k (A.deeper (envOfC qual scope s.heap.objs.size f cdv)) → DB (fun _ : Unit => (cxOf CX0 Pr w K mg base N qual scope f cdv A outer s H E).nox) κ P body b) :
    FnOk Pr w K mg base CX0 (k + 1) f fd ps (spD κ ps.length (runD P N.length b)) := by
  refine F.ok S (fun vs H Q E h => h.1) fun cdv A outer s H vs Q E hr h => ?_
  obtain ⟨t, hp, ht⟩ := hb cdv A outer s H E hr
  exact ⟨t, (hp ()).nox, rf_body ht h⟩
end

/-! ### arguments of a call: values, and own slots that are lent -/
abbrev FAr := En → Option (List Ar × En)
inductive ArOk (x : Kx) (F : Hp) (σ : L2.St) : List Ar → List V → Prop
  | nil : ArOk x F σ [] []
  | va {d : D} {v : V} {as : List Ar} {vs : List V} : Rep x F d v → ArOk x F σ as vs → ArOk x F σ (.va d :: as) (v :: vs)
  | by_ {k : Nat} {v : V} {as : List Ar} {vs : List V} : σ[k]? = some (some v) → ArOk x F σ as vs → ArOk x F σ (.by_ k :: as) (v :: vs)
theorem ArOk.mono {x : Kx} {F F' : Hp} {σ : L2.St} (s : Same F F') : ∀ {as : List Ar} {vs : List V}, ArOk x F σ as vs → ArOk x F' σ as vs
  | _, _, .nil => .nil
  | _, _, .va r t => .va (r.mono s) (ArOk.mono s t)
  | _, _, .by_ r t => .by_ r (ArOk.mono s t)
def RfAr (x : Kx) (t : TA) (f : FAr) : Prop := ∀ (F H : Hp) (env : En) (σ : L2.St) (Q : List V → Hp → Prop) (as : List Ar) (env' : En), StOk x F H env σ → f env = some (as, env') →
  (∀ F' H' vs, Step F H (Ow env σ) F' H' (Ow env' σ) → StOk x F' H' env' σ → ArOk x F' σ as vs → Q vs H') → t σ H Q
def fANil : FAr := fun e => some ([], e)
def fAV (f : FE) (r : FAr) : FAr := fun e => (f e).bind fun p => (r p.2).map fun q => (.va p.1 :: q.1, q.2)
def fAO (k : Nat) (r : FAr) : FAr := fun e => (res (.sl k) e).bind fun _ => (r e).map fun q => (.by_ k :: q.1, q.2)
section
variable {ι : Type}
structure DAr (X : ι → Cx) (x : Kx) (es : List Expr) (f : FAr) : Prop where
  ex : ∃ t, (∀ i, PA (X i) es t) ∧ RfAr x t f
variable {X : ι → Cx} {x : Kx} {e : Expr} {es : List Expr} {pos : Pos} {f : FE}
theorem slot_some {F H : Hp} {env : En} {σ : L2.St} (s : StOk x F H env σ) {k : Nat} {d : D} (h : res (.sl k) env = some d) : ∃ v, σ[k]? = some (some v) := by
  have h : slD env[k]? = some d := h
  cases h1 : env[k]? with
  | none => rw [h1] at h; cases h
  | some z =>
    cases z with
    | no => rw [h1] at h; cases h
    | fz c => obtain ⟨v, q, _⟩ := s.fz k _ h1; exact ⟨v, q⟩
    | ow c => obtain ⟨v, q, _⟩ := s.ow k _ h1; exact ⟨_, q⟩
theorem aNil : DAr X x [] fANil := ⟨_, fun _ => pa_nil, fun F H env σ Q ds env' s q kk => by
  cases q
  exact kk F H [] Step.refl s .nil⟩
theorem aV {r : FAr} (h : DE X x e f) (k : DAr X x es r) (hs : ∀ i, starEach (e :: es) (X i).env = (false, eval e (X i).env) :: starEach es (X i).env := by intro _; rfl) : DAr X x (e :: es) (fAV f r) := by
  obtain ⟨t, hp, hr⟩ := h
  obtain ⟨u, gp, gr⟩ := k
  refine ⟨_, fun i => pa_cons (hp i) (gp i) (hs i), fun F H env σ Q ds env' s q kk => ?_⟩
  unfold fAV at q
  obtain ⟨p, q1, q⟩ := Option.bind_eq_some_iff.mp q
  obtain ⟨p2, q2, q⟩ := Option.map_eq_some_iff.mp q
  cases q
  refine hr F H env σ _ p.1 p.2 s q1 fun F1 H1 v st1 s1 r1 => ?_
  exact gr F1 H1 p.2 σ _ p2.1 p2.2 s1 q2 fun F2 H2 vs st2 s2 r2 => kk F2 H2 (v :: vs) (st1.trans st2) s2 (.va (r1.mono st2.fro) r2)
theorem aO (k : Nat) {z : Str} {r : FAr} (hN : ∀ i, (X i).N[k]? = some z) (hv : ∀ i, Vis (X i).env.scope z) (h : DAr X x es r) (hd : (z == ("__debug__" : Str)) = false := by decide) (hcd : (z == ("__classdict__" : Str)) = false := by decide)
    (hs : ∀ i, starEach (Expr.Name z pos :: es) (X i).env = (false, eval (Expr.Name z pos) (X i).env) :: starEach es (X i).env := by intro _; rfl) : DAr X x (Expr.Name z pos :: es) (fAO k r) := by
  obtain ⟨u, gp, gr⟩ := h
  refine ⟨_, fun i => pa_cons (pe_var (hN i) (hv i) hd hcd) (gp i) (hs i), fun F H env σ Q ds env' s q kk => ?_⟩
  unfold fAO at q
  obtain ⟨d, q1, q⟩ := Option.bind_eq_some_iff.mp q
  obtain ⟨p2, q2, q⟩ := Option.map_eq_some_iff.mp q
  cases q
  obtain ⟨v, hv⟩ := slot_some s q1
  exact ⟨v, hv, gr F H env σ _ p2.1 p2.2 s q2 fun F2 H2 vs st2 s2 r2 => kk F2 H2 (v :: vs) st2 s2 (.by_ hv r2)⟩

/-- the arguments' slots as the callee has them -/
def slsOf : List Ar → En → Option (List Sl)
  | [], _ => some []
  | .va d :: as, e => (slsOf as e).map fun r => .fz d :: r
  | .by_ k :: as, e => match e[k]? with
    | some (.ow d) => (slsOf as e).map fun r => .ow d :: r
    | _ => none
def lent : List Ar → List Nat
  | [] => []
  | .va _ :: as => lent as
  | .by_ k :: as => k :: lent as
/-- the caller's slots behind the call -/
def wb (e : En) : List Ar → List Sl → En
  | .va _ :: as, _ :: ss => wb e as ss
  | .by_ k :: as, s :: ss => (wb e as ss).set k s
  | _, _ => e
theorem mem_lent : ∀ {as : List Ar} {i k : Nat}, as[i]? = some (.by_ k) → k ∈ lent as
  | .va _ :: as, 0, k, h => by cases h
  | .va _ :: as, i + 1, k, h => mem_lent (as := as) (i := i) (by simpa using h)
  | .by_ k' :: as, 0, k, h => by cases h; exact List.mem_cons_self
  | .by_ k' :: as, i + 1, k, h => List.mem_cons_of_mem _ (mem_lent (as := as) (i := i) (by simpa using h))
theorem lent_mem : ∀ {as : List Ar} {k : Nat}, k ∈ lent as → ∃ i : Nat, as[i]? = some (.by_ k)
  | .va _ :: as, k, h => let ⟨i, q⟩ := lent_mem (as := as) h; ⟨i + 1, by simpa using q⟩
  | .by_ k' :: as, k, h => by
    rcases List.mem_cons.mp h with rfl | h
    · exact ⟨0, rfl⟩
    · obtain ⟨i, q⟩ := lent_mem (as := as) h
      exact ⟨i + 1, by simpa using q⟩
theorem lent_inj : ∀ {as : List Ar} {i j k : Nat}, (lent as).Nodup → as[i]? = some (.by_ k) → as[j]? = some (.by_ k) → i = j
  | .va _ :: as, 0, _, _, _, h, _ => by cases h
  | .va _ :: as, _ + 1, 0, _, _, _, h => by cases h
  | .va _ :: as, i + 1, j + 1, k, nd, h1, h2 => congrArg Nat.succ (lent_inj (as := as) nd (by simpa using h1) (by simpa using h2))
  | .by_ k' :: as, 0, 0, _, _, _, _ => rfl
  | .by_ k' :: as, 0, j + 1, k, nd, h1, h2 => by
    cases h1
    exact absurd (mem_lent (as := as) (i := j) (by simpa using h2)) (List.nodup_cons.mp nd).1
  | .by_ k' :: as, i + 1, 0, k, nd, h1, h2 => by
    cases h2
    exact absurd (mem_lent (as := as) (i := i) (by simpa using h1)) (List.nodup_cons.mp nd).1
  | .by_ k' :: as, i + 1, j + 1, k, nd, h1, h2 => congrArg Nat.succ (lent_inj (as := as) (List.nodup_cons.mp nd).2 (by simpa using h1) (by simpa using h2))
theorem slsOf_at : ∀ {as : List Ar} {e : En} {ss : List Sl}, slsOf as e = some ss → ss.length = as.length ∧ ∀ (i : Nat) (a : Ar), as[i]? = some a → match a with
    | .va d => ss[i]? = some (.fz d)
    | .by_ k => ∃ d, e[k]? = some (.ow d) ∧ ss[i]? = some (.ow d)
  | [], e, ss, h => by
    cases h
    exact ⟨rfl, fun i a q => by simp at q⟩
  | .va d :: as, e, ss, h => by
    unfold slsOf at h
    obtain ⟨r, h1, h2⟩ := Option.map_eq_some_iff.mp h
    subst h2
    obtain ⟨l, ih⟩ := slsOf_at h1
    refine ⟨congrArg Nat.succ l, fun i a q => ?_⟩
    cases i with
    | zero => cases q; rfl
    | succ i =>
      have := ih i a (by simpa using q)
      cases a with
      | va d' => simpa using this
      | by_ k => simpa using this
  | .by_ k :: as, e, ss, h => by
    unfold slsOf at h
    cases hk : e[k]? with
    | none => rw [hk] at h; cases h
    | some z =>
      rw [hk] at h
      cases z with
      | no => cases h
      | fz d => cases h
      | ow d =>
        obtain ⟨r, h1, h2⟩ := Option.map_eq_some_iff.mp h
        subst h2
        obtain ⟨l, ih⟩ := slsOf_at h1
        refine ⟨congrArg Nat.succ l, fun i a q => ?_⟩
        cases i with
        | zero => cases q; exact ⟨d, hk, rfl⟩
        | succ i =>
          have := ih i a (by simpa using q)
          cases a with
          | va d' => simpa using this
          | by_ k' => simpa using this
theorem ArOk.len {F : Hp} {σ : L2.St} : ∀ {as : List Ar} {vs : List V}, ArOk x F σ as vs → vs.length = as.length
  | _, _, .nil => rfl
  | _, _, .va _ t => congrArg Nat.succ t.len
  | _, _, .by_ _ t => congrArg Nat.succ t.len
theorem ArOk.at_ {F : Hp} {σ : L2.St} : ∀ {as : List Ar} {vs : List V} {i : Nat} {a : Ar}, ArOk x F σ as vs → as[i]? = some a → ∃ v, vs[i]? = some v ∧ match a with
    | .va d => Rep x F d v
    | .by_ k => σ[k]? = some (some v)
  | _, _, _, _, .nil, q => by simp at q
  | _, _, 0, _, .va r _, q => by cases q; exact ⟨_, rfl, r⟩
  | _, _, 0, _, .by_ r _, q => by cases q; exact ⟨_, rfl, r⟩
  | _, _, i + 1, a, .va _ t, q => let ⟨v, h1, h2⟩ := ArOk.at_ (i := i) (a := a) t (by simpa using q); ⟨v, by simpa using h1, h2⟩
  | _, _, i + 1, a, .by_ _ t, q => let ⟨v, h1, h2⟩ := ArOk.at_ (i := i) (a := a) t (by simpa using q); ⟨v, by simpa using h1, h2⟩
theorem wb_len : ∀ (as : List Ar) (ss : List Sl) (e : En), (wb e as ss).length = e.length
  | [], _, _ => by cases ‹List Sl› <;> rfl
  | .va _ :: as, [], e => rfl
  | .va _ :: as, _ :: ss, e => wb_len as ss e
  | .by_ _ :: as, [], e => rfl
  | .by_ k :: as, s :: ss, e => by unfold wb; rw [List.length_set]; exact wb_len as ss e
/-- a slot behind the call: as the callee left it, or as it was -/
theorem wb_at : ∀ {as : List Ar} {ss : List Sl} {e : En} {k : Nat} {z : Sl}, (lent as).Nodup → ss.length = as.length → (wb e as ss)[k]? = some z → (∃ i : Nat, as[i]? = some (.by_ k) ∧ ss[i]? = some z) ∨ (k ∉ lent as ∧ e[k]? = some z)
  | [], ss, e, k, z, _, _, h => .inr ⟨by simp [lent], by cases ss <;> exact h⟩
  | .va _ :: as, [], e, k, z, _, hl, _ => by cases hl
  | .by_ _ :: as, [], e, k, z, _, hl, _ => by cases hl
  | .va d :: as, s :: ss, e, k, z, nd, hl, h => by
    rcases wb_at (as := as) (ss := ss) nd (Nat.succ.inj hl) h with ⟨i, h1, h2⟩ | h
    · exact .inl ⟨i + 1, by simpa using h1, by simpa using h2⟩
    · exact .inr h
  | .by_ k' :: as, s :: ss, e, k, z, nd, hl, h => by
    unfold wb at h
    rcases set_at h with ⟨rfl, rfl, _⟩ | ⟨hk, h⟩
    · exact .inl ⟨0, rfl, rfl⟩
    · rcases wb_at (as := as) (ss := ss) (List.nodup_cons.mp nd).2 (Nat.succ.inj hl) h with ⟨i, h1, h2⟩ | ⟨h1, h2⟩
      · exact .inl ⟨i + 1, by simpa using h1, by simpa using h2⟩
      · exact .inr ⟨fun q => (List.mem_cons.mp q).elim hk h1, h2⟩

/-- the callee's arguments -/
theorem StOk.args {F H : Hp} {env : En} {σ : L2.St} {as : List Ar} {vs : List V} {ss : List Sl} (s : StOk x F H env σ) (a : ArOk x F σ as vs) (nd : (lent as).Nodup) (h : slsOf as env = some ss) :
    StOk x F H ss (vs.map some) ∧ ∀ c, Ow ss (vs.map some) c → Ow env σ c := by
  obtain ⟨hl, hs⟩ := slsOf_at h
  have la := a.len
  have back : ∀ {i : Nat} {z : Sl}, ss[i]? = some z → ∃ (ar : Ar) (v : V), as[i]? = some ar ∧ vs[i]? = some v ∧ match ar with
      | .va d => z = .fz d ∧ Rep x F d v
      | .by_ k => ∃ d, z = .ow d ∧ env[k]? = some (.ow d) ∧ σ[k]? = some (some v) := fun {i z} q => by
    have hi : i < as.length := by have := (List.getElem?_eq_some_iff.mp q).1; omega
    have ha : as[i]? = some as[i] := List.getElem?_eq_getElem hi
    obtain ⟨v, h1, h2⟩ := a.at_ ha
    have h3 := hs i _ ha
    refine ⟨as[i], v, ha, h1, ?_⟩
    cases e : as[i] with
    | va d =>
      rw [e] at h2 h3
      rw [q] at h3
      exact ⟨Option.some.inj h3, h2⟩
    | by_ k =>
      rw [e] at h2 h3
      obtain ⟨d, h4, h5⟩ := h3
      rw [q] at h5
      exact ⟨d, Option.some.inj h5, h4, h2⟩
  have mv : ∀ {j : Nat} {v u : V}, vs[j]? = some v → (vs.map some)[j]? = some (some u) → u = v := fun {j v u} h1 h2 => by
    rw [List.getElem?_map, h1] at h2
    cases h2
    rfl
  have own : ∀ {i : Nat} {d : D}, ss[i]? = some (.ow d) → ∃ (k : Nat) (v : V), as[i]? = some (.by_ k) ∧ vs[i]? = some v ∧ env[k]? = some (.ow d) ∧ σ[k]? = some (some v) := fun {i d} q => by
    obtain ⟨ar, v, h1, h2, h3⟩ := back q
    cases ar with
    | va d' => exact nomatch h3.1
    | by_ k =>
      obtain ⟨d', e, h4, h5⟩ := h3
      cases e
      exact ⟨k, v, h1, h2, h4, h5⟩
  refine ⟨⟨s.good, by rw [hl, List.length_map, la], fun i d q => ?_, fun i d q => ?_, fun i j d d' c q1 q2 q3 q4 => ?_⟩, fun c ⟨i, d, q1, q2⟩ => ?_⟩
  · obtain ⟨ar, v, h1, h2, h3⟩ := back q
    cases ar with
    | va d' =>
      obtain ⟨e, r⟩ := h3
      cases e
      exact ⟨v, by rw [List.getElem?_map, h2]; rfl, r⟩
    | by_ k => obtain ⟨d', e, _⟩ := h3; cases e
  · obtain ⟨k, v, h1, h2, h3, h4⟩ := own q
    obtain ⟨c, h5, h6⟩ := s.ow k d h3
    rw [h4] at h5; cases h5
    exact ⟨c, by rw [List.getElem?_map, h2]; rfl, h6⟩
  · obtain ⟨k, v, h1, h2, h3, h4⟩ := own q1
    obtain ⟨k', v', h1', h2', h3', h4'⟩ := own q2
    have e1 := mv h2 q3
    have e2 := mv h2' q4
    subst e1; subst e2
    have ek := s.inj k k' d d' c h3 h3' h4 h4'
    subst ek
    exact lent_inj nd h1 h1'
  · obtain ⟨k, v, h1, h2, h3, h4⟩ := own q1
    have e1 := mv h2 q2
    subst e1
    exact ⟨k, d, h3, h4⟩
/-- behind the call: the caller's slots -/
theorem StOk.back {F H F' H' : Hp} {env : En} {σ : L2.St} {as : List Ar} {vs : List V} {ss ss' : List Sl} (s : StOk x F H env σ) (a : ArOk x F σ as vs) (nd : (lent as).Nodup) (h : slsOf as env = some ss)
    (st : Step F H (Ow ss (vs.map some)) F' H' (Ow ss' (vs.map some))) (s' : StOk x F' H' ss' (vs.map some)) :
    StOk x F' H' (wb env as ss') σ ∧ Step F H (Ow env σ) F' H' (Ow (wb env as ss') σ) ∧ ∀ c, Ow (wb env as ss') σ c → Ow ss' (vs.map some) c ∨ Ow env σ c := by
  obtain ⟨s1, ho⟩ := s.args a nd h
  have la := a.len
  have ls : ss'.length = as.length := by have := s'.len; rw [List.length_map] at this; omega
  obtain ⟨hl, hs⟩ := slsOf_at h
  have va : ∀ {i k : Nat}, as[i]? = some (.by_ k) → ∃ v, vs[i]? = some v ∧ σ[k]? = some (some v) := fun {i k} q => a.at_ q
  have mv : ∀ {j : Nat} {v u : V}, vs[j]? = some v → (vs.map some)[j]? = some (some u) → u = v := fun {j v u} h1 h2 => by
    rw [List.getElem?_map, h1] at h2
    cases h2
    rfl
  -- an own object that was not lent
  have kept : ∀ {k : Nat} {d : D} {c : Addr}, k ∉ lent as → env[k]? = some (.ow d) → σ[k]? = some (some (.ref c)) → ¬ Ow ss (vs.map some) c := fun {k d c} hk e1 e2 ⟨i, d', q1, q2⟩ => by
    have hi : i < as.length := by have := (List.getElem?_eq_some_iff.mp q1).1; omega
    have ha : as[i]? = some as[i] := List.getElem?_eq_getElem hi
    have h3 := hs i _ ha
    cases e : as[i] with
    | va d2 =>
      rw [e] at h3
      rw [q1] at h3
      exact nomatch h3
    | by_ k' =>
      rw [e] at h3 ha
      obtain ⟨d2, h4, h5⟩ := h3
      obtain ⟨v, h6, h7⟩ := va ha
      have := mv h6 q2
      subst this
      have ek := s.inj k k' d d2 c e1 h4 e2 h7
      subst ek
      exact hk (mem_lent ha)
  -- own slots behind
  have own : ∀ {k : Nat} {d : D}, (wb env as ss')[k]? = some (.ow d) → (∃ (i : Nat) (v : V), as[i]? = some (.by_ k) ∧ ss'[i]? = some (.ow d) ∧ vs[i]? = some v ∧ σ[k]? = some (some v)) ∨ (k ∉ lent as ∧ env[k]? = some (.ow d)) := fun {k d} q => by
    rcases wb_at nd ls q with ⟨i, h1, h2⟩ | h1
    · obtain ⟨v, h3, h4⟩ := va h1
      exact .inl ⟨i, v, h1, h2, h3, h4⟩
    · exact .inr h1
  refine ⟨⟨s'.good, by rw [wb_len]; exact s.len, fun k d q => ?_, fun k d q => ?_, fun k k' d d' c q1 q2 q3 q4 => ?_⟩, ⟨st.fro, fun c o e f no => st.kp c o e f fun z => no (ho c z), st.tr, fun c ⟨k, d, q1, q2⟩ => ?_⟩, fun c ⟨k, d, q1, q2⟩ => ?_⟩
  · rcases wb_at nd ls q with ⟨i, h1, h2⟩ | ⟨_, h1⟩
    · obtain ⟨v, h3, h4⟩ := va h1
      obtain ⟨u, h5, r⟩ := s'.fz i d h2
      have := mv h3 h5
      subst this
      exact ⟨_, h4, r⟩
    · obtain ⟨v, h2, r⟩ := s.fz k d h1
      exact ⟨v, h2, r.mono st.fro⟩
  · rcases own q with ⟨i, v, h1, h2, h3, h4⟩ | ⟨hk, h1⟩
    · obtain ⟨c, h5, r⟩ := s'.ow i d h2
      have := mv h3 h5
      subst this
      exact ⟨c, h4, r⟩
    · obtain ⟨c, h2, n, r⟩ := s.ow k d h1
      obtain ⟨o, ho'⟩ := r.there
      obtain ⟨h5, h6⟩ := st.kp c o ho' n (kept hk h1 h2)
      exact ⟨c, h2, h6, r.mono st.fro fun u q => by rw [ho'] at q; cases q; exact h5⟩
  · rcases own q1 with ⟨i, v, h1, h2, h3, h4⟩ | ⟨hk, h1⟩ <;> rcases own q2 with ⟨i', v', h1', h2', h3', h4'⟩ | ⟨hk', h1'⟩
    · rw [q3] at h4; cases h4
      rw [q4] at h4'; cases h4'
      have ei := s'.inj i i' d d' c h2 h2' (by rw [List.getElem?_map, h3]; rfl) (by rw [List.getElem?_map, h3']; rfl)
      subst ei
      rw [h1] at h1'; cases h1'
      rfl
    · rw [q3] at h4; cases h4
      obtain ⟨b, h5, n5, r5⟩ := s.ow k' d' h1'
      rw [q4] at h5; cases h5
      obtain ⟨o, ho'⟩ := r5.there
      have nk := kept hk' h1' q4
      have : Ow ss' (vs.map some) c := ⟨i, d, h2, by rw [List.getElem?_map, h3]; rfl⟩
      rcases st.ow c this with z | z
      · exact (nk z).elim
      · rw [ho'] at z; cases z
    · rw [q4] at h4'; cases h4'
      obtain ⟨b, h5, n5, r5⟩ := s.ow k d h1
      rw [q3] at h5; cases h5
      obtain ⟨o, ho'⟩ := r5.there
      have nk := kept hk h1 q3
      have : Ow ss' (vs.map some) c := ⟨i', d', h2', by rw [List.getElem?_map, h3']; rfl⟩
      rcases st.ow c this with z | z
      · exact (nk z).elim
      · rw [ho'] at z; cases z
    · exact s.inj k k' d d' c h1 h1' q3 q4
  · rcases own q1 with ⟨i, v, h1, h2, h3, h4⟩ | ⟨hk, h1⟩
    · rw [q2] at h4; cases h4
      rcases st.ow c ⟨i, d, h2, by rw [List.getElem?_map, h3]; rfl⟩ with z | z
      · exact .inl (ho c z)
      · exact .inr z
    · exact .inl ⟨k, d, h1, q2⟩
  · rcases own q1 with ⟨i, v, h1, h2, h3, h4⟩ | ⟨hk, h1⟩
    · rw [q2] at h4; cases h4
      exact .inl ⟨i, d, h2, by rw [List.getElem?_map, h3]; rfl⟩
    · exact .inr ⟨k, d, h1, q2⟩
end
end Vd

end

section
set_option Elab.async false
set_option linter.all false
set_option maxRecDepth 100000
set_option maxHeartbeats 1000000
/-! Le: calls of defs, methods, classes; attributes. -/
namespace Vd
open PySem L2 PyProof.Rows
section
variable {ι : Type} {X : ι → Cx} {x : Kx} {e o : Expr} {es : List Expr} {pos p apos : Pos} {f : FE}

/-! ### calls of a def -/
def fCall (n : Nat) (g : List Sl → Option (Sl × List Sl)) (dd : List D) (fa : FAr) : En → Option (Sl × En) := fun e => (fa e).bind fun p =>
  if (p.1 ++ dd.map Ar.va).length = n ∧ (lent (p.1 ++ dd.map Ar.va)).Nodup then (slsOf (p.1 ++ dd.map Ar.va) p.2).bind fun ss => (g ss).map fun q => (q.1, wb p.2 (p.1 ++ dd.map Ar.va) q.2) else none
theorem ArOk.dflt {F : Hp} {σ : L2.St} : ∀ {as : List Ar} {vs : List V} {dd : List D} {dvs : List V}, ArOk x F σ as vs → RepL x F dd dvs → ArOk x F σ (as ++ dd.map Ar.va) (vs ++ dvs)
  | _, _, [], _, .nil, r => by cases r; exact .nil
  | _, _, d :: dd, _, .nil, r => by
    cases r with
    | cons r1 r2 => exact .va r1 (ArOk.dflt (dd := dd) .nil r2)
  | _, _, _, _, .va r t, q => .va r (ArOk.dflt t q)
  | _, _, _, _, .by_ r t, q => .by_ r (ArOk.dflt t q)
theorem rf_call {n : Nat} {g : List Sl → Option (Sl × List Sl)} {dd : List D} {dvs : List V} {fa : FAr} {E : XK} {t : TA} (hd : ∀ F, RepL x F dd dvs) (ha : RfAr x t fa) {F H : Hp} {env env' : En} {σ : L2.St} {Q : VK} {r : Sl} (s : StOk x F H env σ)
    (q : fCall n g dd fa env = some (r, env')) (kk : ∀ F' H' v, Step F H (Ow env σ) F' H' (Ow env' σ) → StOk x F' H' env' σ → ResOk x H F' H' (Ow env' σ) r v → Q v H') : tCall (spD x n g) dvs E t σ H Q := by
  unfold fCall at q
  obtain ⟨⟨as, e1⟩, q1, q⟩ := Option.bind_eq_some_iff.mp q
  by_cases hc : (as ++ dd.map Ar.va).length = n ∧ (lent (as ++ dd.map Ar.va)).Nodup
  · replace q : ((slsOf (as ++ dd.map Ar.va) e1).bind fun ss => (g ss).map fun q => (q.1, wb e1 (as ++ dd.map Ar.va) q.2)) = some (r, env') := by
      have q2 := q
      simp only [] at q2
      rwa [if_pos hc] at q2
    obtain ⟨ss, q2, q⟩ := Option.bind_eq_some_iff.mp q
    obtain ⟨⟨r1, ss'⟩, q3, q⟩ := Option.map_eq_some_iff.mp q
    cases q
    refine ha F H env σ _ as e1 s q1 fun F1 H1 vs st1 s1 a1 => ?_
    have a2 := a1.dflt (hd F1)
    obtain ⟨s2, ho⟩ := s1.args a2 hc.2 q2
    refine ⟨by rw [a2.len]; exact hc.1, F1, ss, r1, ss', s2, q3, fun F2 H2 v st2 s3 ro => ?_⟩
    obtain ⟨s4, st4, hw⟩ := s1.back a2 hc.2 q2 st2 s3
    refine kk F2 H2 v (st1.trans st4) s4 ?_
    cases r1 with
    | no => exact ro
    | fz d => exact ro
    | ow d =>
      obtain ⟨a, h1, h2, h3, h4, h5⟩ := ro
      refine ⟨a, h1, st1.tr a h2, h3, fun z => ?_, h5⟩
      rcases hw a z with z | z
      · exact h4 z
      · exact s1.notOw h2 z
  · have q2 := q
    simp only [] at q2
    rw [if_neg hc] at q2
    cases q2
def slE (f : En → Option (Sl × En)) : FE := fun e => (f e).bind fun q => match q.1 with
  | .fz d => some (d, q.2)
  | _ => none
def slN (f : En → Option (Sl × En)) : FE := fun e => (f e).bind fun q => match q.1 with
  | .ow d => some (d, q.2)
  | _ => none
/-- a reading that hands back a frozen value or a new object -/
def RfR (x : Kx) (t : TE) (f : En → Option (Sl × En)) : Prop := ∀ (F H : Hp) (env : En) (σ : L2.St) (Q : VK) (r : Sl) (env' : En), StOk x F H env σ → f env = some (r, env') →
  (∀ F' H' v, Step F H (Ow env σ) F' H' (Ow env' σ) → StOk x F' H' env' σ → ResOk x H F' H' (Ow env' σ) r v → Q v H') → t σ H Q
theorem RfR.toE {t : TE} {f : En → Option (Sl × En)} (h : RfR x t f) : RfE x t (slE f) := fun F H env σ Q d env' s q kk => by
  unfold slE at q
  obtain ⟨⟨r, e1⟩, q1, q⟩ := Option.bind_eq_some_iff.mp q
  cases r with
  | fz d' => cases q; exact h F H env σ Q _ _ s q1 kk
  | no => cases q
  | ow d' => cases q
theorem RfR.toN {t : TE} {f : En → Option (Sl × En)} (h : RfR x t f) : RfN x t (slN f) := fun F H env σ Q d env' s q kk => by
  unfold slN at q
  obtain ⟨⟨r, e1⟩, q1, q⟩ := Option.bind_eq_some_iff.mp q
  cases r with
  | ow d' =>
    cases q
    refine h F H env σ Q _ _ s q1 fun F' H' v st s' ro => ?_
    obtain ⟨a, rfl, h1, h2, h3, h4⟩ := ro
    exact kk F' H' a st s' h1 h2 h3 h4
  | no => cases q
  | fz d' => cases q
/-- what a caller knows of a def: its address, its promise -/
structure Cal (Pr : Program) (w : World) (K : PySem.W.Frag) (mg : Str → Option Value) (base : Heap) (x : Kx) (z : Str) (k : Nat) (ps : List Str) (n : Nat) (g : List Sl → Option (Sl × List Sl)) (dd : List D) : Prop where
  ex : ∃ (f : Addr) (fd : FuncData) (dvs : List V) (ds : List Value), FnOk Pr w K mg base CX0 k f fd ps (spD x n g) ∧ mg z = some (.ref f) ∧ PySem.W.keepIn K (.ref f) = true ∧ Binds K fd ps ds ∧ Vals dvs ds ∧ ∀ F, RepL x F dd dvs
section
variable {Pr : Program} {w : World} {K : PySem.W.Frag} {mg : Str → Option Value} {base : Heap} {z : Str} {k n : Nat} {ps : List Str} {g : List Sl → Option (Sl × List Sl)} {dd : List D} {fa : FAr}
structure DR (X : ι → Cx) (x : Kx) (e : Expr) (f : En → Option (Sl × En)) : Prop where
  ex : ∃ t, (∀ i, PE (X i) e t) ∧ RfR x t f
theorem DR.toE {f : En → Option (Sl × En)} (h : DR X x e f) : DE X x e (slE f) := let ⟨t, hp, hr⟩ := h.ex; ⟨t, hp, hr.toE⟩
theorem DR.toN {f : En → Option (Sl × En)} (h : DR X x e f) : DN X x e (slN f) := let ⟨t, hp, hr⟩ := h.ex; ⟨t, hp, hr.toN⟩
/-- the contexts stand over this program -/
structure Over (X : ι → Cx) (Pr : Program) (w : World) (K : PySem.W.Frag) (mg : Str → Option Value) (base : Heap) (k : Nat) : Prop where
  prog : ∀ i, (X i).prog = Pr
  w : ∀ i, (X i).w = w
  K : ∀ i, (X i).K = K
  mg : ∀ i, (X i).mg = mg
  base : ∀ i, (X i).base = base
  room : ∀ i, Room k (X i).A
  calm : ∀ i, (X i).calm = true
theorem dCall {j : Nat} (O : Over X Pr w K mg base j) (C : Cal Pr w K mg base x z k ps n g dd) (hk : k ≤ j) (hg : ∀ i, Gl (X i) z) (ha : DAr X x (e :: es) fa) (hdb : (z == ("__debug__" : Str)) = false := by decide)
    (he : ∀ i, starEach (e :: es) (X i).env = (false, eval e (X i).env) :: starEach es (X i).env := by intro _; rfl) (hpl : ∀ i, (backTo pos (starEach es (X i).env)).any (·.1) = false := by intro _; rfl) :
    DR X x (.Call (.Name z p) (e :: es) [] pos) (fCall n g dd fa) := by
  obtain ⟨f, fd, dvs, ds, F, gm, kp, b, rv, rd⟩ := C
  obtain ⟨t, hp, hr⟩ := ha
  refine ⟨tCall (spD x n g) dvs E0 t, fun i => ?_, fun F H env σ Q r env' s q kk => rf_call rd hr s q kk⟩
  have F' : FnOk (X i).prog (X i).w (X i).K (X i).mg (X i).base CX0 k f fd ps (spD x n g) := by rw [O.prog, O.w, O.K, O.mg, O.base]; exact F
  exact pe_call F' ((O.room i).mono hk) (hg i) (by rw [O.mg]; exact gm) (by rw [O.K]; exact kp) (by rw [O.K]; exact b) rv pass0 (hp i) hdb (he i) (hpl i)
theorem dCall0 {j : Nat} (O : Over X Pr w K mg base j) (C : Cal Pr w K mg base x z k ps n g dd) (hk : k ≤ j) (hg : ∀ i, Gl (X i) z) (hdb : (z == ("__debug__" : Str)) = false := by decide) : DR X x (.Call (.Name z p) [] [] pos) (fCall n g dd fANil) := by
  obtain ⟨f, fd, dvs, ds, F, gm, kp, b, rv, rd⟩ := C
  have ha : RfAr x tNil fANil := fun F H env σ Q ds env' s q kk => by
    cases q
    exact kk F H [] Step.refl s .nil
  refine ⟨tCall (spD x n g) dvs E0 tNil, fun i => ?_, fun F H env σ Q r env' s q kk => rf_call rd ha s q kk⟩
  have F' : FnOk (X i).prog (X i).w (X i).K (X i).mg (X i).base CX0 k f fd ps (spD x n g) := by rw [O.prog, O.w, O.K, O.mg, O.base]; exact F
  exact pe_call0 F' ((O.room i).mono hk) (hg i) (by rw [O.mg]; exact gm) (by rw [O.K]; exact kp) (by rw [O.K]; exact b) rv pass0 hdb
end

/-! ### instances -/
theorem zip_lookup {f : Str} : ∀ {ns : List Str} {xs : List V} {k : Nat} {v : V}, ns.Nodup → ns[k]? = some f → xs[k]? = some v → (ns.zip xs).lookup f = some v
  | [], _, _, _, _, h, _ => by simp at h
  | _ :: _, [], _, _, _, _, h => by simp at h
  | n :: ns, y :: xs, 0, v, nd, h1, h2 => by
    simp at h1 h2
    subst h1; subst h2
    simp [List.zip_cons_cons, List.lookup_cons]
  | n :: ns, y :: xs, k + 1, v, nd, h1, h2 => by
    have h1 : ns[k]? = some f := by simpa using h1
    have ne : f ≠ n := fun e => (List.nodup_cons.mp nd).1 (e ▸ List.mem_of_getElem? h1)
    have : (f == n) = false := by simpa using ne
    rw [List.zip_cons_cons, List.lookup_cons, this]
    exact zip_lookup (List.nodup_cons.mp nd).2 h1 (by simpa using h2)
theorem zip_lookup_none {f : Str} : ∀ {ns : List Str} {xs : List V}, f ∉ ns → (ns.zip xs).lookup f = none
  | [], _, _ => rfl
  | _ :: _, [], _ => rfl
  | n :: ns, y :: xs, h => by
    have : (f == n) = false := by
      have := List.ne_of_not_mem_cons h
      simpa using this
    rw [List.zip_cons_cons, List.lookup_cons, this]
    exact zip_lookup_none (List.not_mem_of_not_mem_cons h)
theorem zip_put {f : Str} {y : V} : ∀ {ns : List Str} {xs : List V} {k : Nat}, ns.Nodup → ns[k]? = some f → k ≤ xs.length → putF f y (ns.zip xs) = ns.zip (if k = xs.length then xs ++ [y] else xs.set k y)
  | [], _, _, _, h, _ => by simp at h
  | n :: ns, [], 0, nd, h, _ => by
    simp at h
    subst h
    simp [putF]
  | n :: ns, [], k + 1, nd, h, hl => by simp at hl
  | n :: ns, x0 :: xs, 0, nd, h, hl => by
    simp at h
    subst h
    show putF n y ((n, x0) :: ns.zip xs) = _
    unfold putF
    rw [if_pos rfl, if_neg (by simp)]
    rfl
  | n :: ns, x0 :: xs, k + 1, nd, h, hl => by
    have h : ns[k]? = some f := by simpa using h
    have ne : n ≠ f := fun e => (List.nodup_cons.mp nd).1 (by rw [e]; exact List.mem_of_getElem? h)
    show putF f y ((n, x0) :: ns.zip xs) = _
    unfold putF
    rw [if_neg ne, zip_put (List.nodup_cons.mp nd).2 h (by simpa using hl)]
    by_cases e : k = xs.length
    · rw [if_pos e, if_pos (by simpa using e)]
      rfl
    · rw [if_neg e, if_neg (by simpa using e)]
      rfl
/-- what of the text a class must have for reading and storing its attribute -/
structure FldOk (x : Kx) (t k : Nat) (f : Str) : Prop where
  cl : Cls x.K (x.cm t)
  no : NoAttr x.K (x.cm t) f
  nd : (x.nm t).Nodup
  at_ : (x.nm t)[k]? = some f
def fFld (t k : Nat) (fo : FO) : FE := fun e => (fo e).bind fun p => (res p.1 p.2).bind fun d => match d with
  | .ins t' ds => if t' = t then (ds[k]?).map fun v => (v, p.2) else none
  | _ => none
theorem dFld {t k : Nat} {z : Str} {fo : FO} (hK : ∀ i, (X i).K = x.K) (hf : FldOk x t k z) (ho : DO X x o fo) (hb : ∀ i, attributeBase o z (X i).env (eval o (X i).env) = eval o (X i).env := by intro _; rfl) : DE X x (.Attribute o z pos) (fFld t k fo) := by
  obtain ⟨u, hp, hr⟩ := ho
  refine ⟨tFld x.K u z, fun i => by have := pe_fld (pos := pos) (hp i) (hb i); rw [hK i] at this; exact this, fun F H env σ Q d env' s q kk => ?_⟩
  unfold fFld at q
  obtain ⟨p, q1, q⟩ := Option.bind_eq_some_iff.mp q
  obtain ⟨d1, q2, q⟩ := Option.bind_eq_some_iff.mp q
  refine hr F H env σ _ p.1 p.2 s q1 fun F1 H1 v st1 s1 o1 => ?_
  have vw := o1.view s1 q2
  cases vw with
  | @ins a dx t' xs ds h r =>
    by_cases ht : t' = t
    · have q : (if t' = t then (ds[k]?).map fun v => (v, p.2) else none) = some (d, env') := q
      rw [if_pos ht] at q
      obtain ⟨d2, q3, q⟩ := Option.map_eq_some_iff.mp q
      cases q
      subst ht
      obtain ⟨v2, h2, r2⟩ := r.get q3
      exact ⟨a, _, dx, _, v2, rfl, h, hf.cl, hf.no, zip_lookup hf.nd hf.at_ h2, kk F1 H1 v2 st1 s1 r2⟩
    · have q : (if t' = t then (ds[k]?).map fun v => (v, p.2) else none) = some (d, env') := q
      rw [if_neg ht] at q
      cases q
  | _ => cases q
/-- self.f = e, self an own slot -/
def fFldS (s t k : Nat) (f : FE) : FS := fun e => (f e).bind fun p => match p.2[s]? with
  | some (.ow (.ins t' ds)) => if t' = t ∧ k ≤ ds.length then some (.nx (p.2.set s (.ow (.ins t (if k = ds.length then ds ++ [p.1] else ds.set k p.1))))) else none
  | _ => none
theorem sFldS {P : Prt} {s0 t k : Nat} {y z : Str} {p' : Pos} (hK : ∀ i, (X i).K = x.K) (hf : FldOk x t k z) (hl : (x.nm t).length < 1000) (he : DE X x e f) (hN : ∀ i, (X i).N[s0]? = some y) (hv : ∀ i, Vis (X i).env.scope y)
    (hs : ∀ i, swapsWith e (some (.Attribute (.Name y p) z p')) pos.line (X i).env = pure false := by intro _; rfl) (hd : (y == ("__debug__" : Str)) = false := by decide) (hcd : (y == ("__classdict__" : Str)) = false := by decide) :
    DS X x P (.Assign [.Attribute (.Name y p) z p'] e pos) (fFldS s0 t k f) := by
  obtain ⟨u, hp, hr⟩ := he
  refine ⟨sFld x.K (tVar s0) u z, fun i => by have := ps_fld (f := z) (pos := pos) (pos' := p') (pe_var (pos := p) (hN i) (hv i) hd hcd) (hp i) (hs i); rw [hK i] at this; exact this, fun F H env σ D out s q kk => ?_⟩
  unfold fFldS at q
  obtain ⟨⟨d1, e1⟩, q1, q⟩ := Option.bind_eq_some_iff.mp q
  refine hr F H env σ _ d1 e1 s q1 fun F1 H1 v st1 s1 r1 => ?_
  cases h : e1[s0]? with
  | none => simp only [h] at q; cases q
  | some c =>
    simp only [h] at q
    cases c with
    | no => cases q
    | fz c => cases q
    | ow c =>
      cases c with
      | ins t' ds =>
        by_cases ht : t' = t ∧ k ≤ ds.length
        · have q : (if t' = t ∧ k ≤ ds.length then some (Out.nx (e1.set s0 (.ow (.ins t (if k = ds.length then ds ++ [d1] else ds.set k d1))))) else none) = some out := q
          rw [if_pos ht] at q
          cases q
          obtain ⟨rfl, hk⟩ := ht
          obtain ⟨a, ha, n, dx, xs, e, r⟩ := s1.ow s0 _ h
          have hle : xs.length = ds.length := r.len
          have hzl : ((x.nm t').zip xs).length < 1000 := Nat.lt_of_le_of_lt (by rw [List.length_zip]; exact Nat.min_le_left _ _) hl
          have hput : putF z v ((x.nm t').zip xs) = (x.nm t').zip (if k = xs.length then xs ++ [v] else xs.set k v) := zip_put hf.nd hf.at_ (by omega)
          have rr : RepL x F1 (if k = ds.length then ds ++ [d1] else ds.set k d1) (if k = xs.length then xs ++ [v] else xs.set k v) := by
            rw [hle]
            by_cases e : k = ds.length
            · rw [if_pos e, if_pos e]; exact r.app (.cons r1 .nil)
            · rw [if_neg e, if_neg e]; exact r.set r1 k
          have mu := s1.mut (d := .ins t' (if k = ds.length then ds ++ [d1] else ds.set k d1)) (o := .ins (x.cm t') dx (putF z v ((x.nm t').zip xs))) h ha n ⟨dx, _, by rw [upd_same, hput], rr⟩
          exact ⟨_, ha, a, x.cm t', dx, _, rfl, e, hf.cl, hf.no, hzl, kk F1 _ σ (st1.trans mu.2) mu.1 KeepS.refl⟩
        · have q : (if t' = t ∧ k ≤ ds.length then some (Out.nx (e1.set s0 (.ow (.ins t (if k = ds.length then ds ++ [d1] else ds.set k d1))))) else none) = some out := q
          rw [if_neg ht] at q
          cases q
      | _ => cases q

/-! ### methods -/
def recv : Opn → En → Option Ar
  | .va d, _ => some (.va d)
  | .sl k, e => match e[k]? with
    | some (.fz d) => some (.va d)
    | some (.ow _) => some (.by_ k)
    | _ => none
def isIns (t : Nat) : D → Bool
  | .ins t' _ => t' == t
  | _ => false
def fMeth (t n : Nat) (g : List Sl → Option (Sl × List Sl)) (dd : List D) (fo : FO) (fa : FAr) : En → Option (Sl × En) := fun e => (fo e).bind fun p => (res p.1 p.2).bind fun d => if isIns t d = true then
    (fa p.2).bind fun q => (recv p.1 q.2).bind fun a => if (a :: (q.1 ++ dd.map Ar.va)).length = n ∧ (lent (a :: (q.1 ++ dd.map Ar.va))).Nodup then
      (slsOf (a :: (q.1 ++ dd.map Ar.va)) q.2).bind fun ss => (g ss).map fun r => (r.1, wb q.2 (a :: (q.1 ++ dd.map Ar.va)) r.2) else none
  else none
theorem recv_ok {F H : Hp} {env : En} {σ : L2.St} (s : StOk x F H env σ) {o : Opn} {v : V} (h : OpOk x F σ o v) {a : Ar} (q : recv o env = some a) : ∀ {as : List Ar} {vs : List V}, ArOk x F σ as vs → ArOk x F σ (a :: as) (v :: vs) := fun {as vs} t => by
  cases o with
  | va d => cases q; exact .va h t
  | sl k =>
    have h : σ[k]? = some (some v) := h
    have q : (match env[k]? with
      | some (.fz d) => some (Ar.va d)
      | some (.ow _) => some (.by_ k)
      | _ => none) = some a := q
    cases hk : env[k]? with
    | none => rw [hk] at q; cases q
    | some c =>
      rw [hk] at q
      cases c with
      | no => cases q
      | fz d =>
        cases q
        obtain ⟨u, h1, r⟩ := s.fz k d hk
        rw [h] at h1; cases h1
        exact .va r t
      | ow d => cases q; exact .by_ h t
theorem rf_meth {t n : Nat} {m : Str} {g : List Sl → Option (Sl × List Sl)} {dd : List D} {dvs : List V} {fo : FO} {fa : FAr} {E : XK} {to : TE} {ta : TA} (hm : m ∉ x.nm t) (hd : ∀ F, RepL x F dd dvs) (ho : RfO x to fo) (ha : RfAr x ta fa) :
    RfR x (tMeth (x.cm t) m (spD x n g) dvs E to ta) (fMeth t n g dd fo fa) := fun F H env σ Q r env' s q kk => by
  unfold fMeth at q
  obtain ⟨⟨o, e0⟩, q1, q⟩ := Option.bind_eq_some_iff.mp q
  obtain ⟨d, q2, q⟩ := Option.bind_eq_some_iff.mp q
  by_cases hi : isIns t d = true
  · rw [if_pos hi] at q
    obtain ⟨⟨as, e1⟩, q3, q⟩ := Option.bind_eq_some_iff.mp q
    obtain ⟨a, q4, q⟩ := Option.bind_eq_some_iff.mp q
    by_cases hc : (a :: (as ++ dd.map Ar.va)).length = n ∧ (lent (a :: (as ++ dd.map Ar.va))).Nodup
    · simp only [] at q
      rw [if_pos hc] at q
      obtain ⟨ss, q5, q⟩ := Option.bind_eq_some_iff.mp q
      obtain ⟨⟨r1, ss'⟩, q6, q⟩ := Option.map_eq_some_iff.mp q
      cases q
      refine ho F H env σ _ o e0 s q1 fun F0 H0 v st0 s0 o0 => ?_
      have vw := o0.view s0 q2
      cases vw with
      | @ins b dx t' xs ds h rl =>
        have et : t' = t := by simpa [isIns] using hi
        subst et
        refine ⟨b, dx, _, rfl, h, zip_lookup_none hm, ha F0 H0 e0 σ _ as e1 s0 q3 fun F1 H1 vs st1 s1 a1 => ?_⟩
        have a2 := recv_ok s1 (o0.mono st1.fro) q4 (a1.dflt (hd F1))
        obtain ⟨s2, hw0⟩ := s1.args a2 hc.2 q5
        refine ⟨by rw [a2.len]; exact hc.1, F1, ss, r1, ss', s2, q6, fun F2 H2 v st2 s3 ro => ?_⟩
        obtain ⟨s4, st4, hw⟩ := s1.back a2 hc.2 q5 st2 s3
        refine kk F2 H2 v ((st0.trans st1).trans st4) s4 ?_
        cases r1 with
        | no => exact ro
        | fz d => exact ro
        | ow d =>
          obtain ⟨c, h1, h2, h3, h4, h5⟩ := ro
          refine ⟨c, h1, st0.tr c (st1.tr c h2), h3, fun z => ?_, h5⟩
          rcases hw c z with z | z
          · exact h4 z
          · exact s1.notOw h2 z
      | _ => cases hi
    · simp only [] at q
      rw [if_neg hc] at q
      cases q
  · rw [if_neg hi] at q
    cases q
/-- what a caller knows of a method of class t -/
structure CalM (Pr : Program) (w : World) (K : PySem.W.Frag) (mg : Str → Option Value) (base : Heap) (x : Kx) (t : Nat) (m : Str) (k : Nat) (ps : List Str) (n : Nat) (g : List Sl → Option (Sl × List Sl)) : Prop where
  ex : ∃ (f : Addr) (fd : FuncData), FnOk Pr w K mg base CX0 k f fd ps (spD x n g) ∧ Meth K (x.cm t) m f ∧ Binds K fd ps [] ∧ Cls K (x.cm t) ∧ m ∉ x.nm t
section
variable {Pr : Program} {w : World} {K : PySem.W.Frag} {mg : Str → Option Value} {base : Heap} {z : Str} {k n t : Nat} {ps : List Str} {g : List Sl → Option (Sl × List Sl)} {fa : FAr} {fo : FO} {m : Str}
theorem dMeth {j : Nat} {pl : ι → Sem Bool} (O : Over X Pr w K mg base j) (C : CalM Pr w K mg base x t m k ps n g) (hk : k ≤ j) (ho : DO X x o fo) (ha : DAr X x (e :: es) fa)
    (hst : ∀ i, starEach (e :: es) (X i).env = (false, eval e (X i).env) :: starEach es (X i).env := by intro _; rfl) (hpl : ∀ i, (backTo pos (starEach es (X i).env)).any (·.1) = false := by intro _; rfl)
    (ht : ∀ i, eval (.Call (.Attribute o m apos) (e :: es) [] pos) (X i).env = (do
      let ov ← eval o (X i).env
      standAt apos.atName
      let (f, first) ← holding [ov] (getMethod ov m (pl i))
      callWith pos f first (backTo pos (starEach (e :: es) (X i).env)) (backToKw pos (keywordEach [] (X i).env))) := by intro _; rfl) :
    DR X x (.Call (.Attribute o m apos) (e :: es) [] pos) (fMeth t n g [] fo fa) := by
  obtain ⟨f, fd, F, hm, b, cl, hn⟩ := C
  obtain ⟨to, op, or_⟩ := ho
  obtain ⟨ta, ap, ar⟩ := ha
  refine ⟨_, fun i => ?_, rf_meth (dd := []) (dvs := []) (E := E0) hn (fun _ => .nil) or_ ar⟩
  have F' : FnOk (X i).prog (X i).w (X i).K (X i).mg (X i).base CX0 k f fd ps (spD x n g) := by rw [O.prog, O.w, O.K, O.mg, O.base]; exact F
  exact pe_meth (op i) (by rw [O.K]; exact cl) (by rw [O.K]; exact hm) F' ((O.room i).mono hk) (by rw [O.K]; exact b) .nil pass0 (ap i) (hst i) (hpl i) (ht i)
theorem dMeth0 {j : Nat} {pl : ι → Sem Bool} (O : Over X Pr w K mg base j) (C : CalM Pr w K mg base x t m k ps n g) (hk : k ≤ j) (ho : DO X x o fo)
    (ht : ∀ i, eval (.Call (.Attribute o m apos) [] [] pos) (X i).env = (do
      let ov ← eval o (X i).env
      standAt apos.atName
      let (f, first) ← holding [ov] (getMethod ov m (pl i))
      callWith pos f first (backTo pos (starEach [] (X i).env)) (backToKw pos (keywordEach [] (X i).env))) := by intro _; rfl) :
    DR X x (.Call (.Attribute o m apos) [] [] pos) (fMeth t n g [] fo fANil) := by
  obtain ⟨f, fd, F, hm, b, cl, hn⟩ := C
  obtain ⟨to, op, or_⟩ := ho
  have ha : RfAr x tNil fANil := fun F H env σ Q ds env' s q kk => by
    cases q
    exact kk F H [] Step.refl s .nil
  refine ⟨_, fun i => ?_, rf_meth (dd := []) (dvs := []) (E := E0) hn (fun _ => .nil) or_ ha⟩
  have F' : FnOk (X i).prog (X i).w (X i).K (X i).mg (X i).base CX0 k f fd ps (spD x n g) := by rw [O.prog, O.w, O.K, O.mg, O.base]; exact F
  exact pe_meth0 (op i) (by rw [O.K]; exact cl) (by rw [O.K]; exact hm) F' ((O.room i).mono hk) (by rw [O.K]; exact b) .nil pass0 (ht i)
end

/-! ### a new instance -/
def fMake (t n : Nat) (g : List Sl → Option (Sl × List Sl)) (dd : List D) (fa : FAr) : FE := fun e => (fa e).bind fun p =>
  if (p.1 ++ dd.map Ar.va).length + 1 = n ∧ (lent (p.1 ++ dd.map Ar.va)).Nodup then (slsOf (p.1 ++ dd.map Ar.va) p.2).bind fun ss => (g (.ow (.ins t []) :: ss)).bind fun q => match q with
    | (.fz .non, .ow d :: ss') => some (d, wb p.2 (p.1 ++ dd.map Ar.va) ss')
    | _ => none
  else none
theorem rf_make {t n : Nat} {g : List Sl → Option (Sl × List Sl)} {dd : List D} {dvs : List V} {fa : FAr} {E : XK} {ta : TA} (hd : ∀ F, RepL x F dd dvs) (ha : RfAr x ta fa) : RfN x (tMake (x.cm t) (spD x n g) dvs E ta) (fMake t n g dd fa) := fun F H env σ Q d env' s q kk => by
  unfold fMake at q
  obtain ⟨⟨as, e1⟩, q1, q⟩ := Option.bind_eq_some_iff.mp q
  by_cases hc : (as ++ dd.map Ar.va).length + 1 = n ∧ (lent (as ++ dd.map Ar.va)).Nodup
  · simp only [] at q
    rw [if_pos hc] at q
    obtain ⟨ss, q2, q⟩ := Option.bind_eq_some_iff.mp q
    obtain ⟨⟨r0, l0⟩, q3, q⟩ := Option.bind_eq_some_iff.mp q
    obtain ⟨ss', rfl, rfl, e5⟩ : ∃ ss', r0 = .fz .non ∧ l0 = .ow d :: ss' ∧ wb e1 (as ++ dd.map Ar.va) ss' = env' := by
      cases r0 with
      | fz c =>
        cases c with
        | non =>
          cases l0 with
          | nil => cases q
          | cons c0 l1 =>
            cases c0 with
            | ow c1 => cases q; exact ⟨l1, rfl, rfl, rfl⟩
            | _ => cases q
        | _ => cases q
      | _ => cases q
    subst e5
    refine ha F H env σ _ as e1 s q1 fun F1 H1 vs st1 s1 a1 => ?_
    have a2 := a1.dflt (hd F1)
    obtain ⟨s2, ho⟩ := s1.args a2 hc.2 q2
    intro b dx nb ndx hne
    have ndx' : (upd H1 dx (.own b)) b = none := by rw [upd_ne (Ne.symm hne)]; exact nb
    have g1 : Grow F1 H1 F1 (upd H1 dx (.own b)) := Grow.raw s1.good ndx
    have g2 : Grow F1 (upd H1 dx (.own b)) F1 (upd (upd H1 dx (.own b)) b (.ins (x.cm t) dx [])) := Grow.raw g1.good ndx'
    have g3 := g1.trans g2
    have s3 := s2.grow g3
    have fb : F1 b = none := fnone s1.good nb
    have old : ∀ {i : Nat} {c : D} {a : Addr}, ss[i]? = some (.ow c) → ((vs ++ dvs).map some)[i]? = some (some (.ref a)) → a ≠ b := fun {i c a} h1 h2 e => by
      obtain ⟨a', h3, _, r⟩ := s2.ow i c h1
      rw [h2] at h3; cases h3
      obtain ⟨u, hu⟩ := r.there
      rw [e, nb] at hu; cases hu
    have s4 : StOk x F1 (upd (upd H1 dx (.own b)) b (.ins (x.cm t) dx [])) (.ow (.ins t []) :: ss) ((V.ref b :: (vs ++ dvs)).map some) := by
      refine ⟨s3.good, by rw [List.length_cons, s3.len]; rfl, fun i c h => ?_, fun i c h => ?_, fun i j c c' a h1 h2 h3 h4 => ?_⟩
      · cases i with
        | zero => cases h
        | succ i => exact s3.fz i c h
      · cases i with
        | zero =>
          cases h
          exact ⟨b, rfl, fb, dx, [], by rw [upd_same, List.zip_nil_right], .nil⟩
        | succ i => exact s3.ow i c h
      · cases i with
        | zero =>
          cases j with
          | zero => rfl
          | succ j =>
            cases h3
            exact absurd rfl (old (i := j) h2 h4)
        | succ i =>
          cases j with
          | zero =>
            cases h4
            exact absurd rfl (old (i := i) h1 h3)
          | succ j => exact congrArg Nat.succ (s3.inj i j c c' a h1 h2 h3 h4)
    refine ⟨by show ((V.ref b) :: (vs ++ dvs)).length = n; rw [List.length_cons, a2.len]; exact hc.1, F1, _, _, _, s4, q3, fun F2 H2 v st2 s5 ro => ?_⟩
    cases (show Rep x F2 .non v from ro)
    refine ⟨rfl, ?_⟩
    -- the tail
    have s6 : StOk x F2 H2 ss' ((vs ++ dvs).map some) := by
      refine ⟨s5.good, by have := s5.len; simpa using this, fun i c h => ?_, fun i c h => ?_, fun i j c c' a h1 h2 h3 h4 => ?_⟩
      · exact s5.fz (i + 1) c h
      · exact s5.ow (i + 1) c h
      · exact Nat.succ.inj (s5.inj (i + 1) (j + 1) c c' a h1 h2 h3 h4)
    have st6 : Step F1 H1 (Ow ss ((vs ++ dvs).map some)) F2 H2 (Ow ss' ((vs ++ dvs).map some)) := by
      refine ⟨st2.fro, fun a o e f no => st2.kp a o (g3.fH a o e) f ?_, fun a e => ?_, fun a ⟨i, c, h1, h2⟩ => ?_⟩
      · rintro ⟨i, c, h1, h2⟩
        cases i with
        | zero =>
          cases h2
          rw [nb] at e; cases e
        | succ i => exact no ⟨i, c, h1, h2⟩
      · have := st2.tr a e
        cases h : H1 a with
        | none => rfl
        | some u => rw [g3.fH a u h] at this; cases this
      · rcases st2.ow a ⟨i + 1, c, h1, h2⟩ with ⟨j, c', h3, h4⟩ | h3
        · cases j with
          | zero =>
            cases h4
            exact .inr nb
          | succ j => exact .inl ⟨j, c', h3, h4⟩
        · refine .inr ?_
          cases h : H1 a with
          | none => rfl
          | some u => rw [g3.fH a u h] at h3; cases h3
    obtain ⟨s7, st7, hw⟩ := s1.back a2 hc.2 q2 st6 s6
    obtain ⟨b', hb1, hb2, hb3⟩ := s5.ow 0 d rfl
    cases hb1
    refine kk F2 H2 b (st1.trans st7) s7 (st1.tr b nb) hb2 (fun z => ?_) hb3
    rcases hw b z with ⟨i, c, h1, h2⟩ | z
    · have := s5.inj 0 (i + 1) d c b rfl h1 rfl h2
      cases this
    · exact s1.notOw nb z
  · simp only [] at q
    rw [if_neg hc] at q
    cases q
structure CalC (Pr : Program) (w : World) (K : PySem.W.Frag) (mg : Str → Option Value) (base : Heap) (x : Kx) (z : Str) (t : Nat) (k : Nat) (ps : List Str) (n : Nat) (g : List Sl → Option (Sl × List Sl)) (dd : List D) : Prop where
  ex : ∃ (f : Addr) (fd : FuncData) (dvs : List V) (ds : List Value), FnOk Pr w K mg base CX0 k f fd ps (spD x n g) ∧ mg z = some (.ref (x.cm t)) ∧ Mk K (x.cm t) f ∧ Binds K fd ps ds ∧ Vals dvs ds ∧ ∀ F, RepL x F dd dvs
section
variable {Pr : Program} {w : World} {K : PySem.W.Frag} {mg : Str → Option Value} {base : Heap} {z : Str} {k n t : Nat} {ps : List Str} {g : List Sl → Option (Sl × List Sl)} {fa : FAr} {dd : List D}
theorem dMake {j : Nat} (O : Over X Pr w K mg base j) (C : CalC Pr w K mg base x z t k ps n g dd) (hk : k + 1 ≤ j) (hg : ∀ i, Gl (X i) z) (ha : DAr X x (e :: es) fa) (hdb : (z == ("__debug__" : Str)) = false := by decide)
    (he : ∀ i, starEach (e :: es) (X i).env = (false, eval e (X i).env) :: starEach es (X i).env := by intro _; rfl) (hpl : ∀ i, (backTo pos (starEach es (X i).env)).any (·.1) = false := by intro _; rfl) :
    DN X x (.Call (.Name z p) (e :: es) [] pos) (fMake t n g dd fa) := by
  obtain ⟨f, fd, dvs, ds, F, gm, mk, b, rv, rd⟩ := C
  obtain ⟨ta, hp, hr⟩ := ha
  refine ⟨tMake (x.cm t) (spD x n g) dvs E0 ta, fun i => ?_, rf_make rd hr⟩
  have F' : FnOk (X i).prog (X i).w (X i).K (X i).mg (X i).base CX0 k f fd ps (spD x n g) := by rw [O.prog, O.w, O.K, O.mg, O.base]; exact F
  exact pe_make (by rw [O.K]; exact mk) F' ((O.room i).mono hk) (hg i) (by rw [O.mg]; exact gm) (by rw [O.K]; exact b) rv pass0 (hp i) hdb (he i) (hpl i)
theorem dMake0 {j : Nat} (O : Over X Pr w K mg base j) (C : CalC Pr w K mg base x z t k ps n g dd) (hk : k + 1 ≤ j) (hg : ∀ i, Gl (X i) z) (hdb : (z == ("__debug__" : Str)) = false := by decide) :
    DN X x (.Call (.Name z p) [] [] pos) (fMake t n g dd fANil) := by
  obtain ⟨f, fd, dvs, ds, F, gm, mk, b, rv, rd⟩ := C
  have ha : RfAr x tNil fANil := fun F H env σ Q ds env' s q kk => by
    cases q
    exact kk F H [] Step.refl s .nil
  refine ⟨tMake (x.cm t) (spD x n g) dvs E0 tNil, fun i => ?_, rf_make rd ha⟩
  have F' : FnOk (X i).prog (X i).w (X i).K (X i).mg (X i).base CX0 k f fd ps (spD x n g) := by rw [O.prog, O.w, O.K, O.mg, O.base]; exact F
  exact pe_make0 (by rw [O.K]; exact mk) F' ((O.room i).mono hk) (hg i) (by rw [O.mg]; exact gm) (by rw [O.K]; exact b) rv pass0 hdb
end
end
end Vd

end

section
set_option Elab.async false
set_option linter.all false
set_option maxRecDepth 100000
set_option maxHeartbeats 1000000
/-! Lf: comprehensions, what is walked. -/
namespace Vd
open PySem L2 PyProof.Rows

/-! ### a block's slots -/
def wipeE (e : En) : List Nat → En
  | [] => e
  | v :: vs => (wipeE e vs).set v .no
/-- behind a block: its own names as they were -/
def unw (e e2 : En) : List Nat → En
  | [] => e2
  | v :: vs => (unw e e2 vs).set v (e.getD v .no)
theorem wipeE_len (e : En) : ∀ vs : List Nat, (wipeE e vs).length = e.length
  | [] => rfl
  | v :: vs => by unfold wipeE; rw [List.length_set]; exact wipeE_len e vs
theorem unw_len (e e2 : En) : ∀ vs : List Nat, (unw e e2 vs).length = e2.length
  | [] => rfl
  | v :: vs => by unfold unw; rw [List.length_set]; exact unw_len e e2 vs
theorem wipeE_at {e : En} {i : Nat} {z : Sl} (hz : z ≠ .no) : ∀ {vs : List Nat}, (wipeE e vs)[i]? = some z → i ∉ vs ∧ e[i]? = some z
  | [], h => ⟨by simp, h⟩
  | v :: vs, h => by
    unfold wipeE at h
    by_cases hi : i = v
    · subst hi
      by_cases hl : i < (wipeE e vs).length
      · rw [List.getElem?_set_self hl] at h
        exact absurd (Option.some.inj h).symm hz
      · rw [List.getElem?_eq_none (by simpa using hl)] at h
        cases h
    · rw [List.getElem?_set_ne (Ne.symm hi)] at h
      obtain ⟨h1, h2⟩ := wipeE_at hz h
      exact ⟨by simp only [List.mem_cons, not_or]; exact ⟨hi, h1⟩, h2⟩
theorem wipeE_out {e : En} {i : Nat} : ∀ {vs : List Nat}, i ∉ vs → (wipeE e vs)[i]? = e[i]?
  | [], _ => rfl
  | v :: vs, h => by
    simp only [List.mem_cons, not_or] at h
    unfold wipeE
    rw [List.getElem?_set_ne (Ne.symm h.1)]
    exact wipeE_out h.2
theorem unw_at {e e2 : En} (hl : e.length = e2.length) {i : Nat} {z : Sl} : ∀ {vs : List Nat}, (unw e e2 vs)[i]? = some z → (i ∈ vs ∧ e[i]? = some z) ∨ (i ∉ vs ∧ e2[i]? = some z)
  | [], h => .inr ⟨by simp, h⟩
  | v :: vs, h => by
    unfold unw at h
    rcases set_at h with ⟨rfl, rfl, h1⟩ | ⟨hi, h⟩
    · refine .inl ⟨List.mem_cons_self, ?_⟩
      rw [unw_len, ← hl] at h1
      rw [List.getD_eq_getElem?_getD, List.getElem?_eq_getElem h1]
      rfl
    · rcases unw_at hl h with ⟨h1, h2⟩ | ⟨h1, h2⟩
      · exact .inl ⟨List.mem_cons_of_mem _ h1, h2⟩
      · exact .inr ⟨by simp only [List.mem_cons, not_or]; exact ⟨hi, h1⟩, h2⟩
section
variable {x : Kx} {F H : Hp} {env : En} {σ : L2.St}
theorem StOk.wipe (s : StOk x F H env σ) (vs : List Nat) : StOk x F H (wipeE env vs) (L2.wipe σ vs) ∧ ∀ a, Ow (wipeE env vs) (L2.wipe σ vs) a → ∃ (i : Nat) (d : D), i ∉ vs ∧ env[i]? = some (.ow d) ∧ σ[i]? = some (some (.ref a)) := by
  have up : ∀ {i : Nat} {v : Option V}, i ∉ vs → (L2.wipe σ vs)[i]? = σ[i]? := fun {i v} h => wipe_out h
  have own : ∀ {i : Nat} {d : D}, (wipeE env vs)[i]? = some (.ow d) → i ∉ vs ∧ env[i]? = some (.ow d) := fun {i d} h => wipeE_at (z := .ow d) (fun z => nomatch z) h
  refine ⟨⟨s.good, by rw [wipeE_len, wipe_length]; exact s.len, fun i d h => ?_, fun i d h => ?_, fun i j d d' a h1 h2 h3 h4 => ?_⟩, fun a ⟨i, d, h1, h2⟩ => ?_⟩
  · obtain ⟨hi, h⟩ := wipeE_at (z := .fz d) (fun z => nomatch z) h
    obtain ⟨v, h1, r⟩ := s.fz i d h
    exact ⟨v, by rw [up (v := some v) hi]; exact h1, r⟩
  · obtain ⟨hi, h⟩ := own h
    obtain ⟨v, h1, r⟩ := s.ow i d h
    exact ⟨v, by rw [up (v := none) hi]; exact h1, r⟩
  · obtain ⟨hi, h1⟩ := own h1
    obtain ⟨hj, h2⟩ := own h2
    rw [up (v := none) hi] at h3
    rw [up (v := none) hj] at h4
    exact s.inj i j d d' a h1 h2 h3 h4
  · obtain ⟨hi, h1⟩ := own h1
    rw [up (v := none) hi] at h2
    exact ⟨i, d, hi, h1, h2⟩
/-- from a block's turn back to the frame -/
theorem StOk.unwipe {F2 H2 : Hp} {e4 : En} {σ2 : L2.St} {vs : List Nat} (s : StOk x F H env σ) (st : Step F H (Ow (wipeE env vs) (L2.wipe σ vs)) F2 H2 (Ow e4 σ2)) (s4 : StOk x F2 H2 e4 σ2) (hl : σ2.length = σ.length) (hw : ∀ i, i ∉ vs → σ2[i]? = σ[i]?) :
    StOk x F2 H2 (unw env e4 vs) σ ∧ Step F H (Ow env σ) F2 H2 (Ow (unw env e4 vs) σ) := by
  obtain ⟨sw, hsw⟩ := s.wipe vs
  have le : env.length = e4.length := by rw [s.len, s4.len, hl]
  have cas := fun {i : Nat} {z : Sl} (h : (unw env e4 vs)[i]? = some z) => unw_at le h
  have notw : ∀ {i : Nat} {d : D} {a : Addr}, i ∈ vs → env[i]? = some (.ow d) → σ[i]? = some (some (.ref a)) → ¬ Ow (wipeE env vs) (L2.wipe σ vs) a := fun {i d a} hi h1 h2 h => by
    obtain ⟨j, d', hj, h3, h4⟩ := hsw a h
    have := s.inj i j d d' a h1 h3 h2 h4
    subst this
    exact hj hi
  refine ⟨⟨s4.good, by rw [unw_len, s4.len, hl], fun i d h => ?_, fun i d h => ?_, fun i j d d' a h1 h2 h3 h4 => ?_⟩, ⟨st.fro, fun a o e f no => st.kp a o e f fun h => ?_, st.tr, fun a ⟨i, d, h1, h2⟩ => ?_⟩⟩
  · rcases cas h with ⟨hi, h⟩ | ⟨hi, h⟩
    · obtain ⟨v, h1, r⟩ := s.fz i d h
      exact ⟨v, h1, r.mono st.fro⟩
    · obtain ⟨v, h1, r⟩ := s4.fz i d h
      exact ⟨v, by rw [← hw i hi]; exact h1, r⟩
  · rcases cas h with ⟨hi, h⟩ | ⟨hi, h⟩
    · obtain ⟨a, h1, n, r⟩ := s.ow i d h
      obtain ⟨o, ho⟩ := r.there
      obtain ⟨h2, h3⟩ := st.kp a o ho n (notw hi h h1)
      exact ⟨a, h1, h3, r.mono st.fro fun u q => by rw [ho] at q; cases q; exact h2⟩
    · obtain ⟨a, h1, r⟩ := s4.ow i d h
      exact ⟨a, by rw [← hw i hi]; exact h1, r⟩
  · have mix : ∀ {i j : Nat} {d d' : D}, i ∈ vs → j ∉ vs → env[i]? = some (.ow d) → e4[j]? = some (.ow d') → σ[i]? = some (some (.ref a)) → σ[j]? = some (some (.ref a)) → False := fun {i j d d'} hi hj h1 h2 h3 h4 => by
      obtain ⟨b, q1, _, r⟩ := s.ow i d h1
      rw [h3] at q1; cases q1
      obtain ⟨o, ho⟩ := r.there
      rcases st.ow a ⟨j, d', h2, by rw [hw j hj]; exact h4⟩ with q | q
      · exact notw hi h1 h3 q
      · rw [ho] at q; cases q
    rcases cas h1 with ⟨hi, h1⟩ | ⟨hi, h1⟩ <;> rcases cas h2 with ⟨hj, h2⟩ | ⟨hj, h2⟩
    · exact s.inj i j d d' a h1 h2 h3 h4
    · exact (mix hi hj h1 h2 h3 h4).elim
    · exact (mix hj hi h2 h1 h4 h3).elim
    · exact s4.inj i j d d' a h1 h2 (by rw [hw i hi]; exact h3) (by rw [hw j hj]; exact h4)
  · obtain ⟨i, d, _, h1, h2⟩ := hsw a h
    exact no ⟨i, d, h1, h2⟩
  · rcases cas h1 with ⟨hi, h1⟩ | ⟨hi, h1⟩
    · exact .inl ⟨i, d, h1, h2⟩
    · rcases st.ow a ⟨i, d, h1, by rw [hw i hi]; exact h2⟩ with q | q
      · obtain ⟨j, d', _, h3, h4⟩ := hsw a q
        exact .inl ⟨j, d', h3, h4⟩
      · exact .inr q
/-- an object that is nobody's slot is changed -/
theorem StOk.other (s : StOk x F H env σ) {a : Addr} {o : HO} (n : F a = none) (no : ¬ Ow env σ a) : StOk x F (upd H a o) env σ where
  good := fun b u q => by rw [upd_ne (ne_of_none q n)]; exact s.good b u q
  len := s.len
  fz := s.fz
  ow := fun i d h => by
    obtain ⟨b, h1, h2, r⟩ := s.ow i d h
    exact ⟨b, h1, h2, r.mono (fun _ _ q => q) fun u q => by rw [upd_ne (fun z => no ⟨i, d, h, by rw [h1, z]⟩)]; exact q⟩
  inj := s.inj
theorem Step.other {F' H' : Hp} {S S' : Addr → Prop} (st : Step F H S F' H' S') {a : Addr} {o : HO} (n : H a = none) : Step F H S F' (upd H' a o) S' where
  fro := st.fro
  kp := fun b u e f no => by
    rw [upd_ne (ne_of_none e n)]
    exact st.kp b u e f no
  tr := fun b e => by
    by_cases h : b = a
    · subst h; rw [upd_same] at e; cases e
    · rw [upd_ne h] at e; exact st.tr b e
  ow := st.ow
end

/-! ### list comprehensions -/
def lcLoop (vs : List Nat) (g : FG) (t : FT) (f : FE) : List D → List D → En → Option (List D × En)
  | [], acc, e => some (acc, e)
  | d :: ds, acc, e => (g d (wipeE e vs)).bind fun e1 => (t e1).bind fun p => match p.1 with
    | true => (f p.2).bind fun q => if acc.length < 100000 then lcLoop vs g t f ds (acc ++ [q.1]) (unw e q.2 vs) else none
    | false => lcLoop vs g t f ds acc (unw e p.2 vs)
def fLc (vs : List Nat) (i : FI) (g : FG) (t : FT) (f : FE) : FE := fun e => (i e).bind fun p => (lcLoop vs g t f p.1 [] p.2).map fun q => (.lst q.1, q.2)
/-- a block's target may store to the block's own names alone -/
def outP (vs : List Nat) : Prt := fun k => !vs.contains k
theorem wipe_eq {σ σ2 : L2.St} {vs : List Nat} (h : KeepS (outP vs) (L2.wipe σ vs) σ2) : σ2.length = σ.length ∧ (∀ i, i ∉ vs → σ2[i]? = σ[i]?) ∧ L2.wipe σ2 vs = L2.wipe σ vs := by
  have hl : σ2.length = σ.length := by rw [h.len, wipe_length]
  have hk : ∀ i, i ∉ vs → σ2[i]? = σ[i]? := fun i hi => by rw [h.at_ i (by simp [outP, hi]), wipe_out hi]
  refine ⟨hl, hk, ?_⟩
  apply List.ext_getElem?
  intro i
  have in_ : ∀ (τ : L2.St), i ∈ vs → i < τ.length → (L2.wipe τ vs)[i]? = some none := fun τ hi hlt => by
    cases q : (L2.wipe τ vs)[i]? with
    | none =>
      rw [List.getElem?_eq_none_iff, wipe_length] at q
      omega
    | some z =>
      cases z with
      | none => rfl
      | some v => exact absurd hi (wipe_some q).2
  by_cases hi : i ∈ vs
  · by_cases hlt : i < σ.length
    · rw [in_ σ2 hi (by omega), in_ σ hi hlt]
    · rw [List.getElem?_eq_none (by rw [wipe_length]; omega), List.getElem?_eq_none (by rw [wipe_length]; omega)]
  · rw [wipe_out hi, wipe_out hi, hk i hi]
theorem rf_lc {x : Kx} {vs : List Nat} {wi : TI} {tg : TG} {tt : TT} {te : TE} {fi : FI} {g : FG} {t : FT} {f : FE} (hi : RfI x wi fi) (hg : RfG x (outP vs) tg g) (ht : RfT x tt t) (he : RfE x te f) : RfN x (tLc wi tg tt te vs) (fLc vs fi g t f) := fun F H env σ Q d env' s q kk => by
  unfold fLc at q
  obtain ⟨⟨ds, e1⟩, q1, q⟩ := Option.bind_eq_some_iff.mp q
  obtain ⟨⟨res, e2⟩, q2, q⟩ := Option.map_eq_some_iff.mp q
  cases q
  refine hi F H env σ _ ds e1 s q1 fun F1 H1 J st1 s1 wk => ?_
  intro Dl nD
  have fD := fnone s1.good nD
  refine ⟨fun i m H' => i ≤ ds.length ∧ m = ds.length - i ∧ ∃ F' e' acc accV, Step F1 H1 (Ow e1 σ) F' H' (Ow e' σ) ∧ Same F1 F' ∧ StOk x F' H' e' σ ∧ F' Dl = none ∧ ¬ Ow e' σ Dl ∧ H' Dl = some (.lst accV) ∧ RepL x F' acc accV ∧ lcLoop vs g t f (ds.drop i) acc e' = some (res, e2),
    ⟨_, Nat.zero_le _, rfl, F1, e1, [], [], Step.refl.other nD, fun _ _ z => z, s1.other fD (s1.notOw nD), fD, s1.notOw nD, upd_same, .nil, q2⟩, ?_⟩
  rintro i m H' ⟨hi', rfl, F', e', acc, accV, st', sf, s', fD', nO, hD', rr, hq⟩
  by_cases hlt : i < ds.length
  · obtain ⟨d, hd⟩ : ∃ d, ds[i]? = some d := ⟨ds[i], List.getElem?_eq_getElem hlt⟩
    have hdrop : ds.drop i = d :: ds.drop (i + 1) := by
      rw [List.drop_eq_getElem_cons hlt]
      rw [List.getElem?_eq_getElem hlt] at hd
      cases hd
      rfl
    rw [hdrop] at hq
    unfold lcLoop at hq
    obtain ⟨e3, q3, hq⟩ := Option.bind_eq_some_iff.mp hq
    obtain ⟨⟨b, e4⟩, q4, hq⟩ := Option.bind_eq_some_iff.mp hq
    refine .inr ⟨wk.go F' H' i sf s'.good hlt, fun H2 => ∃ F2 e' acc accV, Step F1 H1 (Ow e1 σ) F2 H2 (Ow e' σ) ∧ Same F1 F2 ∧ StOk x F2 H2 e' σ ∧ F2 Dl = none ∧ ¬ Ow e' σ Dl ∧ H2 Dl = some (.lst accV) ∧ RepL x F2 acc accV ∧ lcLoop vs g t f (ds.drop (i + 1)) acc e' = some (res, e2),
      fun H2 h => ⟨ds.length - (i + 1), by omega, hlt, rfl, h⟩, fun v H2 hy => ?_⟩
    obtain ⟨F2, gr, rv⟩ := wk.yld F' H' i v H2 d sf s'.good hd hy
    have s2 := s'.grow gr
    have fD2 : F2 Dl = none := gr.nope hD' fD'
    have hD2 : H2 Dl = some (.lst accV) := gr.fH _ _ hD'
    have st2 := st'.trans (gr.step (Ow e' σ))
    have sf2 : Same F1 F2 := fun b u z => gr.fF b u (sf b u z)
    obtain ⟨sw, hsw⟩ := s2.wipe vs
    have nOw : ¬ Ow (wipeE e' vs) (L2.wipe σ vs) Dl := fun h => by
      obtain ⟨j, dj, _, h1, h2⟩ := hsw Dl h
      exact nO ⟨j, dj, h1, h2⟩
    refine hg F2 H2 (wipeE e' vs) (L2.wipe σ vs) _ d v e3 sw rv q3 fun σ3 st3 s3 k3 => ?_
    obtain ⟨hl3, hw3, hwe⟩ := wipe_eq k3
    refine ⟨hwe, ht F2 H2 e3 σ3 _ b e4 s3 q4 fun F4 H4 st4 s4 => ?_⟩
    have st34 := st3.trans st4
    obtain ⟨hD4, fD4⟩ := st34.kp Dl _ hD2 fD2 nOw
    cases b with
    | false =>
      obtain ⟨s5, st5⟩ := s2.unwipe st34 s4 hl3 hw3
      refine ⟨F4, unw e' e4 vs, acc, accV, st2.trans st5, fun b u z => st34.fro b u (sf2 b u z), s5, fD4, fun h => ?_, hD4, (rr.mono gr.fF).mono st34.fro, hq⟩
      rcases st5.ow Dl h with z | z
      · exact nO z
      · rw [hD2] at z; cases z
    | true =>
      obtain ⟨⟨y, e5⟩, q5, hq⟩ := Option.bind_eq_some_iff.mp hq
      by_cases hz : acc.length < 100000
      · simp only [] at hq
        rw [if_pos hz] at hq
        refine he F4 H4 e4 σ3 _ y e5 s4 q5 fun F5 H5 yv st5 s5 ry => ?_
        have st35 := st34.trans st5
        obtain ⟨hD5, fD5⟩ := st35.kp Dl _ hD2 fD2 nOw
        obtain ⟨s6, st6⟩ := s2.unwipe st35 s5 hl3 hw3
        have nO6 : ¬ Ow (unw e' e5 vs) σ Dl := fun h => by
          rcases st6.ow Dl h with z | z
          · exact nO z
          · rw [hD2] at z; cases z
        have rr5 : RepL x F5 acc accV := (rr.mono gr.fF).mono st35.fro
        refine ⟨accV, hD5, size_lt (by rw [rr5.len]; exact hz), F5, unw e' e5 vs, acc ++ [y], accV ++ [yv], (st2.trans st6).other nD, fun b u z => st35.fro b u (sf2 b u z), s6.other fD5 nO6, fD5, nO6, upd_same, rr5.app (.cons ry .nil), hq⟩
      · simp only [] at hq
        rw [if_neg hz] at hq
        cases hq
  · have e : i = ds.length := by omega
    subst e
    rw [List.drop_length] at hq
    cases hq
    exact .inl ⟨wk.stop F' H' sf s'.good, kk F' H' Dl (st1.trans st') s' (st1.tr Dl nD) fD' nO ⟨accV, hD', rr⟩⟩

/-! ### dict comprehensions -/
def keyOf : D → Option Key
  | .int i => some (.inl i)
  | .str z => some (.inr z)
  | _ => none
def putD (kvs : List (Key × D)) (k : Key) (v : D) : List (Key × D) :=
  if kvs.any (fun kv => decide (kv.1 = k)) then kvs.map (fun kv => if kv.1 = k then (kv.1, v) else kv) else kvs ++ [(k, v)]
theorem RepK.any {x : Kx} {F : Hp} {k : Key} : ∀ {ds : List (Key × D)} {vs : List (Key × V)}, RepK x F ds vs → (vs.any fun kv => decide (kv.1 = k)) = ds.any fun kv => decide (kv.1 = k)
  | _, _, .nil => rfl
  | _, _, .cons h r => by
    rw [List.any_cons, List.any_cons, RepK.any r]
theorem RepK.app {x : Kx} {F : Hp} : ∀ {ds es : List (Key × D)} {vs us : List (Key × V)}, RepK x F ds vs → RepK x F es us → RepK x F (ds ++ es) (vs ++ us)
  | _, _, _, _, .nil, s => s
  | _, _, _, _, .cons h r, s => .cons h (RepK.app r s)
theorem RepK.repl {x : Kx} {F : Hp} {k : Key} {d : D} {v : V} (h : Rep x F d v) : ∀ {ds : List (Key × D)} {vs : List (Key × V)}, RepK x F ds vs → RepK x F (ds.map fun kv => if kv.1 = k then (kv.1, d) else kv) (vs.map fun kv => if kv.1 = k then (kv.1, v) else kv)
  | _, _, .nil => .nil
  | _, _, @RepK.cons _ _ k' d' v' ds vs q r => by
    rw [List.map_cons, List.map_cons]
    by_cases e : k' = k
    · rw [if_pos e, if_pos e]
      exact .cons h (RepK.repl h r)
    · rw [if_neg e, if_neg e]
      exact .cons q (RepK.repl h r)
theorem RepK.put {x : Kx} {F : Hp} {k : Key} {d : D} {v : V} {ds : List (Key × D)} {vs : List (Key × V)} (r : RepK x F ds vs) (h : Rep x F d v) : RepK x F (putD ds k d) (putK vs k v) := by
  unfold putD putK
  rw [r.any]
  by_cases e : (ds.any fun kv => decide (kv.1 = k)) = true
  · rw [if_pos e, if_pos e]
    exact r.repl h
  · rw [if_neg e, if_neg e]
    exact r.app (.cons h .nil)
theorem keyOf_rep {x : Kx} {F : Hp} {d : D} {v : V} {k : Key} (r : Rep x F d v) (h : keyOf d = some k) : v = kV k := by
  cases r <;> cases h <;> rfl
def dcLoop (vs : List Nat) (g : FG) (t : FT) (fk fv : FE) : List D → List (Key × D) → En → Option (List (Key × D) × En)
  | [], acc, e => some (acc, e)
  | d :: ds, acc, e => (g d (wipeE e vs)).bind fun e1 => (t e1).bind fun p => match p.1 with
    | true => (fk p.2).bind fun q => (fv q.2).bind fun r => (keyOf q.1).bind fun k => if acc.length < 100000 then dcLoop vs g t fk fv ds (putD acc k r.1) (unw e r.2 vs) else none
    | false => dcLoop vs g t fk fv ds acc (unw e p.2 vs)
def fDc (vs : List Nat) (i : FI) (g : FG) (t : FT) (fk fv : FE) : FE := fun e => (i e).bind fun p => (dcLoop vs g t fk fv p.1 [] p.2).map fun q => (.dic q.1, q.2)
theorem rf_dc {x : Kx} {vs : List Nat} {wi : TI} {tg : TG} {tt : TT} {tk tv : TE} {fi : FI} {g : FG} {t : FT} {fk fv : FE} (hi : RfI x wi fi) (hg : RfG x (outP vs) tg g) (ht : RfT x tt t) (hk : RfE x tk fk) (hv : RfE x tv fv) : RfN x (tDc wi tg tt tk tv vs) (fDc vs fi g t fk fv) := fun F H env σ Q d env' s q kk => by
  unfold fDc at q
  obtain ⟨⟨ds, e1⟩, q1, q⟩ := Option.bind_eq_some_iff.mp q
  obtain ⟨⟨res, e2⟩, q2, q⟩ := Option.map_eq_some_iff.mp q
  cases q
  refine hi F H env σ _ ds e1 s q1 fun F1 H1 J st1 s1 wk => ?_
  intro Dl nD
  have fD := fnone s1.good nD
  refine ⟨fun i m H' => i ≤ ds.length ∧ m = ds.length - i ∧ ∃ F' e' acc accV, Step F1 H1 (Ow e1 σ) F' H' (Ow e' σ) ∧ Same F1 F' ∧ StOk x F' H' e' σ ∧ F' Dl = none ∧ ¬ Ow e' σ Dl ∧ H' Dl = some (.dK accV) ∧ RepK x F' acc accV ∧ dcLoop vs g t fk fv (ds.drop i) acc e' = some (res, e2),
    ⟨_, Nat.zero_le _, rfl, F1, e1, [], [], Step.refl.other nD, fun _ _ z => z, s1.other fD (s1.notOw nD), fD, s1.notOw nD, upd_same, .nil, q2⟩, ?_⟩
  rintro i m H' ⟨hi', rfl, F', e', acc, accV, st', sf, s', fD', nO, hD', rr, hq⟩
  by_cases hlt : i < ds.length
  · obtain ⟨d, hd⟩ : ∃ d, ds[i]? = some d := ⟨ds[i], List.getElem?_eq_getElem hlt⟩
    have hdrop : ds.drop i = d :: ds.drop (i + 1) := by
      rw [List.drop_eq_getElem_cons hlt]
      rw [List.getElem?_eq_getElem hlt] at hd
      cases hd
      rfl
    rw [hdrop] at hq
    unfold dcLoop at hq
    obtain ⟨e3, q3, hq⟩ := Option.bind_eq_some_iff.mp hq
    obtain ⟨⟨b, e4⟩, q4, hq⟩ := Option.bind_eq_some_iff.mp hq
    refine .inr ⟨wk.go F' H' i sf s'.good hlt, fun H2 => ∃ F2 e' acc accV, Step F1 H1 (Ow e1 σ) F2 H2 (Ow e' σ) ∧ Same F1 F2 ∧ StOk x F2 H2 e' σ ∧ F2 Dl = none ∧ ¬ Ow e' σ Dl ∧ H2 Dl = some (.dK accV) ∧ RepK x F2 acc accV ∧ dcLoop vs g t fk fv (ds.drop (i + 1)) acc e' = some (res, e2),
      fun H2 h => ⟨ds.length - (i + 1), by omega, hlt, rfl, h⟩, fun v H2 hy => ?_⟩
    obtain ⟨F2, gr, rv⟩ := wk.yld F' H' i v H2 d sf s'.good hd hy
    have s2 := s'.grow gr
    have fD2 : F2 Dl = none := gr.nope hD' fD'
    have hD2 : H2 Dl = some (.dK accV) := gr.fH _ _ hD'
    have st2 := st'.trans (gr.step (Ow e' σ))
    have sf2 : Same F1 F2 := fun b u z => gr.fF b u (sf b u z)
    obtain ⟨sw, hsw⟩ := s2.wipe vs
    have nOw : ¬ Ow (wipeE e' vs) (L2.wipe σ vs) Dl := fun h => by
      obtain ⟨j, dj, _, h1, h2⟩ := hsw Dl h
      exact nO ⟨j, dj, h1, h2⟩
    refine hg F2 H2 (wipeE e' vs) (L2.wipe σ vs) _ d v e3 sw rv q3 fun σ3 st3 s3 k3 => ?_
    obtain ⟨hl3, hw3, hwe⟩ := wipe_eq k3
    refine ⟨hwe, ht F2 H2 e3 σ3 _ b e4 s3 q4 fun F4 H4 st4 s4 => ?_⟩
    have st34 := st3.trans st4
    obtain ⟨hD4, fD4⟩ := st34.kp Dl _ hD2 fD2 nOw
    cases b with
    | false =>
      obtain ⟨s5, st5⟩ := s2.unwipe st34 s4 hl3 hw3
      refine ⟨F4, unw e' e4 vs, acc, accV, st2.trans st5, fun b u z => st34.fro b u (sf2 b u z), s5, fD4, fun h => ?_, hD4, (rr.mono gr.fF).mono st34.fro, hq⟩
      rcases st5.ow Dl h with z | z
      · exact nO z
      · rw [hD2] at z; cases z
    | true =>
      obtain ⟨⟨y, e5⟩, q5, hq⟩ := Option.bind_eq_some_iff.mp hq
      obtain ⟨⟨y2, e6⟩, q6, hq⟩ := Option.bind_eq_some_iff.mp hq
      obtain ⟨k, q7, hq⟩ := Option.bind_eq_some_iff.mp hq
      by_cases hz : acc.length < 100000
      · simp only [] at hq
        rw [if_pos hz] at hq
        refine hk F4 H4 e4 σ3 _ y e5 s4 q5 fun F5 H5 yv st5 s5 ry => ?_
        refine hv F5 H5 e5 σ3 _ y2 e6 s5 q6 fun F6 H6 zv st6 s6 rz => ?_
        have st36 := (st34.trans st5).trans st6
        obtain ⟨hD6, fD6⟩ := st36.kp Dl _ hD2 fD2 nOw
        obtain ⟨s7, st7⟩ := s2.unwipe st36 s6 hl3 hw3
        have nO7 : ¬ Ow (unw e' e6 vs) σ Dl := fun h => by
          rcases st7.ow Dl h with z | z
          · exact nO z
          · rw [hD2] at z; cases z
        have rr6 : RepK x F6 acc accV := (rr.mono gr.fF).mono st36.fro
        refine ⟨accV, k, keyOf_rep ry q7, hD6, size_lt (by rw [rr6.len]; exact hz), F6, unw e' e6 vs, _, _, (st2.trans st7).other nD, fun b u z => st36.fro b u (sf2 b u z), s7.other fD6 nO7, fD6, nO7, upd_same, rr6.put rz, hq⟩
      · simp only [] at hq
        rw [if_neg hz] at hq
        cases hq
  · have e : i = ds.length := by omega
    subst e
    rw [List.drop_length] at hq
    cases hq
    exact .inl ⟨wk.stop F' H' sf s'.good, kk F' H' Dl (st1.trans st') s' (st1.tr Dl nD) fD' nO ⟨accV, hD', rr⟩⟩

/-! ### the rules -/
section
variable {ι : Type} {X : ι → Cx} {x : Kx} {elt kx vx tg iter c : Expr} {ifs : List Expr} {scope : Scope} {pos : Pos} {own : List (Str × Nat)} {fi : FI} {g : FG} {t : FT} {f fk fv : FE}
/-- the contexts of a block -/
abbrev blkF (X : ι → Cx) (scope : Scope) : (ι × Shared × Hp × Addr × List (Str × Addr) × List Addr) → Cx := fun j => (X j.1).blk j.2.1 j.2.2.1 scope (compEnvC scope j.2.2.2.2.1 j.2.2.2.1 (X j.1).env) j.2.2.2.2.2
structure DTs (X : ι → Cx) (x : Kx) (ifs : List Expr) (f : FT) : Prop where
  ex : ∃ t, (∀ i, PTs (X i) ifs t) ∧ RfT x t f
def fYes : FT := fun e => some (true, e)
theorem tsNil : DTs X x [] fYes := ⟨_, fun _ => pts_nil, fun F H env σ Q b env' s q kk => by
  cases q
  exact kk F H Step.refl s⟩
theorem tsOne (h : DT X x c t) : DTs X x [c] t := let ⟨u, hp, hr⟩ := h.ex; ⟨u, fun i => pts_one (hp i), hr⟩
theorem dLc (hc : ∀ i, (X i).calm = true) (hN : ∀ i, (X i).N.Nodup) (hi : DI X x tg iter fi) (ok : ∀ i, BlkOk (X i).N (X i).env.scope scope own) (hg : DG (blkF X scope) x (outP (own.map (·.2))) tg g) (ht : DTs (blkF X scope) x ifs t) (he : DE (blkF X scope) x elt f)
    (hs : ∀ i y, foldedSetIterable iter (X i).env y = pure y := by intro _ _; rfl) : DN X x (.ListComp elt [⟨tg, iter, ifs, 0⟩] scope pos) (fLc (own.map (·.2)) fi g t f) := by
  obtain ⟨a, ip, ir⟩ := hi
  obtain ⟨b, gp, gr⟩ := hg
  obtain ⟨u, tp, tr⟩ := ht
  obtain ⟨w, ep, er⟩ := he
  exact ⟨_, fun i => pe_lc (hc i) (hN i) (ip i) (ok i) (fun s H C cl fp => gp (i, s, H, C, cl, fp)) (fun s H C cl fp => tp (i, s, H, C, cl, fp)) (fun s H C cl fp => ep (i, s, H, C, cl, fp)) (hs i), rf_lc ir gr tr er⟩
theorem dDc (hc : ∀ i, (X i).calm = true) (hN : ∀ i, (X i).N.Nodup) (hi : DI X x tg iter fi) (ok : ∀ i, BlkOk (X i).N (X i).env.scope scope own) (hg : DG (blkF X scope) x (outP (own.map (·.2))) tg g) (ht : DTs (blkF X scope) x ifs t) (hk : DE (blkF X scope) x kx fk) (hv : DE (blkF X scope) x vx fv)
    (hs : ∀ i y, foldedSetIterable iter (X i).env y = pure y := by intro _ _; rfl) : DN X x (.DictComp kx vx [⟨tg, iter, ifs, 0⟩] scope pos) (fDc (own.map (·.2)) fi g t fk fv) := by
  obtain ⟨a, ip, ir⟩ := hi
  obtain ⟨b, gp, gr⟩ := hg
  obtain ⟨u, tp, tr⟩ := ht
  obtain ⟨w, kp, kr⟩ := hk
  obtain ⟨w2, vp, vr⟩ := hv
  exact ⟨_, fun i => pe_dc (hc i) (hN i) (ip i) (ok i) (fun s H C cl fp => gp (i, s, H, C, cl, fp)) (fun s H C cl fp => tp (i, s, H, C, cl, fp)) (fun s H C cl fp => kp (i, s, H, C, cl, fp)) (fun s H C cl fp => vp (i, s, H, C, cl, fp)) (hs i), rf_dc ir gr tr kr vr⟩
/-- y = [..] -/
theorem sSetLcN {P : Prt} (k : Nat) {y : Str} {py spos : Pos} (hP : P k = false) (hc : ∀ i, (X i).calm = true) (hN : ∀ i, (X i).N.Nodup) (hy : ∀ i, (X i).N[k]? = some y) (hyl : ∀ i, (X i).env.scope.names.lookup y = some .local)
    (hsw : ∀ i, swapsWith (.ListComp elt [⟨tg, iter, ifs, 0⟩] scope pos) (some (.Name y py)) spos.line (X i).env = pure true) (hi : DI X x tg iter fi) (ok : ∀ i, BlkOk (X i).N (X i).env.scope scope own) (hg : DG (blkF X scope) x (outP (own.map (·.2))) tg g) (ht : DTs (blkF X scope) x ifs t) (he : DE (blkF X scope) x elt f)
    (hs : ∀ i y, foldedSetIterable iter (X i).env y = pure y := by intro _ _; rfl) : DS X x P (.Assign [.Name y py] (.ListComp elt [⟨tg, iter, ifs, 0⟩] scope pos) spos) (fSetN k (fLc (own.map (·.2)) fi g t f)) := by
  obtain ⟨a, ip, ir⟩ := hi
  obtain ⟨b, gp, gr⟩ := hg
  obtain ⟨u, tp, tr⟩ := ht
  obtain ⟨w, ep, er⟩ := he
  refine ⟨_, fun i => ps_setLc (hc i) (hN i) (hy i) (hyl i) (hsw i) (ip i) (ok i) (fun s H C cl fp => gp (i, s, H, C, cl, fp)) (fun s H C cl fp => tp (i, s, H, C, cl, fp)) (fun s H C cl fp => ep (i, s, H, C, cl, fp)) (hs i), fun F H env σ D out s q kk => ?_⟩
  unfold fSetN at q
  obtain ⟨p, q1, q⟩ := Option.map_eq_some_iff.mp q
  cases q
  refine rf_lc ir gr tr er F H env σ _ p.1 p.2 s q1 fun F' H' a st s' n n' no r => ?_
  obtain ⟨s2, st2⟩ := s'.putN st k n n' no r
  exact kk F' H' _ st2 s2 (keep_set hP)
theorem sSetLc {P : Prt} (k : Nat) {y : Str} {py spos : Pos} (hP : P k = false) (hc : ∀ i, (X i).calm = true) (hN : ∀ i, (X i).N.Nodup) (hy : ∀ i, (X i).N[k]? = some y) (hyl : ∀ i, (X i).env.scope.names.lookup y = some .local)
    (hsw : ∀ i, swapsWith (.ListComp elt [⟨tg, iter, ifs, 0⟩] scope pos) (some (.Name y py)) spos.line (X i).env = pure true) (hi : DI X x tg iter fi) (ok : ∀ i, BlkOk (X i).N (X i).env.scope scope own) (hg : DG (blkF X scope) x (outP (own.map (·.2))) tg g) (ht : DTs (blkF X scope) x ifs t) (he : DE (blkF X scope) x elt f)
    (hs : ∀ i y, foldedSetIterable iter (X i).env y = pure y := by intro _ _; rfl) : DS X x P (.Assign [.Name y py] (.ListComp elt [⟨tg, iter, ifs, 0⟩] scope pos) spos) (fSet k (fLc (own.map (·.2)) fi g t f)) := by
  obtain ⟨a, ip, ir⟩ := hi
  obtain ⟨b, gp, gr⟩ := hg
  obtain ⟨u, tp, tr⟩ := ht
  obtain ⟨w, ep, er⟩ := he
  refine ⟨_, fun i => ps_setLc (hc i) (hN i) (hy i) (hyl i) (hsw i) (ip i) (ok i) (fun s H C cl fp => gp (i, s, H, C, cl, fp)) (fun s H C cl fp => tp (i, s, H, C, cl, fp)) (fun s H C cl fp => ep (i, s, H, C, cl, fp)) (hs i), fun F H env σ D out s q kk => ?_⟩
  unfold fSet at q
  obtain ⟨p, q1, q⟩ := Option.map_eq_some_iff.mp q
  cases q
  refine rf_lc ir gr tr er F H env σ _ p.1 p.2 s q1 fun F' H' a st s' n n' no ro => ?_
  obtain ⟨o, ho, rf⟩ := ro.freeze n'
  have s2 := s'.fro n' ho no
  obtain ⟨s3, st3⟩ := s2.put k rf
  refine kk (upd F' a o) H' _ (Step.trans ⟨fun b u e => Same.upd n' b u (st.fro b u e), fun b u e f no' => ?_, st.tr, st.ow⟩ st3) s3 (keep_set hP)
  obtain ⟨h1, h2⟩ := st.kp b u e f no'
  refine ⟨h1, ?_⟩
  rw [upd_ne (fun z => by rw [z, n] at e; cases e)]
  exact h2
end
end Vd

end

section
set_option Elab.async false
set_option linter.all false
set_option maxRecDepth 100000
set_option maxHeartbeats 2000000
/-! Lg0: enumerate over a tuple, over a zip of two lists, at the library's level. -/
namespace Vd0
open PySem PySem.Spec PyProof.Rows L2

/-- a zip in any state between two turns -/
abbrev IsZipF (h : Heap) (z TI TO : Addr) (f0 : Value) (f : Bool) : Prop :=
  h.get? z = some { cls := .type "zip", dict := none, data := .fields #[f0, .bool f, .bool false, .ref TI, .ref TO], slots := #[] }
section
variable {prog : Program} {w : World} {A : Around} {E : Value → Shared → Prop} {s : Shared}
theorem alive_any {a : Addr} {Q : Option Obj → Shared → Prop} (h : Q (s.heap.get? a) s) : wpAny (model prog w) A (loadIfAlive a) Q E s := fun _ _ _ => h
/-- free or held -/
theorem zip_held_any {z TI TO : Addr} {f0 : Value} {f : Bool} {Q : Bool → Shared → Prop} (hz : IsZipF s.heap z TI TO f0 f) (h0 : f0 = .none ∨ ∃ T : Addr, f0 = rawInt T)
    (hfree : Q true s) (hheld : ∀ h' f', IsZipF h' z TI TO f0 f' → Heap.SameBut z s.heap h' → Q false { s with heap := h' }) : wpAny (model prog w) A (Builtin.SmallTypes.ownedTupleIsFree (.ref z)) Q E s := by
  unfold Builtin.SmallTypes.ownedTupleIsFree
  refine wpAny_bind (wpAny_field hz rfl (x := f0) rfl ?_)
  rcases h0 with rfl | ⟨T, rfl⟩
  · exact wpAny_pure hfree
  · show wpAny _ _ (loadIfAlive ((T : Int).toNat) >>= _) _ _ _
    rw [Int.toNat_natCast]
    refine wpAny_bind (alive_any ?_)
    cases hT : s.heap.get? T with
    | none =>
      simp only [Option.isNone_none, if_true]
      exact wpAny_pure hfree
    | some oT =>
      simp only [Option.isNone_some, Bool.false_eq_true, if_false]
      refine wpAny_bind (wpAny_field hz rfl (x := .bool f) rfl ?_)
      cases f with
      | true =>
        rw [if_neg (show ¬ ((Value.bool true != Value.bool true) = true) from Bool.false_ne_true)]
        exact wpAny_pure (hheld s.heap true hz (Heap.SameBut.refl _ _))
      | false =>
        rw [if_pos (show (Value.bool false != Value.bool true) = true from rfl)]
        exact wpAny_bind (wpAny_setField_rec hz (by simp) fun h₁ hz₁ hs₁ => wpAny_pure (hheld h₁ true hz₁ hs₁))

theorem zip_next_any {z TI TO i1 i2 l1 l2 : Addr} {f0 : Value} {f : Bool} {k1 k2 : Nat} {xs ys : Array Value} {x y a b : Value} {Q : Value → Shared → Prop} (D : ZipApart z TI TO i1 i2 l1 l2)
    (hz : IsZipF s.heap z TI TO f0 f) (h0 : f0 = .none ∨ ∃ T : Addr, f0 = rawInt T) (hTI : IsPair s.heap TI (.ref i1) (.ref i2)) (hTO : IsPair s.heap TO a b)
    (h1 : s.heap.IsListIter i1 l1 k1) (h2 : s.heap.IsListIter i2 l2 k2) (hl1 : s.heap.IsList l1 xs) (hl2 : s.heap.IsList l2 ys) (hx : xs[k1]? = some x) (hy : ys[k2]? = some y)
    (hQ : ∀ h' f0' f' a' b', IsZipF h' z TI TO f0' f' → (f0' = .none ∨ ∃ T : Addr, f0' = rawInt T) → IsPair h' TO a' b' → h'.IsListIter i1 l1 (k1 + 1) → h'.IsListIter i2 l2 (k2 + 1) → IsPair h' s.heap.objs.size x y → h'.objs.size = s.heap.objs.size + 1 →
      (∀ c o, c ≠ z → c ≠ TO → c ≠ i1 → c ≠ i2 → s.heap.get? c = some o → h'.get? c = some o) → Q (.ref s.heap.objs.size) { s with heap := h' }) :
    wpAny (model prog w) A (Builtin.«zip.__next__» ⟨[.ref z], []⟩) (fun fin s' => ∃ v, fin = .done (.ret v) ∧ Q v s') E s := by
  show wpAny _ _ (field (.ref z) 2 >>= _) _ _ _
  refine wpAny_bind (wpAny_field hz rfl (x := .bool false) rfl ?_)
  show wpAny _ _ (field (.ref z) 3 >>= _) _ _ _
  refine wpAny_bind (wpAny_field hz rfl (x := .ref TI) rfl ?_)
  refine wpAny_bind (wpAny_seqItems hTI rfl ?_)
  show wpAny _ _ (Builtin.SmallTypes.ownedTupleIsFree (.ref z) >>= _) _ _ _
  refine wpAny_bind (zip_held_any hz h0 ?_ ?_)
  · -- free
    simp only [if_true]
    refine wpAny_bind (wpAny_rule ?_)
    refine wpAny_bind (wpAny_field hz rfl (x := .ref TO) rfl ?_)
    refine wpAny_bind (wpAny_setField_rec hz (by simp) fun h₁ hz₁ hs₁ => ?_)
    replace hz₁ : IsZipF h₁ z TI TO .ellipsis f := hz₁
    refine wpAny_bind ?_
    simp only [List.zipIdx_cons, List.zipIdx_nil, List.forIn_cons, List.forIn_nil]
    refine wpAny_bind (wpAny_bind (wpAny_onRaise ?_))
    show wpAny _ _ (Builtin.SmallTypes.nextOf (.ref i1) >>= _) _ _ _
    refine wpAny_bind (wpAny_nextOf_list_item (h1.extBut hs₁.extBut D.i1z) (hl1.extBut hs₁.extBut D.l1z) hx fun h₂ h1₂ hs₂ => wpAny_pure ?_)
    have hTO₂ : IsPair h₂ TO a b := hs₂.extBut _ _ D.TOi1 (hs₁.extBut _ _ D.TOz hTO)
    refine wpAny_bind (wpAny_seqItems hTO₂ rfl ?_)
    refine wpAny_bind (wpAny_updateSeq_pair hTO₂ fun h₃ hTO₃ hs₃ => ?_)
    replace hTO₃ : IsPair h₃ TO x b := hTO₃
    refine wpAny_bind (wpAny_letGo (wpAny_pure ?_))
    refine wpAny_bind (wpAny_bind (wpAny_onRaise ?_))
    show wpAny _ _ (Builtin.SmallTypes.nextOf (.ref i2) >>= _) _ _ _
    refine wpAny_bind (wpAny_nextOf_list_item (((h2.extBut hs₁.extBut D.i2z).extBut hs₂.extBut D.i12.symm).extBut hs₃.extBut D.TOi2.symm)
      (((hl2.extBut hs₁.extBut D.l2z).extBut hs₂.extBut D.l2i1).extBut hs₃.extBut D.l2TO) hy fun h₄ h2₄ hs₄ => wpAny_pure ?_)
    have hTO₄ : IsPair h₄ TO x b := hs₄.extBut _ _ D.TOi2 hTO₃
    refine wpAny_bind (wpAny_seqItems hTO₄ rfl ?_)
    refine wpAny_bind (wpAny_updateSeq_pair hTO₄ fun h₅ hTO₅ hs₅ => ?_)
    replace hTO₅ : IsPair h₅ TO x y := hTO₅
    refine wpAny_bind (wpAny_letGo (wpAny_pure (wpAny_pure ?_)))
    refine wpAny_bind (wpAny_seqItems hTO₅ rfl ?_)
    refine wpAny_bind (wpAny_newTuple ?_)
    have hsz : h₅.objs.size = s.heap.objs.size := by rw [hs₅.1, hs₄.1, hs₃.1, hs₂.1, hs₁.1]
    have hz₅ : IsZipF h₅ z TI TO .ellipsis f := hs₅.extBut _ _ D.TOz.symm (hs₄.extBut _ _ D.i2z.symm (hs₃.extBut _ _ D.TOz.symm (hs₂.extBut _ _ D.i1z.symm hz₁)))
    have hk₅ : ∀ c o, c ≠ z → c ≠ TO → c ≠ i1 → c ≠ i2 → s.heap.get? c = some o → h₅.get? c = some o := fun c o c1 c2 c3 c4 e =>
      hs₅.extBut _ _ c2 (hs₄.extBut _ _ c4 (hs₃.extBut _ _ c2 (hs₂.extBut _ _ c3 (hs₁.extBut _ _ c1 e))))
    have h1₅ : h₅.IsListIter i1 l1 (k1 + 1) := ((h1₂.extBut hs₃.extBut D.TOi1.symm).extBut hs₄.extBut D.i12).extBut hs₅.extBut D.TOi1.symm
    have h2₅ : h₅.IsListIter i2 l2 (k2 + 1) := h2₄.extBut hs₅.extBut D.TOi2.symm
    have hzlt : z < h₅.objs.size := Heap.lt_size hz₅
    show wpAny _ _ (Builtin.SmallTypes.ownedTupleHandOut (.ref z) (.ref h₅.objs.size) >>= _) _ _ _
    refine wpAny_bind ?_
    unfold Builtin.SmallTypes.ownedTupleHandOut
    have hz₆ : IsZipF (h₅.push { cls := .type "tuple", data := .seq #[x, y] }) z TI TO .ellipsis f := Heap.get?_push_of_some _ hz₅
    refine wpAny_bind (wpAny_setField_rec hz₆ (by simp) fun h₇ hz₇ hs₇ => ?_)
    replace hz₇ : IsZipF h₇ z TI TO (rawInt h₅.objs.size) f := hz₇
    refine wpAny_setField_rec hz₇ (by simp) fun h₈ hz₈ hs₈ => ?_
    replace hz₈ : IsZipF h₈ z TI TO (rawInt h₅.objs.size) false := hz₈
    have up : ∀ c o, c ≠ z → h₅.get? c = some o → h₈.get? c = some o := fun c o c1 e => hs₈.extBut _ _ c1 (hs₇.extBut _ _ c1 (Heap.get?_push_of_some _ e))
    have hT₈ : IsPair h₈ h₅.objs.size x y := hs₈.extBut _ _ (Nat.ne_of_gt hzlt) (hs₇.extBut _ _ (Nat.ne_of_gt hzlt) (Heap.get?_push_size _ rfl))
    have hz8 : h₈.objs.size = h₅.objs.size + 1 := by rw [hs₈.1, hs₇.1, Heap.size_push]
    rw [hsz] at hz₈ hT₈ hz8
    refine wpAny_pure ⟨_, rfl, ?_⟩
    show Q (.ref h₅.objs.size) _
    rw [hsz]
    exact hQ h₈ _ _ _ _ hz₈ (.inr ⟨_, rfl⟩) (up _ _ D.TOz hTO₅) (h1₅.at fun o e => up _ o D.i1z e) (h2₅.at fun o e => up _ o D.i2z e) hT₈ hz8 fun c o c1 c2 c3 c4 e => up c o c1 (hk₅ c o c1 c2 c3 c4 e)
  · -- held
    intro h₁ f₁ hz₁ hs₁
    simp only [Bool.false_eq_true, if_false]
    refine wpAny_bind ?_
    rw [← Array.forIn_toList]
    simp only [List.forIn_cons, List.forIn_nil]
    refine wpAny_bind (wpAny_bind (wpAny_holding ?_))
    show wpAny _ _ (Builtin.SmallTypes.nextOf (.ref i1) >>= _) _ _ _
    refine wpAny_bind (wpAny_nextOf_list_item (s := { s with heap := h₁ }) (h1.extBut hs₁.extBut D.i1z) (hl1.extBut hs₁.extBut D.l1z) hx fun h₂ h1₂ hs₂ => wpAny_pure ?_)
    refine wpAny_pure ?_
    refine wpAny_bind (wpAny_bind (wpAny_holding ?_))
    show wpAny _ _ (Builtin.SmallTypes.nextOf (.ref i2) >>= _) _ _ _
    refine wpAny_bind (wpAny_nextOf_list_item (s := { s with heap := h₂ }) ((h2.extBut hs₁.extBut D.i2z).extBut hs₂.extBut D.i12.symm) ((hl2.extBut hs₁.extBut D.l2z).extBut hs₂.extBut D.l2i1) hy fun h₃ h2₃ hs₃ => wpAny_pure ?_)
    refine wpAny_pure (wpAny_pure ?_)
    show wpAny _ _ (newTuple [x, y] >>= _) _ _ _
    refine wpAny_bind (wpAny_newTuple ?_)
    have hsz : h₃.objs.size = s.heap.objs.size := by rw [hs₃.1, hs₂.1, hs₁.1]
    have hz₃ : IsZipF h₃ z TI TO f0 f₁ := hs₃.extBut _ _ D.i2z.symm (hs₂.extBut _ _ D.i1z.symm hz₁)
    have hk : ∀ c o, c ≠ z → c ≠ i1 → c ≠ i2 → s.heap.get? c = some o → h₃.get? c = some o := fun c o c1 c2 c3 e => hs₃.extBut _ _ c3 (hs₂.extBut _ _ c2 (hs₁.extBut _ _ c1 e))
    have h1₃ : h₃.IsListIter i1 l1 (k1 + 1) := h1₂.extBut hs₃.extBut D.i12
    have hTO₃ : IsPair h₃ TO a b := hk _ _ D.TOz D.TOi1 D.TOi2 hTO
    refine wpAny_pure ⟨_, rfl, ?_⟩
    show Q (.ref h₃.objs.size) _
    have hp : IsPair (h₃.push { cls := .type "tuple", data := .seq #[x, y] }) h₃.objs.size x y := Heap.get?_push_size _ rfl
    have hz4 : (h₃.push { cls := .type "tuple", data := .seq #[x, y] }).objs.size = h₃.objs.size + 1 := Heap.size_push ..
    rw [hsz] at hp hz4 ⊢
    exact hQ _ _ _ _ _ (Heap.get?_push_of_some _ hz₃) h0 (Heap.get?_push_of_some _ hTO₃) (h1₃.at fun o e => Heap.get?_push_of_some _ e) (h2₃.at fun o e => Heap.get?_push_of_some _ e) hp hz4 fun c o c1 c2 c3 c4 e => Heap.get?_push_of_some _ (hk c o c1 c3 c4 e)

theorem zip_end_any {z TI TO i1 i2 l1 l2 : Addr} {f0 : Value} {f : Bool} {k1 k2 : Nat} {xs ys : Array Value} {a b : Value} {Q : Fin → Shared → Prop} (hh : A.handled = none) (D : ZipApart z TI TO i1 i2 l1 l2)
    (hz : IsZipF s.heap z TI TO f0 f) (h0 : f0 = .none ∨ ∃ T : Addr, f0 = rawInt T) (hTI : IsPair s.heap TI (.ref i1) (.ref i2)) (hTO : IsPair s.heap TO a b)
    (h1 : s.heap.IsListIter i1 l1 k1) (h2 : s.heap.IsListIter i2 l2 k2) (hl1 : s.heap.IsList l1 xs) (hl2 : s.heap.IsList l2 ys) (hend : xs[k1]? = none ∨ ys[k2]? = none)
    (hE : ∀ h' e, (∀ c o, c ≠ z → c ≠ TO → c ≠ i1 → c ≠ i2 → s.heap.get? c = some o → h'.get? c = some o) → (∃ o, h'.get? e = some o ∧ o.cls = .type "StopIteration") → E (.ref e) { s with heap := h' }) :
    wpAny (model prog w) A (Builtin.«zip.__next__» ⟨[.ref z], []⟩) Q E s := by
  show wpAny _ _ (field (.ref z) 2 >>= _) _ _ _
  refine wpAny_bind (wpAny_field hz rfl (x := .bool false) rfl ?_)
  show wpAny _ _ (field (.ref z) 3 >>= _) _ _ _
  refine wpAny_bind (wpAny_field hz rfl (x := .ref TI) rfl ?_)
  refine wpAny_bind (wpAny_seqItems hTI rfl ?_)
  show wpAny _ _ (Builtin.SmallTypes.ownedTupleIsFree (.ref z) >>= _) _ _ _
  refine wpAny_bind (zip_held_any hz h0 ?_ ?_)
  · simp only [if_true]
    refine wpAny_bind (wpAny_rule ?_)
    refine wpAny_bind (wpAny_field hz rfl (x := .ref TO) rfl ?_)
    refine wpAny_bind (wpAny_setField_rec hz (by simp) fun h₁ hz₁ hs₁ => ?_)
    replace hz₁ : IsZipF h₁ z TI TO .ellipsis f := hz₁
    refine wpAny_bind ?_
    simp only [List.zipIdx_cons, List.zipIdx_nil, List.forIn_cons, List.forIn_nil]
    refine wpAny_bind (wpAny_bind (wpAny_onRaise ?_))
    show wpAny _ _ (Builtin.SmallTypes.nextOf (.ref i1) >>= _) _ _ _
    cases hx : xs[k1]? with
    | none =>
      refine wpAny_bind (wpAny_nextOf_list_end hh (h1.extBut hs₁.extBut D.i1z) (hl1.extBut hs₁.extBut D.l1z) hx fun h₂ e hs₂ he => ?_)
      obtain ⟨oe, hoe, hce⟩ := he
      have hz₂ : IsZipF h₂ z TI TO .ellipsis f := hs₂ _ _ D.i1z.symm hz₁
      have hez : e ≠ z := fun x => by subst x; rw [hz₂] at hoe; cases hoe; simp at hce
      refine wpAny_setField_rec hz₂ (by simp) fun h₃ _ hs₃ => hE h₃ e (fun c o c1 _ c3 _ x => hs₃.extBut _ _ c1 (hs₂ _ _ c3 (hs₁.extBut _ _ c1 x))) ⟨oe, hs₃.extBut _ _ hez hoe, hce⟩
    | some x =>
      have hy : ys[k2]? = none := by rcases hend with h | h; rw [hx] at h; cases h; exact h
      refine wpAny_bind (wpAny_nextOf_list_item (h1.extBut hs₁.extBut D.i1z) (hl1.extBut hs₁.extBut D.l1z) hx fun h₂ h1₂ hs₂ => wpAny_pure ?_)
      have hTO₂ : IsPair h₂ TO a b := hs₂.extBut _ _ D.TOi1 (hs₁.extBut _ _ D.TOz hTO)
      refine wpAny_bind (wpAny_seqItems hTO₂ rfl ?_)
      refine wpAny_bind (wpAny_updateSeq_pair hTO₂ fun h₃ hTO₃ hs₃ => ?_)
      refine wpAny_bind (wpAny_letGo (wpAny_pure ?_))
      refine wpAny_bind (wpAny_bind (wpAny_onRaise ?_))
      show wpAny _ _ (Builtin.SmallTypes.nextOf (.ref i2) >>= _) _ _ _
      refine wpAny_bind (wpAny_nextOf_list_end hh (((h2.extBut hs₁.extBut D.i2z).extBut hs₂.extBut D.i12.symm).extBut hs₃.extBut D.TOi2.symm)
        (((hl2.extBut hs₁.extBut D.l2z).extBut hs₂.extBut D.l2i1).extBut hs₃.extBut D.l2TO) hy fun h₄ e hs₄ he => ?_)
      obtain ⟨oe, hoe, hce⟩ := he
      have hz₄ : IsZipF h₄ z TI TO .ellipsis f := hs₄ _ _ D.i2z.symm (hs₃.extBut _ _ D.TOz.symm (hs₂.extBut _ _ D.i1z.symm hz₁))
      have hez : e ≠ z := fun x => by subst x; rw [hz₄] at hoe; cases hoe; simp at hce
      refine wpAny_setField_rec hz₄ (by simp) fun h₅ _ hs₅ => hE h₅ e (fun c o c1 c2 c3 c4 x => hs₅.extBut _ _ c1 (hs₄ _ _ c4 (hs₃.extBut _ _ c2 (hs₂.extBut _ _ c3 (hs₁.extBut _ _ c1 x))))) ⟨oe, hs₅.extBut _ _ hez hoe, hce⟩
  · intro h₁ f₁ hz₁ hs₁
    simp only [Bool.false_eq_true, if_false]
    refine wpAny_bind ?_
    rw [← Array.forIn_toList]
    simp only [List.forIn_cons, List.forIn_nil]
    refine wpAny_bind (wpAny_bind (wpAny_holding ?_))
    show wpAny _ _ (Builtin.SmallTypes.nextOf (.ref i1) >>= _) _ _ _
    cases hx : xs[k1]? with
    | none =>
      refine wpAny_bind (wpAny_nextOf_list_end (s := { s with heap := h₁ }) hh (h1.extBut hs₁.extBut D.i1z) (hl1.extBut hs₁.extBut D.l1z) hx fun h₂ e hs₂ he => ?_)
      exact hE h₂ e (fun c o c1 _ c2 _ x => hs₂ _ _ c2 (hs₁.extBut _ _ c1 x)) he
    | some x =>
      have hy : ys[k2]? = none := by rcases hend with h | h; rw [hx] at h; cases h; exact h
      refine wpAny_bind (wpAny_nextOf_list_item (s := { s with heap := h₁ }) (h1.extBut hs₁.extBut D.i1z) (hl1.extBut hs₁.extBut D.l1z) hx fun h₂ h1₂ hs₂ => wpAny_pure ?_)
      refine wpAny_pure ?_
      refine wpAny_bind (wpAny_bind (wpAny_holding ?_))
      show wpAny _ _ (Builtin.SmallTypes.nextOf (.ref i2) >>= _) _ _ _
      refine wpAny_bind (wpAny_nextOf_list_end (s := { s with heap := h₂ }) hh ((h2.extBut hs₁.extBut D.i2z).extBut hs₂.extBut D.i12.symm) ((hl2.extBut hs₁.extBut D.l2z).extBut hs₂.extBut D.l2i1) hy fun h₃ e hs₃ he => ?_)
      exact hE h₃ e (fun c o c1 _ c2 c3 x => hs₃ _ _ c3 (hs₂.extBut _ _ c2 (hs₁.extBut _ _ c1 x))) he
/-- the next pair of a zip, as an iterator within another -/
theorem nextOf_zip {z TI TO i1 i2 l1 l2 : Addr} {f0 : Value} {f : Bool} {k1 k2 : Nat} {xs ys : Array Value} {x y a b : Value} {Q : Value → Shared → Prop} (D : ZipApart z TI TO i1 i2 l1 l2)
    (hz : IsZipF s.heap z TI TO f0 f) (h0 : f0 = .none ∨ ∃ T : Addr, f0 = rawInt T) (hTI : IsPair s.heap TI (.ref i1) (.ref i2)) (hTO : IsPair s.heap TO a b)
    (h1 : s.heap.IsListIter i1 l1 k1) (h2 : s.heap.IsListIter i2 l2 k2) (hl1 : s.heap.IsList l1 xs) (hl2 : s.heap.IsList l2 ys) (hx : xs[k1]? = some x) (hy : ys[k2]? = some y)
    (hQ : ∀ h' f0' f' a' b', IsZipF h' z TI TO f0' f' → (f0' = .none ∨ ∃ T : Addr, f0' = rawInt T) → IsPair h' TO a' b' → h'.IsListIter i1 l1 (k1 + 1) → h'.IsListIter i2 l2 (k2 + 1) → IsPair h' s.heap.objs.size x y → h'.objs.size = s.heap.objs.size + 1 →
      (∀ c o, c ≠ z → c ≠ TO → c ≠ i1 → c ≠ i2 → s.heap.get? c = some o → h'.get? c = some o) → Q (.ref s.heap.objs.size) { s with heap := h' }) :
    wpAny (model prog w) A (Builtin.SmallTypes.nextOf (.ref z)) Q E s := by
  have hT : s.TypeIs (.ref z) "zip" := ⟨_, hz, rfl⟩
  unfold Builtin.SmallTypes.nextOf
  exact wpAny_bind (wpAny_callSpecial?_slot (name := Str.ofString "__next__") hT F.slot_zip_next
    (wpAny_call_entry F.slot_zip_next hT F.entry_zip_next (zip_next_any D hz h0 hTI hTO h1 h2 hl1 hl2 hx hy fun h' a1 a2 a3 a4 a5 a6 a7 a8 a9 b1 b2 b3 => wpAny_pure (hQ h' a1 a2 a3 a4 a5 a6 a7 a8 a9 b1 b2 b3)) (F.args_zip_next_1 _)))
/-- the end of a zip, as an iterator within another -/
theorem nextOf_zip_end {z TI TO i1 i2 l1 l2 : Addr} {f0 : Value} {f : Bool} {k1 k2 : Nat} {xs ys : Array Value} {a b : Value} {Q : Value → Shared → Prop} (hh : A.handled = none) (D : ZipApart z TI TO i1 i2 l1 l2)
    (hz : IsZipF s.heap z TI TO f0 f) (h0 : f0 = .none ∨ ∃ T : Addr, f0 = rawInt T) (hTI : IsPair s.heap TI (.ref i1) (.ref i2)) (hTO : IsPair s.heap TO a b)
    (h1 : s.heap.IsListIter i1 l1 k1) (h2 : s.heap.IsListIter i2 l2 k2) (hl1 : s.heap.IsList l1 xs) (hl2 : s.heap.IsList l2 ys) (hend : xs[k1]? = none ∨ ys[k2]? = none)
    (hE : ∀ h' e, (∀ c o, c ≠ z → c ≠ TO → c ≠ i1 → c ≠ i2 → s.heap.get? c = some o → h'.get? c = some o) → (∃ o, h'.get? e = some o ∧ o.cls = .type "StopIteration") → E (.ref e) { s with heap := h' }) :
    wpAny (model prog w) A (Builtin.SmallTypes.nextOf (.ref z)) Q E s := by
  have hT : s.TypeIs (.ref z) "zip" := ⟨_, hz, rfl⟩
  unfold Builtin.SmallTypes.nextOf
  exact wpAny_bind (wpAny_callSpecial?_slot (name := Str.ofString "__next__") hT F.slot_zip_next
    (wpAny_call_entry F.slot_zip_next hT F.entry_zip_next (zip_end_any hh D hz h0 hTI hTO h1 h2 hl1 hl2 hend hE) (F.args_zip_next_1 _)))

/-! ### enumerate over an iterator told by its next -/
theorem enum_next_gen {e it : Addr} {c : Int} {old : Value} {Q : Value → Shared → Prop} {R : Value → Heap → Nat → Prop} (he : IsEnum s.heap e it c old)
    (hn : ∀ (Q' : Value → Shared → Prop), (∀ x h' tk, R x h' tk → IsEnum h' e it c old → s.heap.objs.size ≤ h'.objs.size → Q' x { s with heap := h', toks := tk }) → wpAny (model prog w) A (Builtin.SmallTypes.nextOf (.ref it)) Q' E s)
    (hQ : ∀ x h1 tk h', R x h1 tk → IsEnumOut h' e it (c + 1) x h1.objs.size → h'.get? h1.objs.size = some { cls := .type "tuple", data := .seq #[.int c tk, x] } → h'.objs.size = h1.objs.size + 1 → s.heap.objs.size ≤ h1.objs.size →
      (∀ b o, b ≠ e → h1.get? b = some o → h'.get? b = some o) → Q (.ref h1.objs.size) { s with heap := h', toks := tk + 1 }) :
    wpAny (model prog w) A (Builtin.«enumerate.__next__» ⟨[.ref e], []⟩) (fun fin s' => ∃ v, fin = .done (.ret v) ∧ Q v s') E s := by
  obtain ⟨hp, g, d, tk₀, os⟩ := s
  show wpAny _ _ (field (.ref e) 2 >>= _) _ _ _
  refine wpAny_bind (wpAny_field he rfl (x := .ref it) rfl ?_)
  refine wpAny_bind (hn _ fun x h₁ tk hR he₁ hge => ?_)
  show wpAny _ _ (field (.ref e) 3 >>= _) _ _ ⟨h₁, g, d, tk, os⟩
  refine wpAny_bind (wpAny_field he₁ rfl (x := rawInt c) rfl ?_)
  show wpAny _ _ (field (.ref e) 4 >>= _) _ _ ⟨h₁, g, d, tk, os⟩
  refine wpAny_bind (wpAny_field he₁ rfl (x := .none) rfl ?_)
  show wpAny _ _ (mkInt c >>= _) _ _ ⟨h₁, g, d, tk, os⟩
  refine wpAny_bind (wpAny_mkInt ?_)
  show wpAny _ _ (setField (.ref e) 3 (rawInt (c + 1)) >>= _) _ _ ⟨h₁, g, d, tk + 1, os⟩
  refine wpAny_bind (wpAny_setField_rec he₁ (by simp) fun h₂ he₂ hs₂ => ?_)
  replace hs₂ : Heap.SameBut e h₁ h₂ := hs₂
  replace he₂ : IsEnum h₂ e it (c + 1) old := he₂
  show wpAny _ _ (setField (.ref e) 4 .none >>= _) _ _ ⟨h₂, g, d, tk + 1, os⟩
  refine wpAny_bind (wpAny_setField_rec he₂ (by simp) fun h₃ he₃ hs₃ => ?_)
  replace hs₃ : Heap.SameBut e h₂ h₃ := hs₃
  replace he₃ : IsEnum h₃ e it (c + 1) old := he₃
  show wpAny _ _ (newTuple [.int c tk, x] >>= _) _ _ ⟨h₃, g, d, tk + 1, os⟩
  refine wpAny_bind (wpAny_newTuple ?_)
  have he₄ : IsEnum (h₃.push { cls := .type "tuple", data := .seq #[.int c tk, x] }) e it (c + 1) old := Heap.get?_push_of_some _ he₃
  generalize hh₄ : h₃.push { cls := .type "tuple", data := .seq #[.int c tk, x] } = h₄ at he₄
  have hsz : h₃.objs.size = h₁.objs.size := by rw [hs₃.1, hs₂.1]
  have hel : e < h₁.objs.size := Heap.lt_size he₁
  have ht₄ : h₄.get? h₁.objs.size = some { cls := .type "tuple", data := .seq #[.int c tk, x] } := by rw [← hh₄, ← hsz]; exact Heap.get?_push_size _ rfl
  have hz₄ : h₄.objs.size = h₁.objs.size + 1 := by rw [← hh₄, Heap.size_push, hsz]
  have hk₄ : ∀ b o, b ≠ e → h₁.get? b = some o → h₄.get? b = some o := fun b o hbe hb => by
    rw [← hh₄]; exact Heap.get?_push_of_some _ (hs₃.extBut b o hbe (hs₂.extBut b o hbe hb))
  show wpAny _ _ (Builtin.SmallTypes.ownedTupleIsFree (.ref e) >>= _) _ _ ⟨h₄, g, d, tk + 1, os⟩
  rw [hsz]
  clear hh₄ he₃ hs₃ he₂ hs₂ hsz h₃ h₂
  refine wpAny_bind ?_
  unfold Builtin.SmallTypes.ownedTupleIsFree
  refine wpAny_bind (wpAny_field he₄ rfl (x := .none) rfl (wpAny_pure ?_))
  simp only [if_true]
  refine wpAny_bind (wpAny_rule ?_)
  refine wpAny_bind (wpAny_field he₄ rfl (x := old) rfl ?_)
  refine wpAny_bind (wpAny_setField_rec he₄ (by simp) fun h₅ he₅ hs₅ => ?_)
  replace hs₅ : Heap.SameBut e h₄ h₅ := hs₅
  replace he₅ : IsEnum h₅ e it (c + 1) x := he₅
  show wpAny _ _ (Builtin.SmallTypes.ownedTupleHandOut (.ref e) (.ref h₁.objs.size) >>= _) _ _ ⟨h₅, g, d, tk + 1, os⟩
  refine wpAny_bind ?_
  unfold Builtin.SmallTypes.ownedTupleHandOut
  refine wpAny_bind (wpAny_setField_rec he₅ (by simp) fun h₆ he₆ hs₆ => ?_)
  replace hs₆ : Heap.SameBut e h₅ h₆ := hs₆
  replace he₆ : IsEnumOut h₆ e it (c + 1) x h₁.objs.size := he₆
  refine wpAny_setField_rec he₆ (by simp) fun h₇ he₇ hs₇ => ?_
  replace hs₇ : Heap.SameBut e h₆ h₇ := hs₇
  replace he₇ : IsEnumOut h₇ e it (c + 1) x h₁.objs.size := he₇
  refine wpAny_bind (wpAny_letGo (wpAny_pure ⟨_, rfl, hQ x h₁ tk h₇ hR he₇ ?_ ?_ hge ?_⟩))
  · exact hs₇.extBut _ _ (Nat.ne_of_gt hel) (hs₆.extBut _ _ (Nat.ne_of_gt hel) (hs₅.extBut _ _ (Nat.ne_of_gt hel) ht₄))
  · rw [hs₇.1, hs₆.1, hs₅.1, hz₄]
  · exact fun b o hbe hb => hs₇.extBut b o hbe (hs₆.extBut b o hbe (hs₅.extBut b o hbe (hk₄ b o hbe hb)))
theorem pyNext_enum_gen {e it : Addr} {c : Int} {old : Value} {Q : Option Value → Shared → Prop} {R : Value → Heap → Nat → Prop} (he : IsEnum s.heap e it c old)
    (hn : ∀ (E' : Value → Shared → Prop) (Q' : Value → Shared → Prop), (∀ x h' tk, R x h' tk → IsEnum h' e it c old → s.heap.objs.size ≤ h'.objs.size → Q' x { s with heap := h', toks := tk }) → wpAny (model prog w) A.in1 (Builtin.SmallTypes.nextOf (.ref it)) Q' E' s)
    (hQ : ∀ x h1 tk h', R x h1 tk → IsEnumOut h' e it (c + 1) x h1.objs.size → h'.get? h1.objs.size = some { cls := .type "tuple", data := .seq #[.int c tk, x] } → h'.objs.size = h1.objs.size + 1 → s.heap.objs.size ≤ h1.objs.size →
      (∀ b o, b ≠ e → h1.get? b = some o → h'.get? b = some o) → Q (some (.ref h1.objs.size)) { s with heap := h', toks := tk + 1 }) : wpAny (model prog w) A (pyNext (.ref e)) Q E s := by
  have hT : s.TypeIs (.ref e) "enumerate" := ⟨_, he, rfl⟩
  unfold pyNext
  exact wpAny_bind (wpAny_attempt (wpAny_callSpecial?_slot (name := Str.ofString "__next__") hT F.slot_enumerate_next
    (wpAny_call_entry F.slot_enumerate_next hT F.entry_enumerate_next
      (enum_next_gen he (hn _) fun x h1 tk h' a b c d k q => wpAny_pure (hQ x h1 tk h' a b c d k q)) (F.args_enumerate_next_1 _))))
theorem pyNext_enum_gen_end {e it : Addr} {c : Int} {old : Value} {Q : Option Value → Shared → Prop} {R : Heap → Prop} (he : IsEnum s.heap e it c old)
    (hn : ∀ (E' : Value → Shared → Prop) (Q' : Value → Shared → Prop), (∀ h' x, R h' → (∃ o, h'.get? x = some o ∧ o.cls = .type "StopIteration") → E' (.ref x) { s with heap := h' }) → wpAny (model prog w) A.in1 (Builtin.SmallTypes.nextOf (.ref it)) Q' E' s)
    (hQ : ∀ h', R h' → Q none { s with heap := h' }) : wpAny (model prog w) A (pyNext (.ref e)) Q E s := by
  have hT : s.TypeIs (.ref e) "enumerate" := ⟨_, he, rfl⟩
  unfold pyNext
  refine wpAny_bind (wpAny_attempt (wpAny_callSpecial?_slot (name := Str.ofString "__next__") hT F.slot_enumerate_next
    (wpAny_call_entry F.slot_enumerate_next hT F.entry_enumerate_next ?_ (F.args_enumerate_next_1 _))))
  show wpAny _ _ (field (.ref e) 2 >>= _) _ _ _
  refine wpAny_bind (wpAny_field he rfl (x := .ref it) rfl ?_)
  refine wpAny_bind (hn _ _ fun h' x hR hx' => ?_)
  obtain ⟨o, ho, hc⟩ := hx'
  refine wpAny_bind (wpAny_isInstance (T := "StopIteration") (b := true) ⟨o, ho, hc⟩ isSubtype_stop ?_)
  exact wpAny_pure (hQ _ hR)
end

/-! ### enumerate(v), its making -/
theorem meets_enum1 {v : Value} {o : Obj} {H : Heap → Prop} (B : Begins v o H) :
    Meets (Builtin.«enumerate.__new__» ⟨[.type "enumerate", v], []⟩) (fun _ R s => H s.heap ∧
      R (.ok (.ret (.ref (s.heap.push o).objs.size))) { s with heap := (s.heap.push o).push { cls := .type "enumerate", data := .fields #[.none, .bool false, .ref s.heap.objs.size, rawInt 0, .none, .none] } }) :=
  .of_wp fun prog w A R s h => by
    obtain ⟨hp, g, d, tk, os⟩ := s; obtain ⟨h1, h⟩ := h
    have hsub := sub_enumerate
    have q1 : ∀ {A' : Around} {E : Value → Shared → Prop} {Q : Value → Shared → Prop}, Q (.ref hp.objs.size) ⟨hp.push o, g, d, tk, os⟩ → wpAny (model prog w) A' (pyIter v) Q E ⟨hp, g, d, tk, os⟩ :=
      fun q => B.iter prog w _ _ ⟨hp, g, d, tk, os⟩ _ h1 q
    wp_walk using q1
    refine wpAny_stack_any fun st => wpAny_pure ?_
    split
    · rename_i c _ _ _ _ _
      cases (c == Value.type "enumerate")
      · wp_walk using q1
        exact ⟨_, rfl, h⟩
      · wp_walk using q1
        exact ⟨_, rfl, h⟩
    · wp_walk using q1
      exact ⟨_, rfl, h⟩
/-- the iterator itself -/
theorem meets_enum0 {it : Addr} {H : Heap → Prop} (B : ∀ (prog : Program) (w : World) (A : Around) (E : Value → Shared → Prop) (s : Shared) (Q : Value → Shared → Prop), H s.heap → Q (.ref it) s → wpAny (model prog w) A (pyIter (.ref it)) Q E s) :
    Meets (Builtin.«enumerate.__new__» ⟨[.type "enumerate", .ref it], []⟩) (fun _ R s => H s.heap ∧
      R (.ok (.ret (.ref s.heap.objs.size))) { s with heap := s.heap.push { cls := .type "enumerate", data := .fields #[.none, .bool false, .ref it, rawInt 0, .none, .none] } }) :=
  .of_wp fun prog w A R s h => by
    obtain ⟨hp, g, d, tk, os⟩ := s; obtain ⟨h1, h⟩ := h
    have hsub := sub_enumerate
    have q1 : ∀ {A' : Around} {E : Value → Shared → Prop} {Q : Value → Shared → Prop}, Q (.ref it) ⟨hp, g, d, tk, os⟩ → wpAny (model prog w) A' (pyIter (.ref it)) Q E ⟨hp, g, d, tk, os⟩ :=
      fun q => B prog w _ _ ⟨hp, g, d, tk, os⟩ _ h1 q
    wp_walk using q1
    refine wpAny_stack_any fun st => wpAny_pure ?_
    split
    · rename_i c _ _ _ _ _
      cases (c == Value.type "enumerate")
      · wp_walk using q1
        exact ⟨_, rfl, h⟩
      · wp_walk using q1
        exact ⟨_, rfl, h⟩
    · wp_walk using q1
      exact ⟨_, rfl, h⟩
section
variable {prog : Program} {w : World} {A : Around} {E : Value → Shared → Prop} {s : Shared}
theorem call_enum1 {v : Value} {o : Obj} {H : Heap → Prop} {Q : Value → Shared → Prop} (B : Begins v o H) (h1 : H s.heap)
    (h : ∀ h', IsEnum h' (s.heap.objs.size + 1) s.heap.objs.size 0 .none → h'.get? s.heap.objs.size = some o → h'.objs.size = s.heap.objs.size + 2 →
      (∀ b o, s.heap.get? b = some o → h'.get? b = some o) → Q (.ref (s.heap.objs.size + 1)) { s with heap := h' }) :
    wpAny (model prog w) A (call (.type "enumerate") [v]) Q E s := by
  refine callType_new F.called_enumerate (by decide) (F.typeCall_enumerate_1 _) (F.newCall_enumerate_1 _) (fun obj => F.args_object_init_2 obj _) F.entry_enumerate_new
    (meets_enum1 B) ⟨h1, ?_⟩
  have hz : (s.heap.push o).objs.size = s.heap.objs.size + 1 := Heap.size_push ..
  show _ ∧ _
  rw [hz]
  have he : IsEnum ((s.heap.push o).push { cls := .type "enumerate", data := .fields #[.none, .bool false, .ref s.heap.objs.size, rawInt 0, .none, .none] }) (s.heap.objs.size + 1) s.heap.objs.size 0 .none := by
    have := Heap.get?_push_size (s.heap.push o) (o := { cls := .type "enumerate", data := .fields #[.none, .bool false, .ref s.heap.objs.size, rawInt 0, .none, .none] }) rfl
    rw [hz] at this; exact this
  refine ⟨⟨_, he, rfl⟩, h _ he (Heap.get?_push_of_some _ (Heap.get?_push_size _ B.free)) (by rw [Heap.size_push, hz]) fun b o x => Heap.get?_push_of_some _ (Heap.get?_push_of_some _ x)⟩
theorem call_enum0 {it : Addr} {H : Heap → Prop} {Q : Value → Shared → Prop} (B : ∀ (prog : Program) (w : World) (A : Around) (E : Value → Shared → Prop) (s : Shared) (Q : Value → Shared → Prop), H s.heap → Q (.ref it) s → wpAny (model prog w) A (pyIter (.ref it)) Q E s) (h1 : H s.heap)
    (h : ∀ h', IsEnum h' s.heap.objs.size it 0 .none → h'.objs.size = s.heap.objs.size + 1 → (∀ b o, s.heap.get? b = some o → h'.get? b = some o) → Q (.ref s.heap.objs.size) { s with heap := h' }) :
    wpAny (model prog w) A (call (.type "enumerate") [.ref it]) Q E s := by
  refine callType_new F.called_enumerate (by decide) (F.typeCall_enumerate_1 _) (F.newCall_enumerate_1 _) (fun obj => F.args_object_init_2 obj _) F.entry_enumerate_new
    (meets_enum0 B) ⟨h1, ?_⟩
  have he : IsEnum (s.heap.push { cls := .type "enumerate", data := .fields #[.none, .bool false, .ref it, rawInt 0, .none, .none] }) s.heap.objs.size it 0 .none := Heap.get?_push_size _ rfl
  refine ⟨⟨_, he, rfl⟩, h _ he (by rw [Heap.size_push]) fun b o x => Heap.get?_push_of_some _ x⟩
end
end Vd0

end

section
set_option Elab.async false
set_option linter.all false
set_option maxRecDepth 100000
set_option maxHeartbeats 2000000
/-! Lg: what is walked: lists, tuples, texts, ranges, enumerate, zip, enumerate of zip. -/
namespace Vd
open PySem PySem.Spec PyProof.Rows L2 Vd0

/-! ### walks as data -/
section
variable {x : Kx} {J : It} {F : Hp} {n : Nat} {G : Hp → Prop}
theorem WalkD.ofAt {xs : List V} {ds : List D} (w : Walk J n G (YAt xs)) (hn : n = ds.length) (hG : ∀ F1 H1, Same F F1 → Same F1 H1 → G H1) (r : RepL x F ds xs) : WalkD x J F ds where
  go := fun F1 H1 i a b hi => w.goes i H1 (by omega) (hG F1 H1 a b)
  stop := fun F1 H1 a b => by rw [← hn]; exact w.stops H1 (hG F1 H1 a b)
  yld := fun F1 H1 i v H2 d a b hd y => by
    have hi : i < n := by rw [hn]; exact (List.getElem?_eq_some_iff.mp hd).1
    obtain ⟨rfl, hv⟩ := w.yields i H1 v H2 hi (hG F1 H1 a b) y
    obtain ⟨u, h1, r1⟩ := r.get hd
    rw [hv] at h1; cases h1
    exact ⟨F1, Grow.refl b, r1.mono a⟩
theorem WalkD.ofFn {f : Nat → V} {ds : List D} (w : Walk J n G (YFn f)) (hn : n = ds.length) (hG : ∀ F1 H1, Same F F1 → Same F1 H1 → G H1) (r : ∀ i d, ds[i]? = some d → ∀ F1, Rep x F1 d (f i)) : WalkD x J F ds where
  go := fun F1 H1 i a b hi => w.goes i H1 (by omega) (hG F1 H1 a b)
  stop := fun F1 H1 a b => by rw [← hn]; exact w.stops H1 (hG F1 H1 a b)
  yld := fun F1 H1 i v H2 d a b hd y => by
    have hi : i < n := by rw [hn]; exact (List.getElem?_eq_some_iff.mp hd).1
    obtain ⟨rfl, rfl⟩ := w.yields i H1 v H2 hi (hG F1 H1 a b) y
    exact ⟨F1, Grow.refl b, r i d hd F1⟩
theorem WalkD.ofPair {f g : Nat → Option V} {ds : List D} (w : Walk J n G (YPair f g)) (hn : n = ds.length) (hG : ∀ F1 H1, Same F F1 → Same F1 H1 → G H1)
    (r : ∀ (i : Nat) d u v, ds[i]? = some d → f i = some u → g i = some v → ∃ d1 d2, d = .tup [d1, d2] ∧ Rep x F d1 u ∧ Rep x F d2 v) : WalkD x J F ds where
  go := fun F1 H1 i a b hi => w.goes i H1 (by omega) (hG F1 H1 a b)
  stop := fun F1 H1 a b => by rw [← hn]; exact w.stops H1 (hG F1 H1 a b)
  yld := fun F1 H1 i v H2 d a b hd y => by
    have hi : i < n := by rw [hn]; exact (List.getElem?_eq_some_iff.mp hd).1
    obtain ⟨T, u, v', rfl, nT, rfl, h1, h2⟩ := w.yields i H1 v H2 hi (hG F1 H1 a b) y
    obtain ⟨d1, d2, rfl, r1, r2⟩ := r i d u v' hd h1 h2
    have g : Grow F1 H1 (upd F1 T (.tup [u, v'])) (upd H1 T (.tup [u, v'])) := Grow.new b nT
    exact ⟨_, g, .tup (SqT.of upd_same) (.cons ((r1.mono a).mono g.fF) (.cons ((r2.mono a).mono g.fF) .nil))⟩
end

/-- the signs of a text, each a text -/
def signs (z : Str) : List D := z.cps.toList.map fun c => .str ⟨#[c]⟩
/-- the items of what is walked -/
def items : D → Option (List D)
  | .lst ds => some ds
  | .tup ds => some ds
  | .scr ns => some (ns.map .int)
  | .str z => some (signs z)
  | _ => none
def fIt (f : FE) : FI := fun e => (f e).bind fun p => (items p.1).map fun ds => (ds, p.2)
section
variable {X : Cx} {tg : Expr}
def iSeq (K : PySem.W.Frag) (te : TE) : TI := fun σ H R => te σ H fun v H1 => (∃ a, v = .ref a ∧ (∃ xs, SqL K H1 a xs) ∧ R (Itl K a) H1) ∨ (∃ a, v = .ref a ∧ (∃ xs, SqT K H1 a xs) ∧ R (Itt K a) H1) ∨ ∃ z, v = .str z ∧ R (Its z) H1
theorem pi_seq {l : Expr} {tl : TE} (hl : PE X l tl) : PI X tg l (iSeq X.K tl) := by
  refine ⟨fun pins s σ H R I h => ?_⟩
  refine thn (hl.run pins s σ H _ I h) fun v s1 ⟨x, H1, I1, r1, q1⟩ => ?_
  rcases q1 with ⟨a, e, ⟨xs, hq⟩, q⟩ | ⟨a, e, ⟨xs, hq⟩, q⟩ | ⟨z, e, q⟩
  · subst e
    cases r1
    obtain ⟨its, rv, p, hz⟩ := I1.list hq
    refine wpAny_pyIter_list p.isList ?_
    refine ⟨s1.heap.objs.size, [s1.heap.objs.size], _, _, H1, rfl, I1.kept (t' := s1.toks) fun b o e => Heap.get?_push_of_some _ e, turn_list a _, ⟨_, Heap.get?_push_size _ rfl, rfl, rfl⟩, fun b hb => ?_, q⟩
    have e : b = s1.heap.objs.size := by simpa using hb
    subst e
    exact I1.fpOk (Nat.le_refl _) (I1.hok.fresh (Nat.le_refl _))
  · subst e
    cases r1
    obtain ⟨its, rv, p, hz⟩ := I1.tuple hq
    refine wpAny_pyIter_tuple (show s1.heap.IsTuple a its.toArray from p) ?_
    refine ⟨s1.heap.objs.size, [s1.heap.objs.size], _, _, H1, rfl, I1.kept (t' := s1.toks) fun b o e => Heap.get?_push_of_some _ e, turn_tuple a _, ⟨_, Heap.get?_push_size _ rfl, rfl, rfl⟩, fun b hb => ?_, q⟩
    have e : b = s1.heap.objs.size := by simpa using hb
    subst e
    exact I1.fpOk (Nat.le_refl _) (I1.hok.fresh (Nat.le_refl _))
  · subst e
    obtain ⟨t, rfl⟩ := r1
    cases ha : z.cps.all (· < 128)
    · exact wpAny_pyIter_wide ha (pi_one (tk := s1.toks) I1 _ (turn_str _ z t "str_iterator" (.inr rfl)) ⟨_, Heap.get?_push_size _ rfl, rfl, rfl⟩ q)
    · exact wpAny_pyIter_ascii ha (pi_one (tk := s1.toks) I1 _ (turn_str _ z t "str_ascii_iterator" (.inl rfl)) ⟨_, Heap.get?_push_size _ rfl, rfl, rfl⟩ q)
end
section
variable {ι : Type} {X : ι → Cx} {x : Kx} {tg e a b : Expr} {f fa fb : FE} {pos p : Pos}
theorem signs_get {z : Str} {i : Nat} {d : D} (h : (signs z)[i]? = some d) : ∃ c, z.cps[i]? = some c ∧ d = .str ⟨#[c]⟩ := by
  unfold signs at h
  rw [List.getElem?_map] at h
  cases q : z.cps.toList[i]? with
  | none => rw [q] at h; cases h
  | some c => rw [q] at h; cases h; exact ⟨c, by simpa using q, rfl⟩
theorem walk_signs {z : Str} {F : Hp} : WalkD x (Its z) F (signs z) where
  go := fun F1 H1 i _ _ hi => by
    have : (signs z).length = z.cps.size := by simp [signs]
    exact (walk_str (z := z)).goes i H1 (by omega) trivial
  stop := fun F1 H1 _ _ => by
    have : (signs z).length = z.cps.size := by simp [signs]
    rw [this]
    exact (walk_str (z := z)).stops H1 trivial
  yld := fun F1 H1 i v H2 d _ b hd y => by
    obtain ⟨c, hc, rfl⟩ := signs_get hd
    obtain ⟨rfl, c', hc', rfl⟩ := (walk_str (z := z)).yields i H1 v H2 (by simpa using (Array.getElem?_eq_some_iff.mp hc).1) trivial y
    rw [hc] at hc'; cases hc'
    exact ⟨F1, Grow.refl b, .str _⟩
theorem iSeq_ (hK : ∀ i, (X i).K = x.K) (h : DE X x e f) : DI X x tg e (fIt f) := by
  obtain ⟨t, hp, hr⟩ := h
  refine ⟨iSeq x.K t, fun i => by have := pi_seq (tg := tg) (hp i); rw [hK i] at this; exact this, fun F H env σ R ds env' s q kk => ?_⟩
  unfold fIt at q
  obtain ⟨⟨d, e1⟩, q1, q⟩ := Option.bind_eq_some_iff.mp q
  obtain ⟨ds', q2, q⟩ := Option.map_eq_some_iff.mp q
  cases q
  refine hr F H env σ _ d e1 s q1 fun F1 H1 v st1 s1 r1 => ?_
  cases r1 with
  | @lst a xs ds0 h r =>
    cases q2
    exact .inl ⟨a, rfl, ⟨xs, SqL.of (s1.good _ _ h)⟩, kk F1 H1 _ st1 s1 (.ofAt walk_list r.len (fun F2 H2 h1 h2 => SqL.of (h2 _ _ (h1 _ _ h))) r)⟩
  | @scr a ns h =>
    cases q2
    exact .inl ⟨a, rfl, ⟨_, s1.good.seq h⟩, kk F1 H1 _ st1 s1 (.ofAt walk_list (by simp) (fun F2 H2 h1 h2 => h2.seq (h1.seq h)) (RepL.of_ints ns))⟩
  | @tup a xs ds0 h r =>
    cases q2
    exact .inr (.inl ⟨a, rfl, ⟨xs, same_t s1.good h⟩, kk F1 H1 _ st1 s1 (.ofAt walk_tup r.len (fun F2 H2 h1 h2 => same_t h2 (same_t h1 h)) r)⟩)
  | str z =>
    cases q2
    exact .inr (.inr ⟨z, rfl, kk F1 H1 _ st1 s1 walk_signs⟩)
  | _ => cases q2

/-! ### ranges -/
def rgD (lo : Int) (n : Nat) : List D := (List.range n).map fun (i : Nat) => .int (lo + i)
theorem rgD_get {lo : Int} {n i : Nat} {d : D} (h : (rgD lo n)[i]? = some d) : d = .int (lo + i) := by
  have hl : i < n := by
    have := (List.getElem?_eq_some_iff.mp h).1
    simpa [rgD] using this
  unfold rgD at h
  rw [List.getElem?_map, List.getElem?_range hl] at h
  cases h
  rfl
theorem walk_rg {lo : Int} {n : Nat} {F : Hp} : WalkD x (Itr lo n) F (rgD lo n) := .ofFn walk_range (by simp [rgD]) (fun _ _ _ _ => trivial) fun i d h F1 => by
  rw [rgD_get h]
  exact .int _
def fRng1 (fa : FA) : FI := fun e => (fa e).bind fun p => match p.1 with
  | [.int n] => if n ≤ 1000000000 ∧ -1000000000 ≤ n then some (rgD 0 n.toNat, p.2) else none
  | _ => none
def fRng2 (fa : FA) : FI := fun e => (fa e).bind fun p => match p.1 with
  | [.int m, .int n] => if (n ≤ 1000000000 ∧ -1000000000 ≤ n) ∧ m ≤ 1000000000 ∧ -1000000000 ≤ m then some (rgD m (n - m).toNat, p.2) else none
  | _ => none
theorem iRange1 {ga : FA} (hg : ∀ i, Gl (X i) "range") (hm : ∀ i, (X i).mg "range" = none) (ha : DA X x [a] ga) (hs : ∀ i, starEach [a] (X i).env = [(false, eval a (X i).env)] := by intro _; rfl) : DI X x tg (.Call (.Name "range" p) [a] [] pos) (fRng1 ga) := by
  obtain ⟨t, hp, hr⟩ := ha
  refine ⟨_, fun i => pi_range1 (hg i) (hm i) (hp i) (hs i), fun F H env σ R ds env' s q kk => ?_⟩
  unfold fRng1 at q
  obtain ⟨⟨vs, e1⟩, q1, q⟩ := Option.bind_eq_some_iff.mp q
  refine hr F H env σ _ vs e1 s q1 fun F1 H1 us st1 s1 r1 => ?_
  cases r1 with
  | nil => cases q
  | cons r1 r2 =>
    cases r2 with
    | cons _ _ => cases r1 <;> cases q
    | nil =>
      cases r1 with
      | int n =>
        by_cases hb : n ≤ 1000000000 ∧ -1000000000 ≤ n
        · have q : (if n ≤ 1000000000 ∧ -1000000000 ≤ n then some (rgD 0 n.toNat, e1) else none) = some (ds, env') := q
          rw [if_pos hb] at q
          cases q
          exact ⟨n, rfl, by omega, by omega, kk F1 H1 _ st1 s1 walk_rg⟩
        · have q : (if n ≤ 1000000000 ∧ -1000000000 ≤ n then some (rgD 0 n.toNat, e1) else none) = some (ds, env') := q
          rw [if_neg hb] at q
          cases q
      | _ => cases q
theorem iRange2 {ga : FA} (hg : ∀ i, Gl (X i) "range") (hm : ∀ i, (X i).mg "range" = none) (ha : DA X x [a, b] ga) (hs : ∀ i, starEach [a, b] (X i).env = [(false, eval a (X i).env), (false, eval b (X i).env)] := by intro _; rfl)
    (hs2 : ∀ i, starEach [b] (X i).env = [(false, eval b (X i).env)] := by intro _; rfl) : DI X x tg (.Call (.Name "range" p) [a, b] [] pos) (fRng2 ga) := by
  obtain ⟨t, hp, hr⟩ := ha
  refine ⟨_, fun i => pi_range2 (hg i) (hm i) (hp i) (hs i) (hs2 i), fun F H env σ R ds env' s q kk => ?_⟩
  unfold fRng2 at q
  obtain ⟨⟨vs, e1⟩, q1, q⟩ := Option.bind_eq_some_iff.mp q
  refine hr F H env σ _ vs e1 s q1 fun F1 H1 us st1 s1 r1 => ?_
  cases r1 with
  | nil => cases q
  | cons r1 r2 =>
    cases r2 with
    | nil => cases r1 <;> cases q
    | cons r2 r3 =>
      cases r3 with
      | cons _ _ => cases r1 <;> first | (cases q; done) | (cases r2 <;> cases q)
      | nil =>
        cases r1 with
        | int m =>
          cases r2 with
          | int n =>
            by_cases hb : (n ≤ 1000000000 ∧ -1000000000 ≤ n) ∧ m ≤ 1000000000 ∧ -1000000000 ≤ m
            · have q : (if (n ≤ 1000000000 ∧ -1000000000 ≤ n) ∧ m ≤ 1000000000 ∧ -1000000000 ≤ m then some (rgD m (n - m).toNat, e1) else none) = some (ds, env') := q
              rw [if_pos hb] at q
              cases q
              exact ⟨m, n, rfl, ⟨by omega, by omega, by omega, by omega⟩, kk F1 H1 _ st1 s1 walk_rg⟩
            · have q : (if (n ≤ 1000000000 ∧ -1000000000 ≤ n) ∧ m ≤ 1000000000 ∧ -1000000000 ≤ m then some (rgD m (n - m).toNat, e1) else none) = some (ds, env') := q
              rw [if_neg hb] at q
              cases q
          | _ => cases q
        | _ => cases q
end

/-! ### enumerate of a tuple -/
def Itet (K : PySem.W.Frag) (a : Addr) : It :=
  ⟨fun i H => ∃ (xs : List V) (x : V), SqT K H a xs ∧ xs[i]? = some x, fun i H v H' => ∃ T x, v = .ref T ∧ H T = none ∧ H' = upd H T (.tup [.int (i : Nat), x]) ∧ ∀ xs, SqT K H a xs → xs[i]? = some x, fun i H => ∃ xs : List V, SqT K H a xs ∧ xs.length ≤ i⟩
theorem turn_enumT {P : Program} {w : World} {K : PySem.W.Frag} {elts : List Expr} {kk : Nat} {tpos : Pos} (a e it : Addr) :
    Turn P w K (.Tuple elts kk tpos) (Itet K a) [e, it] e (fun i h => (∃ old, IsEnum h e it ((i : Nat) : Int) old) ∧ h.IsTupleIter it a i ∧ e ≠ it) where
  mem := by simp
  obj := fun i h st b hb => by
    obtain ⟨⟨old, he⟩, ⟨o, ho, hc, hd⟩, _⟩ := st
    have e' : b = e ∨ b = it := by simpa using hb
    rcases e' with z | z
    · rw [z]; exact ⟨_, he, fun v q => nomatch q⟩
    · rw [z]; exact ⟨o, ho, fun v q => by rw [hd] at q; cases q⟩
  keep := fun i h h' st k => let ⟨⟨old, he⟩, hi, hne⟩ := st; ⟨⟨old, k e (by simp) _ he⟩, hi.at fun o q => k it (by simp) o q, hne⟩
  item := by
    intro X hP hw hK hc i pins s σ H E I hf st hg
    subst hP hw hK
    obtain ⟨⟨old, he⟩, hit, hne⟩ := st
    obtain ⟨xs, x, hq, hx⟩ := hg
    obtain ⟨its, rv, p, hz⟩ := I.tuple hq
    obtain ⟨u, hu, ru⟩ := rv.get hx
    have hel : e < s.heap.objs.size := Heap.lt_size he
    have hil : it < s.heap.objs.size := by obtain ⟨_, q, _⟩ := hit; exact Heap.lt_size q
    refine pyNext_enum_gen (R := fun v h' tk => v = u ∧ h'.IsTupleIter it a (i + 1) ∧ Heap.SameBut it s.heap h' ∧ tk = s.toks) he (fun E' Q' k => ?_) fun v h1 tk h' hR ho hT hsz hge hk => ?_
    · refine wpAny_nextOf_tuple_item hit (show s.heap.IsTuple a its.toArray from p) (x := u) (by simpa using hu) fun h' hit' hs' => ?_
      exact k u h' s.toks ⟨rfl, hit', hs', rfl⟩ ((hs'.2 e hne).trans he) (Nat.le_of_eq hs'.1.symm)
    · obtain ⟨rfl, hit', hs', rfl⟩ := hR
      rw [hs'.1] at ho hT hsz ⊢
      refine ⟨_, rfl, wpAny_letOwnedTupleGo_enum (s := { s with heap := h', toks := s.toks + 1 }) ho fun h'' he' sb => ?_⟩
      have hk' : ∀ b o, b ≠ e → b ≠ it → s.heap.get? b = some o → h''.get? b = some o := fun b o b1 b2 q => (sb.2 b b1).trans (hk b o b1 ((hs'.2 b b2).trans q))
      have hT2 : h''.get? s.heap.objs.size = some { cls := .type "tuple", data := .seq #[.int i s.toks, v] } := (sb.2 _ (Nat.ne_of_gt hel)).trans hT
      have new : ObjOk X.prog X.w (upd H s.heap.objs.size (.tup [.int (i : Nat), x])) h'' s.heap.objs.size (.tup [.int (i : Nat), x]) :=
        ⟨by show 2 ≤ sizeLine; decide, [.int i s.toks, v], .cons ⟨_, rfl⟩ (.cons ru .nil), ⟨_, hT2, rfl, _, rfl⟩⟩
      have I1 : Inv X pins σ (upd H s.heap.objs.size (.tup [.int (i : Nat), x])) { s with heap := h'', toks := s.toks + 1 } :=
        I.turnedNew (ch := [e, it]) (fun b ob hb q => hk' b ob (fun z => hb (by simp [z])) (fun z => hb (by simp [z])) q) hf (Nat.le_refl _) new
      refine ⟨.ref s.heap.objs.size, _, I1, rfl, ⟨_, x, rfl, I.hok.fresh (Nat.le_refl _), rfl, fun ys hy => by rw [I.tuple_inj hy hq]; exact hx⟩, ⟨⟨v, ?_⟩, (hit'.at fun o q => hk it o (Ne.symm hne) q).at fun o q => (sb.2 it (Ne.symm hne)).trans q, hne⟩, fun b hb => ?_⟩
      · have e1 : ((i + 1 : Nat) : Int) = (i : Int) + 1 := by omega
        rw [e1]; exact he'
      · have hb' : b < s.heap.objs.size := by
          have e' : b = e ∨ b = it := by simpa using hb
          rcases e' with z | z
          · rw [z]; exact hel
          · rw [z]; exact hil
        rw [upd_ne (Nat.ne_of_lt hb')]
        exact (hf b hb).1
  done := by
    intro X hP hw hK hc i pins s σ H E I hf st hg
    subst hP hw hK
    obtain ⟨⟨old, he⟩, hit, hne⟩ := st
    obtain ⟨xs, hq, hx⟩ := hg
    obtain ⟨its, rv, p, hz⟩ := I.tuple hq
    obtain ⟨f0, f1, f2, f3, f4, f5⟩ := hf it (by simp)
    have hl := rv.length
    refine pyNext_enum_gen_end (R := fun h' => Heap.ExtBut it s.heap h') he (fun E' Q' k => ?_) fun h' eb => ⟨rfl, I.turned (t' := s.toks) (fun b o hb q => eb b o hb q) f0 f1 f3 f4 f5⟩
    exact wpAny_nextOf_tuple_end (A := X.A.in1) (I.ok.hd hc) hit (show s.heap.IsTuple a its.toArray from p) (by simp; omega) fun h' x eb hx' => k h' x eb hx'
  self := fun A i s Q E st h => let ⟨⟨_, he⟩, _⟩ := st; wpAny_pyIter_enum he h
def iEnumS (K : PySem.W.Frag) (ta : TA) : TI := fun σ H R => ta σ H fun vs H1 => (∃ a xs, vs = [.ref a] ∧ SqL K H1 a xs ∧ R (Ite K a) H1) ∨ ∃ a xs, vs = [.ref a] ∧ SqT K H1 a xs ∧ R (Itet K a) H1
theorem pi_enumS {X : Cx} {e : Expr} {ta : TA} {p pos tpos : Pos} {elts : List Expr} {kk : Nat} (hg : Gl X "enumerate") (hm : X.mg "enumerate" = none) (ha : PA X [e] ta) (hs : starEach [e] X.env = [(false, eval e X.env)] := by rfl) :
    PI X (.Tuple elts kk tpos) (.Call (.Name "enumerate" p) [e] [] pos) (iEnumS X.K ta) := by
  refine ⟨fun pins s σ H R I h => ?_⟩
  refine Call_ (ld_blt I hg hm boot_enumerate (PyProof.Rows.callWith_type1 (thn (ha.run pos pins s σ H _ I h) fun us s1 ⟨vs, H1, I1, r1, q1⟩ => ?_) hs rfl))
  rcases q1 with ⟨a, xs, ex, hq, q⟩ | ⟨a, xs, ex, hq, q⟩
  · subst ex
    cases r1 with
    | cons r rr =>
      cases rr
      cases r
      obtain ⟨its, rv, p', hz⟩ := I1.list hq
      refine call_enumerate_list p'.isList fun h' he hit hsz hk => wpAny_pyIter_enum he ?_
      have I2 : Inv X pins σ H1 { s1 with heap := h' } := I1.kept (t' := s1.toks) hk
      refine ⟨s1.heap.objs.size + 1, [s1.heap.objs.size + 1, s1.heap.objs.size], _, _, H1, rfl, I2, turn_enum a (s1.heap.objs.size + 1) s1.heap.objs.size, ⟨⟨.none, he⟩, hit, Nat.succ_ne_self _⟩, fun b hb => ?_, q⟩
      have e' : b = s1.heap.objs.size + 1 ∨ b = s1.heap.objs.size := by simpa using hb
      have hle : s1.heap.objs.size ≤ b := by
        rcases e' with z | z
        · rw [z]; exact Nat.le_add_right _ _
        · rw [z]; exact Nat.le_refl _
      exact I1.fpOk hle (I1.hok.fresh hle)
  · subst ex
    cases r1 with
    | cons r rr =>
      cases rr
      cases r
      obtain ⟨its, rv, p', hz⟩ := I1.tuple hq
      refine call_enum1 (begins_tuple a its.toArray) (show s1.heap.IsTuple a its.toArray from p') fun h' he hit hsz hk => wpAny_pyIter_enum he ?_
      have I2 : Inv X pins σ H1 { s1 with heap := h' } := I1.kept (t' := s1.toks) hk
      refine ⟨s1.heap.objs.size + 1, [s1.heap.objs.size + 1, s1.heap.objs.size], _, _, H1, rfl, I2, turn_enumT a (s1.heap.objs.size + 1) s1.heap.objs.size, ⟨⟨.none, he⟩, ⟨_, hit, rfl, rfl⟩, Nat.succ_ne_self _⟩, fun b hb => ?_, q⟩
      have e' : b = s1.heap.objs.size + 1 ∨ b = s1.heap.objs.size := by simpa using hb
      have hle : s1.heap.objs.size ≤ b := by
        rcases e' with z | z
        · rw [z]; exact Nat.le_add_right _ _
        · rw [z]; exact Nat.le_refl _
      exact I1.fpOk hle (I1.hok.fresh hle)
theorem walk_enumT {K : PySem.W.Frag} {a : Addr} {xs : List V} : Walk (Itet K a) xs.length (fun H => SqT K H a xs) (YPair (fun i => some (.int (i : Nat))) (fun i => xs[i]?)) := by
  refine ⟨fun i _ hi q => ⟨xs, xs[i], q, by simp [hi]⟩, fun _ q => ⟨xs, q, Nat.le_refl _⟩, fun i H v H' _ q y => ?_⟩
  obtain ⟨T, x, h1, h2, h3, h4⟩ := y
  exact ⟨T, .int (i : Nat), x, h1, h2, h3, rfl, h4 xs q⟩
/-- numbered pairs -/
def enumD : Nat → List D → List D
  | _, [] => []
  | i, d :: ds => .tup [.int (i : Nat), d] :: enumD (i + 1) ds
theorem enumD_len : ∀ (ds : List D) (i : Nat), (enumD i ds).length = ds.length
  | [], _ => rfl
  | _ :: ds, i => congrArg Nat.succ (enumD_len ds (i + 1))
theorem enumD_get : ∀ {ds : List D} {k i : Nat} {d : D}, (enumD k ds)[i]? = some d → ∃ d', ds[i]? = some d' ∧ d = .tup [.int ((k + i : Nat) : Int), d']
  | [], _, _, _, h => by simp [enumD] at h
  | d0 :: ds, k, 0, d, h => by
    cases h
    exact ⟨d0, rfl, rfl⟩
  | d0 :: ds, k, i + 1, d, h => by
    have h : (enumD (k + 1) ds)[i]? = some d := by simpa [enumD] using h
    obtain ⟨d', h1, h2⟩ := enumD_get h
    exact ⟨d', by simpa using h1, by rw [h2, show k + 1 + i = k + (i + 1) by omega]⟩
def seqOf : D → Option (List D)
  | .lst ds => some ds
  | .tup ds => some ds
  | .scr ns => some (ns.map .int)
  | _ => none
def fEnum (fa : FA) : FI := fun e => (fa e).bind fun p => match p.1 with
  | [d] => (seqOf d).map fun ds => (enumD 0 ds, p.2)
  | _ => none
section
variable {ι : Type} {X : ι → Cx} {x : Kx} {e e2 : Expr} {ga : FA} {p p2 pos pos2 tpos : Pos} {elts : List Expr} {kk : Nat}
theorem iEnum_ (hK : ∀ i, (X i).K = x.K) (hg : ∀ i, Gl (X i) "enumerate") (hm : ∀ i, (X i).mg "enumerate" = none) (ha : DA X x [e] ga) (hs : ∀ i, starEach [e] (X i).env = [(false, eval e (X i).env)] := by intro _; rfl) :
    DI X x (.Tuple elts kk tpos) (.Call (.Name "enumerate" p) [e] [] pos) (fEnum ga) := by
  obtain ⟨t, hp, hr⟩ := ha
  refine ⟨iEnumS x.K t, fun i => by have := pi_enumS (p := p) (pos := pos) (tpos := tpos) (elts := elts) (kk := kk) (hg i) (hm i) (hp i) (hs i); rw [hK i] at this; exact this, fun F H env σ R ds env' s q k2 => ?_⟩
  unfold fEnum at q
  obtain ⟨⟨vs, e1⟩, q1, q⟩ := Option.bind_eq_some_iff.mp q
  refine hr F H env σ _ vs e1 s q1 fun F1 H1 us st1 s1 r1 => ?_
  cases r1 with
  | nil => cases q
  | @cons d v ds1 vs1 r1 r2 =>
    cases r2 with
    | cons _ _ => cases q
    | nil =>
      have q : (seqOf d).map (fun ds => (enumD 0 ds, e1)) = some (ds, env') := q
      obtain ⟨ds0, q3, q⟩ := Option.map_eq_some_iff.mp q
      cases q
      have pr : ∀ {ds0 : List D} {xs : List V}, RepL x F1 ds0 xs → ∀ (i : Nat) d u v, (enumD 0 ds0)[i]? = some d → (some (V.int (i : Nat))) = some u → xs[i]? = some v → ∃ d1 d2, d = .tup [d1, d2] ∧ Rep x F1 d1 u ∧ Rep x F1 d2 v := fun {ds0 xs} r i d u v h1 h2 h3 => by
        obtain ⟨d', h4, h5⟩ := enumD_get h1
        obtain ⟨w, h6, h7⟩ := r.get h4
        rw [h3] at h6; cases h6
        cases h2
        rw [Nat.zero_add] at h5
        exact ⟨_, _, h5, .int _, h7⟩
      cases r1 with
      | @lst a xs ds1 h r =>
        cases q3
        exact .inl ⟨a, xs, rfl, SqL.of (s1.good _ _ h), k2 F1 H1 _ st1 s1 (.ofPair walk_enum (by rw [enumD_len, r.len]) (fun F2 H2 h1 h2 => SqL.of (h2 _ _ (h1 _ _ h))) (pr r))⟩
      | @scr a ns h =>
        cases q3
        exact .inl ⟨a, _, rfl, s1.good.seq h, k2 F1 H1 _ st1 s1 (.ofPair walk_enum (by rw [enumD_len]; simp) (fun F2 H2 h1 h2 => h2.seq (h1.seq h)) (pr (RepL.of_ints ns)))⟩
      | @tup a xs ds1 h r =>
        cases q3
        exact .inr ⟨a, xs, rfl, same_t s1.good h, k2 F1 H1 _ st1 s1 (.ofPair walk_enumT (by rw [enumD_len, r.len]) (fun F2 H2 h1 h2 => same_t h2 (same_t h1 h)) (pr r))⟩
      | _ => cases q3

/-! ### zip of two lists -/
def zipD : List D → List D → List D
  | a :: as, b :: bs => .tup [a, b] :: zipD as bs
  | _, _ => []
theorem zipD_len : ∀ (as bs : List D), (zipD as bs).length = min as.length bs.length
  | [], _ => by simp [zipD]
  | _ :: _, [] => by simp [zipD]
  | a :: as, b :: bs => by
    simp only [zipD, List.length_cons, zipD_len as bs]
    omega
theorem zipD_get : ∀ {as bs : List D} {i : Nat} {d : D}, (zipD as bs)[i]? = some d → ∃ a b, as[i]? = some a ∧ bs[i]? = some b ∧ d = .tup [a, b]
  | [], _, _, _, h => by simp [zipD] at h
  | _ :: _, [], _, _, h => by simp [zipD] at h
  | a :: as, b :: bs, 0, d, h => by
    cases h
    exact ⟨a, b, rfl, rfl, rfl⟩
  | a :: as, b :: bs, i + 1, d, h => by
    obtain ⟨a', b', h1, h2, h3⟩ := zipD_get (as := as) (bs := bs) (i := i) (by simpa [zipD] using h)
    exact ⟨a', b', by simpa using h1, by simpa using h2, h3⟩
def fZip (fa : FA) : FI := fun e => (fa e).bind fun p => match p.1 with
  | [.lst as, .lst bs] => some (zipD as bs, p.2)
  | _ => none
theorem iZip_ (hK : ∀ i, (X i).K = x.K) (hg : ∀ i, Gl (X i) "zip") (hm : ∀ i, (X i).mg "zip" = none) (ha : DA X x [e, e2] ga)
    (hs : ∀ i, starEach [e, e2] (X i).env = (false, eval e (X i).env) :: starEach [e2] (X i).env := by intro _; rfl) (hpl : ∀ i, (backTo pos (starEach [e2] (X i).env)).any (·.1) = false := by intro _; rfl) :
    DI X x (.Tuple elts kk tpos) (.Call (.Name "zip" p) [e, e2] [] pos) (fZip ga) := by
  obtain ⟨t, hp, hr⟩ := ha
  refine ⟨iZip x.K t, fun i => by have := pi_zip (p := p) (pos := pos) (tpos := tpos) (elts := elts) (kk := kk) (hg i) (hm i) (hp i) (hs i) (hpl i); rw [hK i] at this; exact this, fun F H env σ R ds env' s q k2 => ?_⟩
  unfold fZip at q
  obtain ⟨⟨vs, e1⟩, q1, q⟩ := Option.bind_eq_some_iff.mp q
  refine hr F H env σ _ vs e1 s q1 fun F1 H1 us st1 s1 r1 => ?_
  obtain ⟨as, bs, rfl, hq⟩ : ∃ as bs, vs = [.lst as, .lst bs] ∧ some (zipD as bs, e1) = some (ds, env') := by
    match vs, q with
    | [.lst as, .lst bs], q => exact ⟨as, bs, rfl, q⟩
  cases hq
  cases r1 with
  | cons r1 r2 =>
    cases r2 with
    | cons r2 r3 =>
      cases r3
      cases r1 with
      | @lst a xs _ h r =>
        cases r2 with
        | @lst b ys _ h' r' =>
          refine ⟨a, b, xs, ys, rfl, SqL.of (s1.good _ _ h), SqL.of (s1.good _ _ h'), k2 F1 H1 _ st1 s1 (.ofPair (walk_zip rfl) (by rw [zipD_len, r.len, r'.len]) (fun F2 H2 h1 h2 => ⟨SqL.of (h2 _ _ (h1 _ _ h)), SqL.of (h2 _ _ (h1 _ _ h'))⟩) fun i d u v h1 h2 h3 => ?_)⟩
          obtain ⟨d1, d2, h4, h5, rfl⟩ := zipD_get h1
          obtain ⟨u', h6, r6⟩ := r.get h4
          obtain ⟨v', h7, r7⟩ := r'.get h5
          rw [h2] at h6; cases h6
          rw [h3] at h7; cases h7
          exact ⟨_, _, rfl, r6, r7⟩

/-! ### enumerate of a zip of two lists -/
end
def Itez (K : PySem.W.Frag) (a b : Addr) : It :=
  ⟨fun i H => ∃ (xs ys : List V) (x y : V), SqL K H a xs ∧ SqL K H b ys ∧ xs[i]? = some x ∧ ys[i]? = some y,
    fun i H v H' => ∃ T1 T2 x y, v = .ref T1 ∧ H T2 = none ∧ (upd H T2 (.tup [x, y])) T1 = none ∧ H' = upd (upd H T2 (.tup [x, y])) T1 (.tup [.int (i : Nat), .ref T2]) ∧ (∀ xs, SqL K H a xs → xs[i]? = some x) ∧ ∀ ys, SqL K H b ys → ys[i]? = some y,
    fun i H => ∃ xs ys : List V, SqL K H a xs ∧ SqL K H b ys ∧ (xs.length ≤ i ∨ ys.length ≤ i)⟩
theorem turn_enumZ {P : Program} {w : World} {K : PySem.W.Frag} {elts : List Expr} {kk : Nat} {tpos : Pos} {a b e z TI TO i1 i2 : Addr} (D : ZipApart z TI TO i1 i2 a b) (ez : e ≠ z) (eTI : e ≠ TI) (eTO : e ≠ TO) (e1 : e ≠ i1) (e2 : e ≠ i2) :
    Turn P w K (.Tuple elts kk tpos) (Itez K a b) [e, z, TI, TO, i1, i2] e (fun i h => (∃ old, IsEnum h e z ((i : Nat) : Int) old) ∧ (∃ f0 f, IsZipF h z TI TO f0 f ∧ (f0 = .none ∨ ∃ T : Addr, f0 = rawInt T)) ∧ IsPair h TI (.ref i1) (.ref i2) ∧ (∃ x y, IsPair h TO x y) ∧ h.IsListIter i1 a i ∧ h.IsListIter i2 b i) where
  mem := by simp
  obj := fun i h st c hc => by
    obtain ⟨⟨old, he⟩, ⟨f0, f, hz, _⟩, hTI, ⟨x, y, hTO⟩, ⟨o1, h1, _, d1⟩, ⟨o2, h2, _, d2⟩⟩ := st
    have e' : c = e ∨ c = z ∨ c = TI ∨ c = TO ∨ c = i1 ∨ c = i2 := by simpa using hc
    rcases e' with q | q | q | q | q | q
    · rw [q]; exact ⟨_, he, fun v q => nomatch q⟩
    · rw [q]; exact ⟨_, hz, fun v q => nomatch q⟩
    · rw [q]; exact ⟨_, hTI, fun v q => nomatch q⟩
    · rw [q]; exact ⟨_, hTO, fun v q => nomatch q⟩
    · rw [q]; exact ⟨o1, h1, fun v q => by rw [d1] at q; cases q⟩
    · rw [q]; exact ⟨o2, h2, fun v q => by rw [d2] at q; cases q⟩
  keep := fun i h h' st k => by
    obtain ⟨⟨old, he⟩, ⟨f0, f, hz, h0⟩, hTI, ⟨x, y, hTO⟩, h1, h2⟩ := st
    exact ⟨⟨old, k e (by simp) _ he⟩, ⟨f0, f, k z (by simp) _ hz, h0⟩, k TI (by simp) _ hTI, ⟨x, y, k TO (by simp) _ hTO⟩, h1.at fun o q => k i1 (by simp) o q, h2.at fun o q => k i2 (by simp) o q⟩
  item := by
    intro X hP hw hK hc i pins s σ H E I hf st hg
    subst hP hw hK
    obtain ⟨⟨old, he⟩, ⟨f0, f, hz, h0⟩, hTI, ⟨x0, y0, hTO⟩, h1, h2⟩ := st
    obtain ⟨xs, ys, x, y, hqx, hqy, hx, hy⟩ := hg
    obtain ⟨its, rv, p, _⟩ := I.list hqx
    obtain ⟨its2, rv2, p2, _⟩ := I.list hqy
    obtain ⟨u, hu, ru⟩ := rv.get hx
    obtain ⟨u2, hu2, ru2⟩ := rv2.get hy
    have hel : e < s.heap.objs.size := Heap.lt_size he
    refine pyNext_enum_gen (R := fun v h' tk => v = .ref s.heap.objs.size ∧ tk = s.toks ∧ (∃ f0' f', IsZipF h' z TI TO f0' f' ∧ (f0' = .none ∨ ∃ T : Addr, f0' = rawInt T)) ∧ (∃ a' b', IsPair h' TO a' b') ∧ h'.IsListIter i1 a (i + 1) ∧ h'.IsListIter i2 b (i + 1) ∧ IsPair h' s.heap.objs.size u u2 ∧ h'.objs.size = s.heap.objs.size + 1 ∧
      (∀ c o, c ≠ z → c ≠ TO → c ≠ i1 → c ≠ i2 → s.heap.get? c = some o → h'.get? c = some o)) he (fun E' Q' k => ?_) fun v g1 tk h' hR ho hT hsz hge hk => ?_
    · refine nextOf_zip D hz h0 hTI hTO h1 h2 p.isList p2.isList (x := u) (y := u2) (by simpa using hu) (by simpa using hu2) fun h' f0' f' a' b' r1 r2 r3 r4 r5 r6 r7 r8 => ?_
      exact k _ h' s.toks ⟨rfl, rfl, ⟨f0', f', r1, r2⟩, ⟨a', b', r3⟩, r4, r5, r6, r7, r8⟩ (r8 e _ ez eTO e1 e2 he) (by omega)
    · obtain ⟨rfl, rfl, ⟨f0', f', r1, r2⟩, ⟨a', b', r3⟩, r4, r5, r6, r7, r8⟩ := hR
      have helt : e < g1.objs.size := Nat.lt_of_lt_of_le hel (by rw [r7]; exact Nat.le_succ _)
      -- the inner pair
      have new1 : ObjOk X.prog X.w (upd H s.heap.objs.size (.tup [x, y])) g1 s.heap.objs.size (.tup [x, y]) :=
        ⟨by show 2 ≤ sizeLine; decide, [u, u2], .cons ru (.cons ru2 .nil), ⟨_, r6, rfl, _, rfl⟩⟩
      have hfz : ∀ c ∈ [z, TO, i1, i2], FpOk X pins H c := fun c hc => hf c (by simp at hc ⊢; rcases hc with h | h | h | h <;> simp [h])
      have I1 : Inv X pins σ (upd H s.heap.objs.size (.tup [x, y])) { s with heap := g1 } :=
        I.turnedNew (t' := s.toks) (ch := [z, TO, i1, i2]) (fun c o hb q => r8 c o (fun q' => hb (by simp [q'])) (fun q' => hb (by simp [q'])) (fun q' => hb (by simp [q'])) (fun q' => hb (by simp [q'])) q) hfz (Nat.le_refl _) new1
      refine ⟨_, rfl, wpAny_letOwnedTupleGo_enum (s := { s with heap := h', toks := s.toks + 1 }) ho fun h'' he' sb => ?_⟩
      have hk' : ∀ c o, c ≠ e → g1.get? c = some o → h''.get? c = some o := fun c o b1 q => (sb.2 c b1).trans (hk c o b1 q)
      have hT2 : h''.get? g1.objs.size = some { cls := .type "tuple", data := .seq #[.int i s.toks, .ref s.heap.objs.size] } := (sb.2 _ (Nat.ne_of_gt helt)).trans hT
      have new2 : ObjOk X.prog X.w (upd (upd H s.heap.objs.size (.tup [x, y])) g1.objs.size (.tup [.int (i : Nat), .ref s.heap.objs.size])) h'' g1.objs.size (.tup [.int (i : Nat), .ref s.heap.objs.size]) :=
        ⟨by show 2 ≤ sizeLine; decide, [.int i s.toks, .ref s.heap.objs.size], .cons ⟨_, rfl⟩ (.cons rfl .nil), ⟨_, hT2, rfl, _, rfl⟩⟩
      have fe : FpOk X pins (upd H s.heap.objs.size (.tup [x, y])) e := by
        obtain ⟨f0, fr⟩ := hf e (by simp)
        exact ⟨by rw [upd_ne (Nat.ne_of_lt hel)]; exact f0, fr⟩
      have I2 : Inv X pins σ (upd (upd H s.heap.objs.size (.tup [x, y])) g1.objs.size (.tup [.int (i : Nat), .ref s.heap.objs.size])) { s with heap := h'', toks := s.toks + 1 } :=
        I1.turnedNew (s := { s with heap := g1 }) (t' := s.toks + 1) (ch := [e]) (fun c o hb q => hk' c o (fun q' => hb (by simp [q'])) q) (fun c hc => by
          have e' : c = e := by simpa using hc
          rw [e']; exact fe) (Nat.le_refl _) new2
      have hn1 : (upd H s.heap.objs.size (.tup [x, y])) g1.objs.size = none := I1.hok.fresh (Nat.le_refl _)
      refine ⟨.ref g1.objs.size, _, I2, rfl, ⟨_, _, x, y, rfl, I.hok.fresh (Nat.le_refl _), hn1, rfl, fun l hl => by rw [I.list_inj hl hqx]; exact hx, fun l hl => by rw [I.list_inj hl hqy]; exact hy⟩, ⟨⟨.ref s.heap.objs.size, ?_⟩, ⟨f0', f', hk' _ _ ez.symm r1, r2⟩, hk' _ _ eTI.symm (r8 _ _ D.TIz D.TITO D.TIi1 D.TIi2 hTI), ⟨a', b', hk' _ _ eTO.symm r3⟩, r4.at fun o q => hk' _ _ e1.symm q, r5.at fun o q => hk' _ _ e2.symm q⟩, fun c hcm => ?_⟩
      · have e1 : ((i + 1 : Nat) : Int) = (i : Int) + 1 := by omega
        rw [e1]; exact he'
      · have hlt : c < s.heap.objs.size := by
          have e' : c = e ∨ c = z ∨ c = TI ∨ c = TO ∨ c = i1 ∨ c = i2 := by simpa using hcm
          rcases e' with q | q | q | q | q | q
          · rw [q]; exact hel
          · rw [q]; exact Heap.lt_size hz
          · rw [q]; exact Heap.lt_size hTI
          · rw [q]; exact Heap.lt_size hTO
          · rw [q]; obtain ⟨_, e1, _⟩ := h1; exact Heap.lt_size e1
          · rw [q]; obtain ⟨_, e2, _⟩ := h2; exact Heap.lt_size e2
        rw [upd_ne (Nat.ne_of_lt (Nat.lt_of_lt_of_le hlt (by rw [r7]; exact Nat.le_succ _))), upd_ne (Nat.ne_of_lt hlt)]
        exact (hf c hcm).1
  done := by
    intro X hP hw hK hc i pins s σ H E I hf st hg
    subst hP hw hK
    obtain ⟨⟨old, he⟩, ⟨f0, f, hz, h0⟩, hTI, ⟨x0, y0, hTO⟩, h1, h2⟩ := st
    obtain ⟨xs, ys, hqx, hqy, hend⟩ := hg
    obtain ⟨its, rv, p, _⟩ := I.list hqx
    obtain ⟨its2, rv2, p2, _⟩ := I.list hqy
    have l1 := rv.length
    have l2 := rv2.length
    have hn : its.toArray[i]? = none ∨ its2.toArray[i]? = none := by
      rcases hend with q | q
      · exact .inl (by simp; omega)
      · exact .inr (by simp; omega)
    refine pyNext_enum_gen_end (R := fun h' => ∀ c o, c ≠ z → c ≠ TO → c ≠ i1 → c ≠ i2 → s.heap.get? c = some o → h'.get? c = some o) he (fun E' Q' k => ?_) fun h' hk => ⟨rfl, I.turnedL (t' := s.toks) (ch := [z, TO, i1, i2]) (fun c o hb q =>
      hk c o (fun q' => hb (by simp [q'])) (fun q' => hb (by simp [q'])) (fun q' => hb (by simp [q'])) (fun q' => hb (by simp [q'])) q) fun c hc => hf c (by simp at hc ⊢; rcases hc with h | h | h | h <;> simp [h])⟩
    exact nextOf_zip_end (A := X.A.in1) (I.ok.hd hc) D hz h0 hTI hTO h1 h2 p.isList p2.isList hn fun h' x r1 r2 => k h' x r1 r2
  self := fun A i s Q E st h => let ⟨⟨_, he⟩, _⟩ := st; wpAny_pyIter_enum he h
def iEnumZ (K : PySem.W.Frag) (ta : TA) : TI := fun σ H R => ta σ H fun vs H1 => ∃ a b xs ys, vs = [.ref a, .ref b] ∧ SqL K H1 a xs ∧ SqL K H1 b ys ∧ R (Itez K a b) H1
theorem pi_enumZ {X : Cx} {e e2 : Expr} {ta : TA} {p p2 pos pos2 tpos : Pos} {elts : List Expr} {kk : Nat} (hg0 : Gl X "enumerate") (hm0 : X.mg "enumerate" = none) (hg : Gl X "zip") (hm : X.mg "zip" = none) (ha : PA X [e, e2] ta)
    (hs0 : starEach [Expr.Call (.Name "zip" p) [e, e2] [] pos] X.env = [(false, eval (Expr.Call (.Name "zip" p) [e, e2] [] pos) X.env)] := by rfl)
    (hs : starEach [e, e2] X.env = (false, eval e X.env) :: starEach [e2] X.env := by rfl) (hpl : (backTo pos (starEach [e2] X.env)).any (·.1) = false := by rfl) :
    PI X (.Tuple elts kk tpos) (.Call (.Name "enumerate" p2) [.Call (.Name "zip" p) [e, e2] [] pos] [] pos2) (iEnumZ X.K ta) := by
  refine ⟨fun pins s σ H R I h => ?_⟩
  refine Call_ (ld_blt I hg0 hm0 boot_enumerate (PyProof.Rows.callWith_type1 ?_ hs0 rfl))
  rw [hs0]
  refine Calls.spliced_cons ?_
  refine Call_ (ld_blt I hg hm PyProof.Rows.boot_zip (PyProof.Rows.callWith_type1 (thn (ha.run pos pins s σ H _ I h) fun us s1 ⟨vs, H1, I1, r1, q1⟩ => ?_) hs hpl))
  obtain ⟨a, b, xs, ys, ex, hqx, hqy, q⟩ := q1
  subst ex
  cases r1 with
  | cons r rr =>
    cases rr with
    | cons r' rr =>
      cases rr
      cases r
      cases r'
      obtain ⟨its, rv, p1, _⟩ := I1.list hqx
      obtain ⟨its2, rv2, p2', _⟩ := I1.list hqy
      have la : a < s1.heap.objs.size := p1.lt
      have lb : b < s1.heap.objs.size := p2'.lt
      refine call_zip_2 p1.isList p2'.isList fun h' hz hTI hTO h1 h2 hsz hk => Calls.spliced_nil ?_
      refine call_enum0 (s := { s1 with heap := h' }) (H := fun h => IsZip h (s1.heap.objs.size + 4) (s1.heap.objs.size + 2) (s1.heap.objs.size + 3) .none) (fun prog w A E s Q hz' q' => wpAny_pyIter_zip hz' q') hz fun h'' he hsz2 hk2 => wpAny_pyIter_enum he ?_
      have hz5 : ({ s1 with heap := h' } : Shared).heap.objs.size = s1.heap.objs.size + 5 := hsz
      rw [hz5] at he ⊢
      have I2 : Inv X pins σ H1 { s1 with heap := h'' } := I1.kept (t' := s1.toks) fun c o q => hk2 c o (hk c o q)
      refine ⟨s1.heap.objs.size + 5, [s1.heap.objs.size + 5, s1.heap.objs.size + 4, s1.heap.objs.size + 2, s1.heap.objs.size + 3, s1.heap.objs.size, s1.heap.objs.size + 1], _, _, H1, rfl, I2,
        turn_enumZ (PySem.W.ktu_apart s1.heap.objs.size a b la lb) (show (s1.heap.objs.size + 5 : Nat) ≠ s1.heap.objs.size + 4 by omega) (show (s1.heap.objs.size + 5 : Nat) ≠ s1.heap.objs.size + 2 by omega) (show (s1.heap.objs.size + 5 : Nat) ≠ s1.heap.objs.size + 3 by omega) (show (s1.heap.objs.size + 5 : Nat) ≠ s1.heap.objs.size by omega) (show (s1.heap.objs.size + 5 : Nat) ≠ s1.heap.objs.size + 1 by omega),
        ⟨⟨.none, he⟩, ⟨.none, false, hk2 _ _ hz, .inl rfl⟩, hk2 _ _ hTI, ⟨_, _, hk2 _ _ hTO⟩, h1.at fun o q => hk2 _ _ q, h2.at fun o q => hk2 _ _ q⟩, fun c hcm => ?_, q⟩
      have e' : c = s1.heap.objs.size + 5 ∨ c = s1.heap.objs.size + 4 ∨ c = s1.heap.objs.size + 2 ∨ c = s1.heap.objs.size + 3 ∨ c = s1.heap.objs.size ∨ c = s1.heap.objs.size + 1 := by simpa using hcm
      have hle : s1.heap.objs.size ≤ c := by
        rcases e' with z | z | z | z | z | z <;> rw [z] <;> first | exact Nat.le_add_right _ _ | exact Nat.le_refl _
      exact I1.fpOk hle (I1.hok.fresh hle)
def fEnumZ (fa : FA) : FI := fun e => (fa e).bind fun p => match p.1 with
  | [.lst as, .lst bs] => some (enumD 0 (zipD as bs), p.2)
  | _ => none
section
variable {ι : Type} {X : ι → Cx} {x : Kx} {e e2 : Expr} {ga : FA} {p p2 pos pos2 tpos : Pos} {elts : List Expr} {kk : Nat}
theorem iEnumZ_ (hK : ∀ i, (X i).K = x.K) (hg0 : ∀ i, Gl (X i) "enumerate") (hm0 : ∀ i, (X i).mg "enumerate" = none) (hg : ∀ i, Gl (X i) "zip") (hm : ∀ i, (X i).mg "zip" = none) (ha : DA X x [e, e2] ga)
    (hs0 : ∀ i, starEach [Expr.Call (.Name "zip" p) [e, e2] [] pos] (X i).env = [(false, eval (Expr.Call (.Name "zip" p) [e, e2] [] pos) (X i).env)] := by intro _; rfl)
    (hs : ∀ i, starEach [e, e2] (X i).env = (false, eval e (X i).env) :: starEach [e2] (X i).env := by intro _; rfl) (hpl : ∀ i, (backTo pos (starEach [e2] (X i).env)).any (·.1) = false := by intro _; rfl) :
    DI X x (.Tuple elts kk tpos) (.Call (.Name "enumerate" p2) [.Call (.Name "zip" p) [e, e2] [] pos] [] pos2) (fEnumZ ga) := by
  obtain ⟨t, hp, hr⟩ := ha
  refine ⟨iEnumZ x.K t, fun i => by have := pi_enumZ (p := p) (pos := pos) (p2 := p2) (pos2 := pos2) (tpos := tpos) (elts := elts) (kk := kk) (hg0 i) (hm0 i) (hg i) (hm i) (hp i) (hs0 i) (hs i) (hpl i); rw [hK i] at this; exact this, fun F H env σ R ds env' s q k2 => ?_⟩
  unfold fEnumZ at q
  obtain ⟨⟨vs, e1⟩, q1, q⟩ := Option.bind_eq_some_iff.mp q
  refine hr F H env σ _ vs e1 s q1 fun F1 H1 us st1 s1 r1 => ?_
  obtain ⟨as, bs, rfl, hq⟩ : ∃ as bs, vs = [.lst as, .lst bs] ∧ some (enumD 0 (zipD as bs), e1) = some (ds, env') := by
    match vs, q with
    | [.lst as, .lst bs], q => exact ⟨as, bs, rfl, q⟩
  cases hq
  cases r1 with
  | cons r1 r2 =>
    cases r2 with
    | cons r2 r3 =>
      cases r3
      cases r1 with
      | @lst a xs _ h r =>
        cases r2 with
        | @lst b ys _ h' r' =>
          have sa : ∀ F2 H2, Same F1 F2 → Same F2 H2 → SqL x.K H2 a xs ∧ SqL x.K H2 b ys := fun F2 H2 h1 h2 => ⟨SqL.of (h2 _ _ (h1 _ _ h)), SqL.of (h2 _ _ (h1 _ _ h'))⟩
          have hl : (enumD 0 (zipD as bs)).length = min xs.length ys.length := by rw [enumD_len, zipD_len, r.len, r'.len]
          refine ⟨a, b, xs, ys, rfl, SqL.of (s1.good _ _ h), SqL.of (s1.good _ _ h'), k2 F1 H1 _ st1 s1 ⟨fun F2 H2 i h1 h2 hi => ?_, fun F2 H2 h1 h2 => ?_, fun F2 H2 i v H3 d h1 h2 hd hy => ?_⟩⟩
          · obtain ⟨q1, q2⟩ := sa F2 H2 h1 h2
            have i1 : i < xs.length := by omega
            have i2 : i < ys.length := by omega
            exact ⟨xs, ys, xs[i], ys[i], q1, q2, by simp [i1], by simp [i2]⟩
          · obtain ⟨q1, q2⟩ := sa F2 H2 h1 h2
            exact ⟨xs, ys, q1, q2, by omega⟩
          · obtain ⟨q1, q2⟩ := sa F2 H2 h1 h2
            obtain ⟨T1, T2, u, v', rfl, n2, n1, rfl, g1, g2⟩ := hy
            obtain ⟨d', h3, rfl⟩ := enumD_get hd
            obtain ⟨d1, d2, h4, h5, rfl⟩ := zipD_get h3
            obtain ⟨u', h6, r6⟩ := r.get h4
            obtain ⟨v2, h7, r7⟩ := r'.get h5
            rw [g1 xs q1] at h6; cases h6
            rw [g2 ys q2] at h7; cases h7
            have gr1 : Grow F2 H2 (upd F2 T2 (.tup [u, v'])) (upd H2 T2 (.tup [u, v'])) := Grow.new h2 n2
            have gr2 : Grow (upd F2 T2 (.tup [u, v'])) (upd H2 T2 (.tup [u, v'])) (upd (upd F2 T2 (.tup [u, v'])) T1 (.tup [.int (i : Nat), .ref T2])) (upd (upd H2 T2 (.tup [u, v'])) T1 (.tup [.int (i : Nat), .ref T2])) := Grow.new gr1.good n1
            have rp : Rep x (upd F2 T2 (.tup [u, v'])) (.tup [d1, d2]) (.ref T2) := .tup (SqT.of upd_same) (.cons ((r6.mono h1).mono gr1.fF) (.cons ((r7.mono h1).mono gr1.fF) .nil))
            rw [Nat.zero_add]
            exact ⟨_, gr1.trans gr2, .tup (SqT.of upd_same) (.cons (.int _) (.cons (rp.mono gr2.fF) .nil))⟩
end
end Vd

end

section
set_option Elab.async false
set_option linter.all false
set_option maxRecDepth 100000
set_option maxHeartbeats 2000000
/-! Lh: operations of values: arithmetic, comparison, membership, subscripts. -/
namespace Vd
open PySem PySem.Spec PyProof.Rows L2 Vd0

section
variable {X : Cx} {x : Kx}
/-! ### a new list of frozen items -/
theorem kk_lst {F H : Hp} {Q : VK} {d : D} {xs : List V} {ds : List D} (g : Same F H) (r : RepL x F ds xs) (hd : d = .lst ds) (kk : ∀ F' H' z, Grow F H F' H' → Rep x F' d z → Q z H') : ∀ p, H p = none → Q (.ref p) (upd H p (.lst xs)) := fun p np => by
  subst hd
  have g2 : Grow F H (upd F p (.lst xs)) (upd H p (.lst xs)) := Grow.new g np
  exact kk _ _ _ g2 (.lst upd_same (r.mono g2.fF))
theorem kk_tup {F H : Hp} {Q : VK} {d : D} {xs : List V} {ds : List D} (g : Same F H) (r : RepL x F ds xs) (hd : d = .tup ds) (kk : ∀ F' H' z, Grow F H F' H' → Rep x F' d z → Q z H') : ∀ p, H p = none → Q (.ref p) (upd H p (.tup xs)) := fun p np => by
  subst hd
  have g2 : Grow F H (upd F p (.tup xs)) (upd H p (.tup xs)) := Grow.new g np
  exact kk _ _ _ g2 (.tup (SqT.of upd_same) (r.mono g2.fF))
theorem kk_same {F H : Hp} {Q : VK} {d : D} {z : V} (g : Same F H) (r : Rep x F d z) (kk : ∀ F' H' z, Grow F H F' H' → Rep x F' d z → Q z H') : Q z H := kk F H z (Grow.refl g) r

/-! ### arithmetic -/
def vAdd : D → D → Option D
  | .int i, .int j => some (.int (i + j))
  | .str a, .str b => if a.length + b.length ≤ 100000 then some (.str (a ++ b)) else none
  | .lst a, .lst b => if a.length + b.length ≤ 100000 then some (.lst (a ++ b)) else none
  | _, _ => none
def rAdd : R2 := fun x y H Q => rI0 (fun i j => .int (i + j)) x y H Q ∨ ((∃ i j, x = .str i ∧ y = .str j ∧ i.length + j.length ≤ sizeLine ∧ Q (.str (i ++ j)) H) ∨ rCat x y H Q)
theorem opr_add : OpR X (binaryOp .Add) rAdd := op_add.or (op_add_str.or op_cat)
theorem opd_add : OpD x rAdd vAdd := fun F H u v da db d Q g hu hv q kk => by
  cases hu with
  | int i =>
    cases hv with
    | int j => cases q; exact .inl ⟨i, j, rfl, rfl, kk_same g (.int _) kk⟩
    | _ => cases q
  | str i =>
    cases hv with
    | str j =>
      have q : (if i.length + j.length ≤ 100000 then some (D.str (i ++ j)) else none) = some d := q
      split at q
      · cases q; exact .inr (.inl ⟨i, j, rfl, rfl, size_ok ‹_›, kk_same g (.str _) kk⟩)
      · cases q
    | _ => cases q
  | @lst a xs ds h r =>
    cases hv with
    | @lst b ys es h' r' =>
      have q : (if ds.length + es.length ≤ 100000 then some (D.lst (ds ++ es)) else none) = some d := q
      split at q
      · cases q; exact .inr (.inr ⟨a, b, xs, ys, rfl, rfl, h, h', size_ok (by rw [r.len, r'.len]; assumption), kk_lst g (r.app r') rfl kk⟩)
      · cases q
    | _ => cases q
  | _ => cases q
def vSub : D → D → Option D
  | .int i, .int j => some (.int (i - j))
  | _, _ => none
theorem opd_sub : OpD x (rI0 fun i j => .int (i - j)) vSub := fun F H u v da db d Q g hu hv q kk => by
  cases hu with
  | int i =>
    cases hv with
    | int j => cases q; exact ⟨i, j, rfl, rfl, kk_same g (.int _) kk⟩
    | _ => cases q
  | _ => cases q
instance (i j : Int) : Decidable (CMulW i j) := by unfold CMulW; infer_instance
instance (i j : Int) : Decidable (CMul i j) := by unfold CMul; infer_instance
instance (i j : Int) : Decidable (CDivW i j) := by unfold CDivW; infer_instance
instance (i j : Int) : Decidable (CPow i j) := by unfold CPow; infer_instance
def vMul : D → D → Option D
  | .int i, .int j => if CMulW i j ∨ CMul i j then some (.int (i * j)) else none
  | .lst a, .int k => if -(2 ^ 63) ≤ k ∧ k < 2 ^ 63 ∧ a.length * k.toNat ≤ 100000 then some (.lst (List.replicate k.toNat a).flatten) else none
  | _, _ => none
def rMul : R2 := fun x y H Q => rI CMulW (fun i j => .int (i * j)) x y H Q ∨ (rI CMul (fun i j => .int (i * j)) x y H Q ∨ rRep x y H Q)
theorem opr_mul : OpR X (binaryOp .Mult) rMul := op_mulW.or (op_mul.or op_rep)
theorem RepL.rep {F : Hp} {ds : List D} {vs : List V} (r : RepL x F ds vs) : ∀ k : Nat, RepL x F (List.replicate k ds).flatten (List.replicate k vs).flatten
  | 0 => .nil
  | k + 1 => by
    rw [List.replicate_succ, List.replicate_succ, List.flatten_cons, List.flatten_cons]
    exact r.app (RepL.rep r k)
theorem opd_mul : OpD x rMul vMul := fun F H u v da db d Q g hu hv q kk => by
  cases hu with
  | int i =>
    cases hv with
    | int j =>
      have q : (if CMulW i j ∨ CMul i j then some (D.int (i * j)) else none) = some d := q
      split at q
      · rename_i c
        cases q
        rcases c with c | c
        · exact .inl ⟨i, j, rfl, rfl, c, kk_same g (.int _) kk⟩
        · exact .inr (.inl ⟨i, j, rfl, rfl, c, kk_same g (.int _) kk⟩)
      · cases q
    | _ => cases q
  | @lst a xs ds h r =>
    cases hv with
    | int k =>
      have q : (if -(2 ^ 63) ≤ k ∧ k < 2 ^ 63 ∧ ds.length * k.toNat ≤ 100000 then some (D.lst (List.replicate k.toNat ds).flatten) else none) = some d := q
      split at q
      · rename_i c
        cases q; exact .inr (.inr ⟨a, k, xs, rfl, rfl, h, c.1, c.2.1, size_ok (by rw [r.len]; exact c.2.2), kk_lst g (r.rep _) rfl kk⟩)
      · cases q
    | _ => cases q
  | _ => cases q
def vDiv : D → D → Option D
  | .int i, .int j => if CDivW i j then some (.int (i / j)) else none
  | _, _ => none
theorem opd_int {C : Int → Int → Prop} [∀ i j, Decidable (C i j)] {f : Int → Int → Int} {o : D → D → Option D} (ho : ∀ i j, o (.int i) (.int j) = if C i j then some (.int (f i j)) else none)
    (h1 : ∀ u v, (∀ i, u ≠ .int i) → o u v = none) (h2 : ∀ i v, (∀ j, v ≠ .int j) → o (.int i) v = none) : OpD x (rI C fun i j => .int (f i j)) o := fun F H u v da db d Q g hu hv q kk => by
  cases hu with
  | int i =>
    cases hv with
    | int j =>
      rw [ho] at q
      split at q
      · cases q; exact ⟨i, j, rfl, rfl, ‹_›, kk_same g (.int _) kk⟩
      · cases q
    | _ => rw [h2 _ _ (by intro j e; cases e)] at q; cases q
  | _ => rw [h1 _ _ (by intro j e; cases e)] at q; cases q
theorem no_ii {α : Type} {f : Int → Int → Option α} (o : D → D → Option α) (h : o = fun a b => match a, b with | .int i, .int j => f i j | _, _ => none) : (∀ u v, (∀ i, u ≠ .int i) → o u v = none) ∧ ∀ i v, (∀ j, v ≠ .int j) → o (.int i) v = none := by
  subst h
  refine ⟨fun u v hu => ?_, fun i v hv => ?_⟩
  · cases u <;> first | rfl | exact absurd rfl (hu _)
  · cases v <;> first | rfl | exact absurd rfl (hv _)
theorem opd_div : OpD x (rI CDivW fun i j => .int (i / j)) vDiv := opd_int (fun _ _ => rfl) (no_ii vDiv (by funext a b; unfold vDiv; rfl)).1 (no_ii vDiv (by funext a b; unfold vDiv; rfl)).2
def vMod : D → D → Option D
  | .int i, .int j => if 0 < j then some (.int (i % j)) else none
  | _, _ => none
theorem opd_mod : OpD x (rI (fun _ j => 0 < j) fun i j => .int (i % j)) vMod := opd_int (fun _ _ => rfl) (no_ii vMod (by funext a b; unfold vMod; rfl)).1 (no_ii vMod (by funext a b; unfold vMod; rfl)).2
def vPow : D → D → Option D
  | .int i, .int j => if CPow i j then some (.int (i ^ j.toNat)) else none
  | _, _ => none
theorem opd_pow : OpD x (rI CPow fun i j => .int (i ^ j.toNat)) vPow := opd_int (fun _ _ => rfl) (no_ii vPow (by funext a b; unfold vPow; rfl)).1 (no_ii vPow (by funext a b; unfold vPow; rfl)).2
def vNeg : D → Option D
  | .int i => some (.int (-i))
  | _ => none
theorem opd_neg : UnD x (rU fun i => .int (-i)) vNeg := fun F H u da d Q g hu q kk => by
  cases hu with
  | int i => cases q; exact ⟨i, rfl, kk_same g (.int _) kk⟩
  | _ => cases q

/-! ### order -/
theorem opd_cmp {f : Int → Int → Bool} {o : D → D → Option D} (ho : ∀ i j, o (.int i) (.int j) = some (.bl (f i j)))
    (h : (∀ u v, (∀ i, u ≠ .int i) → o u v = none) ∧ ∀ i v, (∀ j, v ≠ .int j) → o (.int i) v = none) : OpD x (rI0 fun i j => .bl (f i j)) o := fun F H u v da db d Q g hu hv q kk => by
  cases hu with
  | int i =>
    cases hv with
    | int j =>
      rw [ho] at q
      cases q; exact ⟨i, j, rfl, rfl, kk_same g (.bl _) kk⟩
    | _ => rw [h.2 _ _ (by intro j e; cases e)] at q; cases q
  | _ => rw [h.1 _ _ (by intro j e; cases e)] at q; cases q
def vLt : D → D → Option D
  | .int i, .int j => some (.bl (decide (i < j)))
  | _, _ => none
def vLe : D → D → Option D
  | .int i, .int j => some (.bl (decide (i ≤ j)))
  | _, _ => none
def vGt : D → D → Option D
  | .int i, .int j => some (.bl (decide (j < i)))
  | _, _ => none
def vGe : D → D → Option D
  | .int i, .int j => some (.bl (decide (j ≤ i)))
  | _, _ => none
theorem opd_lt : OpD x (rI0 fun i j => .bl (decide (i < j))) vLt := opd_cmp (fun _ _ => rfl) (no_ii vLt (by funext a b; unfold vLt; rfl))
theorem opd_le : OpD x (rI0 fun i j => .bl (decide (i ≤ j))) vLe := opd_cmp (fun _ _ => rfl) (no_ii vLe (by funext a b; unfold vLe; rfl))
theorem opd_gt : OpD x (rI0 fun i j => .bl (decide (j < i))) vGt := opd_cmp (fun _ _ => rfl) (no_ii vGt (by funext a b; unfold vGt; rfl))
theorem opd_ge : OpD x (rI0 fun i j => .bl (decide (j ≤ i))) vGe := opd_cmp (fun _ _ => rfl) (no_ii vGe (by funext a b; unfold vGe; rfl))

/-! ### equality -/
mutual
def toP : D → Option PyData
  | .non => some .none
  | .bl b => some (.bool b)
  | .int i => some (.int i)
  | .str z => some (.str z)
  | .scr ns => some (.list (ns.map .int))
  | .lst ds => (toPs ds).map .list
  | .tup ds => (toPs ds).map .tuple
  | .dic _ => none
  | .ins _ _ => none
def toPs : List D → Option (List PyData)
  | [] => some []
  | d :: ds => (toP d).bind fun a => (toPs ds).map fun r => a :: r
end
theorem dpi {K : PySem.W.Frag} {H : Hp} : ∀ ns : List Int, DpAll K H (ns.map V.int) (ns.map PyData.int)
  | [] => .nil
  | n :: ns => .cons (.int n) (dpi ns)
mutual
theorem Rep.dp {F H : Hp} (g : Same F H) : ∀ {d : D} {v : V} {p : PyData}, Rep x F d v → toP d = some p → Dp x.K H v p
  | _, _, _, .non, q => by simp only [toP] at q; cases q; exact .non
  | _, _, _, .bl b, q => by simp only [toP] at q; cases q; exact .bl b
  | _, _, _, .int i, q => by simp only [toP] at q; cases q; exact .int i
  | _, _, _, .str z, q => by simp only [toP] at q; cases q; exact .str z
  | _, _, _, .scr h, q => by simp only [toP] at q; cases q; exact .lst (g.seq h) (dpi _)
  | _, _, _, .lst h r, q => by
    simp only [toP] at q
    obtain ⟨ps, q1, q2⟩ := Option.map_eq_some_iff.mp q
    cases q2
    exact .lst (SqL.of (g _ _ h)) (RepL.dp g r q1)
  | _, _, _, .tup h r, q => by
    simp only [toP] at q
    obtain ⟨ps, q1, q2⟩ := Option.map_eq_some_iff.mp q
    cases q2
    exact .tup (same_t g h) (RepL.dp g r q1)
  | _, _, _, .dic _ _, q => by simp only [toP] at q; cases q
  | _, _, _, .ins _ _, q => by simp only [toP] at q; cases q
theorem RepL.dp {F H : Hp} (g : Same F H) : ∀ {ds : List D} {vs : List V} {ps : List PyData}, RepL x F ds vs → toPs ds = some ps → DpAll x.K H vs ps
  | _, _, _, .nil, q => by simp only [toPs] at q; cases q; exact .nil
  | _, _, _, .cons h r, q => by
    simp only [toPs] at q
    obtain ⟨a, q1, q⟩ := Option.bind_eq_some_iff.mp q
    obtain ⟨b, q2, q3⟩ := Option.map_eq_some_iff.mp q
    cases q3
    exact .cons (Rep.dp g h q1) (RepL.dp g r q2)
end
theorem View.dp {F H : Hp} (g : Same F H) {d : D} {v : V} {p : PyData} (h : View x F H d v) (q : toP d = some p) : Dp x.K H v p := by
  cases h with
  | non => simp only [toP] at q; cases q; exact .non
  | bl b => simp only [toP] at q; cases q; exact .bl b
  | int i => simp only [toP] at q; cases q; exact .int i
  | str z => simp only [toP] at q; cases q; exact .str z
  | scr h => simp only [toP] at q; cases q; exact .lst h (dpi _)
  | lst h r =>
    simp only [toP] at q
    obtain ⟨ps, q1, q2⟩ := Option.map_eq_some_iff.mp q
    cases q2
    exact .lst (SqL.of h) (RepL.dp g r q1)
  | tup h r =>
    simp only [toP] at q
    obtain ⟨ps, q1, q2⟩ := Option.map_eq_some_iff.mp q
    cases q2
    exact .tup h (RepL.dp g r q1)
  | dic h r => simp only [toP] at q; cases q
  | ins h r => simp only [toP] at q; cases q
def eqD (a b : D) : Option Bool := (toP a).bind fun p => (toP b).bind fun q => if SeqAt.shaped p = true ∧ SeqAt.shaped q = true then some (PyData.eqv p q) else none
def vEq (a b : D) : Option D := (eqD a b).map .bl
def vNe (a b : D) : Option D := (eqD a b).map fun r => .bl (!r)
theorem eqD_dp {F H : Hp} (g : Same F H) {da db : D} {u v : V} {r : Bool} (hu : View x F H da u) (hv : View x F H db v) (q : eqD da db = some r) :
    ∃ d e, Dp x.K H u d ∧ Dp x.K H v e ∧ SeqAt.shaped d = true ∧ SeqAt.shaped e = true ∧ r = PyData.eqv d e := by
  unfold eqD at q
  obtain ⟨p, q1, q⟩ := Option.bind_eq_some_iff.mp q
  obtain ⟨p2, q2, q⟩ := Option.bind_eq_some_iff.mp q
  split at q
  · rename_i c
    cases q
    exact ⟨p, p2, hu.dp g q1, hv.dp g q2, c.1, c.2, rfl⟩
  · cases q
theorem opd_eq : OpD x (rEqD x.K) vEq := fun F H u v da db d Q g hu hv q kk => by
  obtain ⟨r, q1, q2⟩ := Option.map_eq_some_iff.mp q
  cases q2
  obtain ⟨d, e, h1, h2, h3, h4, rfl⟩ := eqD_dp g hu hv q1
  exact ⟨d, e, h1, h2, h3, h4, kk_same g (.bl _) kk⟩
theorem opd_ne : OpD x (rNeD x.K) vNe := fun F H u v da db d Q g hu hv q kk => by
  obtain ⟨r, q1, q2⟩ := Option.map_eq_some_iff.mp q
  cases q2
  obtain ⟨d, e, h1, h2, h3, h4, rfl⟩ := eqD_dp g hu hv q1
  exact ⟨d, e, h1, h2, h3, h4, kk_same g (.bl _) kk⟩
/-! ### is None -/
def isNon : D → Bool
  | .non => true
  | _ => false
def vIs : D → D → Option D
  | a, .non => some (.bl (isNon a))
  | _, _ => none
def vIsN : D → D → Option D
  | a, .non => some (.bl (!isNon a))
  | _, _ => none
theorem view_non {F H : Hp} {d : D} {v : V} (h : View x F H d v) : decide (v = .non) = isNon d := by
  cases h <;> first | rfl | exact decide_eq_false (fun e => nomatch e)
theorem opd_is : OpD x (fun x y H Q => y = .non ∧ Q (.bl (decide (x = .non))) H) vIs := fun F H u v da db d Q g hu hv q kk => by
  cases hv with
  | non =>
    have q : some (D.bl (isNon da)) = some d := q
    cases q
    refine ⟨rfl, ?_⟩
    rw [view_non hu]
    exact kk_same g (.bl _) kk
  | _ => cases q
theorem opd_isn : OpD x (fun x y H Q => y = .non ∧ Q (.bl (!decide (x = .non))) H) vIsN := fun F H u v da db d Q g hu hv q kk => by
  cases hv with
  | non =>
    have q : some (D.bl (!isNon da)) = some d := q
    cases q
    refine ⟨rfl, ?_⟩
    rw [view_non hu]
    exact kk_same g (.bl _) kk
  | _ => cases q
end
end Vd

end

section
set_option Elab.async false
set_option linter.all false
set_option maxRecDepth 100000
set_option maxHeartbeats 2000000
/-! Li: membership, subscripts, slices. -/
namespace Vd
open PySem PySem.Spec PyProof.Rows L2 Vd0

/-! ### lists of ints, of texts -/
def toInts : List D → Option (List Int)
  | [] => some []
  | .int i :: ds => (toInts ds).map fun r => i :: r
  | _ :: _ => none
def toStrs : List D → Option (List Str)
  | [] => some []
  | .str i :: ds => (toStrs ds).map fun r => i :: r
  | _ :: _ => none
def toBls : List D → Option (List Bool)
  | [] => some []
  | .bl i :: ds => (toBls ds).map fun r => i :: r
  | _ :: _ => none
theorem toInts_map : ∀ ns : List Int, toInts (ns.map D.int) = some ns
  | [] => rfl
  | n :: ns => by rw [List.map_cons]; show (toInts (ns.map D.int)).map _ = _; rw [toInts_map ns]; rfl
theorem toStrs_map : ∀ ns : List Str, toStrs (ns.map D.str) = some ns
  | [] => rfl
  | n :: ns => by rw [List.map_cons]; show (toStrs (ns.map D.str)).map _ = _; rw [toStrs_map ns]; rfl
theorem toBls_map : ∀ ns : List Bool, toBls (ns.map D.bl) = some ns
  | [] => rfl
  | n :: ns => by rw [List.map_cons]; show (toBls (ns.map D.bl)).map _ = _; rw [toBls_map ns]; rfl
theorem toInts_of : ∀ {ds : List D} {ns : List Int}, toInts ds = some ns → ds = ns.map D.int
  | [], ns, h => by cases h; rfl
  | d :: ds, ns, h => by
    cases d with
    | int i =>
      obtain ⟨r, h1, h2⟩ := Option.map_eq_some_iff.mp (show (toInts ds).map (fun r => i :: r) = some ns from h)
      subst h2
      rw [toInts_of h1]
      rfl
    | _ => cases h
theorem toStrs_of : ∀ {ds : List D} {ns : List Str}, toStrs ds = some ns → ds = ns.map D.str
  | [], ns, h => by cases h; rfl
  | d :: ds, ns, h => by
    cases d with
    | str i =>
      obtain ⟨r, h1, h2⟩ := Option.map_eq_some_iff.mp (show (toStrs ds).map (fun r => i :: r) = some ns from h)
      subst h2
      rw [toStrs_of h1]
      rfl
    | _ => cases h
theorem toBls_of : ∀ {ds : List D} {ns : List Bool}, toBls ds = some ns → ds = ns.map D.bl
  | [], ns, h => by cases h; rfl
  | d :: ds, ns, h => by
    cases d with
    | bl i =>
      obtain ⟨r, h1, h2⟩ := Option.map_eq_some_iff.mp (show (toBls ds).map (fun r => i :: r) = some ns from h)
      subst h2
      rw [toBls_of h1]
      rfl
    | _ => cases h
theorem flat_ints : ∀ ns : List Int, (ns.map V.int).all flatV = true
  | [] => rfl
  | n :: ns => by rw [List.map_cons, List.all_cons, flat_ints ns]; rfl
theorem flat_strs : ∀ ns : List Str, (ns.map V.str).all flatV = true
  | [] => rfl
  | n :: ns => by rw [List.map_cons, List.all_cons, flat_strs ns]; rfl
theorem inV_int (i : Int) : ∀ ns : List Int, inV (.int i) (ns.map V.int) = decide (i ∈ ns)
  | [] => rfl
  | n :: ns => by
    have ih := inV_int i ns
    unfold inV at ih ⊢
    rw [List.map_cons, List.any_cons, ih, show eqV (V.int n) (V.int i) = (n == i) from rfl]
    by_cases h : n = i
    · subst h; simp
    · have : ¬ i = n := fun e => h e.symm
      simp [h, this]
theorem inV_str (i : Str) : ∀ ns : List Str, inV (.str i) (ns.map V.str) = decide (i ∈ ns)
  | [] => rfl
  | n :: ns => by
    have ih := inV_str i ns
    unfold inV at ih ⊢
    rw [List.map_cons, List.any_cons, ih, show eqV (V.str n) (V.str i) = (n == i) from rfl]
    by_cases h : n = i
    · subst h; simp
    · have : ¬ i = n := fun e => h e.symm
      simp [h, this]
def valD (kvs : List (Key × D)) (k : Key) : Option D := (kvs.find? fun kv => decide (kv.1 = k)).map (·.2)
section
variable {X : Cx} {x : Kx}
theorem RepK.val {F : Hp} {k : Key} : ∀ {ds : List (Key × D)} {vs : List (Key × V)}, RepK x F ds vs → (valV vs k = none ∧ valD ds k = none) ∨ ∃ v d, valV vs k = some v ∧ valD ds k = some d ∧ Rep x F d v
  | _, _, .nil => .inl ⟨rfl, rfl⟩
  | _, _, @RepK.cons _ _ k' d' v' ds vs h r => by
    have ih := RepK.val (k := k) r
    unfold valV valD at ih ⊢
    rw [List.find?_cons, List.find?_cons]
    by_cases e : k' = k
    · subst e
      simp only [decide_true]
      exact .inr ⟨_, _, rfl, rfl, h⟩
    · simp only [e, decide_false]
      exact ih
theorem view_key {F H : Hp} {d : D} {v : V} {k : Key} (r : View x F H d v) (h : keyOf d = some k) : v = kV k := by
  cases r <;> cases h <;> rfl

/-! ### in -/
def vInB : D → D → Option Bool
  | .int i, .lst ds => (toInts ds).map fun ns => decide (i ∈ ns)
  | .int i, .tup ds => (toInts ds).map fun ns => decide (i ∈ ns)
  | .str i, .lst ds => (toStrs ds).map fun ns => decide (i ∈ ns)
  | .str i, .tup ds => (toStrs ds).map fun ns => decide (i ∈ ns)
  | .str i, .str j => some (!(Builtin.Str.occurrences j i 0 j.length 1).isEmpty)
  | a, .dic kvs => (keyOf a).map fun k => (valD kvs k).isSome
  | _, _ => none
def vIn (a b : D) : Option D := (vInB a b).map .bl
def vNin (a b : D) : Option D := (vInB a b).map fun r => .bl (!r)
def rInU (K : PySem.W.Frag) (neg : Bool) : R2 := fun u v H Q => rIn K neg u v H Q ∨ ((∃ i j, u = .str i ∧ v = .str j ∧ Q (.bl (if neg then !(!(Builtin.Str.occurrences j i 0 j.length 1).isEmpty) else !(Builtin.Str.occurrences j i 0 j.length 1).isEmpty)) H) ∨
  ∃ a o, v = .ref a ∧ DGet H a u o ∧ Q (.bl (if neg then !o.isSome else o.isSome)) H)
theorem opr_in (hu : X.A.units + 1 < cLine) : OpR X (compareOp .In) (rInU X.K false) := by
  intro pins s σ H u v u' v' Q I ru rv h
  rcases h with h | h | ⟨a, o, rfl, g, q⟩
  · exact op_in_seq pins s σ H u v u' v' Q I ru rv h
  · exact op_in_str pins s σ H u v u' v' Q I ru rv h
  · obtain rfl : v' = Value.ref a := rv
    exact d_in hu I g ru fun s' I' => ⟨.bl _, H, I', rfl, q⟩
theorem opr_nin (hu : X.A.units + 1 < cLine) : OpR X (compareOp .NotIn) (rInU X.K true) := by
  intro pins s σ H u v u' v' Q I ru rv h
  rcases h with h | h | ⟨a, o, rfl, g, q⟩
  · exact op_notIn_seq pins s σ H u v u' v' Q I ru rv h
  · exact L2.op_notIn_str pins s σ H u v u' v' Q I ru rv h
  · obtain rfl : v' = Value.ref a := rv
    exact d_notIn hu I g ru fun s' I' => ⟨.bl _, H, I', rfl, q⟩
theorem in_run {neg : Bool} {F H : Hp} {u v : V} {da db : D} {r : Bool} {Q : VK} (g : Same F H) (hu : View x F H da u) (hv : View x F H db v) (q : vInB da db = some r) (kk : Q (.bl (if neg then !r else r)) H) : rInU x.K neg u v H Q := by
  have hd : ∀ {a : D} {kvs : List (Key × D)} {u : V} {b : Addr} {vs : List (Key × V)}, View x F H a u → H b = some (.dK vs) → RepK x F kvs vs → (keyOf a).map (fun k => (valD kvs k).isSome) = some r → rInU x.K neg u (.ref b) H Q := fun {a kvs u b vs} h1 h2 h3 h4 => by
    obtain ⟨k, h5, h6⟩ := Option.map_eq_some_iff.mp h4
    rw [view_key h1 h5]
    refine .inr (.inr ⟨b, _, rfl, DGet.k h2, ?_⟩)
    rcases h3.val (k := k) with ⟨e1, e2⟩ | ⟨v, d, e1, e2, _⟩
    · rw [e1, ← (show (none : Option D).isSome = (none : Option V).isSome from rfl), ← e2, h6]; exact kk
    · rw [e1, ← (show (some d : Option D).isSome = (some v : Option V).isSome from rfl), ← e2, h6]; exact kk
  cases hu with
  | int i =>
    cases hv with
    | @lst a xs ds h r1 =>
      obtain ⟨ns, h1, h2⟩ := Option.map_eq_some_iff.mp (show (toInts ds).map (fun ns => decide (i ∈ ns)) = some r from q)
      have e := toInts_of h1
      subst e
      have e2 := r1.ints
      subst e2
      refine .inl ⟨a, _, rfl, .inl (SqL.of h), rfl, flat_ints ns, ?_⟩
      rw [inV_int, h2]; exact kk
    | @tup a xs ds h r1 =>
      obtain ⟨ns, h1, h2⟩ := Option.map_eq_some_iff.mp (show (toInts ds).map (fun ns => decide (i ∈ ns)) = some r from q)
      have e := toInts_of h1
      subst e
      have e2 := r1.ints
      subst e2
      refine .inl ⟨a, _, rfl, .inr h, rfl, flat_ints ns, ?_⟩
      rw [inV_int, h2]; exact kk
    | dic h r1 => exact hd (.int i) h r1 q
    | _ => cases q
  | str i =>
    cases hv with
    | @lst a xs ds h r1 =>
      obtain ⟨ns, h1, h2⟩ := Option.map_eq_some_iff.mp (show (toStrs ds).map (fun ns => decide (i ∈ ns)) = some r from q)
      have e := toStrs_of h1
      subst e
      have e2 := r1.strs
      subst e2
      refine .inl ⟨a, _, rfl, .inl (SqL.of h), rfl, flat_strs ns, ?_⟩
      rw [inV_str, h2]; exact kk
    | @tup a xs ds h r1 =>
      obtain ⟨ns, h1, h2⟩ := Option.map_eq_some_iff.mp (show (toStrs ds).map (fun ns => decide (i ∈ ns)) = some r from q)
      have e := toStrs_of h1
      subst e
      have e2 := r1.strs
      subst e2
      refine .inl ⟨a, _, rfl, .inr h, rfl, flat_strs ns, ?_⟩
      rw [inV_str, h2]; exact kk
    | str j =>
      have q : some (!(Builtin.Str.occurrences j i 0 j.length 1).isEmpty) = some r := q
      cases q
      exact .inr (.inl ⟨i, j, rfl, rfl, kk⟩)
    | dic h r1 => exact hd (.str i) h r1 q
    | _ => cases q
  | _ => cases hv <;> first | (cases q; done) | exact absurd q (by simp [vInB, keyOf])
theorem opd_in : OpD x (rInU x.K false) vIn := fun F H u v da db d Q g hu hv q kk => by
  obtain ⟨r, q1, q2⟩ := Option.map_eq_some_iff.mp q
  cases q2
  exact in_run g hu hv q1 (kk_same g (.bl _) kk)
theorem opd_nin : OpD x (rInU x.K true) vNin := fun F H u v da db d Q g hu hv q kk => by
  obtain ⟨r, q1, q2⟩ := Option.map_eq_some_iff.mp q
  cases q2
  exact in_run (neg := true) g hu hv q1 (kk_same g (.bl _) kk)

/-! ### a[b] -/
def vIx : D → D → Option D
  | .lst ds, .int i => atI ds i
  | .tup ds, .int i => atI ds i
  | .scr ns, .int i => (atI ns i).map .int
  | .str z, .int i => if z.length ≤ 100000 then (atI z.cps.toList i).map fun c => .str ⟨#[c]⟩ else none
  | .dic kvs, a => (keyOf a).bind fun k => valD kvs k
  | _, _ => none
theorem RepL.atI {F : Hp} {ds : List D} {vs : List V} {i : Int} {d : D} (r : RepL x F ds vs) (h : L2.atI ds i = some d) : ∃ v, L2.atI vs i = some v ∧ Rep x F d v := by
  unfold L2.atI at h ⊢
  obtain ⟨j, h1, h2⟩ := Option.bind_eq_some_iff.mp h
  obtain ⟨v, h3, h4⟩ := r.get h2
  exact ⟨v, by rw [r.len, h1]; exact h3, h4⟩
def rIxU (K : PySem.W.Frag) : R2 := fun u v H Q => rIx K u v H Q ∨ ∃ a w, u = .ref a ∧ DGet H a v (some w) ∧ Q w H
theorem pe_ixU {a b : Expr} {ta tb : TE} {pos : Pos} (hu : X.A.units + 1 < cLine) (ha : PE X a ta) (hb : PE X b tb) (hs : PlainIx b) : PE X (.Subscript a b pos) (fun σ H Q => tOp (rIx X.K) ta tb σ H Q ∨ tDGet ta tb σ H Q) :=
  ⟨fun pins s σ H Q I h => h.elim ((pe_ix ix_seq ha hb hs).run pins s σ H Q I) ((pe_dget hu ha hb hs).run pins s σ H Q I)⟩
theorem ix_run {F H : Hp} {u v : V} {da db d : D} {Q : VK} (g : Same F H) (hu : View x F H da u) (hv : View x F H db v) (q : vIx da db = some d) (kk : ∀ z, Rep x F d z → Q z H) :
    (match da with
    | .dic _ => ∃ a w, u = .ref a ∧ DGet H a v (some w) ∧ Q w H
    | _ => rIx x.K u v H Q) := by
  cases hu with
  | @lst a xs ds h r =>
    cases hv with
    | int i =>
      obtain ⟨v, h1, h2⟩ := r.atI (show L2.atI ds i = some d from q)
      exact .inl ⟨a, xs, i, v, rfl, rfl, SqL.of h, h1, kk v h2⟩
    | _ => cases q
  | @tup a xs ds h r =>
    cases hv with
    | int i =>
      obtain ⟨v, h1, h2⟩ := r.atI (show L2.atI ds i = some d from q)
      exact .inr (.inl ⟨a, xs, i, v, rfl, rfl, h, h1, kk v h2⟩)
    | _ => cases q
  | @scr a ns h =>
    cases hv with
    | int i =>
      obtain ⟨n, h1, h2⟩ := Option.map_eq_some_iff.mp (show (L2.atI ns i).map D.int = some d from q)
      subst h2
      refine .inl ⟨a, _, i, .int n, rfl, rfl, h, ?_, kk _ (.int n)⟩
      unfold L2.atI at h1 ⊢
      obtain ⟨j, h3, h4⟩ := Option.bind_eq_some_iff.mp h1
      rw [List.length_map, h3]
      show (ns.map V.int)[j]? = _
      rw [List.getElem?_map, h4]
      rfl
    | _ => cases q
  | str z =>
    cases hv with
    | int i =>
      have q : (if z.length ≤ 100000 then (L2.atI z.cps.toList i).map fun c => D.str ⟨#[c]⟩ else none) = some d := q
      split at q
      · obtain ⟨c, h1, h2⟩ := Option.map_eq_some_iff.mp q
        subst h2
        exact .inr (.inr ⟨z, i, c, rfl, rfl, size_ok ‹_›, h1, kk _ (.str _)⟩)
      · cases q
    | _ => cases q
  | @dic a kvs ds h r =>
    obtain ⟨k, h1, h2⟩ := Option.bind_eq_some_iff.mp (show (keyOf db).bind (fun k => valD ds k) = some d by cases hv <;> exact q)
    rw [view_key hv h1]
    rcases r.val (k := k) with ⟨e1, e2⟩ | ⟨w, d2, e1, e2, rr⟩
    · rw [e2] at h2; cases h2
    · rw [e2] at h2; cases h2
      exact ⟨a, w, rfl, by rw [← e1]; exact DGet.k h, kk w rr⟩
  | _ => cases hv <;> cases q
end
section
variable {ι : Type} {X : ι → Cx} {x : Kx} {a b c e : Expr} {pos : Pos}
theorem dIxU {ga gb : FO} (hK : ∀ i, (X i).K = x.K) (hu : ∀ i, (X i).A.units + 1 < cLine) (ha : DO X x a ga) (hb : DO X x b gb) (hp : PlainIx b) : DE X x (.Subscript a b pos) (fBin vIx ga gb) := by
  obtain ⟨ta, pa, ra⟩ := ha
  obtain ⟨tb, pb, rb⟩ := hb
  refine ⟨fun σ H Q => tOp (rIx x.K) ta tb σ H Q ∨ tDGet ta tb σ H Q, fun i => by have := pe_ixU (pos := pos) (hu i) (pa i) (pb i) hp; rw [hK i] at this; exact this, fun F H env σ Q d env' s q kk => ?_⟩
  unfold fBin at q
  obtain ⟨p, q1, q⟩ := Option.bind_eq_some_iff.mp q
  obtain ⟨p2, q2, q⟩ := Option.bind_eq_some_iff.mp q
  obtain ⟨da, q3, q⟩ := Option.bind_eq_some_iff.mp q
  obtain ⟨db, q4, q⟩ := Option.bind_eq_some_iff.mp q
  obtain ⟨d', q5, q⟩ := Option.map_eq_some_iff.mp q
  cases q
  have go : ∀ (R : V → V → Hp → Prop), (∀ F2 H2 u v, Same F2 H2 → View x F2 H2 da u → View x F2 H2 db v → (∀ z, Rep x F2 d z → Q z H2) → R u v H2) → ta σ H fun u H1 => tb σ H1 fun v H2 => R u v H2 := fun R hR => by
    refine ra F H env σ _ p.1 p.2 s q1 fun F1 H1 u st1 s1 o1 => ?_
    refine rb F1 H1 p.2 σ _ p2.1 p2.2 s1 q2 fun F2 H2 v st2 s2 o2 => ?_
    exact hR F2 H2 u v s2.good ((o1.mono st2.fro).view s2 q3) (o2.view s2 q4) fun z rz => kk F2 H2 z (st1.trans st2) s2 rz
  by_cases hd : ∃ kvs, da = .dic kvs
  · obtain ⟨kvs, rfl⟩ := hd
    exact .inr (go _ fun F2 H2 u v g hu hv k => ix_run g hu hv q5 k)
  · refine .inl (go _ fun F2 H2 u v g hu hv k => ?_)
    have := ix_run g hu hv q5 k
    cases da with
    | dic kvs => exact absurd ⟨kvs, rfl⟩ hd
    | _ => exact this

/-! ### slices -/
abbrev FOp := En → Option (Option Int × En)
def RfPt (x : Kx) (t : TO) (f : FOp) : Prop := ∀ (F H : Hp) (env : En) (σ : L2.St) (Q : Option Int → Hp → Prop) (o : Option Int) (env' : En), StOk x F H env σ → f env = some (o, env') →
  (∀ F' H', Step F H (Ow env σ) F' H' (Ow env' σ) → StOk x F' H' env' σ → Q o H') → t σ H Q
structure DP (X : ι → Cx) (x : Kx) (e : Option Expr) (f : FOp) : Prop where
  ex : ∃ t, (∀ i, PO (X i) e t) ∧ RfPt x t f
def fPN : FOp := fun e => some (none, e)
def fPS (f : FE) : FOp := fun e => (f e).bind fun p => match p.1 with
  | .int i => some (some i, p.2)
  | _ => none
theorem dPN : DP X x none fPN := ⟨_, fun _ => po_none, fun F H env σ Q o env' s q kk => by
  cases q
  exact kk F H Step.refl s⟩
theorem dPS {f : FE} (h : DE X x e f) : DP X x (some e) (fPS f) := by
  obtain ⟨t, hp, hr⟩ := h
  refine ⟨_, fun i => po_some (hp i), fun F H env σ Q o env' s q kk => ?_⟩
  unfold fPS at q
  obtain ⟨⟨d, e1⟩, q1, q⟩ := Option.bind_eq_some_iff.mp q
  cases d with
  | int i =>
    cases q
    refine hr F H env σ _ _ _ s q1 fun F1 H1 v st s1 r => ?_
    cases r
    exact ⟨i, rfl, kk F1 H1 st s1⟩
  | _ => cases q
def cutD {α : Type} (xs : List α) (lo hi : Option Int) : List α := (xs.drop (HT.sIx xs.length 0 lo)).take (HT.sIx xs.length xs.length hi - HT.sIx xs.length 0 lo)
def vSl : D → Option Int → Option Int → Option D
  | .lst ds, lo, hi => some (.lst (cutD ds lo hi))
  | .scr ns, lo, hi => some (.lst (cutD (ns.map .int) lo hi))
  | _, _, _ => none
def fSl (fa : FO) (fl fh : FOp) : FE := fun e => (fa e).bind fun p => (fl p.2).bind fun l => (fh l.2).bind fun h => (res p.1 h.2).bind fun d => (vSl d l.1 h.1).map fun r => (r, h.2)
theorem RepL.cut {F : Hp} {ds : List D} {vs : List V} (r : RepL x F ds vs) (lo hi : Option Int) : RepL x F (cutD ds lo hi) (cutV vs lo hi) := by
  unfold cutD cutV
  rw [r.len]
  exact (r.drop _).take _
/-- a slice: a new list -/
theorem dSlN {o1 : Expr} {lo hi : Option Expr} {p2 : Pos} {ga : FO} {fl fh : FOp} (hK : ∀ i, (X i).K = x.K) (ha : DO X x o1 ga) (hl : DP X x lo fl) (hh : DP X x hi fh) : DN X x (.Subscript o1 (.Slice lo hi none p2) pos) (fSl ga fl fh) := by
  obtain ⟨ta, pa, ra⟩ := ha
  obtain ⟨tl, pl, rl⟩ := hl
  obtain ⟨th, ph, rh⟩ := hh
  refine ⟨tSl (rSlL x.K) ta tl th, fun i => by have := pe_slice (pos := pos) (p2 := p2) (sl_list (X := X i)) (pa i) (pl i) (ph i); rw [hK i] at this; exact this, fun F H env σ Q d env' s q kk => ?_⟩
  unfold fSl at q
  obtain ⟨p, q1, q⟩ := Option.bind_eq_some_iff.mp q
  obtain ⟨l, q2, q⟩ := Option.bind_eq_some_iff.mp q
  obtain ⟨h, q3, q⟩ := Option.bind_eq_some_iff.mp q
  obtain ⟨d0, q4, q⟩ := Option.bind_eq_some_iff.mp q
  obtain ⟨d1, q5, q⟩ := Option.map_eq_some_iff.mp q
  cases q
  refine ra F H env σ _ p.1 p.2 s q1 fun F1 H1 u st1 s1 o1 => ?_
  refine rl F1 H1 p.2 σ _ l.1 l.2 s1 q2 fun F2 H2 st2 s2 => ?_
  refine rh F2 H2 l.2 σ _ h.1 h.2 s2 q3 fun F3 H3 st3 s3 => ?_
  have vw := ((o1.mono st2.fro).mono st3.fro).view s3 q4
  have fin : ∀ {xs : List V} {ds : List D}, RepL x F3 ds xs → ∀ p, H3 p = none → Q (.ref p) (upd H3 p (.lst xs)) ∨ d ≠ .lst ds := fun {xs ds} r p na => by
    by_cases e : d = .lst ds
    · subst e
      exact .inl (kk F3 _ p (((st1.trans st2).trans st3).trans (Step.raw s3.good na)) (s3.grow (Grow.raw s3.good na)) (st1.tr p (st2.tr p (st3.tr p na))) (fnone s3.good na) (s3.notOw na) ⟨_, upd_same, r⟩)
    · exact .inr e
  cases vw with
  | @lst a xs ds hh r =>
    cases q5
    exact ⟨a, xs, rfl, SqL.of hh, fun p na => (fin (r.cut l.1 h.1) p na).resolve_right (fun e => e rfl)⟩
  | @scr a ns hh =>
    cases q5
    exact ⟨a, _, rfl, hh, fun p na => (fin ((RepL.of_ints ns).cut l.1 h.1) p na).resolve_right (fun e => e rfl)⟩
  | _ => cases q5
/-! ### a[::k] -/
def stepD (ds : List D) (k : Int) : List D := (sliceRange 0 (ds.length : Int) k).filterMap fun i => ds[i]?
theorem bounds_step {k : Int} (hk : 0 < k) (n : Nat) : sliceBounds none none (some k) n = (0, (n : Int), k) := by
  simp only [sliceBounds, Option.getD_some]
  have h1 : ¬ k < 0 := by omega
  simp [h1]
  exact ⟨fun h => by omega, hk⟩
theorem pick_step {k : Int} (hk : 0 < k) (its : List Value) : slicePick its.toArray none none (some k) = ((sliceRange 0 (its.length : Int) k).filterMap fun i => its[i]?).toArray := by
  unfold slicePick
  rw [bounds_step hk]
  have ee : (fun (i : Nat) => its.toArray[i]?) = fun i => its[i]? := by funext i; simp
  rw [ee, List.size_toArray]
theorem RepL.pick {F : Hp} {ds : List D} {vs : List V} (r : RepL x F ds vs) : ∀ is : List Nat, RepL x F (is.filterMap fun i => ds[i]?) (is.filterMap fun i => vs[i]?)
  | [] => .nil
  | i :: is => by
    rw [List.filterMap_cons, List.filterMap_cons]
    cases h : ds[i]? with
    | none =>
      have : vs[i]? = none := by
        rw [List.getElem?_eq_none_iff] at h ⊢
        rw [r.len]; exact h
      rw [this]
      exact RepL.pick r is
    | some d =>
      obtain ⟨v, h1, h2⟩ := r.get h
      rw [h1]
      exact .cons h2 (RepL.pick r is)
theorem vals_pick {vs : List V} {us : List Value} (r : Vals vs us) : ∀ is : List Nat, Vals (is.filterMap fun i => vs[i]?) (is.filterMap fun i => us[i]?)
  | [] => .nil
  | i :: is => by
    rw [List.filterMap_cons, List.filterMap_cons]
    cases h : vs[i]? with
    | none =>
      have : us[i]? = none := by
        rw [List.getElem?_eq_none_iff] at h ⊢
        rw [← r.length]; exact h
      rw [this]
      exact vals_pick r is
    | some d =>
      obtain ⟨v, h1, h2⟩ := r.get h
      rw [h1]
      exact .cons h2 (vals_pick r is)
end
section
variable {X : Cx} {x : Kx} {pos : Pos}
theorem range_len {n : Nat} {k : Int} (hk : 0 < k) : (sliceRange 0 (n : Int) k).length ≤ n := by
  unfold sliceRange
  rw [List.length_map, List.length_range]
  simp only [gt_iff_lt, hk, if_true]
  by_cases h : (0 : Int) < n
  · rw [if_pos h]
    have := ceilDiv_le (n : Int) k (by omega) (by omega)
    have e : ((n : Int) - 0 + k - 1) = (n : Int) + k - 1 := by omega
    rw [e]
    omega
  · rw [if_neg h]; simp
def tStepL (K : PySem.W.Frag) (k : Int) (te : TE) : TE := fun σ H Q => te σ H fun x H1 => ∃ a xs, x = .ref a ∧ SqL K H1 a xs ∧ ∀ p, H1 p = none → Q (.ref p) (upd H1 p (.lst ((sliceRange 0 (xs.length : Int) k).filterMap fun i => xs[i]?)))
theorem pe_stepL {e : Expr} {te : TE} {k : Int} {j} {p1 p3 : Pos} (hk : 0 < k) (he : PE X e te) : PE X (.Subscript e (.Slice none none (some (.Constant (.int k) j p1)) p3) pos) (tStepL X.K k te) := by
  refine ⟨fun pins s σ H Q I h => ?_⟩
  refine Subscript_ (thn (he.run pins s σ H _ I h) fun v s1 ⟨x, H1, I1, r1, q1⟩ => ?_)
  obtain ⟨a, xs, ex, hx, q⟩ := q1
  subst ex
  cases r1
  have hst : PO X (some (.Constant (.int k) j p1)) (tPart (tC (.int k))) := po_some pe_int
  refine wpAny_Slice (thn (po_none.run pins s1 σ H1 (fun o H2 => o = none ∧ H2 = H1) I1 ⟨rfl, rfl⟩) fun vl s2 ⟨l, H2, I2, pl, el, e2⟩ => ?_)
  subst el e2
  refine thn (po_none.run pins s2 σ H2 (fun o H3 => o = none ∧ H3 = H2) I2 ⟨rfl, rfl⟩) fun vu s3 ⟨u, H3, I3, pu, eu, e3⟩ => ?_
  subst eu e3
  refine thn (hst.run pins s3 σ H3 (fun o H4 => o = some k ∧ H4 = H3) I3 ⟨k, rfl, rfl, rfl⟩) fun vs s4 ⟨o, H4, I4, ps, eo, e4⟩ => ?_
  subst eo e4
  have I5 : Inv X pins σ H4 { s4 with heap := s4.heap.push { cls := .type "slice", data := .fields #[vl, vu, vs] } } := I4.kept (t' := s4.toks) fun b ob q => Heap.get?_push_of_some _ q
  obtain ⟨its, r, ht, hz⟩ := I5.list hx
  have hlen := r.length
  show wpAny (model X.prog X.w) X.A (subscriptTail e (.Slice none none (some (.Constant (.int k) j p1)) p3) (.ref a) (.ref s4.heap.objs.size)) (EP X pins σ Q) X.xe { s4 with heap := s4.heap.push { cls := .type "slice", data := .fields #[vl, vu, vs] } }
  refine tail_any (ops := [.ref a, .ref s4.heap.objs.size]) ht.isList.typeIs (PySem.slot_list_getitem.lookup) ?_ (by with_unfolding_all rfl)
  refine wpAny_getItem_list_slice ht.isList (Heap.IsSliceOf.new _ vl vu vs) pl pu ps (by intro e; cases e; omega) ?_ (by rw [List.size_toArray]; omega)
  rw [pick_step hk, ← hlen]
  refine ⟨.ref _, _, I5.laid (t' := s4.toks) (o := .lst ((sliceRange 0 (xs.length : Int) k).filterMap fun i => xs[i]?)) (fun b ob q => Heap.get?_push_of_some _ q) (Nat.le_refl _) ?_, rfl, q _ (I5.hok.fresh (Nat.le_refl _))⟩
  exact ⟨Nat.le_trans (Nat.le_trans (List.length_filterMap_le _ _) (range_len hk)) hz, _, 0, vals_pick r _, Heap.get?_push_size _ rfl⟩
end
section
variable {ι : Type} {X : ι → Cx} {x : Kx} {e : Expr} {pos : Pos}
def vStep (k : Int) : D → Option D
  | .lst ds => some (.lst (stepD ds k))
  | .scr ns => some (.lst (stepD (ns.map .int) k))
  | _ => none
def vRev : D → Option D
  | .lst ds => some (.lst ds.reverse)
  | .scr ns => some (.lst (ns.map .int).reverse)
  | _ => none
/-- an operation of one value that makes a new list -/
def UnN (x : Kx) (r : V → Hp → VK → Prop) (o : D → Option D) : Prop := ∀ (F H : Hp) (u : V) (da d : D) (Q : VK), Same F H → View x F H da u → o da = some d →
  (∀ p ob, H p = none → RepO x F (upd H p ob) p d → Q (.ref p) (upd H p ob)) → r u H Q
theorem rf_unN {r : V → Hp → VK → Prop} {o : D → Option D} {ta : TE} {ga : FO} (hs : UnN x r o) (ha : RfO x ta ga) : RfN x (tUn r ta) (fUn o ga) := fun F H env σ Q d env' s q kk => by
  unfold fUn at q
  obtain ⟨p, q1, q⟩ := Option.bind_eq_some_iff.mp q
  obtain ⟨da, q3, q⟩ := Option.bind_eq_some_iff.mp q
  obtain ⟨d', q5, q⟩ := Option.map_eq_some_iff.mp q
  cases q
  refine ha F H env σ _ p.1 p.2 s q1 fun F1 H1 u st1 s1 o1 => ?_
  refine hs F1 H1 u da d Q s1.good (o1.view s1 q3) q5 fun a ob na ro => ?_
  exact kk F1 _ a (st1.trans (Step.raw s1.good na)) (s1.grow (Grow.raw s1.good na)) (st1.tr a na) (fnone s1.good na) (s1.notOw na) ro
def OpN (x : Kx) (r : R2) (o : D → D → Option D) : Prop := ∀ (F H : Hp) (u v : V) (da db d : D) (Q : VK), Same F H → View x F H da u → View x F H db v → o da db = some d →
  (∀ p ob, H p = none → RepO x F (upd H p ob) p d → Q (.ref p) (upd H p ob)) → r u v H Q
theorem rf_opN {r : R2} {o : D → D → Option D} {ta tb : TE} {ga gb : FO} (hs : OpN x r o) (ha : RfO x ta ga) (hb : RfO x tb gb) : RfN x (tOp r ta tb) (fBin o ga gb) := fun F H env σ Q d env' s q kk => by
  unfold fBin at q
  obtain ⟨p, q1, q⟩ := Option.bind_eq_some_iff.mp q
  obtain ⟨p2, q2, q⟩ := Option.bind_eq_some_iff.mp q
  obtain ⟨da, q3, q⟩ := Option.bind_eq_some_iff.mp q
  obtain ⟨db, q4, q⟩ := Option.bind_eq_some_iff.mp q
  obtain ⟨d', q5, q⟩ := Option.map_eq_some_iff.mp q
  cases q
  refine ha F H env σ _ p.1 p.2 s q1 fun F1 H1 u st1 s1 o1 => ?_
  refine hb F1 H1 p.2 σ _ p2.1 p2.2 s1 q2 fun F2 H2 v st2 s2 o2 => ?_
  refine hs F2 H2 u v da db d Q s2.good ((o1.mono st2.fro).view s2 q3) (o2.view s2 q4) q5 fun a ob na ro => ?_
  exact kk F2 _ a ((st1.trans st2).trans (Step.raw s2.good na)) (s2.grow (Grow.raw s2.good na)) (st1.tr a (st2.tr a na)) (fnone s2.good na) (s2.notOw na) ro
theorem dBinN {a b : Expr} {op : Operator} {r : R2} {o : D → D → Option D} {ga gb : FO} (ho : ∀ i, OpR (X i) (binaryOp op) r) (hs : OpN x r o) (ha : DO X x a ga) (hb : DO X x b gb) : DN X x (.BinOp a op b pos) (fBin o ga gb) := by
  obtain ⟨ta, pa, ra⟩ := ha
  obtain ⟨tb, pb, rb⟩ := hb
  exact ⟨_, fun i => pe_op (ho i) (pa i) (pb i), rf_opN hs ra rb⟩
def vCat : D → D → Option D
  | .lst a, .lst b => if a.length + b.length ≤ 100000 then some (.lst (a ++ b)) else none
  | _, _ => none
theorem opn_cat : OpN x rCat vCat := fun F H u v da db d Q g hu hv q kk => by
  cases hu with
  | @lst a xs ds h r =>
    cases hv with
    | @lst b ys es h' r' =>
      have q : (if ds.length + es.length ≤ 100000 then some (D.lst (ds ++ es)) else none) = some d := q
      split at q
      · cases q; exact ⟨a, b, xs, ys, rfl, rfl, h, h', size_ok (by rw [r.len, r'.len]; assumption), fun p na => kk p _ na ⟨_, upd_same, r.app r'⟩⟩
      · cases q
    | _ => cases q
  | _ => cases q
def vRep : D → D → Option D
  | .lst a, .int k => if -(2 ^ 63) ≤ k ∧ k < 2 ^ 63 ∧ a.length * k.toNat ≤ 100000 then some (.lst (List.replicate k.toNat a).flatten) else none
  | _, _ => none
theorem opn_rep : OpN x rRep vRep := fun F H u v da db d Q g hu hv q kk => by
  cases hu with
  | @lst a xs ds h r =>
    cases hv with
    | int k =>
      have q : (if -(2 ^ 63) ≤ k ∧ k < 2 ^ 63 ∧ ds.length * k.toNat ≤ 100000 then some (D.lst (List.replicate k.toNat ds).flatten) else none) = some d := q
      split at q
      · rename_i c
        cases q; exact ⟨a, k, xs, rfl, rfl, h, c.1, c.2.1, size_ok (by rw [r.len]; exact c.2.2), fun p na => kk p _ na ⟨_, upd_same, r.rep _⟩⟩
      · cases q
    | _ => cases q
  | _ => cases q
theorem dStepN {k : Int} {j} {p1 p3 : Pos} {ga : FO} (hK : ∀ i, (X i).K = x.K) (hk : 0 < k) (ha : DO X x e ga) : DN X x (.Subscript e (.Slice none none (some (.Constant (.int k) j p1)) p3) pos) (fUn (vStep k) ga) := by
  obtain ⟨ta, pa, ra⟩ := ha
  refine ⟨tStepL x.K k ta, fun i => by have := pe_stepL (pos := pos) (j := j) (p1 := p1) (p3 := p3) hk (pa i); rw [hK i] at this; exact this, ?_⟩
  have : UnN x (fun v H1 Q => ∃ a xs, v = .ref a ∧ SqL x.K H1 a xs ∧ ∀ p, H1 p = none → Q (.ref p) (upd H1 p (.lst ((sliceRange 0 (xs.length : Int) k).filterMap fun i => xs[i]?)))) (vStep k) := fun F H u da d Q g hu q kk => by
    cases hu with
    | @lst a xs ds h r =>
      cases q
      refine ⟨a, xs, rfl, SqL.of h, fun p na => kk p _ na ⟨_, upd_same, ?_⟩⟩
      unfold stepD
      rw [← r.len]
      exact r.pick _
    | @scr a ns h =>
      cases q
      refine ⟨a, _, rfl, h, fun p na => kk p _ na ⟨_, upd_same, ?_⟩⟩
      unfold stepD
      have r := RepL.of_ints (x := x) (F := F) ns
      rw [← r.len]
      exact r.pick _
    | _ => cases q
  exact rf_unN this ra
theorem dRevN {k : Nat} {p1 p2 p3 : Pos} {ga : FO} (hK : ∀ i, (X i).K = x.K) (ha : DO X x e ga) : DN X x (.Subscript e (.Slice none none (some (.UnaryOp .USub (.Constant (.int 1) k p1) p2)) p3) pos) (fUn vRev ga) := by
  obtain ⟨ta, pa, ra⟩ := ha
  refine ⟨tRevL x.K ta, fun i => by have := pe_revL (pos := pos) (k := k) (p1 := p1) (p2 := p2) (p3 := p3) (pa i); rw [hK i] at this; exact this, ?_⟩
  have : UnN x (fun v H1 Q => ∃ a xs, v = .ref a ∧ SqL x.K H1 a xs ∧ ∀ p, H1 p = none → Q (.ref p) (upd H1 p (.lst xs.reverse))) vRev := fun F H u da d Q g hu q kk => by
    cases hu with
    | @lst a xs ds h r =>
      cases q
      exact ⟨a, xs, rfl, SqL.of h, fun p na => kk p _ na ⟨_, upd_same, r.reverse⟩⟩
    | @scr a ns h =>
      cases q
      exact ⟨a, _, rfl, h, fun p na => kk p _ na ⟨_, upd_same, (RepL.of_ints ns).reverse⟩⟩
    | _ => cases q
  exact rf_unN this ra
end
end Vd

end

section
set_option Elab.async false
set_option linter.all false
set_option maxRecDepth 100000
set_option maxHeartbeats 2000000
/-! Lj: built-in functions, methods of lists and dicts, changes of own objects. -/
namespace Vd
open PySem PySem.Spec PyProof.Rows L2 Vd0

section
variable {ι : Type} {X : ι → Cx} {x : Kx} {a b c e : Expr} {p pos : Pos} {z : Str} {id T : String}
/-! ### built-in functions of one and two values -/
theorem dB1 {r : List V → Hp → VK → Prop} {o : D → Option D} {ga : FO} (hc : ∀ i, CallR (X i) (.builtin id) r) (hs : UnD x (fun u => r [u]) o) (hg : ∀ i, Gl (X i) z) (hm : ∀ i, (X i).mg z = none) (hv : bootBuiltins z = some (.builtin id)) (ha : DO X x a ga)
    (hn : z ≠ "__name__" := by decide) (hdb : (z == ("__debug__" : Str)) = false := by decide)
    (he : ∀ i, starEach [a] (X i).env = (false, eval a (X i).env) :: starEach [] (X i).env := by intro _; rfl) (hpl : ∀ i, (backTo pos (starEach [] (X i).env)).any (·.1) = false := by intro _; rfl) : DE X x (.Call (.Name z p) [a] [] pos) (fUn o ga) := by
  obtain ⟨ta, pa, ra⟩ := ha
  exact ⟨tCB r (tCons ta tNil), fun i => pe_callB (hc i) (hg i) (hm i) hv (pa_cons (pa i) pa_nil (he i)) hn hdb (he i) (hpl i), rf_un hs ra⟩
theorem dT1 {r : List V → Hp → VK → Prop} {o : D → Option D} {ga : FO} (hc : ∀ i, CallR (X i) (.type T) r) (hs : UnD x (fun u => r [u]) o) (hg : ∀ i, Gl (X i) z) (hm : ∀ i, (X i).mg z = none) (hv : bootBuiltins z = some (.type T)) (ha : DO X x a ga)
    (hn : z ≠ "__name__" := by decide) (hdb : (z == ("__debug__" : Str)) = false := by decide)
    (he : ∀ i, starEach [a] (X i).env = (false, eval a (X i).env) :: starEach [] (X i).env := by intro _; rfl) (hpl : ∀ i, (backTo pos (starEach [] (X i).env)).any (·.1) = false := by intro _; rfl) : DE X x (.Call (.Name z p) [a] [] pos) (fUn o ga) := by
  obtain ⟨ta, pa, ra⟩ := ha
  exact ⟨tCB r (tCons ta tNil), fun i => pe_callTy (hc i) (hg i) (hm i) hv (pa_cons (pa i) pa_nil (he i)) hn hdb (he i) (hpl i), rf_un hs ra⟩
theorem dT1N {r : List V → Hp → VK → Prop} {o : D → Option D} {ga : FO} (hc : ∀ i, CallR (X i) (.type T) r) (hs : UnN x (fun u => r [u]) o) (hg : ∀ i, Gl (X i) z) (hm : ∀ i, (X i).mg z = none) (hv : bootBuiltins z = some (.type T)) (ha : DO X x a ga)
    (hn : z ≠ "__name__" := by decide) (hdb : (z == ("__debug__" : Str)) = false := by decide)
    (he : ∀ i, starEach [a] (X i).env = (false, eval a (X i).env) :: starEach [] (X i).env := by intro _; rfl) (hpl : ∀ i, (backTo pos (starEach [] (X i).env)).any (·.1) = false := by intro _; rfl) : DN X x (.Call (.Name z p) [a] [] pos) (fUn o ga) := by
  obtain ⟨ta, pa, ra⟩ := ha
  exact ⟨tCB r (tCons ta tNil), fun i => pe_callTy (hc i) (hg i) (hm i) hv (pa_cons (pa i) pa_nil (he i)) hn hdb (he i) (hpl i), rf_unN hs ra⟩
theorem dB2 {r : List V → Hp → VK → Prop} {o : D → D → Option D} {ga gb : FO} (hc : ∀ i, CallR (X i) (.builtin id) r) (hs : OpD x (fun u v => r [u, v]) o) (hg : ∀ i, Gl (X i) z) (hm : ∀ i, (X i).mg z = none) (hv : bootBuiltins z = some (.builtin id)) (ha : DO X x a ga) (hb : DO X x b gb)
    (hn : z ≠ "__name__" := by decide) (hdb : (z == ("__debug__" : Str)) = false := by decide)
    (he : ∀ i, starEach [a, b] (X i).env = (false, eval a (X i).env) :: starEach [b] (X i).env := by intro _; rfl) (he2 : ∀ i, starEach [b] (X i).env = (false, eval b (X i).env) :: starEach [] (X i).env := by intro _; rfl)
    (hpl : ∀ i, (backTo pos (starEach [b] (X i).env)).any (·.1) = false := by intro _; rfl) : DE X x (.Call (.Name z p) [a, b] [] pos) (fBin o ga gb) := by
  obtain ⟨ta, pa, ra⟩ := ha
  obtain ⟨tb, pb, rb⟩ := hb
  exact ⟨tCB r (tCons ta (tCons tb tNil)), fun i => pe_callB (hc i) (hg i) (hm i) hv (pa_cons (pa i) (pa_cons (pb i) pa_nil (he2 i)) (he i)) hn hdb (he i) (hpl i), rf_bin hs ra rb⟩

/-! ### len -/
def vLen : D → Option D
  | .lst ds => some (.int ds.length)
  | .tup ds => some (.int ds.length)
  | .scr ns => some (.int ns.length)
  | .str y => if y.length ≤ 100000 then some (.int y.length) else none
  | .dic kvs => some (.int kvs.length)
  | _ => none
def rLenU (K : PySem.W.Frag) : List V → Hp → VK → Prop := fun xs H Q => (∃ x n, xs = [x] ∧ LenV K x H n ∧ Q (.int n) H) ∨ ∃ a kvs, xs = [V.ref a] ∧ H a = some (.dK kvs) ∧ Q (.int kvs.length) H
theorem cr_len {X : Cx} : CallR X (.builtin "len") (rLenU X.K) := fun pins s σ H xs us Q I r h => h.elim (call_len pins s σ H xs us Q I r) (call_lenD pins s σ H xs us Q I r)
theorem und_len : UnD x (fun u => rLenU x.K [u]) vLen := fun F H u da d Q g hu q kk => by
  cases hu with
  | @lst a xs ds h r => cases q; refine .inl ⟨_, _, rfl, .inl ⟨xs, SqL.of h, rfl⟩, ?_⟩; rw [r.len]; exact kk_same g (.int _) kk
  | @tup a xs ds h r => cases q; refine .inl ⟨_, _, rfl, .inr ⟨xs, h, rfl⟩, ?_⟩; rw [r.len]; exact kk_same g (.int _) kk
  | @scr a ns h => cases q; refine .inl ⟨_, _, rfl, .inl ⟨_, h, rfl⟩, ?_⟩; rw [List.length_map]; exact kk_same g (.int _) kk
  | str y =>
    have q : (if y.length ≤ 100000 then some (D.int y.length) else none) = some d := q
    split at q
    · cases q; exact .inl ⟨_, _, rfl, ⟨size_ok ‹_›, rfl⟩, kk_same g (.int _) kk⟩
    · cases q
  | @dic a kvs ds h r => cases q; refine .inr ⟨a, kvs, rfl, h, ?_⟩; rw [r.len]; exact kk_same g (.int _) kk
  | _ => cases q
/-! ### min, max, divmod of two ints -/
def vMin : D → D → Option D
  | .int i, .int j => some (.int (if j < i then j else i))
  | _, _ => none
def vMax : D → D → Option D
  | .int i, .int j => some (.int (if j > i then j else i))
  | _, _ => none
theorem opd_min : OpD x (fun u v H Q => ∃ i j, [u, v] = [V.int i, V.int j] ∧ Q (.int (if j < i then j else i)) H) vMin := fun F H u v da db d Q g hu hv q kk => by
  cases hu with
  | int i =>
    cases hv with
    | int j => cases q; exact ⟨i, j, rfl, kk_same g (.int _) kk⟩
    | _ => cases q
  | _ => cases q
theorem opd_max : OpD x (fun u v H Q => ∃ i j, [u, v] = [V.int i, V.int j] ∧ Q (.int (if j > i then j else i)) H) vMax := fun F H u v da db d Q g hu hv q kk => by
  cases hu with
  | int i =>
    cases hv with
    | int j => cases q; exact ⟨i, j, rfl, kk_same g (.int _) kk⟩
    | _ => cases q
  | _ => cases q
end
instance (i j : Int) : Decidable (CDiv i j) := by unfold CDiv; infer_instance
section
variable {ι : Type} {X : ι → Cx} {x : Kx} {a b c e : Expr} {p pos : Pos} {z : Str} {id T : String}
def vDvm : D → D → Option D
  | .int i, .int j => if CDiv i j then some (.tup [.int (i / j), .int (i % j)]) else none
  | _, _ => none
theorem opd_divmod : OpD x (fun u v H Q => ∃ i j, [u, v] = [V.int i, V.int j] ∧ CDiv i j ∧ ∀ p, H p = none → Q (.ref p) (upd H p (.tup [.int (i / j), .int (i % j)]))) vDvm := fun F H u v da db d Q g hu hv q kk => by
  cases hu with
  | int i =>
    cases hv with
    | int j =>
      have q : (if CDiv i j then some (D.tup [.int (i / j), .int (i % j)]) else none) = some d := q
      split at q
      · cases q; exact ⟨i, j, rfl, ‹_›, kk_tup g (.cons (.int _) (.cons (.int _) .nil)) rfl kk⟩
      · cases q
    | _ => cases q
  | _ => cases q
/-! ### int, list, tuple -/
def vInt : D → Option D
  | .int i => some (.int i)
  | .bl k => some (.int (if k then 1 else 0))
  | _ => none
theorem und_int : UnD x (fun u H Q => (∃ i, [u] = [V.int i] ∧ Q (.int i) H) ∨ ∃ k, [u] = [V.bl k] ∧ Q (.int (if k then 1 else 0)) H) vInt := fun F H u da d Q g hu q kk => by
  cases hu with
  | int i => cases q; exact .inl ⟨i, rfl, kk_same g (.int _) kk⟩
  | bl k => cases q; exact .inr ⟨k, rfl, kk_same g (.int _) kk⟩
  | _ => cases q
def vList : D → Option D
  | .lst ds => some (.lst ds)
  | .tup ds => some (.lst ds)
  | .scr ns => some (.lst (ns.map .int))
  | _ => none
theorem unn_list : UnN x (fun u H Q => ∃ p ys, [u] = [V.ref p] ∧ (SqL x.K H p ys ∨ SqT x.K H p ys) ∧ ∀ l, H l = none → Q (.ref l) (upd H l (.lst ys))) vList := fun F H u da d Q g hu q kk => by
  cases hu with
  | @lst a xs ds h r => cases q; exact ⟨a, xs, rfl, .inl (SqL.of h), fun l nl => kk l _ nl ⟨_, upd_same, r⟩⟩
  | @tup a xs ds h r => cases q; exact ⟨a, xs, rfl, .inr h, fun l nl => kk l _ nl ⟨_, upd_same, r⟩⟩
  | @scr a ns h => cases q; exact ⟨a, _, rfl, .inl h, fun l nl => kk l _ nl ⟨_, upd_same, RepL.of_ints ns⟩⟩
  | _ => cases q
def vTuple : D → Option D
  | .lst ds => some (.tup ds)
  | .scr ns => some (.tup (ns.map .int))
  | _ => none
theorem dTuple {ga : FO} (hK : ∀ i, (X i).K = x.K) (hg : ∀ i, Gl (X i) "tuple") (hm : ∀ i, (X i).mg "tuple" = none) (ha : DO X x a ga) (na : ∀ i, starEach [a] (X i).env = (false, eval a (X i).env) :: starEach [] (X i).env := by intro _; rfl) : DE X x (.Call (.Name "tuple" p) [a] [] pos) (fUn vTuple ga) := by
  obtain ⟨ta, pa, ra⟩ := ha
  refine ⟨tThen ta (kTup x.K), fun i => by have := pe_tupleOf (p := p) (pos := pos) (hg i) (hm i) (pa i) (na i); rw [hK i] at this; exact this, ?_⟩
  have : UnD x (kTup x.K) vTuple := fun F H u da d Q g hu q kk => by
    cases hu with
    | @lst a xs ds h r => cases q; exact .inl ⟨a, xs, rfl, SqL.of h, kk_tup g r rfl kk⟩
    | @scr a ns h => cases q; exact .inl ⟨a, _, rfl, h, kk_tup g (RepL.of_ints ns) rfl kk⟩
    | _ => cases q
  exact rf_un this ra

/-! ### list(range(..)) -/
def vRgL (m n : Int) : Option D := if -(2 ^ 30) ≤ m ∧ m ≤ 2 ^ 30 ∧ -(2 ^ 30) ≤ n ∧ n ≤ 2 ^ 30 ∧ (n - m).toNat ≤ 100000 then some (.lst (rgD m (n - m).toNat)) else none
theorem rep_rg {F : Hp} {m n : Int} : RepL x F (rgD m (n - m).toNat) (rgV m n) := by
  unfold rgD rgV
  generalize (n - m).toNat = k
  have : ∀ is : List Nat, RepL x F (is.map fun (i : Nat) => D.int (m + i)) (is.map fun i => V.int (m + (i : Nat))) := fun is => by
    induction is with
    | nil => exact .nil
    | cons i is ih => exact .cons (.int _) ih
  exact this _
def fRgL (ga : FE) : FE := fun e => (ga e).bind fun q => match q.1 with
  | .int n => (vRgL 0 n).map fun d => (d, q.2)
  | _ => none
theorem dRgL {q1 q2 : Pos} {ga : FE} (hc : ∀ i, (X i).calm = true) (hg : ∀ i, Gl (X i) "list") (hm : ∀ i, (X i).mg "list" = none) (hg2 : ∀ i, Gl (X i) "range") (hm2 : ∀ i, (X i).mg "range" = none) (ha : DE X x a ga)
    (na : ∀ i, starEach [a] (X i).env = (false, eval a (X i).env) :: starEach [] (X i).env := by intro _; rfl)
    (nb : ∀ i, starEach [Expr.Call (.Name "range" q1) [a] [] q2] (X i).env = (false, eval (Expr.Call (.Name "range" q1) [a] [] q2) (X i).env) :: starEach [] (X i).env := by intro _; rfl) :
    DN X x (.Call (.Name "list" p) [.Call (.Name "range" q1) [a] [] q2] [] pos) (fRgL ga) := by
  obtain ⟨t, hp, hr⟩ := ha
  refine ⟨_, fun i => pe_listRg (hc i) (hg i) (hm i) (prg_1 (hg2 i) (hm2 i) (hp i) (na i)) (nb i), fun F H env σ Q d env' s q kk => ?_⟩
  unfold fRgL at q
  obtain ⟨⟨d1, e1⟩, q1, q⟩ := Option.bind_eq_some_iff.mp q
  refine hr F H env σ _ d1 e1 s q1 fun F1 H1 v st1 s1 r1 => ?_
  cases r1 with
  | int n =>
    obtain ⟨d2, q2, q3⟩ := Option.map_eq_some_iff.mp (show (vRgL 0 n).map (fun d => (d, e1)) = some (d, env') from q)
    cases q3
    unfold vRgL at q2
    split at q2
    · rename_i c
      cases q2
      refine ⟨n, rfl, ⟨by omega, by omega, by omega, by omega, ?_⟩, fun a na => ?_⟩
      · exact Nat.le_trans c.2.2.2.2 (by decide)
      · exact kk F1 _ a (st1.trans (Step.raw s1.good na)) (s1.grow (Grow.raw s1.good na)) (st1.tr a na) (fnone s1.good na) (s1.notOw na) ⟨_, upd_same, rep_rg⟩
    · cases q2
  | _ => cases q
/-! ### all, any, sum of a list -/
def vAll : D → Option D
  | .lst ds => (toBls ds).map fun bs => .bl (bs.all _root_.id)
  | _ => none
def vAny : D → Option D
  | .lst ds => (toBls ds).map fun bs => .bl (bs.any _root_.id)
  | _ => none
theorem und_all : UnD x (fun u => rAll x.K [u]) vAll := fun F H u da d Q g hu q kk => by
  cases hu with
  | @lst a xs ds h r =>
    obtain ⟨bs, q1, q2⟩ := Option.map_eq_some_iff.mp (show (toBls ds).map (fun bs => D.bl (bs.all _root_.id)) = some d from q)
    cases q2
    have e := toBls_of q1
    subst e
    have e2 := r.bls
    subst e2
    exact ⟨a, bs, rfl, SqL.of h, kk_same g (.bl _) kk⟩
  | _ => cases q
theorem und_any : UnD x (fun u => rAny x.K [u]) vAny := fun F H u da d Q g hu q kk => by
  cases hu with
  | @lst a xs ds h r =>
    obtain ⟨bs, q1, q2⟩ := Option.map_eq_some_iff.mp (show (toBls ds).map (fun bs => D.bl (bs.any _root_.id)) = some d from q)
    cases q2
    have e := toBls_of q1
    subst e
    have e2 := r.bls
    subst e2
    exact ⟨a, bs, rfl, SqL.of h, kk_same g (.bl _) kk⟩
  | _ => cases q
def vSum : D → Option D
  | .lst ds => (toInts ds).map fun ns => .int ns.sum
  | .scr ns => some (.int ns.sum)
  | _ => none
def rSum (K : PySem.W.Frag) : List V → Hp → VK → Prop := fun vs H Q => ∃ (a : Addr) (ns : List Int), vs = [V.ref a] ∧ SqL K H a (ns.map V.int) ∧ Q (.int ns.sum) H
def numV : V → Int
  | .int i => i
  | _ => 0
theorem map_numV : ∀ ns : List Int, (ns.map V.int).map numV = ns
  | [] => rfl
  | n :: ns => by rw [List.map_cons, List.map_cons, map_numV ns]; rfl
theorem pre_take (ns : List Int) : ∀ n, n ≤ ns.length → preSum (fun i => ns.getD i 0) n = (ns.take n).sum
  | 0, _ => rfl
  | n + 1, hn => by
    have hx : ns[n]? = some ns[n] := List.getElem?_eq_getElem hn
    show preSum _ n + ns.getD n 0 = _
    rw [pre_take ns n (Nat.le_of_succ_le hn), List.take_succ, hx, List.sum_append, List.getD_eq_getElem?_getD, hx]
    simp
theorem cr_sum {X : Cx} (hc : X.calm = true) : CallR X (.builtin "sum") (rSum X.K) := by
  intro pins s σ H vs us Q I r h
  obtain ⟨a, ns, rfl, hs, q⟩ := h
  obtain ⟨its, rv, hl, _⟩ := I.list hs
  rw [Vals.ref1 r]
  refine call_sum_walkG (iter_any hl.isList fun s₂ e2 st hne => ?_)
  subst e2
  refine ⟨_, _, _, _, _, _, fun i => ns.getD i 0, rfl, Walks.list (A := X.A.in1) (I.ok.hd hc) _ a hne its.toArray, st, fun b hb => ?_, fun i v hv => ?_, fun h' tk t' hk => ?_⟩
  · have hla : a < s.heap.objs.size := hl.lt
    rcases List.mem_cons.mp hb with rfl | hb
    · show _ < (s.heap.push _).objs.size
      rw [Heap.size_push]; exact Nat.lt_succ_self _
    · rw [List.mem_singleton.mp hb]
      show _ < (s.heap.push _).objs.size
      rw [Heap.size_push]; exact Nat.lt_succ_of_lt hla
  · have hv' : its[i]? = some v := by simpa using hv
    obtain ⟨y, hy, ry⟩ : ∃ y, (ns.map V.int)[i]? = some y ∧ RelV y v := by
      have hi : i < (ns.map V.int).length := by rw [rv.length]; exact (List.getElem?_eq_some_iff.mp hv').1
      obtain ⟨u, hu, ru⟩ := rv.get (List.getElem?_eq_getElem hi)
      rw [hv'] at hu; cases hu
      exact ⟨_, List.getElem?_eq_getElem hi, ru⟩
    rw [List.getElem?_map] at hy
    obtain ⟨n, hn, rfl⟩ := Option.map_eq_some_iff.mp hy
    have e : ns.getD i 0 = n := by rw [List.getD_eq_getElem?_getD, hn]; rfl
    show ∃ t, v = .int (ns.getD i 0) t
    rw [e]
    exact ry
  · have ep : preSum (fun i => ns.getD i 0) its.toArray.size = ns.sum := by
      rw [List.size_toArray, ← rv.length, List.length_map, pre_take ns _ (Nat.le_refl _), List.take_length]
    rw [ep]
    refine ⟨.int _, H, I.kept fun b o eo => hk b o (fun hmem => ?_) (Heap.get?_push_of_some _ eo), ⟨_, rfl⟩, q⟩
    rcases List.mem_cons.mp hmem with e1 | hmem
    · exact absurd (e1 ▸ Heap.lt_size eo) (Nat.lt_irrefl _)
    · cases hmem
theorem und_sum : UnD x (fun u => rSum x.K [u]) vSum := fun F H u da d Q g hu q kk => by
  cases hu with
  | @lst a xs ds h r =>
    obtain ⟨ns, q1, q2⟩ := Option.map_eq_some_iff.mp (show (toInts ds).map (fun ns => D.int ns.sum) = some d from q)
    cases q2
    have e := toInts_of q1
    subst e
    have e2 := r.ints
    subst e2
    exact ⟨a, ns, rfl, SqL.of h, kk_same g (.int _) kk⟩
  | @scr a ns h => cases q; exact ⟨a, ns, rfl, h, kk_same g (.int _) kk⟩
  | _ => cases q
/-! ### len(set(ints)), all different -/
def vLenSet : D → Option D
  | .lst ds => (toInts ds).bind fun ns => if ns.Nodup ∧ ns.length ≤ 4000 then some (.int ns.length) else none
  | _ => none
theorem dLenSet {p2 q : Pos} {ga : FO} (hK : ∀ i, (X i).K = x.K) (hc : ∀ i, (X i).calm = true) (hg : ∀ i, Gl (X i) "len") (hm : ∀ i, (X i).mg "len" = none) (hg2 : ∀ i, Gl (X i) "set") (hm2 : ∀ i, (X i).mg "set" = none) (ha : DO X x a ga)
    (na : ∀ i, starEach [a] (X i).env = (false, eval a (X i).env) :: starEach [] (X i).env := by intro _; rfl) : DE X x (.Call (.Name "len" p) [.Call (.Name "set" p2) [a] [] q] [] pos) (fUn vLenSet ga) := by
  obtain ⟨ta, pa, ra⟩ := ha
  refine ⟨_, fun i => by have := RZ.pe_lenSetI (p := p) (p2 := p2) (q := q) (pos := pos) (hg i) (hm i) (hg2 i) (hm2 i) (pa i) (hc i) (na i); rw [hK i] at this; exact this, ?_⟩
  have : UnD x (fun v H1 Q => ∃ (l : Addr) (ns : List Int), v = .ref l ∧ SqL x.K H1 l (ns.map V.int) ∧ ns.Nodup ∧ ns.length ≤ 4000 ∧ Q (.int (ns.length : Nat)) H1) vLenSet := fun F H u da d Q g hu q kk => by
    cases hu with
    | @lst a xs ds h r =>
      obtain ⟨ns, q1, q2⟩ := Option.bind_eq_some_iff.mp (show ((toInts ds).bind fun ns => if ns.Nodup ∧ ns.length ≤ 4000 then some (D.int ns.length) else none) = some d from q)
      have e := toInts_of q1
      subst e
      have e2 := r.ints
      subst e2
      split at q2
      · rename_i c
        cases q2
        exact ⟨a, ns, rfl, SqL.of h, c.1, c.2, kk_same g (.int _) kk⟩
      · cases q2
    | _ => cases q
  exact rf_un this ra
/-! ### isinstance -/
def isTy : String → D → Bool
  | "int", .int _ => true
  | "int", .bl _ => true
  | "bool", .bl _ => true
  | "str", .str _ => true
  | "list", .lst _ => true
  | "list", .scr _ => true
  | "tuple", .tup _ => true
  | _, _ => false
end
end Vd

end

section
set_option Elab.async false
set_option linter.all false
set_option maxRecDepth 100000
set_option maxHeartbeats 2000000
/-! Lk: isinstance, methods, changes of own objects, x op= e. -/
namespace Vd
open PySem PySem.Spec PyProof.Rows L2 Vd0

theorem un1 {k : Nat} {A : Around} (r : Room k A) : A.units + 1 < cLine := Nat.lt_of_le_of_lt (Nat.add_le_add_left (by decide) _) r.units
theorem locVis {sc : Scope} {x : Str} (h : Loc sc x) : Vis sc x := h.elim .inl (fun h => .inr (.inl h))
/-! ### isinstance -/
def tyN : D → Option String
  | .non => some "NoneType"
  | .bl _ => some "bool"
  | .int _ => some "int"
  | .str _ => some "str"
  | .lst _ => some "list"
  | .tup _ => some "tuple"
  | .dic _ => some "dict"
  | _ => none
section
variable {ι : Type} {X : ι → Cx} {x : Kx} {a b c e : Expr} {p pos : Pos}
theorem view_ty {F H : Hp} {d : D} {v : V} {t : String} (h : View x F H d v) (q : tyN d = some t) : TyX x.K H v (.type t) := by
  cases h with
  | non => cases q; exact .base .non
  | bl b => cases q; exact .base (.bl b)
  | int i => cases q; exact .base (.int i)
  | str z => cases q; exact .base (.str z)
  | lst h r => cases q; exact .base (.lst h)
  | tup h r =>
    cases q
    rcases h with (h | ⟨o, h⟩) | ⟨o, _, _, h, hc, _⟩
    · exact .base (.tup h)
    · exact .fTuple h
    · exact .kTuple h hc
  | dic h r => cases q; exact .base (.dK h)
  | _ => cases q
def isT1 (T : String) (d : D) : Option D := (tyN d).bind fun t => (kitB t T).map .bl
/-- isinstance(a, T) -/
theorem dIsi {T : String} {n : Str} {p1 p2 : Pos} {ga : FO} (hK : ∀ i, (X i).K = x.K) (hg : ∀ i, Gl (X i) "isinstance") (hm : ∀ i, (X i).mg "isinstance" = none) (hg2 : ∀ i, Gl (X i) n) (hm2 : ∀ i, (X i).mg n = none) (hv : bootBuiltins n = some (.type T)) (ha : DO X x a ga)
    (hn : n ≠ "__name__" := by decide) (hdb : (n == ("__debug__" : Str)) = false := by decide)
    (he : ∀ i, starEach [a, Expr.Name n p2] (X i).env = (false, eval a (X i).env) :: starEach [Expr.Name n p2] (X i).env := by intro _; rfl) (he2 : ∀ i, starEach [Expr.Name n p2] (X i).env = (false, eval (Expr.Name n p2) (X i).env) :: starEach [] (X i).env := by intro _; rfl)
    (hpl : ∀ i, (backTo pos (starEach [Expr.Name n p2] (X i).env)).any (·.1) = false := by intro _; rfl) : DE X x (.Call (.Name "isinstance" p1) [a, .Name n p2] [] pos) (fUn (isT1 T) ga) := by
  obtain ⟨ta, pa, ra⟩ := ha
  refine ⟨tCB (rIsi x.K) (tCons ta (tCons (tC (.ty T)) tNil)), fun i => ?_, ?_⟩
  · have := pe_callB (p := p1) (pos := pos) (call_isi (X := X i)) (hg i) (hm i) boot_isinstance (pa_cons (pa i) (pa_cons (pe_bltn (v := .ty T) (hg2 i) (hm2 i) hv rfl hn hdb) pa_nil (he2 i)) (he i)) (by decide) (by decide) (he i) (hpl i)
    rw [hK i] at this
    exact this
  · have : UnD x (fun u H Q => rIsi x.K [u, .ty T] H Q) (isT1 T) := fun F H u da d Q g hu q kk => by
      unfold isT1 at q
      obtain ⟨t, q1, q⟩ := Option.bind_eq_some_iff.mp q
      obtain ⟨r, q2, q⟩ := Option.map_eq_some_iff.mp q
      cases q
      exact ⟨u, .ty T, .type t, .type T, r, rfl, .ty T, view_ty hu q1, kit_ty q2, kk_same g (.bl _) kk⟩
    exact rf_un this ra
def isT2 (T T' : String) (d : D) : Option D := (tyN d).bind fun t => (kitB t T).bind fun r => (kitB t T').map fun r' => .bl (r || r')
/-- isinstance(a, (T, T')) -/
theorem dIsi2 {T T' : String} {n n' : Str} {p1 p2 p3 p4 : Pos} {k : Nat} {ga : FO} (hK : ∀ i, (X i).K = x.K) (hg : ∀ i, Gl (X i) "isinstance") (hm : ∀ i, (X i).mg "isinstance" = none) (hg2 : ∀ i, Gl (X i) n) (hm2 : ∀ i, (X i).mg n = none) (hv : bootBuiltins n = some (.type T))
    (hg3 : ∀ i, Gl (X i) n') (hm3 : ∀ i, (X i).mg n' = none) (hv' : bootBuiltins n' = some (.type T')) (ha : DO X x a ga)
    (hn : n ≠ "__name__" := by decide) (hdb : (n == ("__debug__" : Str)) = false := by decide) (hn' : n' ≠ "__name__" := by decide) (hdb' : (n' == ("__debug__" : Str)) = false := by decide)
    (hs1 : ∀ i, starEach [Expr.Name n p2, Expr.Name n' p3] (X i).env = (false, eval (Expr.Name n p2) (X i).env) :: starEach [Expr.Name n' p3] (X i).env := by intro _; rfl)
    (hs2 : ∀ i, starEach [Expr.Name n' p3] (X i).env = (false, eval (Expr.Name n' p3) (X i).env) :: starEach [] (X i).env := by intro _; rfl)
    (he : ∀ i, starEach [a, Expr.Tuple [.Name n p2, .Name n' p3] k p4] (X i).env = (false, eval a (X i).env) :: starEach [Expr.Tuple [.Name n p2, .Name n' p3] k p4] (X i).env := by intro _; rfl)
    (he2 : ∀ i, starEach [Expr.Tuple [.Name n p2, .Name n' p3] k p4] (X i).env = (false, eval (Expr.Tuple [.Name n p2, .Name n' p3] k p4) (X i).env) :: starEach [] (X i).env := by intro _; rfl)
    (hpl : ∀ i, (backTo pos (starEach [Expr.Tuple [.Name n p2, .Name n' p3] k p4] (X i).env)).any (·.1) = false := by intro _; rfl) :
    DE X x (.Call (.Name "isinstance" p1) [a, .Tuple [.Name n p2, .Name n' p3] k p4] [] pos) (fUn (isT2 T T') ga) := by
  obtain ⟨ta, pa, ra⟩ := ha
  refine ⟨tCB (rIsiT x.K) (tCons ta (tCons (tTup (tCons (tC (.ty T)) (tCons (tC (.ty T')) tNil))) tNil)), fun i => ?_, ?_⟩
  · have e1 := pe_bltn (X := X i) (pos := p2) (v := .ty T) (hg2 i) (hm2 i) hv rfl hn hdb
    have e2 := pe_bltn (X := X i) (pos := p3) (v := .ty T') (hg3 i) (hm3 i) hv' rfl hn' hdb'
    have := pe_callB (p := p1) (pos := pos) (call_isiT (X := X i)) (hg i) (hm i) boot_isinstance (pa_cons (pa i) (pa_cons (pe_tup (pos := p4) (pa_cons e1 (pa_cons e2 pa_nil (hs2 i)) (hs1 i))) pa_nil (he2 i)) (he i)) (by decide) (by decide) (he i) (hpl i)
    rw [hK i] at this
    exact this
  · intro F H env σ Q d env' s q kk
    unfold fUn at q
    obtain ⟨p, q1, q⟩ := Option.bind_eq_some_iff.mp q
    obtain ⟨da, q3, q⟩ := Option.bind_eq_some_iff.mp q
    obtain ⟨d', q5, q⟩ := Option.map_eq_some_iff.mp q
    cases q
    unfold isT2 at q5
    obtain ⟨t, h1, q5⟩ := Option.bind_eq_some_iff.mp q5
    obtain ⟨r, h2, q5⟩ := Option.bind_eq_some_iff.mp q5
    obtain ⟨r', h3, q5⟩ := Option.map_eq_some_iff.mp q5
    cases q5
    refine ra F H env σ _ p.1 p.2 s q1 fun F1 H1 u st1 s1 o1 => ?_
    refine ⟨by show 2 ≤ sizeLine; decide, fun tp na => ?_⟩
    have s2 := s1.grow (Grow.raw (o := .tup [.ty T, .ty T']) s1.good na)
    refine ⟨u, tp, [.ty T, .ty T'], .type t, [.type T, .type T'], r || r', rfl, upd_same, .cons (.ty T) (.cons (.ty T') .nil), view_ty (o1.view s2 q3) h1, ?_, kk F1 _ _ (st1.trans (Step.raw s1.good na)) s2 (.bl _)⟩
    exact kitAny_cons (kit_ty h2) (fun e => by rw [e]; exact kitAny_cons (kit_ty h3) (fun e2 => by rw [e2]; exact kitAny_nil) (fun e2 => by rw [e2]; rfl)) (fun e => by rw [e]; rfl)

/-! ### methods of a value -/
def tyB (T : String) (d : D) : Bool := match d with
  | .str _ => T == "str"
  | .lst _ => T == "list"
  | .dic _ => T == "dict"
  | _ => false
theorem view_tyV {F H : Hp} {T : String} {d : D} {v : V} (h : View x F H d v) (q : tyB T d = true) : tyV x.K T v H := by
  cases h with
  | str z => have e : T = "str" := by simpa [tyB] using q
             exact e
  | @lst a xs ds h r => have e : T = "list" := by simpa [tyB] using q
                        exact .inl ⟨e, xs, SqL.of h⟩
  | @dic a kvs ds h r => have e : T = "dict" := by simpa [tyB] using q
                         exact .inr (.inr (.inl ⟨e, .inl ⟨kvs, h⟩⟩))
  | _ => exact absurd q (by simp [tyB])
theorem RepO.tyV {F H : Hp} {T : String} {a : Addr} {d : D} (h : RepO x F H a d) (q : tyB T d = true) : L2.tyV x.K T (.ref a) H := view_tyV h.view q
def MvR (x : Kx) (r : V → List V → Hp → VK → Prop) (m : D → List D → Option D) : Prop := ∀ (F H : Hp) (u : V) (us : List V) (da : D) (as : List D) (d : D) (Q : VK), Same F H → View x F H da u → RepL x F as us → m da as = some d →
  (∀ F' H' z, Grow F H F' H' → Rep x F' d z → Q z H') → r u us H Q
def fBm (T : String) (m : D → List D → Option D) (fo : FO) (fa : FA) : FE := fun e => (fo e).bind fun p => (res p.1 p.2).bind fun d0 => if tyB T d0 = true then (fa p.2).bind fun q => (res p.1 q.2).bind fun d1 => (m d1 q.1).map fun d => (d, q.2) else none
section
variable {o : Expr} {es : List Expr} {name : Str} {apos cpos : Pos} {T id : String} {r : V → List V → Hp → VK → Prop} {m : D → List D → Option D} {fo : FO} {fa : FA}
theorem dBm (hK : ∀ i, (X i).K = x.K) (pa : PlainAttrs T) (slot : Slot T name id) (hty : typeOf (.builtin id) = pure (.type "method_descriptor")) (hm : ∀ i, MtR (X i) id r) (hr : MvR x r m) (ho : DO X x o fo) (ha : DA X x (e :: es) fa)
    (hbase : ∀ i, attributeBase o name (X i).env (eval o (X i).env) = eval o (X i).env := by intro _; rfl)
    (hfew : ∀ i, ((backTo cpos (starEach (e :: es) (X i).env)).all (fun x => !x.1) && (backToKw cpos (keywordEach [] (X i).env)).all (fun x => x.1.isSome)
      && decide ((e :: es).length + ([] : List Keyword).length + (if ([] : List Keyword).isEmpty then 0 else 1) < 30)) = true := by intro _; rfl)
    (hline : (apos.endLine == cpos.line) = true := by rfl) (hs : ∀ i, starEach (e :: es) (X i).env = (false, eval e (X i).env) :: starEach es (X i).env := by intro _; rfl) (hplain : ∀ i, (backTo cpos (starEach es (X i).env)).any (·.1) = false := by intro _; rfl) :
    DE X x (.Call (.Attribute o name apos) (e :: es) [] cpos) (fBm T m fo fa) := by
  obtain ⟨to, op, or_⟩ := ho
  obtain ⟨t, hp, hr2⟩ := ha
  refine ⟨tBM x.K T r to t, fun i => by have := pe_bm (apos := apos) (cpos := cpos) pa slot hty (hm i) (op i) (hp i) (hbase i) (hfew i) hline (hs i) (hplain i); rw [hK i] at this; exact this, fun F H env σ Q d env' s q kk => ?_⟩
  unfold fBm at q
  obtain ⟨p, q1, q⟩ := Option.bind_eq_some_iff.mp q
  obtain ⟨d0, q2, q⟩ := Option.bind_eq_some_iff.mp q
  split at q
  · rename_i c
    obtain ⟨p2, q3, q⟩ := Option.bind_eq_some_iff.mp q
    obtain ⟨d1, q4, q⟩ := Option.bind_eq_some_iff.mp q
    obtain ⟨d2, q5, q⟩ := Option.map_eq_some_iff.mp q
    cases q
    refine or_ F H env σ _ p.1 p.2 s q1 fun F1 H1 u st1 s1 o1 => ⟨view_tyV (o1.view s1 q2) c, ?_⟩
    refine hr2 F1 H1 p.2 σ _ p2.1 p2.2 s1 q3 fun F2 H2 us st2 s2 r2 => ?_
    exact hr F2 H2 u us d1 p2.1 d Q s2.good ((o1.mono st2.fro).view s2 q4) r2 q5 fun F3 H3 z g rz => kk F3 H3 z ((st1.trans st2).trans (g.step _)) (s2.grow g) rz
  · cases q
theorem dBm0 (hK : ∀ i, (X i).K = x.K) (pa : PlainAttrs T) (slot : Slot T name id) (hty : typeOf (.builtin id) = pure (.type "method_descriptor")) (hm : ∀ i, MtR (X i) id r) (hr : MvR x r m) (ho : DO X x o fo)
    (hbase : ∀ i, attributeBase o name (X i).env (eval o (X i).env) = eval o (X i).env := by intro _; rfl)
    (hline : (apos.endLine == cpos.line) = true := by rfl) :
    DE X x (.Call (.Attribute o name apos) [] [] cpos) (fBm T m fo fNil) := by
  obtain ⟨to, op, or_⟩ := ho
  refine ⟨tBM0 x.K T r to, fun i => by have := pe_bm0 (apos := apos) (cpos := cpos) pa slot hty (hm i) (op i) (hbase i) hline; rw [hK i] at this; exact this, fun F H env σ Q d env' s q kk => ?_⟩
  unfold fBm at q
  obtain ⟨p, q1, q⟩ := Option.bind_eq_some_iff.mp q
  obtain ⟨d0, q2, q⟩ := Option.bind_eq_some_iff.mp q
  split at q
  · rename_i c
    obtain ⟨p2, q3, q⟩ := Option.bind_eq_some_iff.mp q
    obtain ⟨d1, q4, q⟩ := Option.bind_eq_some_iff.mp q
    obtain ⟨d2, q5, q⟩ := Option.map_eq_some_iff.mp q
    cases q
    cases q3
    refine or_ F H env σ _ p.1 p.2 s q1 fun F1 H1 u st1 s1 o1 => ⟨view_tyV (o1.view s1 q2) c, ?_⟩
    exact hr F1 H1 u [] d1 [] d Q s1.good (o1.view s1 q4) .nil q5 fun F3 H3 z g rz => kk F3 H3 z (st1.trans (g.step _)) (s1.grow g) rz
  · cases q

/-! ### methods that change an own object -/
def MuR (x : Kx) (r : V → List V → Hp → VK → Prop) (m : D → List D → Option (D × D)) : Prop := ∀ (F H : Hp) (a : Addr) (us : List V) (c : D) (as : List D) (d c' : D) (Q : VK), Same F H → RepO x F H a c → RepL x F as us → m c as = some (d, c') →
  (∀ ob z, RepO x F (upd H a ob) a c' → Rep x F d z → Q z (upd H a ob)) → r (.ref a) us H Q
def owD : Option Sl → Option D
  | some (.ow d) => some d
  | _ => none
theorem owD_some {o : Option Sl} {d : D} (h : owD o = some d) : o = some (.ow d) := by
  cases o with
  | none => cases h
  | some s =>
    cases s with
    | ow c => cases h; rfl
    | no => cases h
    | fz c => cases h
def fMut (k : Nat) (T : String) (m : D → List D → Option (D × D)) (fa : FA) : FE := fun e => (owD e[k]?).bind fun c0 => if tyB T c0 = true then (fa e).bind fun q => (owD q.2[k]?).bind fun c => (m c q.1).map fun r => (r.1, q.2.set k (.ow r.2)) else none
theorem dMut (k : Nat) {z : Str} {zp : Pos} {m : D → List D → Option (D × D)} (hK : ∀ i, (X i).K = x.K) (pa : PlainAttrs T) (slot : Slot T name id) (hty : typeOf (.builtin id) = pure (.type "method_descriptor")) (hm : ∀ i, MtR (X i) id r) (hr : MuR x r m)
    (hN : ∀ i, (X i).N[k]? = some z) (hv : ∀ i, Vis (X i).env.scope z) (ha : DA X x (e :: es) fa) (hd : (z == ("__debug__" : Str)) = false := by decide) (hcd : (z == ("__classdict__" : Str)) = false := by decide)
    (hbase : ∀ i, attributeBase (.Name z zp) name (X i).env (eval (.Name z zp) (X i).env) = eval (.Name z zp) (X i).env := by intro _; rfl)
    (hfew : ∀ i, ((backTo cpos (starEach (e :: es) (X i).env)).all (fun x => !x.1) && (backToKw cpos (keywordEach [] (X i).env)).all (fun x => x.1.isSome)
      && decide ((e :: es).length + ([] : List Keyword).length + (if ([] : List Keyword).isEmpty then 0 else 1) < 30)) = true := by intro _; rfl)
    (hline : (apos.endLine == cpos.line) = true := by rfl) (hs : ∀ i, starEach (e :: es) (X i).env = (false, eval e (X i).env) :: starEach es (X i).env := by intro _; rfl) (hplain : ∀ i, (backTo cpos (starEach es (X i).env)).any (·.1) = false := by intro _; rfl) :
    DE X x (.Call (.Attribute (.Name z zp) name apos) (e :: es) [] cpos) (fMut k T m fa) := by
  obtain ⟨t, hp, hr2⟩ := ha
  refine ⟨tBM x.K T r (tVar k) t, fun i => by have := pe_bm (apos := apos) (cpos := cpos) pa slot hty (hm i) (pe_var (pos := zp) (hN i) (hv i) hd hcd) (hp i) (hbase i) (hfew i) hline (hs i) (hplain i); rw [hK i] at this; exact this, fun F H env σ Q d env' s q kk => ?_⟩
  unfold fMut at q
  obtain ⟨c0, q1, q⟩ := Option.bind_eq_some_iff.mp q
  split at q
  · rename_i ct
    obtain ⟨p2, q3, q⟩ := Option.bind_eq_some_iff.mp q
    obtain ⟨c, q4, q⟩ := Option.bind_eq_some_iff.mp q
    obtain ⟨⟨d2, c'⟩, q5, q⟩ := Option.map_eq_some_iff.mp q
    cases q
    obtain ⟨a, ha, n, ro⟩ := s.ow k c0 (owD_some q1)
    refine ⟨.ref a, ha, ro.tyV ct, ?_⟩
    refine hr2 F H env σ _ p2.1 p2.2 s q3 fun F2 H2 us st2 s2 r2 => ?_
    obtain ⟨a', ha', n', ro'⟩ := s2.ow k c (owD_some q4)
    rw [ha] at ha'; cases ha'
    refine hr F2 H2 a us c p2.1 d2 c' Q s2.good ro' r2 q5 fun ob z ro2 rz => ?_
    have mu := s2.mut (o := ob) (owD_some q4) ha n' ro2
    exact kk F2 _ z (st2.trans mu.2) mu.1 rz
  · cases q
theorem dMut0 (k : Nat) {z : Str} {zp : Pos} {m : D → List D → Option (D × D)} (hK : ∀ i, (X i).K = x.K) (pa : PlainAttrs T) (slot : Slot T name id) (hty : typeOf (.builtin id) = pure (.type "method_descriptor")) (hm : ∀ i, MtR (X i) id r) (hr : MuR x r m)
    (hN : ∀ i, (X i).N[k]? = some z) (hv : ∀ i, Vis (X i).env.scope z) (hd : (z == ("__debug__" : Str)) = false := by decide) (hcd : (z == ("__classdict__" : Str)) = false := by decide)
    (hbase : ∀ i, attributeBase (.Name z zp) name (X i).env (eval (.Name z zp) (X i).env) = eval (.Name z zp) (X i).env := by intro _; rfl)
    (hline : (apos.endLine == cpos.line) = true := by rfl) :
    DE X x (.Call (.Attribute (.Name z zp) name apos) [] [] cpos) (fMut k T m fNil) := by
  refine ⟨tBM0 x.K T r (tVar k), fun i => by have := pe_bm0 (apos := apos) (cpos := cpos) pa slot hty (hm i) (pe_var (pos := zp) (hN i) (hv i) hd hcd) (hbase i) hline; rw [hK i] at this; exact this, fun F H env σ Q d env' s q kk => ?_⟩
  unfold fMut at q
  obtain ⟨c0, q1, q⟩ := Option.bind_eq_some_iff.mp q
  split at q
  · rename_i ct
    obtain ⟨p2, q3, q⟩ := Option.bind_eq_some_iff.mp q
    obtain ⟨c, q4, q⟩ := Option.bind_eq_some_iff.mp q
    obtain ⟨⟨d2, c'⟩, q5, q⟩ := Option.map_eq_some_iff.mp q
    cases q
    cases q3
    obtain ⟨a, ha, n, ro⟩ := s.ow k c (owD_some q4)
    refine ⟨.ref a, ha, RepO.tyV ro (by rw [q1] at q4; cases q4; exact ct), ?_⟩
    refine hr F H a [] c [] d2 c' Q s.good ro .nil q5 fun ob z ro2 rz => ?_
    have mu := s.mut (o := ob) (owD_some q4) ha n ro2
    exact kk F _ z mu.2 mu.1 rz
  · cases q
end
def mAppend : D → List D → Option (D × D)
  | .lst ds, [d] => if ds.length < 100000 then some (.non, .lst (ds ++ [d])) else none
  | _, _ => none
theorem mur_append : MuR x rAppend mAppend := fun F H a us c as d c' Q g ro rl q kk => by
  cases c with
  | lst ds =>
    obtain ⟨xs, hx, r⟩ := ro
    match as, q with
    | [d1], q =>
      have q : (if ds.length < 100000 then some (D.non, D.lst (ds ++ [d1])) else none) = some (d, c') := q
      cases rl with
      | cons r1 r2 =>
        cases r2
        split at q
        · cases q
          exact ⟨a, xs, _, rfl, rfl, hx, size_lt (by rw [r.len]; assumption), kk _ .non ⟨_, upd_same, r.app (.cons r1 .nil)⟩ .non⟩
        · cases q
  | _ => cases as with
    | nil => cases q
    | cons a as => cases as <;> cases q
def mPopAt : D → List D → Option (D × D)
  | .lst ds, [.int i] => if 0 ≤ i ∧ i < 2 ^ 30 then (ds[i.toNat]?).map fun d => (d, .lst (ds.eraseIdx i.toNat)) else none
  | _, _ => none
theorem mur_popAt : MuR x rPopAt mPopAt := fun F H a us c as d c' Q g ro rl q kk => by
  cases c with
  | lst ds =>
    obtain ⟨xs, hx, r⟩ := ro
    match as, q with
    | [.int i], q =>
      have q : (if 0 ≤ i ∧ i < 2 ^ 30 then (ds[i.toNat]?).map fun d => (d, D.lst (ds.eraseIdx i.toNat)) else none) = some (d, c') := q
      cases rl with
      | cons r1 r2 =>
        cases r2
        cases r1
        split at q
        · rename_i ci
          obtain ⟨d1, q1, q2⟩ := Option.map_eq_some_iff.mp q
          cases q2
          obtain ⟨v, hv, rv⟩ := r.get q1
          have hl : i.toNat < xs.length := (List.getElem?_eq_some_iff.mp hv).1
          refine ⟨a, xs, i, i.toNat, v, rfl, rfl, hx, by omega, by omega, ?_, hv, kk _ v ⟨_, upd_same, r.eraseIdx _⟩ rv⟩
          unfold seqIndex?
          have h1 : ¬ i < 0 := by omega
          have h2 : (i : Int) < xs.length := by omega
          simp [h1, h2, ci.1]
        · cases q
  | _ => cases as with
    | nil => cases q
    | cons a as => cases as <;> (try cases a) <;> cases q
def mPop : D → List D → Option (D × D)
  | .lst ds, [] => (ds[ds.length - 1]?).map fun d => (d, .lst ds.dropLast)
  | _, _ => none
theorem RepL.dropLast {F : Hp} {ds : List D} {vs : List V} (r : RepL x F ds vs) : RepL x F ds.dropLast vs.dropLast := by
  rw [List.dropLast_eq_take, List.dropLast_eq_take, r.len]
  exact r.take _
theorem mur_pop : MuR x rPop mPop := fun F H a us c as d c' Q g ro rl q kk => by
  cases c with
  | lst ds =>
    obtain ⟨xs, hx, r⟩ := ro
    match as, q with
    | [], q =>
      obtain ⟨d1, q1, q2⟩ := Option.map_eq_some_iff.mp (show (ds[ds.length - 1]?).map (fun d => (d, D.lst ds.dropLast)) = some (d, c') from q)
      cases q2
      cases rl
      obtain ⟨v, hv, rv⟩ := r.get q1
      exact ⟨a, xs, v, rfl, rfl, hx, by rw [r.len]; exact hv, kk _ v ⟨_, upd_same, r.dropLast⟩ rv⟩
  | _ => cases as <;> cases q
/-! ### list.count of ints -/
def mCount : D → List D → Option D
  | .lst ds, [.int k] => (toInts ds).map fun ns => .int (ns.count k : Nat)
  | _, _ => none
theorem mvr_count : MvR x (rCntI x.K) mCount := fun F H u us da as d Q g hu rl q kk => by
  cases hu with
  | @lst a xs ds h r =>
    match as, q with
    | [.int k], q =>
      obtain ⟨ns, q1, q2⟩ := Option.map_eq_some_iff.mp (show (toInts ds).map (fun ns => D.int (ns.count k : Nat)) = some d from q)
      cases q2
      have e := toInts_of q1
      subst e
      have e2 := r.ints
      subst e2
      cases rl with
      | cons r1 r2 =>
        cases r2
        cases r1
        exact ⟨a, ns, k, rfl, rfl, SqL.of h, kk_same g (.int _) kk⟩
  | _ => cases as with
    | nil => cases q
    | cons a as => cases as <;> (try cases a) <;> cases q
end

/-! ### o[i] = e, o an own slot -/
section
variable {ι : Type} {X : ι → Cx} {x : Kx} {e i : Expr} {p p' pos : Pos} {P : Prt} {f fi : FE}
def setD : D → D → D → Option D
  | .lst ds, .int i, d => (ixN ds.length i).map fun j => .lst (ds.set j d)
  | .dic kvs, k, d => (keyOf k).bind fun k => if kvs.length < 100000 then some (.dic (putD kvs k d)) else none
  | _, _, _ => none
def rSetU : TSet := fun o i v H Q => rSetL o i v H Q ∨ rSetD o i v H Q
theorem set_u {X : Cx} (hu : X.A.units + 1 < cLine) : PSet X rSetU := fun pins s σ H o i v ov iv u Q I ro ri rv h => h.elim (set_list pins s σ H o i v ov iv u Q I ro ri rv) (set_dict hu pins s σ H o i v ov iv u Q I ro ri rv)
theorem set_run {F H : Hp} {a : Addr} {c k d c' : D} {y v : V} {Q : Hp → Prop} (ro : RepO x F H a c) (rk : Rep x F k y) (rv : Rep x F d v) (q : setD c k d = some c') (kk : ∀ ob, RepO x F (upd H a ob) a c' → Q (upd H a ob)) : rSetU (.ref a) y v H Q := by
  cases c with
  | lst ds =>
    obtain ⟨xs, hx, r⟩ := ro
    cases rk with
    | int j =>
      obtain ⟨n, q1, q2⟩ := Option.map_eq_some_iff.mp (show (ixN ds.length j).map (fun n => D.lst (ds.set n d)) = some c' from q)
      cases q2
      exact .inl ⟨a, xs, j, n, rfl, rfl, hx, by rw [r.len]; exact q1, kk _ ⟨_, upd_same, r.set rv n⟩⟩
    | _ => cases q
  | dic kvs =>
    obtain ⟨vs, hx, r⟩ := ro
    obtain ⟨n, q1, q2⟩ := Option.bind_eq_some_iff.mp (show ((keyOf k).bind fun k => if kvs.length < 100000 then some (D.dic (putD kvs k d)) else none) = some c' by cases rk <;> exact q)
    split at q2
    · cases q2
      rw [keyOf_rep rk q1]
      exact .inr ⟨a, _, rfl, DPut.k hx (size_lt (by rw [r.len]; assumption)), kk _ ⟨_, upd_same, r.put rv⟩⟩
    · cases q2
  | _ => cases rk <;> cases q
def fSetI (k : Nat) (fi f : FE) : FS := fun e => (f e).bind fun p => (owD p.2[k]?).bind fun _ => (fi p.2).bind fun q => (owD q.2[k]?).bind fun c => (setD c q.1 p.1).map fun c' => .nx (q.2.set k (.ow c'))
theorem sSetI (k : Nat) {z : Str} (hu : ∀ i, (X i).A.units + 1 < cLine) (hN : ∀ i, (X i).N[k]? = some z) (hv : ∀ i, Vis (X i).env.scope z) (hi : DE X x i fi) (he : DE X x e f) (hd : (z == ("__debug__" : Str)) = false := by decide) (hcd : (z == ("__classdict__" : Str)) = false := by decide)
    (hs : ∀ j, swapsWithSole [.Subscript (.Name z p) i p'] e pos.line (X j).env = pure false := by intro _; rfl) (hw : ∀ j, swappedStores [.Subscript (.Name z p) i p'] e (X j).env = pure none := by intro _; rfl)
    (h1 : ∀ j, (assignEach [.Subscript (.Name z p) i p'] (X j).env).map (·.2) = [assign (.Subscript (.Name z p) i p') (X j).env] := by intro _; rfl)
    (ha : ∀ j v, assign (.Subscript (.Name z p) i p') (X j).env v = (do
      let ov ← holding [v] (eval (.Name z p) (X j).env)
      let iv ← holding [v, ov] (eval i (X j).env)
      standAt p'
      holding [v, ov, iv] (setItem ov iv v)
      release [v, ov, iv] []) := by intro _ _; rfl) :
    DS X x P (.Assign [.Subscript (.Name z p) i p'] e pos) (fSetI k fi f) := by
  obtain ⟨t, hp, hr⟩ := he
  obtain ⟨ti, ip, ir⟩ := hi
  refine ⟨_, fun j => ps_asg (hp j) (pg_sub (pe_var (pos := p) (hN j) (hv j) hd hcd) (ip j) (set_u (hu j)) (ha j)) (hs j) (hw j) (h1 j), fun F H env σ D out s q kk => ?_⟩
  unfold fSetI at q
  obtain ⟨⟨d, e1⟩, q1, q⟩ := Option.bind_eq_some_iff.mp q
  obtain ⟨c0, q2, q⟩ := Option.bind_eq_some_iff.mp q
  obtain ⟨⟨d2, e2⟩, q3, q⟩ := Option.bind_eq_some_iff.mp q
  obtain ⟨c, q4, q⟩ := Option.bind_eq_some_iff.mp q
  obtain ⟨c', q5, q⟩ := Option.map_eq_some_iff.mp q
  cases q
  refine hr F H env σ _ d e1 s q1 fun F1 H1 v st1 s1 r1 => ?_
  obtain ⟨a, ha', n, ro⟩ := s1.ow k c0 (owD_some q2)
  refine ⟨.ref a, ha', ir F1 H1 e1 σ _ d2 e2 s1 q3 fun F2 H2 y st2 s2 r2 => ?_⟩
  obtain ⟨a', ha2, n2, ro2⟩ := s2.ow k c (owD_some q4)
  rw [ha'] at ha2; cases ha2
  refine set_run ro2 r2 (r1.mono st2.fro) q5 fun ob ro3 => ?_
  have mu := s2.mut (o := ob) (owD_some q4) ha' n2 ro3
  exact kk F2 _ σ ((st1.trans st2).trans mu.2) mu.1 KeepS.refl
/-! ### x += e, x -= e, ints -/
def fAug (k : Nat) (o : Int → Int → Int) (f : FE) : FS := fun e => match e[k]? with
  | some (.fz (.int i)) => (f e).bind fun p => match p.1 with
    | .int j => some (.nx (p.2.set k (.fz (.int (o i j)))))
    | _ => none
  | _ => none
theorem sAug (k : Nat) {z : Str} {op : Operator} {o : Int → Int → Int} (ho : ∀ i, PIp (X i) op (ipI o)) (hP : P k = false) (hN : ∀ i, (X i).N.Nodup) (hi : ∀ i, (X i).N[k]? = some z) (hx : ∀ i, Loc (X i).env.scope z) (he : DE X x e f)
    (hf : ∀ i, (X i).fn z = true ∨ (X i).env.scope.names.lookup z = some .local := by intro _; exact .inl rfl) : DS X x P (.AugAssign (.Name z p') op e pos) (fAug k o f) := by
  obtain ⟨t, hp, hr⟩ := he
  refine ⟨_, fun i => ps_aug (hN i) (hi i) (hx i) (hp i) (ho i) (hf i), fun F H env σ D out s q kk => ?_⟩
  unfold fAug at q
  split at q
  · rename_i i hk
    obtain ⟨⟨d, e1⟩, q1, q⟩ := Option.bind_eq_some_iff.mp q
    cases d with
    | int j =>
      cases q
      obtain ⟨v, hv, r⟩ := s.fz k _ hk
      cases r
      refine ⟨_, hv, hr F H env σ _ _ e1 s q1 fun F1 H1 y st1 s1 r1 => ?_⟩
      cases r1
      obtain ⟨s2, st2⟩ := s1.put k (d := .int (o i j)) (v := .int (o i j)) (.int _)
      exact ⟨i, j, rfl, rfl, kk F1 H1 _ (st1.trans st2) s2 (keep_set hP)⟩
    | _ => cases q
  · cases q
end
end Vd

end

section
set_option Elab.async false
set_option linter.all false
set_option maxRecDepth 100000
set_option maxHeartbeats 2000000
/-! Ll: a < b < c; a method of an own object, frozen while it runs; constants of the module. -/
namespace Vd
open PySem PySem.Spec PyProof.Rows L2 Vd0

section
variable {ι : Type} {X : ι → Cx} {x : Kx} {a b c e o : Expr} {es : List Expr} {pos p apos : Pos}
/-! ### a < b < c -/
theorem rf_chain {r r' : R2} {o o' : D → D → Option D} {ta tb tc : TE} {ga gb gc : FO} (hs : OpD x r o) (hs' : OpD x r' o') (ha : RfO x ta ga) (hb : RfO x tb gb) (hc : RfO x tc gc) {F H : Hp} {env env' : En} {σ : L2.St} {bb : Bool} {Q : VK} (s : StOk x F H env σ)
    (q : fChain o o' ga gb gc env = some (bb, env')) (kk : ∀ F' H', Step F H (Ow env σ) F' H' (Ow env' σ) → StOk x F' H' env' σ → Q (.bl bb) H') : tChain r r' ta tb tc σ H Q := by
  unfold fChain at q
  obtain ⟨p1, q1, q⟩ := Option.bind_eq_some_iff.mp q
  obtain ⟨p2, q2, q⟩ := Option.bind_eq_some_iff.mp q
  obtain ⟨da, q3, q⟩ := Option.bind_eq_some_iff.mp q
  obtain ⟨db, q4, q⟩ := Option.bind_eq_some_iff.mp q
  obtain ⟨z, q5, q⟩ := Option.bind_eq_some_iff.mp q
  refine ha F H env σ _ p1.1 p1.2 s q1 fun F1 H1 u st1 s1 o1 => ?_
  refine hb F1 H1 p1.2 σ _ p2.1 p2.2 s1 q2 fun F2 H2 v st2 s2 o2 => ?_
  refine hs F2 H2 u v da db z _ s2.good ((o1.mono st2.fro).view s2 q3) (o2.view s2 q4) q5 fun F3 H3 w g rw' => ?_
  have s3 := s2.grow g
  have st3 := (st1.trans st2).trans (g.step (Ow p2.2 σ))
  cases z with
  | bl k =>
    cases rw'
    refine ⟨k, rfl, ?_⟩
    cases k with
    | false =>
      cases q
      rw [if_neg (by decide)]
      exact kk F3 H3 st3 s3
    | true =>
      rw [if_pos rfl]
      obtain ⟨p3, q6, q⟩ := Option.bind_eq_some_iff.mp q
      obtain ⟨db', q7, q⟩ := Option.bind_eq_some_iff.mp q
      obtain ⟨dc, q8, q⟩ := Option.bind_eq_some_iff.mp q
      obtain ⟨y, q9, q⟩ := Option.bind_eq_some_iff.mp q
      refine hc F3 H3 p2.2 σ _ p3.1 p3.2 s3 q6 fun F4 H4 v4 st4 s4 o4 => ?_
      refine hs' F4 H4 v v4 db' dc y _ s4.good (((o2.mono g.fF).mono st4.fro).view s4 q7) (o4.view s4 q8) q9 fun F5 H5 w5 g5 r5 => ?_
      cases y with
      | bl k =>
        cases q
        cases r5
        exact kk F5 H5 ((st3.trans st4).trans (g5.step _)) (s4.grow g5)
      | _ => cases q
  | _ => cases q
theorem dTchain {op op' : CmpOp} {r r' : R2} {o o' : D → D → Option D} {ga gb gc : FO} (ho : ∀ i, OpR (X i) (compareOp op) r) (ho' : ∀ i, OpR (X i) (compareOp op') r') (hs : OpD x r o) (hs' : OpD x r' o') (ha : DO X x a ga) (hb : DO X x b gb) (hc : DO X x c gc)
    (hm : lastMarks [op, op'] [b, c] = false := by with_unfolding_all rfl) : DT X x (.Compare a [op, op'] [b, c] pos) (fChain o o' ga gb gc) := by
  obtain ⟨ta, pa, ra⟩ := ha
  obtain ⟨tb, pb, rb⟩ := hb
  obtain ⟨tc, pc, rc⟩ := hc
  exact ⟨_, fun i => pt_chain (ho i) (ho' i) (pa i) (pb i) (pc i) hm, fun F H env σ Q bb env' s q kk => rf_chain hs hs' ra rb rc s q fun F' H' st s' => ⟨bb, rfl, kk F' H' st s'⟩⟩
def fBlT (f : FT) : FE := fun e => (f e).map fun p => (.bl p.1, p.2)
theorem dChain {op op' : CmpOp} {r r' : R2} {o o' : D → D → Option D} {ga gb gc : FO} (ho : ∀ i, OpR (X i) (compareOp op) r) (ho' : ∀ i, OpR (X i) (compareOp op') r') (hs : OpD x r o) (hs' : OpD x r' o') (ha : DO X x a ga) (hb : DO X x b gb) (hc : DO X x c gc)
    (hm : lastMarks [op, op'] [b, c] = false := by with_unfolding_all rfl) : DE X x (.Compare a [op, op'] [b, c] pos) (fBlT (fChain o o' ga gb gc)) := by
  obtain ⟨ta, pa, ra⟩ := ha
  obtain ⟨tb, pb, rb⟩ := hb
  obtain ⟨tc, pc, rc⟩ := hc
  refine ⟨_, fun i => pe_chain (ho i) (ho' i) (pa i) (pb i) (pc i) hm, fun F H env σ Q d env' s q kk => ?_⟩
  unfold fBlT at q
  obtain ⟨⟨bb, e1⟩, q1, q2⟩ := Option.map_eq_some_iff.mp q
  cases q2
  exact rf_chain hs hs' ra rb rc s q1 fun F' H' st s' => kk F' H' _ st s' (.bl bb)
/-- a module's constant -/
theorem dGc {z : Str} {d : D} {v : V} (hr : ∀ F, Rep x F d v) (hg : ∀ i, Gl (X i) z) (h : ∀ i, ∃ u, (X i).mg z = some u ∧ RelV v u) (hd : (z == ("__debug__" : Str)) = false := by decide) : DE X x (.Name z pos) (fC d) := dC hr fun i => by
  obtain ⟨u, hm, r⟩ := h i
  exact pe_glob (hg i) hm r hd
end

/-! ### data without instances -/
mutual
def insFree : D → Bool
  | .lst ds => insFreeL ds
  | .tup ds => insFreeL ds
  | .dic ds => insFreeK ds
  | .ins _ _ => false
  | _ => true
def insFreeL : List D → Bool
  | [] => true
  | d :: ds => insFree d && insFreeL ds
def insFreeK : List (Key × D) → Bool
  | [] => true
  | d :: ds => insFree d.2 && insFreeK ds
end
def drp (F : Hp) (a : Addr) : Hp := fun b => if b = a then none else F b
theorem drp_ne {F : Hp} {a b : Addr} (h : b ≠ a) : drp F a b = F b := if_neg h
theorem drp_same {F : Hp} {a : Addr} : drp F a a = none := if_pos rfl
theorem drp_at {F : Hp} {a b : Addr} {o : HO} (h : F b = some o) (n : F a ≠ some o) : drp F a b = some o := by
  rw [drp_ne (fun e => by subst e; exact n h)]
  exact h
section
variable {x : Kx} {F : Hp} {a C dx : Addr} {fs : List (Str × V)}
theorem sql_drp {K : PySem.W.Frag} {b : Addr} {xs : List V} (hi : F a = some (.ins C dx fs)) (h : SqL K F b xs) : SqL K (drp F a) b xs := by
  rcases h with (h | ⟨o, h⟩) | h
  · exact .inl (.inl (drp_at h (by rw [hi]; intro e; cases e)))
  · exact .inl (.inr ⟨o, drp_at h (by rw [hi]; intro e; cases e)⟩)
  · exact .inr h
theorem sqt_drp {K : PySem.W.Frag} {b : Addr} {xs : List V} (hi : F a = some (.ins C dx fs)) (h : SqT K F b xs) : SqT K (drp F a) b xs := by
  rcases h with (h | ⟨o, h⟩) | h
  · exact .inl (.inl (drp_at h (by rw [hi]; intro e; cases e)))
  · exact .inl (.inr ⟨o, drp_at h (by rw [hi]; intro e; cases e)⟩)
  · exact .inr h
mutual
theorem Rep.drp (hi : F a = some (.ins C dx fs)) : ∀ {d : D} {v : V}, Rep x F d v → insFree d = true → Rep x (Vd.drp F a) d v
  | _, _, .non, _ => .non
  | _, _, .bl b, _ => .bl b
  | _, _, .int i, _ => .int i
  | _, _, .str z, _ => .str z
  | _, _, .scr h, _ => .scr (sql_drp hi h)
  | _, _, .lst h r, q => .lst (drp_at h (by rw [hi]; intro e; cases e)) (RepL.drp hi r (by simpa only [insFree] using q))
  | _, _, .tup h r, q => .tup (sqt_drp hi h) (RepL.drp hi r (by simpa only [insFree] using q))
  | _, _, .dic h r, q => .dic (drp_at h (by rw [hi]; intro e; cases e)) (RepK.drp hi r (by simpa only [insFree] using q))
  | _, _, .ins _ _, q => by simp only [insFree] at q; cases q
theorem RepL.drp (hi : F a = some (.ins C dx fs)) : ∀ {ds : List D} {vs : List V}, RepL x F ds vs → insFreeL ds = true → RepL x (Vd.drp F a) ds vs
  | _, _, .nil, _ => .nil
  | _, _, .cons h r, q => by
    simp only [insFreeL, Bool.and_eq_true] at q
    exact .cons (Rep.drp hi h q.1) (RepL.drp hi r q.2)
theorem RepK.drp (hi : F a = some (.ins C dx fs)) : ∀ {ds : List (Key × D)} {vs : List (Key × V)}, RepK x F ds vs → insFreeK ds = true → RepK x (Vd.drp F a) ds vs
  | _, _, .nil, _ => .nil
  | _, _, .cons h r, q => by
    simp only [insFreeK, Bool.and_eq_true] at q
    exact .cons (Rep.drp hi h q.1) (RepK.drp hi r q.2)
end
end

/-! ### k.m(..), k an own object that is frozen while the call runs; the result holds no instance -/
def frzAr (k : Nat) (c : D) : List Ar → Option (List D)
  | [] => some []
  | .va d :: as => (frzAr k c as).map fun r => d :: r
  | .by_ j :: as => if j = k then (frzAr k c as).map fun r => c :: r else none
def fMethF (t n k : Nat) (g : List Sl → Option (Sl × List Sl)) (fa : FAr) : FE := fun e => (owD e[k]?).bind fun c0 => if isIns t c0 = true then (fa e).bind fun q => (owD q.2[k]?).bind fun c => if isIns t c = true ∧ (q.1.length + 1 = n) then
    (frzAr k c q.1).bind fun ds => (g ((c :: ds).map .fz)).bind fun r => match r.1 with
      | .fz d => if insFree d = true then some (d, q.2) else none
      | _ => none
  else none else none
section
variable {x : Kx}
theorem frz_rep {F F' : Hp} {σ : L2.St} {k : Nat} {c : D} {a : Addr} (hs : Same F F') (hk : σ[k]? = some (some (.ref a))) (hc : Rep x F' c (.ref a)) : ∀ {as : List Ar} {vs : List V} {ds : List D}, ArOk x F σ as vs → frzAr k c as = some ds → RepL x F' ds vs
  | _, _, _, .nil, q => by cases q; exact .nil
  | _, _, _, .va r t, q => by
    obtain ⟨ds, q1, q2⟩ := Option.map_eq_some_iff.mp (show (frzAr k c _).map _ = some _ from q)
    cases q2
    exact .cons (r.mono hs) (frz_rep hs hk hc t q1)
  | _, _, _, @ArOk.by_ _ _ _ j v as vs r t, q => by
    have q : (if j = k then (frzAr k c as).map fun r => c :: r else none) = some _ := q
    split at q
    · rename_i e
      subst e
      obtain ⟨ds, q1, q2⟩ := Option.map_eq_some_iff.mp q
      cases q2
      rw [hk] at r; cases r
      exact .cons hc (frz_rep hs hk hc t q1)
    · cases q
theorem StOk.allFz {F H : Hp} (g : Same F H) {ds : List D} {vs : List V} (r : RepL x F ds vs) : StOk x F H (ds.map .fz) (vs.map some) ∧ ∀ c, ¬ Ow (ds.map .fz) (vs.map some) c := by
  have no : ∀ (i : Nat) (d : D), (ds.map Sl.fz)[i]? ≠ some (.ow d) := fun i d h => by
    rw [List.getElem?_map] at h
    cases q : ds[i]? with
    | none => rw [q] at h; cases h
    | some u => rw [q] at h; cases h
  refine ⟨⟨g, by rw [List.length_map, List.length_map, r.len], fun i d h => ?_, fun i d h => absurd h (no i d), fun i j d e a h => absurd h (no i d)⟩, fun c ⟨i, d, h, _⟩ => no i d h⟩
  rw [List.getElem?_map] at h
  obtain ⟨u, h1, h2⟩ := Option.map_eq_some_iff.mp h
  cases h2
  obtain ⟨v, h3, r3⟩ := r.get h1
  exact ⟨v, by rw [List.getElem?_map, h3]; rfl, r3⟩
/-- the frozen object is taken back -/
theorem StOk.thaw {F1 H1 F2 H2 : Hp} {env : En} {σ : L2.St} {k : Nat} {c : D} {a : Addr} {o : HO} {S S' : Addr → Prop} (s : StOk x F1 H1 env σ) (e : env[k]? = some (.ow c)) (ha : σ[k]? = some (some (.ref a))) (ho : H1 a = some o) (n : F1 a = none)
    (st : Step (upd F1 a o) H1 S F2 H2 S') (hS : ∀ b, ¬ S b) (g2 : Same F2 H2) : StOk x (drp F2 a) H2 env σ ∧ Step F1 H1 (Ow env σ) (drp F2 a) H2 (Ow env σ) := by
  have s13 : Same F1 (drp F2 a) := fun b u h => by
    have hb : b ≠ a := fun e => by rw [e, n] at h; cases h
    rw [drp_ne hb]
    exact st.fro b u (by rw [upd_ne hb]; exact h)
  have keep : ∀ b u, H1 b = some u → F1 b = none → b ≠ a → H2 b = some u ∧ drp F2 a b = none := fun b u h1 h2 hb => by
    obtain ⟨h3, h4⟩ := st.kp b u h1 (by rw [upd_ne hb]; exact h2) (hS b)
    exact ⟨h3, by rw [drp_ne hb]; exact h4⟩
  have ha2 : H2 a = some o := g2 a o (st.fro a o upd_same)
  refine ⟨⟨fun b u h => ?_, s.len, fun i d h => ?_, fun i d h => ?_, s.inj⟩, ⟨s13, fun b u h1 h2 no => ?_, st.tr, fun b h => .inl h⟩⟩
  · have hb : b ≠ a := fun e => by rw [e, drp_same] at h; cases h
    rw [drp_ne hb] at h
    exact g2 b u h
  · obtain ⟨v, h1, r⟩ := s.fz i d h
    exact ⟨v, h1, r.mono s13⟩
  · obtain ⟨b, h1, h2, r⟩ := s.ow i d h
    by_cases hb : b = a
    · subst hb
      exact ⟨b, h1, drp_same, r.mono s13 fun u hu => by rw [ho] at hu; cases hu; exact ha2⟩
    · obtain ⟨u, hu⟩ := r.there
      obtain ⟨h3, h4⟩ := keep b u hu h2 hb
      exact ⟨b, h1, h4, r.mono s13 fun u' hu' => by rw [hu] at hu'; cases hu'; exact h3⟩
  · have hb : b ≠ a := fun e' => no (by rw [e']; exact ⟨k, c, e, ha⟩)
    exact keep b u h1 h2 hb
end
section
variable {ι : Type} {X : ι → Cx} {x : Kx} {e : Expr} {es : List Expr} {pos apos zp : Pos} {Pr : Program} {w : World} {K : PySem.W.Frag} {mg : Str → Option Value} {base : Heap} {z : Str} {k n t s0 : Nat} {ps : List Str} {g : List Sl → Option (Sl × List Sl)} {fa : FAr} {m : Str}
theorem dMethF {j : Nat} {pl : ι → Sem Bool} (s0 : Nat) (O : Over X Pr w K mg base j) (C : CalM Pr w K mg base x t m k ps n g) (hk : k ≤ j) (hN : ∀ i, (X i).N[s0]? = some z) (hv : ∀ i, Vis (X i).env.scope z) (ha : DAr X x (e :: es) fa) (hd : (z == ("__debug__" : Str)) = false := by decide) (hcd : (z == ("__classdict__" : Str)) = false := by decide)
    (hst : ∀ i, starEach (e :: es) (X i).env = (false, eval e (X i).env) :: starEach es (X i).env := by intro _; rfl) (hpl : ∀ i, (backTo pos (starEach es (X i).env)).any (·.1) = false := by intro _; rfl)
    (ht : ∀ i, eval (.Call (.Attribute (.Name z zp) m apos) (e :: es) [] pos) (X i).env = (do
      let ov ← eval (.Name z zp) (X i).env
      standAt apos.atName
      let (f, first) ← holding [ov] (getMethod ov m (pl i))
      callWith pos f first (backTo pos (starEach (e :: es) (X i).env)) (backToKw pos (keywordEach [] (X i).env))) := by intro _; rfl) :
    DE X x (.Call (.Attribute (.Name z zp) m apos) (e :: es) [] pos) (fMethF t n s0 g fa) := by
  obtain ⟨f, fd, F, hm, b, cl, hn⟩ := C
  obtain ⟨ta, ap, ar⟩ := ha
  refine ⟨tMeth (x.cm t) m (spD x n g) [] E0 (tVar s0) ta, fun i => ?_, fun F0 H0 env σ Q d env' s q kk => ?_⟩
  · have F' : FnOk (X i).prog (X i).w (X i).K (X i).mg (X i).base CX0 k f fd ps (spD x n g) := by rw [O.prog, O.w, O.K, O.mg, O.base]; exact F
    exact pe_meth (pe_var (pos := zp) (hN i) (hv i) hd hcd) (by rw [O.K]; exact cl) (by rw [O.K]; exact hm) F' ((O.room i).mono hk) (by rw [O.K]; exact b) .nil pass0 (ap i) (hst i) (hpl i) (ht i)
  · unfold fMethF at q
    obtain ⟨c0, q1, q⟩ := Option.bind_eq_some_iff.mp q
    split at q
    · rename_i i0
      obtain ⟨⟨as, e1⟩, q2, q⟩ := Option.bind_eq_some_iff.mp q
      obtain ⟨c, q3, q⟩ := Option.bind_eq_some_iff.mp q
      simp only [] at q q3
      split at q
      · rename_i i1
        obtain ⟨ds, q4, q⟩ := Option.bind_eq_some_iff.mp q
        obtain ⟨⟨r, ss'⟩, q5, q⟩ := Option.bind_eq_some_iff.mp q
        obtain ⟨a, ha, n0, ro⟩ := s.ow s0 c0 (owD_some q1)
        have v0 := ro.view
        have vi : ∀ {d : D} {F1 H1 : Hp}, View x F1 H1 d (.ref a) → isIns t d = true → ∃ dx fs, H1 a = some (.ins (x.cm t) dx fs) ∧ fs.lookup m = none := fun {d F1 H1} h hi => by
          cases h with
          | @ins _ dx t' xs ds h rl =>
            have et : t' = t := by simpa [isIns] using hi
            subst et
            exact ⟨dx, _, h, zip_lookup_none hn⟩
          | _ => cases hi
        obtain ⟨dx, fs, h1, h2⟩ := vi v0 i0
        refine ⟨.ref a, ha, a, dx, fs, rfl, h1, h2, ar F0 H0 env σ _ as e1 s q2 fun F1 H1 vs st1 s1 a1 => ?_⟩
        obtain ⟨a', ha', n1, ro1⟩ := s1.ow s0 c (owD_some q3)
        rw [ha] at ha'; cases ha'
        obtain ⟨ob, hob, rf⟩ := ro1.freeze n1
        obtain ⟨dx1, fs1, h3, _⟩ := vi ro1.view i1.1
        have hF : Same (upd F1 a ob) H1 := fun b u h => by
          by_cases hb : b = a
          · subst hb; rw [upd_same] at h; cases h; exact hob
          · rw [upd_ne hb] at h; exact s1.good b u h
        have rl : RepL x (upd F1 a ob) (c :: ds) (.ref a :: vs) := .cons rf (frz_rep (Same.upd n1) ha rf a1 q4)
        obtain ⟨s2, no⟩ := StOk.allFz hF rl
        have hl : (V.ref a :: (vs ++ ([] : List V))).length = n := by
          rw [List.append_nil, List.length_cons, a1.len]; exact i1.2
        refine ⟨hl, upd F1 a ob, _, r, ss', by rw [List.append_nil]; exact s2, q5, fun F2 H2 v st2 s3 rr => ?_⟩
        rw [List.append_nil] at st2 s3 rr
        cases r with
        | fz dd =>
          simp only [] at q
          split at q
          · cases q
            obtain ⟨s4, st4⟩ := s1.thaw (owD_some q3) ha hob n1 st2 no s3.good
            have hin : F2 a = some (.ins (x.cm t) dx1 fs1) := by
              rw [hob] at h3; cases h3
              exact st2.fro a _ upd_same
            exact kk _ _ v (st1.trans st4) s4 (Rep.drp hin rr ‹_›)
          · cases q
        | _ => cases q
      · cases q
    · cases q
end
end Vd

end

section
set_option Elab.async false
set_option linter.all false
set_option maxRecDepth 100000
set_option maxHeartbeats 2000000
/-! Lm: what the head needs. -/
namespace Vd
open PySem PySem.Spec PyProof.Rows L2 Vd0
theorem fld_of {x : Kx} {t : Nat} (names : List Str) (hnm : x.nm t = names) (cl : Cls x.K (x.cm t)) (nd : names.Nodup) (no : ∀ z ∈ names, NoAttr x.K (x.cm t) z) : ∀ (k : Nat) (z : Str), names[k]? = some z → FldOk x t k z :=
  fun k z h => ⟨cl, no z (List.mem_of_getElem? h), by rw [hnm]; exact nd, by rw [hnm]; exact h⟩
theorem fn_none {P : Program} {w : World} {K : PySem.W.Frag} {mg : Str → Option Value} {base : Heap} {CX : CXT} {k n : Nat} {f : Addr} {fd : FuncData} {ps : List Str} {x : Kx} {g : List Sl → Option (Sl × List Sl)} (hg : ∀ s, g s = none := by intro _; rfl) : FnOk P w K mg base CX k f fd ps (spD x n g) where
  len := fun vs H Q E h => by
    obtain ⟨_, F, sls, r, sls', _, h1, _⟩ := h
    rw [hg] at h1; cases h1
  run := fun A outer s H args us vs Q E _ _ _ _ h => by
    obtain ⟨_, F, sls, r, sls', _, h1, _⟩ := h
    rw [hg] at h1; cases h1
/-- the law's promise at the script -/
theorem sp_script {x : Kx} {H : Hp} {a : Addr} {ns : List Int} {E : XK} {g : List Sl → Option (Sl × List Sl)} (hS : SqL x.K H a (ns.map V.int)) (hg : ∃ s, g [.fz (.scr ns)] = some (.fz (.bl true), s)) : spD x 1 g [.ref a] H (fun v _ => v = .bl true) E := by
  obtain ⟨s, hs⟩ := hg
  refine ⟨rfl, fun b => if b = a then H b else none, [.fz (.scr ns)], _, s, ⟨fun b u h => ?_, rfl, fun i d h => ?_, fun i d h => ?_, fun i j d e b h => ?_⟩, hs, fun F' H' v st so r => ?_⟩
  · replace h : (if b = a then H b else none) = some u := h
    split at h
    · exact h
    · cases h
  · cases i with
    | zero =>
      cases h
      refine ⟨_, rfl, .scr ?_⟩
      rcases hS with (h | ⟨o, h⟩) | h
      · exact .inl (.inl (by simp only [if_true]; exact h))
      · exact .inl (.inr ⟨o, by simp only [if_true]; exact h⟩)
      · exact .inr h
    | succ i => cases i <;> cases h
  · cases i with
    | zero => cases h
    | succ i => cases i <;> cases h
  · cases i with
    | zero => cases h
    | succ i => cases i <;> cases h
  · cases (show Rep x F' (.bl true) v from r)
    rfl
end Vd

end

section
set_option Elab.async false
set_option linter.all false
set_option maxRecDepth 100000
set_option maxHeartbeats 2000000
/-! Lp: attributes as targets beside names (self.a, b = e). -/
namespace L2
open PySem PySem.Spec PyProof.Rows
section
variable {X : Cx} {o : Expr} {f : Str} {pos : Pos} {to : TE}
def gFldT (K : PySem.W.Frag) (to : TE) (f : Str) : TG := fun v σ H Q => to σ H fun x H1 => ∃ a C dx fs, x = .ref a ∧ H1 a = some (.ins C dx fs) ∧ Cls K C ∧ NoAttr K C f ∧ fs.length < 1000 ∧ Q σ (upd H1 a (.ins C dx (putF f v fs)))
/-- an attribute as a target -/
theorem pg_attr (ho : PE X o to) (ha : ∀ v, assign (.Attribute o f pos) X.env v = (do
      let ov ← holding [v] (eval o X.env)
      standAt pos.atName
      holding [v, ov] (setAttr ov f v)
      release [v, ov] []) := by intro _; rfl) : PG X (.Attribute o f pos) (gFldT X.K to f) := by
  refine ⟨fun pins s σ H v u Q I r h => ?_⟩
  rw [ha]
  refine wpAny_bind (wpAny_holding (thn (ho.run pins s σ H _ I h) fun ov s1 ⟨x, H1, I1, r1, a, C, dx, fs, ex, ea, c, n, l, q⟩ => ?_))
  subst ex
  obtain rfl : ov = Value.ref a := r1
  refine wpAny_bind (wpAny_standAt (wpAny_bind (wpAny_holding (setattr_ok I1 ea c n l r fun s3 I3 => ?_))))
  exact wpAny_release ⟨σ, _, I3, q⟩
end
end L2
namespace Vd
open PySem PySem.Spec PyProof.Rows L2 Vd0
/-- targets that may change the heap -/
def RfH (x : Kx) (P : Prt) (g : TG) (f : FG) : Prop := ∀ (F H : Hp) (env : En) (σ : L2.St) (Q : L2.St → Hp → Prop) (d : D) (v : V) (env' : En), StOk x F H env σ → Rep x F d v → f d env = some env' →
  (∀ F' H' σ', Step F H (Ow env σ) F' H' (Ow env' σ') → StOk x F' H' env' σ' → KeepS P σ σ' → Q σ' H') → g v σ H Q
def RfHs (x : Kx) (P : Prt) (g : TGs) (f : FGs) : Prop := ∀ (F H : Hp) (env : En) (σ : L2.St) (Q : L2.St → Hp → Prop) (ds : List D) (vs : List V) (env' : En), StOk x F H env σ → RepL x F ds vs → f ds env = some env' →
  (∀ F' H' σ', Step F H (Ow env σ) F' H' (Ow env' σ') → StOk x F' H' env' σ' → KeepS P σ σ' → Q σ' H') → g vs σ H Q
section
variable {ι : Type} {X : ι → Cx} {x : Kx} {P : Prt} {a b c e : Expr} {es : List Expr} {pos : Pos} {f : FE}
structure DH (X : ι → Cx) (x : Kx) (P : Prt) (e : Expr) (f : FG) : Prop where
  ex : ∃ t, (∀ i, PG (X i) e t) ∧ RfH x P t f
structure DHs (X : ι → Cx) (x : Kx) (P : Prt) (es : List Expr) (f : FGs) : Prop where
  ex : ∃ t, (∀ i, PGs (X i) es t) ∧ RfHs x P t f
theorem DG.h {g : FG} (h : DG X x P e g) : DH X x P e g := by
  obtain ⟨t, hp, hr⟩ := h
  exact ⟨t, hp, fun F H env σ Q d v env' s r q kk => hr F H env σ Q d v env' s r q fun σ' st s' k => kk F H σ' st s' k⟩
theorem hsNil : DHs X x P [] gsNil := ⟨_, fun _ => pgs_nil, fun F H env σ Q ds vs env' s r q kk => by
  cases r with
  | nil => cases q; exact ⟨rfl, kk _ _ _ Step.refl s KeepS.refl⟩
  | cons _ _ => cases q⟩
theorem hsCons {g : FG} {r : FGs} (h : DH X x P e g) (k : DHs X x P es r) (hs : ∀ i, (assignEach (e :: es) (X i).env).map (·.2) = assign e (X i).env :: (assignEach es (X i).env).map (·.2) := by intro _; rfl) : DHs X x P (e :: es) (gsCons g r) := by
  obtain ⟨t, hp, hr⟩ := h
  obtain ⟨u, gp, gr⟩ := k
  refine ⟨_, fun i => pgs_cons (hp i) (gp i) (hs i), fun F H env σ Q ds vs env' s r q kk => ?_⟩
  cases r with
  | nil => cases q
  | cons r1 r2 =>
    obtain ⟨e1, q1, q⟩ := Option.bind_eq_some_iff.mp q
    refine ⟨_, _, rfl, hr F H env σ _ _ _ e1 s r1 q1 fun F1 H1 σ1 st1 s1 k1 => ?_⟩
    exact gr F1 H1 e1 σ1 _ _ _ env' s1 (r2.mono st1.fro) q fun F2 H2 σ2 st2 s2 k2 => kk F2 H2 σ2 (st1.trans st2) s2 (k1.trans k2)
theorem hTup {g : FGs} {kk n : Nat} (hK : ∀ i, (X i).K = x.K) (hc : ∀ i, (X i).calm = true) (h : DHs X x P es g)
    (hn : ∀ i, (assignEach es (X i).env).length = n := by intro _; rfl) (hst : ∀ i, (assignEach es (X i).env).findIdx? (·.1) = none := by intro _; rfl) : DH X x P (.Tuple es kk pos) (gT n g) := by
  obtain ⟨t, hp, hr⟩ := h
  refine ⟨fun v σ H Q => gTup x.K n t v σ H Q ∨ gUnl x.K n t v σ H Q, fun i => by
    have h1 := pg_tup (pos := pos) (k := kk) (hc i) (hp i) (hn i) (hst i)
    have h2 := pg_unl (pos := pos) (k := kk) (hc i) (hp i) (hn i) (hst i)
    rw [hK i] at h1 h2
    exact pg_or h1 h2, fun F H env σ Q d v env' s r q kk => ?_⟩
  cases r with
  | @tup a xs ds h r =>
    by_cases hl : ds.length = n
    · have q : (if ds.length = n then g ds env else none) = some env' := q
      rw [if_pos hl] at q
      exact .inl ⟨a, xs, rfl, same_t s.good h, by rw [r.len]; exact hl, hr F H env σ Q ds xs env' s r q kk⟩
    · have q : (if ds.length = n then g ds env else none) = some env' := q
      rw [if_neg hl] at q
      cases q
  | @lst a xs ds h r =>
    by_cases hl : ds.length = n
    · have q : (if ds.length = n then g ds env else none) = some env' := q
      rw [if_pos hl] at q
      exact .inr ⟨a, xs, rfl, SqL.of (s.good _ _ h), by rw [r.len]; exact hl, hr F H env σ Q ds xs env' s r q kk⟩
    · have q : (if ds.length = n then g ds env else none) = some env' := q
      rw [if_neg hl] at q
      cases q
  | _ => cases q
/-- self.f as a target, self an own slot -/
def gFl (s0 t k : Nat) : FG := fun d e => match e[s0]? with
  | some (.ow (.ins t' ds)) => if t' = t ∧ k ≤ ds.length then some (e.set s0 (.ow (.ins t (if k = ds.length then ds ++ [d] else ds.set k d)))) else none
  | _ => none
theorem hFld {s0 t k : Nat} {y z : Str} {p p' : Pos} (hK : ∀ i, (X i).K = x.K) (hf : FldOk x t k z) (hl : (x.nm t).length < 1000) (hN : ∀ i, (X i).N[s0]? = some y) (hv : ∀ i, Vis (X i).env.scope y)
    (hd : (y == ("__debug__" : Str)) = false := by decide) (hcd : (y == ("__classdict__" : Str)) = false := by decide) :
    DH X x P (.Attribute (.Name y p) z p') (gFl s0 t k) := by
  refine ⟨gFldT x.K (tVar s0) z, fun i => by have := pg_attr (f := z) (pos := p') (pe_var (pos := p) (hN i) (hv i) hd hcd); rw [hK i] at this; exact this, fun F1 H1 e1 σ Q d1 v e2 s1 r1 q kk => ?_⟩
  unfold gFl at q
  cases h : e1[s0]? with
  | none => simp only [h] at q; cases q
  | some c =>
    simp only [h] at q
    cases c with
    | no => cases q
    | fz c => cases q
    | ow c =>
      cases c with
      | ins t' ds =>
        by_cases ht : t' = t ∧ k ≤ ds.length
        · have q : (if t' = t ∧ k ≤ ds.length then some (e1.set s0 (.ow (.ins t (if k = ds.length then ds ++ [d1] else ds.set k d1)))) else none) = some e2 := q
          rw [if_pos ht] at q
          cases q
          obtain ⟨rfl, hk⟩ := ht
          obtain ⟨a, ha, n, dx, xs, e, r⟩ := s1.ow s0 _ h
          have hle : xs.length = ds.length := r.len
          have hzl : ((x.nm t').zip xs).length < 1000 := Nat.lt_of_le_of_lt (by rw [List.length_zip]; exact Nat.min_le_left _ _) hl
          have hput : putF z v ((x.nm t').zip xs) = (x.nm t').zip (if k = xs.length then xs ++ [v] else xs.set k v) := zip_put hf.nd hf.at_ (by omega)
          have rr : RepL x F1 (if k = ds.length then ds ++ [d1] else ds.set k d1) (if k = xs.length then xs ++ [v] else xs.set k v) := by
            rw [hle]
            by_cases e : k = ds.length
            · rw [if_pos e, if_pos e]; exact r.app (.cons r1 .nil)
            · rw [if_neg e, if_neg e]; exact r.set r1 k
          have mu := s1.mut (d := .ins t' (if k = ds.length then ds ++ [d1] else ds.set k d1)) (o := .ins (x.cm t') dx (putF z v ((x.nm t').zip xs))) h ha n ⟨dx, _, by rw [upd_same, hput], rr⟩
          exact ⟨_, ha, a, x.cm t', dx, _, rfl, e, hf.cl, hf.no, hzl, kk F1 _ σ mu.2 mu.1 KeepS.refl⟩
        · have q : (if t' = t ∧ k ≤ ds.length then some (e1.set s0 (.ow (.ins t (if k = ds.length then ds ++ [d1] else ds.set k d1)))) else none) = some e2 := q
          rw [if_neg ht] at q
          cases q
      | _ => cases q
theorem sAsgH {tg : Expr} {g : FG} (he : DE X x e f) (hg : DH X x P tg g) (hs : ∀ i, swapsWithSole [tg] e pos.line (X i).env = pure false := by intro _; rfl) (hw : ∀ i, swappedStores [tg] e (X i).env = pure none := by intro _; rfl)
    (h1 : ∀ i, (assignEach [tg] (X i).env).map (·.2) = [assign tg (X i).env] := by intro _; rfl) : DS X x P (.Assign [tg] e pos) (fAsg g f) := by
  obtain ⟨t, hp, hr⟩ := he
  obtain ⟨u, gp, gr⟩ := hg
  refine ⟨_, fun i => ps_asg (hp i) (gp i) (hs i) (hw i) (h1 i), fun F H env σ D out s q kk => ?_⟩
  unfold fAsg at q
  obtain ⟨p, q1, q⟩ := Option.bind_eq_some_iff.mp q
  obtain ⟨e2, q2, q⟩ := Option.map_eq_some_iff.mp q
  cases q
  refine hr F H env σ _ p.1 p.2 s q1 fun F1 H1 v st s1 r => ?_
  exact gr F1 H1 p.2 σ _ p.1 v e2 s1 r q2 fun F2 H2 σ2 st2 s2 k2 => kk F2 H2 σ2 (st.trans st2) s2 k2
end
end Vd

end

section
set_option Elab.async false
set_option linter.all false
set_option maxRecDepth 100000
set_option maxHeartbeats 2000000
/-! Lq: {K: V for a, b in d.items()}: the dict d is locked meanwhile; what is made holds scalars alone. -/
namespace Vd
open PySem PySem.Spec PyProof.Rows L2 Vd0
def scal : D → Bool
  | .non => true
  | .bl _ => true
  | .int _ => true
  | .str _ => true
  | _ => false
theorem Rep.scal {x : Kx} {F F' : Hp} {d : D} {v : V} (r : Rep x F d v) (h : Vd.scal d = true) : Rep x F' d v := by
  cases r with
  | non => exact .non
  | bl b => exact .bl b
  | int i => exact .int i
  | str z => exact .str z
  | _ => cases h
theorem RepK.scal {x : Kx} {F F' : Hp} : ∀ {ds : List (Key × D)} {vs : List (Key × V)}, RepK x F ds vs → ds.all (fun kv => Vd.scal kv.2) = true → RepK x F' ds vs
  | _, _, .nil, _ => .nil
  | _, _, .cons h r, q => by
    rw [List.all_cons, Bool.and_eq_true] at q
    exact .cons (h.scal q.1) (RepK.scal r q.2)
/-- the slots that hold scalars -/
def scE (e : En) : En := e.map fun s => match s with
  | .fz d => if scal d then .fz d else .no
  | _ => .no
theorem scE_fz {e : En} {i : Nat} {d : D} (h : (scE e)[i]? = some (.fz d)) : e[i]? = some (.fz d) ∧ scal d = true := by
  unfold scE at h
  rw [List.getElem?_map] at h
  cases q : e[i]? with
  | none => rw [q] at h; cases h
  | some z =>
    rw [q] at h
    cases z with
    | no => cases h
    | ow _ => cases h
    | fz c =>
      simp only [Option.map_some] at h
      by_cases hc : scal c = true
      · rw [if_pos hc] at h; cases h; exact ⟨rfl, hc⟩
      · rw [if_neg hc] at h; cases h
theorem scE_ow {e : En} {i : Nat} {d : D} (h : (scE e)[i]? = some (.ow d)) : False := by
  unfold scE at h
  rw [List.getElem?_map] at h
  cases q : e[i]? with
  | none => rw [q] at h; cases h
  | some z =>
    rw [q] at h
    cases z with
    | no => cases h
    | ow _ => cases h
    | fz c =>
      simp only [Option.map_some] at h
      by_cases hc : scal c = true
      · rw [if_pos hc] at h; cases h
      · rw [if_neg hc] at h; cases h
def kD : Key → D
  | .inl i => .int i
  | .inr z => .str z
theorem kD_rep {x : Kx} {F : Hp} (k : Key) : Rep x F (kD k) (kV k) := by
  cases k with
  | inl i => exact .int i
  | inr z => exact .str z
def itemsD (kvs : List (Key × D)) : List D := kvs.map fun kv => .tup [kD kv.1, kv.2]
theorem RepK.get {x : Kx} {F : Hp} : ∀ {ds : List (Key × D)} {vs : List (Key × V)} {i : Nat} {kv : Key × D}, RepK x F ds vs → ds[i]? = some kv → ∃ v, vs[i]? = some (kv.1, v) ∧ Rep x F kv.2 v
  | _, _, _, _, .nil, e => by simp at e
  | _, _, 0, _, .cons h _, e => by simp at e; subst e; exact ⟨_, rfl, h⟩
  | _, _, i + 1, kv, .cons _ r, e => by
    obtain ⟨v, h1, h2⟩ := RepK.get (i := i) (kv := kv) r (by simpa using e)
    exact ⟨v, by simpa using h1, h2⟩
/-- what tDc asks of a walk -/
def dcBody (g : TG) (tt : TT) (tk tv : TE) (vs : List Nat) (σ : L2.St) (Q : VK) (J : It) (H1 : Hp) : Prop := ∀ D, H1 D = none → ∃ W : Nat → Nat → Hp → Prop, (∃ m, W 0 m (upd H1 D (.dK []))) ∧ ∀ i m H, W i m H →
  (J.stop i H ∧ Q (.ref D) H) ∨ (J.go i H ∧ ∃ Nx : Hp → Prop, (∀ H', Nx H' → ∃ m', m' < m ∧ W (i + 1) m' H') ∧ ∀ x H', J.yld i H x H' → g x (L2.wipe σ vs) H' fun σ2 H2 => L2.wipe σ2 vs = L2.wipe σ vs ∧ tt σ2 H2 fun b H3 =>
    if b = true then tk σ2 H3 fun y H4 => tv σ2 H4 fun z H5 => ∃ kvs k, y = kV k ∧ H5 D = some (.dK kvs) ∧ kvs.length < sizeLine ∧ Nx (upd H5 D (.dK (putK kvs k z))) else Nx H3)
theorem tDc_body {wi : TI} {g : TG} {tt : TT} {tk tv : TE} {vs : List Nat} {σ : L2.St} {H : Hp} {Q : VK} : tDc wi g tt tk tv vs σ H Q = wi σ H (dcBody g tt tk tv vs σ Q) := rfl
theorem dc_walk {x : Kx} {vs : List Nat} {tg : TG} {tt : TT} {tk tv : TE} {g : FG} {t : FT} {fk fv : FE} (hg : RfG x (outP vs) tg g) (ht : RfT x tt t) (hk : RfE x tk fk) (hv : RfE x tv fv)
    {F1 H1 : Hp} {e1 e2 : En} {σ : L2.St} {ds : List D} {res : List (Key × D)} {J : It} {Q : VK} (s1 : StOk x F1 H1 e1 σ) (wk : WalkD x J F1 ds) (q2 : dcLoop vs g t fk fv ds [] e1 = some (res, e2))
    (kk : ∀ F' H' Dl, Step F1 H1 (Ow e1 σ) F' H' (Ow e2 σ) → Same F1 F' → StOk x F' H' e2 σ → H1 Dl = none → F' Dl = none → ¬ Ow e2 σ Dl → RepO x F' H' Dl (.dic res) → Q (.ref Dl) H') : dcBody tg tt tk tv vs σ Q J H1 := by
  intro Dl nD
  have fD := fnone s1.good nD
  refine ⟨fun i m H' => i ≤ ds.length ∧ m = ds.length - i ∧ ∃ F' e' acc accV, Step F1 H1 (Ow e1 σ) F' H' (Ow e' σ) ∧ Same F1 F' ∧ StOk x F' H' e' σ ∧ F' Dl = none ∧ ¬ Ow e' σ Dl ∧ H' Dl = some (.dK accV) ∧ RepK x F' acc accV ∧ dcLoop vs g t fk fv (ds.drop i) acc e' = some (res, e2),
    ⟨_, Nat.zero_le _, rfl, F1, e1, [], [], Step.refl.other nD, fun _ _ z => z, s1.other fD (s1.notOw nD), fD, s1.notOw nD, upd_same, .nil, q2⟩, ?_⟩
  rintro i m H' ⟨hi', rfl, F', e', acc, accV, st', sf, s', fD', nO, hD', rr, hq⟩
  by_cases hlt : i < ds.length
  · obtain ⟨d, hd⟩ : ∃ d, ds[i]? = some d := ⟨ds[i], List.getElem?_eq_getElem hlt⟩
    have hdrop : ds.drop i = d :: ds.drop (i + 1) := by
      rw [List.drop_eq_getElem_cons hlt]
      rw [List.getElem?_eq_getElem hlt] at hd
      cases hd
      rfl
    rw [hdrop] at hq
    unfold dcLoop at hq
    obtain ⟨e3, q3, hq⟩ := Option.bind_eq_some_iff.mp hq
    obtain ⟨⟨b, e4⟩, q4, hq⟩ := Option.bind_eq_some_iff.mp hq
    refine .inr ⟨wk.go F' H' i sf s'.good hlt, fun H2 => ∃ F2 e' acc accV, Step F1 H1 (Ow e1 σ) F2 H2 (Ow e' σ) ∧ Same F1 F2 ∧ StOk x F2 H2 e' σ ∧ F2 Dl = none ∧ ¬ Ow e' σ Dl ∧ H2 Dl = some (.dK accV) ∧ RepK x F2 acc accV ∧ dcLoop vs g t fk fv (ds.drop (i + 1)) acc e' = some (res, e2),
      fun H2 h => ⟨ds.length - (i + 1), by omega, hlt, rfl, h⟩, fun v H2 hy => ?_⟩
    obtain ⟨F2, gr, rv⟩ := wk.yld F' H' i v H2 d sf s'.good hd hy
    have s2 := s'.grow gr
    have fD2 : F2 Dl = none := gr.nope hD' fD'
    have hD2 : H2 Dl = some (.dK accV) := gr.fH _ _ hD'
    have st2 := st'.trans (gr.step (Ow e' σ))
    have sf2 : Same F1 F2 := fun b u z => gr.fF b u (sf b u z)
    obtain ⟨sw, hsw⟩ := s2.wipe vs
    have nOw : ¬ Ow (wipeE e' vs) (L2.wipe σ vs) Dl := fun h => by
      obtain ⟨j, dj, _, h1, h2⟩ := hsw Dl h
      exact nO ⟨j, dj, h1, h2⟩
    refine hg F2 H2 (wipeE e' vs) (L2.wipe σ vs) _ d v e3 sw rv q3 fun σ3 st3 s3 k3 => ?_
    obtain ⟨hl3, hw3, hwe⟩ := wipe_eq k3
    refine ⟨hwe, ht F2 H2 e3 σ3 _ b e4 s3 q4 fun F4 H4 st4 s4 => ?_⟩
    have st34 := st3.trans st4
    obtain ⟨hD4, fD4⟩ := st34.kp Dl _ hD2 fD2 nOw
    cases b with
    | false =>
      obtain ⟨s5, st5⟩ := s2.unwipe st34 s4 hl3 hw3
      refine ⟨F4, unw e' e4 vs, acc, accV, st2.trans st5, fun b u z => st34.fro b u (sf2 b u z), s5, fD4, fun h => ?_, hD4, (rr.mono gr.fF).mono st34.fro, hq⟩
      rcases st5.ow Dl h with z | z
      · exact nO z
      · rw [hD2] at z; cases z
    | true =>
      obtain ⟨⟨y, e5⟩, q5, hq⟩ := Option.bind_eq_some_iff.mp hq
      obtain ⟨⟨y2, e6⟩, q6, hq⟩ := Option.bind_eq_some_iff.mp hq
      obtain ⟨k, q7, hq⟩ := Option.bind_eq_some_iff.mp hq
      by_cases hz : acc.length < 100000
      · simp only [] at hq
        rw [if_pos hz] at hq
        refine hk F4 H4 e4 σ3 _ y e5 s4 q5 fun F5 H5 yv st5 s5 ry => ?_
        refine hv F5 H5 e5 σ3 _ y2 e6 s5 q6 fun F6 H6 zv st6 s6 rz => ?_
        have st36 := (st34.trans st5).trans st6
        obtain ⟨hD6, fD6⟩ := st36.kp Dl _ hD2 fD2 nOw
        obtain ⟨s7, st7⟩ := s2.unwipe st36 s6 hl3 hw3
        have nO7 : ¬ Ow (unw e' e6 vs) σ Dl := fun h => by
          rcases st7.ow Dl h with z | z
          · exact nO z
          · rw [hD2] at z; cases z
        have rr6 : RepK x F6 acc accV := (rr.mono gr.fF).mono st36.fro
        refine ⟨accV, k, keyOf_rep ry q7, hD6, size_lt (by rw [rr6.len]; exact hz), F6, unw e' e6 vs, _, _, (st2.trans st7).other nD, fun b u z => st36.fro b u (sf2 b u z), s7.other fD6 nO7, fD6, nO7, upd_same, rr6.put rz, hq⟩
      · simp only [] at hq
        rw [if_neg hz] at hq
        cases hq
  · have e : i = ds.length := by omega
    subst e
    rw [List.drop_length] at hq
    cases hq
    exact .inl ⟨wk.stop F' H' sf s'.good, kk F' H' Dl st' sf s' nD fD' nO ⟨accV, hD', rr⟩⟩
/-- what a dict's locked walk makes -/
def dcI (vs : List Nat) (g : FG) (t : FT) (fk fv : FE) (kvs : List (Key × D)) (e : En) : Option (List (Key × D)) :=
  if kvs.all (fun kv => scal kv.2) = true then (dcLoop vs g t fk fv (itemsD kvs) [] (scE e)).bind fun q => if q.1.all (fun kv => scal kv.2) = true then some q.1 else none else none
theorem dcI_run {x : Kx} {vs : List Nat} {tg : TG} {tt : TT} {tk tv te : TE} {g : FG} {t : FT} {fk fv : FE} (hg : RfG x (outP vs) tg g) (ht : RfT x tt t) (hk : RfE x tk fk) (hv : RfE x tv fv)
    {F H : Hp} {env : En} {σ : L2.St} {d : Addr} {kvs res : List (Key × D)} {kvsV : List (Key × V)} {Q : VK} (s : StOk x F H env σ) (hd : H d = some (.dK kvsV)) (rk : RepK x F kvs kvsV)
    (hte : ∀ od R, R (.ref d) (upd H d (.frz od (.dK kvsV))) → te σ (upd H d (.frz od (.dK kvsV))) R) (q : dcI vs g t fk fv kvs env = some res)
    (kk : ∀ H' a, Grow F H F H' → H a = none → F a = none → ¬ Ow env σ a → RepO x F H' a (.dic res) → Q (.ref a) H') : tLockE (tDc (iItems te) tg tt tk tv vs) σ H Q := by
  unfold dcI at q
  split at q
  · rename_i hsc
    obtain ⟨⟨res', e2⟩, q2, q⟩ := Option.bind_eq_some_iff.mp q
    simp only at q
    split at q
    · rename_i hrs
      cases q
      refine ⟨d, _, hd, trivial, fun od => ?_⟩
      rw [tDc_body]
      refine hte od _ ⟨d, od, kvsV, rfl, upd_same, ?_⟩
      let F0 : Hp := upd (fun _ => none) d (.frz od (.dK kvsV))
      have g0 : Same F0 (upd H d (.frz od (.dK kvsV))) := fun b u z => by
        by_cases hb : b = d
        · subst hb; rw [upd_same]; simpa [F0, upd_same] using z
        · exact absurd z (by simp [F0, upd_ne hb])
      have s0 : StOk x F0 (upd H d (.frz od (.dK kvsV))) (scE env) σ := by
        refine ⟨g0, by simp [scE, s.len], fun i c z => ?_, fun i c z => (scE_ow z).elim, fun i j c e a z => (scE_ow z).elim⟩
        obtain ⟨z1, z2⟩ := scE_fz z
        obtain ⟨v, h1, r⟩ := s.fz i c z1
        exact ⟨v, h1, r.scal z2⟩
      have nOw0 : ∀ a, ¬ Ow (scE env) σ a := fun a ⟨i, c, z, _⟩ => scE_ow z
      have wk : WalkD x (Iti d od kvsV) F0 (itemsD kvs) := by
        refine WalkD.ofPair (walk_items (d := d) (o := od)) (by simp [itemsD, rk.len]) (fun F1 H1 a b => b _ _ (a _ _ (by simp [F0, upd_same]))) fun i dd u v h1 h2 h3 => ?_
        unfold itemsD at h1
        rw [List.getElem?_map] at h1
        obtain ⟨kv, q1, q2⟩ := Option.map_eq_some_iff.mp h1
        subst q2
        obtain ⟨w, e1, r1⟩ := rk.get q1
        rw [e1] at h2 h3
        cases h2
        cases h3
        exact ⟨_, _, rfl, kD_rep _, r1.scal (by
          have := List.all_eq_true.mp hsc kv (List.mem_of_getElem? q1)
          exact this)⟩
      refine dc_walk hg ht hk hv s0 wk q2 fun F' H' Dl st sf s' nD fD nO ro => ?_
      obtain ⟨accV, hD, rr⟩ := ro
      have hdd : H' d = some (.frz od (.dK kvsV)) := s'.good _ _ (sf _ _ (by simp [F0, upd_same]))
      have hne : Dl ≠ d := fun z => by rw [z, upd_same] at nD; cases nD
      have nH : H Dl = none := by rw [upd_ne hne] at nD; exact nD
      have sH : Same H (upd H' d (.dK kvsV)) := fun b u z => by
        by_cases hb : b = d
        · subst hb; rw [upd_same]; rw [hd] at z; exact z
        · rw [upd_ne hb]
          exact (st.kp b u (by rw [upd_ne hb]; exact z) (by simp [F0, upd_ne hb]) (nOw0 b)).1
      refine ⟨hdd, kk _ Dl ⟨fun _ _ z => z, sH, fun _ _ z => .inl z, fun b u z => sH b u (s.good b u z)⟩ nH (fnone s.good nH) (s.notOw nH) ⟨accV, by rw [upd_ne hne]; exact hD, rr.scal hrs⟩⟩
    · cases q
  · cases q
section
variable {ι : Type} {X : ι → Cx} {x : Kx} {kx vx e : Expr} {ifs elts : List Expr} {scope : Scope} {pos apos cpos tpos p : Pos} {own : List (Str × Nat)} {g : FG} {t : FT} {fk fv : FE} {ktp : Nat}
/-- {K: V for a, b in m.items()}, m a name -/
def fDcI (vs : List Nat) (k : Nat) (g : FG) (t : FT) (fk fv : FE) : FE := fun e => (slD e[k]?).bind fun d => match d with
  | .dic kvs => (dcI vs g t fk fv kvs e).map fun r => (.dic r, e)
  | _ => none
theorem dDcI (k : Nat) {z : Str} (hc : ∀ i, (X i).calm = true) (hN : ∀ i, (X i).N.Nodup) (hz : ∀ i, (X i).N[k]? = some z) (hvi : ∀ i, Vis (X i).env.scope z) (ok : ∀ i, BlkOk (X i).N (X i).env.scope scope own)
    (hg : DG (blkF X scope) x (outP (own.map (·.2))) (.Tuple elts ktp tpos) g) (ht : DTs (blkF X scope) x ifs t) (hk : DE (blkF X scope) x kx fk) (hv : DE (blkF X scope) x vx fv)
    (hd : (z == ("__debug__" : Str)) = false := by decide) (hcd : (z == ("__classdict__" : Str)) = false := by decide)
    (hbase : ∀ i, attributeBase (.Name z p) "items" (X i).env (eval (.Name z p) (X i).env) = eval (.Name z p) (X i).env := by intro _; rfl) (hline : (apos.endLine == cpos.line) = true := by rfl)
    (hs : ∀ i y, foldedSetIterable (.Call (.Attribute (.Name z p) "items" apos) [] [] cpos) (X i).env y = pure y := by intro _ _; rfl) :
    DN X x (.DictComp kx vx [⟨.Tuple elts ktp tpos, .Call (.Attribute (.Name z p) "items" apos) [] [] cpos, ifs, 0⟩] scope pos) (fDcI (own.map (·.2)) k g t fk fv) := by
  obtain ⟨b, gp, gr⟩ := hg
  obtain ⟨u, tp, tr⟩ := ht
  obtain ⟨w, kp, kr⟩ := hk
  obtain ⟨w2, vp, vr⟩ := hv
  refine ⟨_, fun i => pe_lock (pe_dc (hc i) (hN i) (pi_items (pe_var (pos := p) (hz i) (hvi i) hd hcd) (hbase i) hline) (ok i) (fun s H C cl fp => gp (i, s, H, C, cl, fp)) (fun s H C cl fp => tp (i, s, H, C, cl, fp)) (fun s H C cl fp => kp (i, s, H, C, cl, fp)) (fun s H C cl fp => vp (i, s, H, C, cl, fp)) (hs i)), fun F H env σ Q d env' s q kk => ?_⟩
  unfold fDcI at q
  obtain ⟨d1, q1, q⟩ := Option.bind_eq_some_iff.mp q
  cases d1 with
  | dic kvs =>
    obtain ⟨r, q2, q⟩ := Option.map_eq_some_iff.mp q
    cases q
    have ho : ∃ v, σ[k]? = some (some v) ∧ View x F H (.dic kvs) v := by
      cases h1 : env[k]? with
      | none => rw [h1] at q1; cases q1
      | some z =>
        rw [h1] at q1
        cases z with
        | no => cases q1
        | fz c => cases q1; obtain ⟨v, q, r⟩ := s.fz k _ h1; exact ⟨v, q, r.view s.good⟩
        | ow c => cases q1; obtain ⟨v, q, _, r⟩ := s.ow k _ h1; exact ⟨_, q, r.view⟩
    obtain ⟨v, hv, vw⟩ := ho
    cases vw with
    | @dic a kvsV ds h1 r1 =>
      exact dcI_run gr tr kr vr s h1 r1 (fun od R hR => ⟨_, hv, hR⟩) q2 fun H' a g n f no ro => kk F H' a (g.step _) (s.grow g) n f no ro
  | _ => cases q
/-- {K: V for a, b in self.f.items()} -/
def fDcIF (vs : List Nat) (s0 ct k : Nat) (g : FG) (t : FT) (fk fv : FE) : FE := fun e => (slD e[s0]?).bind fun d => match d with
  | .ins t' ds => if t' = ct then match ds[k]? with
    | some (.dic kvs) => (dcI vs g t fk fv kvs e).map fun r => (.dic r, e)
    | _ => none
    else none
  | _ => none
end
end Vd

end

section
set_option Elab.async false
set_option linter.all false
set_option maxRecDepth 100000
set_option maxHeartbeats 2000000
/-! Lr: <= of lists of ints, abs, sorted of a dict's int keys, d.get(k, x), xs.insert, xs.index, a call with one new own object as its argument. -/
namespace Vd
open PySem PySem.Spec PyProof.Rows L2 Vd0
/-- ns <= ms, item by item -/
def leI : List Int → List Int → Bool
  | [], _ => true
  | _ :: _, [] => false
  | a :: as, b :: bs => if a = b then leI as bs else decide (a ≤ b)
theorem firstLt_map {e r : Nat → Bool} {fin : Bool} (f : Nat → Nat) : ∀ l : List Nat, SeqAt.firstLt e r fin (l.map f) = SeqAt.firstLt (fun j => e (f j)) (fun j => r (f j)) fin l
  | [] => rfl
  | j :: t => by
    rw [List.map_cons]
    unfold SeqAt.firstLt
    rw [firstLt_map f t]
theorem firstLt_leI : ∀ ns ms : List Int, SeqAt.firstLt (fun j => decide (ns.getD j 0 = ms.getD j 0)) (fun j => decide (ns.getD j 0 ≤ ms.getD j 0)) (decide (ns.length ≤ ms.length)) (List.range (min ns.length ms.length)) = leI ns ms
  | [], ms => by simp [SeqAt.firstLt, leI]
  | a :: as, [] => by simp [SeqAt.firstLt, leI]
  | a :: as, b :: bs => by
    have hm : min (a :: as).length (b :: bs).length = min as.length bs.length + 1 := by simp only [List.length_cons]; omega
    rw [hm, List.range_succ_eq_map]
    unfold SeqAt.firstLt leI
    by_cases h : a = b
    · subst h
      simp only [List.getD_cons_zero, decide_true, if_true]
      rw [firstLt_map]
      have := firstLt_leI as bs
      simpa using this
    · simp [h]
def rLeL (K : PySem.W.Frag) : R2 := fun x y H Q => ∃ (a b : Addr) (ns ms : List Int), x = .ref a ∧ y = .ref b ∧ SqL K H a (ns.map V.int) ∧ SqL K H b (ms.map V.int) ∧ Q (.bl (leI ns ms)) H
theorem op_leL {X : Cx} (hu : X.A.units < cLine) : OpR X (compareOp .LtE) (rLeL X.K) := by
  intro pins s σ H x y v u Q I rx ry h
  obtain ⟨a, b, ns, ms, rfl, rfl, ha, hb, q⟩ := h
  cases rx
  cases ry
  obtain ⟨its, r1, p1, _⟩ := I.list ha
  obtain ⟨its2, r2, p2, _⟩ := I.list hb
  have i1 : IntsAre its ns := Vals.ints r1
  have i2 : IntsAre its2 ms := Vals.ints r2
  have e1 : its.toArray.size = ns.length := by rw [List.size_toArray]; exact i1.length
  have e2 : its2.toArray.size = ms.length := by rw [List.size_toArray]; exact i2.length
  have at1 : ∀ j (h1 : j < its.toArray.size), ∃ t, its.toArray[j] = .int (ns.getD j 0) t := fun j h1 => PyProof.Rows.IntsAre.int_at i1 _ _ (by simp at h1; simp [h1])
  have at2 : ∀ j (h1 : j < its2.toArray.size), ∃ t, its2.toArray[j] = .int (ms.getD j 0) t := fun j h1 => PyProof.Rows.IntsAre.int_at i2 _ _ (by simp at h1; simp [h1])
  have R := SeqAt.RcOp.lists_le (A := X.A) (s := s) (e := fun j => decide (ns.getD j 0 = ms.getD j 0)) (r := fun j => decide (ns.getD j 0 ≤ ms.getD j 0)) p1.isList p2.isList hu (fun j h1 h2 => by
    obtain ⟨t, et⟩ := at1 j h1
    obtain ⟨t', et'⟩ := at2 j h2
    rw [et, et']
    have z : (ns.getD j 0 == ms.getD j 0) = decide (ns.getD j 0 = ms.getD j 0) := by
      by_cases q : ns.getD j 0 = ms.getD j 0
      · rw [decide_eq_true q]; exact beq_iff_eq.mpr q
      · rw [decide_eq_false q]; exact beq_eq_false_iff_ne.mpr q
    rw [← z]
    exact SeqAt.EqAt.int_int _ _ _ _) (fun j h1 h2 _ => by
    obtain ⟨t, et⟩ := at1 j h1
    obtain ⟨t', et'⟩ := at2 j h2
    rw [et, et']
    exact fun _ _ _ _ h => PyProof.Rows.le_int h)
  rw [e1, e2, firstLt_leI] at R
  have z : wpAny (model X.prog X.w) X.A (compareOp .LtE (.ref a) (.ref b)) (EP X pins σ Q) X.xe s := R X.prog X.w X.xe (EP X pins σ Q) ⟨.bl _, H, I, rfl, q⟩
  exact z
section
variable {x : Kx}
/-! ### a <= b of ints, of lists of ints -/
def intsOf : D → Option (List Int)
  | .lst ds => toInts ds
  | .scr ns => some ns
  | _ => none
theorem view_ints {F H : Hp} {d : D} {v : V} {ns : List Int} (h : View x F H d v) (q : intsOf d = some ns) : ∃ a, v = .ref a ∧ SqL x.K H a (ns.map V.int) := by
  cases h with
  | @lst a xs ds h r =>
    have e := toInts_of (show toInts ds = some ns from q)
    subst e
    have e2 := r.ints
    subst e2
    exact ⟨a, rfl, SqL.of h⟩
  | @scr a ms h =>
    cases q
    exact ⟨a, rfl, h⟩
  | _ => cases q
def vLeU (a b : D) : Option D := (vLe a b).orElse fun _ => (intsOf a).bind fun ns => (intsOf b).map fun ms => .bl (leI ns ms)
def rLeU (K : PySem.W.Frag) : R2 := fun x y H Q => rI0 (fun i j => .bl (decide (i ≤ j))) x y H Q ∨ rLeL K x y H Q
theorem op_leU {X : Cx} (hu : X.A.units < cLine) : OpR X (compareOp .LtE) (rLeU X.K) := fun pins s σ H x y u v Q I rx ry h => h.elim (op_le pins s σ H x y u v Q I rx ry) (op_leL hu pins s σ H x y u v Q I rx ry)
theorem opd_leU : OpD x (rLeU x.K) vLeU := fun F H u v da db d Q g hu hv q kk => by
  unfold vLeU at q
  cases h : vLe da db with
  | some c =>
    rw [h] at q
    cases q
    exact .inl (opd_le F H u v da db d Q g hu hv h kk)
  | none =>
    rw [h] at q
    obtain ⟨ns, q1, q⟩ := Option.bind_eq_some_iff.mp (show (intsOf da).bind (fun ns => (intsOf db).map fun ms => D.bl (leI ns ms)) = some d from q)
    obtain ⟨ms, q2, q⟩ := Option.map_eq_some_iff.mp q
    cases q
    obtain ⟨a, rfl, ha⟩ := view_ints hu q1
    obtain ⟨b, rfl, hb⟩ := view_ints hv q2
    exact .inr ⟨a, b, ns, ms, rfl, rfl, ha, hb, kk_same g (.bl _) kk⟩
/-! ### abs -/
def vAbs : D → Option D
  | .int i => some (.int (if i < 0 then -i else i))
  | _ => none
theorem und_abs : UnD x (fun u H Q => ∃ i, [u] = [V.int i] ∧ Q (.int (if i < 0 then -i else i)) H) vAbs := fun F H u da d Q g hu q kk => by
  cases hu with
  | int i => cases q; exact ⟨i, rfl, kk_same g (.int _) kk⟩
  | _ => cases q
/-! ### sorted of a dict with int keys -/
def insI (a : Int) : List Int → List Int
  | [] => [a]
  | b :: bs => if a ≤ b then a :: b :: bs else b :: insI a bs
def sortI : List Int → List Int
  | [] => []
  | a :: as => insI a (sortI as)
theorem insI_perm (a : Int) : ∀ l : List Int, (insI a l).Perm (a :: l)
  | [] => .refl _
  | b :: bs => by
    unfold insI
    by_cases h : a ≤ b
    · rw [if_pos h]
    · rw [if_neg h]
      exact ((insI_perm a bs).cons b).trans (.swap _ _ _)
theorem sortI_perm : ∀ l : List Int, (sortI l).Perm l
  | [] => .refl _
  | a :: as => (insI_perm a _).trans ((sortI_perm as).cons a)
theorem insI_sorted (a : Int) : ∀ {l : List Int}, l.Pairwise (· ≤ ·) → (insI a l).Pairwise (· ≤ ·)
  | [], _ => by simp [insI]
  | b :: bs, h => by
    unfold insI
    obtain ⟨h1, h2⟩ := List.pairwise_cons.mp h
    by_cases hab : a ≤ b
    · rw [if_pos hab]
      exact List.pairwise_cons.mpr ⟨fun c hc => by
        rcases List.mem_cons.mp hc with rfl | hc
        · exact hab
        · exact Int.le_trans hab (h1 c hc), h⟩
    · rw [if_neg hab]
      exact List.pairwise_cons.mpr ⟨fun c hc => by
        rcases List.mem_cons.mp ((insI_perm a bs).mem_iff.mp hc) with rfl | hc
        · omega
        · exact h1 c hc, insI_sorted a h2⟩
theorem sortI_sorted : ∀ l : List Int, (sortI l).Pairwise (· ≤ ·)
  | [] => .nil
  | a :: as => insI_sorted a (sortI_sorted as)
theorem sorted_uniq : ∀ {l m : List Int}, l.Perm m → l.Pairwise (· ≤ ·) → m.Pairwise (· ≤ ·) → l = m
  | [], m, p, _, _ => by simpa using p.symm.eq_nil
  | a :: as, [], p, _, _ => by simpa using p.eq_nil
  | a :: as, b :: bs, p, h1, h2 => by
    obtain ⟨h3, h4⟩ := List.pairwise_cons.mp h1
    obtain ⟨h5, h6⟩ := List.pairwise_cons.mp h2
    have e : a = b := by
      have m1 : a ∈ b :: bs := p.mem_iff.mp List.mem_cons_self
      have m2 : b ∈ a :: as := p.mem_iff.mpr List.mem_cons_self
      rcases List.mem_cons.mp m1 with z | z
      · exact z
      · rcases List.mem_cons.mp m2 with y | y
        · exact y.symm
        · have := h3 b y
          have := h5 a z
          omega
    subst e
    rw [sorted_uniq (List.Perm.cons_inv p) h4 h6]
def intKs : List (Key × D) → Option (List Int)
  | [] => some []
  | (.inl i, _) :: kvs => (intKs kvs).map fun r => i :: r
  | _ :: _ => none
theorem intKs_rep {F : Hp} : ∀ {ds : List (Key × D)} {vs : List (Key × V)} {ks : List Int}, RepK x F ds vs → intKs ds = some ks → vs.map (·.1) = ks.map Sum.inl
  | _, _, ks, .nil, h => by cases h; rfl
  | _, _, ks, @RepK.cons _ _ k d v ds vs _ r, h => by
    cases k with
    | inl i =>
      obtain ⟨r', h1, h2⟩ := Option.map_eq_some_iff.mp (show (intKs ds).map (fun r => i :: r) = some ks from h)
      subst h2
      rw [List.map_cons, List.map_cons, intKs_rep r h1]
    | inr z => cases h
def vSortK : D → Option D
  | .dic kvs => (intKs kvs).bind fun ks => if ks.length < 64 then some (.lst ((sortI ks).map .int)) else none
  | _ => none
theorem unn_sortK : UnN x (fun u H Q => ∃ (a : Addr) (kvs : List (Key × V)) (ks : List Int), [u] = [V.ref a] ∧ Rd H a (.dK kvs) ∧ kvs.map (·.1) = ks.map Sum.inl ∧ ks.length < 64 ∧
    ∀ (ys : List Int) (p : Addr), ys.Perm ks → ys.Pairwise (· ≤ ·) → H p = none → Q (.ref p) (upd H p (.lst (ys.map V.int)))) vSortK := fun F H u da d Q g hu q kk => by
  cases hu with
  | @dic a kvs ds h r =>
    obtain ⟨ks, q1, q⟩ := Option.bind_eq_some_iff.mp (show (intKs ds).bind (fun ks => if ks.length < 64 then some (D.lst ((sortI ks).map .int)) else none) = some d from q)
    split at q
    · cases q
      refine ⟨a, kvs, ks, rfl, Rd.of h, intKs_rep r q1, ‹_›, fun ys p hp hs np => ?_⟩
      rw [sorted_uniq (hp.trans (sortI_perm ks).symm) hs (sortI_sorted ks)]
      exact kk p _ np ⟨_, upd_same, RepL.of_ints _⟩
    · cases q
  | _ => cases q
/-! ### insert, index -/
def mInsert : D → List D → Option (D × D)
  | .lst ds, [.int i, d] => if 0 ≤ i ∧ i < 2 ^ 30 ∧ ds.length < 100000 then some (.non, .lst (ds.take i.toNat ++ [d] ++ ds.drop i.toNat)) else none
  | _, _ => none
theorem mur_insert : MuR x (fun u vs H Q => ∃ (l : Addr) (xs : List V) (i : Int) (y : V), u = .ref l ∧ vs = [.int i, y] ∧ H l = some (.lst xs) ∧ xs.length < sizeLine ∧ 0 ≤ i ∧ i < 2 ^ 63 ∧ Q .non (upd H l (.lst (xs.take i.toNat ++ [y] ++ xs.drop i.toNat)))) mInsert := fun F H a us c as d c' Q g ro rl q kk => by
  cases c with
  | lst ds =>
    obtain ⟨xs, hx, r⟩ := ro
    match as, q with
    | [.int i, d1], q =>
      have q : (if 0 ≤ i ∧ i < 2 ^ 30 ∧ ds.length < 100000 then some (D.non, D.lst (ds.take i.toNat ++ [d1] ++ ds.drop i.toNat)) else none) = some (d, c') := q
      cases rl with
      | cons r1 r2 =>
        cases r2 with
        | cons r3 r4 =>
          cases r4
          cases r1
          split at q
          · rename_i hc
            cases q
            exact ⟨a, xs, i, _, rfl, rfl, hx, size_lt (by rw [r.len]; exact hc.2.2), hc.1, by omega, kk _ .non ⟨_, upd_same, ((r.take _).app (.cons r3 .nil)).app (r.drop _)⟩ .non⟩
          · cases q
  | _ => cases as with
    | nil => cases q
    | cons a as => cases as with
      | nil => cases a <;> cases q
      | cons b as => cases as <;> (try cases a) <;> cases q
def mIndex : D → List D → Option D
  | .lst ds, [.int k] => (toInts ds).bind fun ns => if k ∈ ns then some (.int (ns.idxOf k : Nat)) else none
  | _, _ => none
theorem lt_idx_ne {k : Int} : ∀ {ks : List Int} {j : Nat}, j < ks.idxOf k → ∀ (h2 : j < ks.length), ks[j] ≠ k
  | n :: r, 0, h, _ => fun e => by
    have e' : n = k := e
    subst e'
    simp at h
  | n :: r, j + 1, h, h2 => by
    by_cases e : n = k
    · subst e; simp at h
    · have hb : (n == k) = false := by simpa using e
      have h' : j < r.idxOf k := by
        rw [List.idxOf_cons, hb] at h
        exact Nat.lt_of_succ_lt_succ h
      exact lt_idx_ne h' (Nat.lt_of_succ_lt_succ h2)
theorem mvr_index : MvR x (rIndex x.K) mIndex := fun F H u us da as d Q g hu rl q kk => by
  cases hu with
  | @lst a xs ds h r =>
    match as, q with
    | [.int k], q =>
      obtain ⟨ns, q1, q2⟩ := Option.bind_eq_some_iff.mp (show (toInts ds).bind (fun ns => if k ∈ ns then some (D.int (ns.idxOf k : Nat)) else none) = some d from q)
      split at q2
      · rename_i hm
        cases q2
        have e := toInts_of q1
        subst e
        have e2 := r.ints
        subst e2
        cases rl with
        | cons r1 r2 =>
          cases r2
          cases r1
          have hj : ns.idxOf k < ns.length := List.idxOf_lt_length_iff.mpr hm
          refine ⟨a, _, .int k, ns.idxOf k, .int k, rfl, rfl, SqL.of h, rfl, ?_, ?_, by simp [eqV], fun m z hm hz => ?_, kk_same g (.int _) kk⟩
          · rw [List.all_eq_true]
            intro z hz
            obtain ⟨n, _, rfl⟩ := List.mem_map.mp hz
            rfl
          · rw [List.getElem?_map, List.getElem?_eq_getElem hj, List.getElem_idxOf hj]; rfl
          · rw [List.getElem?_map] at hz
            obtain ⟨n, h1, h2⟩ := Option.map_eq_some_iff.mp hz
            subst h2
            have hml : m < ns.length := by omega
            rw [List.getElem?_eq_getElem hml] at h1
            cases h1
            have := lt_idx_ne hm hml
            simp [eqV, this]
      · cases q2
  | _ => cases as with
    | nil => cases q
    | cons a as => cases as <;> (try cases a) <;> cases q
end

/-! ### d.get(k, z); f(new object) -/
section
variable {ι : Type} {X : ι → Cx} {x : Kx} {o e e2 : Expr} {pos p apos cpos : Pos} {fo : FO} {fk fv f : FE}
def fGet2 (fo : FO) (fk fv : FE) : FE := fun e => (fo e).bind fun p => (fk p.2).bind fun q => (fv q.2).bind fun r => (res p.1 p.2).bind fun d0 => (res p.1 r.2).bind fun d => match d0, d with
  | .dic _, .dic kvs => (keyOf q.1).map fun k => ((valD kvs k).getD r.1, r.2)
  | _, _ => none
theorem dGet2 (hu : ∀ i, (X i).A.units + 1 < cLine) (ho : DO X x o fo) (hk : DE X x e fk) (hv : DE X x e2 fv) (m : ∀ i, M2 (X i) o "get" apos e e2 cpos) : DE X x (.Call (.Attribute o "get" apos) [e, e2] [] cpos) (fGet2 fo fk fv) := by
  obtain ⟨t, op, or⟩ := ho
  obtain ⟨u, kp, kr⟩ := hk
  obtain ⟨w, vp, vr⟩ := hv
  refine ⟨_, fun i => pe_dget2 (hu i) (op i) (kp i) (vp i) (m i), fun F H env σ Q d env' s q kk => ?_⟩
  unfold fGet2 at q
  obtain ⟨p1, q1, q⟩ := Option.bind_eq_some_iff.mp q
  obtain ⟨p2, q2, q⟩ := Option.bind_eq_some_iff.mp q
  obtain ⟨p3, q3, q⟩ := Option.bind_eq_some_iff.mp q
  obtain ⟨d0, q4, q⟩ := Option.bind_eq_some_iff.mp q
  obtain ⟨d1, q5, q⟩ := Option.bind_eq_some_iff.mp q
  cases d0 with
  | dic kvs0 =>
    cases d1 with
    | dic kvs =>
      obtain ⟨k, q6, q⟩ := Option.map_eq_some_iff.mp q
      cases q
      refine or F H env σ _ p1.1 p1.2 s q1 fun F1 H1 v st1 s1 o1 => ?_
      have vw0 := o1.view s1 q4
      cases vw0 with
      | @dic a kv0 ds h0 r0 =>
        refine ⟨a, rfl, .inl ⟨_, Rd.of h0⟩, ?_⟩
        refine kr F1 H1 p1.2 σ _ p2.1 p2.2 s1 q2 fun F2 H2 y st2 s2 ry => ?_
        refine vr F2 H2 p2.2 σ _ p3.1 p3.2 s2 q3 fun F3 H3 z st3 s3 rz => ?_
        have vw1 := ((o1.mono st2.fro).mono st3.fro).view s3 q5
        have st := (st1.trans st2).trans st3
        rw [keyOf_rep ry q6]
        cases vw1 with
        | @dic a' kv1 ds1 h1 r1 =>
          rcases r1.val (k := k) with ⟨e1, e2⟩ | ⟨w, d2, e1, e2, rr⟩
          · refine ⟨none, by rw [← e1]; exact DGet.k h1, ?_⟩
            have : (valD kvs k).getD p3.1 = p3.1 := by rw [e2]; rfl
            exact kk F3 H3 z st s3 (by rw [this]; exact rz)
          · refine ⟨some w, by rw [← e1]; exact DGet.k h1, ?_⟩
            have : (valD kvs k).getD p3.1 = d2 := by rw [e2]; rfl
            exact kk F3 H3 w st s3 (by rw [this]; exact rr)
    | _ => cases q
  | _ => cases q
variable {Pr : Program} {w : World} {K : PySem.W.Frag} {mg : Str → Option Value} {base : Heap} {z : Str} {k n : Nat} {ps : List Str} {g : List Sl → Option (Sl × List Sl)}
def fCallN1 (g : List Sl → Option (Sl × List Sl)) (f : FE) : En → Option (Sl × En) := fun e => (f e).bind fun p => (g [.ow p.1]).map fun q => (q.1, p.2)
theorem dCallN1 {j : Nat} (O : Over X Pr w K mg base j) (C : Cal Pr w K mg base x z k ps 1 g []) (hk : k ≤ j) (hg : ∀ i, Gl (X i) z) (ha : DN X x e f) (hdb : (z == ("__debug__" : Str)) = false := by decide)
    (he : ∀ i, starEach [e] (X i).env = (false, eval e (X i).env) :: starEach [] (X i).env := by intro _; rfl) (hpl : ∀ i, (backTo pos (starEach [] (X i).env)).any (·.1) = false := by intro _; rfl) :
    DR X x (.Call (.Name z p) [e] [] pos) (fCallN1 g f) := by
  obtain ⟨fa, fd, dvs, ds, F, gm, kp, b, rv, rd⟩ := C
  obtain ⟨t, hp, hr⟩ := ha
  have hd0 : dvs = [] := by
    have := rd (fun _ => none)
    cases this
    rfl
  subst hd0
  refine ⟨tCall (spD x 1 g) [] E0 (tCons t tNil), fun i => ?_, fun F H env σ Q r env' s q kk => ?_⟩
  · have F' : FnOk (X i).prog (X i).w (X i).K (X i).mg (X i).base CX0 k fa fd ps (spD x 1 g) := by rw [O.prog, O.w, O.K, O.mg, O.base]; exact F
    exact pe_call F' ((O.room i).mono hk) (hg i) (by rw [O.mg]; exact gm) (by rw [O.K]; exact kp) (by rw [O.K]; exact b) rv pass0 (pa_cons (hp i) pa_nil (he i)) hdb (he i) (hpl i)
  · unfold fCallN1 at q
    obtain ⟨p1, q1, q⟩ := Option.bind_eq_some_iff.mp q
    obtain ⟨p2, q2, q⟩ := Option.map_eq_some_iff.mp q
    cases q
    refine hr F H env σ _ p1.1 p1.2 s q1 fun F1 H1 a st1 s1 n0 n1 no ro => ?_
    have sc : StOk x F1 H1 [.ow p1.1] [some (.ref a)] := by
      refine ⟨s1.good, rfl, fun i c h => ?_, fun i c h => ?_, fun i j c c' b h1 h2 h3 h4 => ?_⟩
      · cases i with
        | zero => cases h
        | succ i => simp at h
      · cases i with
        | zero => cases h; exact ⟨a, rfl, n1, ro⟩
        | succ i => simp at h
      · cases i with
        | zero => cases j with
          | zero => rfl
          | succ j => simp at h2
        | succ i => simp at h1
    have ow1 : ∀ b, Ow [.ow p1.1] [some (V.ref a)] b → b = a := fun b ⟨i, c, h1, h2⟩ => by
      cases i with
      | zero => cases h2; rfl
      | succ i => simp at h1
    refine ⟨rfl, F1, [.ow p1.1], p2.1, p2.2, sc, q2, fun F2 H2 v st2 s2 ro2 => ?_⟩
    obtain ⟨oa, hoa⟩ := ro.there
    have s3 : StOk x F2 H2 p1.2 σ := by
      refine ⟨s2.good, s1.len, fun i c h => ?_, fun i c h => ?_, s1.inj⟩
      · obtain ⟨v, h1, r⟩ := s1.fz i c h
        exact ⟨v, h1, r.mono st2.fro⟩
      · obtain ⟨b, h1, nb, r⟩ := s1.ow i c h
        obtain ⟨ob, hb⟩ := r.there
        have hne : b ≠ a := fun z => no ⟨i, c, h, by rw [h1, z]⟩
        obtain ⟨h3, h4⟩ := st2.kp b ob hb nb fun z => hne (ow1 b z)
        exact ⟨b, h1, h4, r.mono st2.fro fun u hu => by rw [hb] at hu; cases hu; exact h3⟩
    have st : Step F H (Ow env σ) F2 H2 (Ow p1.2 σ) := by
      refine ⟨fun b u h => st2.fro b u (st1.fro b u h), fun b u h1 h2 h3 => ?_, fun b h => st1.tr b (st2.tr b h), st1.ow⟩
      obtain ⟨h4, h5⟩ := st1.kp b u h1 h2 h3
      exact st2.kp b u h4 h5 fun z => by rw [ow1 b z, n0] at h1; cases h1
    refine kk F2 H2 v st s3 ?_
    cases h : p2.1 with
    | no => rw [h] at ro2; exact ro2
    | fz d => rw [h] at ro2; exact ro2
    | ow d =>
      rw [h] at ro2
      obtain ⟨b, h1, h2, h3, h4, h5⟩ := ro2
      exact ⟨b, h1, st1.tr b h2, h3, fun z => s1.notOw h2 z, h5⟩
end

section
variable {ι : Type} {X : ι → Cx} {x : Kx} {a : Expr} {p pos : Pos} {z : Str} {id : String}
theorem dB1N {r : List V → Hp → VK → Prop} {o : D → Option D} {ga : FO} (hc : ∀ i, CallR (X i) (.builtin id) r) (hs : UnN x (fun u => r [u]) o) (hg : ∀ i, Gl (X i) z) (hm : ∀ i, (X i).mg z = none) (hv : bootBuiltins z = some (.builtin id)) (ha : DO X x a ga)
    (hn : z ≠ "__name__" := by decide) (hdb : (z == ("__debug__" : Str)) = false := by decide)
    (he : ∀ i, starEach [a] (X i).env = (false, eval a (X i).env) :: starEach [] (X i).env := by intro _; rfl) (hpl : ∀ i, (backTo pos (starEach [] (X i).env)).any (·.1) = false := by intro _; rfl) : DN X x (.Call (.Name z p) [a] [] pos) (fUn o ga) := by
  obtain ⟨ta, pa, ra⟩ := ha
  exact ⟨tCB r (tCons ta tNil), fun i => pe_callB (hc i) (hg i) (hm i) hv (pa_cons (pa i) pa_nil (he i)) hn hdb (he i) (hpl i), rf_unN hs ra⟩
end

section
variable {ι : Type} {X : ι → Cx} {x : Kx} {P : Prt} {a b : Expr}
/-- u, v = a, b (plain local names) -/
def fPar (i j : Nat) (fa : FA) : FS := fun e => (fa e).bind fun p => match p.1 with
  | [d1, d2] => some (.nx ((p.2.set i (.fz d1)).set j (.fz d2)))
  | _ => none
theorem sPar (i j : Nat) {u v : Str} {fa : FA} {px py pt pos : Pos} {kt k2 pt2} (hPi : P i = false) (hPj : P j = false) (hc : ∀ i, (X i).calm = true) (hN : ∀ i, (X i).N.Nodup) (hi : ∀ k, (X k).N[i]? = some u) (hj : ∀ k, (X k).N[j]? = some v) (hij : i ≠ j)
    (hx : ∀ i, (X i).env.scope.names.lookup u = some .local) (hy : ∀ i, (X i).env.scope.names.lookup v = some .local) (ha : DA X x [a, b] fa)
    (hw : ∀ i, swappedStores [.Tuple [.Name u px, .Name v py] kt pt] (.Tuple [a, b] k2 pt2) (X i).env = pure (some [u, v]))
    (hs : ∀ i, swapsWithSole [.Tuple [.Name u px, .Name v py] kt pt] (.Tuple [a, b] k2 pt2) pos.line (X i).env = pure false := by intro _; rfl) :
    DS X x P (.Assign [.Tuple [.Name u px, .Name v py] kt pt] (.Tuple [a, b] k2 pt2) pos) (fPar i j fa) := by
  obtain ⟨t, hp, hr⟩ := ha
  refine ⟨_, fun k => ps_par (hc k) (hN k) (hi k) (hj k) hij (hx k) (hy k) (hp k) (hw k) (hs k), fun F H env σ D out s q kk => ?_⟩
  unfold fPar at q
  obtain ⟨⟨ds, e1⟩, q1, q⟩ := Option.bind_eq_some_iff.mp q
  refine hr F H env σ _ ds e1 s q1 fun F1 H1 vs st1 s1 r1 => ?_
  cases r1 with
  | nil => cases q
  | cons r1 r2 =>
    cases r2 with
    | nil => cases q
    | cons r2 r3 =>
      cases r3 with
      | cons _ _ => cases q
      | nil =>
        cases q
        obtain ⟨s2, st2⟩ := s1.put i r1
        obtain ⟨s3, st3⟩ := s2.put j r2
        exact ⟨_, _, rfl, kk F1 H1 _ ((st1.trans st2).trans st3) s3 ((keep_set hPi).trans (keep_set hPj))⟩
end
end Vd

end

section
set_option Elab.async false
set_option linter.all false
set_option maxRecDepth 100000
set_option maxHeartbeats 2000000
/-! Ln: the mirrors evaluated: simp lemmas without binders; loops by invariants. -/
namespace Vd
open PySem PySem.Spec PyProof.Rows L2 Vd0
section
variable {e e1 e2 : En} {d d1 : D} {b : Bool}
@[simp] theorem e_fC (d : D) : fC d e = some (d, e) := id rfl
def varK (k : Nat) (e : En) : Option Sl → Option (D × En)
  | some (.fz d) => some (d, e)
  | some (.ow d) => some (d, e.set k (.fz d))
  | _ => none
@[simp] theorem e_fVar (k : Nat) : fVar k e = varK k e e[k]? := id rfl
@[simp] theorem varK1 (k : Nat) : varK k e (some (.fz d)) = some (d, e) := id rfl
@[simp] theorem varK2 (k : Nat) : varK k e (some (.ow d)) = some (d, e.set k (.fz d)) := id rfl
def obK (k : Nat) (e : En) : Option D → Option (Opn × En)
  | some _ => some (.sl k, e)
  | none => none
@[simp] theorem e_fOB (k : Nat) : fOB k e = obK k e (slD e[k]?) := by
  show (slD e[k]?).map _ = _
  cases slD e[k]? <;> rfl
@[simp] theorem obK1 (k : Nat) : obK k e (some d) = some (.sl k, e) := id rfl
def ovK : Option (D × En) → Option (Opn × En)
  | some p => some (.va p.1, p.2)
  | none => none
@[simp] theorem e_fOV (f : FE) : fOV f e = ovK (f e) := by
  show (f e).map _ = _
  cases f e <;> rfl
@[simp] theorem ovK1 : ovK (some (d, e)) = some (.va d, e) := id rfl
def resK (e : En) : Option D → Option (D × En)
  | some d => some (d, e)
  | none => none
@[simp] theorem resK1 : resK e (some d) = some (d, e) := id rfl
theorem map_resK {x : Option D} : (x.map fun d => (d, e)) = resK e x := by cases x <;> rfl
def bin3 (o : D → D → Option D) (e : En) : Option D → Option D → Option (D × En)
  | some a, some b => resK e (o a b)
  | _, _ => none
def bin2 (o : D → D → Option D) (p : Opn) : Option (Opn × En) → Option (D × En)
  | some q => bin3 o q.2 (res p q.2) (res q.1 q.2)
  | none => none
def bin1 (o : D → D → Option D) (fb : FO) : Option (Opn × En) → Option (D × En)
  | some p => bin2 o p.1 (fb p.2)
  | none => none
@[simp] theorem e_fBin (o : D → D → Option D) (fa fb : FO) : fBin o fa fb e = bin1 o fb (fa e) := by
  unfold fBin
  cases fa e with
  | none => rfl
  | some p =>
    show (fb p.2).bind _ = bin2 o p.1 (fb p.2)
    cases fb p.2 with
    | none => rfl
    | some q =>
      show (res p.1 q.2).bind _ = bin3 o q.2 (res p.1 q.2) (res q.1 q.2)
      cases res p.1 q.2 with
      | none => rfl
      | some a =>
        show (res q.1 q.2).bind _ = bin3 o q.2 (some a) (res q.1 q.2)
        cases res q.1 q.2 with
        | none => rfl
        | some b => exact map_resK
@[simp] theorem bin1_ (o : D → D → Option D) (fb : FO) (p : Opn) : bin1 o fb (some (p, e)) = bin2 o p (fb e) := id rfl
@[simp] theorem bin2_ (o : D → D → Option D) (p q : Opn) : bin2 o p (some (q, e)) = bin3 o e (res p e) (res q e) := id rfl
@[simp] theorem bin3_ (o : D → D → Option D) (a b : D) : bin3 o e (some a) (some b) = resK e (o a b) := id rfl
def un2 (o : D → Option D) (e : En) : Option D → Option (D × En)
  | some a => resK e (o a)
  | none => none
def un1' (o : D → Option D) : Option (Opn × En) → Option (D × En)
  | some p => un2 o p.2 (res p.1 p.2)
  | none => none
@[simp] theorem e_fUn (o : D → Option D) (fa : FO) : fUn o fa e = un1' o (fa e) := by
  unfold fUn
  cases fa e with
  | none => rfl
  | some p =>
    show (res p.1 p.2).bind _ = un2 o p.2 (res p.1 p.2)
    cases res p.1 p.2 with
    | none => rfl
    | some a => exact map_resK
@[simp] theorem un1_ (o : D → Option D) (p : Opn) : un1' o (some (p, e)) = un2 o e (res p e) := id rfl
@[simp] theorem un2_ (o : D → Option D) (a : D) : un2 o e (some a) = resK e (o a) := id rfl
def tstK : Option (D × En) → Option (Bool × En)
  | some (.bl b, e) => some (b, e)
  | _ => none
@[simp] theorem e_fTst (f : FE) : fTst f e = tstK (f e) := by
  unfold fTst
  cases h : f e with
  | none => rfl
  | some p => obtain ⟨d, e1⟩ := p; cases d <;> rfl
@[simp] theorem tstK1 : tstK (some (.bl b, e)) = some (b, e) := id rfl
def notK : Option (Bool × En) → Option (Bool × En)
  | some p => some (!p.1, p.2)
  | none => none
@[simp] theorem e_fTnot (f : FT) : fTnot f e = notK (f e) := by
  show (f e).map _ = _
  cases f e <;> rfl
@[simp] theorem notK1 : notK (some (b, e)) = some (!b, e) := id rfl
def andK (g : FT) : Option (Bool × En) → Option (Bool × En)
  | some (true, e) => g e
  | some (false, e) => some (false, e)
  | none => none
@[simp] theorem e_fTand (f g : FT) : fTand f g e = andK g (f e) := by
  unfold fTand
  cases f e with
  | none => rfl
  | some p => obtain ⟨c, e1⟩ := p; cases c <;> rfl
@[simp] theorem andK1 (g : FT) : andK g (some (true, e)) = g e := id rfl
@[simp] theorem andK2 (g : FT) : andK g (some (false, e)) = some (false, e) := id rfl
def orK (g : FT) : Option (Bool × En) → Option (Bool × En)
  | some (true, e) => some (true, e)
  | some (false, e) => g e
  | none => none
@[simp] theorem e_fTor (f g : FT) : fTor f g e = orK g (f e) := by
  unfold fTor
  cases f e with
  | none => rfl
  | some p => obtain ⟨c, e1⟩ := p; cases c <;> rfl
@[simp] theorem orK1 (g : FT) : orK g (some (true, e)) = some (true, e) := id rfl
@[simp] theorem orK2 (g : FT) : orK g (some (false, e)) = g e := id rfl
def andV (g : FE) : Option (D × En) → Option (D × En)
  | some (.bl true, e) => g e
  | some (.bl false, e) => some (.bl false, e)
  | _ => none
@[simp] theorem e_fAndV (f g : FE) : fAndV f g e = andV g (f e) := by
  unfold fAndV
  cases f e with
  | none => rfl
  | some p =>
    obtain ⟨c, e1⟩ := p
    cases c with
    | bl k => cases k <;> rfl
    | _ => rfl
@[simp] theorem andV1 (g : FE) : andV g (some (.bl true, e)) = g e := id rfl
@[simp] theorem andV2 (g : FE) : andV g (some (.bl false, e)) = some (.bl false, e) := id rfl
def orV (g : FE) : Option (D × En) → Option (D × En)
  | some (.bl true, e) => some (.bl true, e)
  | some (.bl false, e) => g e
  | _ => none
@[simp] theorem e_fOrV (f g : FE) : fOrV f g e = orV g (f e) := by
  unfold fOrV
  cases f e with
  | none => rfl
  | some p =>
    obtain ⟨c, e1⟩ := p
    cases c with
    | bl k => cases k <;> rfl
    | _ => rfl
@[simp] theorem orV1 (g : FE) : orV g (some (.bl true, e)) = some (.bl true, e) := id rfl
@[simp] theorem orV2 (g : FE) : orV g (some (.bl false, e)) = g e := id rfl
def notV : Option (D × En) → Option (D × En)
  | some (.bl b, e) => some (.bl (!b), e)
  | _ => none
@[simp] theorem e_fNotV (f : FE) : fNotV f e = notV (f e) := by
  unfold fNotV
  cases f e with
  | none => rfl
  | some p => obtain ⟨c, e1⟩ := p; cases c <;> rfl
@[simp] theorem notV1 : notV (some (.bl b, e)) = some (.bl (!b), e) := id rfl
def ifE (f g : FE) : Option (Bool × En) → Option (D × En)
  | some (true, e) => f e
  | some (false, e) => g e
  | none => none
@[simp] theorem e_fIf (ft : FT) (f g : FE) : fIf ft f g e = ifE f g (ft e) := by
  unfold fIf
  cases ft e with
  | none => rfl
  | some p => obtain ⟨c, e1⟩ := p; cases c <;> rfl
@[simp] theorem ifE1 (f g : FE) : ifE f g (some (true, e)) = f e := id rfl
@[simp] theorem ifE2 (f g : FE) : ifE f g (some (false, e)) = g e := id rfl
/-! a < b < c -/
def ch4 : Option (D × En) → Option (Bool × En) := tstK
def ch3 (o' : D → D → Option D) (q : Opn) : Option (Opn × En) → Option (Bool × En)
  | some r => tstK (bin3 o' r.2 (res q r.2) (res r.1 r.2))
  | none => none
def ch2 (o' : D → D → Option D) (fc : FO) (q : Opn) : Option (D × En) → Option (Bool × En)
  | some (.bl true, e) => ch3 o' q (fc e)
  | some (.bl false, e) => some (false, e)
  | _ => none
def ch1 (o o' : D → D → Option D) (fc : FO) (p : Opn) : Option (Opn × En) → Option (Bool × En)
  | some q => ch2 o' fc q.1 (bin3 o q.2 (res p q.2) (res q.1 q.2))
  | none => none
def ch0 (o o' : D → D → Option D) (fb fc : FO) : Option (Opn × En) → Option (Bool × En)
  | some p => ch1 o o' fc p.1 (fb p.2)
  | none => none
@[simp] theorem e_fChain (o o' : D → D → Option D) (fa fb fc : FO) : fChain o o' fa fb fc e = ch0 o o' fb fc (fa e) := by
  unfold fChain
  cases fa e with
  | none => rfl
  | some p =>
    show (fb p.2).bind _ = ch1 o o' fc p.1 (fb p.2)
    cases fb p.2 with
    | none => rfl
    | some q =>
      show (res p.1 q.2).bind _ = ch2 o' fc q.1 (bin3 o q.2 (res p.1 q.2) (res q.1 q.2))
      cases res p.1 q.2 with
      | none => rfl
      | some a =>
        show (res q.1 q.2).bind _ = ch2 o' fc q.1 (bin3 o q.2 (some a) (res q.1 q.2))
        cases res q.1 q.2 with
        | none => rfl
        | some b =>
          show (o a b).bind _ = ch2 o' fc q.1 (resK q.2 (o a b))
          cases o a b with
          | none => rfl
          | some z =>
            cases z with
            | bl k =>
              cases k with
              | false => rfl
              | true =>
                show (fc q.2).bind _ = ch3 o' q.1 (fc q.2)
                cases fc q.2 with
                | none => rfl
                | some r =>
                  show (res q.1 r.2).bind _ = tstK (bin3 o' r.2 (res q.1 r.2) (res r.1 r.2))
                  cases res q.1 r.2 with
                  | none => rfl
                  | some b' =>
                    show (res r.1 r.2).bind _ = tstK (bin3 o' r.2 (some b') (res r.1 r.2))
                    cases res r.1 r.2 with
                    | none => rfl
                    | some c =>
                      show (o' b' c).bind _ = tstK (resK r.2 (o' b' c))
                      cases o' b' c with
                      | none => rfl
                      | some w => cases w <;> rfl
            | _ => rfl
@[simp] theorem ch0_ (o o' : D → D → Option D) (fb fc : FO) (p : Opn) : ch0 o o' fb fc (some (p, e)) = ch1 o o' fc p (fb e) := id rfl
@[simp] theorem ch1_ (o o' : D → D → Option D) (fc : FO) (p q : Opn) : ch1 o o' fc p (some (q, e)) = ch2 o' fc q (bin3 o e (res p e) (res q e)) := id rfl
@[simp] theorem ch2_1 (o' : D → D → Option D) (fc : FO) (q : Opn) : ch2 o' fc q (some (.bl true, e)) = ch3 o' q (fc e) := id rfl
@[simp] theorem ch2_2 (o' : D → D → Option D) (fc : FO) (q : Opn) : ch2 o' fc q (some (.bl false, e)) = some (false, e) := id rfl
@[simp] theorem ch3_ (o' : D → D → Option D) (q r : Opn) : ch3 o' q (some (r, e)) = tstK (bin3 o' e (res q e) (res r e)) := id rfl
def blK : Option (Bool × En) → Option (D × En)
  | some p => some (.bl p.1, p.2)
  | none => none
@[simp] theorem e_fBlT (f : FT) : fBlT f e = blK (f e) := by
  show (f e).map _ = _
  cases f e <;> rfl
@[simp] theorem blK1 : blK (some (b, e)) = some (.bl b, e) := id rfl
/-! displays -/
@[simp] theorem e_fNil : fNil e = some ([], e) := id rfl
def cons2 (d : D) : Option (List D × En) → Option (List D × En)
  | some q => some (d :: q.1, q.2)
  | none => none
def cons1 (r : FA) : Option (D × En) → Option (List D × En)
  | some p => cons2 p.1 (r p.2)
  | none => none
@[simp] theorem e_fCons (f : FE) (r : FA) : fCons f r e = cons1 r (f e) := by
  unfold fCons
  cases f e with
  | none => rfl
  | some p => show (r p.2).map _ = cons2 p.1 (r p.2); cases r p.2 <;> rfl
@[simp] theorem cons1_ (r : FA) : cons1 r (some (d, e)) = cons2 d (r e) := id rfl
@[simp] theorem cons2_ (ds : List D) : cons2 d (some (ds, e)) = some (d :: ds, e) := id rfl
def lstK (c : List D → D) : Option (List D × En) → Option (D × En)
  | some p => if p.1.length ≤ 100000 then some (c p.1, p.2) else none
  | none => none
@[simp] theorem e_fLst (fa : FA) : fLst fa e = lstK .lst (fa e) := by
  unfold fLst
  cases fa e <;> rfl
@[simp] theorem e_fTup (fa : FA) : fTup fa e = lstK .tup (fa e) := by
  unfold fTup
  cases fa e <;> rfl
@[simp] theorem lstK_ (c : List D → D) (ds : List D) : lstK c (some (ds, e)) = if ds.length ≤ 100000 then some (c ds, e) else none := id rfl
@[simp] theorem e_fDnew : fDnew e = some (.dic [], e) := id rfl
/-! statements -/
def seqK (g : FS) : Option Out → Option Out
  | some (.nx e) => g e
  | some o => some o
  | none => none
@[simp] theorem e_fSeq (f g : FS) : fSeq f g e = seqK g (f e) := by
  unfold fSeq
  cases f e with
  | none => rfl
  | some o => cases o <;> rfl
@[simp] theorem seqK1 (g : FS) : seqK g (some (.nx e)) = g e := id rfl
@[simp] theorem seqK2 (g : FS) (r : Sl) : seqK g (some (.rt r e)) = some (.rt r e) := id rfl
@[simp] theorem seqK3 (g : FS) : seqK g (some (.bk e)) = some (.bk e) := id rfl
@[simp] theorem seqK4 (g : FS) : seqK g (some (.ct e)) = some (.ct e) := id rfl
@[simp] theorem e_fNext : fNext e = some (.nx e) := id rfl
@[simp] theorem e_fBreak : fBreak e = some (.bk e) := id rfl
@[simp] theorem e_fCont : fCont e = some (.ct e) := id rfl
@[simp] theorem e_fNo : fNo e = none := id rfl
def dropK : Option (D × En) → Option Out
  | some p => some (.nx p.2)
  | none => none
@[simp] theorem e_fDrop (f : FE) : fDrop f e = dropK (f e) := by
  show (f e).map _ = _
  cases f e <;> rfl
@[simp] theorem dropK1 : dropK (some (d, e)) = some (.nx e) := id rfl
def retK (c : D → Sl) : Option (D × En) → Option Out
  | some p => some (.rt (c p.1) p.2)
  | none => none
@[simp] theorem e_fRet (f : FE) : fRet f e = retK .fz (f e) := by
  show (f e).map _ = _
  cases f e <;> rfl
@[simp] theorem e_fRetN (f : FE) : fRetN f e = retK .ow (f e) := by
  show (f e).map _ = _
  cases f e <;> rfl
@[simp] theorem retK1 (c : D → Sl) : retK c (some (d, e)) = some (.rt (c d) e) := id rfl
@[simp] theorem e_fRetV : fRetV e = some (.rt (.fz .non) e) := id rfl
def ifS (f g : FS) : Option (Bool × En) → Option Out
  | some (true, e) => f e
  | some (false, e) => g e
  | none => none
@[simp] theorem e_fIfS (ft : FT) (f g : FS) : fIfS ft f g e = ifS f g (ft e) := by
  unfold fIfS
  cases ft e with
  | none => rfl
  | some p => obtain ⟨c, e1⟩ := p; cases c <;> rfl
@[simp] theorem ifS1 (f g : FS) : ifS f g (some (true, e)) = f e := id rfl
@[simp] theorem ifS2 (f g : FS) : ifS f g (some (false, e)) = g e := id rfl
def setK (k : Nat) (c : D → Sl) : Option (D × En) → Option Out
  | some p => some (.nx (p.2.set k (c p.1)))
  | none => none
@[simp] theorem e_fSet (k : Nat) (f : FE) : fSet k f e = setK k .fz (f e) := by
  show (f e).map _ = _
  cases f e <;> rfl
@[simp] theorem e_fSetN (k : Nat) (f : FE) : fSetN k f e = setK k .ow (f e) := by
  show (f e).map _ = _
  cases f e <;> rfl
@[simp] theorem setK1 (k : Nat) (c : D → Sl) : setK k c (some (d, e)) = some (.nx (e.set k (c d))) := id rfl
def nxK : Option En → Option Out
  | some e => some (.nx e)
  | none => none
@[simp] theorem nxK1 : nxK (some e) = some (.nx e) := id rfl
def asgK (g : FG) : Option (D × En) → Option Out
  | some p => nxK (g p.1 p.2)
  | none => none
@[simp] theorem e_fAsg (g : FG) (f : FE) : fAsg g f e = asgK g (f e) := by
  unfold fAsg
  cases f e with
  | none => rfl
  | some p => show (g p.1 p.2).map _ = nxK (g p.1 p.2); cases g p.1 p.2 <;> rfl
@[simp] theorem asgK1 (g : FG) : asgK g (some (d, e)) = nxK (g d e) := id rfl
def forK (g : FG) (b : FS) : Option (List D × En) → Option Out
  | some p => loopF g b p.1 p.2
  | none => none
@[simp] theorem e_fFor (i : FI) (g : FG) (b : FS) : fFor i g b e = forK g b (i e) := by
  unfold fFor
  cases i e <;> rfl
@[simp] theorem forK1 (g : FG) (b : FS) (ds : List D) : forK g b (some (ds, e)) = loopF g b ds e := id rfl
/-! calls -/
@[simp] theorem e_fANil : fANil e = some ([], e) := id rfl
def ar2 (a : Ar) : Option (List Ar × En) → Option (List Ar × En)
  | some q => some (a :: q.1, q.2)
  | none => none
@[simp] theorem ar2_ (a : Ar) (as : List Ar) : ar2 a (some (as, e)) = some (a :: as, e) := id rfl
def ar1 (r : FAr) : Option (D × En) → Option (List Ar × En)
  | some p => ar2 (.va p.1) (r p.2)
  | none => none
@[simp] theorem e_fAV (f : FE) (r : FAr) : fAV f r e = ar1 r (f e) := by
  unfold fAV
  cases f e with
  | none => rfl
  | some p => show (r p.2).map _ = ar2 (.va p.1) (r p.2); cases r p.2 <;> rfl
@[simp] theorem ar1_ (r : FAr) : ar1 r (some (d, e)) = ar2 (.va d) (r e) := id rfl
def ar0 (k : Nat) (r : FAr) (e : En) : Option D → Option (List Ar × En)
  | some _ => ar2 (.by_ k) (r e)
  | none => none
@[simp] theorem e_fAO (k : Nat) (r : FAr) : fAO k r e = ar0 k r e (slD e[k]?) := by
  show (slD e[k]?).bind _ = _
  cases slD e[k]? with
  | none => rfl
  | some p => show (r e).map _ = ar2 (.by_ k) (r e); cases r e <;> rfl
@[simp] theorem ar0_ (k : Nat) (r : FAr) : ar0 k r e (some d) = ar2 (.by_ k) (r e) := id rfl
def cal3 (e : En) (as : List Ar) : Option (Sl × List Sl) → Option (Sl × En)
  | some q => some (q.1, wb e as q.2)
  | none => none
@[simp] theorem cal3_ (as : List Ar) (r : Sl) (ss : List Sl) : cal3 e as (some (r, ss)) = some (r, wb e as ss) := id rfl
def cal2 (g : List Sl → Option (Sl × List Sl)) (e : En) (as : List Ar) : Option (List Sl) → Option (Sl × En)
  | some ss => cal3 e as (g ss)
  | none => none
@[simp] theorem cal2_ (g : List Sl → Option (Sl × List Sl)) (as : List Ar) (ss : List Sl) : cal2 g e as (some ss) = cal3 e as (g ss) := id rfl
def calC (n : Nat) (g : List Sl → Option (Sl × List Sl)) (e : En) (as : List Ar) : Option (Sl × En) := if as.length = n ∧ (lent as).Nodup then cal2 g e as (slsOf as e) else none
theorem calC_ (n : Nat) (g : List Sl → Option (Sl × List Sl)) (as : List Ar) : calC n g e as = if as.length = n ∧ (lent as).Nodup then cal2 g e as (slsOf as e) else none := rfl
def cal1 (n : Nat) (g : List Sl → Option (Sl × List Sl)) (dd : List D) : Option (List Ar × En) → Option (Sl × En)
  | some p => calC n g p.2 (p.1 ++ dd.map Ar.va)
  | none => none
theorem cal_eq {g : List Sl → Option (Sl × List Sl)} {as : List Ar} : ((slsOf as e).bind fun ss => (g ss).map fun q => (q.1, wb e as q.2)) = cal2 g e as (slsOf as e) := by
  cases slsOf as e with
  | none => rfl
  | some ss => show (g ss).map _ = cal3 e as (g ss); cases g ss <;> rfl
@[simp] theorem e_fCall (n : Nat) (g : List Sl → Option (Sl × List Sl)) (dd : List D) (fa : FAr) : fCall n g dd fa e = cal1 n g dd (fa e) := by
  unfold fCall
  cases fa e with
  | none => rfl
  | some p =>
    show (if _ then _ else _) = calC n g p.2 (p.1 ++ dd.map Ar.va)
    unfold calC
    simp only [cal_eq]
@[simp] theorem cal1_ (n : Nat) (g : List Sl → Option (Sl × List Sl)) (dd : List D) (as : List Ar) : cal1 n g dd (some (as, e)) = calC n g e (as ++ dd.map Ar.va) := id rfl
def slEK : Option (Sl × En) → Option (D × En)
  | some (.fz d, e) => some (d, e)
  | _ => none
def slNK : Option (Sl × En) → Option (D × En)
  | some (.ow d, e) => some (d, e)
  | _ => none
@[simp] theorem e_slE (f : En → Option (Sl × En)) : slE f e = slEK (f e) := by
  unfold slE
  cases f e with
  | none => rfl
  | some p => obtain ⟨s, e1⟩ := p; cases s <;> rfl
@[simp] theorem e_slN (f : En → Option (Sl × En)) : slN f e = slNK (f e) := by
  unfold slN
  cases f e with
  | none => rfl
  | some p => obtain ⟨s, e1⟩ := p; cases s <;> rfl
@[simp] theorem slEK1 : slEK (some (.fz d, e)) = some (d, e) := id rfl
@[simp] theorem slNK1 : slNK (some (.ow d, e)) = some (d, e) := id rfl
/-! instances -/
def fld2 (t k : Nat) (e : En) : Option D → Option (D × En)
  | some (.ins t' ds) => if t' = t then resK e ds[k]? else none
  | _ => none
def fld1 (t k : Nat) : Option (Opn × En) → Option (D × En)
  | some p => fld2 t k p.2 (res p.1 p.2)
  | none => none
@[simp] theorem e_fFld (t k : Nat) (fo : FO) : fFld t k fo e = fld1 t k (fo e) := by
  unfold fFld
  cases fo e with
  | none => rfl
  | some p =>
    show (res p.1 p.2).bind _ = fld2 t k p.2 (res p.1 p.2)
    cases res p.1 p.2 with
    | none => rfl
    | some d =>
      cases d with
      | ins t' ds =>
        show (if t' = t then _ else _) = if t' = t then _ else _
        split
        · exact map_resK
        · rfl
      | _ => rfl
@[simp] theorem fld1_ (t k : Nat) (p : Opn) : fld1 t k (some (p, e)) = fld2 t k e (res p e) := id rfl
@[simp] theorem fld2_ (t k t' : Nat) (ds : List D) : fld2 t k e (some (.ins t' ds)) = if t' = t then resK e ds[k]? else none := id rfl
def fst2 (s t k : Nat) (d : D) (e : En) : Option Sl → Option Out
  | some (.ow (.ins t' ds)) => if t' = t ∧ k ≤ ds.length then some (.nx (e.set s (.ow (.ins t (if k = ds.length then ds ++ [d] else ds.set k d))))) else none
  | _ => none
def fst1 (s t k : Nat) : Option (D × En) → Option Out
  | some p => fst2 s t k p.1 p.2 p.2[s]?
  | none => none
@[simp] theorem e_fFldS (s t k : Nat) (f : FE) : fFldS s t k f e = fst1 s t k (f e) := by
  unfold fFldS
  cases f e with
  | none => rfl
  | some p =>
    show _ = fst2 s t k p.1 p.2 p.2[s]?
    simp only [Option.bind_some]
    cases p.2[s]? with
    | none => rfl
    | some c =>
      cases c with
      | ow c => cases c <;> rfl
      | _ => rfl
@[simp] theorem fst1_ (s t k : Nat) : fst1 s t k (some (d, e)) = fst2 s t k d e e[s]? := id rfl
@[simp] theorem fst2_ (s t k t' : Nat) (ds : List D) : fst2 s t k d e (some (.ow (.ins t' ds))) = if t' = t ∧ k ≤ ds.length then some (.nx (e.set s (.ow (.ins t (if k = ds.length then ds ++ [d] else ds.set k d))))) else none := id rfl
def met4 (n : Nat) (g : List Sl → Option (Sl × List Sl)) (as : List Ar) (e : En) : Option Ar → Option (Sl × En)
  | some a => calC n g e (a :: as)
  | none => none
def met3 (n : Nat) (g : List Sl → Option (Sl × List Sl)) (dd : List D) (p : Opn) : Option (List Ar × En) → Option (Sl × En)
  | some q => met4 n g (q.1 ++ dd.map Ar.va) q.2 (recv p q.2)
  | none => none
def met2 (t n : Nat) (g : List Sl → Option (Sl × List Sl)) (dd : List D) (fa : FAr) (p : Opn) (e : En) : Option D → Option (Sl × En)
  | some d => if isIns t d = true then met3 n g dd p (fa e) else none
  | none => none
def met1 (t n : Nat) (g : List Sl → Option (Sl × List Sl)) (dd : List D) (fa : FAr) : Option (Opn × En) → Option (Sl × En)
  | some p => met2 t n g dd fa p.1 p.2 (res p.1 p.2)
  | none => none
@[simp] theorem e_fMeth (t n : Nat) (g : List Sl → Option (Sl × List Sl)) (dd : List D) (fo : FO) (fa : FAr) : fMeth t n g dd fo fa e = met1 t n g dd fa (fo e) := by
  unfold fMeth
  cases fo e with
  | none => rfl
  | some p =>
    show (res p.1 p.2).bind _ = met2 t n g dd fa p.1 p.2 (res p.1 p.2)
    cases res p.1 p.2 with
    | none => rfl
    | some d =>
      show (if isIns t d = true then _ else _) = if isIns t d = true then _ else _
      split
      · cases fa p.2 with
        | none => rfl
        | some q =>
          show (recv p.1 q.2).bind _ = met4 n g (q.1 ++ dd.map Ar.va) q.2 (recv p.1 q.2)
          cases recv p.1 q.2 with
          | none => rfl
          | some a =>
            show (if _ then _ else _) = calC n g q.2 (a :: (q.1 ++ dd.map Ar.va))
            unfold calC
            simp only [cal_eq]
      · rfl
@[simp] theorem met1_ (t n : Nat) (g : List Sl → Option (Sl × List Sl)) (dd : List D) (fa : FAr) (p : Opn) : met1 t n g dd fa (some (p, e)) = met2 t n g dd fa p e (res p e) := id rfl
@[simp] theorem met2_ (t n : Nat) (g : List Sl → Option (Sl × List Sl)) (dd : List D) (fa : FAr) (p : Opn) : met2 t n g dd fa p e (some d) = if isIns t d = true then met3 n g dd p (fa e) else none := id rfl
@[simp] theorem met3_ (n : Nat) (g : List Sl → Option (Sl × List Sl)) (dd : List D) (p : Opn) (as : List Ar) : met3 n g dd p (some (as, e)) = met4 n g (as ++ dd.map Ar.va) e (recv p e) := id rfl
@[simp] theorem met4_ (n : Nat) (g : List Sl → Option (Sl × List Sl)) (as : List Ar) (a : Ar) : met4 n g as e (some a) = calC n g e (a :: as) := id rfl
/-! comprehensions, walks -/
def lcK : Option (List D × En) → Option (D × En)
  | some q => some (.lst q.1, q.2)
  | none => none
@[simp] theorem lcK1 (ds : List D) : lcK (some (ds, e)) = some (.lst ds, e) := id rfl
def lc1 (vs : List Nat) (g : FG) (t : FT) (f : FE) : Option (List D × En) → Option (D × En)
  | some p => lcK (lcLoop vs g t f p.1 [] p.2)
  | none => none
@[simp] theorem e_fLc (vs : List Nat) (i : FI) (g : FG) (t : FT) (f : FE) : fLc vs i g t f e = lc1 vs g t f (i e) := by
  unfold fLc
  cases i e with
  | none => rfl
  | some p => show (lcLoop vs g t f p.1 [] p.2).map _ = lcK (lcLoop vs g t f p.1 [] p.2); cases lcLoop vs g t f p.1 [] p.2 <;> rfl
@[simp] theorem lc1_ (vs : List Nat) (g : FG) (t : FT) (f : FE) (ds : List D) : lc1 vs g t f (some (ds, e)) = lcK (lcLoop vs g t f ds [] e) := id rfl
def dcK : Option (List (Key × D) × En) → Option (D × En)
  | some q => some (.dic q.1, q.2)
  | none => none
@[simp] theorem dcK1 (ds : List (Key × D)) : dcK (some (ds, e)) = some (.dic ds, e) := id rfl
def dc1 (vs : List Nat) (g : FG) (t : FT) (fk fv : FE) : Option (List D × En) → Option (D × En)
  | some p => dcK (dcLoop vs g t fk fv p.1 [] p.2)
  | none => none
@[simp] theorem e_fDc (vs : List Nat) (i : FI) (g : FG) (t : FT) (fk fv : FE) : fDc vs i g t fk fv e = dc1 vs g t fk fv (i e) := by
  unfold fDc
  cases i e with
  | none => rfl
  | some p => show (dcLoop vs g t fk fv p.1 [] p.2).map _ = dcK (dcLoop vs g t fk fv p.1 [] p.2); cases dcLoop vs g t fk fv p.1 [] p.2 <;> rfl
@[simp] theorem dc1_ (vs : List Nat) (g : FG) (t : FT) (fk fv : FE) (ds : List D) : dc1 vs g t fk fv (some (ds, e)) = dcK (dcLoop vs g t fk fv ds [] e) := id rfl
@[simp] theorem e_fYes : fYes e = some (true, e) := id rfl
def itK2 (e : En) : Option (List D) → Option (List D × En)
  | some ds => some (ds, e)
  | none => none
@[simp] theorem itK2_ (ds : List D) : itK2 e (some ds) = some (ds, e) := id rfl
theorem map_itK2 {x : Option (List D)} : (x.map fun ds => (ds, e)) = itK2 e x := by cases x <;> rfl
def itK : Option (D × En) → Option (List D × En)
  | some p => itK2 p.2 (items p.1)
  | none => none
@[simp] theorem e_fIt (f : FE) : fIt f e = itK (f e) := by
  unfold fIt
  cases f e with
  | none => rfl
  | some p => exact map_itK2
@[simp] theorem itK_ : itK (some (d, e)) = itK2 e (items d) := id rfl
def rngK : Option (List D × En) → Option (List D × En)
  | some ([.int n], e) => if n ≤ 1000000000 ∧ -1000000000 ≤ n then some (rgD 0 n.toNat, e) else none
  | _ => none
@[simp] theorem rngK_ (n : Int) : rngK (some ([.int n], e)) = if n ≤ 1000000000 ∧ -1000000000 ≤ n then some (rgD 0 n.toNat, e) else none := id rfl
@[simp] theorem e_fRng1 (fa : FA) : fRng1 fa e = rngK (fa e) := by
  unfold fRng1
  cases fa e with
  | none => rfl
  | some p =>
    obtain ⟨ds, e1⟩ := p
    cases ds with
    | nil => rfl
    | cons d ds => cases d <;> cases ds <;> rfl
def enK : Option (List D × En) → Option (List D × En)
  | some ([d], e) => itK2 e ((seqOf d).map (enumD 0))
  | _ => none
@[simp] theorem e_fEnum (fa : FA) : fEnum fa e = enK (fa e) := by
  unfold fEnum
  cases fa e with
  | none => rfl
  | some p =>
    obtain ⟨ds, e1⟩ := p
    cases ds with
    | nil => rfl
    | cons d ds =>
      cases ds with
      | nil => show (seqOf d).map _ = itK2 e1 ((seqOf d).map (enumD 0)); cases seqOf d <;> rfl
      | cons _ _ => rfl
@[simp] theorem enK_ : enK (some ([d], e)) = itK2 e ((seqOf d).map (enumD 0)) := id rfl
def zpK (f : List D → List D) : Option (List D × En) → Option (List D × En)
  | some ([.lst as, .lst bs], e) => some (f (zipD as bs), e)
  | _ => none
@[simp] theorem zpK_ (f : List D → List D) (as bs : List D) : zpK f (some ([.lst as, .lst bs], e)) = some (f (zipD as bs), e) := id rfl
theorem zp_go {f : List D → List D} (h : ∀ as bs : List D, f (zipD as bs) = f (zipD as bs)) (p : List D × En) : (match p.1 with
  | [.lst as, .lst bs] => some (f (zipD as bs), p.2)
  | _ => none) = zpK f (some p) := by
  obtain ⟨ds, e1⟩ := p
  match ds with
  | [] => rfl
  | [d] => cases d <;> rfl
  | [d, d'] => cases d <;> cases d' <;> rfl
  | d :: d' :: _ :: _ => cases d <;> cases d' <;> rfl
@[simp] theorem e_fZip (fa : FA) : fZip fa e = zpK id (fa e) := by
  unfold fZip
  cases fa e with
  | none => rfl
  | some p => exact zp_go (f := id) (fun _ _ => rfl) p
@[simp] theorem e_fEnumZ (fa : FA) : fEnumZ fa e = zpK (enumD 0) (fa e) := by
  unfold fEnumZ
  cases fa e with
  | none => rfl
  | some p => exact zp_go (f := enumD 0) (fun _ _ => rfl) p
@[simp] theorem e_fPN : fPN e = some (none, e) := id rfl
def psK : Option (D × En) → Option (Option Int × En)
  | some (.int i, e) => some (some i, e)
  | _ => none
@[simp] theorem e_fPS (f : FE) : fPS f e = psK (f e) := by
  unfold fPS
  cases f e with
  | none => rfl
  | some p => obtain ⟨d, e1⟩ := p; cases d <;> rfl
@[simp] theorem psK_ (i : Int) : psK (some (.int i, e)) = some (some i, e) := id rfl
def sl3K (l h : Option Int) (e : En) : Option D → Option (D × En)
  | some d => resK e (vSl d l h)
  | none => none
def sl2K (p : Opn) (l : Option Int) : Option (Option Int × En) → Option (D × En)
  | some h => sl3K l h.1 h.2 (res p h.2)
  | none => none
def sl1K (fh : FOp) (p : Opn) : Option (Option Int × En) → Option (D × En)
  | some l => sl2K p l.1 (fh l.2)
  | none => none
def sl0K (fl fh : FOp) : Option (Opn × En) → Option (D × En)
  | some p => sl1K fh p.1 (fl p.2)
  | none => none
@[simp] theorem e_fSl (fa : FO) (fl fh : FOp) : fSl fa fl fh e = sl0K fl fh (fa e) := by
  unfold fSl
  cases fa e with
  | none => rfl
  | some p =>
    show (fl p.2).bind _ = sl1K fh p.1 (fl p.2)
    cases fl p.2 with
    | none => rfl
    | some l =>
      show (fh l.2).bind _ = sl2K p.1 l.1 (fh l.2)
      cases fh l.2 with
      | none => rfl
      | some h =>
        show (res p.1 h.2).bind _ = sl3K l.1 h.1 h.2 (res p.1 h.2)
        cases res p.1 h.2 with
        | none => rfl
        | some d => exact map_resK
@[simp] theorem sl0_ (fl fh : FOp) (p : Opn) : sl0K fl fh (some (p, e)) = sl1K fh p (fl e) := id rfl
@[simp] theorem sl1_ (fh : FOp) (p : Opn) (l : Option Int) : sl1K fh p (some (l, e)) = sl2K p l (fh e) := id rfl
@[simp] theorem sl2_ (p : Opn) (l h : Option Int) : sl2K p l (some (h, e)) = sl3K l h e (res p e) := id rfl
@[simp] theorem sl3_ (l h : Option Int) : sl3K l h e (some d) = resK e (vSl d l h) := id rfl
def rgK : Option (D × En) → Option (D × En)
  | some (.int n, e) => resK e (vRgL 0 n)
  | _ => none
@[simp] theorem e_fRgL (f : FE) : fRgL f e = rgK (f e) := by
  unfold fRgL
  cases f e with
  | none => rfl
  | some p =>
    obtain ⟨d, e1⟩ := p
    cases d with
    | int n => exact map_resK
    | _ => rfl
@[simp] theorem rgK_ (n : Int) : rgK (some (.int n, e)) = resK e (vRgL 0 n) := id rfl
/-! methods of built-in values -/
def bm3 (m : D → List D → Option D) (as : List D) (e : En) : Option D → Option (D × En)
  | some d => resK e (m d as)
  | none => none
def bm2 (m : D → List D → Option D) (p : Opn) : Option (List D × En) → Option (D × En)
  | some q => bm3 m q.1 q.2 (res p q.2)
  | none => none
def bm1 (T : String) (m : D → List D → Option D) (fa : FA) (p : Opn) (e : En) : Option D → Option (D × En)
  | some d => if tyB T d = true then bm2 m p (fa e) else none
  | none => none
def bm0 (T : String) (m : D → List D → Option D) (fa : FA) : Option (Opn × En) → Option (D × En)
  | some p => bm1 T m fa p.1 p.2 (res p.1 p.2)
  | none => none
@[simp] theorem e_fBm (T : String) (m : D → List D → Option D) (fo : FO) (fa : FA) : fBm T m fo fa e = bm0 T m fa (fo e) := by
  unfold fBm
  cases fo e with
  | none => rfl
  | some p =>
    show (res p.1 p.2).bind _ = bm1 T m fa p.1 p.2 (res p.1 p.2)
    cases res p.1 p.2 with
    | none => rfl
    | some d =>
      show (if tyB T d = true then _ else _) = if tyB T d = true then _ else _
      split
      · cases fa p.2 with
        | none => rfl
        | some q =>
          show (res p.1 q.2).bind _ = bm3 m q.1 q.2 (res p.1 q.2)
          cases res p.1 q.2 with
          | none => rfl
          | some d1 => exact map_resK
      · rfl
@[simp] theorem bm0_ (T : String) (m : D → List D → Option D) (fa : FA) (p : Opn) : bm0 T m fa (some (p, e)) = bm1 T m fa p e (res p e) := id rfl
@[simp] theorem bm1_ (T : String) (m : D → List D → Option D) (fa : FA) (p : Opn) : bm1 T m fa p e (some d) = if tyB T d = true then bm2 m p (fa e) else none := id rfl
@[simp] theorem bm2_ (m : D → List D → Option D) (p : Opn) (as : List D) : bm2 m p (some (as, e)) = bm3 m as e (res p e) := id rfl
@[simp] theorem bm3_ (m : D → List D → Option D) (as : List D) : bm3 m as e (some d) = resK e (m d as) := id rfl
def mu3 (k : Nat) (e : En) : Option (D × D) → Option (D × En)
  | some r => some (r.1, e.set k (.ow r.2))
  | none => none
def mu2 (k : Nat) (m : D → List D → Option (D × D)) (as : List D) (e : En) : Option D → Option (D × En)
  | some c => mu3 k e (m c as)
  | none => none
def mu1 (k : Nat) (m : D → List D → Option (D × D)) : Option (List D × En) → Option (D × En)
  | some q => mu2 k m q.1 q.2 (owD q.2[k]?)
  | none => none
def mu0 (k : Nat) (T : String) (m : D → List D → Option (D × D)) (fa : FA) (e : En) : Option D → Option (D × En)
  | some c => if tyB T c = true then mu1 k m (fa e) else none
  | none => none
@[simp] theorem e_fMut (k : Nat) (T : String) (m : D → List D → Option (D × D)) (fa : FA) : fMut k T m fa e = mu0 k T m fa e (owD e[k]?) := by
  unfold fMut
  cases owD e[k]? with
  | none => rfl
  | some c0 =>
    show (if tyB T c0 = true then _ else _) = if tyB T c0 = true then _ else _
    split
    · cases fa e with
      | none => rfl
      | some q =>
        show (owD q.2[k]?).bind _ = mu2 k m q.1 q.2 (owD q.2[k]?)
        cases owD q.2[k]? with
        | none => rfl
        | some c => show (m c q.1).map _ = mu3 k q.2 (m c q.1); cases m c q.1 <;> rfl
    · rfl
@[simp] theorem mu0_ (k : Nat) (T : String) (m : D → List D → Option (D × D)) (fa : FA) : mu0 k T m fa e (some d) = if tyB T d = true then mu1 k m (fa e) else none := id rfl
@[simp] theorem mu1_ (k : Nat) (m : D → List D → Option (D × D)) (as : List D) : mu1 k m (some (as, e)) = mu2 k m as e (owD e[k]?) := id rfl
@[simp] theorem mu2_ (k : Nat) (m : D → List D → Option (D × D)) (as : List D) : mu2 k m as e (some d) = mu3 k e (m d as) := id rfl
@[simp] theorem mu3_ (k : Nat) : mu3 k e (some (d, d1)) = some (d, e.set k (.ow d1)) := id rfl
def si4 (k : Nat) (e : En) : Option D → Option Out
  | some c => some (.nx (e.set k (.ow c)))
  | none => none
def si3 (k : Nat) (v i : D) (e : En) : Option D → Option Out
  | some c => si4 k e (setD c i v)
  | none => none
def si2 (k : Nat) (v : D) : Option (D × En) → Option Out
  | some q => si3 k v q.1 q.2 (owD q.2[k]?)
  | none => none
def si1 (k : Nat) (fi : FE) (v : D) (e : En) : Option D → Option Out
  | some _ => si2 k v (fi e)
  | none => none
def si0 (k : Nat) (fi : FE) : Option (D × En) → Option Out
  | some p => si1 k fi p.1 p.2 (owD p.2[k]?)
  | none => none
@[simp] theorem e_fSetI (k : Nat) (fi f : FE) : fSetI k fi f e = si0 k fi (f e) := by
  unfold fSetI
  cases f e with
  | none => rfl
  | some p =>
    show (owD p.2[k]?).bind _ = si1 k fi p.1 p.2 (owD p.2[k]?)
    cases owD p.2[k]? with
    | none => rfl
    | some c0 =>
      show (fi p.2).bind _ = si2 k p.1 (fi p.2)
      cases fi p.2 with
      | none => rfl
      | some q =>
        show (owD q.2[k]?).bind _ = si3 k p.1 q.1 q.2 (owD q.2[k]?)
        cases owD q.2[k]? with
        | none => rfl
        | some c => show (setD c q.1 p.1).map _ = si4 k q.2 (setD c q.1 p.1); cases setD c q.1 p.1 <;> rfl
@[simp] theorem si0_ (k : Nat) (fi : FE) : si0 k fi (some (d, e)) = si1 k fi d e (owD e[k]?) := id rfl
@[simp] theorem si1_ (k : Nat) (fi : FE) (v : D) : si1 k fi v e (some d) = si2 k v (fi e) := id rfl
@[simp] theorem si2_ (k : Nat) (v : D) : si2 k v (some (d, e)) = si3 k v d e (owD e[k]?) := id rfl
@[simp] theorem si3_ (k : Nat) (v i : D) : si3 k v i e (some d) = si4 k e (setD d i v) := id rfl
@[simp] theorem si4_ (k : Nat) : si4 k e (some d) = some (.nx (e.set k (.ow d))) := id rfl
def au1 (k : Nat) (o : Int → Int → Int) (i : Int) : Option (D × En) → Option Out
  | some (.int j, e) => some (.nx (e.set k (.fz (.int (o i j)))))
  | _ => none
def au0 (k : Nat) (o : Int → Int → Int) (f : FE) (e : En) : Option Sl → Option Out
  | some (.fz (.int i)) => au1 k o i (f e)
  | _ => none
@[simp] theorem e_fAug (k : Nat) (o : Int → Int → Int) (f : FE) : fAug k o f e = au0 k o f e e[k]? := by
  unfold fAug
  cases e[k]? with
  | none => rfl
  | some c =>
    cases c with
    | fz c =>
      cases c with
      | int i =>
        show (f e).bind _ = au1 k o i (f e)
        cases f e with
        | none => rfl
        | some p => obtain ⟨d, e1⟩ := p; cases d <;> rfl
      | _ => rfl
    | _ => rfl
@[simp] theorem au0_ (k : Nat) (o : Int → Int → Int) (f : FE) (i : Int) : au0 k o f e (some (.fz (.int i))) = au1 k o i (f e) := id rfl
@[simp] theorem au1_ (k : Nat) (o : Int → Int → Int) (i j : Int) : au1 k o i (some (.int j, e)) = some (.nx (e.set k (.fz (.int (o i j))))) := id rfl
/-! a def -/
def fin1 (r : Sl) : Option (List Sl) → Option (Sl × List Sl)
  | some s => some (r, s)
  | none => none
@[simp] theorem fin1_ (r : Sl) (s : List Sl) : fin1 r (some s) = some (r, s) := id rfl
def fin0 (P : Prt) (sls : List Sl) : Option Out → Option (Sl × List Sl)
  | some (.rt r e) => fin1 r (finL P 0 sls e)
  | some (.nx e) => fin1 (.fz .non) (finL P 0 sls e)
  | _ => none
theorem e_runD (P : Prt) (N : Nat) (b : FS) (sls : List Sl) : runD P N b sls = fin0 P sls (b (sls ++ List.replicate (N - sls.length) .no)) := by
  unfold runD
  cases b (sls ++ List.replicate (N - sls.length) .no) with
  | none => rfl
  | some o =>
    cases o with
    | rt r e => show (finL P 0 sls e).map _ = fin1 r (finL P 0 sls e); cases finL P 0 sls e <;> rfl
    | nx e => show (finL P 0 sls e).map _ = fin1 (.fz .non) (finL P 0 sls e); cases finL P 0 sls e <;> rfl
    | _ => rfl
@[simp] theorem fin0_1 (P : Prt) (sls : List Sl) (r : Sl) : fin0 P sls (some (.rt r e)) = fin1 r (finL P 0 sls e) := id rfl
@[simp] theorem fin0_2 (P : Prt) (sls : List Sl) : fin0 P sls (some (.nx e)) = fin1 (.fz .non) (finL P 0 sls e) := id rfl
end
/-! ### values -/
section
variable (i j : Int) (a b : Str) (ds es : List D)
@[simp] theorem e_vAdd : vAdd (.int i) (.int j) = some (.int (i + j)) := id rfl
@[simp] theorem e_vAddL : vAdd (.lst ds) (.lst es) = if ds.length + es.length ≤ 100000 then some (.lst (ds ++ es)) else none := id rfl
@[simp] theorem e_vAddS : vAdd (.str a) (.str b) = if a.length + b.length ≤ 100000 then some (.str (a ++ b)) else none := id rfl
@[simp] theorem e_vSub : vSub (.int i) (.int j) = some (.int (i - j)) := id rfl
@[simp] theorem e_vMul : vMul (.int i) (.int j) = if CMulW i j ∨ CMul i j then some (.int (i * j)) else none := id rfl
@[simp] theorem e_vMulL : vMul (.lst ds) (.int j) = if -(2 ^ 63) ≤ j ∧ j < 2 ^ 63 ∧ ds.length * j.toNat ≤ 100000 then some (.lst (List.replicate j.toNat ds).flatten) else none := id rfl
@[simp] theorem e_vDiv : vDiv (.int i) (.int j) = if CDivW i j then some (.int (i / j)) else none := id rfl
@[simp] theorem e_vMod : vMod (.int i) (.int j) = if 0 < j then some (.int (i % j)) else none := id rfl
@[simp] theorem e_vPow : vPow (.int i) (.int j) = if CPow i j then some (.int (i ^ j.toNat)) else none := id rfl
@[simp] theorem e_vNeg : vNeg (.int i) = some (.int (-i)) := id rfl
@[simp] theorem e_vLt : vLt (.int i) (.int j) = some (.bl (decide (i < j))) := id rfl
@[simp] theorem e_vLe : vLe (.int i) (.int j) = some (.bl (decide (i ≤ j))) := id rfl
@[simp] theorem e_vGt : vGt (.int i) (.int j) = some (.bl (decide (j < i))) := id rfl
@[simp] theorem e_vGe : vGe (.int i) (.int j) = some (.bl (decide (j ≤ i))) := id rfl
theorem eqv_int : PyData.eqv (.int i) (.int j) = decide (i = j) := by
  simp only [PyData.eqv]
  by_cases h : i = j <;> simp [h]
@[simp] theorem e_vEq : vEq (.int i) (.int j) = some (.bl (decide (i = j))) := by
  unfold vEq eqD
  simp only [toP, Option.bind_some]
  rw [if_pos (by constructor <;> rfl), eqv_int]
  rfl
@[simp] theorem e_vNe : vNe (.int i) (.int j) = some (.bl (!decide (i = j))) := by
  unfold vNe eqD
  simp only [toP, Option.bind_some]
  rw [if_pos (by constructor <;> rfl), eqv_int]
  rfl
@[simp] theorem e_vIs (d : D) : vIs d .non = some (.bl (isNon d)) := by cases d <;> rfl
@[simp] theorem e_vIsN (d : D) : vIsN d .non = some (.bl (!isNon d)) := by cases d <;> rfl
@[simp] theorem e_nonI : isNon (.int i) = false := id rfl
@[simp] theorem e_nonN : isNon .non = true := id rfl
@[simp] theorem e_nonL : isNon (.lst ds) = false := id rfl
@[simp] theorem e_nonX (t : Nat) : isNon (.ins t ds) = false := id rfl
@[simp] theorem e_ixL : vIx (.lst ds) (.int i) = atI ds i := id rfl
@[simp] theorem e_ixT : vIx (.tup ds) (.int i) = atI ds i := id rfl
@[simp] theorem e_ixD (kvs : List (Key × D)) : vIx (.dic kvs) (.int i) = valD kvs (.inl i) := id rfl
@[simp] theorem e_lenL : vLen (.lst ds) = some (.int ds.length) := id rfl
@[simp] theorem e_lenT : vLen (.tup ds) = some (.int ds.length) := id rfl
@[simp] theorem e_lenC (ns : List Int) : vLen (.scr ns) = some (.int ns.length) := id rfl
@[simp] theorem e_min : vMin (.int i) (.int j) = some (.int (if j < i then j else i)) := id rfl
@[simp] theorem e_max : vMax (.int i) (.int j) = some (.int (if j > i then j else i)) := id rfl
@[simp] theorem e_dvm : vDvm (.int i) (.int j) = if CDiv i j then some (.tup [.int (i / j), .int (i % j)]) else none := id rfl
@[simp] theorem e_int1 : vInt (.int i) = some (.int i) := id rfl
@[simp] theorem e_int2 (k : Bool) : vInt (.bl k) = some (.int (if k then 1 else 0)) := id rfl
@[simp] theorem e_list1 : vList (.lst ds) = some (.lst ds) := id rfl
@[simp] theorem e_list2 : vList (.tup ds) = some (.lst ds) := id rfl
@[simp] theorem e_tuple1 : vTuple (.lst ds) = some (.tup ds) := id rfl
@[simp] theorem e_slL (lo hi : Option Int) : vSl (.lst ds) lo hi = some (.lst (cutD ds lo hi)) := id rfl
@[simp] theorem e_slC (ns : List Int) (lo hi : Option Int) : vSl (.scr ns) lo hi = some (.lst (cutD (ns.map .int) lo hi)) := id rfl
@[simp] theorem e_stepL (k : Int) : vStep k (.lst ds) = some (.lst (stepD ds k)) := id rfl
@[simp] theorem e_revL : vRev (.lst ds) = some (.lst ds.reverse) := id rfl
@[simp] theorem e_cat : vCat (.lst ds) (.lst es) = if ds.length + es.length ≤ 100000 then some (.lst (ds ++ es)) else none := id rfl
@[simp] theorem e_rep : vRep (.lst ds) (.int j) = if -(2 ^ 63) ≤ j ∧ j < 2 ^ 63 ∧ ds.length * j.toNat ≤ 100000 then some (.lst (List.replicate j.toNat ds).flatten) else none := id rfl
@[simp] theorem e_all : vAll (.lst ds) = (toBls ds).map fun bs => .bl (bs.all id) := id rfl
@[simp] theorem e_sum : vSum (.lst ds) = (toInts ds).map fun ns => .int ns.sum := id rfl
@[simp] theorem e_lenSet : vLenSet (.lst ds) = (toInts ds).bind fun ns => if ns.Nodup ∧ ns.length ≤ 4000 then some (.int ns.length) else none := id rfl
@[simp] theorem e_count : mCount (.lst ds) [.int i] = (toInts ds).map fun ns => .int (ns.count i : Nat) := id rfl
@[simp] theorem e_append (d : D) : mAppend (.lst ds) [d] = if ds.length < 100000 then some (.non, .lst (ds ++ [d])) else none := id rfl
@[simp] theorem e_popAt : mPopAt (.lst ds) [.int i] = if 0 ≤ i ∧ i < 2 ^ 30 then (ds[i.toNat]?).map fun d => (d, .lst (ds.eraseIdx i.toNat)) else none := id rfl
@[simp] theorem e_setL (d : D) : setD (.lst ds) (.int i) d = (ixN ds.length i).map fun j => .lst (ds.set j d) := id rfl
@[simp] theorem e_setD (kvs : List (Key × D)) (d : D) : setD (.dic kvs) (.int i) d = if kvs.length < 100000 then some (.dic (putD kvs (.inl i) d)) else none := id rfl
@[simp] theorem e_inD (kvs : List (Key × D)) : vIn (.int i) (.dic kvs) = some (.bl (valD kvs (.inl i)).isSome) := id rfl
@[simp] theorem e_inL : vIn (.int i) (.lst ds) = (toInts ds).map fun ns => .bl (decide (i ∈ ns)) := by
  show ((toInts ds).map fun ns => decide (i ∈ ns)).map D.bl = _
  rw [Option.map_map]; rfl
@[simp] theorem e_inT : vIn (.int i) (.tup ds) = (toInts ds).map fun ns => .bl (decide (i ∈ ns)) := by
  show ((toInts ds).map fun ns => decide (i ∈ ns)).map D.bl = _
  rw [Option.map_map]; rfl
@[simp] theorem e_rgl : vRgL i j = if -(2 ^ 30) ≤ i ∧ i ≤ 2 ^ 30 ∧ -(2 ^ 30) ≤ j ∧ j ≤ 2 ^ 30 ∧ (j - i).toNat ≤ 100000 then some (.lst (rgD i (j - i).toNat)) else none := id rfl
@[simp] theorem e_itL : items (.lst ds) = some ds := id rfl
@[simp] theorem e_itT : items (.tup ds) = some ds := id rfl
@[simp] theorem e_itC (ns : List Int) : items (.scr ns) = some (ns.map .int) := id rfl
@[simp] theorem e_sqL : seqOf (.lst ds) = some ds := id rfl
@[simp] theorem e_sqT : seqOf (.tup ds) = some ds := id rfl
@[simp] theorem e_isI (n : Nat) : isIns n (.ins n ds) = true := by simp [isIns]
@[simp] theorem e_owD (d : D) : owD (some (.ow d)) = some d := id rfl
@[simp] theorem e_tyB1 : tyB "list" (.lst ds) = true := by simp [tyB]
/-! isinstance -/
@[simp] theorem e_t1 : isT1 "int" (.int i) = some (.bl true) := by unfold isT1; simp only [tyN, Option.bind_some, show kitB "int" "int" = some true by decide +kernel]; rfl
@[simp] theorem e_t2 : isT1 "bool" (.int i) = some (.bl false) := by unfold isT1; simp only [tyN, Option.bind_some, show kitB "int" "bool" = some false by decide +kernel]; rfl
@[simp] theorem e_t3 : isT2 "list" "tuple" (.lst ds) = some (.bl true) := by unfold isT2; simp only [tyN, Option.bind_some, show kitB "list" "list" = some true by decide +kernel, show kitB "list" "tuple" = some false by decide +kernel]; rfl
@[simp] theorem e_t4 : isT2 "list" "tuple" (.tup ds) = some (.bl true) := by unfold isT2; simp only [tyN, Option.bind_some, show kitB "tuple" "list" = some false by decide +kernel, show kitB "tuple" "tuple" = some true by decide +kernel]; rfl
@[simp] theorem e_t5 : isT2 "list" "tuple" (.int i) = some (.bl false) := by unfold isT2; simp only [tyN, Option.bind_some, show kitB "int" "list" = some false by decide +kernel, show kitB "int" "tuple" = some false by decide +kernel]; rfl
end
/-! ### slots -/
section
variable {e : En}
@[simp] theorem e_res1 (d : D) : res (.va d) e = some d := id rfl
@[simp] theorem e_res2 (k : Nat) : res (.sl k) e = slD e[k]? := id rfl
@[simp] theorem e_sl1 (d : D) : slD (some (.fz d)) = some d := id rfl
@[simp] theorem e_sl2 (d : D) : slD (some (.ow d)) = some d := id rfl
@[simp] theorem e_gN (k : Nat) (d : D) : gN k d e = some (e.set k (.fz d)) := id rfl
@[simp] theorem e_gT (n : Nat) (g : FGs) (ds : List D) : gT n g (.tup ds) e = if ds.length = n then g ds e else none := id rfl
@[simp] theorem e_gT2 (n : Nat) (g : FGs) (ds : List D) : gT n g (.lst ds) e = if ds.length = n then g ds e else none := id rfl
@[simp] theorem e_gs1 : gsNil [] e = some e := id rfl
@[simp] theorem e_gs2 (g : FG) (r : FGs) (d : D) (ds : List D) : gsCons g r (d :: ds) e = (g d e).bind fun e1 => r ds e1 := id rfl
@[simp] theorem e_ss1 : slsOf [] e = some [] := id rfl
@[simp] theorem e_ss2 (d : D) (as : List Ar) : slsOf (.va d :: as) e = (slsOf as e).map fun r => .fz d :: r := id rfl
@[simp] theorem e_ss3 (k : Nat) (as : List Ar) : slsOf (.by_ k :: as) e = (match e[k]? with
    | some (.ow d) => (slsOf as e).map fun r => .ow d :: r
    | _ => none) := rfl
@[simp] theorem e_ln1 : lent [] = [] := id rfl
@[simp] theorem e_ln2 (d : D) (as : List Ar) : lent (.va d :: as) = lent as := id rfl
@[simp] theorem e_ln3 (k : Nat) (as : List Ar) : lent (.by_ k :: as) = k :: lent as := id rfl
@[simp] theorem e_wb1 (ss : List Sl) : wb e [] ss = e := id rfl
@[simp] theorem e_wb2 (d : D) (as : List Ar) (s : Sl) (ss : List Sl) : wb e (.va d :: as) (s :: ss) = wb e as ss := id rfl
@[simp] theorem e_wb3 (k : Nat) (as : List Ar) (s : Sl) (ss : List Sl) : wb e (.by_ k :: as) (s :: ss) = (wb e as ss).set k s := id rfl
@[simp] theorem e_rc1 (d : D) : recv (.va d) e = some (.va d) := id rfl
@[simp] theorem e_rc2 (k : Nat) : recv (.sl k) e = (match e[k]? with
    | some (.fz d) => some (.va d)
    | some (.ow _) => some (.by_ k)
    | _ => none) := rfl
@[simp] theorem e_fl1 (P : Prt) (i : Nat) : finL P i [] e = some [] := by cases e <;> rfl
@[simp] theorem e_fl2 (P : Prt) (i : Nat) (d : D) (ss : List Sl) (s : Sl) : finL P i (.fz d :: ss) (s :: e) = (match P i with
    | true => (finL P (i + 1) ss e).map fun r => s :: r
    | false => (finL P (i + 1) ss e).map fun r => .fz d :: r) := by cases h : P i <;> simp [finL, h]
@[simp] theorem e_fl3 (P : Prt) (i : Nat) (d : D) (ss : List Sl) (s : Sl) : finL P i (.ow d :: ss) (s :: e) = (match P i with
    | true => (finL P (i + 1) ss e).map fun r => s :: r
    | false => none) := by cases h : P i <;> simp [finL, h]
@[simp] theorem e_wp1 : wipeE e [] = e := id rfl
@[simp] theorem e_wp2 (v : Nat) (vs : List Nat) : wipeE e (v :: vs) = (wipeE e vs).set v .no := id rfl
end

/-! ### loops -/
theorem loopF_inv {g : FG} {b : FS} {ds : List D} (I : Nat → En → Prop) {e0 : En} (h0 : I 0 e0)
    (hs : ∀ (i : Nat) (d : D) (e : En), ds[i]? = some d → I i e → ∃ e1 e2, g d e = some e1 ∧ b e1 = some (.nx e2) ∧ I (i + 1) e2) : ∃ e', loopF g b ds e0 = some (.nx e') ∧ I ds.length e' := by
  induction ds generalizing I e0 with
  | nil => exact ⟨e0, rfl, h0⟩
  | cons d ds ih =>
    obtain ⟨e1, e2, h1, h2, h3⟩ := hs 0 d e0 rfl h0
    obtain ⟨e', h4, h5⟩ := ih (fun i e => I (i + 1) e) h3 (fun i d' e hd hi => hs (i + 1) d' e (by simpa using hd) hi)
    refine ⟨e', ?_, h5⟩
    unfold loopF
    rw [h1]
    simp only [Option.bind_some, h2]
    exact h4
/-- a comprehension whose parts leave the frame's slots as they were, and walks with a state I on the slots -/
theorem lc_inv {vs : List Nat} {g : FG} {t : FT} {f : FE} {ds : List D} (I : Nat → List D → En → Prop) {e0 : En} {acc : List D} (h0 : I 0 acc e0) (hl : acc.length + ds.length ≤ 100000) 
    (hs : ∀ (i : Nat) (d : D) (a : List D) (e : En), ds[i]? = some d → I i a e → ∃ e1, g d (wipeE e vs) = some e1 ∧ ((∃ e2 r e3, t e1 = some (true, e2) ∧ f e2 = some (r, e3) ∧ I (i + 1) (a ++ [r]) (unw e e3 vs)) ∨ ∃ e2, t e1 = some (false, e2) ∧ I (i + 1) a (unw e e2 vs))) :
    ∃ r e', lcLoop vs g t f ds acc e0 = some (r, e') ∧ I ds.length r e' := by
  induction ds generalizing I e0 acc with
  | nil => exact ⟨acc, e0, rfl, h0⟩
  | cons d ds ih =>
    have hl' : acc.length + (ds.length + 1) ≤ 100000 := hl
    obtain ⟨e1, h1, h2⟩ := hs 0 d acc e0 rfl h0
    rcases h2 with ⟨e2, r, e3, h2, h3, h4⟩ | ⟨e2, h2, h4⟩
    · obtain ⟨r', e', h5, h6⟩ := ih (fun i a e => I (i + 1) a e) h4 (by simp; omega) (fun i d' a e hd hi => hs (i + 1) d' a e (by simpa using hd) hi)
      refine ⟨r', e', ?_, h6⟩
      unfold lcLoop
      rw [h1]
      simp only [Option.bind_some, h2, h3]
      rw [if_pos (by omega)]
      exact h5
    · obtain ⟨r', e', h5, h6⟩ := ih (fun i a e => I (i + 1) a e) h4 (by omega) (fun i d' a e hd hi => hs (i + 1) d' a e (by simpa using hd) hi)
      refine ⟨r', e', ?_, h6⟩
      unfold lcLoop
      rw [h1]
      simp only [Option.bind_some, h2]
      exact h5
/-- a comprehension that filters by p and maps by F, the slots as they were -/
theorem lc_map {vs : List Nat} {g : FG} {t : FT} {f : FE} {ds : List D} {e : En} (p : D → Bool) (F : D → D) (hl : ds.length ≤ 100000)
    (hs : ∀ d ∈ ds, ∃ e1 e2, g d (wipeE e vs) = some e1 ∧ t e1 = some (p d, e2) ∧ (p d = true → ∃ e3, f e2 = some (F d, e3) ∧ unw e e3 vs = e) ∧ (p d = false → unw e e2 vs = e)) :
    lcLoop vs g t f ds [] e = some ((ds.filter p).map F, e) := by
  obtain ⟨r, e', h1, h2, h3⟩ := lc_inv (vs := vs) (g := g) (t := t) (f := f) (ds := ds) (fun i a e' => e' = e ∧ a = ((ds.take i).filter p).map F) (e0 := e) (acc := []) ⟨rfl, by simp⟩ (by simpa using hl) (fun i d a e' hd ⟨h1, h2⟩ => by
    subst h1; subst h2
    obtain ⟨e1, e2, q1, q2, q3, q4⟩ := hs d (List.mem_of_getElem? hd)
    refine ⟨e1, q1, ?_⟩
    have et : ds.take (i + 1) = ds.take i ++ [d] := by rw [List.take_succ, hd]; rfl
    cases hp : p d with
    | true =>
      obtain ⟨e3, q5, q6⟩ := q3 hp
      exact .inl ⟨e2, F d, e3, by rw [q2, hp], q5, q6, by rw [et, List.filter_append, List.map_append]; simp [hp]⟩
    | false => exact .inr ⟨e2, by rw [q2, hp], q4 hp, by rw [et, List.filter_append, List.map_append]; simp [hp]⟩)
  rw [h1, h2, h3, List.take_length]
end Vd

end

section
set_option Elab.async false
set_option linter.all false
set_option maxRecDepth 100000
set_option maxHeartbeats 2000000
/-! Lo: equality of lists of ints; small facts. -/
namespace Vd
open PySem PySem.Spec PyProof.Rows L2 Vd0
theorem toPs_ints : ∀ ns : List Int, toPs (ns.map D.int) = some (ns.map PyData.int)
  | [] => by simp only [List.map_nil, toPs]
  | n :: ns => by simp only [List.map_cons, toPs, toP, toPs_ints ns, Option.bind_some, Option.map_some]
theorem lay_ints : ∀ ns : List Int, PyData.canLayAll0 (ns.map PyData.int) = true
  | [] => by simp only [List.map_nil, PyData.canLayAll0]
  | n :: ns => by simp only [List.map_cons, PyData.canLayAll0, PyData.canLay0, lay_ints ns, Bool.and_self]
theorem dep_ints : ∀ ns : List Int, PyData.depthAll (ns.map PyData.int) ≤ 1
  | [] => by simp only [List.map_nil, PyData.depthAll]; omega
  | n :: ns => by
    have := dep_ints ns
    simp only [List.map_cons, PyData.depthAll, PyData.depth]
    omega
theorem shaped_ints (ns : List Int) : SeqAt.shaped (.list (ns.map PyData.int)) = true := by
  unfold SeqAt.shaped
  have := dep_ints ns
  refine Bool.and_eq_true_iff.mpr ⟨?_, decide_eq_true ?_⟩
  · simp only [PyData.canLay0]; exact lay_ints ns
  · simp only [PyData.depth]; omega
theorem eqD_ints (ns ms : List Int) : eqD (.lst (ns.map .int)) (.lst (ms.map .int)) = some (decide (ns = ms)) := by
  unfold eqD
  simp only [toP, toPs_ints, Option.map_some, Option.bind_some]
  rw [if_pos ⟨shaped_ints ns, shaped_ints ms⟩]
  simp only [PyData.eqv, PySem.W.ked_eqvAll]
@[simp] theorem e_vNeL (ns ms : List Int) : vNe (.lst (ns.map .int)) (.lst (ms.map .int)) = some (.bl (!decide (ns = ms))) := by
  unfold vNe; rw [eqD_ints]; rfl
@[simp] theorem e_vEqL (ns ms : List Int) : vEq (.lst (ns.map .int)) (.lst (ms.map .int)) = some (.bl (decide (ns = ms))) := by
  unfold vEq; rw [eqD_ints]; rfl
@[simp] theorem e_vNe0 (ns : List Int) : vNe (.lst (ns.map .int)) (.lst []) = some (.bl (!decide (ns = []))) := e_vNeL ns []
@[simp] theorem e_vEq0 (ns : List Int) : vEq (.lst (ns.map .int)) (.lst []) = some (.bl (decide (ns = []))) := e_vEqL ns []
@[simp] theorem e_vNe00 : vNe (.lst []) (.lst []) = some (.bl false) := e_vNeL [] []
@[simp] theorem e_vNe1 (n : Int) (ns : List Int) : vNe (.lst (.int n :: ns.map .int)) (.lst []) = some (.bl true) := e_vNeL (n :: ns) []
@[simp] theorem toInts_m (ns : List Int) : toInts (ns.map D.int) = some ns := toInts_map ns
@[simp] theorem toBls_m (ns : List Bool) : toBls (ns.map D.bl) = some ns := toBls_map ns
@[simp] theorem atI0 {α : Type} (a : α) (l : List α) : atI (a :: l) 0 = some a := by simp [atI, ixN]
@[simp] theorem atI1 {α : Type} (a b : α) (l : List α) : atI (a :: b :: l) 1 = some b := by
  unfold atI ixN
  rw [if_pos (by decide), if_pos (by simp; omega)]
  rfl
@[simp] theorem atI2 {α : Type} (a b c : α) (l : List α) : atI (a :: b :: c :: l) 2 = some c := by
  unfold atI ixN
  rw [if_pos (by decide), if_pos (by simp; omega)]
  rfl
@[simp] theorem atI3 {α : Type} (a b c d : α) (l : List α) : atI (a :: b :: c :: d :: l) 3 = some d := by
  unfold atI ixN
  rw [if_pos (by decide), if_pos (by simp; omega)]
  rfl
theorem atI_nat {α : Type} {l : List α} {i : Int} (h0 : 0 ≤ i) (h : i < l.length) : atI l i = l[i.toNat]? := by
  unfold atI ixN
  rw [if_pos h0, if_pos h]
  rfl
theorem atI_lt {α : Type} {l : List α} {i : Int} (h0 : 0 ≤ i) (h : i < l.length) : ∃ a, atI l i = some a ∧ a ∈ l := by
  rw [atI_nat h0 h]
  have hl : i.toNat < l.length := by omega
  exact ⟨_, List.getElem?_eq_getElem hl, List.getElem_mem hl⟩
theorem atI_map {α β : Type} (f : α → β) (l : List α) (i : Int) : atI (l.map f) i = (atI l i).map f := by
  unfold atI
  rw [List.length_map]
  cases ixN l.length i with
  | none => rfl
  | some j => show (l.map f)[j]? = (l[j]?).map f; rw [List.getElem?_map]
@[simp] theorem ixN40 : ixN 4 0 = some 0 := by decide
@[simp] theorem ixN41 : ixN 4 1 = some 1 := by decide
@[simp] theorem ixN42 : ixN 4 2 = some 2 := by decide
@[simp] theorem ixN43 : ixN 4 3 = some 3 := by decide
theorem log2_lt {i : Int} {k : Nat} (h0 : 0 ≤ i) (h : i < 2 ^ k) (hk : 0 < k) : i.natAbs.log2 < k := by
  have h1 : i.natAbs < 2 ^ k := by
    have : ((i.natAbs : Nat) : Int) = i := by omega
    have h2 : ((i.natAbs : Nat) : Int) < ((2 ^ k : Nat) : Int) := by rw [this]; push_cast; exact h
    exact_mod_cast h2
  by_cases hz : i.natAbs = 0
  · rw [hz]; simpa using hk
  · exact (Nat.log2_lt hz).mpr h1
theorem cmul_r {i j : Int} (h0 : 0 ≤ j) (h : j < 2 ^ 64) : CMulW i j ∨ CMul i j := .inr (.inr ⟨by omega, h⟩)
theorem cmul_l {i j : Int} (h0 : 0 ≤ i) (h : i < 2 ^ 64) : CMulW i j ∨ CMul i j := .inr (.inl ⟨by omega, h⟩)
theorem cdiv_ok {i j : Int} (h0 : 0 < j) (h : j < 2 ^ 200) : CDivW i j := ⟨h0, Nat.lt_of_lt_of_le (log2_lt (by omega) h (by decide)) (by decide)⟩
end Vd

end

section
set_option Elab.async false
set_option linter.all false
set_option maxRecDepth 100000
set_option maxHeartbeats 2000000
/-! Ls: evaluation of the words of Lp, Lq, Lr. -/
namespace Vd
open PySem PySem.Spec PyProof.Rows L2 Vd0
section
variable {e : En} {i j : Int} {ds : List D} {ns ms : List Int} {d : D}
@[simp] theorem e_leU : vLeU (.int i) (.int j) = some (.bl (decide (i ≤ j))) := rfl
@[simp] theorem e_leUL : vLeU (.lst (ns.map .int)) (.lst (ms.map .int)) = some (.bl (leI ns ms)) := by
  unfold vLeU
  have : vLe (.lst (ns.map .int)) (.lst (ms.map .int)) = none := rfl
  rw [this]
  simp [intsOf]
@[simp] theorem e_abs : vAbs (.int i) = some (.int (if i < 0 then -i else i)) := rfl
@[simp] theorem e_sortK (kvs : List (Key × D)) : vSortK (.dic kvs) = (intKs kvs).bind fun ks => if ks.length < 64 then some (.lst ((sortI ks).map .int)) else none := id rfl
@[simp] theorem e_insert : mInsert (.lst ds) [.int i, d] = if 0 ≤ i ∧ i < 2 ^ 30 ∧ ds.length < 100000 then some (.non, .lst (ds.take i.toNat ++ [d] ++ ds.drop i.toNat)) else none := id rfl
@[simp] theorem e_index : mIndex (.lst ds) [.int i] = (toInts ds).bind fun ns => if i ∈ ns then some (.int (ns.idxOf i : Nat)) else none := rfl
def parK (i j : Nat) : Option (List D × En) → Option Out
  | some ([d1, d2], e) => some (.nx ((e.set i (.fz d1)).set j (.fz d2)))
  | _ => none
@[simp] theorem e_fPar (i j : Nat) (fa : FA) : fPar i j fa e = parK i j (fa e) := by
  unfold fPar
  cases fa e with
  | none => rfl
  | some p =>
    obtain ⟨ds, e1⟩ := p
    match ds with
    | [] => rfl
    | [_] => rfl
    | [_, _] => rfl
    | _ :: _ :: _ :: _ => rfl
@[simp] theorem parK1 (i j : Nat) (d1 d2 : D) : parK i j (some ([d1, d2], e)) = some (.nx ((e.set i (.fz d1)).set j (.fz d2))) := rfl
def get4 (k v : D) (e : En) : Option D → Option D → Option (D × En)
  | some (.dic _), some (.dic kvs) => (keyOf k).map fun k => ((valD kvs k).getD v, e)
  | _, _ => none
def get3 (p : Opn) (e0 : En) (k : D) : Option (D × En) → Option (D × En)
  | some (v, e) => get4 k v e (res p e0) (res p e)
  | none => none
def get2 (p : Opn) (e0 : En) (fv : FE) : Option (D × En) → Option (D × En)
  | some (k, e) => get3 p e0 k (fv e)
  | none => none
def get1 (fk fv : FE) : Option (Opn × En) → Option (D × En)
  | some (p, e) => get2 p e fv (fk e)
  | none => none
@[simp] theorem e_fGet2 (fo : FO) (fk fv : FE) : fGet2 fo fk fv e = get1 fk fv (fo e) := by
  unfold fGet2
  cases fo e with
  | none => rfl
  | some p =>
    obtain ⟨p, e1⟩ := p
    simp only [Option.bind_some, get1]
    cases fk e1 with
    | none => rfl
    | some q =>
      obtain ⟨k, e2⟩ := q
      simp only [Option.bind_some, get2]
      cases fv e2 with
      | none => rfl
      | some r =>
        obtain ⟨v, e3⟩ := r
        simp only [Option.bind_some, get3]
        cases h1 : res p e1 with
        | none => rfl
        | some d0 => cases h2 : res p e3 with
          | none => cases d0 <;> rfl
          | some d1 => cases d0 <;> first | rfl | (cases d1 <;> rfl)
@[simp] theorem get1_ (fk fv : FE) (p : Opn) : get1 fk fv (some (p, e)) = get2 p e fv (fk e) := rfl
@[simp] theorem get2_ (fv : FE) (p : Opn) (e0 : En) (k : D) : get2 p e0 fv (some (k, e)) = get3 p e0 k (fv e) := rfl
@[simp] theorem get3_ (p : Opn) (e0 : En) (k v : D) : get3 p e0 k (some (v, e)) = get4 k v e (res p e0) (res p e) := rfl
@[simp] theorem get4_ (kv0 kvs : List (Key × D)) (v : D) : get4 (.int i) v e (some (.dic kv0)) (some (.dic kvs)) = some ((valD kvs (.inl i)).getD v, e) := rfl
def cn2 (e : En) : Option (Sl × List Sl) → Option (Sl × En)
  | some (r, _) => some (r, e)
  | none => none
def cn1 (g : List Sl → Option (Sl × List Sl)) : Option (D × En) → Option (Sl × En)
  | some (d, e) => cn2 e (g [.ow d])
  | none => none
@[simp] theorem e_fCallN1 (g : List Sl → Option (Sl × List Sl)) (f : FE) : fCallN1 g f e = cn1 g (f e) := by
  unfold fCallN1
  cases f e with
  | none => rfl
  | some p =>
    simp only [Option.bind_some, cn1]
    cases g [.ow p.1] <;> rfl
@[simp] theorem cn1_ (g : List Sl → Option (Sl × List Sl)) (d : D) : cn1 g (some (d, e)) = cn2 e (g [.ow d]) := rfl
@[simp] theorem cn2_ (r : Sl) (ss : List Sl) : cn2 e (some (r, ss)) = some (r, e) := rfl
end
end Vd

end

section
set_option Elab.async false
set_option linter.all false
set_option maxRecDepth 100000
set_option maxHeartbeats 2000000
/-! Lt: len(set(ints)), whatever comes twice. -/
namespace Vd
open PySem PySem.Spec PyProof.Rows L2 Vd0
/-- the different numbers, each once -/
def dedI (ns : List Int) : List Int := firstMet (fun i => ns.getD i 0) ns.length
theorem dedI_pre (ns : List Int) : ∀ n, n ≤ ns.length → (firstMet (fun i => ns.getD i 0) n).Nodup ∧ ∀ x, x ∈ firstMet (fun i => ns.getD i 0) n ↔ x ∈ ns.take n
  | 0, _ => by simp [firstMet_zero]
  | n + 1, h => by
    obtain ⟨h1, h2⟩ := dedI_pre ns n (by omega)
    have et : ns.take (n + 1) = ns.take n ++ [ns.getD n 0] := by
      rw [List.take_succ, List.getElem?_eq_getElem (by omega), List.getD_eq_getElem?_getD, List.getElem?_eq_getElem (by omega)]; rfl
    rw [firstMet_succ, et]
    unfold step_dedup
    have hx := h2 (ns.getD n 0)
    generalize ns.getD n 0 = a at *
    generalize firstMet (fun i => ns.getD i 0) n = L at *
    by_cases ha : a ∈ L
    · rw [if_pos (by simpa using ha)]
      refine ⟨h1, fun x => ?_⟩
      rw [h2 x, List.mem_append]
      exact ⟨.inl, fun z => z.elim (fun z => z) fun z => by
        have : x = a := by simpa using z
        rw [this]; exact hx.mp ha⟩
    · rw [if_neg (by simpa using ha)]
      refine ⟨List.nodup_append.mpr ⟨h1, by simp, fun u hu v hv e => ha (by
        have : v = a := by simpa using hv
        rw [← this, ← e]; exact hu)⟩, fun x => ?_⟩
      rw [List.mem_append, List.mem_append, h2 x]
theorem dedI_nd (ns : List Int) : (dedI ns).Nodup := (dedI_pre ns _ (Nat.le_refl _)).1
theorem dedI_mem (ns : List Int) (x : Int) : x ∈ dedI ns ↔ x ∈ ns := by
  have := (dedI_pre ns _ (Nat.le_refl _)).2 x
  rwa [List.take_length] at this
theorem dedI_len (ns : List Int) : (dedI ns).length ≤ ns.length := firstMet_length_le _ _
/-- a list without doubles, of the same numbers, is as long -/
theorem dedI_of {ns ms : List Int} (h : ms.Nodup) (m : ∀ x, x ∈ ms ↔ x ∈ ns) : (dedI ns).length = ms.length :=
  ((List.perm_ext_iff_of_nodup (dedI_nd ns) h).mpr fun x => (dedI_mem ns x).trans (m x).symm).length_eq
def tLenSetU (K : PySem.W.Frag) (ta : TE) : TE := fun σ H Q => ta σ H fun v H1 => ∃ (w : Addr) (ns : List Int), v = .ref w ∧ SqL K H1 w (ns.map V.int) ∧ ns.length ≤ 4000 ∧ Q (.int ((dedI ns).length : Nat)) H1
theorem pe_lenSetU {X : Cx} {a : Expr} {ta : TE} {p p2 q pos : Pos} (g1 : Gl X "len") (m1 : X.mg "len" = none) (g2 : Gl X "set") (m2 : X.mg "set" = none) (pa : PE X a ta) (ca : X.calm = true) (na : starEach [a] X.env = (false, eval a X.env) :: starEach [] X.env) :
    PE X (.Call (.Name "len" p) [.Call (.Name "set" p2) [a] [] q] [] pos) (tLenSetU X.K ta) := by
  refine ⟨fun pins s τ H Q I h => Call_ (ld_blt I g1 m1 boot_len (callWith_builtin1 (args_cons ?_ rfl) rfl rfl))⟩
  refine Call_ (ld_blt I g2 m2 boot_set (callWith_type1 (args_cons (thn (pa.run pins s τ H _ I h) fun v t ⟨x, G, J, rv, z⟩ => args_nil ?_) na) na rfl))
  obtain ⟨w, ns, ex, sq, few, z⟩ := z
  subst ex
  cases rv
  obtain ⟨its, vs, pl, _⟩ := J.list sq
  have en : its.toArray.size = ns.length := by rw [List.size_toArray, ← Vals.length vs]; simp
  refine call_set_list (ns := ns) (J.ok.hd ca) pl.isList (by simpa using RZ.intsAre_vals vs) (by rw [en]; unfold scanBound; omega) fun h2 tk so keep => args_nil ?_
  rw [en] at so
  obtain ⟨o, es, ep, tb, o1, o2, o3, _, _, _, o4, o5⟩ := so
  have J2 : Inv X pins τ G { t with heap := h2, toks := tk } := J.kept fun b u e => keep b u (Heap.lt_size e) e
  have sz : (dedI ns).length ≤ 4000 := Nat.le_trans (dedI_len ns) few
  exact call_len_set o1 o2 o3 o4 (by rw [o5]; unfold dedI at sz; first | omega | (have := sizeLine_eq; omega) | (unfold scanBound; omega)) ⟨.int (dedI ns).length, G, J2.tok _, ⟨_, by rw [o5]; rfl⟩, z⟩

section
variable {ι : Type} {X : ι → Cx} {x : Kx} {a : Expr} {p pos : Pos}
def vLenSetU : D → Option D
  | .lst ds => (toInts ds).bind fun ns => if ns.length ≤ 4000 then some (.int ((dedI ns).length : Nat)) else none
  | _ => none
theorem dLenSetU {p2 q : Pos} {ga : FO} (hK : ∀ i, (X i).K = x.K) (hc : ∀ i, (X i).calm = true) (g1 : ∀ i, Gl (X i) "len") (m1 : ∀ i, (X i).mg "len" = none) (g2 : ∀ i, Gl (X i) "set") (m2 : ∀ i, (X i).mg "set" = none) (ha : DO X x a ga)
    (na : ∀ i, starEach [a] (X i).env = (false, eval a (X i).env) :: starEach [] (X i).env := by intro _; rfl) : DE X x (.Call (.Name "len" p) [.Call (.Name "set" p2) [a] [] q] [] pos) (fUn vLenSetU ga) := by
  obtain ⟨ta, pa, ra⟩ := ha
  refine ⟨tLenSetU x.K ta, fun i => by have := pe_lenSetU (p := p) (p2 := p2) (q := q) (pos := pos) (g1 i) (m1 i) (g2 i) (m2 i) (pa i) (hc i) (na i); rw [hK i] at this; exact this, ?_⟩
  have : UnD x (fun v H1 Q => ∃ (w : Addr) (ns : List Int), v = .ref w ∧ SqL x.K H1 w (ns.map V.int) ∧ ns.length ≤ 4000 ∧ Q (.int ((dedI ns).length : Nat)) H1) vLenSetU := fun F H u da d Q g hu q kk => by
    cases hu with
    | @lst a xs ds h r =>
      obtain ⟨ns, q1, q2⟩ := Option.bind_eq_some_iff.mp (show ((toInts ds).bind fun ns => if ns.length ≤ 4000 then some (D.int ((dedI ns).length : Nat)) else none) = some d from q)
      have e := toInts_of q1
      subst e
      have e2 := r.ints
      subst e2
      split at q2
      · cases q2
        exact ⟨a, ns, rfl, SqL.of h, ‹_›, kk_same g (.int _) kk⟩
      · cases q2
    | _ => cases q
  exact rf_un this ra
@[simp] theorem e_lenSetU {ds : List D} : vLenSetU (.lst ds) = (toInts ds).bind fun ns => if ns.length ≤ 4000 then some (.int ((dedI ns).length : Nat)) else none := id rfl
end
end Vd

end

section
set_option Elab.async false
set_option linter.all false
set_option maxRecDepth 100000
set_option maxHeartbeats 4000000
namespace K64
open PySem PySem.Spec PyProof.Rows L2 Vd Vd0
def top (i : Nat) : Stmt := PySem.Challenge.pw_howfarback_k64_whole_windows_edits_and_r.main.body.getD i (.Pass ⟨0, 0, 0, 0⟩)
def cbody : Stmt → List Stmt
  | .ClassDef (body := b) .. => b
  | _ => []
def sub (i j : Nat) : Stmt := (cbody (top i)).getD j (.Pass ⟨0, 0, 0, 0⟩)
section
variable {Pr : Program} {w : World} {x : Kx} {mg : Str → Option Value} {base : Heap} {f : Addr} {fd : FuncData}
/-! _law_distances -/
abbrev N_law_distances : List Str := ["_law_symbols_here", "_law_found", "_law_position", "_law_symbol", "_law_ahead", "_law_at"]
theorem s_law_distances : FnScope N_law_distances ["_law_symbols_here"] (defScope (top 54)) := ⟨rfl, rfl, rfl, by decide +kernel, rfl, by decide +kernel, by decide +kernel⟩
theorem v_law_distances_0 : Loc (defScope (top 54)) "_law_symbols_here" := by first | exact .inl rfl | exact .inr rfl
theorem v_law_distances_1 : Loc (defScope (top 54)) "_law_found" := by first | exact .inl rfl | exact .inr rfl
theorem v_law_distances_2 : Loc (defScope (top 54)) "_law_position" := by first | exact .inl rfl | exact .inr rfl
theorem v_law_distances_3 : Loc (defScope (top 54)) "_law_symbol" := by first | exact .inl rfl | exact .inr rfl
theorem v_law_distances_4 : Loc (defScope (top 54)) "_law_ahead" := by first | exact .inl rfl | exact .inr rfl
def P_law_distances : Prt := fun k => ([] : List Nat).contains k
@[simp] theorem p_law_distances (k : Nat) : P_law_distances k = ([] : List Nat).contains k := rfl
def T_law_distances_1 : FT := fTst (fBin vEq (fOV (fBin vIx (fOB 0) (fOB 5))) (fOB 3))
def E_law_distances_1 : FE := fVar 5
def L_law_distances_1 : FS := fSeq (fSet 4 (fLc [5] (fRng1 (fCons (fVar 2) (fNil))) (gN 5) (T_law_distances_1) (E_law_distances_1))) (fDrop (fMut 1 "list" mAppend (fCons (fIf (fTst (fBin vNe (fOB 4) (fOV (fLst (fNil))))) (fBin vSub (fOB 2) (fOV (fBin vIx (fOB 4) (fOV (fUn vNeg (fOV (fC (.int 1)))))))) (fC (.int 0))) (fNil))))
def b_law_distances : FS := fSeq (fSetN 1 (fLst (fNil))) (fSeq (fFor (fEnum (fCons (fVar 0) (fNil))) (gT 2 (gsCons (gN 2) (gsCons (gN 3) (gsNil)))) (L_law_distances_1)) (fRet (fVar 1)))
def m_law_distances : List Sl → Option (Sl × List Sl) := runD P_law_distances N_law_distances.length b_law_distances
theorem k_law_distances (F : FunD x.K "_law_distances" "_law_distances" (defArgs (top 54)) (defBody (top 54)) (defScope (top 54)) [] [] f fd) (g_enumerate : mg "enumerate" = none) (g_range : mg "range" = none) : FnOk Pr w x.K mg base CX0 (0 + 1) f fd ["_law_symbols_here"] (spD x (["_law_symbols_here"] : List Str).length (runD P_law_distances N_law_distances.length b_law_distances)) := by
  refine fn_d (Pr := Pr) (w := w) (mg := mg) (base := base) (κ := x) (N := N_law_distances) (k := 0) (P := P_law_distances) (b := b_law_distances) F s_law_distances (fun cdv A outer s H E hr => ?_)
  exact (bCons (sSetN 1 rfl (fun _ => s_law_distances.nd) (fun _ => rfl) (fun _ => v_law_distances_1) (dLst dNil))
    (bCons (sFor (fun _ => PassesOwn.never) (fun _ => rfl) (iEnum_ (fun _ => rfl) (fun _ => rfl) (fun _ => g_enumerate) (dCons (dVar 0 (fun _ => rfl) (fun _ => locVis v_law_distances_0)) dNil)) (gTup_ (fun _ => rfl) (fun _ => rfl) (gsCons_ (gName_ 2 rfl (fun _ => s_law_distances.nd) (fun _ => rfl) (fun _ => v_law_distances_2)) (gsCons_ (gName_ 3 rfl (fun _ => s_law_distances.nd) (fun _ => rfl) (fun _ => v_law_distances_3)) gsNil_))) (bCons (by first | exact sSetLc (own := [("_law_at", 5)]) 4 rfl (fun _ => rfl) (fun _ => s_law_distances.nd) (fun _ => rfl) (fun _ => rfl) (fun _ => rfl) (iRange1 (fun _ => rfl) (fun _ => g_range) (dCons (dVar 2 (fun _ => rfl) (fun _ => locVis v_law_distances_2)) dNil)) (fun _ => show BlkOk N_law_distances (defScope (top 54)) _ [("_law_at", 5)] from ⟨rfl, by decide +kernel, by decide +kernel, by decide +kernel, by decide +kernel⟩) (gName_ 5 rfl (fun _ => s_law_distances.nd) (fun _ => rfl) (fun _ => by first | exact .inl rfl | exact .inr rfl) (hf := (fun _ => by first | exact .inl rfl | exact .inr rfl))) (tsOne (dTcmp (fun _ => op_eqD hr.units) opd_eq (dOV (dIxU (fun _ => rfl) (fun _ => un1 hr) (dOB 0 (fun _ => rfl) (fun _ => by first | exact .inl rfl | exact .inr (.inl rfl) | exact .inr (.inr rfl))) (dOB 5 (fun _ => rfl) (fun _ => by first | exact .inl rfl | exact .inr (.inl rfl) | exact .inr (.inr rfl))) (fun _ _ => rfl))) (dOB 3 (fun _ => rfl) (fun _ => by first | exact .inl rfl | exact .inr (.inl rfl) | exact .inr (.inr rfl))) rfl)) (dVar 5 (fun _ => rfl) (fun _ => by first | exact .inl rfl | exact .inr (.inl rfl) | exact .inr (.inr rfl))) | exact sSet 4 rfl (fun _ => s_law_distances.nd) (fun _ => rfl) (fun _ => v_law_distances_4) (dNE (dLc (own := [("_law_at", 5)]) (fun _ => rfl) (fun _ => s_law_distances.nd) (iRange1 (fun _ => rfl) (fun _ => g_range) (dCons (dVar 2 (fun _ => rfl) (fun _ => locVis v_law_distances_2)) dNil)) (fun _ => show BlkOk N_law_distances (defScope (top 54)) _ [("_law_at", 5)] from ⟨rfl, by decide +kernel, by decide +kernel, by decide +kernel, by decide +kernel⟩) (gName_ 5 rfl (fun _ => s_law_distances.nd) (fun _ => rfl) (fun _ => by first | exact .inl rfl | exact .inr rfl) (hf := (fun _ => by first | exact .inl rfl | exact .inr rfl))) (tsOne (dTcmp (fun _ => op_eqD hr.units) opd_eq (dOV (dIxU (fun _ => rfl) (fun _ => un1 hr) (dOB 0 (fun _ => rfl) (fun _ => by first | exact .inl rfl | exact .inr (.inl rfl) | exact .inr (.inr rfl))) (dOB 5 (fun _ => rfl) (fun _ => by first | exact .inl rfl | exact .inr (.inl rfl) | exact .inr (.inr rfl))) (fun _ _ => rfl))) (dOB 3 (fun _ => rfl) (fun _ => by first | exact .inl rfl | exact .inr (.inl rfl) | exact .inr (.inr rfl))) rfl)) (dVar 5 (fun _ => rfl) (fun _ => by first | exact .inl rfl | exact .inr (.inl rfl) | exact .inr (.inr rfl))))))
    (bOne (sExpr (dMut 1 (fun _ => rfl) PySem.F.plainAttrs_list PySem.F.slot_list_append PySem.F.type_list_append (fun _ => mt_append) mur_append (fun _ => rfl) (fun _ => locVis v_law_distances_1) (dCons (dIf (dTcmp (fun _ => op_neD hr.units) opd_ne (dOB 4 (fun _ => rfl) (fun _ => locVis v_law_distances_4)) (dOV (dNE (dLst dNil))) rfl) (dBin (fun _ => op_sub) opd_sub (dOB 2 (fun _ => rfl) (fun _ => locVis v_law_distances_2)) (dOV (dIxU (fun _ => rfl) (fun _ => un1 hr) (dOB 4 (fun _ => rfl) (fun _ => locVis v_law_distances_4)) (dOV (dUn (fun _ => un_neg) opd_neg (dOV dInt))) (fun _ _ => rfl)))) dInt) dNil))))))
    (bOne (sRet (dVar 1 (fun _ => rfl) (fun _ => locVis v_law_distances_1))))))
/-! _law_ids -/
abbrev N_law_ids : List Str := ["_law_distances_here", "_law_found", "_law_many", "_law_position", "_law_number"]
theorem s_law_ids : FnScope N_law_ids ["_law_distances_here"] (defScope (top 56)) := ⟨rfl, rfl, rfl, by decide +kernel, rfl, by decide +kernel, by decide +kernel⟩
theorem v_law_ids_0 : Loc (defScope (top 56)) "_law_distances_here" := by first | exact .inl rfl | exact .inr rfl
theorem v_law_ids_1 : Loc (defScope (top 56)) "_law_found" := by first | exact .inl rfl | exact .inr rfl
theorem v_law_ids_2 : Loc (defScope (top 56)) "_law_many" := by first | exact .inl rfl | exact .inr rfl
theorem v_law_ids_3 : Loc (defScope (top 56)) "_law_position" := by first | exact .inl rfl | exact .inr rfl
theorem v_law_ids_4 : Loc (defScope (top 56)) "_law_number" := by first | exact .inl rfl | exact .inr rfl
def P_law_ids : Prt := fun k => ([] : List Nat).contains k
@[simp] theorem p_law_ids (k : Nat) : P_law_ids k = ([] : List Nat).contains k := rfl
def I_law_ids_1 : FS := fIfS (fTst (fBin vEq (fOB 4) (fOV (fC (.int 0))))) (fSeq (fDrop (fMut 1 "list" mAppend (fCons (fVar 2) (fNil)))) (fSet 2 (fBin vAdd (fOB 2) (fOV (fC (.int 1)))))) (fDrop (fMut 1 "list" mAppend (fCons (fBin vIx (fOB 1) (fOV (fBin vSub (fOB 3) (fOB 4)))) (fNil))))
def L_law_ids_1 : FS := I_law_ids_1
def b_law_ids : FS := fSeq (fSetN 1 (fLst (fNil))) (fSeq (fSet 2 (fC (.int 0))) (fSeq (fFor (fEnum (fCons (fVar 0) (fNil))) (gT 2 (gsCons (gN 3) (gsCons (gN 4) (gsNil)))) (L_law_ids_1)) (fRet (fVar 1))))
def m_law_ids : List Sl → Option (Sl × List Sl) := runD P_law_ids N_law_ids.length b_law_ids
theorem k_law_ids (F : FunD x.K "_law_ids" "_law_ids" (defArgs (top 56)) (defBody (top 56)) (defScope (top 56)) [] [] f fd) (g_enumerate : mg "enumerate" = none) : FnOk Pr w x.K mg base CX0 (0 + 1) f fd ["_law_distances_here"] (spD x (["_law_distances_here"] : List Str).length (runD P_law_ids N_law_ids.length b_law_ids)) := by
  refine fn_d (Pr := Pr) (w := w) (mg := mg) (base := base) (κ := x) (N := N_law_ids) (k := 0) (P := P_law_ids) (b := b_law_ids) F s_law_ids (fun cdv A outer s H E hr => ?_)
  exact (bCons (sSetN 1 rfl (fun _ => s_law_ids.nd) (fun _ => rfl) (fun _ => v_law_ids_1) (dLst dNil))
    (bCons (sSet 2 rfl (fun _ => s_law_ids.nd) (fun _ => rfl) (fun _ => v_law_ids_2) dInt)
    (bCons (sFor (fun _ => PassesOwn.never) (fun _ => rfl) (iEnum_ (fun _ => rfl) (fun _ => rfl) (fun _ => g_enumerate) (dCons (dVar 0 (fun _ => rfl) (fun _ => locVis v_law_ids_0)) dNil)) (gTup_ (fun _ => rfl) (fun _ => rfl) (gsCons_ (gName_ 3 rfl (fun _ => s_law_ids.nd) (fun _ => rfl) (fun _ => v_law_ids_3)) (gsCons_ (gName_ 4 rfl (fun _ => s_law_ids.nd) (fun _ => rfl) (fun _ => v_law_ids_4)) gsNil_))) (bOne (sIf (dTcmp (fun _ => op_eqD hr.units) opd_eq (dOB 4 (fun _ => rfl) (fun _ => locVis v_law_ids_4)) (dOV dInt) rfl) (bCons (sExpr (dMut 1 (fun _ => rfl) PySem.F.plainAttrs_list PySem.F.slot_list_append PySem.F.type_list_append (fun _ => mt_append) mur_append (fun _ => rfl) (fun _ => locVis v_law_ids_1) (dCons (dVar 2 (fun _ => rfl) (fun _ => locVis v_law_ids_2)) dNil)))
    (bOne (sSet 2 rfl (fun _ => s_law_ids.nd) (fun _ => rfl) (fun _ => v_law_ids_2) (dBin (fun _ => opr_add) opd_add (dOB 2 (fun _ => rfl) (fun _ => locVis v_law_ids_2)) (dOV dInt))))) (bOne (sExpr (dMut 1 (fun _ => rfl) PySem.F.plainAttrs_list PySem.F.slot_list_append PySem.F.type_list_append (fun _ => mt_append) mur_append (fun _ => rfl) (fun _ => locVis v_law_ids_1) (dCons (dIxU (fun _ => rfl) (fun _ => un1 hr) (dOB 1 (fun _ => rfl) (fun _ => locVis v_law_ids_1)) (dOV (dBin (fun _ => op_sub) opd_sub (dOB 3 (fun _ => rfl) (fun _ => locVis v_law_ids_3)) (dOB 4 (fun _ => rfl) (fun _ => locVis v_law_ids_4)))) (fun _ _ => rfl)) dNil)))))))
    (bOne (sRet (dVar 1 (fun _ => rfl) (fun _ => locVis v_law_ids_1)))))))
/-! _law_symbol_count -/
abbrev N_law_symbol_count : List Str := ["_law_distances_here", "_law_number"]
theorem s_law_symbol_count : FnScope N_law_symbol_count ["_law_distances_here"] (defScope (top 57)) := ⟨rfl, rfl, rfl, by decide +kernel, rfl, by decide +kernel, by decide +kernel⟩
theorem v_law_symbol_count_0 : Loc (defScope (top 57)) "_law_distances_here" := by first | exact .inl rfl | exact .inr rfl
def P_law_symbol_count : Prt := fun k => ([] : List Nat).contains k
@[simp] theorem p_law_symbol_count (k : Nat) : P_law_symbol_count k = ([] : List Nat).contains k := rfl
def T_law_symbol_count_1 : FT := fTst (fBin vEq (fOB 1) (fOV (fC (.int 0))))
def E_law_symbol_count_1 : FE := fC (.int 1)
def b_law_symbol_count : FS := fRet (fUn vLen (fOV (fLc [1] (fIt (fVar 0)) (gN 1) (T_law_symbol_count_1) (E_law_symbol_count_1))))
def m_law_symbol_count : List Sl → Option (Sl × List Sl) := runD P_law_symbol_count N_law_symbol_count.length b_law_symbol_count
theorem k_law_symbol_count (F : FunD x.K "_law_symbol_count" "_law_symbol_count" (defArgs (top 57)) (defBody (top 57)) (defScope (top 57)) [] [] f fd) (g_len : mg "len" = none) : FnOk Pr w x.K mg base CX0 (0 + 1) f fd ["_law_distances_here"] (spD x (["_law_distances_here"] : List Str).length (runD P_law_symbol_count N_law_symbol_count.length b_law_symbol_count)) := by
  refine fn_d (Pr := Pr) (w := w) (mg := mg) (base := base) (κ := x) (N := N_law_symbol_count) (k := 0) (P := P_law_symbol_count) (b := b_law_symbol_count) F s_law_symbol_count (fun cdv A outer s H E hr => ?_)
  exact (bOne (sRet (dB1 (fun _ => cr_len) und_len (fun _ => rfl) (fun _ => g_len) boot_len (dOV (dNE (dLc (own := [("_law_number", 1)]) (fun _ => rfl) (fun _ => s_law_symbol_count.nd) (iSeq_ (fun _ => rfl) (dVar 0 (fun _ => rfl) (fun _ => locVis v_law_symbol_count_0))) (fun _ => show BlkOk N_law_symbol_count (defScope (top 57)) _ [("_law_number", 1)] from ⟨rfl, by decide +kernel, by decide +kernel, by decide +kernel, by decide +kernel⟩) (gName_ 1 rfl (fun _ => s_law_symbol_count.nd) (fun _ => rfl) (fun _ => by first | exact .inl rfl | exact .inr rfl) (hf := (fun _ => by first | exact .inl rfl | exact .inr rfl))) (tsOne (dTcmp (fun _ => op_eqD hr.units) opd_eq (dOB 1 (fun _ => rfl) (fun _ => by first | exact .inl rfl | exact .inr (.inl rfl) | exact .inr (.inr rfl))) (dOV dInt) rfl)) dInt))))))
/-! _law_draw -/
abbrev N_law_draw : List Str := ["_law_stream_here", "_law_many", "_law_found", "_law_stirred"]
theorem s_law_draw : FnScope N_law_draw ["_law_stream_here", "_law_many"] (defScope (top 53)) := ⟨rfl, rfl, rfl, by decide +kernel, rfl, by decide +kernel, by decide +kernel⟩
theorem v_law_draw_0 : Loc (defScope (top 53)) "_law_stream_here" := by first | exact .inl rfl | exact .inr rfl
theorem v_law_draw_1 : Loc (defScope (top 53)) "_law_many" := by first | exact .inl rfl | exact .inr rfl
theorem v_law_draw_2 : Loc (defScope (top 53)) "_law_found" := by first | exact .inl rfl | exact .inr rfl
theorem v_law_draw_3 : Loc (defScope (top 53)) "_law_stirred" := by first | exact .inl rfl | exact .inr rfl
def P_law_draw : Prt := fun k => ([0] : List Nat).contains k
@[simp] theorem p_law_draw (k : Nat) : P_law_draw k = ([0] : List Nat).contains k := rfl
def I_law_draw_1 : FS := fIfS (fTst (fBin vGe (fOV (fBin vIx (fOB 0) (fOV (fC (.int 0))))) (fOV (fBin vPow (fOV (fC (.int 10))) (fOV (fC (.int 18))))))) (fSeq (fSet 2 (fBin vMod (fOV (fBin vIx (fOB 0) (fOV (fC (.int 0))))) (fOB 1))) (fSeq (fSetI 0 (fC (.int 0)) (fBin vDiv (fOV (fBin vIx (fOB 0) (fOV (fC (.int 0))))) (fOB 1))) (fRet (fVar 2)))) (fNext)
def b_law_draw : FS := fSeq (I_law_draw_1) (fSeq (fSetI 0 (fC (.int 1)) (fBin vMod (fOV (fBin vMul (fOV (fBin vAdd (fOV (fBin vIx (fOB 0) (fOV (fC (.int 1))))) (fOV (fC (.int 1))))) (fOV (fC (.int 48271))))) (fOV (fC (.int 2147483647))))) (fSeq (fSet 3 (fBin vMod (fOV (fBin vMul (fOV (fBin vIx (fOB 0) (fOV (fC (.int 1))))) (fOV (fBin vIx (fOB 0) (fOV (fC (.int 1))))))) (fOV (fC (.int 2147483629))))) (fRet (fBin vMod (fOV (fBin vDiv (fOV (fBin vMod (fOV (fBin vMul (fOB 3) (fOV (fC (.int 69621))))) (fOV (fC (.int 2147483587))))) (fOV (fC (.int 8))))) (fOB 1)))))
def m_law_draw : List Sl → Option (Sl × List Sl) := runD P_law_draw N_law_draw.length b_law_draw
theorem k_law_draw (F : FunD x.K "_law_draw" "_law_draw" (defArgs (top 53)) (defBody (top 53)) (defScope (top 53)) [] [] f fd)  : FnOk Pr w x.K mg base CX0 (0 + 1) f fd ["_law_stream_here", "_law_many"] (spD x (["_law_stream_here", "_law_many"] : List Str).length (runD P_law_draw N_law_draw.length b_law_draw)) := by
  refine fn_d (Pr := Pr) (w := w) (mg := mg) (base := base) (κ := x) (N := N_law_draw) (k := 0) (P := P_law_draw) (b := b_law_draw) F s_law_draw (fun cdv A outer s H E hr => ?_)
  exact (bCons (sIf (dTcmp (fun _ => op_ge) opd_ge (dOV (dIxU (fun _ => rfl) (fun _ => un1 hr) (dOB 0 (fun _ => rfl) (fun _ => locVis v_law_draw_0)) (dOV dInt) (fun _ _ => rfl))) (dOV (dBin (fun _ => op_pow) opd_pow (dOV dInt) (dOV dInt))) rfl) (bCons (sSet 2 rfl (fun _ => s_law_draw.nd) (fun _ => rfl) (fun _ => v_law_draw_2) (dBin (fun _ => op_mod) opd_mod (dOV (dIxU (fun _ => rfl) (fun _ => un1 hr) (dOB 0 (fun _ => rfl) (fun _ => locVis v_law_draw_0)) (dOV dInt) (fun _ _ => rfl))) (dOB 1 (fun _ => rfl) (fun _ => locVis v_law_draw_1))))
    (bCons (sSetI 0 (fun _ => un1 hr) (fun _ => rfl) (fun _ => locVis v_law_draw_0) dInt (dBin (fun _ => op_fdivW) opd_div (dOV (dIxU (fun _ => rfl) (fun _ => un1 hr) (dOB 0 (fun _ => rfl) (fun _ => locVis v_law_draw_0)) (dOV dInt) (fun _ _ => rfl))) (dOB 1 (fun _ => rfl) (fun _ => locVis v_law_draw_1))))
    (bOne (sRet (dVar 2 (fun _ => rfl) (fun _ => locVis v_law_draw_2)))))) bNil)
    (bCons (sSetI 0 (fun _ => un1 hr) (fun _ => rfl) (fun _ => locVis v_law_draw_0) dInt (dBin (fun _ => op_mod) opd_mod (dOV (dBin (fun _ => opr_mul) opd_mul (dOV (dBin (fun _ => opr_add) opd_add (dOV (dIxU (fun _ => rfl) (fun _ => un1 hr) (dOB 0 (fun _ => rfl) (fun _ => locVis v_law_draw_0)) (dOV dInt) (fun _ _ => rfl))) (dOV dInt))) (dOV dInt))) (dOV dInt)))
    (bCons (sSet 3 rfl (fun _ => s_law_draw.nd) (fun _ => rfl) (fun _ => v_law_draw_3) (dBin (fun _ => op_mod) opd_mod (dOV (dBin (fun _ => opr_mul) opd_mul (dOV (dIxU (fun _ => rfl) (fun _ => un1 hr) (dOB 0 (fun _ => rfl) (fun _ => locVis v_law_draw_0)) (dOV dInt) (fun _ _ => rfl))) (dOV (dIxU (fun _ => rfl) (fun _ => un1 hr) (dOB 0 (fun _ => rfl) (fun _ => locVis v_law_draw_0)) (dOV dInt) (fun _ _ => rfl))))) (dOV dInt)))
    (bOne (sRet (dBin (fun _ => op_mod) opd_mod (dOV (dBin (fun _ => op_fdivW) opd_div (dOV (dBin (fun _ => op_mod) opd_mod (dOV (dBin (fun _ => opr_mul) opd_mul (dOB 3 (fun _ => rfl) (fun _ => locVis v_law_draw_3)) (dOV dInt))) (dOV dInt))) (dOV dInt))) (dOB 1 (fun _ => rfl) (fun _ => locVis v_law_draw_1))))))))
/-! is_sequence -/
abbrev N_is_sequence : List Str := ["value"]
theorem s_is_sequence : FnScope N_is_sequence ["value"] (defScope (top 12)) := ⟨rfl, rfl, rfl, by decide +kernel, rfl, by decide +kernel, by decide +kernel⟩
theorem v_is_sequence_0 : Loc (defScope (top 12)) "value" := by first | exact .inl rfl | exact .inr rfl
def P_is_sequence : Prt := fun k => ([] : List Nat).contains k
@[simp] theorem p_is_sequence (k : Nat) : P_is_sequence k = ([] : List Nat).contains k := rfl
def b_is_sequence : FS := fRet (fUn (isT2 "list" "tuple") (fOB 0))
def m_is_sequence : List Sl → Option (Sl × List Sl) := runD P_is_sequence N_is_sequence.length b_is_sequence
theorem k_is_sequence (F : FunD x.K "is_sequence" "is_sequence" (defArgs (top 12)) (defBody (top 12)) (defScope (top 12)) [] [] f fd) (g_isinstance : mg "isinstance" = none) (g_list : mg "list" = none) (g_tuple : mg "tuple" = none) : FnOk Pr w x.K mg base CX0 (0 + 1) f fd ["value"] (spD x (["value"] : List Str).length (runD P_is_sequence N_is_sequence.length b_is_sequence)) := by
  refine fn_d (Pr := Pr) (w := w) (mg := mg) (base := base) (κ := x) (N := N_is_sequence) (k := 0) (P := P_is_sequence) (b := b_is_sequence) F s_is_sequence (fun cdv A outer s H E hr => ?_)
  exact (bOne (sRet (dIsi2 (fun _ => rfl) (fun _ => rfl) (fun _ => g_isinstance) (fun _ => rfl) (fun _ => g_list) boot_list (fun _ => rfl) (fun _ => g_tuple) boot_tuple (dOB 0 (fun _ => rfl) (fun _ => locVis v_is_sequence_0)))))
/-! is_integer -/
abbrev N_is_integer : List Str := ["value", "lowest", "highest"]
theorem s_is_integer : FnScope N_is_integer ["value", "lowest", "highest"] (defScope (top 11)) := ⟨rfl, rfl, rfl, by decide +kernel, rfl, by decide +kernel, by decide +kernel⟩
theorem v_is_integer_0 : Loc (defScope (top 11)) "value" := by first | exact .inl rfl | exact .inr rfl
theorem v_is_integer_1 : Loc (defScope (top 11)) "lowest" := by first | exact .inl rfl | exact .inr rfl
theorem v_is_integer_2 : Loc (defScope (top 11)) "highest" := by first | exact .inl rfl | exact .inr rfl
def P_is_integer : Prt := fun k => ([] : List Nat).contains k
@[simp] theorem p_is_integer (k : Nat) : P_is_integer k = ([] : List Nat).contains k := rfl
def I_is_integer_1 : FS := fIfS (fTor (fTnot (fTst (fUn (isT1 "int") (fOB 0)))) (fTst (fUn (isT1 "bool") (fOB 0)))) (fRet (fC (.bl false))) (fNext)
def b_is_integer : FS := fSeq (I_is_integer_1) (fRet (fAndV (fBin vGe (fOB 0) (fOB 1)) (fOrV (fBin vIs (fOB 2) (fOV (fC .non))) (fBin vLeU (fOB 0) (fOB 2)))))
def m_is_integer : List Sl → Option (Sl × List Sl) := runD P_is_integer N_is_integer.length b_is_integer
theorem k_is_integer (F : FunD x.K "is_integer" "is_integer" (defArgs (top 11)) (defBody (top 11)) (defScope (top 11)) [.non] [] f fd) (g_isinstance : mg "isinstance" = none) (g_int : mg "int" = none) (g_bool : mg "bool" = none) : FnOk Pr w x.K mg base CX0 (0 + 1) f fd ["value", "lowest", "highest"] (spD x (["value", "lowest", "highest"] : List Str).length (runD P_is_integer N_is_integer.length b_is_integer)) := by
  refine fn_d (Pr := Pr) (w := w) (mg := mg) (base := base) (κ := x) (N := N_is_integer) (k := 0) (P := P_is_integer) (b := b_is_integer) F s_is_integer (fun cdv A outer s H E hr => ?_)
  exact (bCons (sIf (dWT (dWor (dTnot (dTval (dIsi (fun _ => rfl) (fun _ => rfl) (fun _ => g_isinstance) (fun _ => rfl) (fun _ => g_int) boot_int (dOB 0 (fun _ => rfl) (fun _ => locVis v_is_integer_0))) (by intro _ _; rfl))) (dWor1 (dTval (dIsi (fun _ => rfl) (fun _ => rfl) (fun _ => g_isinstance) (fun _ => rfl) (fun _ => g_bool) boot_bool (dOB 0 (fun _ => rfl) (fun _ => locVis v_is_integer_0))) (by intro _ _; rfl))))) (bOne (sRet dBl)) bNil)
    (bOne (sRet (dAndV (dCmp (fun _ => op_ge) opd_ge (dOB 0 (fun _ => rfl) (fun _ => locVis v_is_integer_0)) (dOB 1 (fun _ => rfl) (fun _ => locVis v_is_integer_1)) rfl) (dOne (dOrV (dCmp (fun _ => op_isN) opd_is (dOB 2 (fun _ => rfl) (fun _ => locVis v_is_integer_2)) (dOV dNon) rfl) (dOne (dCmp (fun _ => op_leU (Nat.lt_of_succ_lt (un1 hr))) opd_leU (dOB 0 (fun _ => rfl) (fun _ => locVis v_is_integer_0)) (dOB 2 (fun _ => rfl) (fun _ => locVis v_is_integer_2)) rfl))))))))
/-! is_distances -/
abbrev N_is_distances : List Str := ["value", "targets", "position", "entry"]
theorem s_is_distances : FnScope N_is_distances ["value"] (defScope (top 13)) := ⟨rfl, rfl, rfl, by decide +kernel, rfl, by decide +kernel, by decide +kernel⟩
theorem v_is_distances_0 : Loc (defScope (top 13)) "value" := by first | exact .inl rfl | exact .inr rfl
theorem v_is_distances_1 : Loc (defScope (top 13)) "targets" := by first | exact .inl rfl | exact .inr rfl
def P_is_distances : Prt := fun k => ([] : List Nat).contains k
@[simp] theorem p_is_distances (k : Nat) : P_is_distances k = ([] : List Nat).contains k := rfl
def I_is_distances_1 : FS := fIfS (fTor (fTnot (fTst (slE (fCall 1 m_is_sequence [] (fAV (fVar 0) (fANil)))))) (fTst (fBin vGt (fOV (fUn vLen (fOB 0))) (fOV (fC (.int (400))))))) (fRet (fC (.bl false))) (fNext)
def T_is_distances_1 : FT := fYes
def E_is_distances_1 : FE := slE (fCall 3 m_is_integer [] (fAV (fVar 3) (fAV (fC (.int 0)) (fAV (fVar 2) (fANil)))))
def I_is_distances_2 : FS := fIfS (fTnot (fTst (fUn vAll (fOV (fLc [2, 3] (fEnum (fCons (fVar 0) (fNil))) (gT 2 (gsCons (gN 2) (gsCons (gN 3) (gsNil)))) (T_is_distances_1) (E_is_distances_1)))))) (fRet (fC (.bl false))) (fNext)
def T_is_distances_2 : FT := fTst (fBin vGt (fOB 3) (fOV (fC (.int 0))))
def E_is_distances_2 : FE := fBin vSub (fOB 2) (fOB 3)
def b_is_distances : FS := fSeq (I_is_distances_1) (fSeq (I_is_distances_2) (fSeq (fSet 1 (fLc [2, 3] (fEnum (fCons (fVar 0) (fNil))) (gT 2 (gsCons (gN 2) (gsCons (gN 3) (gsNil)))) (T_is_distances_2) (E_is_distances_2))) (fRet (fBin vEq (fOV (fUn vLenSet (fOB 1))) (fOV (fUn vLen (fOB 1)))))))
def m_is_distances : List Sl → Option (Sl × List Sl) := runD P_is_distances N_is_distances.length b_is_distances
theorem k_is_distances (F : FunD x.K "is_distances" "is_distances" (defArgs (top 13)) (defBody (top 13)) (defScope (top 13)) [] [] f fd) (c_is_sequence : Cal Pr w x.K mg base x "is_sequence" 1 ["value"] 1 m_is_sequence []) (g_len : mg "len" = none) (q_MAX_POSITIONS : ∃ u, mg "MAX_POSITIONS" = some u ∧ RelV (.int (400)) u) (g_enumerate : mg "enumerate" = none) (c_is_integer : Cal Pr w x.K mg base x "is_integer" 1 ["value", "lowest", "highest"] 3 m_is_integer []) (g_all : mg "all" = none) (g_set : mg "set" = none) : FnOk Pr w x.K mg base CX0 (1 + 1) f fd ["value"] (spD x (["value"] : List Str).length (runD P_is_distances N_is_distances.length b_is_distances)) := by
  refine fn_d (Pr := Pr) (w := w) (mg := mg) (base := base) (κ := x) (N := N_is_distances) (k := 1) (P := P_is_distances) (b := b_is_distances) F s_is_distances (fun cdv A outer s H E hr => ?_)
  exact (bCons (sIf (dWT (dWor (dTnot (dTval (DR.toE (dCall ⟨fun _ => rfl, fun _ => rfl, fun _ => rfl, fun _ => rfl, fun _ => rfl, fun _ => hr, fun _ => rfl⟩ c_is_sequence (by omega) (fun _ => rfl) (aV (dVar 0 (fun _ => rfl) (fun _ => locVis v_is_distances_0)) aNil))) (by intro _ _; rfl))) (dWor1 (dTcmp (fun _ => op_gt) opd_gt (dOV (dB1 (fun _ => cr_len) und_len (fun _ => rfl) (fun _ => g_len) boot_len (dOB 0 (fun _ => rfl) (fun _ => locVis v_is_distances_0)))) (dOV (dGc (d := .int (400)) (v := .int (400)) (fun _ => .int _) (fun _ => rfl) (fun _ => q_MAX_POSITIONS))) rfl)))) (bOne (sRet dBl)) bNil)
    (bCons (sIf (dTnot (dTval (dB1 (fun _ => cr_all rfl) und_all (fun _ => rfl) (fun _ => g_all) boot_all (dOV (dNE (dLc (own := [("position", 2), ("entry", 3)]) (fun _ => rfl) (fun _ => s_is_distances.nd) (iEnum_ (fun _ => rfl) (fun _ => rfl) (fun _ => g_enumerate) (dCons (dVar 0 (fun _ => rfl) (fun _ => locVis v_is_distances_0)) dNil)) (fun _ => show BlkOk N_is_distances (defScope (top 13)) _ [("position", 2), ("entry", 3)] from ⟨rfl, by decide +kernel, by decide +kernel, by decide +kernel, by decide +kernel⟩) (gTup_ (fun _ => rfl) (fun _ => rfl) (gsCons_ (gName_ 2 rfl (fun _ => s_is_distances.nd) (fun _ => rfl) (fun _ => by first | exact .inl rfl | exact .inr rfl) (hf := (fun _ => by first | exact .inl rfl | exact .inr rfl))) (gsCons_ (gName_ 3 rfl (fun _ => s_is_distances.nd) (fun _ => rfl) (fun _ => by first | exact .inl rfl | exact .inr rfl) (hf := (fun _ => by first | exact .inl rfl | exact .inr rfl))) gsNil_))) tsNil (DR.toE (dCall ⟨fun _ => rfl, fun _ => rfl, fun _ => rfl, fun _ => rfl, fun _ => rfl, fun _ => hr, fun _ => rfl⟩ c_is_integer (by omega) (fun _ => rfl) (aV (dVar 3 (fun _ => rfl) (fun _ => by first | exact .inl rfl | exact .inr (.inl rfl) | exact .inr (.inr rfl))) (aV dInt (aV (dVar 2 (fun _ => rfl) (fun _ => by first | exact .inl rfl | exact .inr (.inl rfl) | exact .inr (.inr rfl))) aNil))))))))) (by intro _ _; rfl))) (bOne (sRet dBl)) bNil)
    (bCons (by first | exact sSetLc (own := [("position", 2), ("entry", 3)]) 1 rfl (fun _ => rfl) (fun _ => s_is_distances.nd) (fun _ => rfl) (fun _ => rfl) (fun _ => rfl) (iEnum_ (fun _ => rfl) (fun _ => rfl) (fun _ => g_enumerate) (dCons (dVar 0 (fun _ => rfl) (fun _ => locVis v_is_distances_0)) dNil)) (fun _ => show BlkOk N_is_distances (defScope (top 13)) _ [("position", 2), ("entry", 3)] from ⟨rfl, by decide +kernel, by decide +kernel, by decide +kernel, by decide +kernel⟩) (gTup_ (fun _ => rfl) (fun _ => rfl) (gsCons_ (gName_ 2 rfl (fun _ => s_is_distances.nd) (fun _ => rfl) (fun _ => by first | exact .inl rfl | exact .inr rfl) (hf := (fun _ => by first | exact .inl rfl | exact .inr rfl))) (gsCons_ (gName_ 3 rfl (fun _ => s_is_distances.nd) (fun _ => rfl) (fun _ => by first | exact .inl rfl | exact .inr rfl) (hf := (fun _ => by first | exact .inl rfl | exact .inr rfl))) gsNil_))) (tsOne (dTcmp (fun _ => op_gt) opd_gt (dOB 3 (fun _ => rfl) (fun _ => by first | exact .inl rfl | exact .inr (.inl rfl) | exact .inr (.inr rfl))) (dOV dInt) rfl)) (dBin (fun _ => op_sub) opd_sub (dOB 2 (fun _ => rfl) (fun _ => by first | exact .inl rfl | exact .inr (.inl rfl) | exact .inr (.inr rfl))) (dOB 3 (fun _ => rfl) (fun _ => by first | exact .inl rfl | exact .inr (.inl rfl) | exact .inr (.inr rfl)))) | exact sSet 1 rfl (fun _ => s_is_distances.nd) (fun _ => rfl) (fun _ => v_is_distances_1) (dNE (dLc (own := [("position", 2), ("entry", 3)]) (fun _ => rfl) (fun _ => s_is_distances.nd) (iEnum_ (fun _ => rfl) (fun _ => rfl) (fun _ => g_enumerate) (dCons (dVar 0 (fun _ => rfl) (fun _ => locVis v_is_distances_0)) dNil)) (fun _ => show BlkOk N_is_distances (defScope (top 13)) _ [("position", 2), ("entry", 3)] from ⟨rfl, by decide +kernel, by decide +kernel, by decide +kernel, by decide +kernel⟩) (gTup_ (fun _ => rfl) (fun _ => rfl) (gsCons_ (gName_ 2 rfl (fun _ => s_is_distances.nd) (fun _ => rfl) (fun _ => by first | exact .inl rfl | exact .inr rfl) (hf := (fun _ => by first | exact .inl rfl | exact .inr rfl))) (gsCons_ (gName_ 3 rfl (fun _ => s_is_distances.nd) (fun _ => rfl) (fun _ => by first | exact .inl rfl | exact .inr rfl) (hf := (fun _ => by first | exact .inl rfl | exact .inr rfl))) gsNil_))) (tsOne (dTcmp (fun _ => op_gt) opd_gt (dOB 3 (fun _ => rfl) (fun _ => by first | exact .inl rfl | exact .inr (.inl rfl) | exact .inr (.inr rfl))) (dOV dInt) rfl)) (dBin (fun _ => op_sub) opd_sub (dOB 2 (fun _ => rfl) (fun _ => by first | exact .inl rfl | exact .inr (.inl rfl) | exact .inr (.inr rfl))) (dOB 3 (fun _ => rfl) (fun _ => by first | exact .inl rfl | exact .inr (.inl rfl) | exact .inr (.inr rfl)))))))
    (bOne (sRet (dCmp (fun _ => op_eqD hr.units) opd_eq (dOV (dLenSet (fun _ => rfl) (fun _ => rfl) (fun _ => rfl) (fun _ => g_len) (fun _ => rfl) (fun _ => g_set) (dOB 1 (fun _ => rfl) (fun _ => locVis v_is_distances_1)))) (dOV (dB1 (fun _ => cr_len) und_len (fun _ => rfl) (fun _ => g_len) boot_len (dOB 1 (fun _ => rfl) (fun _ => locVis v_is_distances_1)))) rfl))))))
/-! checked -/
abbrev N_checked_distances : List Str := ["distances"]
theorem s_checked_distances : FnScope N_checked_distances ["distances"] (defScope (top 14)) := ⟨rfl, rfl, rfl, by decide +kernel, rfl, by decide +kernel, by decide +kernel⟩
theorem v_checked_distances_0 : Loc (defScope (top 14)) "distances" := by first | exact .inl rfl | exact .inr rfl
def P_checked_distances : Prt := fun k => ([] : List Nat).contains k
@[simp] theorem p_checked_distances (k : Nat) : P_checked_distances k = ([] : List Nat).contains k := rfl
def I_checked_distances_1 : FS := fIfS (fTnot (fTst (slE (fCall 1 m_is_distances [] (fAV (fVar 0) (fANil)))))) (fNo) (fNext)
def b_checked_distances : FS := fSeq (I_checked_distances_1) (fRet (fUn vList (fOB 0)))
def m_checked_distances : List Sl → Option (Sl × List Sl) := runD P_checked_distances N_checked_distances.length b_checked_distances
theorem k_checked_distances (F : FunD x.K "checked" "checked" (defArgs (top 14)) (defBody (top 14)) (defScope (top 14)) [] [] f fd) (c_is_distances : Cal Pr w x.K mg base x "is_distances" 2 ["value"] 1 m_is_distances []) (g_list : mg "list" = none) : FnOk Pr w x.K mg base CX0 (2 + 1) f fd ["distances"] (spD x (["distances"] : List Str).length (runD P_checked_distances N_checked_distances.length b_checked_distances)) := by
  refine fn_d (Pr := Pr) (w := w) (mg := mg) (base := base) (κ := x) (N := N_checked_distances) (k := 2) (P := P_checked_distances) (b := b_checked_distances) F s_checked_distances (fun cdv A outer s H E hr => ?_)
  exact (bCons (sIf (dTnot (dTval (DR.toE (dCall ⟨fun _ => rfl, fun _ => rfl, fun _ => rfl, fun _ => rfl, fun _ => rfl, fun _ => hr, fun _ => rfl⟩ c_is_distances (by omega) (fun _ => rfl) (aV (dVar 0 (fun _ => rfl) (fun _ => locVis v_checked_distances_0)) aNil))) (by intro _ _; rfl))) bNo bNil)
    (bOne (sRet (dNE (dT1N (fun _ => call_list_of) unn_list (fun _ => rfl) (fun _ => g_list) boot_list (dOB 0 (fun _ => rfl) (fun _ => locVis v_checked_distances_0)))))))
/-! check_position -/
abbrev N_check_position : List Str := ["position", "highest"]
theorem s_check_position : FnScope N_check_position ["position", "highest"] (defScope (top 30)) := ⟨rfl, rfl, rfl, by decide +kernel, rfl, by decide +kernel, by decide +kernel⟩
theorem v_check_position_0 : Loc (defScope (top 30)) "position" := by first | exact .inl rfl | exact .inr rfl
theorem v_check_position_1 : Loc (defScope (top 30)) "highest" := by first | exact .inl rfl | exact .inr rfl
def P_check_position : Prt := fun k => ([] : List Nat).contains k
@[simp] theorem p_check_position (k : Nat) : P_check_position k = ([] : List Nat).contains k := rfl
def I_check_position_1 : FS := fIfS (fTnot (fTst (slE (fCall 3 m_is_integer [] (fAV (fVar 0) (fAV (fC (.int 0)) (fAV (fVar 1) (fANil)))))))) (fNo) (fNext)
def b_check_position : FS := I_check_position_1
def m_check_position : List Sl → Option (Sl × List Sl) := runD P_check_position N_check_position.length b_check_position
theorem k_check_position (F : FunD x.K "check_position" "check_position" (defArgs (top 30)) (defBody (top 30)) (defScope (top 30)) [] [] f fd) (c_is_integer : Cal Pr w x.K mg base x "is_integer" 1 ["value", "lowest", "highest"] 3 m_is_integer []) : FnOk Pr w x.K mg base CX0 (1 + 1) f fd ["position", "highest"] (spD x (["position", "highest"] : List Str).length (runD P_check_position N_check_position.length b_check_position)) := by
  refine fn_d (Pr := Pr) (w := w) (mg := mg) (base := base) (κ := x) (N := N_check_position) (k := 1) (P := P_check_position) (b := b_check_position) F s_check_position (fun cdv A outer s H E hr => ?_)
  exact (bOne (sIf (dTnot (dTval (DR.toE (dCall ⟨fun _ => rfl, fun _ => rfl, fun _ => rfl, fun _ => rfl, fun _ => rfl, fun _ => hr, fun _ => rfl⟩ c_is_integer (by omega) (fun _ => rfl) (aV (dVar 0 (fun _ => rfl) (fun _ => locVis v_check_position_0)) (aV dInt (aV (dVar 1 (fun _ => rfl) (fun _ => locVis v_check_position_1)) aNil))))) (by intro _ _; rfl))) bNo bNil))
/-! check_symbol -/
abbrev N_check_symbol : List Str := ["symbol", "highest"]
theorem s_check_symbol : FnScope N_check_symbol ["symbol", "highest"] (defScope (top 40)) := ⟨rfl, rfl, rfl, by decide +kernel, rfl, by decide +kernel, by decide +kernel⟩
theorem v_check_symbol_0 : Loc (defScope (top 40)) "symbol" := by first | exact .inl rfl | exact .inr rfl
theorem v_check_symbol_1 : Loc (defScope (top 40)) "highest" := by first | exact .inl rfl | exact .inr rfl
def P_check_symbol : Prt := fun k => ([] : List Nat).contains k
@[simp] theorem p_check_symbol (k : Nat) : P_check_symbol k = ([] : List Nat).contains k := rfl
def I_check_symbol_1 : FS := fIfS (fTnot (fTst (slE (fCall 3 m_is_integer [] (fAV (fVar 0) (fAV (fC (.int 0)) (fAV (fVar 1) (fANil)))))))) (fNo) (fNext)
def b_check_symbol : FS := I_check_symbol_1
def m_check_symbol : List Sl → Option (Sl × List Sl) := runD P_check_symbol N_check_symbol.length b_check_symbol
theorem k_check_symbol (F : FunD x.K "check_symbol" "check_symbol" (defArgs (top 40)) (defBody (top 40)) (defScope (top 40)) [] [] f fd) (c_is_integer : Cal Pr w x.K mg base x "is_integer" 1 ["value", "lowest", "highest"] 3 m_is_integer []) : FnOk Pr w x.K mg base CX0 (1 + 1) f fd ["symbol", "highest"] (spD x (["symbol", "highest"] : List Str).length (runD P_check_symbol N_check_symbol.length b_check_symbol)) := by
  refine fn_d (Pr := Pr) (w := w) (mg := mg) (base := base) (κ := x) (N := N_check_symbol) (k := 1) (P := P_check_symbol) (b := b_check_symbol) F s_check_symbol (fun cdv A outer s H E hr => ?_)
  exact (bOne (sIf (dTnot (dTval (DR.toE (dCall ⟨fun _ => rfl, fun _ => rfl, fun _ => rfl, fun _ => rfl, fun _ => rfl, fun _ => hr, fun _ => rfl⟩ c_is_integer (by omega) (fun _ => rfl) (aV (dVar 0 (fun _ => rfl) (fun _ => locVis v_check_symbol_0)) (aV dInt (aV (dVar 1 (fun _ => rfl) (fun _ => locVis v_check_symbol_1)) aNil))))) (by intro _ _; rfl))) bNo bNil))
/-! ids_of -/
abbrev N_ids_of : List Str := ["distances", "found", "count", "position", "entry"]
theorem s_ids_of : FnScope N_ids_of ["distances"] (defScope (top 16)) := ⟨rfl, rfl, rfl, by decide +kernel, rfl, by decide +kernel, by decide +kernel⟩
theorem v_ids_of_0 : Loc (defScope (top 16)) "distances" := by first | exact .inl rfl | exact .inr rfl
theorem v_ids_of_1 : Loc (defScope (top 16)) "found" := by first | exact .inl rfl | exact .inr rfl
theorem v_ids_of_2 : Loc (defScope (top 16)) "count" := by first | exact .inl rfl | exact .inr rfl
theorem v_ids_of_3 : Loc (defScope (top 16)) "position" := by first | exact .inl rfl | exact .inr rfl
theorem v_ids_of_4 : Loc (defScope (top 16)) "entry" := by first | exact .inl rfl | exact .inr rfl
def P_ids_of : Prt := fun k => ([] : List Nat).contains k
@[simp] theorem p_ids_of (k : Nat) : P_ids_of k = ([] : List Nat).contains k := rfl
def I_ids_of_1 : FS := fIfS (fTst (fBin vEq (fOB 4) (fOV (fC (.int 0))))) (fSeq (fDrop (fMut 1 "list" mAppend (fCons (fVar 2) (fNil)))) (fAug 2 (fun i j => i + j) (fC (.int 1)))) (fDrop (fMut 1 "list" mAppend (fCons (fBin vIx (fOB 1) (fOV (fBin vSub (fOB 3) (fOB 4)))) (fNil))))
def L_ids_of_1 : FS := I_ids_of_1
def b_ids_of : FS := fSeq (fSetN 1 (fLst (fNil))) (fSeq (fSet 2 (fC (.int 0))) (fSeq (fFor (fEnum (fCons (fVar 0) (fNil))) (gT 2 (gsCons (gN 3) (gsCons (gN 4) (gsNil)))) (L_ids_of_1)) (fRet (fVar 1))))
def m_ids_of : List Sl → Option (Sl × List Sl) := runD P_ids_of N_ids_of.length b_ids_of
theorem k_ids_of (F : FunD x.K "ids_of" "ids_of" (defArgs (top 16)) (defBody (top 16)) (defScope (top 16)) [] [] f fd) (g_enumerate : mg "enumerate" = none) : FnOk Pr w x.K mg base CX0 (0 + 1) f fd ["distances"] (spD x (["distances"] : List Str).length (runD P_ids_of N_ids_of.length b_ids_of)) := by
  refine fn_d (Pr := Pr) (w := w) (mg := mg) (base := base) (κ := x) (N := N_ids_of) (k := 0) (P := P_ids_of) (b := b_ids_of) F s_ids_of (fun cdv A outer s H E hr => ?_)
  exact (bCons (sSetN 1 rfl (fun _ => s_ids_of.nd) (fun _ => rfl) (fun _ => v_ids_of_1) (dLst dNil))
    (bCons (sSet 2 rfl (fun _ => s_ids_of.nd) (fun _ => rfl) (fun _ => v_ids_of_2) dInt)
    (bCons (sFor (fun _ => PassesOwn.never) (fun _ => rfl) (iEnum_ (fun _ => rfl) (fun _ => rfl) (fun _ => g_enumerate) (dCons (dVar 0 (fun _ => rfl) (fun _ => locVis v_ids_of_0)) dNil)) (gTup_ (fun _ => rfl) (fun _ => rfl) (gsCons_ (gName_ 3 rfl (fun _ => s_ids_of.nd) (fun _ => rfl) (fun _ => v_ids_of_3)) (gsCons_ (gName_ 4 rfl (fun _ => s_ids_of.nd) (fun _ => rfl) (fun _ => v_ids_of_4)) gsNil_))) (bOne (sIf (dTcmp (fun _ => op_eqD hr.units) opd_eq (dOB 4 (fun _ => rfl) (fun _ => locVis v_ids_of_4)) (dOV dInt) rfl) (bCons (sExpr (dMut 1 (fun _ => rfl) PySem.F.plainAttrs_list PySem.F.slot_list_append PySem.F.type_list_append (fun _ => mt_append) mur_append (fun _ => rfl) (fun _ => locVis v_ids_of_1) (dCons (dVar 2 (fun _ => rfl) (fun _ => locVis v_ids_of_2)) dNil)))
    (bOne (sAug 2 (fun _ => ip_add) rfl (fun _ => s_ids_of.nd) (fun _ => rfl) (fun _ => v_ids_of_2) dInt))) (bOne (sExpr (dMut 1 (fun _ => rfl) PySem.F.plainAttrs_list PySem.F.slot_list_append PySem.F.type_list_append (fun _ => mt_append) mur_append (fun _ => rfl) (fun _ => locVis v_ids_of_1) (dCons (dIxU (fun _ => rfl) (fun _ => un1 hr) (dOB 1 (fun _ => rfl) (fun _ => locVis v_ids_of_1)) (dOV (dBin (fun _ => op_sub) opd_sub (dOB 3 (fun _ => rfl) (fun _ => locVis v_ids_of_3)) (dOB 4 (fun _ => rfl) (fun _ => locVis v_ids_of_4)))) (fun _ _ => rfl)) dNil)))))))
    (bOne (sRet (dVar 1 (fun _ => rfl) (fun _ => locVis v_ids_of_1)))))))
/-! distances_by -/
abbrev N_distances_by : List Str := ["symbols", "last", "found", "position", "symbol"]
theorem s_distances_by : FnScope N_distances_by ["symbols"] (defScope (top 17)) := ⟨rfl, rfl, rfl, by decide +kernel, rfl, by decide +kernel, by decide +kernel⟩
theorem v_distances_by_0 : Loc (defScope (top 17)) "symbols" := by first | exact .inl rfl | exact .inr rfl
theorem v_distances_by_1 : Loc (defScope (top 17)) "last" := by first | exact .inl rfl | exact .inr rfl
theorem v_distances_by_2 : Loc (defScope (top 17)) "found" := by first | exact .inl rfl | exact .inr rfl
theorem v_distances_by_3 : Loc (defScope (top 17)) "position" := by first | exact .inl rfl | exact .inr rfl
theorem v_distances_by_4 : Loc (defScope (top 17)) "symbol" := by first | exact .inl rfl | exact .inr rfl
def P_distances_by : Prt := fun k => ([] : List Nat).contains k
@[simp] theorem p_distances_by (k : Nat) : P_distances_by k = ([] : List Nat).contains k := rfl
def L_distances_by_1 : FS := fSeq (fDrop (fMut 2 "list" mAppend (fCons (fIf (fTst (fBin vIn (fOB 4) (fOB 1))) (fBin vSub (fOB 3) (fOV (fBin vIx (fOB 1) (fOB 4)))) (fC (.int 0))) (fNil)))) (fSetI 1 (fVar 4) (fVar 3))
def b_distances_by : FS := fSeq (fSetN 1 (fDnew)) (fSeq (fSetN 2 (fLst (fNil))) (fSeq (fFor (fEnum (fCons (fVar 0) (fNil))) (gT 2 (gsCons (gN 3) (gsCons (gN 4) (gsNil)))) (L_distances_by_1)) (fRet (fVar 2))))
def m_distances_by : List Sl → Option (Sl × List Sl) := runD P_distances_by N_distances_by.length b_distances_by
theorem k_distances_by (F : FunD x.K "distances_by" "distances_by" (defArgs (top 17)) (defBody (top 17)) (defScope (top 17)) [] [] f fd) (g_enumerate : mg "enumerate" = none) : FnOk Pr w x.K mg base CX0 (0 + 1) f fd ["symbols"] (spD x (["symbols"] : List Str).length (runD P_distances_by N_distances_by.length b_distances_by)) := by
  refine fn_d (Pr := Pr) (w := w) (mg := mg) (base := base) (κ := x) (N := N_distances_by) (k := 0) (P := P_distances_by) (b := b_distances_by) F s_distances_by (fun cdv A outer s H E hr => ?_)
  exact (bCons (sSetN 1 rfl (fun _ => s_distances_by.nd) (fun _ => rfl) (fun _ => v_distances_by_1) dDnew)
    (bCons (sSetN 2 rfl (fun _ => s_distances_by.nd) (fun _ => rfl) (fun _ => v_distances_by_2) (dLst dNil))
    (bCons (sFor (fun _ => PassesOwn.never) (fun _ => rfl) (iEnum_ (fun _ => rfl) (fun _ => rfl) (fun _ => g_enumerate) (dCons (dVar 0 (fun _ => rfl) (fun _ => locVis v_distances_by_0)) dNil)) (gTup_ (fun _ => rfl) (fun _ => rfl) (gsCons_ (gName_ 3 rfl (fun _ => s_distances_by.nd) (fun _ => rfl) (fun _ => v_distances_by_3)) (gsCons_ (gName_ 4 rfl (fun _ => s_distances_by.nd) (fun _ => rfl) (fun _ => v_distances_by_4)) gsNil_))) (bCons (sExpr (dMut 2 (fun _ => rfl) PySem.F.plainAttrs_list PySem.F.slot_list_append PySem.F.type_list_append (fun _ => mt_append) mur_append (fun _ => rfl) (fun _ => locVis v_distances_by_2) (dCons (dIf (dTcmp (fun _ => opr_in (un1 hr)) opd_in (dOB 4 (fun _ => rfl) (fun _ => locVis v_distances_by_4)) (dOB 1 (fun _ => rfl) (fun _ => locVis v_distances_by_1)) rfl) (dBin (fun _ => op_sub) opd_sub (dOB 3 (fun _ => rfl) (fun _ => locVis v_distances_by_3)) (dOV (dIxU (fun _ => rfl) (fun _ => un1 hr) (dOB 1 (fun _ => rfl) (fun _ => locVis v_distances_by_1)) (dOB 4 (fun _ => rfl) (fun _ => locVis v_distances_by_4)) (fun _ _ => rfl)))) dInt) dNil)))
    (bOne (sSetI 1 (fun _ => un1 hr) (fun _ => rfl) (fun _ => locVis v_distances_by_1) (dVar 4 (fun _ => rfl) (fun _ => locVis v_distances_by_4)) (dVar 3 (fun _ => rfl) (fun _ => locVis v_distances_by_3))))))
    (bOne (sRet (dVar 2 (fun _ => rfl) (fun _ => locVis v_distances_by_2)))))))
/-! symbol_count -/
abbrev N_symbol_count : List Str := ["distances", "entry"]
theorem s_symbol_count : FnScope N_symbol_count ["distances"] (defScope (top 18)) := ⟨rfl, rfl, rfl, by decide +kernel, rfl, by decide +kernel, by decide +kernel⟩
theorem v_symbol_count_0 : Loc (defScope (top 18)) "distances" := by first | exact .inl rfl | exact .inr rfl
def P_symbol_count : Prt := fun k => ([] : List Nat).contains k
@[simp] theorem p_symbol_count (k : Nat) : P_symbol_count k = ([] : List Nat).contains k := rfl
def T_symbol_count_1 : FT := fTst (fBin vEq (fOB 1) (fOV (fC (.int 0))))
def E_symbol_count_1 : FE := fVar 1
def b_symbol_count : FS := fRet (fUn vLen (fOV (fLc [1] (fIt (fVar 0)) (gN 1) (T_symbol_count_1) (E_symbol_count_1))))
def m_symbol_count : List Sl → Option (Sl × List Sl) := runD P_symbol_count N_symbol_count.length b_symbol_count
theorem k_symbol_count (F : FunD x.K "symbol_count" "symbol_count" (defArgs (top 18)) (defBody (top 18)) (defScope (top 18)) [] [] f fd) (g_len : mg "len" = none) : FnOk Pr w x.K mg base CX0 (0 + 1) f fd ["distances"] (spD x (["distances"] : List Str).length (runD P_symbol_count N_symbol_count.length b_symbol_count)) := by
  refine fn_d (Pr := Pr) (w := w) (mg := mg) (base := base) (κ := x) (N := N_symbol_count) (k := 0) (P := P_symbol_count) (b := b_symbol_count) F s_symbol_count (fun cdv A outer s H E hr => ?_)
  exact (bOne (sRet (dB1 (fun _ => cr_len) und_len (fun _ => rfl) (fun _ => g_len) boot_len (dOV (dNE (dLc (own := [("entry", 1)]) (fun _ => rfl) (fun _ => s_symbol_count.nd) (iSeq_ (fun _ => rfl) (dVar 0 (fun _ => rfl) (fun _ => locVis v_symbol_count_0))) (fun _ => show BlkOk N_symbol_count (defScope (top 18)) _ [("entry", 1)] from ⟨rfl, by decide +kernel, by decide +kernel, by decide +kernel, by decide +kernel⟩) (gName_ 1 rfl (fun _ => s_symbol_count.nd) (fun _ => rfl) (fun _ => by first | exact .inl rfl | exact .inr rfl) (hf := (fun _ => by first | exact .inl rfl | exact .inr rfl))) (tsOne (dTcmp (fun _ => op_eqD hr.units) opd_eq (dOB 1 (fun _ => rfl) (fun _ => by first | exact .inl rfl | exact .inr (.inl rfl) | exact .inr (.inr rfl))) (dOV dInt) rfl)) (dVar 1 (fun _ => rfl) (fun _ => by first | exact .inl rfl | exact .inr (.inl rfl) | exact .inr (.inr rfl)))))))))
/-! replace_at -/
abbrev N_replace_at : List Str := ["distances", "position", "symbol", "own", "ids"]
theorem s_replace_at : FnScope N_replace_at ["distances", "position", "symbol"] (defScope (top 43)) := ⟨rfl, rfl, rfl, by decide +kernel, rfl, by decide +kernel, by decide +kernel⟩
theorem v_replace_at_0 : Loc (defScope (top 43)) "distances" := by first | exact .inl rfl | exact .inr rfl
theorem v_replace_at_1 : Loc (defScope (top 43)) "position" := by first | exact .inl rfl | exact .inr rfl
theorem v_replace_at_2 : Loc (defScope (top 43)) "symbol" := by first | exact .inl rfl | exact .inr rfl
theorem v_replace_at_3 : Loc (defScope (top 43)) "own" := by first | exact .inl rfl | exact .inr rfl
theorem v_replace_at_4 : Loc (defScope (top 43)) "ids" := by first | exact .inl rfl | exact .inr rfl
def P_replace_at : Prt := fun k => ([] : List Nat).contains k
@[simp] theorem p_replace_at (k : Nat) : P_replace_at k = ([] : List Nat).contains k := rfl
def b_replace_at : FS := fSeq (fSet 3 (slE (fCall 1 m_checked_distances [] (fAV (fVar 0) (fANil))))) (fSeq (fDrop (slE (fCall 2 m_check_position [] (fAV (fVar 1) (fAV (fBin vSub (fOV (fUn vLen (fOB 3))) (fOV (fC (.int 1)))) (fANil)))))) (fSeq (fDrop (slE (fCall 2 m_check_symbol [] (fAV (fVar 2) (fAV (slE (fCall 1 m_symbol_count [] (fAV (fVar 3) (fANil)))) (fANil)))))) (fSeq (fSet 4 (slE (fCall 1 m_ids_of [] (fAV (fVar 3) (fANil))))) (fRet (slE (fCall 1 m_distances_by [] (fAV (fBin vAdd (fOV (fBin vAdd (fOV (fSl (fOB 4) (fPN) (fPS (fVar 1)))) (fOV (fLst (fCons (fVar 2) (fNil)))))) (fOV (fSl (fOB 4) (fPS (fBin vAdd (fOB 1) (fOV (fC (.int 1))))) (fPN)))) (fANil))))))))
def m_replace_at : List Sl → Option (Sl × List Sl) := runD P_replace_at N_replace_at.length b_replace_at
theorem k_replace_at (F : FunD x.K "replace_at" "replace_at" (defArgs (top 43)) (defBody (top 43)) (defScope (top 43)) [] [] f fd) (c_checked_distances : Cal Pr w x.K mg base x "checked_distances" 3 ["distances"] 1 m_checked_distances []) (c_check_position : Cal Pr w x.K mg base x "check_position" 2 ["position", "highest"] 2 m_check_position []) (g_len : mg "len" = none) (c_check_symbol : Cal Pr w x.K mg base x "check_symbol" 2 ["symbol", "highest"] 2 m_check_symbol []) (c_symbol_count : Cal Pr w x.K mg base x "symbol_count" 1 ["distances"] 1 m_symbol_count []) (c_ids_of : Cal Pr w x.K mg base x "ids_of" 1 ["distances"] 1 m_ids_of []) (c_distances_by : Cal Pr w x.K mg base x "distances_by" 1 ["symbols"] 1 m_distances_by []) : FnOk Pr w x.K mg base CX0 (3 + 1) f fd ["distances", "position", "symbol"] (spD x (["distances", "position", "symbol"] : List Str).length (runD P_replace_at N_replace_at.length b_replace_at)) := by
  refine fn_d (Pr := Pr) (w := w) (mg := mg) (base := base) (κ := x) (N := N_replace_at) (k := 3) (P := P_replace_at) (b := b_replace_at) F s_replace_at (fun cdv A outer s H E hr => ?_)
  exact (bCons (sSet 3 rfl (fun _ => s_replace_at.nd) (fun _ => rfl) (fun _ => v_replace_at_3) (DR.toE (dCall ⟨fun _ => rfl, fun _ => rfl, fun _ => rfl, fun _ => rfl, fun _ => rfl, fun _ => hr, fun _ => rfl⟩ c_checked_distances (by omega) (fun _ => rfl) (aV (dVar 0 (fun _ => rfl) (fun _ => locVis v_replace_at_0)) aNil))))
    (bCons (sExpr (DR.toE (dCall ⟨fun _ => rfl, fun _ => rfl, fun _ => rfl, fun _ => rfl, fun _ => rfl, fun _ => hr, fun _ => rfl⟩ c_check_position (by omega) (fun _ => rfl) (aV (dVar 1 (fun _ => rfl) (fun _ => locVis v_replace_at_1)) (aV (dBin (fun _ => op_sub) opd_sub (dOV (dB1 (fun _ => cr_len) und_len (fun _ => rfl) (fun _ => g_len) boot_len (dOB 3 (fun _ => rfl) (fun _ => locVis v_replace_at_3)))) (dOV dInt)) aNil)))))
    (bCons (sExpr (DR.toE (dCall ⟨fun _ => rfl, fun _ => rfl, fun _ => rfl, fun _ => rfl, fun _ => rfl, fun _ => hr, fun _ => rfl⟩ c_check_symbol (by omega) (fun _ => rfl) (aV (dVar 2 (fun _ => rfl) (fun _ => locVis v_replace_at_2)) (aV (DR.toE (dCall ⟨fun _ => rfl, fun _ => rfl, fun _ => rfl, fun _ => rfl, fun _ => rfl, fun _ => hr, fun _ => rfl⟩ c_symbol_count (by omega) (fun _ => rfl) (aV (dVar 3 (fun _ => rfl) (fun _ => locVis v_replace_at_3)) aNil))) aNil)))))
    (bCons (sSet 4 rfl (fun _ => s_replace_at.nd) (fun _ => rfl) (fun _ => v_replace_at_4) (DR.toE (dCall ⟨fun _ => rfl, fun _ => rfl, fun _ => rfl, fun _ => rfl, fun _ => rfl, fun _ => hr, fun _ => rfl⟩ c_ids_of (by omega) (fun _ => rfl) (aV (dVar 3 (fun _ => rfl) (fun _ => locVis v_replace_at_3)) aNil))))
    (bOne (sRet (DR.toE (dCall ⟨fun _ => rfl, fun _ => rfl, fun _ => rfl, fun _ => rfl, fun _ => rfl, fun _ => hr, fun _ => rfl⟩ c_distances_by (by omega) (fun _ => rfl) (aV (dBin (fun _ => opr_add) opd_add (dOV (dBin (fun _ => opr_add) opd_add (dOV (dNE (dSlN (fun _ => rfl) (dOB 4 (fun _ => rfl) (fun _ => locVis v_replace_at_4)) dPN (dPS (dVar 1 (fun _ => rfl) (fun _ => locVis v_replace_at_1)))))) (dOV (dNE (dLst (dCons (dVar 2 (fun _ => rfl) (fun _ => locVis v_replace_at_2)) dNil)))))) (dOV (dNE (dSlN (fun _ => rfl) (dOB 4 (fun _ => rfl) (fun _ => locVis v_replace_at_4)) (dPS (dBin (fun _ => opr_add) opd_add (dOB 1 (fun _ => rfl) (fun _ => locVis v_replace_at_1)) (dOV dInt))) dPN)))) aNil)))))))))
/-! split_symbol -/
abbrev N_split_symbol : List Str := ["distances", "position", "own", "ids", "fresh", "symbol"]
theorem s_split_symbol : FnScope N_split_symbol ["distances", "position"] (defScope (top 45)) := ⟨rfl, rfl, rfl, by decide +kernel, rfl, by decide +kernel, by decide +kernel⟩
theorem v_split_symbol_0 : Loc (defScope (top 45)) "distances" := by first | exact .inl rfl | exact .inr rfl
theorem v_split_symbol_1 : Loc (defScope (top 45)) "position" := by first | exact .inl rfl | exact .inr rfl
theorem v_split_symbol_2 : Loc (defScope (top 45)) "own" := by first | exact .inl rfl | exact .inr rfl
theorem v_split_symbol_3 : Loc (defScope (top 45)) "ids" := by first | exact .inl rfl | exact .inr rfl
theorem v_split_symbol_4 : Loc (defScope (top 45)) "fresh" := by first | exact .inl rfl | exact .inr rfl
def P_split_symbol : Prt := fun k => ([] : List Nat).contains k
@[simp] theorem p_split_symbol (k : Nat) : P_split_symbol k = ([] : List Nat).contains k := rfl
def T_split_symbol_1 : FT := fYes
def E_split_symbol_1 : FE := fIf (fTst (fBin vEq (fOB 5) (fOV (fBin vIx (fOB 3) (fOB 1))))) (fVar 4) (fVar 5)
def b_split_symbol : FS := fSeq (fSet 2 (slE (fCall 1 m_checked_distances [] (fAV (fVar 0) (fANil))))) (fSeq (fDrop (slE (fCall 2 m_check_position [] (fAV (fVar 1) (fAV (fBin vSub (fOV (fUn vLen (fOB 2))) (fOV (fC (.int 1)))) (fANil)))))) (fSeq (fSet 3 (slE (fCall 1 m_ids_of [] (fAV (fVar 2) (fANil))))) (fSeq (fSet 4 (slE (fCall 1 m_symbol_count [] (fAV (fVar 2) (fANil))))) (fRet (slE (fCall 1 m_distances_by [] (fAV (fBin vAdd (fOV (fSl (fOB 3) (fPN) (fPS (fVar 1)))) (fOV (fLc [5] (fIt (fSl (fOB 3) (fPS (fVar 1)) (fPN))) (gN 5) (T_split_symbol_1) (E_split_symbol_1)))) (fANil))))))))
def m_split_symbol : List Sl → Option (Sl × List Sl) := runD P_split_symbol N_split_symbol.length b_split_symbol
theorem k_split_symbol (F : FunD x.K "split_symbol" "split_symbol" (defArgs (top 45)) (defBody (top 45)) (defScope (top 45)) [] [] f fd) (c_checked_distances : Cal Pr w x.K mg base x "checked_distances" 3 ["distances"] 1 m_checked_distances []) (c_check_position : Cal Pr w x.K mg base x "check_position" 2 ["position", "highest"] 2 m_check_position []) (g_len : mg "len" = none) (c_ids_of : Cal Pr w x.K mg base x "ids_of" 1 ["distances"] 1 m_ids_of []) (c_symbol_count : Cal Pr w x.K mg base x "symbol_count" 1 ["distances"] 1 m_symbol_count []) (c_distances_by : Cal Pr w x.K mg base x "distances_by" 1 ["symbols"] 1 m_distances_by []) : FnOk Pr w x.K mg base CX0 (3 + 1) f fd ["distances", "position"] (spD x (["distances", "position"] : List Str).length (runD P_split_symbol N_split_symbol.length b_split_symbol)) := by
  refine fn_d (Pr := Pr) (w := w) (mg := mg) (base := base) (κ := x) (N := N_split_symbol) (k := 3) (P := P_split_symbol) (b := b_split_symbol) F s_split_symbol (fun cdv A outer s H E hr => ?_)
  exact (bCons (sSet 2 rfl (fun _ => s_split_symbol.nd) (fun _ => rfl) (fun _ => v_split_symbol_2) (DR.toE (dCall ⟨fun _ => rfl, fun _ => rfl, fun _ => rfl, fun _ => rfl, fun _ => rfl, fun _ => hr, fun _ => rfl⟩ c_checked_distances (by omega) (fun _ => rfl) (aV (dVar 0 (fun _ => rfl) (fun _ => locVis v_split_symbol_0)) aNil))))
    (bCons (sExpr (DR.toE (dCall ⟨fun _ => rfl, fun _ => rfl, fun _ => rfl, fun _ => rfl, fun _ => rfl, fun _ => hr, fun _ => rfl⟩ c_check_position (by omega) (fun _ => rfl) (aV (dVar 1 (fun _ => rfl) (fun _ => locVis v_split_symbol_1)) (aV (dBin (fun _ => op_sub) opd_sub (dOV (dB1 (fun _ => cr_len) und_len (fun _ => rfl) (fun _ => g_len) boot_len (dOB 2 (fun _ => rfl) (fun _ => locVis v_split_symbol_2)))) (dOV dInt)) aNil)))))
    (bCons (sSet 3 rfl (fun _ => s_split_symbol.nd) (fun _ => rfl) (fun _ => v_split_symbol_3) (DR.toE (dCall ⟨fun _ => rfl, fun _ => rfl, fun _ => rfl, fun _ => rfl, fun _ => rfl, fun _ => hr, fun _ => rfl⟩ c_ids_of (by omega) (fun _ => rfl) (aV (dVar 2 (fun _ => rfl) (fun _ => locVis v_split_symbol_2)) aNil))))
    (bCons (sSet 4 rfl (fun _ => s_split_symbol.nd) (fun _ => rfl) (fun _ => v_split_symbol_4) (DR.toE (dCall ⟨fun _ => rfl, fun _ => rfl, fun _ => rfl, fun _ => rfl, fun _ => rfl, fun _ => hr, fun _ => rfl⟩ c_symbol_count (by omega) (fun _ => rfl) (aV (dVar 2 (fun _ => rfl) (fun _ => locVis v_split_symbol_2)) aNil))))
    (bOne (sRet (DR.toE (dCall ⟨fun _ => rfl, fun _ => rfl, fun _ => rfl, fun _ => rfl, fun _ => rfl, fun _ => hr, fun _ => rfl⟩ c_distances_by (by omega) (fun _ => rfl) (aV (dBin (fun _ => opr_add) opd_add (dOV (dNE (dSlN (fun _ => rfl) (dOB 3 (fun _ => rfl) (fun _ => locVis v_split_symbol_3)) dPN (dPS (dVar 1 (fun _ => rfl) (fun _ => locVis v_split_symbol_1)))))) (dOV (dNE (dLc (own := [("symbol", 5)]) (fun _ => rfl) (fun _ => s_split_symbol.nd) (iSeq_ (fun _ => rfl) (dNE (dSlN (fun _ => rfl) (dOB 3 (fun _ => rfl) (fun _ => locVis v_split_symbol_3)) (dPS (dVar 1 (fun _ => rfl) (fun _ => locVis v_split_symbol_1))) dPN))) (fun _ => show BlkOk N_split_symbol (defScope (top 45)) _ [("symbol", 5)] from ⟨rfl, by decide +kernel, by decide +kernel, by decide +kernel, by decide +kernel⟩) (gName_ 5 rfl (fun _ => s_split_symbol.nd) (fun _ => rfl) (fun _ => by first | exact .inl rfl | exact .inr rfl) (hf := (fun _ => by first | exact .inl rfl | exact .inr rfl))) tsNil (dIf (dTcmp (fun _ => op_eqD hr.units) opd_eq (dOB 5 (fun _ => rfl) (fun _ => by first | exact .inl rfl | exact .inr (.inl rfl) | exact .inr (.inr rfl))) (dOV (dIxU (fun _ => rfl) (fun _ => un1 hr) (dOB 3 (fun _ => rfl) (fun _ => by first | exact .inl rfl | exact .inr (.inl rfl) | exact .inr (.inr rfl))) (dOB 1 (fun _ => rfl) (fun _ => by first | exact .inl rfl | exact .inr (.inl rfl) | exact .inr (.inr rfl))) (fun _ _ => rfl))) rfl) (dVar 4 (fun _ => rfl) (fun _ => by first | exact .inl rfl | exact .inr (.inl rfl) | exact .inr (.inr rfl))) (dVar 5 (fun _ => rfl) (fun _ => by first | exact .inl rfl | exact .inr (.inl rfl) | exact .inr (.inr rfl)))))))) aNil)))))))))
/-! symbol_ids -/
abbrev N_symbol_ids : List Str := ["distances"]
theorem s_symbol_ids : FnScope N_symbol_ids ["distances"] (defScope (top 19)) := ⟨rfl, rfl, rfl, by decide +kernel, rfl, by decide +kernel, by decide +kernel⟩
theorem v_symbol_ids_0 : Loc (defScope (top 19)) "distances" := by first | exact .inl rfl | exact .inr rfl
def P_symbol_ids : Prt := fun k => ([] : List Nat).contains k
@[simp] theorem p_symbol_ids (k : Nat) : P_symbol_ids k = ([] : List Nat).contains k := rfl
def b_symbol_ids : FS := fRet (slE (fCall 1 m_ids_of [] (fAV (slE (fCall 1 m_checked_distances [] (fAV (fVar 0) (fANil)))) (fANil))))
def m_symbol_ids : List Sl → Option (Sl × List Sl) := runD P_symbol_ids N_symbol_ids.length b_symbol_ids
theorem k_symbol_ids (F : FunD x.K "symbol_ids" "symbol_ids" (defArgs (top 19)) (defBody (top 19)) (defScope (top 19)) [] [] f fd) (c_ids_of : Cal Pr w x.K mg base x "ids_of" 1 ["distances"] 1 m_ids_of []) (c_checked_distances : Cal Pr w x.K mg base x "checked_distances" 3 ["distances"] 1 m_checked_distances []) : FnOk Pr w x.K mg base CX0 (3 + 1) f fd ["distances"] (spD x (["distances"] : List Str).length (runD P_symbol_ids N_symbol_ids.length b_symbol_ids)) := by
  refine fn_d (Pr := Pr) (w := w) (mg := mg) (base := base) (κ := x) (N := N_symbol_ids) (k := 3) (P := P_symbol_ids) (b := b_symbol_ids) F s_symbol_ids (fun cdv A outer s H E hr => ?_)
  exact (bOne (sRet (DR.toE (dCall ⟨fun _ => rfl, fun _ => rfl, fun _ => rfl, fun _ => rfl, fun _ => rfl, fun _ => hr, fun _ => rfl⟩ c_ids_of (by omega) (fun _ => rfl) (aV (DR.toE (dCall ⟨fun _ => rfl, fun _ => rfl, fun _ => rfl, fun _ => rfl, fun _ => rfl, fun _ => hr, fun _ => rfl⟩ c_checked_distances (by omega) (fun _ => rfl) (aV (dVar 0 (fun _ => rfl) (fun _ => locVis v_symbol_ids_0)) aNil))) aNil)))))
/-! delete_at -/
abbrev N_delete_at : List Str := ["distances", "position", "own", "ids"]
theorem s_delete_at : FnScope N_delete_at ["distances", "position"] (defScope (top 42)) := ⟨rfl, rfl, rfl, by decide +kernel, rfl, by decide +kernel, by decide +kernel⟩
theorem v_delete_at_0 : Loc (defScope (top 42)) "distances" := by first | exact .inl rfl | exact .inr rfl
theorem v_delete_at_1 : Loc (defScope (top 42)) "position" := by first | exact .inl rfl | exact .inr rfl
theorem v_delete_at_2 : Loc (defScope (top 42)) "own" := by first | exact .inl rfl | exact .inr rfl
theorem v_delete_at_3 : Loc (defScope (top 42)) "ids" := by first | exact .inl rfl | exact .inr rfl
def P_delete_at : Prt := fun k => ([] : List Nat).contains k
@[simp] theorem p_delete_at (k : Nat) : P_delete_at k = ([] : List Nat).contains k := rfl
def b_delete_at : FS := fSeq (fSet 2 (slE (fCall 1 m_checked_distances [] (fAV (fVar 0) (fANil))))) (fSeq (fDrop (slE (fCall 2 m_check_position [] (fAV (fVar 1) (fAV (fBin vSub (fOV (fUn vLen (fOB 2))) (fOV (fC (.int 1)))) (fANil)))))) (fSeq (fSet 3 (slE (fCall 1 m_ids_of [] (fAV (fVar 2) (fANil))))) (fRet (slE (fCall 1 m_distances_by [] (fAV (fBin vAdd (fOV (fSl (fOB 3) (fPN) (fPS (fVar 1)))) (fOV (fSl (fOB 3) (fPS (fBin vAdd (fOB 1) (fOV (fC (.int 1))))) (fPN)))) (fANil)))))))
def m_delete_at : List Sl → Option (Sl × List Sl) := runD P_delete_at N_delete_at.length b_delete_at
theorem k_delete_at (F : FunD x.K "delete_at" "delete_at" (defArgs (top 42)) (defBody (top 42)) (defScope (top 42)) [] [] f fd) (c_checked_distances : Cal Pr w x.K mg base x "checked_distances" 3 ["distances"] 1 m_checked_distances []) (c_check_position : Cal Pr w x.K mg base x "check_position" 2 ["position", "highest"] 2 m_check_position []) (g_len : mg "len" = none) (c_ids_of : Cal Pr w x.K mg base x "ids_of" 1 ["distances"] 1 m_ids_of []) (c_distances_by : Cal Pr w x.K mg base x "distances_by" 1 ["symbols"] 1 m_distances_by []) : FnOk Pr w x.K mg base CX0 (3 + 1) f fd ["distances", "position"] (spD x (["distances", "position"] : List Str).length (runD P_delete_at N_delete_at.length b_delete_at)) := by
  refine fn_d (Pr := Pr) (w := w) (mg := mg) (base := base) (κ := x) (N := N_delete_at) (k := 3) (P := P_delete_at) (b := b_delete_at) F s_delete_at (fun cdv A outer s H E hr => ?_)
  exact (bCons (sSet 2 rfl (fun _ => s_delete_at.nd) (fun _ => rfl) (fun _ => v_delete_at_2) (DR.toE (dCall ⟨fun _ => rfl, fun _ => rfl, fun _ => rfl, fun _ => rfl, fun _ => rfl, fun _ => hr, fun _ => rfl⟩ c_checked_distances (by omega) (fun _ => rfl) (aV (dVar 0 (fun _ => rfl) (fun _ => locVis v_delete_at_0)) aNil))))
    (bCons (sExpr (DR.toE (dCall ⟨fun _ => rfl, fun _ => rfl, fun _ => rfl, fun _ => rfl, fun _ => rfl, fun _ => hr, fun _ => rfl⟩ c_check_position (by omega) (fun _ => rfl) (aV (dVar 1 (fun _ => rfl) (fun _ => locVis v_delete_at_1)) (aV (dBin (fun _ => op_sub) opd_sub (dOV (dB1 (fun _ => cr_len) und_len (fun _ => rfl) (fun _ => g_len) boot_len (dOB 2 (fun _ => rfl) (fun _ => locVis v_delete_at_2)))) (dOV dInt)) aNil)))))
    (bCons (sSet 3 rfl (fun _ => s_delete_at.nd) (fun _ => rfl) (fun _ => v_delete_at_3) (DR.toE (dCall ⟨fun _ => rfl, fun _ => rfl, fun _ => rfl, fun _ => rfl, fun _ => rfl, fun _ => hr, fun _ => rfl⟩ c_ids_of (by omega) (fun _ => rfl) (aV (dVar 2 (fun _ => rfl) (fun _ => locVis v_delete_at_2)) aNil))))
    (bOne (sRet (DR.toE (dCall ⟨fun _ => rfl, fun _ => rfl, fun _ => rfl, fun _ => rfl, fun _ => rfl, fun _ => hr, fun _ => rfl⟩ c_distances_by (by omega) (fun _ => rfl) (aV (dBin (fun _ => opr_add) opd_add (dOV (dNE (dSlN (fun _ => rfl) (dOB 3 (fun _ => rfl) (fun _ => locVis v_delete_at_3)) dPN (dPS (dVar 1 (fun _ => rfl) (fun _ => locVis v_delete_at_1)))))) (dOV (dNE (dSlN (fun _ => rfl) (dOB 3 (fun _ => rfl) (fun _ => locVis v_delete_at_3)) (dPS (dBin (fun _ => opr_add) opd_add (dOB 1 (fun _ => rfl) (fun _ => locVis v_delete_at_1)) (dOV dInt))) dPN)))) aNil))))))))
/-! merge_symbols -/
abbrev N_merge_symbols : List Str := ["distances", "one", "other", "own", "symbol"]
theorem s_merge_symbols : FnScope N_merge_symbols ["distances", "one", "other"] (defScope (top 44)) := ⟨rfl, rfl, rfl, by decide +kernel, rfl, by decide +kernel, by decide +kernel⟩
theorem v_merge_symbols_0 : Loc (defScope (top 44)) "distances" := by first | exact .inl rfl | exact .inr rfl
theorem v_merge_symbols_1 : Loc (defScope (top 44)) "one" := by first | exact .inl rfl | exact .inr rfl
theorem v_merge_symbols_2 : Loc (defScope (top 44)) "other" := by first | exact .inl rfl | exact .inr rfl
theorem v_merge_symbols_3 : Loc (defScope (top 44)) "own" := by first | exact .inl rfl | exact .inr rfl
theorem v_merge_symbols_4 : Loc (defScope (top 44)) "symbol" := by first | exact .inl rfl | exact .inr rfl
def P_merge_symbols : Prt := fun k => ([] : List Nat).contains k
@[simp] theorem p_merge_symbols (k : Nat) : P_merge_symbols k = ([] : List Nat).contains k := rfl
def L_merge_symbols_1 : FS := fDrop (slE (fCall 2 m_check_symbol [] (fAV (fVar 4) (fAV (fBin vSub (fOV (slE (fCall 1 m_symbol_count [] (fAV (fVar 3) (fANil))))) (fOV (fC (.int 1)))) (fANil)))))
def T_merge_symbols_1 : FT := fYes
def E_merge_symbols_1 : FE := fIf (fTst (fBin vEq (fOB 4) (fOB 2))) (fVar 1) (fVar 4)
def b_merge_symbols : FS := fSeq (fSet 3 (slE (fCall 1 m_checked_distances [] (fAV (fVar 0) (fANil))))) (fSeq (fFor (fIt (fTup (fCons (fVar 1) (fCons (fVar 2) (fNil))))) (gN 4) (L_merge_symbols_1)) (fRet (slE (fCall 1 m_distances_by [] (fAV (fLc [4] (fIt (slE (fCall 1 m_ids_of [] (fAV (fVar 3) (fANil))))) (gN 4) (T_merge_symbols_1) (E_merge_symbols_1)) (fANil))))))
def m_merge_symbols : List Sl → Option (Sl × List Sl) := runD P_merge_symbols N_merge_symbols.length b_merge_symbols
theorem k_merge_symbols (F : FunD x.K "merge_symbols" "merge_symbols" (defArgs (top 44)) (defBody (top 44)) (defScope (top 44)) [] [] f fd) (c_checked_distances : Cal Pr w x.K mg base x "checked_distances" 3 ["distances"] 1 m_checked_distances []) (c_check_symbol : Cal Pr w x.K mg base x "check_symbol" 2 ["symbol", "highest"] 2 m_check_symbol []) (c_symbol_count : Cal Pr w x.K mg base x "symbol_count" 1 ["distances"] 1 m_symbol_count []) (c_distances_by : Cal Pr w x.K mg base x "distances_by" 1 ["symbols"] 1 m_distances_by []) (c_ids_of : Cal Pr w x.K mg base x "ids_of" 1 ["distances"] 1 m_ids_of []) : FnOk Pr w x.K mg base CX0 (3 + 1) f fd ["distances", "one", "other"] (spD x (["distances", "one", "other"] : List Str).length (runD P_merge_symbols N_merge_symbols.length b_merge_symbols)) := by
  refine fn_d (Pr := Pr) (w := w) (mg := mg) (base := base) (κ := x) (N := N_merge_symbols) (k := 3) (P := P_merge_symbols) (b := b_merge_symbols) F s_merge_symbols (fun cdv A outer s H E hr => ?_)
  exact (bCons (sSet 3 rfl (fun _ => s_merge_symbols.nd) (fun _ => rfl) (fun _ => v_merge_symbols_3) (DR.toE (dCall ⟨fun _ => rfl, fun _ => rfl, fun _ => rfl, fun _ => rfl, fun _ => rfl, fun _ => hr, fun _ => rfl⟩ c_checked_distances (by omega) (fun _ => rfl) (aV (dVar 0 (fun _ => rfl) (fun _ => locVis v_merge_symbols_0)) aNil))))
    (bCons (sFor (fun _ => PassesOwn.never) (fun _ => rfl) (iSeq_ (fun _ => rfl) (dTup (dCons (dVar 1 (fun _ => rfl) (fun _ => locVis v_merge_symbols_1)) (dCons (dVar 2 (fun _ => rfl) (fun _ => locVis v_merge_symbols_2)) dNil)))) (gName_ 4 rfl (fun _ => s_merge_symbols.nd) (fun _ => rfl) (fun _ => v_merge_symbols_4)) (bOne (sExpr (DR.toE (dCall ⟨fun _ => rfl, fun _ => rfl, fun _ => rfl, fun _ => rfl, fun _ => rfl, fun _ => hr, fun _ => rfl⟩ c_check_symbol (by omega) (fun _ => rfl) (aV (dVar 4 (fun _ => rfl) (fun _ => locVis v_merge_symbols_4)) (aV (dBin (fun _ => op_sub) opd_sub (dOV (DR.toE (dCall ⟨fun _ => rfl, fun _ => rfl, fun _ => rfl, fun _ => rfl, fun _ => rfl, fun _ => hr, fun _ => rfl⟩ c_symbol_count (by omega) (fun _ => rfl) (aV (dVar 3 (fun _ => rfl) (fun _ => locVis v_merge_symbols_3)) aNil)))) (dOV dInt)) aNil)))))))
    (bOne (sRet (DR.toE (dCall ⟨fun _ => rfl, fun _ => rfl, fun _ => rfl, fun _ => rfl, fun _ => rfl, fun _ => hr, fun _ => rfl⟩ c_distances_by (by omega) (fun _ => rfl) (aV (dNE (dLc (own := [("symbol", 4)]) (fun _ => rfl) (fun _ => s_merge_symbols.nd) (iSeq_ (fun _ => rfl) (DR.toE (dCall ⟨fun _ => rfl, fun _ => rfl, fun _ => rfl, fun _ => rfl, fun _ => rfl, fun _ => hr, fun _ => rfl⟩ c_ids_of (by omega) (fun _ => rfl) (aV (dVar 3 (fun _ => rfl) (fun _ => locVis v_merge_symbols_3)) aNil)))) (fun _ => show BlkOk N_merge_symbols (defScope (top 44)) _ [("symbol", 4)] from ⟨rfl, by decide +kernel, by decide +kernel, by decide +kernel, by decide +kernel⟩) (gName_ 4 rfl (fun _ => s_merge_symbols.nd) (fun _ => rfl) (fun _ => by first | exact .inl rfl | exact .inr rfl) (hf := (fun _ => by first | exact .inl rfl | exact .inr rfl))) tsNil (dIf (dTcmp (fun _ => op_eqD hr.units) opd_eq (dOB 4 (fun _ => rfl) (fun _ => by first | exact .inl rfl | exact .inr (.inl rfl) | exact .inr (.inr rfl))) (dOB 2 (fun _ => rfl) (fun _ => by first | exact .inl rfl | exact .inr (.inl rfl) | exact .inr (.inr rfl))) rfl) (dVar 1 (fun _ => rfl) (fun _ => by first | exact .inl rfl | exact .inr (.inl rfl) | exact .inr (.inr rfl))) (dVar 4 (fun _ => rfl) (fun _ => by first | exact .inl rfl | exact .inr (.inl rfl) | exact .inr (.inr rfl)))))) aNil)))))))
/-! insert_at -/
abbrev N_insert_at : List Str := ["distances", "position", "symbol", "own", "ids"]
theorem s_insert_at : FnScope N_insert_at ["distances", "position", "symbol"] (defScope (top 41)) := ⟨rfl, rfl, rfl, by decide +kernel, rfl, by decide +kernel, by decide +kernel⟩
theorem v_insert_at_0 : Loc (defScope (top 41)) "distances" := by first | exact .inl rfl | exact .inr rfl
theorem v_insert_at_1 : Loc (defScope (top 41)) "position" := by first | exact .inl rfl | exact .inr rfl
theorem v_insert_at_2 : Loc (defScope (top 41)) "symbol" := by first | exact .inl rfl | exact .inr rfl
theorem v_insert_at_3 : Loc (defScope (top 41)) "own" := by first | exact .inl rfl | exact .inr rfl
theorem v_insert_at_4 : Loc (defScope (top 41)) "ids" := by first | exact .inl rfl | exact .inr rfl
def P_insert_at : Prt := fun k => ([] : List Nat).contains k
@[simp] theorem p_insert_at (k : Nat) : P_insert_at k = ([] : List Nat).contains k := rfl
def I_insert_at_1 : FS := fIfS (fTst (fBin vEq (fOV (fUn vLen (fOB 3))) (fOV (fC (.int (400)))))) (fNo) (fNext)
def b_insert_at : FS := fSeq (fSet 3 (slE (fCall 1 m_checked_distances [] (fAV (fVar 0) (fANil))))) (fSeq (fDrop (slE (fCall 2 m_check_position [] (fAV (fVar 1) (fAV (fUn vLen (fOB 3)) (fANil)))))) (fSeq (fDrop (slE (fCall 2 m_check_symbol [] (fAV (fVar 2) (fAV (slE (fCall 1 m_symbol_count [] (fAV (fVar 3) (fANil)))) (fANil)))))) (fSeq (I_insert_at_1) (fSeq (fSet 4 (slE (fCall 1 m_ids_of [] (fAV (fVar 3) (fANil))))) (fRet (slE (fCall 1 m_distances_by [] (fAV (fBin vAdd (fOV (fBin vAdd (fOV (fSl (fOB 4) (fPN) (fPS (fVar 1)))) (fOV (fLst (fCons (fVar 2) (fNil)))))) (fOV (fSl (fOB 4) (fPS (fVar 1)) (fPN)))) (fANil)))))))))
def m_insert_at : List Sl → Option (Sl × List Sl) := runD P_insert_at N_insert_at.length b_insert_at
theorem k_insert_at (F : FunD x.K "insert_at" "insert_at" (defArgs (top 41)) (defBody (top 41)) (defScope (top 41)) [] [] f fd) (c_checked_distances : Cal Pr w x.K mg base x "checked_distances" 3 ["distances"] 1 m_checked_distances []) (c_check_position : Cal Pr w x.K mg base x "check_position" 2 ["position", "highest"] 2 m_check_position []) (g_len : mg "len" = none) (c_check_symbol : Cal Pr w x.K mg base x "check_symbol" 2 ["symbol", "highest"] 2 m_check_symbol []) (c_symbol_count : Cal Pr w x.K mg base x "symbol_count" 1 ["distances"] 1 m_symbol_count []) (q_MAX_POSITIONS : ∃ u, mg "MAX_POSITIONS" = some u ∧ RelV (.int (400)) u) (c_ids_of : Cal Pr w x.K mg base x "ids_of" 1 ["distances"] 1 m_ids_of []) (c_distances_by : Cal Pr w x.K mg base x "distances_by" 1 ["symbols"] 1 m_distances_by []) : FnOk Pr w x.K mg base CX0 (3 + 1) f fd ["distances", "position", "symbol"] (spD x (["distances", "position", "symbol"] : List Str).length (runD P_insert_at N_insert_at.length b_insert_at)) := by
  refine fn_d (Pr := Pr) (w := w) (mg := mg) (base := base) (κ := x) (N := N_insert_at) (k := 3) (P := P_insert_at) (b := b_insert_at) F s_insert_at (fun cdv A outer s H E hr => ?_)
  exact (bCons (sSet 3 rfl (fun _ => s_insert_at.nd) (fun _ => rfl) (fun _ => v_insert_at_3) (DR.toE (dCall ⟨fun _ => rfl, fun _ => rfl, fun _ => rfl, fun _ => rfl, fun _ => rfl, fun _ => hr, fun _ => rfl⟩ c_checked_distances (by omega) (fun _ => rfl) (aV (dVar 0 (fun _ => rfl) (fun _ => locVis v_insert_at_0)) aNil))))
    (bCons (sExpr (DR.toE (dCall ⟨fun _ => rfl, fun _ => rfl, fun _ => rfl, fun _ => rfl, fun _ => rfl, fun _ => hr, fun _ => rfl⟩ c_check_position (by omega) (fun _ => rfl) (aV (dVar 1 (fun _ => rfl) (fun _ => locVis v_insert_at_1)) (aV (dB1 (fun _ => cr_len) und_len (fun _ => rfl) (fun _ => g_len) boot_len (dOB 3 (fun _ => rfl) (fun _ => locVis v_insert_at_3))) aNil)))))
    (bCons (sExpr (DR.toE (dCall ⟨fun _ => rfl, fun _ => rfl, fun _ => rfl, fun _ => rfl, fun _ => rfl, fun _ => hr, fun _ => rfl⟩ c_check_symbol (by omega) (fun _ => rfl) (aV (dVar 2 (fun _ => rfl) (fun _ => locVis v_insert_at_2)) (aV (DR.toE (dCall ⟨fun _ => rfl, fun _ => rfl, fun _ => rfl, fun _ => rfl, fun _ => rfl, fun _ => hr, fun _ => rfl⟩ c_symbol_count (by omega) (fun _ => rfl) (aV (dVar 3 (fun _ => rfl) (fun _ => locVis v_insert_at_3)) aNil))) aNil)))))
    (bCons (sIf (dTcmp (fun _ => op_eqD hr.units) opd_eq (dOV (dB1 (fun _ => cr_len) und_len (fun _ => rfl) (fun _ => g_len) boot_len (dOB 3 (fun _ => rfl) (fun _ => locVis v_insert_at_3)))) (dOV (dGc (d := .int (400)) (v := .int (400)) (fun _ => .int _) (fun _ => rfl) (fun _ => q_MAX_POSITIONS))) rfl) bNo bNil)
    (bCons (sSet 4 rfl (fun _ => s_insert_at.nd) (fun _ => rfl) (fun _ => v_insert_at_4) (DR.toE (dCall ⟨fun _ => rfl, fun _ => rfl, fun _ => rfl, fun _ => rfl, fun _ => rfl, fun _ => hr, fun _ => rfl⟩ c_ids_of (by omega) (fun _ => rfl) (aV (dVar 3 (fun _ => rfl) (fun _ => locVis v_insert_at_3)) aNil))))
    (bOne (sRet (DR.toE (dCall ⟨fun _ => rfl, fun _ => rfl, fun _ => rfl, fun _ => rfl, fun _ => rfl, fun _ => hr, fun _ => rfl⟩ c_distances_by (by omega) (fun _ => rfl) (aV (dBin (fun _ => opr_add) opd_add (dOV (dBin (fun _ => opr_add) opd_add (dOV (dNE (dSlN (fun _ => rfl) (dOB 4 (fun _ => rfl) (fun _ => locVis v_insert_at_4)) dPN (dPS (dVar 1 (fun _ => rfl) (fun _ => locVis v_insert_at_1)))))) (dOV (dNE (dLst (dCons (dVar 2 (fun _ => rfl) (fun _ => locVis v_insert_at_2)) dNil)))))) (dOV (dNE (dSlN (fun _ => rfl) (dOB 4 (fun _ => rfl) (fun _ => locVis v_insert_at_4)) (dPS (dVar 1 (fun _ => rfl) (fun _ => locVis v_insert_at_1))) dPN)))) aNil))))))))))
/-! _law_edits_hold -/
abbrev N_law_edits_hold : List Str := ["_law_stream_here", "_law_distances_here", "_law_many", "_law_ids_here", "_law_count", "_law_position", "_law_symbol_id", "_law_alone", "_law_other", "_law_later", "_law_home", "_law_apart", "_law_parts", "_law_first", "_law_at"]
theorem s_law_edits_hold : FnScope N_law_edits_hold ["_law_stream_here", "_law_distances_here"] (defScope (top 64)) := ⟨rfl, rfl, rfl, by decide +kernel, rfl, by decide +kernel, by decide +kernel⟩
theorem v_law_edits_hold_0 : Loc (defScope (top 64)) "_law_stream_here" := by first | exact .inl rfl | exact .inr rfl
theorem v_law_edits_hold_1 : Loc (defScope (top 64)) "_law_distances_here" := by first | exact .inl rfl | exact .inr rfl
theorem v_law_edits_hold_2 : Loc (defScope (top 64)) "_law_many" := by first | exact .inl rfl | exact .inr rfl
theorem v_law_edits_hold_3 : Loc (defScope (top 64)) "_law_ids_here" := by first | exact .inl rfl | exact .inr rfl
theorem v_law_edits_hold_4 : Loc (defScope (top 64)) "_law_count" := by first | exact .inl rfl | exact .inr rfl
theorem v_law_edits_hold_5 : Loc (defScope (top 64)) "_law_position" := by first | exact .inl rfl | exact .inr rfl
theorem v_law_edits_hold_6 : Loc (defScope (top 64)) "_law_symbol_id" := by first | exact .inl rfl | exact .inr rfl
theorem v_law_edits_hold_7 : Loc (defScope (top 64)) "_law_alone" := by first | exact .inl rfl | exact .inr rfl
theorem v_law_edits_hold_8 : Loc (defScope (top 64)) "_law_other" := by first | exact .inl rfl | exact .inr rfl
theorem v_law_edits_hold_9 : Loc (defScope (top 64)) "_law_later" := by first | exact .inl rfl | exact .inr rfl
theorem v_law_edits_hold_10 : Loc (defScope (top 64)) "_law_home" := by first | exact .inl rfl | exact .inr rfl
theorem v_law_edits_hold_11 : Loc (defScope (top 64)) "_law_apart" := by first | exact .inl rfl | exact .inr rfl
theorem v_law_edits_hold_12 : Loc (defScope (top 64)) "_law_parts" := by first | exact .inl rfl | exact .inr rfl
theorem v_law_edits_hold_13 : Loc (defScope (top 64)) "_law_first" := by first | exact .inl rfl | exact .inr rfl
def P_law_edits_hold : Prt := fun k => ([0] : List Nat).contains k
@[simp] theorem p_law_edits_hold (k : Nat) : P_law_edits_hold k = ([0] : List Nat).contains k := rfl
def I_law_edits_hold_1 : FS := fIfS (fTst (fBin vNe (fOV (slE (fCall 1 m_symbol_ids [] (fAV (fVar 1) (fANil))))) (fOB 3))) (fRet (fC (.bl false))) (fNext)
def I_law_edits_hold_2 : FS := fIfS (fTst (fBin vNe (fOV (slE (fCall 2 m_delete_at [] (fAV (slE (fCall 3 m_insert_at [] (fAV (fVar 1) (fAV (fVar 5) (fAV (fVar 6) (fANil)))))) (fAV (fVar 5) (fANil)))))) (fOB 1))) (fRet (fC (.bl false))) (fNext)
def I_law_edits_hold_3 : FS := fIfS (fTst (fBin vEq (fOB 2) (fOV (fC (.int 0))))) (fRet (fC (.bl true))) (fNext)
def T_law_edits_hold_1 : FT := fTand (fTst (fBin vEq (fOV (fBin vIx (fOB 3) (fOB 14))) (fOV (fBin vIx (fOB 3) (fOB 5))))) (fTst (fBin vNe (fOB 14) (fOB 5)))
def E_law_edits_hold_1 : FE := fBin vIx (fOB 9) (fOB 14)
def I_law_edits_hold_4 : FS := fIfS (fTand (fTnot (fTst (fVar 7))) (fTst (fBin vNe (fOV (slE (fCall 3 m_replace_at [] (fAV (fVar 8) (fAV (fVar 5) (fAV (fBin vIx (fOB 10) (fOV (fC (.int 0)))) (fANil))))))) (fOB 1)))) (fRet (fC (.bl false))) (fNext)
def b_law_edits_hold : FS := fSeq (fSet 2 (fUn vLen (fOB 1))) (fSeq (fSet 3 (slE (fCall 1 m_law_ids [] (fAV (fVar 1) (fANil))))) (fSeq (fSet 4 (slE (fCall 1 m_law_symbol_count [] (fAV (fVar 1) (fANil))))) (fSeq (fSet 5 (slE (fCall 2 m_law_draw [] (fAO 0 (fAV (fBin vAdd (fOB 2) (fOV (fC (.int 1)))) (fANil)))))) (fSeq (fSet 6 (slE (fCall 2 m_law_draw [] (fAO 0 (fAV (fBin vAdd (fOB 4) (fOV (fC (.int 1)))) (fANil)))))) (fSeq (I_law_edits_hold_1) (fSeq (I_law_edits_hold_2) (fSeq (I_law_edits_hold_3) (fSeq (fSet 5 (slE (fCall 2 m_law_draw [] (fAO 0 (fAV (fVar 2) (fANil)))))) (fSeq (fSet 7 (fBin vEq (fOV (fBm "list" mCount (fOB 3) (fCons (fBin vIx (fOB 3) (fOB 5)) (fNil)))) (fOV (fC (.int 1))))) (fSeq (fSet 8 (slE (fCall 3 m_replace_at [] (fAV (fVar 1) (fAV (fVar 5) (fAV (fVar 6) (fANil))))))) (fSeq (fSet 9 (slE (fCall 1 m_law_ids [] (fAV (fVar 8) (fANil))))) (fSeq (fSet 10 (fLc [14] (fRng1 (fCons (fVar 2) (fNil))) (gN 14) (T_law_edits_hold_1) (E_law_edits_hold_1))) (fSeq (I_law_edits_hold_4) (fSeq (fSet 11 (slE (fCall 2 m_split_symbol [] (fAV (fVar 1) (fAV (fVar 5) (fANil)))))) (fSeq (fSet 12 (slE (fCall 1 m_law_ids [] (fAV (fVar 11) (fANil))))) (fSeq (fSet 13 (fBm "list" mIndex (fOB 3) (fCons (fBin vIx (fOB 3) (fOB 5)) (fNil)))) (fRet (fBin vEq (fOV (slE (fCall 3 m_merge_symbols [] (fAV (fVar 11) (fAV (fBin vIx (fOB 12) (fOB 13)) (fAV (fBin vIx (fOB 12) (fOB 5)) (fANil))))))) (fOB 1)))))))))))))))))))
def m_law_edits_hold : List Sl → Option (Sl × List Sl) := runD P_law_edits_hold N_law_edits_hold.length b_law_edits_hold
theorem k_law_edits_hold (F : FunD x.K "_law_edits_hold" "_law_edits_hold" (defArgs (top 64)) (defBody (top 64)) (defScope (top 64)) [] [] f fd) (g_len : mg "len" = none) (c_law_ids : Cal Pr w x.K mg base x "_law_ids" 1 ["_law_distances_here"] 1 m_law_ids []) (c_law_symbol_count : Cal Pr w x.K mg base x "_law_symbol_count" 1 ["_law_distances_here"] 1 m_law_symbol_count []) (c_law_draw : Cal Pr w x.K mg base x "_law_draw" 1 ["_law_stream_here", "_law_many"] 2 m_law_draw []) (c_symbol_ids : Cal Pr w x.K mg base x "symbol_ids" 4 ["distances"] 1 m_symbol_ids []) (c_delete_at : Cal Pr w x.K mg base x "delete_at" 4 ["distances", "position"] 2 m_delete_at []) (c_insert_at : Cal Pr w x.K mg base x "insert_at" 4 ["distances", "position", "symbol"] 3 m_insert_at []) (c_replace_at : Cal Pr w x.K mg base x "replace_at" 4 ["distances", "position", "symbol"] 3 m_replace_at []) (g_range : mg "range" = none) (c_split_symbol : Cal Pr w x.K mg base x "split_symbol" 4 ["distances", "position"] 2 m_split_symbol []) (c_merge_symbols : Cal Pr w x.K mg base x "merge_symbols" 4 ["distances", "one", "other"] 3 m_merge_symbols []) : FnOk Pr w x.K mg base CX0 (4 + 1) f fd ["_law_stream_here", "_law_distances_here"] (spD x (["_law_stream_here", "_law_distances_here"] : List Str).length (runD P_law_edits_hold N_law_edits_hold.length b_law_edits_hold)) := by
  refine fn_d (Pr := Pr) (w := w) (mg := mg) (base := base) (κ := x) (N := N_law_edits_hold) (k := 4) (P := P_law_edits_hold) (b := b_law_edits_hold) F s_law_edits_hold (fun cdv A outer s H E hr => ?_)
  exact (bCons (sSet 2 rfl (fun _ => s_law_edits_hold.nd) (fun _ => rfl) (fun _ => v_law_edits_hold_2) (dB1 (fun _ => cr_len) und_len (fun _ => rfl) (fun _ => g_len) boot_len (dOB 1 (fun _ => rfl) (fun _ => locVis v_law_edits_hold_1))))
    (bCons (sSet 3 rfl (fun _ => s_law_edits_hold.nd) (fun _ => rfl) (fun _ => v_law_edits_hold_3) (DR.toE (dCall ⟨fun _ => rfl, fun _ => rfl, fun _ => rfl, fun _ => rfl, fun _ => rfl, fun _ => hr, fun _ => rfl⟩ c_law_ids (by omega) (fun _ => rfl) (aV (dVar 1 (fun _ => rfl) (fun _ => locVis v_law_edits_hold_1)) aNil))))
    (bCons (sSet 4 rfl (fun _ => s_law_edits_hold.nd) (fun _ => rfl) (fun _ => v_law_edits_hold_4) (DR.toE (dCall ⟨fun _ => rfl, fun _ => rfl, fun _ => rfl, fun _ => rfl, fun _ => rfl, fun _ => hr, fun _ => rfl⟩ c_law_symbol_count (by omega) (fun _ => rfl) (aV (dVar 1 (fun _ => rfl) (fun _ => locVis v_law_edits_hold_1)) aNil))))
    (bCons (sSet 5 rfl (fun _ => s_law_edits_hold.nd) (fun _ => rfl) (fun _ => v_law_edits_hold_5) (DR.toE (dCall ⟨fun _ => rfl, fun _ => rfl, fun _ => rfl, fun _ => rfl, fun _ => rfl, fun _ => hr, fun _ => rfl⟩ c_law_draw (by omega) (fun _ => rfl) (aO 0 (fun _ => rfl) (fun _ => locVis v_law_edits_hold_0) (aV (dBin (fun _ => opr_add) opd_add (dOB 2 (fun _ => rfl) (fun _ => locVis v_law_edits_hold_2)) (dOV dInt)) aNil)))))
    (bCons (sSet 6 rfl (fun _ => s_law_edits_hold.nd) (fun _ => rfl) (fun _ => v_law_edits_hold_6) (DR.toE (dCall ⟨fun _ => rfl, fun _ => rfl, fun _ => rfl, fun _ => rfl, fun _ => rfl, fun _ => hr, fun _ => rfl⟩ c_law_draw (by omega) (fun _ => rfl) (aO 0 (fun _ => rfl) (fun _ => locVis v_law_edits_hold_0) (aV (dBin (fun _ => opr_add) opd_add (dOB 4 (fun _ => rfl) (fun _ => locVis v_law_edits_hold_4)) (dOV dInt)) aNil)))))
    (bCons (sIf (dTcmp (fun _ => op_neD hr.units) opd_ne (dOV (DR.toE (dCall ⟨fun _ => rfl, fun _ => rfl, fun _ => rfl, fun _ => rfl, fun _ => rfl, fun _ => hr, fun _ => rfl⟩ c_symbol_ids (by omega) (fun _ => rfl) (aV (dVar 1 (fun _ => rfl) (fun _ => locVis v_law_edits_hold_1)) aNil)))) (dOB 3 (fun _ => rfl) (fun _ => locVis v_law_edits_hold_3)) rfl) (bOne (sRet dBl)) bNil)
    (bCons (sIf (dTcmp (fun _ => op_neD hr.units) opd_ne (dOV (DR.toE (dCall ⟨fun _ => rfl, fun _ => rfl, fun _ => rfl, fun _ => rfl, fun _ => rfl, fun _ => hr, fun _ => rfl⟩ c_delete_at (by omega) (fun _ => rfl) (aV (DR.toE (dCall ⟨fun _ => rfl, fun _ => rfl, fun _ => rfl, fun _ => rfl, fun _ => rfl, fun _ => hr, fun _ => rfl⟩ c_insert_at (by omega) (fun _ => rfl) (aV (dVar 1 (fun _ => rfl) (fun _ => locVis v_law_edits_hold_1)) (aV (dVar 5 (fun _ => rfl) (fun _ => locVis v_law_edits_hold_5)) (aV (dVar 6 (fun _ => rfl) (fun _ => locVis v_law_edits_hold_6)) aNil))))) (aV (dVar 5 (fun _ => rfl) (fun _ => locVis v_law_edits_hold_5)) aNil))))) (dOB 1 (fun _ => rfl) (fun _ => locVis v_law_edits_hold_1)) rfl) (bOne (sRet dBl)) bNil)
    (bCons (sIf (dTcmp (fun _ => op_eqD hr.units) opd_eq (dOB 2 (fun _ => rfl) (fun _ => locVis v_law_edits_hold_2)) (dOV dInt) rfl) (bOne (sRet dBl)) bNil)
    (bCons (sSet 5 rfl (fun _ => s_law_edits_hold.nd) (fun _ => rfl) (fun _ => v_law_edits_hold_5) (DR.toE (dCall ⟨fun _ => rfl, fun _ => rfl, fun _ => rfl, fun _ => rfl, fun _ => rfl, fun _ => hr, fun _ => rfl⟩ c_law_draw (by omega) (fun _ => rfl) (aO 0 (fun _ => rfl) (fun _ => locVis v_law_edits_hold_0) (aV (dVar 2 (fun _ => rfl) (fun _ => locVis v_law_edits_hold_2)) aNil)))))
    (bCons (sSet 7 rfl (fun _ => s_law_edits_hold.nd) (fun _ => rfl) (fun _ => v_law_edits_hold_7) (dCmp (fun _ => op_eqD hr.units) opd_eq (dOV (dBm (fun _ => rfl) PySem.F.plainAttrs_list PySem.F.slot_list_count PySem.F.type_list_count (fun _ => mt_lcount) mvr_count (dOB 3 (fun _ => rfl) (fun _ => locVis v_law_edits_hold_3)) (dCons (dIxU (fun _ => rfl) (fun _ => un1 hr) (dOB 3 (fun _ => rfl) (fun _ => locVis v_law_edits_hold_3)) (dOB 5 (fun _ => rfl) (fun _ => locVis v_law_edits_hold_5)) (fun _ _ => rfl)) dNil))) (dOV dInt) rfl))
    (bCons (sSet 8 rfl (fun _ => s_law_edits_hold.nd) (fun _ => rfl) (fun _ => v_law_edits_hold_8) (DR.toE (dCall ⟨fun _ => rfl, fun _ => rfl, fun _ => rfl, fun _ => rfl, fun _ => rfl, fun _ => hr, fun _ => rfl⟩ c_replace_at (by omega) (fun _ => rfl) (aV (dVar 1 (fun _ => rfl) (fun _ => locVis v_law_edits_hold_1)) (aV (dVar 5 (fun _ => rfl) (fun _ => locVis v_law_edits_hold_5)) (aV (dVar 6 (fun _ => rfl) (fun _ => locVis v_law_edits_hold_6)) aNil))))))
    (bCons (sSet 9 rfl (fun _ => s_law_edits_hold.nd) (fun _ => rfl) (fun _ => v_law_edits_hold_9) (DR.toE (dCall ⟨fun _ => rfl, fun _ => rfl, fun _ => rfl, fun _ => rfl, fun _ => rfl, fun _ => hr, fun _ => rfl⟩ c_law_ids (by omega) (fun _ => rfl) (aV (dVar 8 (fun _ => rfl) (fun _ => locVis v_law_edits_hold_8)) aNil))))
    (bCons (by first | exact sSetLc (own := [("_law_at", 14)]) 10 rfl (fun _ => rfl) (fun _ => s_law_edits_hold.nd) (fun _ => rfl) (fun _ => rfl) (fun _ => rfl) (iRange1 (fun _ => rfl) (fun _ => g_range) (dCons (dVar 2 (fun _ => rfl) (fun _ => locVis v_law_edits_hold_2)) dNil)) (fun _ => show BlkOk N_law_edits_hold (defScope (top 64)) _ [("_law_at", 14)] from ⟨rfl, by decide +kernel, by decide +kernel, by decide +kernel, by decide +kernel⟩) (gName_ 14 rfl (fun _ => s_law_edits_hold.nd) (fun _ => rfl) (fun _ => by first | exact .inl rfl | exact .inr rfl) (hf := (fun _ => by first | exact .inl rfl | exact .inr rfl))) (tsOne (dWT (dWand (dTcmp (fun _ => op_eqD hr.units) opd_eq (dOV (dIxU (fun _ => rfl) (fun _ => un1 hr) (dOB 3 (fun _ => rfl) (fun _ => by first | exact .inl rfl | exact .inr (.inl rfl) | exact .inr (.inr rfl))) (dOB 14 (fun _ => rfl) (fun _ => by first | exact .inl rfl | exact .inr (.inl rfl) | exact .inr (.inr rfl))) (fun _ _ => rfl))) (dOV (dIxU (fun _ => rfl) (fun _ => un1 hr) (dOB 3 (fun _ => rfl) (fun _ => by first | exact .inl rfl | exact .inr (.inl rfl) | exact .inr (.inr rfl))) (dOB 5 (fun _ => rfl) (fun _ => by first | exact .inl rfl | exact .inr (.inl rfl) | exact .inr (.inr rfl))) (fun _ _ => rfl))) rfl) (dWand1 (dTcmp (fun _ => op_neD hr.units) opd_ne (dOB 14 (fun _ => rfl) (fun _ => by first | exact .inl rfl | exact .inr (.inl rfl) | exact .inr (.inr rfl))) (dOB 5 (fun _ => rfl) (fun _ => by first | exact .inl rfl | exact .inr (.inl rfl) | exact .inr (.inr rfl))) rfl))))) (dIxU (fun _ => rfl) (fun _ => un1 hr) (dOB 9 (fun _ => rfl) (fun _ => by first | exact .inl rfl | exact .inr (.inl rfl) | exact .inr (.inr rfl))) (dOB 14 (fun _ => rfl) (fun _ => by first | exact .inl rfl | exact .inr (.inl rfl) | exact .inr (.inr rfl))) (fun _ _ => rfl)) | exact sSet 10 rfl (fun _ => s_law_edits_hold.nd) (fun _ => rfl) (fun _ => v_law_edits_hold_10) (dNE (dLc (own := [("_law_at", 14)]) (fun _ => rfl) (fun _ => s_law_edits_hold.nd) (iRange1 (fun _ => rfl) (fun _ => g_range) (dCons (dVar 2 (fun _ => rfl) (fun _ => locVis v_law_edits_hold_2)) dNil)) (fun _ => show BlkOk N_law_edits_hold (defScope (top 64)) _ [("_law_at", 14)] from ⟨rfl, by decide +kernel, by decide +kernel, by decide +kernel, by decide +kernel⟩) (gName_ 14 rfl (fun _ => s_law_edits_hold.nd) (fun _ => rfl) (fun _ => by first | exact .inl rfl | exact .inr rfl) (hf := (fun _ => by first | exact .inl rfl | exact .inr rfl))) (tsOne (dWT (dWand (dTcmp (fun _ => op_eqD hr.units) opd_eq (dOV (dIxU (fun _ => rfl) (fun _ => un1 hr) (dOB 3 (fun _ => rfl) (fun _ => by first | exact .inl rfl | exact .inr (.inl rfl) | exact .inr (.inr rfl))) (dOB 14 (fun _ => rfl) (fun _ => by first | exact .inl rfl | exact .inr (.inl rfl) | exact .inr (.inr rfl))) (fun _ _ => rfl))) (dOV (dIxU (fun _ => rfl) (fun _ => un1 hr) (dOB 3 (fun _ => rfl) (fun _ => by first | exact .inl rfl | exact .inr (.inl rfl) | exact .inr (.inr rfl))) (dOB 5 (fun _ => rfl) (fun _ => by first | exact .inl rfl | exact .inr (.inl rfl) | exact .inr (.inr rfl))) (fun _ _ => rfl))) rfl) (dWand1 (dTcmp (fun _ => op_neD hr.units) opd_ne (dOB 14 (fun _ => rfl) (fun _ => by first | exact .inl rfl | exact .inr (.inl rfl) | exact .inr (.inr rfl))) (dOB 5 (fun _ => rfl) (fun _ => by first | exact .inl rfl | exact .inr (.inl rfl) | exact .inr (.inr rfl))) rfl))))) (dIxU (fun _ => rfl) (fun _ => un1 hr) (dOB 9 (fun _ => rfl) (fun _ => by first | exact .inl rfl | exact .inr (.inl rfl) | exact .inr (.inr rfl))) (dOB 14 (fun _ => rfl) (fun _ => by first | exact .inl rfl | exact .inr (.inl rfl) | exact .inr (.inr rfl))) (fun _ _ => rfl)))))
    (bCons (sIf (dWT (dWand (dTnot (dTval (dVar 7 (fun _ => rfl) (fun _ => locVis v_law_edits_hold_7)) (by intro _ _; rfl))) (dWand1 (dTcmp (fun _ => op_neD hr.units) opd_ne (dOV (DR.toE (dCall ⟨fun _ => rfl, fun _ => rfl, fun _ => rfl, fun _ => rfl, fun _ => rfl, fun _ => hr, fun _ => rfl⟩ c_replace_at (by omega) (fun _ => rfl) (aV (dVar 8 (fun _ => rfl) (fun _ => locVis v_law_edits_hold_8)) (aV (dVar 5 (fun _ => rfl) (fun _ => locVis v_law_edits_hold_5)) (aV (dIxU (fun _ => rfl) (fun _ => un1 hr) (dOB 10 (fun _ => rfl) (fun _ => locVis v_law_edits_hold_10)) (dOV dInt) (fun _ _ => rfl)) aNil)))))) (dOB 1 (fun _ => rfl) (fun _ => locVis v_law_edits_hold_1)) rfl)))) (bOne (sRet dBl)) bNil)
    (bCons (sSet 11 rfl (fun _ => s_law_edits_hold.nd) (fun _ => rfl) (fun _ => v_law_edits_hold_11) (DR.toE (dCall ⟨fun _ => rfl, fun _ => rfl, fun _ => rfl, fun _ => rfl, fun _ => rfl, fun _ => hr, fun _ => rfl⟩ c_split_symbol (by omega) (fun _ => rfl) (aV (dVar 1 (fun _ => rfl) (fun _ => locVis v_law_edits_hold_1)) (aV (dVar 5 (fun _ => rfl) (fun _ => locVis v_law_edits_hold_5)) aNil)))))
    (bCons (sSet 12 rfl (fun _ => s_law_edits_hold.nd) (fun _ => rfl) (fun _ => v_law_edits_hold_12) (DR.toE (dCall ⟨fun _ => rfl, fun _ => rfl, fun _ => rfl, fun _ => rfl, fun _ => rfl, fun _ => hr, fun _ => rfl⟩ c_law_ids (by omega) (fun _ => rfl) (aV (dVar 11 (fun _ => rfl) (fun _ => locVis v_law_edits_hold_11)) aNil))))
    (bCons (sSet 13 rfl (fun _ => s_law_edits_hold.nd) (fun _ => rfl) (fun _ => v_law_edits_hold_13) (dBm (fun _ => rfl) PySem.F.plainAttrs_list PySem.F.slot_list_index PySem.F.type_list_index (fun _ => mt_index) mvr_index (dOB 3 (fun _ => rfl) (fun _ => locVis v_law_edits_hold_3)) (dCons (dIxU (fun _ => rfl) (fun _ => un1 hr) (dOB 3 (fun _ => rfl) (fun _ => locVis v_law_edits_hold_3)) (dOB 5 (fun _ => rfl) (fun _ => locVis v_law_edits_hold_5)) (fun _ _ => rfl)) dNil)))
    (bOne (sRet (dCmp (fun _ => op_eqD hr.units) opd_eq (dOV (DR.toE (dCall ⟨fun _ => rfl, fun _ => rfl, fun _ => rfl, fun _ => rfl, fun _ => rfl, fun _ => hr, fun _ => rfl⟩ c_merge_symbols (by omega) (fun _ => rfl) (aV (dVar 11 (fun _ => rfl) (fun _ => locVis v_law_edits_hold_11)) (aV (dIxU (fun _ => rfl) (fun _ => un1 hr) (dOB 12 (fun _ => rfl) (fun _ => locVis v_law_edits_hold_12)) (dOB 13 (fun _ => rfl) (fun _ => locVis v_law_edits_hold_13)) (fun _ _ => rfl)) (aV (dIxU (fun _ => rfl) (fun _ => un1 hr) (dOB 12 (fun _ => rfl) (fun _ => locVis v_law_edits_hold_12)) (dOB 5 (fun _ => rfl) (fun _ => locVis v_law_edits_hold_5)) (fun _ _ => rfl)) aNil)))))) (dOB 1 (fun _ => rfl) (fun _ => locVis v_law_edits_hold_1)) rfl))))))))))))))))))))
/-! _law_symbols -/
abbrev N_law_symbols : List Str := ["_law_stream_here", "_law_many", "_law_most", "_law_size", "_law_some", "_law_k"]
theorem s_law_symbols : FnScope N_law_symbols ["_law_stream_here", "_law_many", "_law_most"] (defScope (top 55)) := ⟨rfl, rfl, rfl, by decide +kernel, rfl, by decide +kernel, by decide +kernel⟩
theorem v_law_symbols_0 : Loc (defScope (top 55)) "_law_stream_here" := by first | exact .inl rfl | exact .inr rfl
theorem v_law_symbols_1 : Loc (defScope (top 55)) "_law_many" := by first | exact .inl rfl | exact .inr rfl
theorem v_law_symbols_2 : Loc (defScope (top 55)) "_law_most" := by first | exact .inl rfl | exact .inr rfl
theorem v_law_symbols_3 : Loc (defScope (top 55)) "_law_size" := by first | exact .inl rfl | exact .inr rfl
theorem v_law_symbols_4 : Loc (defScope (top 55)) "_law_some" := by first | exact .inl rfl | exact .inr rfl
def P_law_symbols : Prt := fun k => ([0] : List Nat).contains k
@[simp] theorem p_law_symbols (k : Nat) : P_law_symbols k = ([0] : List Nat).contains k := rfl
def T_law_symbols_1 : FT := fYes
def E_law_symbols_1 : FE := slE (fCall 2 m_law_draw [] (fAO 0 (fAV (fVar 2) (fANil))))
def T_law_symbols_2 : FT := fYes
def E_law_symbols_2 : FE := fBin vIx (fOB 4) (fOV (fBin vMod (fOB 5) (fOB 3)))
def I_law_symbols_1 : FS := fIfS (fTand (fTst (fBin vEq (fOV (slE (fCall 2 m_law_draw [] (fAO 0 (fAV (fC (.int 3)) (fANil)))))) (fOV (fC (.int 0))))) (fTst (fBin vGt (fOB 1) (fOV (fC (.int 1)))))) (fSeq (fSet 3 (fBin vAdd (fOV (fC (.int 1))) (fOV (slE (fCall 2 m_law_draw [] (fAO 0 (fAV (fBin vDiv (fOB 1) (fOV (fC (.int 2)))) (fANil)))))))) (fSeq (fSet 4 (fLc [5] (fRng1 (fCons (fVar 3) (fNil))) (gN 5) (T_law_symbols_1) (E_law_symbols_1))) (fRet (fLc [5] (fRng1 (fCons (fVar 1) (fNil))) (gN 5) (T_law_symbols_2) (E_law_symbols_2))))) (fNext)
def T_law_symbols_3 : FT := fYes
def E_law_symbols_3 : FE := slE (fCall 2 m_law_draw [] (fAO 0 (fAV (fVar 2) (fANil))))
def b_law_symbols : FS := fSeq (I_law_symbols_1) (fRet (fLc [5] (fRng1 (fCons (fVar 1) (fNil))) (gN 5) (T_law_symbols_3) (E_law_symbols_3)))
def m_law_symbols : List Sl → Option (Sl × List Sl) := runD P_law_symbols N_law_symbols.length b_law_symbols
theorem k_law_symbols (F : FunD x.K "_law_symbols" "_law_symbols" (defArgs (top 55)) (defBody (top 55)) (defScope (top 55)) [] [] f fd) (c_law_draw : Cal Pr w x.K mg base x "_law_draw" 1 ["_law_stream_here", "_law_many"] 2 m_law_draw []) (g_range : mg "range" = none) : FnOk Pr w x.K mg base CX0 (1 + 1) f fd ["_law_stream_here", "_law_many", "_law_most"] (spD x (["_law_stream_here", "_law_many", "_law_most"] : List Str).length (runD P_law_symbols N_law_symbols.length b_law_symbols)) := by
  refine fn_d (Pr := Pr) (w := w) (mg := mg) (base := base) (κ := x) (N := N_law_symbols) (k := 1) (P := P_law_symbols) (b := b_law_symbols) F s_law_symbols (fun cdv A outer s H E hr => ?_)
  exact (bCons (sIf (dWT (dWand (dTcmp (fun _ => op_eqD hr.units) opd_eq (dOV (DR.toE (dCall ⟨fun _ => rfl, fun _ => rfl, fun _ => rfl, fun _ => rfl, fun _ => rfl, fun _ => hr, fun _ => rfl⟩ c_law_draw (by omega) (fun _ => rfl) (aO 0 (fun _ => rfl) (fun _ => locVis v_law_symbols_0) (aV dInt aNil))))) (dOV dInt) rfl) (dWand1 (dTcmp (fun _ => op_gt) opd_gt (dOB 1 (fun _ => rfl) (fun _ => locVis v_law_symbols_1)) (dOV dInt) rfl)))) (bCons (sSet 3 rfl (fun _ => s_law_symbols.nd) (fun _ => rfl) (fun _ => v_law_symbols_3) (dBin (fun _ => opr_add) opd_add (dOV dInt) (dOV (DR.toE (dCall ⟨fun _ => rfl, fun _ => rfl, fun _ => rfl, fun _ => rfl, fun _ => rfl, fun _ => hr, fun _ => rfl⟩ c_law_draw (by omega) (fun _ => rfl) (aO 0 (fun _ => rfl) (fun _ => locVis v_law_symbols_0) (aV (dBin (fun _ => op_fdivW) opd_div (dOB 1 (fun _ => rfl) (fun _ => locVis v_law_symbols_1)) (dOV dInt)) aNil)))))))
    (bCons (by first | exact sSetLc (own := [("_law_k", 5)]) 4 rfl (fun _ => rfl) (fun _ => s_law_symbols.nd) (fun _ => rfl) (fun _ => rfl) (fun _ => rfl) (iRange1 (fun _ => rfl) (fun _ => g_range) (dCons (dVar 3 (fun _ => rfl) (fun _ => locVis v_law_symbols_3)) dNil)) (fun _ => show BlkOk N_law_symbols (defScope (top 55)) _ [("_law_k", 5)] from ⟨rfl, by decide +kernel, by decide +kernel, by decide +kernel, by decide +kernel⟩) (gName_ 5 rfl (fun _ => s_law_symbols.nd) (fun _ => rfl) (fun _ => by first | exact .inl rfl | exact .inr rfl) (hf := (fun _ => by first | exact .inl rfl | exact .inr rfl))) tsNil (DR.toE (dCall ⟨fun _ => rfl, fun _ => rfl, fun _ => rfl, fun _ => rfl, fun _ => rfl, fun _ => hr, fun _ => rfl⟩ c_law_draw (by omega) (fun _ => rfl) (aO 0 (fun _ => rfl) (fun _ => by first | exact .inl rfl | exact .inr (.inl rfl) | exact .inr (.inr rfl)) (aV (dVar 2 (fun _ => rfl) (fun _ => by first | exact .inl rfl | exact .inr (.inl rfl) | exact .inr (.inr rfl))) aNil)))) | exact sSet 4 rfl (fun _ => s_law_symbols.nd) (fun _ => rfl) (fun _ => v_law_symbols_4) (dNE (dLc (own := [("_law_k", 5)]) (fun _ => rfl) (fun _ => s_law_symbols.nd) (iRange1 (fun _ => rfl) (fun _ => g_range) (dCons (dVar 3 (fun _ => rfl) (fun _ => locVis v_law_symbols_3)) dNil)) (fun _ => show BlkOk N_law_symbols (defScope (top 55)) _ [("_law_k", 5)] from ⟨rfl, by decide +kernel, by decide +kernel, by decide +kernel, by decide +kernel⟩) (gName_ 5 rfl (fun _ => s_law_symbols.nd) (fun _ => rfl) (fun _ => by first | exact .inl rfl | exact .inr rfl) (hf := (fun _ => by first | exact .inl rfl | exact .inr rfl))) tsNil (DR.toE (dCall ⟨fun _ => rfl, fun _ => rfl, fun _ => rfl, fun _ => rfl, fun _ => rfl, fun _ => hr, fun _ => rfl⟩ c_law_draw (by omega) (fun _ => rfl) (aO 0 (fun _ => rfl) (fun _ => by first | exact .inl rfl | exact .inr (.inl rfl) | exact .inr (.inr rfl)) (aV (dVar 2 (fun _ => rfl) (fun _ => by first | exact .inl rfl | exact .inr (.inl rfl) | exact .inr (.inr rfl))) aNil)))))))
    (bOne (sRet (dNE (dLc (own := [("_law_k", 5)]) (fun _ => rfl) (fun _ => s_law_symbols.nd) (iRange1 (fun _ => rfl) (fun _ => g_range) (dCons (dVar 1 (fun _ => rfl) (fun _ => locVis v_law_symbols_1)) dNil)) (fun _ => show BlkOk N_law_symbols (defScope (top 55)) _ [("_law_k", 5)] from ⟨rfl, by decide +kernel, by decide +kernel, by decide +kernel, by decide +kernel⟩) (gName_ 5 rfl (fun _ => s_law_symbols.nd) (fun _ => rfl) (fun _ => by first | exact .inl rfl | exact .inr rfl) (hf := (fun _ => by first | exact .inl rfl | exact .inr rfl))) tsNil (dIxU (fun _ => rfl) (fun _ => un1 hr) (dOB 4 (fun _ => rfl) (fun _ => by first | exact .inl rfl | exact .inr (.inl rfl) | exact .inr (.inr rfl))) (dOV (dBin (fun _ => op_mod) opd_mod (dOB 5 (fun _ => rfl) (fun _ => by first | exact .inl rfl | exact .inr (.inl rfl) | exact .inr (.inr rfl))) (dOB 3 (fun _ => rfl) (fun _ => by first | exact .inl rfl | exact .inr (.inl rfl) | exact .inr (.inr rfl))))) (fun _ _ => rfl)))))))) bNil)
    (bOne (sRet (dNE (dLc (own := [("_law_k", 5)]) (fun _ => rfl) (fun _ => s_law_symbols.nd) (iRange1 (fun _ => rfl) (fun _ => g_range) (dCons (dVar 1 (fun _ => rfl) (fun _ => locVis v_law_symbols_1)) dNil)) (fun _ => show BlkOk N_law_symbols (defScope (top 55)) _ [("_law_k", 5)] from ⟨rfl, by decide +kernel, by decide +kernel, by decide +kernel, by decide +kernel⟩) (gName_ 5 rfl (fun _ => s_law_symbols.nd) (fun _ => rfl) (fun _ => by first | exact .inl rfl | exact .inr rfl) (hf := (fun _ => by first | exact .inl rfl | exact .inr rfl))) tsNil (DR.toE (dCall ⟨fun _ => rfl, fun _ => rfl, fun _ => rfl, fun _ => rfl, fun _ => rfl, fun _ => hr, fun _ => rfl⟩ c_law_draw (by omega) (fun _ => rfl) (aO 0 (fun _ => rfl) (fun _ => by first | exact .inl rfl | exact .inr (.inl rfl) | exact .inr (.inr rfl)) (aV (dVar 2 (fun _ => rfl) (fun _ => by first | exact .inl rfl | exact .inr (.inl rfl) | exact .inr (.inr rfl))) aNil)))))))))
/-! distances_from_ranks -/
abbrev N_distances_from_ranks : List Str := ["ranks", "ids", "recent", "rank"]
theorem s_distances_from_ranks : FnScope N_distances_from_ranks ["ranks"] (defScope (top 22)) := ⟨rfl, rfl, rfl, by decide +kernel, rfl, by decide +kernel, by decide +kernel⟩
theorem v_distances_from_ranks_0 : Loc (defScope (top 22)) "ranks" := by first | exact .inl rfl | exact .inr rfl
theorem v_distances_from_ranks_1 : Loc (defScope (top 22)) "ids" := by first | exact .inl rfl | exact .inr rfl
theorem v_distances_from_ranks_2 : Loc (defScope (top 22)) "recent" := by first | exact .inl rfl | exact .inr rfl
theorem v_distances_from_ranks_3 : Loc (defScope (top 22)) "rank" := by first | exact .inl rfl | exact .inr rfl
def P_distances_from_ranks : Prt := fun k => ([] : List Nat).contains k
@[simp] theorem p_distances_from_ranks (k : Nat) : P_distances_from_ranks k = ([] : List Nat).contains k := rfl
def I_distances_from_ranks_1 : FS := fIfS (fTnot (fTst (slE (fCall 1 m_is_sequence [] (fAV (fVar 0) (fANil)))))) (fNo) (fNext)
def I_distances_from_ranks_2 : FS := fIfS (fTnot (fTst (slE (fCall 3 m_is_integer [] (fAV (fVar 3) (fAV (fC (.int 0)) (fAV (fUn vLen (fOB 2)) (fANil)))))))) (fNo) (fNext)
def L_distances_from_ranks_1 : FS := fSeq (I_distances_from_ranks_2) (fSeq (fDrop (fMut 2 "list" mInsert (fCons (fC (.int 0)) (fCons (fIf (fTst (fBin vGt (fOB 3) (fOV (fC (.int 0))))) (fMut 2 "list" mPopAt (fCons (fBin vSub (fOB 3) (fOV (fC (.int 1)))) (fNil))) (fUn vLen (fOB 2))) (fNil))))) (fDrop (fMut 1 "list" mAppend (fCons (fBin vIx (fOB 2) (fOV (fC (.int 0)))) (fNil)))))
def b_distances_from_ranks : FS := fSeq (I_distances_from_ranks_1) (fSeq (fSetN 1 (fLst (fNil))) (fSeq (fSetN 2 (fLst (fNil))) (fSeq (fFor (fIt (fVar 0)) (gN 3) (L_distances_from_ranks_1)) (fRet (slE (fCall 1 m_distances_by [] (fAV (fVar 1) (fANil))))))))
def m_distances_from_ranks : List Sl → Option (Sl × List Sl) := runD P_distances_from_ranks N_distances_from_ranks.length b_distances_from_ranks
theorem k_distances_from_ranks (F : FunD x.K "distances_from_ranks" "distances_from_ranks" (defArgs (top 22)) (defBody (top 22)) (defScope (top 22)) [] [] f fd) (c_is_sequence : Cal Pr w x.K mg base x "is_sequence" 1 ["value"] 1 m_is_sequence []) (c_is_integer : Cal Pr w x.K mg base x "is_integer" 1 ["value", "lowest", "highest"] 3 m_is_integer []) (g_len : mg "len" = none) (c_distances_by : Cal Pr w x.K mg base x "distances_by" 1 ["symbols"] 1 m_distances_by []) : FnOk Pr w x.K mg base CX0 (1 + 1) f fd ["ranks"] (spD x (["ranks"] : List Str).length (runD P_distances_from_ranks N_distances_from_ranks.length b_distances_from_ranks)) := by
  refine fn_d (Pr := Pr) (w := w) (mg := mg) (base := base) (κ := x) (N := N_distances_from_ranks) (k := 1) (P := P_distances_from_ranks) (b := b_distances_from_ranks) F s_distances_from_ranks (fun cdv A outer s H E hr => ?_)
  exact (bCons (sIf (dTnot (dTval (DR.toE (dCall ⟨fun _ => rfl, fun _ => rfl, fun _ => rfl, fun _ => rfl, fun _ => rfl, fun _ => hr, fun _ => rfl⟩ c_is_sequence (by omega) (fun _ => rfl) (aV (dVar 0 (fun _ => rfl) (fun _ => locVis v_distances_from_ranks_0)) aNil))) (by intro _ _; rfl))) bNo bNil)
    (bCons (sSetN 1 rfl (fun _ => s_distances_from_ranks.nd) (fun _ => rfl) (fun _ => v_distances_from_ranks_1) (dLst dNil))
    (bCons (sSetN 2 rfl (fun _ => s_distances_from_ranks.nd) (fun _ => rfl) (fun _ => v_distances_from_ranks_2) (dLst dNil))
    (bCons (sFor (fun _ => PassesOwn.never) (fun _ => rfl) (iSeq_ (fun _ => rfl) (dVar 0 (fun _ => rfl) (fun _ => locVis v_distances_from_ranks_0))) (gName_ 3 rfl (fun _ => s_distances_from_ranks.nd) (fun _ => rfl) (fun _ => v_distances_from_ranks_3)) (bCons (sIf (dTnot (dTval (DR.toE (dCall ⟨fun _ => rfl, fun _ => rfl, fun _ => rfl, fun _ => rfl, fun _ => rfl, fun _ => hr, fun _ => rfl⟩ c_is_integer (by omega) (fun _ => rfl) (aV (dVar 3 (fun _ => rfl) (fun _ => locVis v_distances_from_ranks_3)) (aV dInt (aV (dB1 (fun _ => cr_len) und_len (fun _ => rfl) (fun _ => g_len) boot_len (dOB 2 (fun _ => rfl) (fun _ => locVis v_distances_from_ranks_2))) aNil))))) (by intro _ _; rfl))) bNo bNil)
    (bCons (sExpr (dMut 2 (fun _ => rfl) PySem.F.plainAttrs_list PySem.F.slot_list_insert PySem.F.type_list_insert (fun _ => mt_insert) mur_insert (fun _ => rfl) (fun _ => locVis v_distances_from_ranks_2) (dCons dInt (dCons (dIf (dTcmp (fun _ => op_gt) opd_gt (dOB 3 (fun _ => rfl) (fun _ => locVis v_distances_from_ranks_3)) (dOV dInt) rfl) (dMut 2 (fun _ => rfl) PySem.F.plainAttrs_list PySem.F.slot_list_pop PySem.F.type_list_pop (fun _ => mt_popAt) mur_popAt (fun _ => rfl) (fun _ => locVis v_distances_from_ranks_2) (dCons (dBin (fun _ => op_sub) opd_sub (dOB 3 (fun _ => rfl) (fun _ => locVis v_distances_from_ranks_3)) (dOV dInt)) dNil)) (dB1 (fun _ => cr_len) und_len (fun _ => rfl) (fun _ => g_len) boot_len (dOB 2 (fun _ => rfl) (fun _ => locVis v_distances_from_ranks_2)))) dNil))))
    (bOne (sExpr (dMut 1 (fun _ => rfl) PySem.F.plainAttrs_list PySem.F.slot_list_append PySem.F.type_list_append (fun _ => mt_append) mur_append (fun _ => rfl) (fun _ => locVis v_distances_from_ranks_1) (dCons (dIxU (fun _ => rfl) (fun _ => un1 hr) (dOB 2 (fun _ => rfl) (fun _ => locVis v_distances_from_ranks_2)) (dOV dInt) (fun _ _ => rfl)) dNil)))))))
    (bOne (sRet (DR.toE (dCall ⟨fun _ => rfl, fun _ => rfl, fun _ => rfl, fun _ => rfl, fun _ => rfl, fun _ => hr, fun _ => rfl⟩ c_distances_by (by omega) (fun _ => rfl) (aV (dVar 1 (fun _ => rfl) (fun _ => locVis v_distances_from_ranks_1)) aNil)))))))))
/-! _law_own_mapping -/
abbrev N_law_own_mapping : List Str := ["_law_distances_here", "_law_position", "_law_ids_here", "_law_ahead", "_law_behind", "_law_found", "_law_at", "_law_symbol_id"]
theorem s_law_own_mapping : FnScope N_law_own_mapping ["_law_distances_here", "_law_position"] (defScope (top 58)) := ⟨rfl, rfl, rfl, by decide +kernel, rfl, by decide +kernel, by decide +kernel⟩
theorem v_law_own_mapping_0 : Loc (defScope (top 58)) "_law_distances_here" := by first | exact .inl rfl | exact .inr rfl
theorem v_law_own_mapping_1 : Loc (defScope (top 58)) "_law_position" := by first | exact .inl rfl | exact .inr rfl
theorem v_law_own_mapping_2 : Loc (defScope (top 58)) "_law_ids_here" := by first | exact .inl rfl | exact .inr rfl
theorem v_law_own_mapping_3 : Loc (defScope (top 58)) "_law_ahead" := by first | exact .inl rfl | exact .inr rfl
theorem v_law_own_mapping_4 : Loc (defScope (top 58)) "_law_behind" := by first | exact .inl rfl | exact .inr rfl
theorem v_law_own_mapping_5 : Loc (defScope (top 58)) "_law_found" := by first | exact .inl rfl | exact .inr rfl
theorem v_law_own_mapping_6 : Loc (defScope (top 58)) "_law_at" := by first | exact .inl rfl | exact .inr rfl
theorem v_law_own_mapping_7 : Loc (defScope (top 58)) "_law_symbol_id" := by first | exact .inl rfl | exact .inr rfl
def P_law_own_mapping : Prt := fun k => ([] : List Nat).contains k
@[simp] theorem p_law_own_mapping (k : Nat) : P_law_own_mapping k = ([] : List Nat).contains k := rfl
def I_law_own_mapping_1 : FS := fIfS (fTst (fBin vIn (fOB 7) (fOV (fSl (fOB 2) (fPN) (fPS (fVar 1)))))) (fSetI 5 (fBin vIx (fOB 4) (fOB 6)) (fBin vIx (fOB 3) (fOV (fBm "list" mIndex (fOB 2) (fCons (fVar 7) (fNil)))))) (fNext)
def L_law_own_mapping_1 : FS := I_law_own_mapping_1
def T_law_own_mapping_1 : FT := fYes
def E_law_own_mapping_1 : FE := fTup (fCons (fVar 7) (fCons (fBin vIx (fOB 5) (fOB 7)) (fNil)))
def b_law_own_mapping : FS := fSeq (fSet 2 (slE (fCall 1 m_law_ids [] (fAV (fVar 0) (fANil))))) (fSeq (fSet 3 (slE (fCall 1 m_law_ids [] (fAV (slE (fCall 1 m_law_distances [] (fAV (fSl (fOB 2) (fPN) (fPS (fVar 1))) (fANil)))) (fANil))))) (fSeq (fSet 4 (slE (fCall 1 m_law_ids [] (fAV (slE (fCall 1 m_law_distances [] (fAV (fSl (fOB 2) (fPS (fVar 1)) (fPN)) (fANil)))) (fANil))))) (fSeq (fSetN 5 (fDnew)) (fSeq (fFor (fEnum (fCons (fSl (fOB 2) (fPS (fVar 1)) (fPN)) (fNil))) (gT 2 (gsCons (gN 6) (gsCons (gN 7) (gsNil)))) (L_law_own_mapping_1)) (fRet (fLc [7] (fIt (fUn vSortK (fOB 5))) (gN 7) (T_law_own_mapping_1) (E_law_own_mapping_1)))))))
def m_law_own_mapping : List Sl → Option (Sl × List Sl) := runD P_law_own_mapping N_law_own_mapping.length b_law_own_mapping
theorem k_law_own_mapping (F : FunD x.K "_law_own_mapping" "_law_own_mapping" (defArgs (top 58)) (defBody (top 58)) (defScope (top 58)) [] [] f fd) (c_law_ids : Cal Pr w x.K mg base x "_law_ids" 1 ["_law_distances_here"] 1 m_law_ids []) (c_law_distances : Cal Pr w x.K mg base x "_law_distances" 1 ["_law_symbols_here"] 1 m_law_distances []) (g_enumerate : mg "enumerate" = none) (g_sorted : mg "sorted" = none) : FnOk Pr w x.K mg base CX0 (1 + 1) f fd ["_law_distances_here", "_law_position"] (spD x (["_law_distances_here", "_law_position"] : List Str).length (runD P_law_own_mapping N_law_own_mapping.length b_law_own_mapping)) := by
  refine fn_d (Pr := Pr) (w := w) (mg := mg) (base := base) (κ := x) (N := N_law_own_mapping) (k := 1) (P := P_law_own_mapping) (b := b_law_own_mapping) F s_law_own_mapping (fun cdv A outer s H E hr => ?_)
  exact (bCons (sSet 2 rfl (fun _ => s_law_own_mapping.nd) (fun _ => rfl) (fun _ => v_law_own_mapping_2) (DR.toE (dCall ⟨fun _ => rfl, fun _ => rfl, fun _ => rfl, fun _ => rfl, fun _ => rfl, fun _ => hr, fun _ => rfl⟩ c_law_ids (by omega) (fun _ => rfl) (aV (dVar 0 (fun _ => rfl) (fun _ => locVis v_law_own_mapping_0)) aNil))))
    (bCons (sSet 3 rfl (fun _ => s_law_own_mapping.nd) (fun _ => rfl) (fun _ => v_law_own_mapping_3) (DR.toE (dCall ⟨fun _ => rfl, fun _ => rfl, fun _ => rfl, fun _ => rfl, fun _ => rfl, fun _ => hr, fun _ => rfl⟩ c_law_ids (by omega) (fun _ => rfl) (aV (DR.toE (dCall ⟨fun _ => rfl, fun _ => rfl, fun _ => rfl, fun _ => rfl, fun _ => rfl, fun _ => hr, fun _ => rfl⟩ c_law_distances (by omega) (fun _ => rfl) (aV (dNE (dSlN (fun _ => rfl) (dOB 2 (fun _ => rfl) (fun _ => locVis v_law_own_mapping_2)) dPN (dPS (dVar 1 (fun _ => rfl) (fun _ => locVis v_law_own_mapping_1))))) aNil))) aNil))))
    (bCons (sSet 4 rfl (fun _ => s_law_own_mapping.nd) (fun _ => rfl) (fun _ => v_law_own_mapping_4) (DR.toE (dCall ⟨fun _ => rfl, fun _ => rfl, fun _ => rfl, fun _ => rfl, fun _ => rfl, fun _ => hr, fun _ => rfl⟩ c_law_ids (by omega) (fun _ => rfl) (aV (DR.toE (dCall ⟨fun _ => rfl, fun _ => rfl, fun _ => rfl, fun _ => rfl, fun _ => rfl, fun _ => hr, fun _ => rfl⟩ c_law_distances (by omega) (fun _ => rfl) (aV (dNE (dSlN (fun _ => rfl) (dOB 2 (fun _ => rfl) (fun _ => locVis v_law_own_mapping_2)) (dPS (dVar 1 (fun _ => rfl) (fun _ => locVis v_law_own_mapping_1))) dPN)) aNil))) aNil))))
    (bCons (sSetN 5 rfl (fun _ => s_law_own_mapping.nd) (fun _ => rfl) (fun _ => v_law_own_mapping_5) dDnew)
    (bCons (sFor (fun _ => PassesOwn.never) (fun _ => rfl) (iEnum_ (fun _ => rfl) (fun _ => rfl) (fun _ => g_enumerate) (dCons (dNE (dSlN (fun _ => rfl) (dOB 2 (fun _ => rfl) (fun _ => locVis v_law_own_mapping_2)) (dPS (dVar 1 (fun _ => rfl) (fun _ => locVis v_law_own_mapping_1))) dPN)) dNil)) (gTup_ (fun _ => rfl) (fun _ => rfl) (gsCons_ (gName_ 6 rfl (fun _ => s_law_own_mapping.nd) (fun _ => rfl) (fun _ => v_law_own_mapping_6)) (gsCons_ (gName_ 7 rfl (fun _ => s_law_own_mapping.nd) (fun _ => rfl) (fun _ => v_law_own_mapping_7)) gsNil_))) (bOne (sIf (dTcmp (fun _ => opr_in (un1 hr)) opd_in (dOB 7 (fun _ => rfl) (fun _ => locVis v_law_own_mapping_7)) (dOV (dNE (dSlN (fun _ => rfl) (dOB 2 (fun _ => rfl) (fun _ => locVis v_law_own_mapping_2)) dPN (dPS (dVar 1 (fun _ => rfl) (fun _ => locVis v_law_own_mapping_1)))))) rfl) (bOne (sSetI 5 (fun _ => un1 hr) (fun _ => rfl) (fun _ => locVis v_law_own_mapping_5) (dIxU (fun _ => rfl) (fun _ => un1 hr) (dOB 4 (fun _ => rfl) (fun _ => locVis v_law_own_mapping_4)) (dOB 6 (fun _ => rfl) (fun _ => locVis v_law_own_mapping_6)) (fun _ _ => rfl)) (dIxU (fun _ => rfl) (fun _ => un1 hr) (dOB 3 (fun _ => rfl) (fun _ => locVis v_law_own_mapping_3)) (dOV (dBm (fun _ => rfl) PySem.F.plainAttrs_list PySem.F.slot_list_index PySem.F.type_list_index (fun _ => mt_index) mvr_index (dOB 2 (fun _ => rfl) (fun _ => locVis v_law_own_mapping_2)) (dCons (dVar 7 (fun _ => rfl) (fun _ => locVis v_law_own_mapping_7)) dNil))) (fun _ _ => rfl)))) bNil)))
    (bOne (sRet (dNE (dLc (own := [("_law_symbol_id", 7)]) (fun _ => rfl) (fun _ => s_law_own_mapping.nd) (iSeq_ (fun _ => rfl) (dNE (dB1N (fun _ => call_sortedDI rfl) unn_sortK (fun _ => rfl) (fun _ => g_sorted) boot_sorted (dOB 5 (fun _ => rfl) (fun _ => locVis v_law_own_mapping_5))))) (fun _ => show BlkOk N_law_own_mapping (defScope (top 58)) _ [("_law_symbol_id", 7)] from ⟨rfl, by decide +kernel, by decide +kernel, by decide +kernel, by decide +kernel⟩) (gName_ 7 rfl (fun _ => s_law_own_mapping.nd) (fun _ => rfl) (fun _ => by first | exact .inl rfl | exact .inr rfl) (hf := (fun _ => by first | exact .inl rfl | exact .inr rfl))) tsNil (dTup (dCons (dVar 7 (fun _ => rfl) (fun _ => by first | exact .inl rfl | exact .inr (.inl rfl) | exact .inr (.inr rfl))) (dCons (dIxU (fun _ => rfl) (fun _ => un1 hr) (dOB 5 (fun _ => rfl) (fun _ => by first | exact .inl rfl | exact .inr (.inl rfl) | exact .inr (.inr rfl))) (dOB 7 (fun _ => rfl) (fun _ => by first | exact .inl rfl | exact .inr (.inl rfl) | exact .inr (.inr rfl))) (fun _ _ => rfl)) dNil))))))))))))
/-! reversed_distances -/
abbrev N_reversed_distances : List Str := ["distances"]
theorem s_reversed_distances : FnScope N_reversed_distances ["distances"] (defScope (top 37)) := ⟨rfl, rfl, rfl, by decide +kernel, rfl, by decide +kernel, by decide +kernel⟩
theorem v_reversed_distances_0 : Loc (defScope (top 37)) "distances" := by first | exact .inl rfl | exact .inr rfl
def P_reversed_distances : Prt := fun k => ([] : List Nat).contains k
@[simp] theorem p_reversed_distances (k : Nat) : P_reversed_distances k = ([] : List Nat).contains k := rfl
def b_reversed_distances : FS := fRet (slE (fCall 1 m_distances_by [] (fAV (fUn vRev (fOV (slE (fCall 1 m_ids_of [] (fAV (slE (fCall 1 m_checked_distances [] (fAV (fVar 0) (fANil)))) (fANil)))))) (fANil))))
def m_reversed_distances : List Sl → Option (Sl × List Sl) := runD P_reversed_distances N_reversed_distances.length b_reversed_distances
theorem k_reversed_distances (F : FunD x.K "reversed_distances" "reversed_distances" (defArgs (top 37)) (defBody (top 37)) (defScope (top 37)) [] [] f fd) (c_distances_by : Cal Pr w x.K mg base x "distances_by" 1 ["symbols"] 1 m_distances_by []) (c_ids_of : Cal Pr w x.K mg base x "ids_of" 1 ["distances"] 1 m_ids_of []) (c_checked_distances : Cal Pr w x.K mg base x "checked_distances" 3 ["distances"] 1 m_checked_distances []) : FnOk Pr w x.K mg base CX0 (3 + 1) f fd ["distances"] (spD x (["distances"] : List Str).length (runD P_reversed_distances N_reversed_distances.length b_reversed_distances)) := by
  refine fn_d (Pr := Pr) (w := w) (mg := mg) (base := base) (κ := x) (N := N_reversed_distances) (k := 3) (P := P_reversed_distances) (b := b_reversed_distances) F s_reversed_distances (fun cdv A outer s H E hr => ?_)
  exact (bOne (sRet (DR.toE (dCall ⟨fun _ => rfl, fun _ => rfl, fun _ => rfl, fun _ => rfl, fun _ => rfl, fun _ => hr, fun _ => rfl⟩ c_distances_by (by omega) (fun _ => rfl) (aV (dNE (dRevN (fun _ => rfl) (dOV (DR.toE (dCall ⟨fun _ => rfl, fun _ => rfl, fun _ => rfl, fun _ => rfl, fun _ => rfl, fun _ => hr, fun _ => rfl⟩ c_ids_of (by omega) (fun _ => rfl) (aV (DR.toE (dCall ⟨fun _ => rfl, fun _ => rfl, fun _ => rfl, fun _ => rfl, fun _ => rfl, fun _ => hr, fun _ => rfl⟩ c_checked_distances (by omega) (fun _ => rfl) (aV (dVar 0 (fun _ => rfl) (fun _ => locVis v_reversed_distances_0)) aNil))) aNil)))))) aNil)))))
/-! window_of -/
abbrev N_window_of : List Str := ["distances", "start", "length", "offset", "entry"]
theorem s_window_of : FnScope N_window_of ["distances", "start", "length"] (defScope (top 31)) := ⟨rfl, rfl, rfl, by decide +kernel, rfl, by decide +kernel, by decide +kernel⟩
theorem v_window_of_0 : Loc (defScope (top 31)) "distances" := by first | exact .inl rfl | exact .inr rfl
theorem v_window_of_1 : Loc (defScope (top 31)) "start" := by first | exact .inl rfl | exact .inr rfl
theorem v_window_of_2 : Loc (defScope (top 31)) "length" := by first | exact .inl rfl | exact .inr rfl
def P_window_of : Prt := fun k => ([] : List Nat).contains k
@[simp] theorem p_window_of (k : Nat) : P_window_of k = ([] : List Nat).contains k := rfl
def T_window_of_1 : FT := fYes
def E_window_of_1 : FE := fIf (fTst (fBin vLeU (fOB 4) (fOB 3))) (fVar 4) (fC (.int 0))
def b_window_of : FS := fRet (fLc [3, 4] (fEnum (fCons (fSl (fOB 0) (fPS (fVar 1)) (fPS (fBin vAdd (fOB 1) (fOB 2)))) (fNil))) (gT 2 (gsCons (gN 3) (gsCons (gN 4) (gsNil)))) (T_window_of_1) (E_window_of_1))
def m_window_of : List Sl → Option (Sl × List Sl) := runD P_window_of N_window_of.length b_window_of
theorem k_window_of (F : FunD x.K "window_of" "window_of" (defArgs (top 31)) (defBody (top 31)) (defScope (top 31)) [] [] f fd) (g_enumerate : mg "enumerate" = none) : FnOk Pr w x.K mg base CX0 (0 + 1) f fd ["distances", "start", "length"] (spD x (["distances", "start", "length"] : List Str).length (runD P_window_of N_window_of.length b_window_of)) := by
  refine fn_d (Pr := Pr) (w := w) (mg := mg) (base := base) (κ := x) (N := N_window_of) (k := 0) (P := P_window_of) (b := b_window_of) F s_window_of (fun cdv A outer s H E hr => ?_)
  exact (bOne (sRet (dNE (dLc (own := [("offset", 3), ("entry", 4)]) (fun _ => rfl) (fun _ => s_window_of.nd) (iEnum_ (fun _ => rfl) (fun _ => rfl) (fun _ => g_enumerate) (dCons (dNE (dSlN (fun _ => rfl) (dOB 0 (fun _ => rfl) (fun _ => locVis v_window_of_0)) (dPS (dVar 1 (fun _ => rfl) (fun _ => locVis v_window_of_1))) (dPS (dBin (fun _ => opr_add) opd_add (dOB 1 (fun _ => rfl) (fun _ => locVis v_window_of_1)) (dOB 2 (fun _ => rfl) (fun _ => locVis v_window_of_2)))))) dNil)) (fun _ => show BlkOk N_window_of (defScope (top 31)) _ [("offset", 3), ("entry", 4)] from ⟨rfl, by decide +kernel, by decide +kernel, by decide +kernel, by decide +kernel⟩) (gTup_ (fun _ => rfl) (fun _ => rfl) (gsCons_ (gName_ 3 rfl (fun _ => s_window_of.nd) (fun _ => rfl) (fun _ => by first | exact .inl rfl | exact .inr rfl) (hf := (fun _ => by first | exact .inl rfl | exact .inr rfl))) (gsCons_ (gName_ 4 rfl (fun _ => s_window_of.nd) (fun _ => rfl) (fun _ => by first | exact .inl rfl | exact .inr rfl) (hf := (fun _ => by first | exact .inl rfl | exact .inr rfl))) gsNil_))) tsNil (dIf (dTcmp (fun _ => op_leU (Nat.lt_of_succ_lt (un1 hr))) opd_leU (dOB 4 (fun _ => rfl) (fun _ => by first | exact .inl rfl | exact .inr (.inl rfl) | exact .inr (.inr rfl))) (dOB 3 (fun _ => rfl) (fun _ => by first | exact .inl rfl | exact .inr (.inl rfl) | exact .inr (.inr rfl))) rfl) (dVar 4 (fun _ => rfl) (fun _ => by first | exact .inl rfl | exact .inr (.inl rfl) | exact .inr (.inr rfl))) dInt)))))
/-! window -/
abbrev N_window : List Str := ["distances", "start", "length", "own"]
theorem s_window : FnScope N_window ["distances", "start", "length"] (defScope (top 32)) := ⟨rfl, rfl, rfl, by decide +kernel, rfl, by decide +kernel, by decide +kernel⟩
theorem v_window_0 : Loc (defScope (top 32)) "distances" := by first | exact .inl rfl | exact .inr rfl
theorem v_window_1 : Loc (defScope (top 32)) "start" := by first | exact .inl rfl | exact .inr rfl
theorem v_window_2 : Loc (defScope (top 32)) "length" := by first | exact .inl rfl | exact .inr rfl
theorem v_window_3 : Loc (defScope (top 32)) "own" := by first | exact .inl rfl | exact .inr rfl
def P_window : Prt := fun k => ([] : List Nat).contains k
@[simp] theorem p_window (k : Nat) : P_window k = ([] : List Nat).contains k := rfl
def I_window_1 : FS := fIfS (fTnot (fTst (slE (fCall 3 m_is_integer [] (fAV (fVar 2) (fAV (fC (.int 0)) (fAV (fBin vSub (fOV (fUn vLen (fOB 3))) (fOB 1)) (fANil)))))))) (fNo) (fNext)
def b_window : FS := fSeq (fSet 3 (slE (fCall 1 m_checked_distances [] (fAV (fVar 0) (fANil))))) (fSeq (fDrop (slE (fCall 2 m_check_position [] (fAV (fVar 1) (fAV (fUn vLen (fOB 3)) (fANil)))))) (fSeq (I_window_1) (fRet (slE (fCall 3 m_window_of [] (fAV (fVar 3) (fAV (fVar 1) (fAV (fVar 2) (fANil)))))))))
def m_window : List Sl → Option (Sl × List Sl) := runD P_window N_window.length b_window
theorem k_window (F : FunD x.K "window" "window" (defArgs (top 32)) (defBody (top 32)) (defScope (top 32)) [] [] f fd) (c_checked_distances : Cal Pr w x.K mg base x "checked_distances" 3 ["distances"] 1 m_checked_distances []) (c_check_position : Cal Pr w x.K mg base x "check_position" 2 ["position", "highest"] 2 m_check_position []) (g_len : mg "len" = none) (c_is_integer : Cal Pr w x.K mg base x "is_integer" 1 ["value", "lowest", "highest"] 3 m_is_integer []) (c_window_of : Cal Pr w x.K mg base x "window_of" 1 ["distances", "start", "length"] 3 m_window_of []) : FnOk Pr w x.K mg base CX0 (3 + 1) f fd ["distances", "start", "length"] (spD x (["distances", "start", "length"] : List Str).length (runD P_window N_window.length b_window)) := by
  refine fn_d (Pr := Pr) (w := w) (mg := mg) (base := base) (κ := x) (N := N_window) (k := 3) (P := P_window) (b := b_window) F s_window (fun cdv A outer s H E hr => ?_)
  exact (bCons (sSet 3 rfl (fun _ => s_window.nd) (fun _ => rfl) (fun _ => v_window_3) (DR.toE (dCall ⟨fun _ => rfl, fun _ => rfl, fun _ => rfl, fun _ => rfl, fun _ => rfl, fun _ => hr, fun _ => rfl⟩ c_checked_distances (by omega) (fun _ => rfl) (aV (dVar 0 (fun _ => rfl) (fun _ => locVis v_window_0)) aNil))))
    (bCons (sExpr (DR.toE (dCall ⟨fun _ => rfl, fun _ => rfl, fun _ => rfl, fun _ => rfl, fun _ => rfl, fun _ => hr, fun _ => rfl⟩ c_check_position (by omega) (fun _ => rfl) (aV (dVar 1 (fun _ => rfl) (fun _ => locVis v_window_1)) (aV (dB1 (fun _ => cr_len) und_len (fun _ => rfl) (fun _ => g_len) boot_len (dOB 3 (fun _ => rfl) (fun _ => locVis v_window_3))) aNil)))))
    (bCons (sIf (dTnot (dTval (DR.toE (dCall ⟨fun _ => rfl, fun _ => rfl, fun _ => rfl, fun _ => rfl, fun _ => rfl, fun _ => hr, fun _ => rfl⟩ c_is_integer (by omega) (fun _ => rfl) (aV (dVar 2 (fun _ => rfl) (fun _ => locVis v_window_2)) (aV dInt (aV (dBin (fun _ => op_sub) opd_sub (dOV (dB1 (fun _ => cr_len) und_len (fun _ => rfl) (fun _ => g_len) boot_len (dOB 3 (fun _ => rfl) (fun _ => locVis v_window_3)))) (dOB 1 (fun _ => rfl) (fun _ => locVis v_window_1))) aNil))))) (by intro _ _; rfl))) bNo bNil)
    (bOne (sRet (DR.toE (dCall ⟨fun _ => rfl, fun _ => rfl, fun _ => rfl, fun _ => rfl, fun _ => rfl, fun _ => hr, fun _ => rfl⟩ c_window_of (by omega) (fun _ => rfl) (aV (dVar 3 (fun _ => rfl) (fun _ => locVis v_window_3)) (aV (dVar 1 (fun _ => rfl) (fun _ => locVis v_window_1)) (aV (dVar 2 (fun _ => rfl) (fun _ => locVis v_window_2)) aNil))))))))))
/-! is_pair -/
abbrev N_is_pair : List Str := ["value", "own_count", "other_count"]
theorem s_is_pair : FnScope N_is_pair ["value", "own_count", "other_count"] (defScope (top 33)) := ⟨rfl, rfl, rfl, by decide +kernel, rfl, by decide +kernel, by decide +kernel⟩
theorem v_is_pair_0 : Loc (defScope (top 33)) "value" := by first | exact .inl rfl | exact .inr rfl
theorem v_is_pair_1 : Loc (defScope (top 33)) "own_count" := by first | exact .inl rfl | exact .inr rfl
theorem v_is_pair_2 : Loc (defScope (top 33)) "other_count" := by first | exact .inl rfl | exact .inr rfl
def P_is_pair : Prt := fun k => ([] : List Nat).contains k
@[simp] theorem p_is_pair (k : Nat) : P_is_pair k = ([] : List Nat).contains k := rfl
def I_is_pair_1 : FS := fIfS (fTor (fTnot (fTst (slE (fCall 1 m_is_sequence [] (fAV (fVar 0) (fANil)))))) (fTst (fBin vNe (fOV (fUn vLen (fOB 0))) (fOV (fC (.int 2)))))) (fRet (fC (.bl false))) (fNext)
def b_is_pair : FS := fSeq (I_is_pair_1) (fRet (fAndV (slE (fCall 3 m_is_integer [] (fAV (fBin vIx (fOB 0) (fOV (fC (.int 0)))) (fAV (fC (.int 0)) (fAV (fBin vSub (fOB 1) (fOV (fC (.int 1)))) (fANil)))))) (slE (fCall 3 m_is_integer [] (fAV (fBin vIx (fOB 0) (fOV (fC (.int 1)))) (fAV (fC (.int 0)) (fAV (fBin vSub (fOB 2) (fOV (fC (.int 1)))) (fANil))))))))
def m_is_pair : List Sl → Option (Sl × List Sl) := runD P_is_pair N_is_pair.length b_is_pair
theorem k_is_pair (F : FunD x.K "is_pair" "is_pair" (defArgs (top 33)) (defBody (top 33)) (defScope (top 33)) [] [] f fd) (c_is_sequence : Cal Pr w x.K mg base x "is_sequence" 1 ["value"] 1 m_is_sequence []) (g_len : mg "len" = none) (c_is_integer : Cal Pr w x.K mg base x "is_integer" 1 ["value", "lowest", "highest"] 3 m_is_integer []) : FnOk Pr w x.K mg base CX0 (1 + 1) f fd ["value", "own_count", "other_count"] (spD x (["value", "own_count", "other_count"] : List Str).length (runD P_is_pair N_is_pair.length b_is_pair)) := by
  refine fn_d (Pr := Pr) (w := w) (mg := mg) (base := base) (κ := x) (N := N_is_pair) (k := 1) (P := P_is_pair) (b := b_is_pair) F s_is_pair (fun cdv A outer s H E hr => ?_)
  exact (bCons (sIf (dWT (dWor (dTnot (dTval (DR.toE (dCall ⟨fun _ => rfl, fun _ => rfl, fun _ => rfl, fun _ => rfl, fun _ => rfl, fun _ => hr, fun _ => rfl⟩ c_is_sequence (by omega) (fun _ => rfl) (aV (dVar 0 (fun _ => rfl) (fun _ => locVis v_is_pair_0)) aNil))) (by intro _ _; rfl))) (dWor1 (dTcmp (fun _ => op_neD hr.units) opd_ne (dOV (dB1 (fun _ => cr_len) und_len (fun _ => rfl) (fun _ => g_len) boot_len (dOB 0 (fun _ => rfl) (fun _ => locVis v_is_pair_0)))) (dOV dInt) rfl)))) (bOne (sRet dBl)) bNil)
    (bOne (sRet (dAndV (DR.toE (dCall ⟨fun _ => rfl, fun _ => rfl, fun _ => rfl, fun _ => rfl, fun _ => rfl, fun _ => hr, fun _ => rfl⟩ c_is_integer (by omega) (fun _ => rfl) (aV (dIxU (fun _ => rfl) (fun _ => un1 hr) (dOB 0 (fun _ => rfl) (fun _ => locVis v_is_pair_0)) (dOV dInt) (fun _ _ => rfl)) (aV dInt (aV (dBin (fun _ => op_sub) opd_sub (dOB 1 (fun _ => rfl) (fun _ => locVis v_is_pair_1)) (dOV dInt)) aNil))))) (dOne (DR.toE (dCall ⟨fun _ => rfl, fun _ => rfl, fun _ => rfl, fun _ => rfl, fun _ => rfl, fun _ => hr, fun _ => rfl⟩ c_is_integer (by omega) (fun _ => rfl) (aV (dIxU (fun _ => rfl) (fun _ => un1 hr) (dOB 0 (fun _ => rfl) (fun _ => locVis v_is_pair_0)) (dOV dInt) (fun _ _ => rfl)) (aV dInt (aV (dBin (fun _ => op_sub) opd_sub (dOB 2 (fun _ => rfl) (fun _ => locVis v_is_pair_2)) (dOV dInt)) aNil))))))))))
/-! is_mapping -/
abbrev N_is_mapping : List Str := ["value", "own_count", "other_count", "keys", "targets", "pair", "one", "other"]
theorem s_is_mapping : FnScope N_is_mapping ["value", "own_count", "other_count"] (defScope (top 34)) := ⟨rfl, rfl, rfl, by decide +kernel, rfl, by decide +kernel, by decide +kernel⟩
theorem v_is_mapping_0 : Loc (defScope (top 34)) "value" := by first | exact .inl rfl | exact .inr rfl
theorem v_is_mapping_1 : Loc (defScope (top 34)) "own_count" := by first | exact .inl rfl | exact .inr rfl
theorem v_is_mapping_2 : Loc (defScope (top 34)) "other_count" := by first | exact .inl rfl | exact .inr rfl
theorem v_is_mapping_3 : Loc (defScope (top 34)) "keys" := by first | exact .inl rfl | exact .inr rfl
theorem v_is_mapping_4 : Loc (defScope (top 34)) "targets" := by first | exact .inl rfl | exact .inr rfl
def P_is_mapping : Prt := fun k => ([] : List Nat).contains k
@[simp] theorem p_is_mapping (k : Nat) : P_is_mapping k = ([] : List Nat).contains k := rfl
def T_is_mapping_1 : FT := fYes
def E_is_mapping_1 : FE := slE (fCall 3 m_is_pair [] (fAV (fVar 5) (fAV (fVar 1) (fAV (fVar 2) (fANil)))))
def I_is_mapping_1 : FS := fIfS (fTor (fTnot (fTst (slE (fCall 1 m_is_sequence [] (fAV (fVar 0) (fANil)))))) (fTnot (fTst (fUn vAll (fOV (fLc [5] (fIt (fVar 0)) (gN 5) (T_is_mapping_1) (E_is_mapping_1))))))) (fRet (fC (.bl false))) (fNext)
def T_is_mapping_2 : FT := fYes
def E_is_mapping_2 : FE := fBin vIx (fOB 5) (fOV (fC (.int 0)))
def T_is_mapping_3 : FT := fYes
def E_is_mapping_3 : FE := fBin vIx (fOB 5) (fOV (fC (.int 1)))
def T_is_mapping_4 : FT := fYes
def E_is_mapping_4 : FE := fBin vLt (fOB 6) (fOB 7)
def b_is_mapping : FS := fSeq (I_is_mapping_1) (fSeq (fSet 3 (fLc [5] (fIt (fVar 0)) (gN 5) (T_is_mapping_2) (E_is_mapping_2))) (fSeq (fSet 4 (fLc [5] (fIt (fVar 0)) (gN 5) (T_is_mapping_3) (E_is_mapping_3))) (fRet (fAndV (fUn vAll (fOV (fLc [6, 7] (fZip (fCons (fVar 3) (fCons (fSl (fOB 3) (fPS (fC (.int 1))) (fPN)) (fNil)))) (gT 2 (gsCons (gN 6) (gsCons (gN 7) (gsNil)))) (T_is_mapping_4) (E_is_mapping_4)))) (fBin vEq (fOV (fUn vLenSet (fOB 4))) (fOV (fUn vLen (fOB 4))))))))
def m_is_mapping : List Sl → Option (Sl × List Sl) := runD P_is_mapping N_is_mapping.length b_is_mapping
theorem k_is_mapping (F : FunD x.K "is_mapping" "is_mapping" (defArgs (top 34)) (defBody (top 34)) (defScope (top 34)) [] [] f fd) (c_is_sequence : Cal Pr w x.K mg base x "is_sequence" 1 ["value"] 1 m_is_sequence []) (c_is_pair : Cal Pr w x.K mg base x "is_pair" 2 ["value", "own_count", "other_count"] 3 m_is_pair []) (g_all : mg "all" = none) (g_zip : mg "zip" = none) (g_len : mg "len" = none) (g_set : mg "set" = none) : FnOk Pr w x.K mg base CX0 (2 + 1) f fd ["value", "own_count", "other_count"] (spD x (["value", "own_count", "other_count"] : List Str).length (runD P_is_mapping N_is_mapping.length b_is_mapping)) := by
  refine fn_d (Pr := Pr) (w := w) (mg := mg) (base := base) (κ := x) (N := N_is_mapping) (k := 2) (P := P_is_mapping) (b := b_is_mapping) F s_is_mapping (fun cdv A outer s H E hr => ?_)
  exact (bCons (sIf (dWT (dWor (dTnot (dTval (DR.toE (dCall ⟨fun _ => rfl, fun _ => rfl, fun _ => rfl, fun _ => rfl, fun _ => rfl, fun _ => hr, fun _ => rfl⟩ c_is_sequence (by omega) (fun _ => rfl) (aV (dVar 0 (fun _ => rfl) (fun _ => locVis v_is_mapping_0)) aNil))) (by intro _ _; rfl))) (dWor1 (dTnot (dTval (dB1 (fun _ => cr_all rfl) und_all (fun _ => rfl) (fun _ => g_all) boot_all (dOV (dNE (dLc (own := [("pair", 5)]) (fun _ => rfl) (fun _ => s_is_mapping.nd) (iSeq_ (fun _ => rfl) (dVar 0 (fun _ => rfl) (fun _ => locVis v_is_mapping_0))) (fun _ => show BlkOk N_is_mapping (defScope (top 34)) _ [("pair", 5)] from ⟨rfl, by decide +kernel, by decide +kernel, by decide +kernel, by decide +kernel⟩) (gName_ 5 rfl (fun _ => s_is_mapping.nd) (fun _ => rfl) (fun _ => by first | exact .inl rfl | exact .inr rfl) (hf := (fun _ => by first | exact .inl rfl | exact .inr rfl))) tsNil (DR.toE (dCall ⟨fun _ => rfl, fun _ => rfl, fun _ => rfl, fun _ => rfl, fun _ => rfl, fun _ => hr, fun _ => rfl⟩ c_is_pair (by omega) (fun _ => rfl) (aV (dVar 5 (fun _ => rfl) (fun _ => by first | exact .inl rfl | exact .inr (.inl rfl) | exact .inr (.inr rfl))) (aV (dVar 1 (fun _ => rfl) (fun _ => by first | exact .inl rfl | exact .inr (.inl rfl) | exact .inr (.inr rfl))) (aV (dVar 2 (fun _ => rfl) (fun _ => by first | exact .inl rfl | exact .inr (.inl rfl) | exact .inr (.inr rfl))) aNil))))))))) (by intro _ _; rfl)))))) (bOne (sRet dBl)) bNil)
    (bCons (by first | exact sSetLc (own := [("pair", 5)]) 3 rfl (fun _ => rfl) (fun _ => s_is_mapping.nd) (fun _ => rfl) (fun _ => rfl) (fun _ => rfl) (iSeq_ (fun _ => rfl) (dVar 0 (fun _ => rfl) (fun _ => locVis v_is_mapping_0))) (fun _ => show BlkOk N_is_mapping (defScope (top 34)) _ [("pair", 5)] from ⟨rfl, by decide +kernel, by decide +kernel, by decide +kernel, by decide +kernel⟩) (gName_ 5 rfl (fun _ => s_is_mapping.nd) (fun _ => rfl) (fun _ => by first | exact .inl rfl | exact .inr rfl) (hf := (fun _ => by first | exact .inl rfl | exact .inr rfl))) tsNil (dIxU (fun _ => rfl) (fun _ => un1 hr) (dOB 5 (fun _ => rfl) (fun _ => by first | exact .inl rfl | exact .inr (.inl rfl) | exact .inr (.inr rfl))) (dOV dInt) (fun _ _ => rfl)) | exact sSet 3 rfl (fun _ => s_is_mapping.nd) (fun _ => rfl) (fun _ => v_is_mapping_3) (dNE (dLc (own := [("pair", 5)]) (fun _ => rfl) (fun _ => s_is_mapping.nd) (iSeq_ (fun _ => rfl) (dVar 0 (fun _ => rfl) (fun _ => locVis v_is_mapping_0))) (fun _ => show BlkOk N_is_mapping (defScope (top 34)) _ [("pair", 5)] from ⟨rfl, by decide +kernel, by decide +kernel, by decide +kernel, by decide +kernel⟩) (gName_ 5 rfl (fun _ => s_is_mapping.nd) (fun _ => rfl) (fun _ => by first | exact .inl rfl | exact .inr rfl) (hf := (fun _ => by first | exact .inl rfl | exact .inr rfl))) tsNil (dIxU (fun _ => rfl) (fun _ => un1 hr) (dOB 5 (fun _ => rfl) (fun _ => by first | exact .inl rfl | exact .inr (.inl rfl) | exact .inr (.inr rfl))) (dOV dInt) (fun _ _ => rfl)))))
    (bCons (by first | exact sSetLc (own := [("pair", 5)]) 4 rfl (fun _ => rfl) (fun _ => s_is_mapping.nd) (fun _ => rfl) (fun _ => rfl) (fun _ => rfl) (iSeq_ (fun _ => rfl) (dVar 0 (fun _ => rfl) (fun _ => locVis v_is_mapping_0))) (fun _ => show BlkOk N_is_mapping (defScope (top 34)) _ [("pair", 5)] from ⟨rfl, by decide +kernel, by decide +kernel, by decide +kernel, by decide +kernel⟩) (gName_ 5 rfl (fun _ => s_is_mapping.nd) (fun _ => rfl) (fun _ => by first | exact .inl rfl | exact .inr rfl) (hf := (fun _ => by first | exact .inl rfl | exact .inr rfl))) tsNil (dIxU (fun _ => rfl) (fun _ => un1 hr) (dOB 5 (fun _ => rfl) (fun _ => by first | exact .inl rfl | exact .inr (.inl rfl) | exact .inr (.inr rfl))) (dOV dInt) (fun _ _ => rfl)) | exact sSet 4 rfl (fun _ => s_is_mapping.nd) (fun _ => rfl) (fun _ => v_is_mapping_4) (dNE (dLc (own := [("pair", 5)]) (fun _ => rfl) (fun _ => s_is_mapping.nd) (iSeq_ (fun _ => rfl) (dVar 0 (fun _ => rfl) (fun _ => locVis v_is_mapping_0))) (fun _ => show BlkOk N_is_mapping (defScope (top 34)) _ [("pair", 5)] from ⟨rfl, by decide +kernel, by decide +kernel, by decide +kernel, by decide +kernel⟩) (gName_ 5 rfl (fun _ => s_is_mapping.nd) (fun _ => rfl) (fun _ => by first | exact .inl rfl | exact .inr rfl) (hf := (fun _ => by first | exact .inl rfl | exact .inr rfl))) tsNil (dIxU (fun _ => rfl) (fun _ => un1 hr) (dOB 5 (fun _ => rfl) (fun _ => by first | exact .inl rfl | exact .inr (.inl rfl) | exact .inr (.inr rfl))) (dOV dInt) (fun _ _ => rfl)))))
    (bOne (sRet (dAndV (dB1 (fun _ => cr_all rfl) und_all (fun _ => rfl) (fun _ => g_all) boot_all (dOV (dNE (dLc (own := [("one", 6), ("other", 7)]) (fun _ => rfl) (fun _ => s_is_mapping.nd) (iZip_ (fun _ => rfl) (fun _ => rfl) (fun _ => g_zip) (dCons (dVar 3 (fun _ => rfl) (fun _ => locVis v_is_mapping_3)) (dCons (dNE (dSlN (fun _ => rfl) (dOB 3 (fun _ => rfl) (fun _ => locVis v_is_mapping_3)) (dPS dInt) dPN)) dNil))) (fun _ => show BlkOk N_is_mapping (defScope (top 34)) _ [("one", 6), ("other", 7)] from ⟨rfl, by decide +kernel, by decide +kernel, by decide +kernel, by decide +kernel⟩) (gTup_ (fun _ => rfl) (fun _ => rfl) (gsCons_ (gName_ 6 rfl (fun _ => s_is_mapping.nd) (fun _ => rfl) (fun _ => by first | exact .inl rfl | exact .inr rfl) (hf := (fun _ => by first | exact .inl rfl | exact .inr rfl))) (gsCons_ (gName_ 7 rfl (fun _ => s_is_mapping.nd) (fun _ => rfl) (fun _ => by first | exact .inl rfl | exact .inr rfl) (hf := (fun _ => by first | exact .inl rfl | exact .inr rfl))) gsNil_))) tsNil (dCmp (fun _ => op_lt) opd_lt (dOB 6 (fun _ => rfl) (fun _ => by first | exact .inl rfl | exact .inr (.inl rfl) | exact .inr (.inr rfl))) (dOB 7 (fun _ => rfl) (fun _ => by first | exact .inl rfl | exact .inr (.inl rfl) | exact .inr (.inr rfl))) rfl))))) (dOne (dCmp (fun _ => op_eqD hr.units) opd_eq (dOV (dLenSet (fun _ => rfl) (fun _ => rfl) (fun _ => rfl) (fun _ => g_len) (fun _ => rfl) (fun _ => g_set) (dOB 4 (fun _ => rfl) (fun _ => locVis v_is_mapping_4)))) (dOV (dB1 (fun _ => cr_len) und_len (fun _ => rfl) (fun _ => g_len) boot_len (dOB 4 (fun _ => rfl) (fun _ => locVis v_is_mapping_4)))) rfl))))))))
/-! concatenate -/
abbrev N_concatenate : List Str := ["first", "second", "mapping", "one", "two", "count", "mapped", "pair", "symbol"]
theorem s_concatenate : FnScope N_concatenate ["first", "second", "mapping"] (defScope (top 35)) := ⟨rfl, rfl, rfl, by decide +kernel, rfl, by decide +kernel, by decide +kernel⟩
theorem v_concatenate_0 : Loc (defScope (top 35)) "first" := by first | exact .inl rfl | exact .inr rfl
theorem v_concatenate_1 : Loc (defScope (top 35)) "second" := by first | exact .inl rfl | exact .inr rfl
theorem v_concatenate_2 : Loc (defScope (top 35)) "mapping" := by first | exact .inl rfl | exact .inr rfl
theorem v_concatenate_3 : Loc (defScope (top 35)) "one" := by first | exact .inl rfl | exact .inr rfl
theorem v_concatenate_4 : Loc (defScope (top 35)) "two" := by first | exact .inl rfl | exact .inr rfl
theorem v_concatenate_5 : Loc (defScope (top 35)) "count" := by first | exact .inl rfl | exact .inr rfl
theorem v_concatenate_6 : Loc (defScope (top 35)) "mapped" := by first | exact .inl rfl | exact .inr rfl
def P_concatenate : Prt := fun k => ([] : List Nat).contains k
@[simp] theorem p_concatenate (k : Nat) : P_concatenate k = ([] : List Nat).contains k := rfl
def I_concatenate_1 : FS := fIfS (fTnot (fTst (slE (fCall 3 m_is_mapping [] (fAV (fVar 2) (fAV (slE (fCall 1 m_symbol_count [] (fAV (fVar 4) (fANil)))) (fAV (fVar 5) (fANil)))))))) (fNo) (fNext)
def I_concatenate_2 : FS := fIfS (fTst (fBin vGt (fOV (fBin vAdd (fOV (fUn vLen (fOB 3))) (fOV (fUn vLen (fOB 4))))) (fOV (fC (.int (400)))))) (fNo) (fNext)
def T_concatenate_1 : FT := fYes
def Y_concatenate_1 : FE := fBin vIx (fOB 7) (fOV (fC (.int 0)))
def E_concatenate_1 : FE := fBin vIx (fOB 7) (fOV (fC (.int 1)))
def T_concatenate_2 : FT := fYes
def E_concatenate_2 : FE := fGet2 (fOB 6) (fVar 8) (fBin vAdd (fOB 5) (fOB 8))
def b_concatenate : FS := fSeq (fPar 3 4 (fCons (slE (fCall 1 m_checked_distances [] (fAV (fVar 0) (fANil)))) (fCons (slE (fCall 1 m_checked_distances [] (fAV (fVar 1) (fANil)))) (fNil)))) (fSeq (fSet 5 (slE (fCall 1 m_symbol_count [] (fAV (fVar 3) (fANil))))) (fSeq (I_concatenate_1) (fSeq (I_concatenate_2) (fSeq (fSet 6 (fDc [7] (fIt (fVar 2)) (gN 7) (T_concatenate_1) (Y_concatenate_1) (E_concatenate_1))) (fRet (slE (fCall 1 m_distances_by [] (fAV (fBin vAdd (fOV (slE (fCall 1 m_ids_of [] (fAV (fVar 3) (fANil))))) (fOV (fLc [8] (fIt (slE (fCall 1 m_ids_of [] (fAV (fVar 4) (fANil))))) (gN 8) (T_concatenate_2) (E_concatenate_2)))) (fANil)))))))))
def m_concatenate : List Sl → Option (Sl × List Sl) := runD P_concatenate N_concatenate.length b_concatenate
theorem k_concatenate (F : FunD x.K "concatenate" "concatenate" (defArgs (top 35)) (defBody (top 35)) (defScope (top 35)) [] [] f fd) (c_checked_distances : Cal Pr w x.K mg base x "checked_distances" 3 ["distances"] 1 m_checked_distances []) (c_symbol_count : Cal Pr w x.K mg base x "symbol_count" 1 ["distances"] 1 m_symbol_count []) (c_is_mapping : Cal Pr w x.K mg base x "is_mapping" 3 ["value", "own_count", "other_count"] 3 m_is_mapping []) (g_len : mg "len" = none) (q_MAX_POSITIONS : ∃ u, mg "MAX_POSITIONS" = some u ∧ RelV (.int (400)) u) (c_distances_by : Cal Pr w x.K mg base x "distances_by" 1 ["symbols"] 1 m_distances_by []) (c_ids_of : Cal Pr w x.K mg base x "ids_of" 1 ["distances"] 1 m_ids_of []) : FnOk Pr w x.K mg base CX0 (3 + 1) f fd ["first", "second", "mapping"] (spD x (["first", "second", "mapping"] : List Str).length (runD P_concatenate N_concatenate.length b_concatenate)) := by
  refine fn_d (Pr := Pr) (w := w) (mg := mg) (base := base) (κ := x) (N := N_concatenate) (k := 3) (P := P_concatenate) (b := b_concatenate) F s_concatenate (fun cdv A outer s H E hr => ?_)
  exact (bCons (sPar 3 4 rfl rfl (fun _ => rfl) (fun _ => s_concatenate.nd) (fun _ => rfl) (fun _ => rfl) (by decide) (fun _ => rfl) (fun _ => rfl) (dCons (DR.toE (dCall ⟨fun _ => rfl, fun _ => rfl, fun _ => rfl, fun _ => rfl, fun _ => rfl, fun _ => hr, fun _ => rfl⟩ c_checked_distances (by omega) (fun _ => rfl) (aV (dVar 0 (fun _ => rfl) (fun _ => locVis v_concatenate_0)) aNil))) (dCons (DR.toE (dCall ⟨fun _ => rfl, fun _ => rfl, fun _ => rfl, fun _ => rfl, fun _ => rfl, fun _ => hr, fun _ => rfl⟩ c_checked_distances (by omega) (fun _ => rfl) (aV (dVar 1 (fun _ => rfl) (fun _ => locVis v_concatenate_1)) aNil))) dNil)) (fun _ => rfl))
    (bCons (sSet 5 rfl (fun _ => s_concatenate.nd) (fun _ => rfl) (fun _ => v_concatenate_5) (DR.toE (dCall ⟨fun _ => rfl, fun _ => rfl, fun _ => rfl, fun _ => rfl, fun _ => rfl, fun _ => hr, fun _ => rfl⟩ c_symbol_count (by omega) (fun _ => rfl) (aV (dVar 3 (fun _ => rfl) (fun _ => locVis v_concatenate_3)) aNil))))
    (bCons (sIf (dTnot (dTval (DR.toE (dCall ⟨fun _ => rfl, fun _ => rfl, fun _ => rfl, fun _ => rfl, fun _ => rfl, fun _ => hr, fun _ => rfl⟩ c_is_mapping (by omega) (fun _ => rfl) (aV (dVar 2 (fun _ => rfl) (fun _ => locVis v_concatenate_2)) (aV (DR.toE (dCall ⟨fun _ => rfl, fun _ => rfl, fun _ => rfl, fun _ => rfl, fun _ => rfl, fun _ => hr, fun _ => rfl⟩ c_symbol_count (by omega) (fun _ => rfl) (aV (dVar 4 (fun _ => rfl) (fun _ => locVis v_concatenate_4)) aNil))) (aV (dVar 5 (fun _ => rfl) (fun _ => locVis v_concatenate_5)) aNil))))) (by intro _ _; rfl))) bNo bNil)
    (bCons (sIf (dTcmp (fun _ => op_gt) opd_gt (dOV (dBin (fun _ => opr_add) opd_add (dOV (dB1 (fun _ => cr_len) und_len (fun _ => rfl) (fun _ => g_len) boot_len (dOB 3 (fun _ => rfl) (fun _ => locVis v_concatenate_3)))) (dOV (dB1 (fun _ => cr_len) und_len (fun _ => rfl) (fun _ => g_len) boot_len (dOB 4 (fun _ => rfl) (fun _ => locVis v_concatenate_4)))))) (dOV (dGc (d := .int (400)) (v := .int (400)) (fun _ => .int _) (fun _ => rfl) (fun _ => q_MAX_POSITIONS))) rfl) bNo bNil)
    (bCons (sSet 6 rfl (fun _ => s_concatenate.nd) (fun _ => rfl) (fun _ => v_concatenate_6) (dNE (dDc (own := [("pair", 7)]) (fun _ => rfl) (fun _ => s_concatenate.nd) (iSeq_ (fun _ => rfl) (dVar 2 (fun _ => rfl) (fun _ => locVis v_concatenate_2))) (fun _ => show BlkOk N_concatenate (defScope (top 35)) _ [("pair", 7)] from ⟨rfl, by decide +kernel, by decide +kernel, by decide +kernel, by decide +kernel⟩) (gName_ 7 rfl (fun _ => s_concatenate.nd) (fun _ => rfl) (fun _ => by first | exact .inl rfl | exact .inr rfl) (hf := (fun _ => by first | exact .inl rfl | exact .inr rfl))) tsNil (dIxU (fun _ => rfl) (fun _ => un1 hr) (dOB 7 (fun _ => rfl) (fun _ => by first | exact .inl rfl | exact .inr (.inl rfl) | exact .inr (.inr rfl))) (dOV dInt) (fun _ _ => rfl)) (dIxU (fun _ => rfl) (fun _ => un1 hr) (dOB 7 (fun _ => rfl) (fun _ => by first | exact .inl rfl | exact .inr (.inl rfl) | exact .inr (.inr rfl))) (dOV dInt) (fun _ _ => rfl)))))
    (bOne (sRet (DR.toE (dCall ⟨fun _ => rfl, fun _ => rfl, fun _ => rfl, fun _ => rfl, fun _ => rfl, fun _ => hr, fun _ => rfl⟩ c_distances_by (by omega) (fun _ => rfl) (aV (dBin (fun _ => opr_add) opd_add (dOV (DR.toE (dCall ⟨fun _ => rfl, fun _ => rfl, fun _ => rfl, fun _ => rfl, fun _ => rfl, fun _ => hr, fun _ => rfl⟩ c_ids_of (by omega) (fun _ => rfl) (aV (dVar 3 (fun _ => rfl) (fun _ => locVis v_concatenate_3)) aNil)))) (dOV (dNE (dLc (own := [("symbol", 8)]) (fun _ => rfl) (fun _ => s_concatenate.nd) (iSeq_ (fun _ => rfl) (DR.toE (dCall ⟨fun _ => rfl, fun _ => rfl, fun _ => rfl, fun _ => rfl, fun _ => rfl, fun _ => hr, fun _ => rfl⟩ c_ids_of (by omega) (fun _ => rfl) (aV (dVar 4 (fun _ => rfl) (fun _ => locVis v_concatenate_4)) aNil)))) (fun _ => show BlkOk N_concatenate (defScope (top 35)) _ [("symbol", 8)] from ⟨rfl, by decide +kernel, by decide +kernel, by decide +kernel, by decide +kernel⟩) (gName_ 8 rfl (fun _ => s_concatenate.nd) (fun _ => rfl) (fun _ => by first | exact .inl rfl | exact .inr rfl) (hf := (fun _ => by first | exact .inl rfl | exact .inr rfl))) tsNil (dGet2 (fun _ => un1 hr) (dOB 6 (fun _ => rfl) (fun _ => by first | exact .inl rfl | exact .inr (.inl rfl) | exact .inr (.inr rfl))) (dVar 8 (fun _ => rfl) (fun _ => by first | exact .inl rfl | exact .inr (.inl rfl) | exact .inr (.inr rfl))) (dBin (fun _ => opr_add) opd_add (dOB 5 (fun _ => rfl) (fun _ => by first | exact .inl rfl | exact .inr (.inl rfl) | exact .inr (.inr rfl))) (dOB 8 (fun _ => rfl) (fun _ => by first | exact .inl rfl | exact .inr (.inl rfl) | exact .inr (.inr rfl)))) (fun _ => ⟨rfl, rfl, rfl, rfl⟩)))))) aNil))))))))))
/-! count_mappings -/
abbrev N_count_mappings : List Str := ["first", "second", "one", "two", "found", "ways", "pairs"]
theorem s_count_mappings : FnScope N_count_mappings ["first", "second"] (defScope (top 36)) := ⟨rfl, rfl, rfl, by decide +kernel, rfl, by decide +kernel, by decide +kernel⟩
theorem v_count_mappings_0 : Loc (defScope (top 36)) "first" := by first | exact .inl rfl | exact .inr rfl
theorem v_count_mappings_1 : Loc (defScope (top 36)) "second" := by first | exact .inl rfl | exact .inr rfl
theorem v_count_mappings_2 : Loc (defScope (top 36)) "one" := by first | exact .inl rfl | exact .inr rfl
theorem v_count_mappings_3 : Loc (defScope (top 36)) "two" := by first | exact .inl rfl | exact .inr rfl
theorem v_count_mappings_4 : Loc (defScope (top 36)) "found" := by first | exact .inl rfl | exact .inr rfl
theorem v_count_mappings_5 : Loc (defScope (top 36)) "ways" := by first | exact .inl rfl | exact .inr rfl
theorem v_count_mappings_6 : Loc (defScope (top 36)) "pairs" := by first | exact .inl rfl | exact .inr rfl
def P_count_mappings : Prt := fun k => ([] : List Nat).contains k
@[simp] theorem p_count_mappings (k : Nat) : P_count_mappings k = ([] : List Nat).contains k := rfl
def L_count_mappings_1 : FS := fSeq (fAug 4 (fun i j => i + j) (fVar 5)) (fSet 5 (fBin vDiv (fOV (fBin vMul (fOV (fBin vMul (fOB 5) (fOV (fBin vSub (fOB 2) (fOB 6))))) (fOV (fBin vSub (fOB 3) (fOB 6))))) (fOV (fBin vAdd (fOB 6) (fOV (fC (.int 1)))))))
def b_count_mappings : FS := fSeq (fPar 2 3 (fCons (slE (fCall 1 m_symbol_count [] (fAV (slE (fCall 1 m_checked_distances [] (fAV (fVar 0) (fANil)))) (fANil)))) (fCons (slE (fCall 1 m_symbol_count [] (fAV (slE (fCall 1 m_checked_distances [] (fAV (fVar 1) (fANil)))) (fANil)))) (fNil)))) (fSeq (fSet 4 (fC (.int 0))) (fSeq (fSet 5 (fC (.int 1))) (fSeq (fFor (fRng1 (fCons (fBin vAdd (fOV (fBin vMin (fOB 2) (fOB 3))) (fOV (fC (.int 1)))) (fNil))) (gN 6) (L_count_mappings_1)) (fRet (fVar 4)))))
def m_count_mappings : List Sl → Option (Sl × List Sl) := runD P_count_mappings N_count_mappings.length b_count_mappings
theorem k_count_mappings (F : FunD x.K "count_mappings" "count_mappings" (defArgs (top 36)) (defBody (top 36)) (defScope (top 36)) [] [] f fd) (c_symbol_count : Cal Pr w x.K mg base x "symbol_count" 1 ["distances"] 1 m_symbol_count []) (c_checked_distances : Cal Pr w x.K mg base x "checked_distances" 3 ["distances"] 1 m_checked_distances []) (g_min : mg "min" = none) (g_range : mg "range" = none) : FnOk Pr w x.K mg base CX0 (3 + 1) f fd ["first", "second"] (spD x (["first", "second"] : List Str).length (runD P_count_mappings N_count_mappings.length b_count_mappings)) := by
  refine fn_d (Pr := Pr) (w := w) (mg := mg) (base := base) (κ := x) (N := N_count_mappings) (k := 3) (P := P_count_mappings) (b := b_count_mappings) F s_count_mappings (fun cdv A outer s H E hr => ?_)
  exact (bCons (sPar 2 3 rfl rfl (fun _ => rfl) (fun _ => s_count_mappings.nd) (fun _ => rfl) (fun _ => rfl) (by decide) (fun _ => rfl) (fun _ => rfl) (dCons (DR.toE (dCall ⟨fun _ => rfl, fun _ => rfl, fun _ => rfl, fun _ => rfl, fun _ => rfl, fun _ => hr, fun _ => rfl⟩ c_symbol_count (by omega) (fun _ => rfl) (aV (DR.toE (dCall ⟨fun _ => rfl, fun _ => rfl, fun _ => rfl, fun _ => rfl, fun _ => rfl, fun _ => hr, fun _ => rfl⟩ c_checked_distances (by omega) (fun _ => rfl) (aV (dVar 0 (fun _ => rfl) (fun _ => locVis v_count_mappings_0)) aNil))) aNil))) (dCons (DR.toE (dCall ⟨fun _ => rfl, fun _ => rfl, fun _ => rfl, fun _ => rfl, fun _ => rfl, fun _ => hr, fun _ => rfl⟩ c_symbol_count (by omega) (fun _ => rfl) (aV (DR.toE (dCall ⟨fun _ => rfl, fun _ => rfl, fun _ => rfl, fun _ => rfl, fun _ => rfl, fun _ => hr, fun _ => rfl⟩ c_checked_distances (by omega) (fun _ => rfl) (aV (dVar 1 (fun _ => rfl) (fun _ => locVis v_count_mappings_1)) aNil))) aNil))) dNil)) (fun _ => rfl))
    (bCons (sSet 4 rfl (fun _ => s_count_mappings.nd) (fun _ => rfl) (fun _ => v_count_mappings_4) dInt)
    (bCons (sSet 5 rfl (fun _ => s_count_mappings.nd) (fun _ => rfl) (fun _ => v_count_mappings_5) dInt)
    (bCons (sFor (fun _ => PassesOwn.never) (fun _ => rfl) (iRange1 (fun _ => rfl) (fun _ => g_range) (dCons (dBin (fun _ => opr_add) opd_add (dOV (dB2 (fun _ => call_min2 rfl) opd_min (fun _ => rfl) (fun _ => g_min) boot_min (dOB 2 (fun _ => rfl) (fun _ => locVis v_count_mappings_2)) (dOB 3 (fun _ => rfl) (fun _ => locVis v_count_mappings_3)))) (dOV dInt)) dNil)) (gName_ 6 rfl (fun _ => s_count_mappings.nd) (fun _ => rfl) (fun _ => v_count_mappings_6)) (bCons (sAug 4 (fun _ => ip_add) rfl (fun _ => s_count_mappings.nd) (fun _ => rfl) (fun _ => v_count_mappings_4) (dVar 5 (fun _ => rfl) (fun _ => locVis v_count_mappings_5)))
    (bOne (sSet 5 rfl (fun _ => s_count_mappings.nd) (fun _ => rfl) (fun _ => v_count_mappings_5) (dBin (fun _ => op_fdivW) opd_div (dOV (dBin (fun _ => opr_mul) opd_mul (dOV (dBin (fun _ => opr_mul) opd_mul (dOB 5 (fun _ => rfl) (fun _ => locVis v_count_mappings_5)) (dOV (dBin (fun _ => op_sub) opd_sub (dOB 2 (fun _ => rfl) (fun _ => locVis v_count_mappings_2)) (dOB 6 (fun _ => rfl) (fun _ => locVis v_count_mappings_6)))))) (dOV (dBin (fun _ => op_sub) opd_sub (dOB 3 (fun _ => rfl) (fun _ => locVis v_count_mappings_3)) (dOB 6 (fun _ => rfl) (fun _ => locVis v_count_mappings_6)))))) (dOV (dBin (fun _ => opr_add) opd_add (dOB 6 (fun _ => rfl) (fun _ => locVis v_count_mappings_6)) (dOV dInt))))))))
    (bOne (sRet (dVar 4 (fun _ => rfl) (fun _ => locVis v_count_mappings_4))))))))
/-! _law_mapping_count -/
abbrev N_law_mapping_count : List Str := ["_law_few", "_law_many", "_law_found", "_law_ways", "_law_k"]
theorem s_law_mapping_count : FnScope N_law_mapping_count ["_law_few", "_law_many"] (defScope (top 59)) := ⟨rfl, rfl, rfl, by decide +kernel, rfl, by decide +kernel, by decide +kernel⟩
theorem v_law_mapping_count_0 : Loc (defScope (top 59)) "_law_few" := by first | exact .inl rfl | exact .inr rfl
theorem v_law_mapping_count_1 : Loc (defScope (top 59)) "_law_many" := by first | exact .inl rfl | exact .inr rfl
theorem v_law_mapping_count_2 : Loc (defScope (top 59)) "_law_found" := by first | exact .inl rfl | exact .inr rfl
theorem v_law_mapping_count_3 : Loc (defScope (top 59)) "_law_ways" := by first | exact .inl rfl | exact .inr rfl
theorem v_law_mapping_count_4 : Loc (defScope (top 59)) "_law_k" := by first | exact .inl rfl | exact .inr rfl
def P_law_mapping_count : Prt := fun k => ([] : List Nat).contains k
@[simp] theorem p_law_mapping_count (k : Nat) : P_law_mapping_count k = ([] : List Nat).contains k := rfl
def L_law_mapping_count_1 : FS := fSeq (fSet 2 (fBin vAdd (fOB 2) (fOB 3))) (fSet 3 (fBin vDiv (fOV (fBin vMul (fOV (fBin vMul (fOB 3) (fOV (fBin vSub (fOB 0) (fOB 4))))) (fOV (fBin vSub (fOB 1) (fOB 4))))) (fOV (fBin vAdd (fOB 4) (fOV (fC (.int 1)))))))
def b_law_mapping_count : FS := fSeq (fSet 2 (fC (.int 0))) (fSeq (fSet 3 (fC (.int 1))) (fSeq (fFor (fRng1 (fCons (fBin vAdd (fOV (fBin vMin (fOB 0) (fOB 1))) (fOV (fC (.int 1)))) (fNil))) (gN 4) (L_law_mapping_count_1)) (fRet (fVar 2))))
def m_law_mapping_count : List Sl → Option (Sl × List Sl) := runD P_law_mapping_count N_law_mapping_count.length b_law_mapping_count
theorem k_law_mapping_count (F : FunD x.K "_law_mapping_count" "_law_mapping_count" (defArgs (top 59)) (defBody (top 59)) (defScope (top 59)) [] [] f fd) (g_min : mg "min" = none) (g_range : mg "range" = none) : FnOk Pr w x.K mg base CX0 (0 + 1) f fd ["_law_few", "_law_many"] (spD x (["_law_few", "_law_many"] : List Str).length (runD P_law_mapping_count N_law_mapping_count.length b_law_mapping_count)) := by
  refine fn_d (Pr := Pr) (w := w) (mg := mg) (base := base) (κ := x) (N := N_law_mapping_count) (k := 0) (P := P_law_mapping_count) (b := b_law_mapping_count) F s_law_mapping_count (fun cdv A outer s H E hr => ?_)
  exact (bCons (sSet 2 rfl (fun _ => s_law_mapping_count.nd) (fun _ => rfl) (fun _ => v_law_mapping_count_2) dInt)
    (bCons (sSet 3 rfl (fun _ => s_law_mapping_count.nd) (fun _ => rfl) (fun _ => v_law_mapping_count_3) dInt)
    (bCons (sFor (fun _ => PassesOwn.never) (fun _ => rfl) (iRange1 (fun _ => rfl) (fun _ => g_range) (dCons (dBin (fun _ => opr_add) opd_add (dOV (dB2 (fun _ => call_min2 rfl) opd_min (fun _ => rfl) (fun _ => g_min) boot_min (dOB 0 (fun _ => rfl) (fun _ => locVis v_law_mapping_count_0)) (dOB 1 (fun _ => rfl) (fun _ => locVis v_law_mapping_count_1)))) (dOV dInt)) dNil)) (gName_ 4 rfl (fun _ => s_law_mapping_count.nd) (fun _ => rfl) (fun _ => v_law_mapping_count_4)) (bCons (sSet 2 rfl (fun _ => s_law_mapping_count.nd) (fun _ => rfl) (fun _ => v_law_mapping_count_2) (dBin (fun _ => opr_add) opd_add (dOB 2 (fun _ => rfl) (fun _ => locVis v_law_mapping_count_2)) (dOB 3 (fun _ => rfl) (fun _ => locVis v_law_mapping_count_3))))
    (bOne (sSet 3 rfl (fun _ => s_law_mapping_count.nd) (fun _ => rfl) (fun _ => v_law_mapping_count_3) (dBin (fun _ => op_fdivW) opd_div (dOV (dBin (fun _ => opr_mul) opd_mul (dOV (dBin (fun _ => opr_mul) opd_mul (dOB 3 (fun _ => rfl) (fun _ => locVis v_law_mapping_count_3)) (dOV (dBin (fun _ => op_sub) opd_sub (dOB 0 (fun _ => rfl) (fun _ => locVis v_law_mapping_count_0)) (dOB 4 (fun _ => rfl) (fun _ => locVis v_law_mapping_count_4)))))) (dOV (dBin (fun _ => op_sub) opd_sub (dOB 1 (fun _ => rfl) (fun _ => locVis v_law_mapping_count_1)) (dOB 4 (fun _ => rfl) (fun _ => locVis v_law_mapping_count_4)))))) (dOV (dBin (fun _ => opr_add) opd_add (dOB 4 (fun _ => rfl) (fun _ => locVis v_law_mapping_count_4)) (dOV dInt))))))))
    (bOne (sRet (dVar 2 (fun _ => rfl) (fun _ => locVis v_law_mapping_count_2)))))))
/-! checked -/
abbrev N_checked_search : List Str := ["distances"]
theorem s_checked_search : FnScope N_checked_search ["distances"] (defScope (top 47)) := ⟨rfl, rfl, rfl, by decide +kernel, rfl, by decide +kernel, by decide +kernel⟩
theorem v_checked_search_0 : Loc (defScope (top 47)) "distances" := by first | exact .inl rfl | exact .inr rfl
def P_checked_search : Prt := fun k => ([] : List Nat).contains k
@[simp] theorem p_checked_search (k : Nat) : P_checked_search k = ([] : List Nat).contains k := rfl
def I_checked_search_1 : FS := fIfS (fTnot (fTst (slE (fCall 1 m_is_distances [] (fAV (fVar 0) (fANil)))))) (fNo) (fNext)
def b_checked_search : FS := fSeq (I_checked_search_1) (fRet (fUn vList (fOB 0)))
def m_checked_search : List Sl → Option (Sl × List Sl) := runD P_checked_search N_checked_search.length b_checked_search
theorem k_checked_search (F : FunD x.K "checked" "checked" (defArgs (top 47)) (defBody (top 47)) (defScope (top 47)) [] [] f fd) (c_is_distances : Cal Pr w x.K mg base x "is_distances" 2 ["value"] 1 m_is_distances []) (g_list : mg "list" = none) : FnOk Pr w x.K mg base CX0 (2 + 1) f fd ["distances"] (spD x (["distances"] : List Str).length (runD P_checked_search N_checked_search.length b_checked_search)) := by
  refine fn_d (Pr := Pr) (w := w) (mg := mg) (base := base) (κ := x) (N := N_checked_search) (k := 2) (P := P_checked_search) (b := b_checked_search) F s_checked_search (fun cdv A outer s H E hr => ?_)
  exact (bCons (sIf (dTnot (dTval (DR.toE (dCall ⟨fun _ => rfl, fun _ => rfl, fun _ => rfl, fun _ => rfl, fun _ => rfl, fun _ => hr, fun _ => rfl⟩ c_is_distances (by omega) (fun _ => rfl) (aV (dVar 0 (fun _ => rfl) (fun _ => locVis v_checked_search_0)) aNil))) (by intro _ _; rfl))) bNo bNil)
    (bOne (sRet (dNE (dT1N (fun _ => call_list_of) unn_list (fun _ => rfl) (fun _ => g_list) boot_list (dOB 0 (fun _ => rfl) (fun _ => locVis v_checked_search_0)))))))
/-! occurs_at -/
abbrev N_occurs_at : List Str := ["distances", "pattern", "start", "offset", "expected", "back"]
theorem s_occurs_at : FnScope N_occurs_at ["distances", "pattern", "start"] (defScope (top 49)) := ⟨rfl, rfl, rfl, by decide +kernel, rfl, by decide +kernel, by decide +kernel⟩
theorem v_occurs_at_0 : Loc (defScope (top 49)) "distances" := by first | exact .inl rfl | exact .inr rfl
theorem v_occurs_at_1 : Loc (defScope (top 49)) "pattern" := by first | exact .inl rfl | exact .inr rfl
theorem v_occurs_at_2 : Loc (defScope (top 49)) "start" := by first | exact .inl rfl | exact .inr rfl
theorem v_occurs_at_3 : Loc (defScope (top 49)) "offset" := by first | exact .inl rfl | exact .inr rfl
theorem v_occurs_at_4 : Loc (defScope (top 49)) "expected" := by first | exact .inl rfl | exact .inr rfl
theorem v_occurs_at_5 : Loc (defScope (top 49)) "back" := by first | exact .inl rfl | exact .inr rfl
def P_occurs_at : Prt := fun k => ([] : List Nat).contains k
@[simp] theorem p_occurs_at (k : Nat) : P_occurs_at k = ([] : List Nat).contains k := rfl
def I_occurs_at_1 : FS := fIfS (fTst (fBin vNe (fOV (fIf (fTst (fBin vLeU (fOB 5) (fOB 3))) (fVar 5) (fC (.int 0)))) (fOB 4))) (fRet (fC (.bl false))) (fNext)
def L_occurs_at_1 : FS := fSeq (fSet 5 (fBin vIx (fOB 0) (fOV (fBin vAdd (fOB 2) (fOB 3))))) (I_occurs_at_1)
def b_occurs_at : FS := fSeq (fFor (fEnum (fCons (fVar 1) (fNil))) (gT 2 (gsCons (gN 3) (gsCons (gN 4) (gsNil)))) (L_occurs_at_1)) (fRet (fC (.bl true)))
def m_occurs_at : List Sl → Option (Sl × List Sl) := runD P_occurs_at N_occurs_at.length b_occurs_at
theorem k_occurs_at (F : FunD x.K "occurs_at" "occurs_at" (defArgs (top 49)) (defBody (top 49)) (defScope (top 49)) [] [] f fd) (g_enumerate : mg "enumerate" = none) : FnOk Pr w x.K mg base CX0 (0 + 1) f fd ["distances", "pattern", "start"] (spD x (["distances", "pattern", "start"] : List Str).length (runD P_occurs_at N_occurs_at.length b_occurs_at)) := by
  refine fn_d (Pr := Pr) (w := w) (mg := mg) (base := base) (κ := x) (N := N_occurs_at) (k := 0) (P := P_occurs_at) (b := b_occurs_at) F s_occurs_at (fun cdv A outer s H E hr => ?_)
  exact (bCons (sFor (fun _ => PassesOwn.never) (fun _ => rfl) (iEnum_ (fun _ => rfl) (fun _ => rfl) (fun _ => g_enumerate) (dCons (dVar 1 (fun _ => rfl) (fun _ => locVis v_occurs_at_1)) dNil)) (gTup_ (fun _ => rfl) (fun _ => rfl) (gsCons_ (gName_ 3 rfl (fun _ => s_occurs_at.nd) (fun _ => rfl) (fun _ => v_occurs_at_3)) (gsCons_ (gName_ 4 rfl (fun _ => s_occurs_at.nd) (fun _ => rfl) (fun _ => v_occurs_at_4)) gsNil_))) (bCons (sSet 5 rfl (fun _ => s_occurs_at.nd) (fun _ => rfl) (fun _ => v_occurs_at_5) (dIxU (fun _ => rfl) (fun _ => un1 hr) (dOB 0 (fun _ => rfl) (fun _ => locVis v_occurs_at_0)) (dOV (dBin (fun _ => opr_add) opd_add (dOB 2 (fun _ => rfl) (fun _ => locVis v_occurs_at_2)) (dOB 3 (fun _ => rfl) (fun _ => locVis v_occurs_at_3)))) (fun _ _ => rfl)))
    (bOne (sIf (dTcmp (fun _ => op_neD hr.units) opd_ne (dOV (dIf (dTcmp (fun _ => op_leU (Nat.lt_of_succ_lt (un1 hr))) opd_leU (dOB 5 (fun _ => rfl) (fun _ => locVis v_occurs_at_5)) (dOB 3 (fun _ => rfl) (fun _ => locVis v_occurs_at_3)) rfl) (dVar 5 (fun _ => rfl) (fun _ => locVis v_occurs_at_5)) dInt)) (dOB 4 (fun _ => rfl) (fun _ => locVis v_occurs_at_4)) rfl) (bOne (sRet dBl)) bNil))))
    (bOne (sRet dBl)))
/-! find_all -/
abbrev N_find_all : List Str := ["distances", "pattern", "text", "wanted", "start"]
theorem s_find_all : FnScope N_find_all ["distances", "pattern"] (defScope (top 50)) := ⟨rfl, rfl, rfl, by decide +kernel, rfl, by decide +kernel, by decide +kernel⟩
theorem v_find_all_0 : Loc (defScope (top 50)) "distances" := by first | exact .inl rfl | exact .inr rfl
theorem v_find_all_1 : Loc (defScope (top 50)) "pattern" := by first | exact .inl rfl | exact .inr rfl
theorem v_find_all_2 : Loc (defScope (top 50)) "text" := by first | exact .inl rfl | exact .inr rfl
theorem v_find_all_3 : Loc (defScope (top 50)) "wanted" := by first | exact .inl rfl | exact .inr rfl
def P_find_all : Prt := fun k => ([] : List Nat).contains k
@[simp] theorem p_find_all (k : Nat) : P_find_all k = ([] : List Nat).contains k := rfl
def T_find_all_1 : FT := fTst (slE (fCall 3 m_occurs_at [] (fAV (fVar 2) (fAV (fVar 3) (fAV (fVar 4) (fANil))))))
def E_find_all_1 : FE := fVar 4
def b_find_all : FS := fSeq (fAsg (gT 2 (gsCons (gN 2) (gsCons (gN 3) (gsNil)))) (fTup (fCons (slE (fCall 1 m_checked_search [] (fAV (fVar 0) (fANil)))) (fCons (slE (fCall 1 m_checked_search [] (fAV (fVar 1) (fANil)))) (fNil))))) (fRet (fLc [4] (fRng1 (fCons (fBin vAdd (fOV (fBin vSub (fOV (fUn vLen (fOB 2))) (fOV (fUn vLen (fOB 3))))) (fOV (fC (.int 1)))) (fNil))) (gN 4) (T_find_all_1) (E_find_all_1)))
def m_find_all : List Sl → Option (Sl × List Sl) := runD P_find_all N_find_all.length b_find_all
theorem k_find_all (F : FunD x.K "find_all" "find_all" (defArgs (top 50)) (defBody (top 50)) (defScope (top 50)) [] [] f fd) (c_checked_search : Cal Pr w x.K mg base x "checked_search" 3 ["distances"] 1 m_checked_search []) (g_len : mg "len" = none) (g_range : mg "range" = none) (c_occurs_at : Cal Pr w x.K mg base x "occurs_at" 1 ["distances", "pattern", "start"] 3 m_occurs_at []) : FnOk Pr w x.K mg base CX0 (3 + 1) f fd ["distances", "pattern"] (spD x (["distances", "pattern"] : List Str).length (runD P_find_all N_find_all.length b_find_all)) := by
  refine fn_d (Pr := Pr) (w := w) (mg := mg) (base := base) (κ := x) (N := N_find_all) (k := 3) (P := P_find_all) (b := b_find_all) F s_find_all (fun cdv A outer s H E hr => ?_)
  exact (bCons (sAsg (dTup (dCons (DR.toE (dCall ⟨fun _ => rfl, fun _ => rfl, fun _ => rfl, fun _ => rfl, fun _ => rfl, fun _ => hr, fun _ => rfl⟩ c_checked_search (by omega) (fun _ => rfl) (aV (dVar 0 (fun _ => rfl) (fun _ => locVis v_find_all_0)) aNil))) (dCons (DR.toE (dCall ⟨fun _ => rfl, fun _ => rfl, fun _ => rfl, fun _ => rfl, fun _ => rfl, fun _ => hr, fun _ => rfl⟩ c_checked_search (by omega) (fun _ => rfl) (aV (dVar 1 (fun _ => rfl) (fun _ => locVis v_find_all_1)) aNil))) dNil))) (gTup_ (fun _ => rfl) (fun _ => rfl) (gsCons_ (gName_ 2 rfl (fun _ => s_find_all.nd) (fun _ => rfl) (fun _ => v_find_all_2)) (gsCons_ (gName_ 3 rfl (fun _ => s_find_all.nd) (fun _ => rfl) (fun _ => v_find_all_3)) gsNil_))))
    (bOne (sRet (dNE (dLc (own := [("start", 4)]) (fun _ => rfl) (fun _ => s_find_all.nd) (iRange1 (fun _ => rfl) (fun _ => g_range) (dCons (dBin (fun _ => opr_add) opd_add (dOV (dBin (fun _ => op_sub) opd_sub (dOV (dB1 (fun _ => cr_len) und_len (fun _ => rfl) (fun _ => g_len) boot_len (dOB 2 (fun _ => rfl) (fun _ => locVis v_find_all_2)))) (dOV (dB1 (fun _ => cr_len) und_len (fun _ => rfl) (fun _ => g_len) boot_len (dOB 3 (fun _ => rfl) (fun _ => locVis v_find_all_3)))))) (dOV dInt)) dNil)) (fun _ => show BlkOk N_find_all (defScope (top 50)) _ [("start", 4)] from ⟨rfl, by decide +kernel, by decide +kernel, by decide +kernel, by decide +kernel⟩) (gName_ 4 rfl (fun _ => s_find_all.nd) (fun _ => rfl) (fun _ => by first | exact .inl rfl | exact .inr rfl) (hf := (fun _ => by first | exact .inl rfl | exact .inr rfl))) (tsOne (dTval (DR.toE (dCall ⟨fun _ => rfl, fun _ => rfl, fun _ => rfl, fun _ => rfl, fun _ => rfl, fun _ => hr, fun _ => rfl⟩ c_occurs_at (by omega) (fun _ => rfl) (aV (dVar 2 (fun _ => rfl) (fun _ => by first | exact .inl rfl | exact .inr (.inl rfl) | exact .inr (.inr rfl))) (aV (dVar 3 (fun _ => rfl) (fun _ => by first | exact .inl rfl | exact .inr (.inl rfl) | exact .inr (.inr rfl))) (aV (dVar 4 (fun _ => rfl) (fun _ => by first | exact .inl rfl | exact .inr (.inl rfl) | exact .inr (.inr rfl))) aNil))))) (by intro _ _; rfl))) (dVar 4 (fun _ => rfl) (fun _ => by first | exact .inl rfl | exact .inr (.inl rfl) | exact .inr (.inr rfl))))))))
/-! next_distances -/
abbrev N_next_distances : List Str := ["distances", "own", "found", "position", "entry"]
theorem s_next_distances : FnScope N_next_distances ["distances"] (defScope (top 38)) := ⟨rfl, rfl, rfl, by decide +kernel, rfl, by decide +kernel, by decide +kernel⟩
theorem v_next_distances_0 : Loc (defScope (top 38)) "distances" := by first | exact .inl rfl | exact .inr rfl
theorem v_next_distances_1 : Loc (defScope (top 38)) "own" := by first | exact .inl rfl | exact .inr rfl
theorem v_next_distances_2 : Loc (defScope (top 38)) "found" := by first | exact .inl rfl | exact .inr rfl
theorem v_next_distances_3 : Loc (defScope (top 38)) "position" := by first | exact .inl rfl | exact .inr rfl
theorem v_next_distances_4 : Loc (defScope (top 38)) "entry" := by first | exact .inl rfl | exact .inr rfl
def P_next_distances : Prt := fun k => ([] : List Nat).contains k
@[simp] theorem p_next_distances (k : Nat) : P_next_distances k = ([] : List Nat).contains k := rfl
def T_next_distances_1 : FT := fYes
def E_next_distances_1 : FE := fC (.int 0)
def I_next_distances_1 : FS := fIfS (fTst (fBin vGt (fOB 4) (fOV (fC (.int 0))))) (fSetI 2 (fBin vSub (fOB 3) (fOB 4)) (fVar 4)) (fNext)
def L_next_distances_1 : FS := I_next_distances_1
def b_next_distances : FS := fSeq (fSet 1 (slE (fCall 1 m_checked_distances [] (fAV (fVar 0) (fANil))))) (fSeq (fSetN 2 (fLc [4] (fIt (fVar 1)) (gN 4) (T_next_distances_1) (E_next_distances_1))) (fSeq (fFor (fEnum (fCons (fVar 1) (fNil))) (gT 2 (gsCons (gN 3) (gsCons (gN 4) (gsNil)))) (L_next_distances_1)) (fRet (fVar 2))))
def m_next_distances : List Sl → Option (Sl × List Sl) := runD P_next_distances N_next_distances.length b_next_distances
theorem k_next_distances (F : FunD x.K "next_distances" "next_distances" (defArgs (top 38)) (defBody (top 38)) (defScope (top 38)) [] [] f fd) (c_checked_distances : Cal Pr w x.K mg base x "checked_distances" 3 ["distances"] 1 m_checked_distances []) (g_enumerate : mg "enumerate" = none) : FnOk Pr w x.K mg base CX0 (3 + 1) f fd ["distances"] (spD x (["distances"] : List Str).length (runD P_next_distances N_next_distances.length b_next_distances)) := by
  refine fn_d (Pr := Pr) (w := w) (mg := mg) (base := base) (κ := x) (N := N_next_distances) (k := 3) (P := P_next_distances) (b := b_next_distances) F s_next_distances (fun cdv A outer s H E hr => ?_)
  exact (bCons (sSet 1 rfl (fun _ => s_next_distances.nd) (fun _ => rfl) (fun _ => v_next_distances_1) (DR.toE (dCall ⟨fun _ => rfl, fun _ => rfl, fun _ => rfl, fun _ => rfl, fun _ => rfl, fun _ => hr, fun _ => rfl⟩ c_checked_distances (by omega) (fun _ => rfl) (aV (dVar 0 (fun _ => rfl) (fun _ => locVis v_next_distances_0)) aNil))))
    (bCons (by first | exact sSetLcN (own := [("entry", 4)]) 2 rfl (fun _ => rfl) (fun _ => s_next_distances.nd) (fun _ => rfl) (fun _ => rfl) (fun _ => rfl) (iSeq_ (fun _ => rfl) (dVar 1 (fun _ => rfl) (fun _ => locVis v_next_distances_1))) (fun _ => show BlkOk N_next_distances (defScope (top 38)) _ [("entry", 4)] from ⟨rfl, by decide +kernel, by decide +kernel, by decide +kernel, by decide +kernel⟩) (gName_ 4 rfl (fun _ => s_next_distances.nd) (fun _ => rfl) (fun _ => by first | exact .inl rfl | exact .inr rfl) (hf := (fun _ => by first | exact .inl rfl | exact .inr rfl))) tsNil dInt | exact sSetN 2 rfl (fun _ => s_next_distances.nd) (fun _ => rfl) (fun _ => v_next_distances_2) (dLc (own := [("entry", 4)]) (fun _ => rfl) (fun _ => s_next_distances.nd) (iSeq_ (fun _ => rfl) (dVar 1 (fun _ => rfl) (fun _ => locVis v_next_distances_1))) (fun _ => show BlkOk N_next_distances (defScope (top 38)) _ [("entry", 4)] from ⟨rfl, by decide +kernel, by decide +kernel, by decide +kernel, by decide +kernel⟩) (gName_ 4 rfl (fun _ => s_next_distances.nd) (fun _ => rfl) (fun _ => by first | exact .inl rfl | exact .inr rfl) (hf := (fun _ => by first | exact .inl rfl | exact .inr rfl))) tsNil dInt))
    (bCons (sFor (fun _ => PassesOwn.never) (fun _ => rfl) (iEnum_ (fun _ => rfl) (fun _ => rfl) (fun _ => g_enumerate) (dCons (dVar 1 (fun _ => rfl) (fun _ => locVis v_next_distances_1)) dNil)) (gTup_ (fun _ => rfl) (fun _ => rfl) (gsCons_ (gName_ 3 rfl (fun _ => s_next_distances.nd) (fun _ => rfl) (fun _ => v_next_distances_3)) (gsCons_ (gName_ 4 rfl (fun _ => s_next_distances.nd) (fun _ => rfl) (fun _ => v_next_distances_4)) gsNil_))) (bOne (sIf (dTcmp (fun _ => op_gt) opd_gt (dOB 4 (fun _ => rfl) (fun _ => locVis v_next_distances_4)) (dOV dInt) rfl) (bOne (sSetI 2 (fun _ => un1 hr) (fun _ => rfl) (fun _ => locVis v_next_distances_2) (dBin (fun _ => op_sub) opd_sub (dOB 3 (fun _ => rfl) (fun _ => locVis v_next_distances_3)) (dOB 4 (fun _ => rfl) (fun _ => locVis v_next_distances_4))) (dVar 4 (fun _ => rfl) (fun _ => locVis v_next_distances_4)))) bNil)))
    (bOne (sRet (dVar 2 (fun _ => rfl) (fun _ => locVis v_next_distances_2)))))))
/-! _law_windows_hold -/
abbrev N_law_windows_hold : List Str := ["_law_distances_here", "_law_position", "_law_one", "_law_other", "_law_link", "_law_counts", "_law_back"]
theorem s_law_windows_hold : FnScope N_law_windows_hold ["_law_distances_here", "_law_position"] (defScope (top 60)) := ⟨rfl, rfl, rfl, by decide +kernel, rfl, by decide +kernel, by decide +kernel⟩
theorem v_law_windows_hold_0 : Loc (defScope (top 60)) "_law_distances_here" := by first | exact .inl rfl | exact .inr rfl
theorem v_law_windows_hold_1 : Loc (defScope (top 60)) "_law_position" := by first | exact .inl rfl | exact .inr rfl
theorem v_law_windows_hold_2 : Loc (defScope (top 60)) "_law_one" := by first | exact .inl rfl | exact .inr rfl
theorem v_law_windows_hold_3 : Loc (defScope (top 60)) "_law_other" := by first | exact .inl rfl | exact .inr rfl
theorem v_law_windows_hold_4 : Loc (defScope (top 60)) "_law_link" := by first | exact .inl rfl | exact .inr rfl
theorem v_law_windows_hold_5 : Loc (defScope (top 60)) "_law_counts" := by first | exact .inl rfl | exact .inr rfl
theorem v_law_windows_hold_6 : Loc (defScope (top 60)) "_law_back" := by first | exact .inl rfl | exact .inr rfl
def P_law_windows_hold : Prt := fun k => ([] : List Nat).contains k
@[simp] theorem p_law_windows_hold (k : Nat) : P_law_windows_hold k = ([] : List Nat).contains k := rfl
def I_law_windows_hold_1 : FS := fIfS (fTst (fBin vNe (fOV (slE (fCall 3 m_concatenate [] (fAV (fVar 2) (fAV (fVar 3) (fAV (fVar 4) (fANil))))))) (fOB 0))) (fRet (fC (.bl false))) (fNext)
def I_law_windows_hold_2 : FS := fIfS (fTst (fBin vNe (fOV (slE (fCall 2 m_count_mappings [] (fAV (fVar 2) (fAV (fVar 3) (fANil)))))) (fOV (slE (fCall 2 m_law_mapping_count [] (fAV (fBin vIx (fOB 5) (fOV (fC (.int 0)))) (fAV (fBin vIx (fOB 5) (fOV (fC (.int 1)))) (fANil)))))))) (fRet (fC (.bl false))) (fNext)
def I_law_windows_hold_3 : FS := fIfS (fTor (fTst (fBin vNe (fOV (slE (fCall 1 m_reversed_distances [] (fAV (fVar 6) (fANil))))) (fOB 0))) (fTst (fBin vNe (fOV (fUn vRev (fOV (slE (fCall 1 m_next_distances [] (fAV (fVar 0) (fANil))))))) (fOB 6)))) (fRet (fC (.bl false))) (fNext)
def I_law_windows_hold_4 : FS := fIfS (fTst (fBin vNe (fOV (slE (fCall 3 m_concatenate [] (fAV (slE (fCall 1 m_reversed_distances [] (fAV (fVar 3) (fANil)))) (fAV (slE (fCall 1 m_reversed_distances [] (fAV (fVar 2) (fANil)))) (fAV (fVar 4) (fANil))))))) (fOB 6))) (fRet (fC (.bl false))) (fNext)
def b_law_windows_hold : FS := fSeq (fPar 2 3 (fCons (slE (fCall 3 m_window [] (fAV (fVar 0) (fAV (fC (.int 0)) (fAV (fVar 1) (fANil)))))) (fCons (slE (fCall 3 m_window [] (fAV (fVar 0) (fAV (fVar 1) (fAV (fBin vSub (fOV (fUn vLen (fOB 0))) (fOB 1)) (fANil)))))) (fNil)))) (fSeq (fSet 4 (slE (fCall 2 m_law_own_mapping [] (fAV (fVar 0) (fAV (fVar 1) (fANil)))))) (fSeq (I_law_windows_hold_1) (fSeq (fSet 5 (fLst (fCons (slE (fCall 1 m_law_symbol_count [] (fAV (fVar 2) (fANil)))) (fCons (slE (fCall 1 m_law_symbol_count [] (fAV (fVar 3) (fANil)))) (fNil))))) (fSeq (I_law_windows_hold_2) (fSeq (fSet 6 (slE (fCall 1 m_reversed_distances [] (fAV (fVar 0) (fANil))))) (fSeq (I_law_windows_hold_3) (fSeq (fSet 4 (slE (fCall 2 m_law_own_mapping [] (fAV (fVar 6) (fAV (fBin vSub (fOV (fUn vLen (fOB 0))) (fOB 1)) (fANil)))))) (fSeq (I_law_windows_hold_4) (fRet (fAndV (fBin vIn (fOB 1) (fOV (slE (fCall 2 m_find_all [] (fAV (fVar 0) (fAV (fVar 3) (fANil))))))) (fBin vIn (fOV (fC (.int 0))) (fOV (slE (fCall 2 m_find_all [] (fAV (fVar 0) (fAV (fVar 2) (fANil)))))))))))))))))
def m_law_windows_hold : List Sl → Option (Sl × List Sl) := runD P_law_windows_hold N_law_windows_hold.length b_law_windows_hold
theorem k_law_windows_hold (F : FunD x.K "_law_windows_hold" "_law_windows_hold" (defArgs (top 60)) (defBody (top 60)) (defScope (top 60)) [] [] f fd) (c_window : Cal Pr w x.K mg base x "window" 4 ["distances", "start", "length"] 3 m_window []) (g_len : mg "len" = none) (c_law_own_mapping : Cal Pr w x.K mg base x "_law_own_mapping" 2 ["_law_distances_here", "_law_position"] 2 m_law_own_mapping []) (c_concatenate : Cal Pr w x.K mg base x "concatenate" 4 ["first", "second", "mapping"] 3 m_concatenate []) (c_law_symbol_count : Cal Pr w x.K mg base x "_law_symbol_count" 1 ["_law_distances_here"] 1 m_law_symbol_count []) (c_count_mappings : Cal Pr w x.K mg base x "count_mappings" 4 ["first", "second"] 2 m_count_mappings []) (c_law_mapping_count : Cal Pr w x.K mg base x "_law_mapping_count" 1 ["_law_few", "_law_many"] 2 m_law_mapping_count []) (c_reversed_distances : Cal Pr w x.K mg base x "reversed_distances" 4 ["distances"] 1 m_reversed_distances []) (c_next_distances : Cal Pr w x.K mg base x "next_distances" 4 ["distances"] 1 m_next_distances []) (c_find_all : Cal Pr w x.K mg base x "find_all" 4 ["distances", "pattern"] 2 m_find_all []) : FnOk Pr w x.K mg base CX0 (4 + 1) f fd ["_law_distances_here", "_law_position"] (spD x (["_law_distances_here", "_law_position"] : List Str).length (runD P_law_windows_hold N_law_windows_hold.length b_law_windows_hold)) := by
  refine fn_d (Pr := Pr) (w := w) (mg := mg) (base := base) (κ := x) (N := N_law_windows_hold) (k := 4) (P := P_law_windows_hold) (b := b_law_windows_hold) F s_law_windows_hold (fun cdv A outer s H E hr => ?_)
  exact (bCons (sPar 2 3 rfl rfl (fun _ => rfl) (fun _ => s_law_windows_hold.nd) (fun _ => rfl) (fun _ => rfl) (by decide) (fun _ => rfl) (fun _ => rfl) (dCons (DR.toE (dCall ⟨fun _ => rfl, fun _ => rfl, fun _ => rfl, fun _ => rfl, fun _ => rfl, fun _ => hr, fun _ => rfl⟩ c_window (by omega) (fun _ => rfl) (aV (dVar 0 (fun _ => rfl) (fun _ => locVis v_law_windows_hold_0)) (aV dInt (aV (dVar 1 (fun _ => rfl) (fun _ => locVis v_law_windows_hold_1)) aNil))))) (dCons (DR.toE (dCall ⟨fun _ => rfl, fun _ => rfl, fun _ => rfl, fun _ => rfl, fun _ => rfl, fun _ => hr, fun _ => rfl⟩ c_window (by omega) (fun _ => rfl) (aV (dVar 0 (fun _ => rfl) (fun _ => locVis v_law_windows_hold_0)) (aV (dVar 1 (fun _ => rfl) (fun _ => locVis v_law_windows_hold_1)) (aV (dBin (fun _ => op_sub) opd_sub (dOV (dB1 (fun _ => cr_len) und_len (fun _ => rfl) (fun _ => g_len) boot_len (dOB 0 (fun _ => rfl) (fun _ => locVis v_law_windows_hold_0)))) (dOB 1 (fun _ => rfl) (fun _ => locVis v_law_windows_hold_1))) aNil))))) dNil)) (fun _ => rfl))
    (bCons (sSet 4 rfl (fun _ => s_law_windows_hold.nd) (fun _ => rfl) (fun _ => v_law_windows_hold_4) (DR.toE (dCall ⟨fun _ => rfl, fun _ => rfl, fun _ => rfl, fun _ => rfl, fun _ => rfl, fun _ => hr, fun _ => rfl⟩ c_law_own_mapping (by omega) (fun _ => rfl) (aV (dVar 0 (fun _ => rfl) (fun _ => locVis v_law_windows_hold_0)) (aV (dVar 1 (fun _ => rfl) (fun _ => locVis v_law_windows_hold_1)) aNil)))))
    (bCons (sIf (dTcmp (fun _ => op_neD hr.units) opd_ne (dOV (DR.toE (dCall ⟨fun _ => rfl, fun _ => rfl, fun _ => rfl, fun _ => rfl, fun _ => rfl, fun _ => hr, fun _ => rfl⟩ c_concatenate (by omega) (fun _ => rfl) (aV (dVar 2 (fun _ => rfl) (fun _ => locVis v_law_windows_hold_2)) (aV (dVar 3 (fun _ => rfl) (fun _ => locVis v_law_windows_hold_3)) (aV (dVar 4 (fun _ => rfl) (fun _ => locVis v_law_windows_hold_4)) aNil)))))) (dOB 0 (fun _ => rfl) (fun _ => locVis v_law_windows_hold_0)) rfl) (bOne (sRet dBl)) bNil)
    (bCons (sSet 5 rfl (fun _ => s_law_windows_hold.nd) (fun _ => rfl) (fun _ => v_law_windows_hold_5) (dNE (dLst (dCons (DR.toE (dCall ⟨fun _ => rfl, fun _ => rfl, fun _ => rfl, fun _ => rfl, fun _ => rfl, fun _ => hr, fun _ => rfl⟩ c_law_symbol_count (by omega) (fun _ => rfl) (aV (dVar 2 (fun _ => rfl) (fun _ => locVis v_law_windows_hold_2)) aNil))) (dCons (DR.toE (dCall ⟨fun _ => rfl, fun _ => rfl, fun _ => rfl, fun _ => rfl, fun _ => rfl, fun _ => hr, fun _ => rfl⟩ c_law_symbol_count (by omega) (fun _ => rfl) (aV (dVar 3 (fun _ => rfl) (fun _ => locVis v_law_windows_hold_3)) aNil))) dNil)))))
    (bCons (sIf (dTcmp (fun _ => op_neD hr.units) opd_ne (dOV (DR.toE (dCall ⟨fun _ => rfl, fun _ => rfl, fun _ => rfl, fun _ => rfl, fun _ => rfl, fun _ => hr, fun _ => rfl⟩ c_count_mappings (by omega) (fun _ => rfl) (aV (dVar 2 (fun _ => rfl) (fun _ => locVis v_law_windows_hold_2)) (aV (dVar 3 (fun _ => rfl) (fun _ => locVis v_law_windows_hold_3)) aNil))))) (dOV (DR.toE (dCall ⟨fun _ => rfl, fun _ => rfl, fun _ => rfl, fun _ => rfl, fun _ => rfl, fun _ => hr, fun _ => rfl⟩ c_law_mapping_count (by omega) (fun _ => rfl) (aV (dIxU (fun _ => rfl) (fun _ => un1 hr) (dOB 5 (fun _ => rfl) (fun _ => locVis v_law_windows_hold_5)) (dOV dInt) (fun _ _ => rfl)) (aV (dIxU (fun _ => rfl) (fun _ => un1 hr) (dOB 5 (fun _ => rfl) (fun _ => locVis v_law_windows_hold_5)) (dOV dInt) (fun _ _ => rfl)) aNil))))) rfl) (bOne (sRet dBl)) bNil)
    (bCons (sSet 6 rfl (fun _ => s_law_windows_hold.nd) (fun _ => rfl) (fun _ => v_law_windows_hold_6) (DR.toE (dCall ⟨fun _ => rfl, fun _ => rfl, fun _ => rfl, fun _ => rfl, fun _ => rfl, fun _ => hr, fun _ => rfl⟩ c_reversed_distances (by omega) (fun _ => rfl) (aV (dVar 0 (fun _ => rfl) (fun _ => locVis v_law_windows_hold_0)) aNil))))
    (bCons (sIf (dWT (dWor (dTcmp (fun _ => op_neD hr.units) opd_ne (dOV (DR.toE (dCall ⟨fun _ => rfl, fun _ => rfl, fun _ => rfl, fun _ => rfl, fun _ => rfl, fun _ => hr, fun _ => rfl⟩ c_reversed_distances (by omega) (fun _ => rfl) (aV (dVar 6 (fun _ => rfl) (fun _ => locVis v_law_windows_hold_6)) aNil)))) (dOB 0 (fun _ => rfl) (fun _ => locVis v_law_windows_hold_0)) rfl) (dWor1 (dTcmp (fun _ => op_neD hr.units) opd_ne (dOV (dNE (dRevN (fun _ => rfl) (dOV (DR.toE (dCall ⟨fun _ => rfl, fun _ => rfl, fun _ => rfl, fun _ => rfl, fun _ => rfl, fun _ => hr, fun _ => rfl⟩ c_next_distances (by omega) (fun _ => rfl) (aV (dVar 0 (fun _ => rfl) (fun _ => locVis v_law_windows_hold_0)) aNil))))))) (dOB 6 (fun _ => rfl) (fun _ => locVis v_law_windows_hold_6)) rfl)))) (bOne (sRet dBl)) bNil)
    (bCons (sSet 4 rfl (fun _ => s_law_windows_hold.nd) (fun _ => rfl) (fun _ => v_law_windows_hold_4) (DR.toE (dCall ⟨fun _ => rfl, fun _ => rfl, fun _ => rfl, fun _ => rfl, fun _ => rfl, fun _ => hr, fun _ => rfl⟩ c_law_own_mapping (by omega) (fun _ => rfl) (aV (dVar 6 (fun _ => rfl) (fun _ => locVis v_law_windows_hold_6)) (aV (dBin (fun _ => op_sub) opd_sub (dOV (dB1 (fun _ => cr_len) und_len (fun _ => rfl) (fun _ => g_len) boot_len (dOB 0 (fun _ => rfl) (fun _ => locVis v_law_windows_hold_0)))) (dOB 1 (fun _ => rfl) (fun _ => locVis v_law_windows_hold_1))) aNil)))))
    (bCons (sIf (dTcmp (fun _ => op_neD hr.units) opd_ne (dOV (DR.toE (dCall ⟨fun _ => rfl, fun _ => rfl, fun _ => rfl, fun _ => rfl, fun _ => rfl, fun _ => hr, fun _ => rfl⟩ c_concatenate (by omega) (fun _ => rfl) (aV (DR.toE (dCall ⟨fun _ => rfl, fun _ => rfl, fun _ => rfl, fun _ => rfl, fun _ => rfl, fun _ => hr, fun _ => rfl⟩ c_reversed_distances (by omega) (fun _ => rfl) (aV (dVar 3 (fun _ => rfl) (fun _ => locVis v_law_windows_hold_3)) aNil))) (aV (DR.toE (dCall ⟨fun _ => rfl, fun _ => rfl, fun _ => rfl, fun _ => rfl, fun _ => rfl, fun _ => hr, fun _ => rfl⟩ c_reversed_distances (by omega) (fun _ => rfl) (aV (dVar 2 (fun _ => rfl) (fun _ => locVis v_law_windows_hold_2)) aNil))) (aV (dVar 4 (fun _ => rfl) (fun _ => locVis v_law_windows_hold_4)) aNil)))))) (dOB 6 (fun _ => rfl) (fun _ => locVis v_law_windows_hold_6)) rfl) (bOne (sRet dBl)) bNil)
    (bOne (sRet (dAndV (dCmp (fun _ => opr_in (un1 hr)) opd_in (dOB 1 (fun _ => rfl) (fun _ => locVis v_law_windows_hold_1)) (dOV (DR.toE (dCall ⟨fun _ => rfl, fun _ => rfl, fun _ => rfl, fun _ => rfl, fun _ => rfl, fun _ => hr, fun _ => rfl⟩ c_find_all (by omega) (fun _ => rfl) (aV (dVar 0 (fun _ => rfl) (fun _ => locVis v_law_windows_hold_0)) (aV (dVar 3 (fun _ => rfl) (fun _ => locVis v_law_windows_hold_3)) aNil))))) rfl) (dOne (dCmp (fun _ => opr_in (un1 hr)) opd_in (dOV dInt) (dOV (DR.toE (dCall ⟨fun _ => rfl, fun _ => rfl, fun _ => rfl, fun _ => rfl, fun _ => rfl, fun _ => hr, fun _ => rfl⟩ c_find_all (by omega) (fun _ => rfl) (aV (dVar 0 (fun _ => rfl) (fun _ => locVis v_law_windows_hold_0)) (aV (dVar 2 (fun _ => rfl) (fun _ => locVis v_law_windows_hold_2)) aNil))))) rfl))))))))))))))
/-! check_number -/
abbrev N_check_number : List Str := ["number", "highest"]
theorem s_check_number : FnScope N_check_number ["number", "highest"] (defScope (top 24)) := ⟨rfl, rfl, rfl, by decide +kernel, rfl, by decide +kernel, by decide +kernel⟩
theorem v_check_number_0 : Loc (defScope (top 24)) "number" := by first | exact .inl rfl | exact .inr rfl
theorem v_check_number_1 : Loc (defScope (top 24)) "highest" := by first | exact .inl rfl | exact .inr rfl
def P_check_number : Prt := fun k => ([] : List Nat).contains k
@[simp] theorem p_check_number (k : Nat) : P_check_number k = ([] : List Nat).contains k := rfl
def I_check_number_1 : FS := fIfS (fTnot (fTst (slE (fCall 3 m_is_integer [] (fAV (fVar 0) (fAV (fC (.int 0)) (fAV (fVar 1) (fANil)))))))) (fNo) (fNext)
def b_check_number : FS := I_check_number_1
def m_check_number : List Sl → Option (Sl × List Sl) := runD P_check_number N_check_number.length b_check_number
theorem k_check_number (F : FunD x.K "check_number" "check_number" (defArgs (top 24)) (defBody (top 24)) (defScope (top 24)) [.non] [] f fd) (c_is_integer : Cal Pr w x.K mg base x "is_integer" 1 ["value", "lowest", "highest"] 3 m_is_integer []) : FnOk Pr w x.K mg base CX0 (1 + 1) f fd ["number", "highest"] (spD x (["number", "highest"] : List Str).length (runD P_check_number N_check_number.length b_check_number)) := by
  refine fn_d (Pr := Pr) (w := w) (mg := mg) (base := base) (κ := x) (N := N_check_number) (k := 1) (P := P_check_number) (b := b_check_number) F s_check_number (fun cdv A outer s H E hr => ?_)
  exact (bOne (sIf (dTnot (dTval (DR.toE (dCall ⟨fun _ => rfl, fun _ => rfl, fun _ => rfl, fun _ => rfl, fun _ => rfl, fun _ => hr, fun _ => rfl⟩ c_is_integer (by omega) (fun _ => rfl) (aV (dVar 0 (fun _ => rfl) (fun _ => locVis v_check_number_0)) (aV dInt (aV (dVar 1 (fun _ => rfl) (fun _ => locVis v_check_number_1)) aNil))))) (by intro _ _; rfl))) bNo bNil))
/-! completion_table -/
abbrev N_completion_table : List Str := ["length", "most_symbols", "widest", "table", "left", "last", "row", "used"]
theorem s_completion_table : FnScope N_completion_table ["length", "most_symbols"] (defScope (top 25)) := ⟨rfl, rfl, rfl, by decide +kernel, rfl, by decide +kernel, by decide +kernel⟩
theorem v_completion_table_0 : Loc (defScope (top 25)) "length" := by first | exact .inl rfl | exact .inr rfl
theorem v_completion_table_1 : Loc (defScope (top 25)) "most_symbols" := by first | exact .inl rfl | exact .inr rfl
theorem v_completion_table_2 : Loc (defScope (top 25)) "widest" := by first | exact .inl rfl | exact .inr rfl
theorem v_completion_table_3 : Loc (defScope (top 25)) "table" := by first | exact .inl rfl | exact .inr rfl
theorem v_completion_table_4 : Loc (defScope (top 25)) "left" := by first | exact .inl rfl | exact .inr rfl
theorem v_completion_table_5 : Loc (defScope (top 25)) "last" := by first | exact .inl rfl | exact .inr rfl
theorem v_completion_table_6 : Loc (defScope (top 25)) "row" := by first | exact .inl rfl | exact .inr rfl
def P_completion_table : Prt := fun k => ([] : List Nat).contains k
@[simp] theorem p_completion_table (k : Nat) : P_completion_table k = ([] : List Nat).contains k := rfl
def T_completion_table_1 : FT := fYes
def E_completion_table_1 : FE := fBin vAdd (fOV (fBin vMul (fOB 7) (fOV (fBin vIx (fOB 5) (fOB 7))))) (fOV (fIf (fTst (fBin vLt (fOB 7) (fOB 2))) (fBin vIx (fOB 5) (fOV (fBin vAdd (fOB 7) (fOV (fC (.int 1)))))) (fC (.int 0))))
def L_completion_table_1 : FS := fSeq (fSet 5 (fBin vIx (fOB 3) (fOV (fUn vNeg (fOV (fC (.int 1))))))) (fSeq (fSet 6 (fLc [7] (fRng1 (fCons (fBin vAdd (fOB 2) (fOV (fC (.int 1)))) (fNil))) (gN 7) (T_completion_table_1) (E_completion_table_1))) (fDrop (fMut 3 "list" mAppend (fCons (fVar 6) (fNil)))))
def b_completion_table : FS := fSeq (fSet 2 (fBin vMin (fOB 0) (fOB 1))) (fSeq (fSetN 3 (fLst (fCons (fBin vMul (fOV (fLst (fCons (fC (.int 1)) (fNil)))) (fOV (fBin vAdd (fOB 2) (fOV (fC (.int 1)))))) (fNil)))) (fSeq (fFor (fRng1 (fCons (fVar 0) (fNil))) (gN 4) (L_completion_table_1)) (fRet (fVar 3))))
def m_completion_table : List Sl → Option (Sl × List Sl) := runD P_completion_table N_completion_table.length b_completion_table
theorem k_completion_table (F : FunD x.K "completion_table" "completion_table" (defArgs (top 25)) (defBody (top 25)) (defScope (top 25)) [] [] f fd) (g_min : mg "min" = none) (g_range : mg "range" = none) : FnOk Pr w x.K mg base CX0 (0 + 1) f fd ["length", "most_symbols"] (spD x (["length", "most_symbols"] : List Str).length (runD P_completion_table N_completion_table.length b_completion_table)) := by
  refine fn_d (Pr := Pr) (w := w) (mg := mg) (base := base) (κ := x) (N := N_completion_table) (k := 0) (P := P_completion_table) (b := b_completion_table) F s_completion_table (fun cdv A outer s H E hr => ?_)
  exact (bCons (sSet 2 rfl (fun _ => s_completion_table.nd) (fun _ => rfl) (fun _ => v_completion_table_2) (dB2 (fun _ => call_min2 rfl) opd_min (fun _ => rfl) (fun _ => g_min) boot_min (dOB 0 (fun _ => rfl) (fun _ => locVis v_completion_table_0)) (dOB 1 (fun _ => rfl) (fun _ => locVis v_completion_table_1))))
    (bCons (sSetN 3 rfl (fun _ => s_completion_table.nd) (fun _ => rfl) (fun _ => v_completion_table_3) (dLst (dCons (dBin (fun _ => opr_mul) opd_mul (dOV (dNE (dLst (dCons dInt dNil)))) (dOV (dBin (fun _ => opr_add) opd_add (dOB 2 (fun _ => rfl) (fun _ => locVis v_completion_table_2)) (dOV dInt)))) dNil)))
    (bCons (sFor (fun _ => PassesOwn.never) (fun _ => rfl) (iRange1 (fun _ => rfl) (fun _ => g_range) (dCons (dVar 0 (fun _ => rfl) (fun _ => locVis v_completion_table_0)) dNil)) (gName_ 4 rfl (fun _ => s_completion_table.nd) (fun _ => rfl) (fun _ => v_completion_table_4)) (bCons (sSet 5 rfl (fun _ => s_completion_table.nd) (fun _ => rfl) (fun _ => v_completion_table_5) (dIxU (fun _ => rfl) (fun _ => un1 hr) (dOB 3 (fun _ => rfl) (fun _ => locVis v_completion_table_3)) (dOV (dUn (fun _ => un_neg) opd_neg (dOV dInt))) (fun _ _ => rfl)))
    (bCons (by first | exact sSetLc (own := [("used", 7)]) 6 rfl (fun _ => rfl) (fun _ => s_completion_table.nd) (fun _ => rfl) (fun _ => rfl) (fun _ => rfl) (iRange1 (fun _ => rfl) (fun _ => g_range) (dCons (dBin (fun _ => opr_add) opd_add (dOB 2 (fun _ => rfl) (fun _ => locVis v_completion_table_2)) (dOV dInt)) dNil)) (fun _ => show BlkOk N_completion_table (defScope (top 25)) _ [("used", 7)] from ⟨rfl, by decide +kernel, by decide +kernel, by decide +kernel, by decide +kernel⟩) (gName_ 7 rfl (fun _ => s_completion_table.nd) (fun _ => rfl) (fun _ => by first | exact .inl rfl | exact .inr rfl) (hf := (fun _ => by first | exact .inl rfl | exact .inr rfl))) tsNil (dBin (fun _ => opr_add) opd_add (dOV (dBin (fun _ => opr_mul) opd_mul (dOB 7 (fun _ => rfl) (fun _ => by first | exact .inl rfl | exact .inr (.inl rfl) | exact .inr (.inr rfl))) (dOV (dIxU (fun _ => rfl) (fun _ => un1 hr) (dOB 5 (fun _ => rfl) (fun _ => by first | exact .inl rfl | exact .inr (.inl rfl) | exact .inr (.inr rfl))) (dOB 7 (fun _ => rfl) (fun _ => by first | exact .inl rfl | exact .inr (.inl rfl) | exact .inr (.inr rfl))) (fun _ _ => rfl))))) (dOV (dIf (dTcmp (fun _ => op_lt) opd_lt (dOB 7 (fun _ => rfl) (fun _ => by first | exact .inl rfl | exact .inr (.inl rfl) | exact .inr (.inr rfl))) (dOB 2 (fun _ => rfl) (fun _ => by first | exact .inl rfl | exact .inr (.inl rfl) | exact .inr (.inr rfl))) rfl) (dIxU (fun _ => rfl) (fun _ => un1 hr) (dOB 5 (fun _ => rfl) (fun _ => by first | exact .inl rfl | exact .inr (.inl rfl) | exact .inr (.inr rfl))) (dOV (dBin (fun _ => opr_add) opd_add (dOB 7 (fun _ => rfl) (fun _ => by first | exact .inl rfl | exact .inr (.inl rfl) | exact .inr (.inr rfl))) (dOV dInt))) (fun _ _ => rfl)) dInt))) | exact sSet 6 rfl (fun _ => s_completion_table.nd) (fun _ => rfl) (fun _ => v_completion_table_6) (dNE (dLc (own := [("used", 7)]) (fun _ => rfl) (fun _ => s_completion_table.nd) (iRange1 (fun _ => rfl) (fun _ => g_range) (dCons (dBin (fun _ => opr_add) opd_add (dOB 2 (fun _ => rfl) (fun _ => locVis v_completion_table_2)) (dOV dInt)) dNil)) (fun _ => show BlkOk N_completion_table (defScope (top 25)) _ [("used", 7)] from ⟨rfl, by decide +kernel, by decide +kernel, by decide +kernel, by decide +kernel⟩) (gName_ 7 rfl (fun _ => s_completion_table.nd) (fun _ => rfl) (fun _ => by first | exact .inl rfl | exact .inr rfl) (hf := (fun _ => by first | exact .inl rfl | exact .inr rfl))) tsNil (dBin (fun _ => opr_add) opd_add (dOV (dBin (fun _ => opr_mul) opd_mul (dOB 7 (fun _ => rfl) (fun _ => by first | exact .inl rfl | exact .inr (.inl rfl) | exact .inr (.inr rfl))) (dOV (dIxU (fun _ => rfl) (fun _ => un1 hr) (dOB 5 (fun _ => rfl) (fun _ => by first | exact .inl rfl | exact .inr (.inl rfl) | exact .inr (.inr rfl))) (dOB 7 (fun _ => rfl) (fun _ => by first | exact .inl rfl | exact .inr (.inl rfl) | exact .inr (.inr rfl))) (fun _ _ => rfl))))) (dOV (dIf (dTcmp (fun _ => op_lt) opd_lt (dOB 7 (fun _ => rfl) (fun _ => by first | exact .inl rfl | exact .inr (.inl rfl) | exact .inr (.inr rfl))) (dOB 2 (fun _ => rfl) (fun _ => by first | exact .inl rfl | exact .inr (.inl rfl) | exact .inr (.inr rfl))) rfl) (dIxU (fun _ => rfl) (fun _ => un1 hr) (dOB 5 (fun _ => rfl) (fun _ => by first | exact .inl rfl | exact .inr (.inl rfl) | exact .inr (.inr rfl))) (dOV (dBin (fun _ => opr_add) opd_add (dOB 7 (fun _ => rfl) (fun _ => by first | exact .inl rfl | exact .inr (.inl rfl) | exact .inr (.inr rfl))) (dOV dInt))) (fun _ _ => rfl)) dInt))))))
    (bOne (sExpr (dMut 3 (fun _ => rfl) PySem.F.plainAttrs_list PySem.F.slot_list_append PySem.F.type_list_append (fun _ => mt_append) mur_append (fun _ => rfl) (fun _ => locVis v_completion_table_3) (dCons (dVar 6 (fun _ => rfl) (fun _ => locVis v_completion_table_6)) dNil)))))))
    (bOne (sRet (dVar 3 (fun _ => rfl) (fun _ => locVis v_completion_table_3)))))))
/-! rank_at -/
abbrev N_rank_at : List Str := ["distances", "ids", "position"]
theorem s_rank_at : FnScope N_rank_at ["distances", "ids", "position"] (defScope (top 20)) := ⟨rfl, rfl, rfl, by decide +kernel, rfl, by decide +kernel, by decide +kernel⟩
theorem v_rank_at_0 : Loc (defScope (top 20)) "distances" := by first | exact .inl rfl | exact .inr rfl
theorem v_rank_at_1 : Loc (defScope (top 20)) "ids" := by first | exact .inl rfl | exact .inr rfl
theorem v_rank_at_2 : Loc (defScope (top 20)) "position" := by first | exact .inl rfl | exact .inr rfl
def P_rank_at : Prt := fun k => ([] : List Nat).contains k
@[simp] theorem p_rank_at (k : Nat) : P_rank_at k = ([] : List Nat).contains k := rfl
def I_rank_at_1 : FS := fIfS (fTst (fBin vEq (fOV (fBin vIx (fOB 0) (fOB 2))) (fOV (fC (.int 0))))) (fRet (fC (.int 0))) (fNext)
def b_rank_at : FS := fSeq (I_rank_at_1) (fRet (fBin vAdd (fOV (fC (.int 1))) (fOV (fUn vLenSetU (fOV (fSl (fOB 1) (fPS (fBin vAdd (fOV (fBin vSub (fOB 2) (fOV (fBin vIx (fOB 0) (fOB 2))))) (fOV (fC (.int 1))))) (fPS (fVar 2))))))))
def m_rank_at : List Sl → Option (Sl × List Sl) := runD P_rank_at N_rank_at.length b_rank_at
theorem k_rank_at (F : FunD x.K "rank_at" "rank_at" (defArgs (top 20)) (defBody (top 20)) (defScope (top 20)) [] [] f fd) (g_len : mg "len" = none) (g_set : mg "set" = none) : FnOk Pr w x.K mg base CX0 (0 + 1) f fd ["distances", "ids", "position"] (spD x (["distances", "ids", "position"] : List Str).length (runD P_rank_at N_rank_at.length b_rank_at)) := by
  refine fn_d (Pr := Pr) (w := w) (mg := mg) (base := base) (κ := x) (N := N_rank_at) (k := 0) (P := P_rank_at) (b := b_rank_at) F s_rank_at (fun cdv A outer s H E hr => ?_)
  exact (bCons (sIf (dTcmp (fun _ => op_eqD hr.units) opd_eq (dOV (dIxU (fun _ => rfl) (fun _ => un1 hr) (dOB 0 (fun _ => rfl) (fun _ => locVis v_rank_at_0)) (dOB 2 (fun _ => rfl) (fun _ => locVis v_rank_at_2)) (fun _ _ => rfl))) (dOV dInt) rfl) (bOne (sRet dInt)) bNil)
    (bOne (sRet (dBin (fun _ => opr_add) opd_add (dOV dInt) (dOV (dLenSetU (fun _ => rfl) (fun _ => rfl) (fun _ => rfl) (fun _ => g_len) (fun _ => rfl) (fun _ => g_set) (dOV (dNE (dSlN (fun _ => rfl) (dOB 1 (fun _ => rfl) (fun _ => locVis v_rank_at_1)) (dPS (dBin (fun _ => opr_add) opd_add (dOV (dBin (fun _ => op_sub) opd_sub (dOB 2 (fun _ => rfl) (fun _ => locVis v_rank_at_2)) (dOV (dIxU (fun _ => rfl) (fun _ => un1 hr) (dOB 0 (fun _ => rfl) (fun _ => locVis v_rank_at_0)) (dOB 2 (fun _ => rfl) (fun _ => locVis v_rank_at_2)) (fun _ _ => rfl))))) (dOV dInt))) (dPS (dVar 2 (fun _ => rfl) (fun _ => locVis v_rank_at_2))))))))))))
/-! rank_list -/
abbrev N_rank_list : List Str := ["distances", "most_symbols", "own", "table", "widest", "ids", "found", "used", "position", "ways", "rank"]
theorem s_rank_list : FnScope N_rank_list ["distances", "most_symbols"] (defScope (top 27)) := ⟨rfl, rfl, rfl, by decide +kernel, rfl, by decide +kernel, by decide +kernel⟩
theorem v_rank_list_0 : Loc (defScope (top 27)) "distances" := by first | exact .inl rfl | exact .inr rfl
theorem v_rank_list_1 : Loc (defScope (top 27)) "most_symbols" := by first | exact .inl rfl | exact .inr rfl
theorem v_rank_list_2 : Loc (defScope (top 27)) "own" := by first | exact .inl rfl | exact .inr rfl
theorem v_rank_list_3 : Loc (defScope (top 27)) "table" := by first | exact .inl rfl | exact .inr rfl
theorem v_rank_list_4 : Loc (defScope (top 27)) "widest" := by first | exact .inl rfl | exact .inr rfl
theorem v_rank_list_5 : Loc (defScope (top 27)) "ids" := by first | exact .inl rfl | exact .inr rfl
theorem v_rank_list_6 : Loc (defScope (top 27)) "found" := by first | exact .inl rfl | exact .inr rfl
theorem v_rank_list_7 : Loc (defScope (top 27)) "used" := by first | exact .inl rfl | exact .inr rfl
theorem v_rank_list_8 : Loc (defScope (top 27)) "position" := by first | exact .inl rfl | exact .inr rfl
theorem v_rank_list_9 : Loc (defScope (top 27)) "ways" := by first | exact .inl rfl | exact .inr rfl
theorem v_rank_list_10 : Loc (defScope (top 27)) "rank" := by first | exact .inl rfl | exact .inr rfl
def P_rank_list : Prt := fun k => ([] : List Nat).contains k
@[simp] theorem p_rank_list (k : Nat) : P_rank_list k = ([] : List Nat).contains k := rfl
def I_rank_list_1 : FS := fIfS (fTst (fBin vGt (fOV (slE (fCall 1 m_symbol_count [] (fAV (fVar 2) (fANil))))) (fOB 1))) (fNo) (fNext)
def I_rank_list_2 : FS := fIfS (fTst (fBin vEq (fOB 10) (fOV (fC (.int 0))))) (fAug 7 (fun i j => i + j) (fC (.int 1))) (fAug 6 (fun i j => i + j) (fBin vAdd (fOV (fIf (fTst (fBin vLt (fOB 7) (fOB 4))) (fBin vIx (fOB 9) (fOV (fBin vAdd (fOB 7) (fOV (fC (.int 1)))))) (fC (.int 0)))) (fOV (fBin vMul (fOV (fBin vSub (fOB 10) (fOV (fC (.int 1))))) (fOV (fBin vIx (fOB 9) (fOB 7)))))))
def L_rank_list_1 : FS := fSeq (fSet 9 (fBin vIx (fOB 3) (fOV (fBin vSub (fOV (fBin vSub (fOV (fUn vLen (fOB 2))) (fOB 8))) (fOV (fC (.int 1))))))) (fSeq (fSet 10 (slE (fCall 3 m_rank_at [] (fAV (fVar 2) (fAV (fVar 5) (fAV (fVar 8) (fANil))))))) (I_rank_list_2))
def b_rank_list : FS := fSeq (fSet 2 (slE (fCall 1 m_checked_distances [] (fAV (fVar 0) (fANil))))) (fSeq (fDrop (slE (fCall 2 m_check_number [.non] (fAV (fVar 1) (fANil))))) (fSeq (I_rank_list_1) (fSeq (fSet 3 (slE (fCall 2 m_completion_table [] (fAV (fUn vLen (fOB 2)) (fAV (fVar 1) (fANil)))))) (fSeq (fSet 4 (fBin vMin (fOV (fUn vLen (fOB 2))) (fOB 1))) (fSeq (fSet 5 (slE (fCall 1 m_ids_of [] (fAV (fVar 2) (fANil))))) (fSeq (fSet 6 (fC (.int 0))) (fSeq (fSet 7 (fC (.int 0))) (fSeq (fFor (fRng1 (fCons (fUn vLen (fOB 2)) (fNil))) (gN 8) (L_rank_list_1)) (fRet (fVar 6))))))))))
def m_rank_list : List Sl → Option (Sl × List Sl) := runD P_rank_list N_rank_list.length b_rank_list
theorem k_rank_list (F : FunD x.K "rank_list" "rank_list" (defArgs (top 27)) (defBody (top 27)) (defScope (top 27)) [] [] f fd) (c_checked_distances : Cal Pr w x.K mg base x "checked_distances" 3 ["distances"] 1 m_checked_distances []) (c_check_number_1 : Cal Pr w x.K mg base x "check_number" 2 ["number", "highest"] 2 m_check_number [.non]) (c_symbol_count : Cal Pr w x.K mg base x "symbol_count" 1 ["distances"] 1 m_symbol_count []) (c_completion_table : Cal Pr w x.K mg base x "completion_table" 1 ["length", "most_symbols"] 2 m_completion_table []) (g_len : mg "len" = none) (g_min : mg "min" = none) (c_ids_of : Cal Pr w x.K mg base x "ids_of" 1 ["distances"] 1 m_ids_of []) (g_range : mg "range" = none) (c_rank_at : Cal Pr w x.K mg base x "rank_at" 1 ["distances", "ids", "position"] 3 m_rank_at []) : FnOk Pr w x.K mg base CX0 (3 + 1) f fd ["distances", "most_symbols"] (spD x (["distances", "most_symbols"] : List Str).length (runD P_rank_list N_rank_list.length b_rank_list)) := by
  refine fn_d (Pr := Pr) (w := w) (mg := mg) (base := base) (κ := x) (N := N_rank_list) (k := 3) (P := P_rank_list) (b := b_rank_list) F s_rank_list (fun cdv A outer s H E hr => ?_)
  exact (bCons (sSet 2 rfl (fun _ => s_rank_list.nd) (fun _ => rfl) (fun _ => v_rank_list_2) (DR.toE (dCall ⟨fun _ => rfl, fun _ => rfl, fun _ => rfl, fun _ => rfl, fun _ => rfl, fun _ => hr, fun _ => rfl⟩ c_checked_distances (by omega) (fun _ => rfl) (aV (dVar 0 (fun _ => rfl) (fun _ => locVis v_rank_list_0)) aNil))))
    (bCons (sExpr (DR.toE (dCall ⟨fun _ => rfl, fun _ => rfl, fun _ => rfl, fun _ => rfl, fun _ => rfl, fun _ => hr, fun _ => rfl⟩ c_check_number_1 (by omega) (fun _ => rfl) (aV (dVar 1 (fun _ => rfl) (fun _ => locVis v_rank_list_1)) aNil))))
    (bCons (sIf (dTcmp (fun _ => op_gt) opd_gt (dOV (DR.toE (dCall ⟨fun _ => rfl, fun _ => rfl, fun _ => rfl, fun _ => rfl, fun _ => rfl, fun _ => hr, fun _ => rfl⟩ c_symbol_count (by omega) (fun _ => rfl) (aV (dVar 2 (fun _ => rfl) (fun _ => locVis v_rank_list_2)) aNil)))) (dOB 1 (fun _ => rfl) (fun _ => locVis v_rank_list_1)) rfl) bNo bNil)
    (bCons (sSet 3 rfl (fun _ => s_rank_list.nd) (fun _ => rfl) (fun _ => v_rank_list_3) (DR.toE (dCall ⟨fun _ => rfl, fun _ => rfl, fun _ => rfl, fun _ => rfl, fun _ => rfl, fun _ => hr, fun _ => rfl⟩ c_completion_table (by omega) (fun _ => rfl) (aV (dB1 (fun _ => cr_len) und_len (fun _ => rfl) (fun _ => g_len) boot_len (dOB 2 (fun _ => rfl) (fun _ => locVis v_rank_list_2))) (aV (dVar 1 (fun _ => rfl) (fun _ => locVis v_rank_list_1)) aNil)))))
    (bCons (sSet 4 rfl (fun _ => s_rank_list.nd) (fun _ => rfl) (fun _ => v_rank_list_4) (dB2 (fun _ => call_min2 rfl) opd_min (fun _ => rfl) (fun _ => g_min) boot_min (dOV (dB1 (fun _ => cr_len) und_len (fun _ => rfl) (fun _ => g_len) boot_len (dOB 2 (fun _ => rfl) (fun _ => locVis v_rank_list_2)))) (dOB 1 (fun _ => rfl) (fun _ => locVis v_rank_list_1))))
    (bCons (sSet 5 rfl (fun _ => s_rank_list.nd) (fun _ => rfl) (fun _ => v_rank_list_5) (DR.toE (dCall ⟨fun _ => rfl, fun _ => rfl, fun _ => rfl, fun _ => rfl, fun _ => rfl, fun _ => hr, fun _ => rfl⟩ c_ids_of (by omega) (fun _ => rfl) (aV (dVar 2 (fun _ => rfl) (fun _ => locVis v_rank_list_2)) aNil))))
    (bCons (sSet 6 rfl (fun _ => s_rank_list.nd) (fun _ => rfl) (fun _ => v_rank_list_6) dInt)
    (bCons (sSet 7 rfl (fun _ => s_rank_list.nd) (fun _ => rfl) (fun _ => v_rank_list_7) dInt)
    (bCons (sFor (fun _ => PassesOwn.never) (fun _ => rfl) (iRange1 (fun _ => rfl) (fun _ => g_range) (dCons (dB1 (fun _ => cr_len) und_len (fun _ => rfl) (fun _ => g_len) boot_len (dOB 2 (fun _ => rfl) (fun _ => locVis v_rank_list_2))) dNil)) (gName_ 8 rfl (fun _ => s_rank_list.nd) (fun _ => rfl) (fun _ => v_rank_list_8)) (bCons (sSet 9 rfl (fun _ => s_rank_list.nd) (fun _ => rfl) (fun _ => v_rank_list_9) (dIxU (fun _ => rfl) (fun _ => un1 hr) (dOB 3 (fun _ => rfl) (fun _ => locVis v_rank_list_3)) (dOV (dBin (fun _ => op_sub) opd_sub (dOV (dBin (fun _ => op_sub) opd_sub (dOV (dB1 (fun _ => cr_len) und_len (fun _ => rfl) (fun _ => g_len) boot_len (dOB 2 (fun _ => rfl) (fun _ => locVis v_rank_list_2)))) (dOB 8 (fun _ => rfl) (fun _ => locVis v_rank_list_8)))) (dOV dInt))) (fun _ _ => rfl)))
    (bCons (sSet 10 rfl (fun _ => s_rank_list.nd) (fun _ => rfl) (fun _ => v_rank_list_10) (DR.toE (dCall ⟨fun _ => rfl, fun _ => rfl, fun _ => rfl, fun _ => rfl, fun _ => rfl, fun _ => hr, fun _ => rfl⟩ c_rank_at (by omega) (fun _ => rfl) (aV (dVar 2 (fun _ => rfl) (fun _ => locVis v_rank_list_2)) (aV (dVar 5 (fun _ => rfl) (fun _ => locVis v_rank_list_5)) (aV (dVar 8 (fun _ => rfl) (fun _ => locVis v_rank_list_8)) aNil))))))
    (bOne (sIf (dTcmp (fun _ => op_eqD hr.units) opd_eq (dOB 10 (fun _ => rfl) (fun _ => locVis v_rank_list_10)) (dOV dInt) rfl) (bOne (sAug 7 (fun _ => ip_add) rfl (fun _ => s_rank_list.nd) (fun _ => rfl) (fun _ => v_rank_list_7) dInt)) (bOne (sAug 6 (fun _ => ip_add) rfl (fun _ => s_rank_list.nd) (fun _ => rfl) (fun _ => v_rank_list_6) (dBin (fun _ => opr_add) opd_add (dOV (dIf (dTcmp (fun _ => op_lt) opd_lt (dOB 7 (fun _ => rfl) (fun _ => locVis v_rank_list_7)) (dOB 4 (fun _ => rfl) (fun _ => locVis v_rank_list_4)) rfl) (dIxU (fun _ => rfl) (fun _ => un1 hr) (dOB 9 (fun _ => rfl) (fun _ => locVis v_rank_list_9)) (dOV (dBin (fun _ => opr_add) opd_add (dOB 7 (fun _ => rfl) (fun _ => locVis v_rank_list_7)) (dOV dInt))) (fun _ _ => rfl)) dInt)) (dOV (dBin (fun _ => opr_mul) opd_mul (dOV (dBin (fun _ => op_sub) opd_sub (dOB 10 (fun _ => rfl) (fun _ => locVis v_rank_list_10)) (dOV dInt))) (dOV (dIxU (fun _ => rfl) (fun _ => un1 hr) (dOB 9 (fun _ => rfl) (fun _ => locVis v_rank_list_9)) (dOB 7 (fun _ => rfl) (fun _ => locVis v_rank_list_7)) (fun _ _ => rfl)))))))))))))
    (bOne (sRet (dVar 6 (fun _ => rfl) (fun _ => locVis v_rank_list_6)))))))))))))
/-! count_lists -/
abbrev N_count_lists : List Str := ["length", "most_symbols"]
theorem s_count_lists : FnScope N_count_lists ["length", "most_symbols"] (defScope (top 26)) := ⟨rfl, rfl, rfl, by decide +kernel, rfl, by decide +kernel, by decide +kernel⟩
theorem v_count_lists_0 : Loc (defScope (top 26)) "length" := by first | exact .inl rfl | exact .inr rfl
theorem v_count_lists_1 : Loc (defScope (top 26)) "most_symbols" := by first | exact .inl rfl | exact .inr rfl
def P_count_lists : Prt := fun k => ([] : List Nat).contains k
@[simp] theorem p_count_lists (k : Nat) : P_count_lists k = ([] : List Nat).contains k := rfl
def b_count_lists : FS := fSeq (fDrop (slE (fCall 2 m_check_number [] (fAV (fVar 0) (fAV (fC (.int (400))) (fANil)))))) (fSeq (fDrop (slE (fCall 2 m_check_number [.non] (fAV (fVar 1) (fANil))))) (fRet (fBin vIx (fOV (fBin vIx (fOV (slE (fCall 2 m_completion_table [] (fAV (fVar 0) (fAV (fVar 1) (fANil)))))) (fOB 0))) (fOV (fC (.int 0))))))
def m_count_lists : List Sl → Option (Sl × List Sl) := runD P_count_lists N_count_lists.length b_count_lists
theorem k_count_lists (F : FunD x.K "count_lists" "count_lists" (defArgs (top 26)) (defBody (top 26)) (defScope (top 26)) [] [] f fd) (c_check_number : Cal Pr w x.K mg base x "check_number" 2 ["number", "highest"] 2 m_check_number []) (q_MAX_POSITIONS : ∃ u, mg "MAX_POSITIONS" = some u ∧ RelV (.int (400)) u) (c_check_number_1 : Cal Pr w x.K mg base x "check_number" 2 ["number", "highest"] 2 m_check_number [.non]) (c_completion_table : Cal Pr w x.K mg base x "completion_table" 1 ["length", "most_symbols"] 2 m_completion_table []) : FnOk Pr w x.K mg base CX0 (2 + 1) f fd ["length", "most_symbols"] (spD x (["length", "most_symbols"] : List Str).length (runD P_count_lists N_count_lists.length b_count_lists)) := by
  refine fn_d (Pr := Pr) (w := w) (mg := mg) (base := base) (κ := x) (N := N_count_lists) (k := 2) (P := P_count_lists) (b := b_count_lists) F s_count_lists (fun cdv A outer s H E hr => ?_)
  exact (bCons (sExpr (DR.toE (dCall ⟨fun _ => rfl, fun _ => rfl, fun _ => rfl, fun _ => rfl, fun _ => rfl, fun _ => hr, fun _ => rfl⟩ c_check_number (by omega) (fun _ => rfl) (aV (dVar 0 (fun _ => rfl) (fun _ => locVis v_count_lists_0)) (aV (dGc (d := .int (400)) (v := .int (400)) (fun _ => .int _) (fun _ => rfl) (fun _ => q_MAX_POSITIONS)) aNil)))))
    (bCons (sExpr (DR.toE (dCall ⟨fun _ => rfl, fun _ => rfl, fun _ => rfl, fun _ => rfl, fun _ => rfl, fun _ => hr, fun _ => rfl⟩ c_check_number_1 (by omega) (fun _ => rfl) (aV (dVar 1 (fun _ => rfl) (fun _ => locVis v_count_lists_1)) aNil))))
    (bOne (sRet (dIxU (fun _ => rfl) (fun _ => un1 hr) (dOV (dIxU (fun _ => rfl) (fun _ => un1 hr) (dOV (DR.toE (dCall ⟨fun _ => rfl, fun _ => rfl, fun _ => rfl, fun _ => rfl, fun _ => rfl, fun _ => hr, fun _ => rfl⟩ c_completion_table (by omega) (fun _ => rfl) (aV (dVar 0 (fun _ => rfl) (fun _ => locVis v_count_lists_0)) (aV (dVar 1 (fun _ => rfl) (fun _ => locVis v_count_lists_1)) aNil))))) (dOB 0 (fun _ => rfl) (fun _ => locVis v_count_lists_0)) (fun _ _ => rfl))) (dOV dInt) (fun _ _ => rfl))))))
/-! unrank_list -/
abbrev N_unrank_list : List Str := ["length", "most_symbols", "number", "table", "widest", "ranks", "left", "used", "position", "ways", "fresh"]
theorem s_unrank_list : FnScope N_unrank_list ["length", "most_symbols", "number"] (defScope (top 28)) := ⟨rfl, rfl, rfl, by decide +kernel, rfl, by decide +kernel, by decide +kernel⟩
theorem v_unrank_list_0 : Loc (defScope (top 28)) "length" := by first | exact .inl rfl | exact .inr rfl
theorem v_unrank_list_1 : Loc (defScope (top 28)) "most_symbols" := by first | exact .inl rfl | exact .inr rfl
theorem v_unrank_list_2 : Loc (defScope (top 28)) "number" := by first | exact .inl rfl | exact .inr rfl
theorem v_unrank_list_3 : Loc (defScope (top 28)) "table" := by first | exact .inl rfl | exact .inr rfl
theorem v_unrank_list_4 : Loc (defScope (top 28)) "widest" := by first | exact .inl rfl | exact .inr rfl
theorem v_unrank_list_5 : Loc (defScope (top 28)) "ranks" := by first | exact .inl rfl | exact .inr rfl
theorem v_unrank_list_6 : Loc (defScope (top 28)) "left" := by first | exact .inl rfl | exact .inr rfl
theorem v_unrank_list_7 : Loc (defScope (top 28)) "used" := by first | exact .inl rfl | exact .inr rfl
theorem v_unrank_list_8 : Loc (defScope (top 28)) "position" := by first | exact .inl rfl | exact .inr rfl
theorem v_unrank_list_9 : Loc (defScope (top 28)) "ways" := by first | exact .inl rfl | exact .inr rfl
theorem v_unrank_list_10 : Loc (defScope (top 28)) "fresh" := by first | exact .inl rfl | exact .inr rfl
def P_unrank_list : Prt := fun k => ([] : List Nat).contains k
@[simp] theorem p_unrank_list (k : Nat) : P_unrank_list k = ([] : List Nat).contains k := rfl
def I_unrank_list_1 : FS := fIfS (fTst (fBin vLt (fOB 6) (fOB 10))) (fSeq (fDrop (fMut 5 "list" mAppend (fCons (fC (.int 0)) (fNil)))) (fAug 7 (fun i j => i + j) (fC (.int 1)))) (fSeq (fDrop (fMut 5 "list" mAppend (fCons (fBin vAdd (fOV (fBin vDiv (fOV (fBin vSub (fOB 6) (fOB 10))) (fOV (fBin vIx (fOB 9) (fOB 7))))) (fOV (fC (.int 1)))) (fNil)))) (fSet 6 (fBin vMod (fOV (fBin vSub (fOB 6) (fOB 10))) (fOV (fBin vIx (fOB 9) (fOB 7))))))
def L_unrank_list_1 : FS := fSeq (fSet 9 (fBin vIx (fOB 3) (fOV (fBin vSub (fOV (fBin vSub (fOB 0) (fOB 8))) (fOV (fC (.int 1))))))) (fSeq (fSet 10 (fIf (fTst (fBin vLt (fOB 7) (fOB 4))) (fBin vIx (fOB 9) (fOV (fBin vAdd (fOB 7) (fOV (fC (.int 1)))))) (fC (.int 0)))) (I_unrank_list_1))
def b_unrank_list : FS := fSeq (fDrop (slE (fCall 2 m_check_number [] (fAV (fVar 0) (fAV (fC (.int (400))) (fANil)))))) (fSeq (fDrop (slE (fCall 2 m_check_number [.non] (fAV (fVar 1) (fANil))))) (fSeq (fSet 3 (slE (fCall 2 m_completion_table [] (fAV (fVar 0) (fAV (fVar 1) (fANil)))))) (fSeq (fDrop (slE (fCall 2 m_check_number [] (fAV (fVar 2) (fAV (fBin vSub (fOV (fBin vIx (fOV (fBin vIx (fOB 3) (fOB 0))) (fOV (fC (.int 0))))) (fOV (fC (.int 1)))) (fANil)))))) (fSeq (fSet 4 (fBin vMin (fOB 0) (fOB 1))) (fSeq (fSetN 5 (fLst (fNil))) (fSeq (fSet 6 (fVar 2)) (fSeq (fSet 7 (fC (.int 0))) (fSeq (fFor (fRng1 (fCons (fVar 0) (fNil))) (gN 8) (L_unrank_list_1)) (fRet (slE (fCall 1 m_distances_from_ranks [] (fAV (fVar 5) (fANil)))))))))))))
def m_unrank_list : List Sl → Option (Sl × List Sl) := runD P_unrank_list N_unrank_list.length b_unrank_list
theorem k_unrank_list (F : FunD x.K "unrank_list" "unrank_list" (defArgs (top 28)) (defBody (top 28)) (defScope (top 28)) [] [] f fd) (c_check_number : Cal Pr w x.K mg base x "check_number" 2 ["number", "highest"] 2 m_check_number []) (q_MAX_POSITIONS : ∃ u, mg "MAX_POSITIONS" = some u ∧ RelV (.int (400)) u) (c_check_number_1 : Cal Pr w x.K mg base x "check_number" 2 ["number", "highest"] 2 m_check_number [.non]) (c_completion_table : Cal Pr w x.K mg base x "completion_table" 1 ["length", "most_symbols"] 2 m_completion_table []) (g_min : mg "min" = none) (g_range : mg "range" = none) (c_distances_from_ranks : Cal Pr w x.K mg base x "distances_from_ranks" 2 ["ranks"] 1 m_distances_from_ranks []) : FnOk Pr w x.K mg base CX0 (2 + 1) f fd ["length", "most_symbols", "number"] (spD x (["length", "most_symbols", "number"] : List Str).length (runD P_unrank_list N_unrank_list.length b_unrank_list)) := by
  refine fn_d (Pr := Pr) (w := w) (mg := mg) (base := base) (κ := x) (N := N_unrank_list) (k := 2) (P := P_unrank_list) (b := b_unrank_list) F s_unrank_list (fun cdv A outer s H E hr => ?_)
  exact (bCons (sExpr (DR.toE (dCall ⟨fun _ => rfl, fun _ => rfl, fun _ => rfl, fun _ => rfl, fun _ => rfl, fun _ => hr, fun _ => rfl⟩ c_check_number (by omega) (fun _ => rfl) (aV (dVar 0 (fun _ => rfl) (fun _ => locVis v_unrank_list_0)) (aV (dGc (d := .int (400)) (v := .int (400)) (fun _ => .int _) (fun _ => rfl) (fun _ => q_MAX_POSITIONS)) aNil)))))
    (bCons (sExpr (DR.toE (dCall ⟨fun _ => rfl, fun _ => rfl, fun _ => rfl, fun _ => rfl, fun _ => rfl, fun _ => hr, fun _ => rfl⟩ c_check_number_1 (by omega) (fun _ => rfl) (aV (dVar 1 (fun _ => rfl) (fun _ => locVis v_unrank_list_1)) aNil))))
    (bCons (sSet 3 rfl (fun _ => s_unrank_list.nd) (fun _ => rfl) (fun _ => v_unrank_list_3) (DR.toE (dCall ⟨fun _ => rfl, fun _ => rfl, fun _ => rfl, fun _ => rfl, fun _ => rfl, fun _ => hr, fun _ => rfl⟩ c_completion_table (by omega) (fun _ => rfl) (aV (dVar 0 (fun _ => rfl) (fun _ => locVis v_unrank_list_0)) (aV (dVar 1 (fun _ => rfl) (fun _ => locVis v_unrank_list_1)) aNil)))))
    (bCons (sExpr (DR.toE (dCall ⟨fun _ => rfl, fun _ => rfl, fun _ => rfl, fun _ => rfl, fun _ => rfl, fun _ => hr, fun _ => rfl⟩ c_check_number (by omega) (fun _ => rfl) (aV (dVar 2 (fun _ => rfl) (fun _ => locVis v_unrank_list_2)) (aV (dBin (fun _ => op_sub) opd_sub (dOV (dIxU (fun _ => rfl) (fun _ => un1 hr) (dOV (dIxU (fun _ => rfl) (fun _ => un1 hr) (dOB 3 (fun _ => rfl) (fun _ => locVis v_unrank_list_3)) (dOB 0 (fun _ => rfl) (fun _ => locVis v_unrank_list_0)) (fun _ _ => rfl))) (dOV dInt) (fun _ _ => rfl))) (dOV dInt)) aNil)))))
    (bCons (sSet 4 rfl (fun _ => s_unrank_list.nd) (fun _ => rfl) (fun _ => v_unrank_list_4) (dB2 (fun _ => call_min2 rfl) opd_min (fun _ => rfl) (fun _ => g_min) boot_min (dOB 0 (fun _ => rfl) (fun _ => locVis v_unrank_list_0)) (dOB 1 (fun _ => rfl) (fun _ => locVis v_unrank_list_1))))
    (bCons (sSetN 5 rfl (fun _ => s_unrank_list.nd) (fun _ => rfl) (fun _ => v_unrank_list_5) (dLst dNil))
    (bCons (sSet 6 rfl (fun _ => s_unrank_list.nd) (fun _ => rfl) (fun _ => v_unrank_list_6) (dVar 2 (fun _ => rfl) (fun _ => locVis v_unrank_list_2)))
    (bCons (sSet 7 rfl (fun _ => s_unrank_list.nd) (fun _ => rfl) (fun _ => v_unrank_list_7) dInt)
    (bCons (sFor (fun _ => PassesOwn.never) (fun _ => rfl) (iRange1 (fun _ => rfl) (fun _ => g_range) (dCons (dVar 0 (fun _ => rfl) (fun _ => locVis v_unrank_list_0)) dNil)) (gName_ 8 rfl (fun _ => s_unrank_list.nd) (fun _ => rfl) (fun _ => v_unrank_list_8)) (bCons (sSet 9 rfl (fun _ => s_unrank_list.nd) (fun _ => rfl) (fun _ => v_unrank_list_9) (dIxU (fun _ => rfl) (fun _ => un1 hr) (dOB 3 (fun _ => rfl) (fun _ => locVis v_unrank_list_3)) (dOV (dBin (fun _ => op_sub) opd_sub (dOV (dBin (fun _ => op_sub) opd_sub (dOB 0 (fun _ => rfl) (fun _ => locVis v_unrank_list_0)) (dOB 8 (fun _ => rfl) (fun _ => locVis v_unrank_list_8)))) (dOV dInt))) (fun _ _ => rfl)))
    (bCons (sSet 10 rfl (fun _ => s_unrank_list.nd) (fun _ => rfl) (fun _ => v_unrank_list_10) (dIf (dTcmp (fun _ => op_lt) opd_lt (dOB 7 (fun _ => rfl) (fun _ => locVis v_unrank_list_7)) (dOB 4 (fun _ => rfl) (fun _ => locVis v_unrank_list_4)) rfl) (dIxU (fun _ => rfl) (fun _ => un1 hr) (dOB 9 (fun _ => rfl) (fun _ => locVis v_unrank_list_9)) (dOV (dBin (fun _ => opr_add) opd_add (dOB 7 (fun _ => rfl) (fun _ => locVis v_unrank_list_7)) (dOV dInt))) (fun _ _ => rfl)) dInt))
    (bOne (sIf (dTcmp (fun _ => op_lt) opd_lt (dOB 6 (fun _ => rfl) (fun _ => locVis v_unrank_list_6)) (dOB 10 (fun _ => rfl) (fun _ => locVis v_unrank_list_10)) rfl) (bCons (sExpr (dMut 5 (fun _ => rfl) PySem.F.plainAttrs_list PySem.F.slot_list_append PySem.F.type_list_append (fun _ => mt_append) mur_append (fun _ => rfl) (fun _ => locVis v_unrank_list_5) (dCons dInt dNil)))
    (bOne (sAug 7 (fun _ => ip_add) rfl (fun _ => s_unrank_list.nd) (fun _ => rfl) (fun _ => v_unrank_list_7) dInt))) (bCons (sExpr (dMut 5 (fun _ => rfl) PySem.F.plainAttrs_list PySem.F.slot_list_append PySem.F.type_list_append (fun _ => mt_append) mur_append (fun _ => rfl) (fun _ => locVis v_unrank_list_5) (dCons (dBin (fun _ => opr_add) opd_add (dOV (dBin (fun _ => op_fdivW) opd_div (dOV (dBin (fun _ => op_sub) opd_sub (dOB 6 (fun _ => rfl) (fun _ => locVis v_unrank_list_6)) (dOB 10 (fun _ => rfl) (fun _ => locVis v_unrank_list_10)))) (dOV (dIxU (fun _ => rfl) (fun _ => un1 hr) (dOB 9 (fun _ => rfl) (fun _ => locVis v_unrank_list_9)) (dOB 7 (fun _ => rfl) (fun _ => locVis v_unrank_list_7)) (fun _ _ => rfl))))) (dOV dInt)) dNil)))
    (bOne (sSet 6 rfl (fun _ => s_unrank_list.nd) (fun _ => rfl) (fun _ => v_unrank_list_6) (dBin (fun _ => op_mod) opd_mod (dOV (dBin (fun _ => op_sub) opd_sub (dOB 6 (fun _ => rfl) (fun _ => locVis v_unrank_list_6)) (dOB 10 (fun _ => rfl) (fun _ => locVis v_unrank_list_10)))) (dOV (dIxU (fun _ => rfl) (fun _ => un1 hr) (dOB 9 (fun _ => rfl) (fun _ => locVis v_unrank_list_9)) (dOB 7 (fun _ => rfl) (fun _ => locVis v_unrank_list_7)) (fun _ _ => rfl))))))))))))
    (bOne (sRet (DR.toE (dCall ⟨fun _ => rfl, fun _ => rfl, fun _ => rfl, fun _ => rfl, fun _ => rfl, fun _ => hr, fun _ => rfl⟩ c_distances_from_ranks (by omega) (fun _ => rfl) (aV (dVar 5 (fun _ => rfl) (fun _ => locVis v_unrank_list_5)) aNil))))))))))))))
/-! _law_smallest -/
abbrev N_law_smallest : List Str := ["_law_many", "_law_most", "_law_few"]
theorem s_law_smallest : FnScope N_law_smallest ["_law_many", "_law_most"] (defScope (top 62)) := ⟨rfl, rfl, rfl, by decide +kernel, rfl, by decide +kernel, by decide +kernel⟩
theorem v_law_smallest_0 : Loc (defScope (top 62)) "_law_many" := by first | exact .inl rfl | exact .inr rfl
theorem v_law_smallest_1 : Loc (defScope (top 62)) "_law_most" := by first | exact .inl rfl | exact .inr rfl
theorem v_law_smallest_2 : Loc (defScope (top 62)) "_law_few" := by first | exact .inl rfl | exact .inr rfl
def P_law_smallest : Prt := fun k => ([] : List Nat).contains k
@[simp] theorem p_law_smallest (k : Nat) : P_law_smallest k = ([] : List Nat).contains k := rfl
def b_law_smallest : FS := fSeq (fSet 2 (fBin vMin (fOB 0) (fOB 1))) (fRet (fBin vAdd (fOV (fBin vMul (fOV (fLst (fCons (fC (.int 0)) (fNil)))) (fOB 2))) (fOV (fBin vMul (fOV (fLst (fCons (fC (.int 1)) (fNil)))) (fOV (fBin vSub (fOB 0) (fOB 2)))))))
def m_law_smallest : List Sl → Option (Sl × List Sl) := runD P_law_smallest N_law_smallest.length b_law_smallest
theorem k_law_smallest (F : FunD x.K "_law_smallest" "_law_smallest" (defArgs (top 62)) (defBody (top 62)) (defScope (top 62)) [] [] f fd) (g_min : mg "min" = none) : FnOk Pr w x.K mg base CX0 (0 + 1) f fd ["_law_many", "_law_most"] (spD x (["_law_many", "_law_most"] : List Str).length (runD P_law_smallest N_law_smallest.length b_law_smallest)) := by
  refine fn_d (Pr := Pr) (w := w) (mg := mg) (base := base) (κ := x) (N := N_law_smallest) (k := 0) (P := P_law_smallest) (b := b_law_smallest) F s_law_smallest (fun cdv A outer s H E hr => ?_)
  exact (bCons (sSet 2 rfl (fun _ => s_law_smallest.nd) (fun _ => rfl) (fun _ => v_law_smallest_2) (dB2 (fun _ => call_min2 rfl) opd_min (fun _ => rfl) (fun _ => g_min) boot_min (dOB 0 (fun _ => rfl) (fun _ => locVis v_law_smallest_0)) (dOB 1 (fun _ => rfl) (fun _ => locVis v_law_smallest_1))))
    (bOne (sRet (dBin (fun _ => opr_add) opd_add (dOV (dBin (fun _ => opr_mul) opd_mul (dOV (dNE (dLst (dCons dInt dNil)))) (dOB 2 (fun _ => rfl) (fun _ => locVis v_law_smallest_2)))) (dOV (dBin (fun _ => opr_mul) opd_mul (dOV (dNE (dLst (dCons dInt dNil)))) (dOV (dBin (fun _ => op_sub) opd_sub (dOB 0 (fun _ => rfl) (fun _ => locVis v_law_smallest_0)) (dOB 2 (fun _ => rfl) (fun _ => locVis v_law_smallest_2))))))))))
/-! _law_exact_count -/
abbrev N_law_exact_count : List Str := ["_law_many", "_law_most", "_law_ways", "_law_position", "_law_k"]
theorem s_law_exact_count : FnScope N_law_exact_count ["_law_many", "_law_most"] (defScope (top 63)) := ⟨rfl, rfl, rfl, by decide +kernel, rfl, by decide +kernel, by decide +kernel⟩
theorem v_law_exact_count_0 : Loc (defScope (top 63)) "_law_many" := by first | exact .inl rfl | exact .inr rfl
theorem v_law_exact_count_1 : Loc (defScope (top 63)) "_law_most" := by first | exact .inl rfl | exact .inr rfl
theorem v_law_exact_count_2 : Loc (defScope (top 63)) "_law_ways" := by first | exact .inl rfl | exact .inr rfl
theorem v_law_exact_count_3 : Loc (defScope (top 63)) "_law_position" := by first | exact .inl rfl | exact .inr rfl
def P_law_exact_count : Prt := fun k => ([] : List Nat).contains k
@[simp] theorem p_law_exact_count (k : Nat) : P_law_exact_count k = ([] : List Nat).contains k := rfl
def T_law_exact_count_1 : FT := fYes
def E_law_exact_count_1 : FE := fBin vAdd (fOV (fBin vIx (fOB 2) (fOV (fBin vSub (fOB 4) (fOV (fC (.int 1))))))) (fOV (fBin vMul (fOB 4) (fOV (fBin vIx (fOB 2) (fOB 4)))))
def L_law_exact_count_1 : FS := fSet 2 (fBin vAdd (fOV (fBin vAdd (fOV (fLst (fCons (fC (.int 0)) (fNil)))) (fOV (fLc [4] (fRng2 (fCons (fC (.int 1)) (fCons (fBin vAdd (fOB 1) (fOV (fC (.int 1)))) (fNil)))) (gN 4) (T_law_exact_count_1) (E_law_exact_count_1))))) (fOV (fLst (fCons (fC (.int 0)) (fNil)))))
def b_law_exact_count : FS := fSeq (fSet 2 (fBin vAdd (fOV (fLst (fCons (fC (.int 1)) (fNil)))) (fOV (fBin vMul (fOV (fLst (fCons (fC (.int 0)) (fNil)))) (fOV (fBin vAdd (fOB 1) (fOV (fC (.int 1))))))))) (fSeq (fFor (fRng1 (fCons (fVar 0) (fNil))) (gN 3) (L_law_exact_count_1)) (fRet (fBin vIx (fOB 2) (fOB 1))))
def m_law_exact_count : List Sl → Option (Sl × List Sl) := runD P_law_exact_count N_law_exact_count.length b_law_exact_count
theorem k_law_exact_count (F : FunD x.K "_law_exact_count" "_law_exact_count" (defArgs (top 63)) (defBody (top 63)) (defScope (top 63)) [] [] f fd) (g_range : mg "range" = none) : FnOk Pr w x.K mg base CX0 (0 + 1) f fd ["_law_many", "_law_most"] (spD x (["_law_many", "_law_most"] : List Str).length (runD P_law_exact_count N_law_exact_count.length b_law_exact_count)) := by
  refine fn_d (Pr := Pr) (w := w) (mg := mg) (base := base) (κ := x) (N := N_law_exact_count) (k := 0) (P := P_law_exact_count) (b := b_law_exact_count) F s_law_exact_count (fun cdv A outer s H E hr => ?_)
  exact (bCons (sSet 2 rfl (fun _ => s_law_exact_count.nd) (fun _ => rfl) (fun _ => v_law_exact_count_2) (dBin (fun _ => opr_add) opd_add (dOV (dNE (dLst (dCons dInt dNil)))) (dOV (dBin (fun _ => opr_mul) opd_mul (dOV (dNE (dLst (dCons dInt dNil)))) (dOV (dBin (fun _ => opr_add) opd_add (dOB 1 (fun _ => rfl) (fun _ => locVis v_law_exact_count_1)) (dOV dInt)))))))
    (bCons (sFor (fun _ => PassesOwn.never) (fun _ => rfl) (iRange1 (fun _ => rfl) (fun _ => g_range) (dCons (dVar 0 (fun _ => rfl) (fun _ => locVis v_law_exact_count_0)) dNil)) (gName_ 3 rfl (fun _ => s_law_exact_count.nd) (fun _ => rfl) (fun _ => v_law_exact_count_3)) (bOne (sSet 2 rfl (fun _ => s_law_exact_count.nd) (fun _ => rfl) (fun _ => v_law_exact_count_2) (dBin (fun _ => opr_add) opd_add (dOV (dBin (fun _ => opr_add) opd_add (dOV (dNE (dLst (dCons dInt dNil)))) (dOV (dNE (dLc (own := [("_law_k", 4)]) (fun _ => rfl) (fun _ => s_law_exact_count.nd) (iRange2 (fun _ => rfl) (fun _ => g_range) (dCons dInt (dCons (dBin (fun _ => opr_add) opd_add (dOB 1 (fun _ => rfl) (fun _ => locVis v_law_exact_count_1)) (dOV dInt)) dNil))) (fun _ => show BlkOk N_law_exact_count (defScope (top 63)) _ [("_law_k", 4)] from ⟨rfl, by decide +kernel, by decide +kernel, by decide +kernel, by decide +kernel⟩) (gName_ 4 rfl (fun _ => s_law_exact_count.nd) (fun _ => rfl) (fun _ => by first | exact .inl rfl | exact .inr rfl) (hf := (fun _ => by first | exact .inl rfl | exact .inr rfl))) tsNil (dBin (fun _ => opr_add) opd_add (dOV (dIxU (fun _ => rfl) (fun _ => un1 hr) (dOB 2 (fun _ => rfl) (fun _ => by first | exact .inl rfl | exact .inr (.inl rfl) | exact .inr (.inr rfl))) (dOV (dBin (fun _ => op_sub) opd_sub (dOB 4 (fun _ => rfl) (fun _ => by first | exact .inl rfl | exact .inr (.inl rfl) | exact .inr (.inr rfl))) (dOV dInt))) (fun _ _ => rfl))) (dOV (dBin (fun _ => opr_mul) opd_mul (dOB 4 (fun _ => rfl) (fun _ => by first | exact .inl rfl | exact .inr (.inl rfl) | exact .inr (.inr rfl))) (dOV (dIxU (fun _ => rfl) (fun _ => un1 hr) (dOB 2 (fun _ => rfl) (fun _ => by first | exact .inl rfl | exact .inr (.inl rfl) | exact .inr (.inr rfl))) (dOB 4 (fun _ => rfl) (fun _ => by first | exact .inl rfl | exact .inr (.inl rfl) | exact .inr (.inr rfl))) (fun _ _ => rfl))))))))))) (dOV (dNE (dLst (dCons dInt dNil))))))))
    (bOne (sRet (dIxU (fun _ => rfl) (fun _ => un1 hr) (dOB 2 (fun _ => rfl) (fun _ => locVis v_law_exact_count_2)) (dOB 1 (fun _ => rfl) (fun _ => locVis v_law_exact_count_1)) (fun _ _ => rfl))))))
/-! _law_ranking_holds -/
abbrev N_law_ranking_holds : List Str := ["_law_stream_here", "_law_distances_here", "_law_many", "_law_most", "_law_number", "_law_whole", "_law_later"]
theorem s_law_ranking_holds : FnScope N_law_ranking_holds ["_law_stream_here", "_law_distances_here"] (defScope (top 61)) := ⟨rfl, rfl, rfl, by decide +kernel, rfl, by decide +kernel, by decide +kernel⟩
theorem v_law_ranking_holds_0 : Loc (defScope (top 61)) "_law_stream_here" := by first | exact .inl rfl | exact .inr rfl
theorem v_law_ranking_holds_1 : Loc (defScope (top 61)) "_law_distances_here" := by first | exact .inl rfl | exact .inr rfl
theorem v_law_ranking_holds_2 : Loc (defScope (top 61)) "_law_many" := by first | exact .inl rfl | exact .inr rfl
theorem v_law_ranking_holds_3 : Loc (defScope (top 61)) "_law_most" := by first | exact .inl rfl | exact .inr rfl
theorem v_law_ranking_holds_4 : Loc (defScope (top 61)) "_law_number" := by first | exact .inl rfl | exact .inr rfl
theorem v_law_ranking_holds_5 : Loc (defScope (top 61)) "_law_whole" := by first | exact .inl rfl | exact .inr rfl
theorem v_law_ranking_holds_6 : Loc (defScope (top 61)) "_law_later" := by first | exact .inl rfl | exact .inr rfl
def P_law_ranking_holds : Prt := fun k => ([0] : List Nat).contains k
@[simp] theorem p_law_ranking_holds (k : Nat) : P_law_ranking_holds k = ([0] : List Nat).contains k := rfl
def I_law_ranking_holds_1 : FS := fIfS (fTor (fTnot (fChain vLeU vLt (fOV (fC (.int 0))) (fOB 4) (fOB 5))) (fTst (fBin vNe (fOV (slE (fCall 3 m_unrank_list [] (fAV (fVar 2) (fAV (fVar 3) (fAV (fVar 4) (fANil))))))) (fOB 1)))) (fRet (fC (.bl false))) (fNext)
def I_law_ranking_holds_2 : FS := fIfS (fTand (fTst (fBin vGt (fOB 2) (fOV (fC (.int 0))))) (fTst (fBin vNe (fOV (slE (fCall 3 m_unrank_list [] (fAV (fVar 2) (fAV (fVar 3) (fAV (fC (.int 0)) (fANil))))))) (fOV (slE (fCall 2 m_law_smallest [] (fAV (fVar 2) (fAV (fVar 3) (fANil))))))))) (fRet (fC (.bl false))) (fNext)
def I_law_ranking_holds_3 : FS := fIfS (fTor (fTst (fBin vLeU (fOB 6) (fOB 1))) (fTst (fBin vGt (fOV (slE (fCall 1 m_law_symbol_count [] (fAV (fVar 6) (fANil))))) (fOB 3)))) (fRet (fC (.bl false))) (fNext)
def I_law_ranking_holds_4 : FS := fIfS (fTst (fBin vNe (fOV (slE (fCall 2 m_rank_list [] (fAV (fVar 6) (fAV (fVar 3) (fANil)))))) (fOV (fBin vAdd (fOB 4) (fOV (fC (.int 1))))))) (fRet (fC (.bl false))) (fNext)
def I_law_ranking_holds_5 : FS := fIfS (fTst (fBin vLt (fOV (fBin vAdd (fOB 4) (fOV (fC (.int 1))))) (fOB 5))) (fSeq (fSet 6 (slE (fCall 3 m_unrank_list [] (fAV (fVar 2) (fAV (fVar 3) (fAV (fBin vAdd (fOB 4) (fOV (fC (.int 1)))) (fANil))))))) (fSeq (I_law_ranking_holds_3) (I_law_ranking_holds_4))) (fNext)
def I_law_ranking_holds_6 : FS := fIfS (fTst (fBin vEq (fOB 3) (fOV (fC (.int 0))))) (fRet (fBin vEq (fOB 5) (fOV (fUn vInt (fOV (fBin vEq (fOB 2) (fOV (fC (.int 0))))))))) (fNext)
def b_law_ranking_holds : FS := fSeq (fSet 2 (fUn vLen (fOB 1))) (fSeq (fSet 3 (fBin vAdd (fOV (slE (fCall 1 m_law_symbol_count [] (fAV (fVar 1) (fANil))))) (fOV (slE (fCall 2 m_law_draw [] (fAO 0 (fAV (fC (.int 3)) (fANil)))))))) (fSeq (fSet 4 (slE (fCall 2 m_rank_list [] (fAV (fVar 1) (fAV (fVar 3) (fANil)))))) (fSeq (fSet 5 (slE (fCall 2 m_count_lists [] (fAV (fVar 2) (fAV (fVar 3) (fANil)))))) (fSeq (I_law_ranking_holds_1) (fSeq (I_law_ranking_holds_2) (fSeq (I_law_ranking_holds_5) (fSeq (I_law_ranking_holds_6) (fRet (fBin vEq (fOB 5) (fOV (fBin vAdd (fOV (slE (fCall 2 m_count_lists [] (fAV (fVar 2) (fAV (fBin vSub (fOB 3) (fOV (fC (.int 1)))) (fANil)))))) (fOV (slE (fCall 2 m_law_exact_count [] (fAV (fVar 2) (fAV (fVar 3) (fANil)))))))))))))))))
def m_law_ranking_holds : List Sl → Option (Sl × List Sl) := runD P_law_ranking_holds N_law_ranking_holds.length b_law_ranking_holds
theorem k_law_ranking_holds (F : FunD x.K "_law_ranking_holds" "_law_ranking_holds" (defArgs (top 61)) (defBody (top 61)) (defScope (top 61)) [] [] f fd) (g_len : mg "len" = none) (c_law_symbol_count : Cal Pr w x.K mg base x "_law_symbol_count" 1 ["_law_distances_here"] 1 m_law_symbol_count []) (c_law_draw : Cal Pr w x.K mg base x "_law_draw" 1 ["_law_stream_here", "_law_many"] 2 m_law_draw []) (c_rank_list : Cal Pr w x.K mg base x "rank_list" 4 ["distances", "most_symbols"] 2 m_rank_list []) (c_count_lists : Cal Pr w x.K mg base x "count_lists" 3 ["length", "most_symbols"] 2 m_count_lists []) (c_unrank_list : Cal Pr w x.K mg base x "unrank_list" 3 ["length", "most_symbols", "number"] 3 m_unrank_list []) (c_law_smallest : Cal Pr w x.K mg base x "_law_smallest" 1 ["_law_many", "_law_most"] 2 m_law_smallest []) (g_int : mg "int" = none) (c_law_exact_count : Cal Pr w x.K mg base x "_law_exact_count" 1 ["_law_many", "_law_most"] 2 m_law_exact_count []) : FnOk Pr w x.K mg base CX0 (4 + 1) f fd ["_law_stream_here", "_law_distances_here"] (spD x (["_law_stream_here", "_law_distances_here"] : List Str).length (runD P_law_ranking_holds N_law_ranking_holds.length b_law_ranking_holds)) := by
  refine fn_d (Pr := Pr) (w := w) (mg := mg) (base := base) (κ := x) (N := N_law_ranking_holds) (k := 4) (P := P_law_ranking_holds) (b := b_law_ranking_holds) F s_law_ranking_holds (fun cdv A outer s H E hr => ?_)
  exact (bCons (sSet 2 rfl (fun _ => s_law_ranking_holds.nd) (fun _ => rfl) (fun _ => v_law_ranking_holds_2) (dB1 (fun _ => cr_len) und_len (fun _ => rfl) (fun _ => g_len) boot_len (dOB 1 (fun _ => rfl) (fun _ => locVis v_law_ranking_holds_1))))
    (bCons (sSet 3 rfl (fun _ => s_law_ranking_holds.nd) (fun _ => rfl) (fun _ => v_law_ranking_holds_3) (dBin (fun _ => opr_add) opd_add (dOV (DR.toE (dCall ⟨fun _ => rfl, fun _ => rfl, fun _ => rfl, fun _ => rfl, fun _ => rfl, fun _ => hr, fun _ => rfl⟩ c_law_symbol_count (by omega) (fun _ => rfl) (aV (dVar 1 (fun _ => rfl) (fun _ => locVis v_law_ranking_holds_1)) aNil)))) (dOV (DR.toE (dCall ⟨fun _ => rfl, fun _ => rfl, fun _ => rfl, fun _ => rfl, fun _ => rfl, fun _ => hr, fun _ => rfl⟩ c_law_draw (by omega) (fun _ => rfl) (aO 0 (fun _ => rfl) (fun _ => locVis v_law_ranking_holds_0) (aV dInt aNil)))))))
    (bCons (sSet 4 rfl (fun _ => s_law_ranking_holds.nd) (fun _ => rfl) (fun _ => v_law_ranking_holds_4) (DR.toE (dCall ⟨fun _ => rfl, fun _ => rfl, fun _ => rfl, fun _ => rfl, fun _ => rfl, fun _ => hr, fun _ => rfl⟩ c_rank_list (by omega) (fun _ => rfl) (aV (dVar 1 (fun _ => rfl) (fun _ => locVis v_law_ranking_holds_1)) (aV (dVar 3 (fun _ => rfl) (fun _ => locVis v_law_ranking_holds_3)) aNil)))))
    (bCons (sSet 5 rfl (fun _ => s_law_ranking_holds.nd) (fun _ => rfl) (fun _ => v_law_ranking_holds_5) (DR.toE (dCall ⟨fun _ => rfl, fun _ => rfl, fun _ => rfl, fun _ => rfl, fun _ => rfl, fun _ => hr, fun _ => rfl⟩ c_count_lists (by omega) (fun _ => rfl) (aV (dVar 2 (fun _ => rfl) (fun _ => locVis v_law_ranking_holds_2)) (aV (dVar 3 (fun _ => rfl) (fun _ => locVis v_law_ranking_holds_3)) aNil)))))
    (bCons (sIf (dWT (dWor (dTnot (dTchain (fun _ => op_leU (Nat.lt_of_succ_lt (un1 hr))) (fun _ => op_lt) opd_leU opd_lt (dOV dInt) (dOB 4 (fun _ => rfl) (fun _ => locVis v_law_ranking_holds_4)) (dOB 5 (fun _ => rfl) (fun _ => locVis v_law_ranking_holds_5)))) (dWor1 (dTcmp (fun _ => op_neD hr.units) opd_ne (dOV (DR.toE (dCall ⟨fun _ => rfl, fun _ => rfl, fun _ => rfl, fun _ => rfl, fun _ => rfl, fun _ => hr, fun _ => rfl⟩ c_unrank_list (by omega) (fun _ => rfl) (aV (dVar 2 (fun _ => rfl) (fun _ => locVis v_law_ranking_holds_2)) (aV (dVar 3 (fun _ => rfl) (fun _ => locVis v_law_ranking_holds_3)) (aV (dVar 4 (fun _ => rfl) (fun _ => locVis v_law_ranking_holds_4)) aNil)))))) (dOB 1 (fun _ => rfl) (fun _ => locVis v_law_ranking_holds_1)) rfl)))) (bOne (sRet dBl)) bNil)
    (bCons (sIf (dWT (dWand (dTcmp (fun _ => op_gt) opd_gt (dOB 2 (fun _ => rfl) (fun _ => locVis v_law_ranking_holds_2)) (dOV dInt) rfl) (dWand1 (dTcmp (fun _ => op_neD hr.units) opd_ne (dOV (DR.toE (dCall ⟨fun _ => rfl, fun _ => rfl, fun _ => rfl, fun _ => rfl, fun _ => rfl, fun _ => hr, fun _ => rfl⟩ c_unrank_list (by omega) (fun _ => rfl) (aV (dVar 2 (fun _ => rfl) (fun _ => locVis v_law_ranking_holds_2)) (aV (dVar 3 (fun _ => rfl) (fun _ => locVis v_law_ranking_holds_3)) (aV dInt aNil)))))) (dOV (DR.toE (dCall ⟨fun _ => rfl, fun _ => rfl, fun _ => rfl, fun _ => rfl, fun _ => rfl, fun _ => hr, fun _ => rfl⟩ c_law_smallest (by omega) (fun _ => rfl) (aV (dVar 2 (fun _ => rfl) (fun _ => locVis v_law_ranking_holds_2)) (aV (dVar 3 (fun _ => rfl) (fun _ => locVis v_law_ranking_holds_3)) aNil))))) rfl)))) (bOne (sRet dBl)) bNil)
    (bCons (sIf (dTcmp (fun _ => op_lt) opd_lt (dOV (dBin (fun _ => opr_add) opd_add (dOB 4 (fun _ => rfl) (fun _ => locVis v_law_ranking_holds_4)) (dOV dInt))) (dOB 5 (fun _ => rfl) (fun _ => locVis v_law_ranking_holds_5)) rfl) (bCons (sSet 6 rfl (fun _ => s_law_ranking_holds.nd) (fun _ => rfl) (fun _ => v_law_ranking_holds_6) (DR.toE (dCall ⟨fun _ => rfl, fun _ => rfl, fun _ => rfl, fun _ => rfl, fun _ => rfl, fun _ => hr, fun _ => rfl⟩ c_unrank_list (by omega) (fun _ => rfl) (aV (dVar 2 (fun _ => rfl) (fun _ => locVis v_law_ranking_holds_2)) (aV (dVar 3 (fun _ => rfl) (fun _ => locVis v_law_ranking_holds_3)) (aV (dBin (fun _ => opr_add) opd_add (dOB 4 (fun _ => rfl) (fun _ => locVis v_law_ranking_holds_4)) (dOV dInt)) aNil))))))
    (bCons (sIf (dWT (dWor (dTcmp (fun _ => op_leU (Nat.lt_of_succ_lt (un1 hr))) opd_leU (dOB 6 (fun _ => rfl) (fun _ => locVis v_law_ranking_holds_6)) (dOB 1 (fun _ => rfl) (fun _ => locVis v_law_ranking_holds_1)) rfl) (dWor1 (dTcmp (fun _ => op_gt) opd_gt (dOV (DR.toE (dCall ⟨fun _ => rfl, fun _ => rfl, fun _ => rfl, fun _ => rfl, fun _ => rfl, fun _ => hr, fun _ => rfl⟩ c_law_symbol_count (by omega) (fun _ => rfl) (aV (dVar 6 (fun _ => rfl) (fun _ => locVis v_law_ranking_holds_6)) aNil)))) (dOB 3 (fun _ => rfl) (fun _ => locVis v_law_ranking_holds_3)) rfl)))) (bOne (sRet dBl)) bNil)
    (bOne (sIf (dTcmp (fun _ => op_neD hr.units) opd_ne (dOV (DR.toE (dCall ⟨fun _ => rfl, fun _ => rfl, fun _ => rfl, fun _ => rfl, fun _ => rfl, fun _ => hr, fun _ => rfl⟩ c_rank_list (by omega) (fun _ => rfl) (aV (dVar 6 (fun _ => rfl) (fun _ => locVis v_law_ranking_holds_6)) (aV (dVar 3 (fun _ => rfl) (fun _ => locVis v_law_ranking_holds_3)) aNil))))) (dOV (dBin (fun _ => opr_add) opd_add (dOB 4 (fun _ => rfl) (fun _ => locVis v_law_ranking_holds_4)) (dOV dInt))) rfl) (bOne (sRet dBl)) bNil)))) bNil)
    (bCons (sIf (dTcmp (fun _ => op_eqD hr.units) opd_eq (dOB 3 (fun _ => rfl) (fun _ => locVis v_law_ranking_holds_3)) (dOV dInt) rfl) (bOne (sRet (dCmp (fun _ => op_eqD hr.units) opd_eq (dOB 5 (fun _ => rfl) (fun _ => locVis v_law_ranking_holds_5)) (dOV (dT1 (fun _ => call_int1) und_int (fun _ => rfl) (fun _ => g_int) boot_int (dOV (dCmp (fun _ => op_eqD hr.units) opd_eq (dOB 2 (fun _ => rfl) (fun _ => locVis v_law_ranking_holds_2)) (dOV dInt) rfl)))) rfl))) bNil)
    (bOne (sRet (dCmp (fun _ => op_eqD hr.units) opd_eq (dOB 5 (fun _ => rfl) (fun _ => locVis v_law_ranking_holds_5)) (dOV (dBin (fun _ => opr_add) opd_add (dOV (DR.toE (dCall ⟨fun _ => rfl, fun _ => rfl, fun _ => rfl, fun _ => rfl, fun _ => rfl, fun _ => hr, fun _ => rfl⟩ c_count_lists (by omega) (fun _ => rfl) (aV (dVar 2 (fun _ => rfl) (fun _ => locVis v_law_ranking_holds_2)) (aV (dBin (fun _ => op_sub) opd_sub (dOB 3 (fun _ => rfl) (fun _ => locVis v_law_ranking_holds_3)) (dOV dInt)) aNil))))) (dOV (DR.toE (dCall ⟨fun _ => rfl, fun _ => rfl, fun _ => rfl, fun _ => rfl, fun _ => rfl, fun _ => hr, fun _ => rfl⟩ c_law_exact_count (by omega) (fun _ => rfl) (aV (dVar 2 (fun _ => rfl) (fun _ => locVis v_law_ranking_holds_2)) (aV (dVar 3 (fun _ => rfl) (fun _ => locVis v_law_ranking_holds_3)) aNil))))))) rfl)))))))))))
/-! recency_ranks -/
abbrev N_recency_ranks : List Str := ["distances", "own", "ids", "position"]
theorem s_recency_ranks : FnScope N_recency_ranks ["distances"] (defScope (top 21)) := ⟨rfl, rfl, rfl, by decide +kernel, rfl, by decide +kernel, by decide +kernel⟩
theorem v_recency_ranks_0 : Loc (defScope (top 21)) "distances" := by first | exact .inl rfl | exact .inr rfl
theorem v_recency_ranks_1 : Loc (defScope (top 21)) "own" := by first | exact .inl rfl | exact .inr rfl
theorem v_recency_ranks_2 : Loc (defScope (top 21)) "ids" := by first | exact .inl rfl | exact .inr rfl
def P_recency_ranks : Prt := fun k => ([] : List Nat).contains k
@[simp] theorem p_recency_ranks (k : Nat) : P_recency_ranks k = ([] : List Nat).contains k := rfl
def T_recency_ranks_1 : FT := fYes
def E_recency_ranks_1 : FE := slE (fCall 3 m_rank_at [] (fAV (fVar 1) (fAV (fVar 2) (fAV (fVar 3) (fANil)))))
def b_recency_ranks : FS := fSeq (fSet 1 (slE (fCall 1 m_checked_distances [] (fAV (fVar 0) (fANil))))) (fSeq (fSet 2 (slE (fCall 1 m_ids_of [] (fAV (fVar 1) (fANil))))) (fRet (fLc [3] (fRng1 (fCons (fUn vLen (fOB 1)) (fNil))) (gN 3) (T_recency_ranks_1) (E_recency_ranks_1))))
def m_recency_ranks : List Sl → Option (Sl × List Sl) := runD P_recency_ranks N_recency_ranks.length b_recency_ranks
theorem k_recency_ranks (F : FunD x.K "recency_ranks" "recency_ranks" (defArgs (top 21)) (defBody (top 21)) (defScope (top 21)) [] [] f fd) (c_checked_distances : Cal Pr w x.K mg base x "checked_distances" 3 ["distances"] 1 m_checked_distances []) (c_ids_of : Cal Pr w x.K mg base x "ids_of" 1 ["distances"] 1 m_ids_of []) (g_len : mg "len" = none) (g_range : mg "range" = none) (c_rank_at : Cal Pr w x.K mg base x "rank_at" 1 ["distances", "ids", "position"] 3 m_rank_at []) : FnOk Pr w x.K mg base CX0 (3 + 1) f fd ["distances"] (spD x (["distances"] : List Str).length (runD P_recency_ranks N_recency_ranks.length b_recency_ranks)) := by
  refine fn_d (Pr := Pr) (w := w) (mg := mg) (base := base) (κ := x) (N := N_recency_ranks) (k := 3) (P := P_recency_ranks) (b := b_recency_ranks) F s_recency_ranks (fun cdv A outer s H E hr => ?_)
  exact (bCons (sSet 1 rfl (fun _ => s_recency_ranks.nd) (fun _ => rfl) (fun _ => v_recency_ranks_1) (DR.toE (dCall ⟨fun _ => rfl, fun _ => rfl, fun _ => rfl, fun _ => rfl, fun _ => rfl, fun _ => hr, fun _ => rfl⟩ c_checked_distances (by omega) (fun _ => rfl) (aV (dVar 0 (fun _ => rfl) (fun _ => locVis v_recency_ranks_0)) aNil))))
    (bCons (sSet 2 rfl (fun _ => s_recency_ranks.nd) (fun _ => rfl) (fun _ => v_recency_ranks_2) (DR.toE (dCall ⟨fun _ => rfl, fun _ => rfl, fun _ => rfl, fun _ => rfl, fun _ => rfl, fun _ => hr, fun _ => rfl⟩ c_ids_of (by omega) (fun _ => rfl) (aV (dVar 1 (fun _ => rfl) (fun _ => locVis v_recency_ranks_1)) aNil))))
    (bOne (sRet (dNE (dLc (own := [("position", 3)]) (fun _ => rfl) (fun _ => s_recency_ranks.nd) (iRange1 (fun _ => rfl) (fun _ => g_range) (dCons (dB1 (fun _ => cr_len) und_len (fun _ => rfl) (fun _ => g_len) boot_len (dOB 1 (fun _ => rfl) (fun _ => locVis v_recency_ranks_1))) dNil)) (fun _ => show BlkOk N_recency_ranks (defScope (top 21)) _ [("position", 3)] from ⟨rfl, by decide +kernel, by decide +kernel, by decide +kernel, by decide +kernel⟩) (gName_ 3 rfl (fun _ => s_recency_ranks.nd) (fun _ => rfl) (fun _ => by first | exact .inl rfl | exact .inr rfl) (hf := (fun _ => by first | exact .inl rfl | exact .inr rfl))) tsNil (DR.toE (dCall ⟨fun _ => rfl, fun _ => rfl, fun _ => rfl, fun _ => rfl, fun _ => rfl, fun _ => hr, fun _ => rfl⟩ c_rank_at (by omega) (fun _ => rfl) (aV (dVar 1 (fun _ => rfl) (fun _ => by first | exact .inl rfl | exact .inr (.inl rfl) | exact .inr (.inr rfl))) (aV (dVar 2 (fun _ => rfl) (fun _ => by first | exact .inl rfl | exact .inr (.inl rfl) | exact .inr (.inr rfl))) (aV (dVar 3 (fun _ => rfl) (fun _ => by first | exact .inl rfl | exact .inr (.inl rfl) | exact .inr (.inr rfl))) aNil)))))))))))
/-! _law_holds -/
abbrev N_law_holds : List Str := ["_law_stream_here", "_law_distances_here"]
theorem s_law_holds : FnScope N_law_holds ["_law_stream_here"] (defScope (top 65)) := ⟨rfl, rfl, rfl, by decide +kernel, rfl, by decide +kernel, by decide +kernel⟩
theorem v_law_holds_0 : Loc (defScope (top 65)) "_law_stream_here" := by first | exact .inl rfl | exact .inr rfl
theorem v_law_holds_1 : Loc (defScope (top 65)) "_law_distances_here" := by first | exact .inl rfl | exact .inr rfl
def P_law_holds : Prt := fun k => ([0] : List Nat).contains k
@[simp] theorem p_law_holds (k : Nat) : P_law_holds k = ([0] : List Nat).contains k := rfl
def I_law_holds_1 : FS := fIfS (fTst (fBin vNe (fOV (slE (fCall 1 m_distances_from_ranks [] (fAV (slE (fCall 1 m_recency_ranks [] (fAV (fVar 1) (fANil)))) (fANil))))) (fOB 1))) (fRet (fC (.bl false))) (fNext)
def I_law_holds_2 : FS := fIfS (fTnot (fTst (slE (fCall 2 m_law_windows_hold [] (fAV (fVar 1) (fAV (slE (fCall 2 m_law_draw [] (fAO 0 (fAV (fBin vAdd (fOV (fUn vLen (fOB 1))) (fOV (fC (.int 1)))) (fANil))))) (fANil))))))) (fRet (fC (.bl false))) (fNext)
def I_law_holds_3 : FS := fIfS (fTnot (fTst (slE (fCall 2 m_law_ranking_holds [] (fAO 0 (fAV (fVar 1) (fANil))))))) (fRet (fC (.bl false))) (fNext)
def b_law_holds : FS := fSeq (fSet 1 (slE (fCall 1 m_law_distances [] (fAV (slE (fCall 3 m_law_symbols [] (fAO 0 (fAV (slE (fCall 2 m_law_draw [] (fAO 0 (fAV (fC (.int 61)) (fANil))))) (fAV (fBin vAdd (fOV (fC (.int 1))) (fOV (slE (fCall 2 m_law_draw [] (fAO 0 (fAV (fC (.int 9)) (fANil))))))) (fANil)))))) (fANil))))) (fSeq (I_law_holds_1) (fSeq (I_law_holds_2) (fSeq (I_law_holds_3) (fRet (slE (fCall 2 m_law_edits_hold [] (fAO 0 (fAV (fVar 1) (fANil)))))))))
def m_law_holds : List Sl → Option (Sl × List Sl) := runD P_law_holds N_law_holds.length b_law_holds
theorem k_law_holds (F : FunD x.K "_law_holds" "_law_holds" (defArgs (top 65)) (defBody (top 65)) (defScope (top 65)) [] [] f fd) (c_law_distances : Cal Pr w x.K mg base x "_law_distances" 1 ["_law_symbols_here"] 1 m_law_distances []) (c_law_symbols : Cal Pr w x.K mg base x "_law_symbols" 2 ["_law_stream_here", "_law_many", "_law_most"] 3 m_law_symbols []) (c_law_draw : Cal Pr w x.K mg base x "_law_draw" 1 ["_law_stream_here", "_law_many"] 2 m_law_draw []) (c_distances_from_ranks : Cal Pr w x.K mg base x "distances_from_ranks" 2 ["ranks"] 1 m_distances_from_ranks []) (c_recency_ranks : Cal Pr w x.K mg base x "recency_ranks" 4 ["distances"] 1 m_recency_ranks []) (c_law_windows_hold : Cal Pr w x.K mg base x "_law_windows_hold" 5 ["_law_distances_here", "_law_position"] 2 m_law_windows_hold []) (g_len : mg "len" = none) (c_law_ranking_holds : Cal Pr w x.K mg base x "_law_ranking_holds" 5 ["_law_stream_here", "_law_distances_here"] 2 m_law_ranking_holds []) (c_law_edits_hold : Cal Pr w x.K mg base x "_law_edits_hold" 5 ["_law_stream_here", "_law_distances_here"] 2 m_law_edits_hold []) : FnOk Pr w x.K mg base CX0 (5 + 1) f fd ["_law_stream_here"] (spD x (["_law_stream_here"] : List Str).length (runD P_law_holds N_law_holds.length b_law_holds)) := by
  refine fn_d (Pr := Pr) (w := w) (mg := mg) (base := base) (κ := x) (N := N_law_holds) (k := 5) (P := P_law_holds) (b := b_law_holds) F s_law_holds (fun cdv A outer s H E hr => ?_)
  exact (bCons (sSet 1 rfl (fun _ => s_law_holds.nd) (fun _ => rfl) (fun _ => v_law_holds_1) (DR.toE (dCall ⟨fun _ => rfl, fun _ => rfl, fun _ => rfl, fun _ => rfl, fun _ => rfl, fun _ => hr, fun _ => rfl⟩ c_law_distances (by omega) (fun _ => rfl) (aV (DR.toE (dCall ⟨fun _ => rfl, fun _ => rfl, fun _ => rfl, fun _ => rfl, fun _ => rfl, fun _ => hr, fun _ => rfl⟩ c_law_symbols (by omega) (fun _ => rfl) (aO 0 (fun _ => rfl) (fun _ => locVis v_law_holds_0) (aV (DR.toE (dCall ⟨fun _ => rfl, fun _ => rfl, fun _ => rfl, fun _ => rfl, fun _ => rfl, fun _ => hr, fun _ => rfl⟩ c_law_draw (by omega) (fun _ => rfl) (aO 0 (fun _ => rfl) (fun _ => locVis v_law_holds_0) (aV dInt aNil)))) (aV (dBin (fun _ => opr_add) opd_add (dOV dInt) (dOV (DR.toE (dCall ⟨fun _ => rfl, fun _ => rfl, fun _ => rfl, fun _ => rfl, fun _ => rfl, fun _ => hr, fun _ => rfl⟩ c_law_draw (by omega) (fun _ => rfl) (aO 0 (fun _ => rfl) (fun _ => locVis v_law_holds_0) (aV dInt aNil)))))) aNil))))) aNil))))
    (bCons (sIf (dTcmp (fun _ => op_neD hr.units) opd_ne (dOV (DR.toE (dCall ⟨fun _ => rfl, fun _ => rfl, fun _ => rfl, fun _ => rfl, fun _ => rfl, fun _ => hr, fun _ => rfl⟩ c_distances_from_ranks (by omega) (fun _ => rfl) (aV (DR.toE (dCall ⟨fun _ => rfl, fun _ => rfl, fun _ => rfl, fun _ => rfl, fun _ => rfl, fun _ => hr, fun _ => rfl⟩ c_recency_ranks (by omega) (fun _ => rfl) (aV (dVar 1 (fun _ => rfl) (fun _ => locVis v_law_holds_1)) aNil))) aNil)))) (dOB 1 (fun _ => rfl) (fun _ => locVis v_law_holds_1)) rfl) (bOne (sRet dBl)) bNil)
    (bCons (sIf (dTnot (dTval (DR.toE (dCall ⟨fun _ => rfl, fun _ => rfl, fun _ => rfl, fun _ => rfl, fun _ => rfl, fun _ => hr, fun _ => rfl⟩ c_law_windows_hold (by omega) (fun _ => rfl) (aV (dVar 1 (fun _ => rfl) (fun _ => locVis v_law_holds_1)) (aV (DR.toE (dCall ⟨fun _ => rfl, fun _ => rfl, fun _ => rfl, fun _ => rfl, fun _ => rfl, fun _ => hr, fun _ => rfl⟩ c_law_draw (by omega) (fun _ => rfl) (aO 0 (fun _ => rfl) (fun _ => locVis v_law_holds_0) (aV (dBin (fun _ => opr_add) opd_add (dOV (dB1 (fun _ => cr_len) und_len (fun _ => rfl) (fun _ => g_len) boot_len (dOB 1 (fun _ => rfl) (fun _ => locVis v_law_holds_1)))) (dOV dInt)) aNil)))) aNil)))) (by intro _ _; rfl))) (bOne (sRet dBl)) bNil)
    (bCons (sIf (dTnot (dTval (DR.toE (dCall ⟨fun _ => rfl, fun _ => rfl, fun _ => rfl, fun _ => rfl, fun _ => rfl, fun _ => hr, fun _ => rfl⟩ c_law_ranking_holds (by omega) (fun _ => rfl) (aO 0 (fun _ => rfl) (fun _ => locVis v_law_holds_0) (aV (dVar 1 (fun _ => rfl) (fun _ => locVis v_law_holds_1)) aNil)))) (by intro _ _; rfl))) (bOne (sRet dBl)) bNil)
    (bOne (sRet (DR.toE (dCall ⟨fun _ => rfl, fun _ => rfl, fun _ => rfl, fun _ => rfl, fun _ => rfl, fun _ => hr, fun _ => rfl⟩ c_law_edits_hold (by omega) (fun _ => rfl) (aO 0 (fun _ => rfl) (fun _ => locVis v_law_holds_0) (aV (dVar 1 (fun _ => rfl) (fun _ => locVis v_law_holds_1)) aNil))))))))))
/-! _law_stream -/
abbrev N_law_stream : List Str := ["_law_cell", "_law_k"]
theorem s_law_stream : FnScope N_law_stream ["_law_cell", "_law_k"] (defScope (top 52)) := ⟨rfl, rfl, rfl, by decide +kernel, rfl, by decide +kernel, by decide +kernel⟩
theorem v_law_stream_0 : Loc (defScope (top 52)) "_law_cell" := by first | exact .inl rfl | exact .inr rfl
theorem v_law_stream_1 : Loc (defScope (top 52)) "_law_k" := by first | exact .inl rfl | exact .inr rfl
def P_law_stream : Prt := fun k => ([] : List Nat).contains k
@[simp] theorem p_law_stream (k : Nat) : P_law_stream k = ([] : List Nat).contains k := rfl
def b_law_stream : FS := fRetN (fLst (fCons (fUn vAbs (fOB 0)) (fCons (fBin vMod (fOV (fBin vMul (fOV (fBin vAdd (fOV (fBin vMod (fOV (fUn vAbs (fOB 0))) (fOV (fC (.int 2147483629))))) (fOV (fC (.int 1))))) (fOV (fBin vAdd (fOV (fBin vMul (fOV (fC (.int 2))) (fOB 1))) (fOV (fC (.int 16807))))))) (fOV (fC (.int 2147483647)))) (fNil))))
def m_law_stream : List Sl → Option (Sl × List Sl) := runD P_law_stream N_law_stream.length b_law_stream
theorem k_law_stream (F : FunD x.K "_law_stream" "_law_stream" (defArgs (top 52)) (defBody (top 52)) (defScope (top 52)) [] [] f fd) (g_abs : mg "abs" = none) : FnOk Pr w x.K mg base CX0 (0 + 1) f fd ["_law_cell", "_law_k"] (spD x (["_law_cell", "_law_k"] : List Str).length (runD P_law_stream N_law_stream.length b_law_stream)) := by
  refine fn_d (Pr := Pr) (w := w) (mg := mg) (base := base) (κ := x) (N := N_law_stream) (k := 0) (P := P_law_stream) (b := b_law_stream) F s_law_stream (fun cdv A outer s H E hr => ?_)
  exact (bOne (sRetN (dLst (dCons (dB1 (fun _ => call_abs) und_abs (fun _ => rfl) (fun _ => g_abs) boot_abs (dOB 0 (fun _ => rfl) (fun _ => locVis v_law_stream_0))) (dCons (dBin (fun _ => op_mod) opd_mod (dOV (dBin (fun _ => opr_mul) opd_mul (dOV (dBin (fun _ => opr_add) opd_add (dOV (dBin (fun _ => op_mod) opd_mod (dOV (dB1 (fun _ => call_abs) und_abs (fun _ => rfl) (fun _ => g_abs) boot_abs (dOB 0 (fun _ => rfl) (fun _ => locVis v_law_stream_0)))) (dOV dInt))) (dOV dInt))) (dOV (dBin (fun _ => opr_add) opd_add (dOV (dBin (fun _ => opr_mul) opd_mul (dOV dInt) (dOB 1 (fun _ => rfl) (fun _ => locVis v_law_stream_1)))) (dOV dInt))))) (dOV dInt)) dNil)))))
/-! law -/
abbrev N_law : List Str := ["_law_script", "_law_cells", "_law_k", "_law_cell"]
theorem s_law : FnScope N_law ["_law_script"] (defScope (top 66)) := ⟨rfl, rfl, rfl, by decide +kernel, rfl, by decide +kernel, by decide +kernel⟩
theorem v_law_0 : Loc (defScope (top 66)) "_law_script" := by first | exact .inl rfl | exact .inr rfl
theorem v_law_1 : Loc (defScope (top 66)) "_law_cells" := by first | exact .inl rfl | exact .inr rfl
def P_law : Prt := fun k => ([] : List Nat).contains k
@[simp] theorem p_law (k : Nat) : P_law k = ([] : List Nat).contains k := rfl
def T_law_1 : FT := fTnot (fTst (slE (fCallN1 m_law_holds (slN (fCall 2 m_law_stream [] (fAV (fVar 3) (fAV (fVar 2) (fANil))))))))
def E_law_1 : FE := fVar 2
def b_law : FS := fSeq (fSet 1 (fSl (fOV (fBin vAdd (fOV (fSl (fOB 0) (fPN) (fPS (fC (.int 6))))) (fOV (fLst (fCons (fC (.int 0)) (fNil)))))) (fPN) (fPS (fBin vMax (fOV (fC (.int 1))) (fOV (fBin vMin (fOV (fC (.int 6))) (fOV (fUn vLen (fOB 0))))))))) (fRet (fBin vEq (fOV (fLc [2, 3] (fEnum (fCons (fVar 1) (fNil))) (gT 2 (gsCons (gN 2) (gsCons (gN 3) (gsNil)))) (T_law_1) (E_law_1))) (fOV (fLst (fNil)))))
def m_law : List Sl → Option (Sl × List Sl) := runD P_law N_law.length b_law
theorem k_law (F : FunD x.K "law" "law" (defArgs (top 66)) (defBody (top 66)) (defScope (top 66)) [] [] f fd) (g_len : mg "len" = none) (g_min : mg "min" = none) (g_max : mg "max" = none) (g_enumerate : mg "enumerate" = none) (c_law_holds : Cal Pr w x.K mg base x "_law_holds" 6 ["_law_stream_here"] 1 m_law_holds []) (c_law_stream : Cal Pr w x.K mg base x "_law_stream" 1 ["_law_cell", "_law_k"] 2 m_law_stream []) : FnOk Pr w x.K mg base CX0 (6 + 1) f fd ["_law_script"] (spD x (["_law_script"] : List Str).length (runD P_law N_law.length b_law)) := by
  refine fn_d (Pr := Pr) (w := w) (mg := mg) (base := base) (κ := x) (N := N_law) (k := 6) (P := P_law) (b := b_law) F s_law (fun cdv A outer s H E hr => ?_)
  exact (bCons (sSet 1 rfl (fun _ => s_law.nd) (fun _ => rfl) (fun _ => v_law_1) (dNE (dSlN (fun _ => rfl) (dOV (dBin (fun _ => opr_add) opd_add (dOV (dNE (dSlN (fun _ => rfl) (dOB 0 (fun _ => rfl) (fun _ => locVis v_law_0)) dPN (dPS dInt)))) (dOV (dNE (dLst (dCons dInt dNil)))))) dPN (dPS (dB2 (fun _ => call_max2 rfl) opd_max (fun _ => rfl) (fun _ => g_max) boot_max (dOV dInt) (dOV (dB2 (fun _ => call_min2 rfl) opd_min (fun _ => rfl) (fun _ => g_min) boot_min (dOV dInt) (dOV (dB1 (fun _ => cr_len) und_len (fun _ => rfl) (fun _ => g_len) boot_len (dOB 0 (fun _ => rfl) (fun _ => locVis v_law_0)))))))))))
    (bOne (sRet (dCmp (fun _ => op_eqD hr.units) opd_eq (dOV (dNE (dLc (own := [("_law_k", 2), ("_law_cell", 3)]) (fun _ => rfl) (fun _ => s_law.nd) (iEnum_ (fun _ => rfl) (fun _ => rfl) (fun _ => g_enumerate) (dCons (dVar 1 (fun _ => rfl) (fun _ => locVis v_law_1)) dNil)) (fun _ => show BlkOk N_law (defScope (top 66)) _ [("_law_k", 2), ("_law_cell", 3)] from ⟨rfl, by decide +kernel, by decide +kernel, by decide +kernel, by decide +kernel⟩) (gTup_ (fun _ => rfl) (fun _ => rfl) (gsCons_ (gName_ 2 rfl (fun _ => s_law.nd) (fun _ => rfl) (fun _ => by first | exact .inl rfl | exact .inr rfl) (hf := (fun _ => by first | exact .inl rfl | exact .inr rfl))) (gsCons_ (gName_ 3 rfl (fun _ => s_law.nd) (fun _ => rfl) (fun _ => by first | exact .inl rfl | exact .inr rfl) (hf := (fun _ => by first | exact .inl rfl | exact .inr rfl))) gsNil_))) (tsOne (dTnot (dTval (DR.toE (dCallN1 ⟨fun _ => rfl, fun _ => rfl, fun _ => rfl, fun _ => rfl, fun _ => rfl, fun _ => hr, fun _ => rfl⟩ c_law_holds (by omega) (fun _ => rfl) (DR.toN (dCall ⟨fun _ => rfl, fun _ => rfl, fun _ => rfl, fun _ => rfl, fun _ => rfl, fun _ => hr, fun _ => rfl⟩ c_law_stream (by omega) (fun _ => rfl) (aV (dVar 3 (fun _ => rfl) (fun _ => by first | exact .inl rfl | exact .inr (.inl rfl) | exact .inr (.inr rfl))) (aV (dVar 2 (fun _ => rfl) (fun _ => by first | exact .inl rfl | exact .inr (.inl rfl) | exact .inr (.inr rfl))) aNil)))))) (by intro _ _; rfl)))) (dVar 2 (fun _ => rfl) (fun _ => by first | exact .inl rfl | exact .inr (.inl rfl) | exact .inr (.inr rfl)))))) (dOV (dNE (dLst dNil))) rfl))))
end
end K64

end

section
set_option Elab.async false
set_option linter.all false
set_option maxRecDepth 100000
set_option maxHeartbeats 2000000
namespace K64
open PySem PySem.Spec PyProof.Rows L2 Vd Vd0
@[simp] theorem e_is_integer (v lo hi : Int) : m_is_integer [.fz (.int v), .fz (.int lo), .fz (.int hi)] = some (.fz (.bl (decide (lo ≤ v) && decide (v ≤ hi))), [.fz (.int v), .fz (.int lo), .fz (.int hi)]) := by
  simp [m_is_integer, e_runD, b_is_integer, I_is_integer_1, N_is_integer]
  by_cases h1 : lo ≤ v <;> by_cases h2 : v ≤ hi <;> simp [h1, h2]
@[simp] theorem e_is_integer0 (v lo : Int) : m_is_integer [.fz (.int v), .fz (.int lo), .fz .non] = some (.fz (.bl (decide (lo ≤ v))), [.fz (.int v), .fz (.int lo), .fz .non]) := by
  simp [m_is_integer, e_runD, b_is_integer, I_is_integer_1, N_is_integer]
  by_cases h1 : lo ≤ v <;> simp [h1]
def isSeq : D → Prop
  | .lst _ => True
  | .tup _ => True
  | _ => False
theorem e_is_sequence {d : D} (h : isSeq d) : m_is_sequence [.fz d] = some (.fz (.bl true), [.fz d]) := by
  cases d <;> first | exact h.elim | simp [m_is_sequence, e_runD, b_is_sequence, N_is_sequence]
@[simp] theorem e_is_sequenceL (ds : List D) : m_is_sequence [.fz (.lst ds)] = some (.fz (.bl true), [.fz (.lst ds)]) := e_is_sequence (d := .lst ds) trivial
@[simp] theorem e_is_sequenceT (ds : List D) : m_is_sequence [.fz (.tup ds)] = some (.fz (.bl true), [.fz (.tup ds)]) := e_is_sequence (d := .tup ds) trivial
@[simp] theorem e_unw1 {e e2 : En} : unw e e2 [] = e2 := rfl
@[simp] theorem e_unw2 {e e2 : En} (v : Nat) (vs : List Nat) : unw e e2 (v :: vs) = (unw e e2 vs).set v (e.getD v .no) := rfl
/-- a comprehension over ints whose parts are plain -/
theorem lc_ints {vs : List Nat} {g : FG} {t : FT} {f : FE} {ns : List Int} {e : En} (p : Int → Bool) (F : Int → Int) (hl : ns.length ≤ 100000)
    (hs : ∀ n ∈ ns, ∃ e1 e2, g (.int n) (wipeE e vs) = some e1 ∧ t e1 = some (p n, e2) ∧ (p n = true → ∃ e3, f e2 = some (.int (F n), e3) ∧ unw e e3 vs = e) ∧ (p n = false → unw e e2 vs = e)) :
    lcLoop vs g t f (ns.map .int) [] e = some (((ns.filter p).map F).map .int, e) := by
  have := lc_map (vs := vs) (g := g) (t := t) (f := f) (ds := ns.map D.int) (e := e) (fun d => match d with | .int n => p n | _ => false) (fun d => match d with | .int n => .int (F n) | d => d) (by simpa using hl) (fun d hd => by
    obtain ⟨n, hn, rfl⟩ := List.mem_map.mp hd
    exact hs n hn)
  rw [this, List.filter_map, List.map_map, List.map_map]
  rfl
theorem valD_put {kvs : List (Key × D)} {k k' : Key} {v : D} : valD (putD kvs k v) k' = if k' = k then some v else valD kvs k' := by
  unfold putD
  by_cases ha : (kvs.any fun kv => decide (kv.1 = k)) = true
  · rw [if_pos ha]
    induction kvs with
    | nil => simp at ha
    | cons p kvs ih =>
      obtain ⟨a, b⟩ := p
      unfold valD at ih ⊢
      rw [List.map_cons]
      by_cases e : a = k
      · subst e
        by_cases e2 : k' = a
        · subst e2; simp
        · simp only [if_true, List.find?_cons, if_neg e2]
          have : ¬ a = k' := fun h => e2 h.symm
          simp only [this, decide_false]
          have go : ∀ l : List (Key × D), (Option.map (fun (x : Key × D) => x.2) ((l.map fun kv => if kv.1 = a then (kv.1, v) else kv).find? fun kv => decide (kv.1 = k'))) = Option.map (fun (x : Key × D) => x.2) (l.find? fun kv => decide (kv.1 = k')) := fun l => by
            induction l with
            | nil => rfl
            | cons q l ih =>
              rw [List.map_cons, List.find?_cons, List.find?_cons]
              by_cases h : q.1 = a
              · rw [if_pos h]
                have : ¬ q.1 = k' := fun h2 => e2 (h2.symm.trans h)
                simp only [this, decide_false]
                exact ih
              · rw [if_neg h]
                by_cases h2 : q.1 = k'
                · simp only [h2, decide_true]
                · simp only [h2, decide_false]
                  exact ih
          exact go kvs
      · have ha' : (kvs.any fun kv => decide (kv.1 = k)) = true := by
          rw [List.any_cons] at ha
          simpa [e] using ha
        simp only [if_neg e, List.find?_cons]
        by_cases e3 : a = k'
        · subst e3
          simp only [decide_true, if_neg e]
        · simp only [e3, decide_false]
          exact ih ha'
  · rw [if_neg ha]
    unfold valD
    rw [List.find?_append]
    have hn : ∀ q ∈ kvs, ¬ q.1 = k := fun q hq h => ha (List.any_eq_true.mpr ⟨q, hq, by simp [h]⟩)
    by_cases e : k' = k
    · subst e
      have : kvs.find? (fun kv => decide (kv.1 = k')) = none := List.find?_eq_none.mpr fun q hq => by simpa using hn q hq
      rw [this]
      simp
    · rw [if_neg e]
      have : ¬ k = k' := fun h => e h.symm
      cases h : kvs.find? (fun kv => decide (kv.1 = k')) with
      | none => simp [this]
      | some q => simp
theorem putD_len {kvs : List (Key × D)} {k : Key} {v : D} : (putD kvs k v).length ≤ kvs.length + 1 := by
  unfold putD
  split
  · rw [List.length_map]; omega
  · simp
theorem enum_ints {ns : List Int} {i : Nat} {d : D} (h : (enumD 0 (ns.map .int))[i]? = some d) : ∃ n, ns[i]? = some n ∧ d = .tup [.int i, .int n] := by
  have go : ∀ (ns : List Int) (k i : Nat) (d : D), (enumD k (ns.map .int))[i]? = some d → ∃ n, ns[i]? = some n ∧ d = .tup [.int ((k + i : Nat) : Int), .int n] := fun ns => by
    induction ns with
    | nil => intro k i d h; simp [enumD] at h
    | cons n ns ih =>
      intro k i d h
      cases i with
      | zero => simp [enumD] at h; exact ⟨n, rfl, h.symm⟩
      | succ i =>
        have h' : (enumD (k + 1) (ns.map .int))[i]? = some d := by simpa [enumD] using h
        obtain ⟨m, h1, h2⟩ := ih (k + 1) i d h'
        exact ⟨m, by simpa using h1, by rw [h2]; congr 3; omega⟩
  obtain ⟨n, h1, h2⟩ := go ns 0 i d h
  exact ⟨n, h1, by rw [h2, Nat.zero_add]⟩
/-- a valid list of distances -/
structure Valid (ds : List Int) : Prop where
  bd : ∀ (j : Nat) (d : Int), ds[j]? = some d → 0 ≤ d ∧ d ≤ j
  inj : ∀ (j k : Nat) (d e : Int), ds[j]? = some d → ds[k]? = some e → 0 < d → 0 < e → (j : Int) - d = k - e → j = k
@[simp] theorem calC_s (n : Nat) (g : List Sl → Option (Sl × List Sl)) (e : En) (as : List Ar) : calC n g e as = if as.length = n ∧ (lent as).Nodup then cal2 g e as (slsOf as e) else none := rfl
theorem rg_get {n i : Nat} {d : D} (h : (rgD 0 n)[i]? = some d) : d = .int i ∧ i < n := by
  have := rgD_get h
  have hl : i < (rgD 0 n).length := (List.getElem?_eq_some_iff.mp h).1
  exact ⟨by rw [this]; simp, by simpa [rgD] using hl⟩
@[simp] theorem rg_len {lo : Int} {n : Nat} : (rgD lo n).length = n := by simp [rgD]
def pr (p : Int × Int) : D := .tup [.int p.1, .int p.2]
/-- a valid mapping of own symbols to other ones -/
structure OkMap (own other : Int) (ps : List (Int × Int)) : Prop where
  inc : ps.Pairwise fun p q => p.1 < q.1
  bd : ∀ p ∈ ps, 0 ≤ p.1 ∧ p.1 < own ∧ 0 ≤ p.2 ∧ p.2 < other
  nd : (ps.map (·.2)).Nodup
inductive All2 {α β : Type} (R : α → β → Prop) : List α → List β → Prop
  | nil : All2 R [] []
  | cons {a : α} {b : β} {as : List α} {bs : List β} : R a b → All2 R as bs → All2 R (a :: as) (b :: bs)
theorem All2.len {α β : Type} {R : α → β → Prop} : ∀ {as : List α} {bs : List β}, All2 R as bs → bs.length = as.length
  | _, _, .nil => rfl
  | _, _, .cons _ t => congrArg Nat.succ t.len
theorem All2.get {α β : Type} {R : α → β → Prop} : ∀ {as : List α} {bs : List β} {i : Nat} {b : β}, All2 R as bs → bs[i]? = some b → ∃ a, as[i]? = some a ∧ R a b
  | _, _, _, _, .nil, h => by simp at h
  | _, _, 0, _, .cons r _, h => by simp at h; subst h; exact ⟨_, rfl, r⟩
  | _, _, i + 1, b, .cons _ t, h => by
    obtain ⟨a, h1, h2⟩ := All2.get (i := i) (b := b) t (by simpa using h)
    exact ⟨a, by simpa using h1, h2⟩
theorem All2.map {α β : Type} (c : α → β) : ∀ xs : List α, All2 (fun x d => d = c x) xs (xs.map c)
  | [] => .nil
  | x :: xs => .cons rfl (All2.map c xs)
theorem All2.imp {α β : Type} {R S : α → β → Prop} (f : ∀ a b, R a b → S a b) : ∀ {as : List α} {bs : List β}, All2 R as bs → All2 S as bs
  | _, _, .nil => .nil
  | _, _, .cons r t => .cons (f _ _ r) (t.imp f)
theorem take_succ' {α : Type} {l : List α} {i : Nat} {a : α} (h : l[i]? = some a) : l.take (i + 1) = l.take i ++ [a] := by
  rw [List.take_succ, h]; rfl
/-- a comprehension over things that stand for xs -/
theorem lc_rel {α β : Type} {R : α → D → Prop} {xs : List α} {ds : List D} {vs : List Nat} {g : FG} {t : FT} {f : FE} {e : En} (h : All2 R xs ds) (p : α → Bool) (F : α → β) (r : β → D) (hl : xs.length ≤ 100000)
    (hs : ∀ x d, x ∈ xs → R x d → ∃ e1 e2, g d (wipeE e vs) = some e1 ∧ t e1 = some (p x, e2) ∧ (p x = true → ∃ e3, f e2 = some (r (F x), e3) ∧ unw e e3 vs = e) ∧ (p x = false → unw e e2 vs = e)) :
    lcLoop vs g t f ds [] e = some (((xs.filter p).map F).map r, e) := by
  obtain ⟨q, e', h1, h2, h3⟩ := lc_inv (vs := vs) (g := g) (t := t) (f := f) (ds := ds) (fun i a e' => e' = e ∧ a = (((xs.take i).filter p).map F).map r) (e0 := e) (acc := []) ⟨rfl, by simp⟩ (by rw [h.len]; simpa using hl) (fun i d a e' hd ⟨h1, h2⟩ => by
    subst h1; subst h2
    obtain ⟨x, hx, hR⟩ := h.get hd
    obtain ⟨e1, e2, q1, q2, q3, q4⟩ := hs x d (List.mem_of_getElem? hx) hR
    refine ⟨e1, q1, ?_⟩
    have et := take_succ' hx
    cases hp : p x with
    | true =>
      obtain ⟨e3, q5, q6⟩ := q3 hp
      exact .inl ⟨e2, r (F x), e3, by rw [q2, hp], q5, q6, by rw [et, List.filter_append, List.map_append, List.map_append]; simp [hp]⟩
    | false => exact .inr ⟨e2, by rw [q2, hp], q4 hp, by rw [et, List.filter_append, List.map_append, List.map_append]; simp [hp]⟩)
  rw [h1, h2, h3, h.len, List.take_length]
theorem filter_t {α : Type} (xs : List α) : xs.filter (fun _ => true) = xs := List.filter_eq_self.mpr fun _ _ => rfl
/-- pairs of place and item -/
def ens : Int → List Int → List (Int × Int)
  | _, [] => []
  | k, n :: ns => (k, n) :: ens (k + 1) ns
theorem ens_len : ∀ (ns : List Int) (k : Int), (ens k ns).length = ns.length
  | [], _ => rfl
  | _ :: ns, k => congrArg Nat.succ (ens_len ns (k + 1))
theorem ens_mem : ∀ {ns : List Int} {k : Int} {q : Int × Int}, q ∈ ens k ns → ∃ j : Nat, ns[j]? = some q.2 ∧ q.1 = k + j
  | [], _, _, h => by simp [ens] at h
  | n :: ns, k, q, h => by
    rcases List.mem_cons.mp h with rfl | h
    · exact ⟨0, rfl, by simp⟩
    · obtain ⟨j, h1, h2⟩ := ens_mem h
      exact ⟨j + 1, by simpa using h1, by rw [h2]; omega⟩
theorem ens_inc : ∀ (ns : List Int) (k : Int), (ens k ns).Pairwise fun p q => p.1 < q.1
  | [], _ => .nil
  | n :: ns, k => List.pairwise_cons.mpr ⟨fun q hq => by
      obtain ⟨j, _, h⟩ := ens_mem hq
      show k < q.1
      omega, ens_inc ns (k + 1)⟩
theorem enum_ens : ∀ (ns : List Int) (k : Nat), enumD k (ns.map .int) = (ens k ns).map pr
  | [], _ => rfl
  | n :: ns, k => by
    rw [List.map_cons]
    show D.tup [.int k, .int n] :: enumD (k + 1) (ns.map .int) = pr (k, n) :: (ens (k + 1) ns).map pr
    rw [enum_ens ns (k + 1)]
    rfl
def DsI (ns : List Int) (d : D) : Prop := d = .lst (ns.map .int) ∨ d = .tup (ns.map .int)
def DsP (p : Int × Int) (d : D) : Prop := d = .lst [.int p.1, .int p.2] ∨ d = .tup [.int p.1, .int p.2]
def DsL {α : Type} (R : α → D → Prop) (xs : List α) (d : D) : Prop := ∃ es, (d = .lst es ∨ d = .tup es) ∧ All2 R xs es
def tgs (ns : List Int) : List Int := ((ens 0 ns).filter fun q => decide (0 < q.2)).map fun q => q.1 - q.2
theorem tgs_nd {ns : List Int} (h : Valid ns) : (tgs ns).Nodup := by
  unfold tgs
  refine List.pairwise_map.mpr ?_
  refine List.Pairwise.imp_of_mem (fun {p q} hp hq hpq e => ?_) ((ens_inc ns 0).filter _)
  obtain ⟨hp1, hp2⟩ := List.mem_filter.mp hp
  obtain ⟨hq1, hq2⟩ := List.mem_filter.mp hq
  obtain ⟨j, j1, j2⟩ := ens_mem hp1
  obtain ⟨k, k1, k2⟩ := ens_mem hq1
  have := h.inj j k p.2 q.2 j1 k1 (by simpa using hp2) (by simpa using hq2) (by omega)
  omega
theorem tgs_len (ns : List Int) : (tgs ns).length ≤ ns.length := by
  unfold tgs
  rw [List.length_map]
  exact Nat.le_trans (List.length_filter_le _ _) (by rw [ens_len]; exact Nat.le_refl _)
theorem all_true {α : Type} {xs : List α} {p : α → Bool} (h : ∀ x ∈ xs, p x = true) : (xs.map p).all _root_.id = true := by
  rw [List.all_map]
  exact List.all_eq_true.mpr fun x hx => h x hx
theorem lc_bls {α : Type} {R : α → D → Prop} {xs : List α} {ds : List D} {vs : List Nat} {g : FG} {t : FT} {f : FE} {e : En} (h : All2 R xs ds) (hl : xs.length ≤ 100000)
    (hs : ∀ x d, x ∈ xs → R x d → ∃ e1 e2 e3, g d (wipeE e vs) = some e1 ∧ t e1 = some (true, e2) ∧ f e2 = some (.bl true, e3) ∧ unw e e3 vs = e) :
    ∃ bs : List Bool, lcLoop vs g t f ds [] e = some (bs.map .bl, e) ∧ bs.all _root_.id = true := by
  have := lc_rel (vs := vs) (g := g) (t := t) (f := f) (e := e) h (fun _ => true) (fun _ => true) D.bl hl (fun x d hx hr => by
    obtain ⟨e1, e2, e3, h1, h2, h3, h4⟩ := hs x d hx hr
    exact ⟨e1, e2, h1, h2, fun _ => ⟨e3, h3, h4⟩, fun h => by cases h⟩)
  exact ⟨_, this, all_true fun _ _ => rfl⟩
theorem e_is_distances {ns : List Int} {d : D} (hd : DsI ns d) (hv : Valid ns) (hl : ns.length ≤ 400) : m_is_distances [.fz d] = some (.fz (.bl true), [.fz d]) := by
  have hs : seqOf d = some (ns.map .int) := by rcases hd with rfl | rfl <;> rfl
  have hn : vLen d = some (.int ns.length) := by rcases hd with rfl | rfl <;> simp
  have hq : m_is_sequence [.fz d] = some (.fz (.bl true), [.fz d]) := by rcases hd with rfl | rfl <;> simp
  obtain ⟨bs, l1, ha⟩ := lc_bls (vs := [2, 3]) (g := gT 2 (gsCons (gN 2) (gsCons (gN 3) gsNil))) (t := T_is_distances_1) (f := E_is_distances_1) (e := [.fz d, .no, .no, .no]) (All2.map pr (ens 0 ns)) (by rw [ens_len]; omega) (fun x d' hx hR => by
    subst hR
    obtain ⟨j, h1, h2⟩ := ens_mem hx
    have := hv.bd j x.2 h1
    exact ⟨[.fz d, .no, .fz (.int x.1), .fz (.int x.2)], [.fz d, .no, .fz (.int x.1), .fz (.int x.2)], [.fz d, .no, .fz (.int x.1), .fz (.int x.2)], by simp [pr], by simp [T_is_distances_1], by simp [E_is_distances_1, show 0 ≤ x.2 by omega, show x.2 ≤ x.1 by omega], by simp⟩)
  have l2 := lc_rel (vs := [2, 3]) (g := gT 2 (gsCons (gN 2) (gsCons (gN 3) gsNil))) (t := T_is_distances_2) (f := E_is_distances_2) (e := [.fz d, .no, .no, .no]) (All2.map pr (ens 0 ns)) (fun q => decide (0 < q.2)) (fun q => q.1 - q.2) D.int (by rw [ens_len]; omega) (fun x d' _ hx => by
    subst hx
    refine ⟨[.fz d, .no, .fz (.int x.1), .fz (.int x.2)], [.fz d, .no, .fz (.int x.1), .fz (.int x.2)], by simp [pr], by simp [T_is_distances_2], fun _ => ⟨[.fz d, .no, .fz (.int x.1), .fz (.int x.2)], by simp [E_is_distances_2], by simp⟩, fun _ => by simp⟩)
  obtain ⟨ts, hts⟩ : ∃ ts, ts = tgs ns := ⟨_, rfl⟩
  have l2' : lcLoop [2, 3] (gT 2 (gsCons (gN 2) (gsCons (gN 3) gsNil))) T_is_distances_2 E_is_distances_2 ((ens 0 ns).map pr) [] [.fz d, .no, .no, .no] = some (ts.map .int, [.fz d, .no, .no, .no]) := by rw [hts]; exact l2
  have hee : enumD 0 (ns.map .int) = (ens 0 ns).map pr := enum_ens ns 0
  have tl := tgs_len ns
  rw [← hts] at tl
  have tn := tgs_nd hv
  rw [← hts] at tn
  simp [m_is_distances, e_runD, b_is_distances, N_is_distances, I_is_distances_1, I_is_distances_2, hs, hn, hq, show ¬ (400 < (ns.length : Int)) by omega, hee, l1, l2', -List.all_eq_true, ha, tn, show ts.length ≤ 4000 by omega]
theorem e_is_pair {p : Int × Int} {d : D} {own other : Int} (hd : DsP p d) (h : 0 ≤ p.1 ∧ p.1 < own ∧ 0 ≤ p.2 ∧ p.2 < other) : m_is_pair [.fz d, .fz (.int own), .fz (.int other)] = some (.fz (.bl true), [.fz d, .fz (.int own), .fz (.int other)]) := by
  obtain ⟨h1, h2, h3, h4⟩ := h
  have hn : vLen d = some (.int 2) := by rcases hd with rfl | rfl <;> simp
  have hq : m_is_sequence [.fz d] = some (.fz (.bl true), [.fz d]) := by rcases hd with rfl | rfl <;> simp
  have i0 : vIx d (.int 0) = some (.int p.1) := by rcases hd with rfl | rfl <;> simp
  have i1 : vIx d (.int 1) = some (.int p.2) := by rcases hd with rfl | rfl <;> simp
  simp [m_is_pair, e_runD, b_is_pair, N_is_pair, I_is_pair_1, hn, hq, i0, i1, h1, h3, show p.1 ≤ own - 1 by omega, show p.2 ≤ other - 1 by omega]
theorem zip_map : ∀ (as bs : List Int), zipD (as.map .int) (bs.map .int) = (as.zip bs).map pr
  | [], _ => by simp [zipD]
  | _ :: _, [] => by simp [zipD]
  | a :: as, b :: bs => by
    rw [List.map_cons, List.map_cons, List.zip_cons_cons, List.map_cons]
    show D.tup [.int a, .int b] :: zipD _ _ = _
    rw [zip_map as bs]
    rfl
theorem cut1' (ns : List Int) : Vd.cutD (ns.map D.int) (some 1) none = (ns.drop 1).map .int := by
  unfold Vd.cutD
  cases ns with
  | nil => simp [HT.sIx]
  | cons n ns =>
    simp [HT.sIx]
    rw [List.take_of_length_le (by simp)]
theorem zip_inc : ∀ {ks : List Int}, ks.Pairwise (fun a b => a < b) → ∀ q ∈ ks.zip (ks.drop 1), q.1 < q.2
  | [], _, q, h => by simp at h
  | [a], _, q, h => by simp at h
  | a :: b :: ks, hp, q, h => by
    have h : q ∈ (a, b) :: (b :: ks).zip ((b :: ks).drop 1) := h
    rcases List.mem_cons.mp h with rfl | h
    · exact (List.pairwise_cons.mp hp).1 b (by simp)
    · exact zip_inc (List.pairwise_cons.mp hp).2 q h
theorem e_is_mapping {ps : List (Int × Int)} {d : D} {own other : Int} (hd : DsL DsP ps d) (h : OkMap own other ps) (hl : ps.length ≤ 4000) : m_is_mapping [.fz d, .fz (.int own), .fz (.int other)] = some (.fz (.bl true), [.fz d, .fz (.int own), .fz (.int other)]) := by
  obtain ⟨es, hd, ha⟩ := hd
  have hs : items d = some es := by rcases hd with rfl | rfl <;> rfl
  have hq : m_is_sequence [.fz d] = some (.fz (.bl true), [.fz d]) := by rcases hd with rfl | rfl <;> simp
  obtain ⟨bs, l1, ab⟩ := lc_bls (vs := [5]) (g := gN 5) (t := T_is_mapping_1) (f := E_is_mapping_1) (e := [.fz d, .fz (.int own), .fz (.int other), .no, .no, .no, .no, .no]) ha (by omega) (fun x d' hx hR => by
    have hb := h.bd x hx
    exact ⟨_, _, [.fz d, .fz (.int own), .fz (.int other), .no, .no, .fz d', .no, .no], e_gN 5 _, rfl, by simp [E_is_mapping_1, e_is_pair hR hb], by simp⟩)
  have k0 : ∀ x d', DsP x d' → vIx d' (.int 0) = some (.int x.1) := fun x d' hR => by rcases hR with rfl | rfl <;> simp
  have k1 : ∀ x d', DsP x d' → vIx d' (.int 1) = some (.int x.2) := fun x d' hR => by rcases hR with rfl | rfl <;> simp
  have l2 := lc_rel (vs := [5]) (g := gN 5) (t := T_is_mapping_2) (f := E_is_mapping_2) (e := [.fz d, .fz (.int own), .fz (.int other), .no, .no, .no, .no, .no]) ha (fun _ => true) (fun p => p.1) D.int (by omega) (fun x d' hx hR => by
    exact ⟨_, _, e_gN 5 _, rfl, fun _ => ⟨[.fz d, .fz (.int own), .fz (.int other), .no, .no, .fz d', .no, .no], by simp [E_is_mapping_2, k0 x d' hR], by simp⟩, fun h => by cases h⟩)
  rw [filter_t] at l2
  obtain ⟨ks, hks⟩ : ∃ ks, ks = ps.map (·.1) := ⟨_, rfl⟩
  rw [← hks] at l2
  have l3 := lc_rel (vs := [5]) (g := gN 5) (t := T_is_mapping_3) (f := E_is_mapping_3) (e := [.fz d, .fz (.int own), .fz (.int other), .fz (.lst (ks.map .int)), .no, .no, .no, .no]) ha (fun _ => true) (fun p => p.2) D.int (by omega) (fun x d' hx hR => by
    exact ⟨_, _, e_gN 5 _, rfl, fun _ => ⟨[.fz d, .fz (.int own), .fz (.int other), .fz (.lst (ks.map .int)), .no, .fz d', .no, .no], by simp [E_is_mapping_3, k1 x d' hR], by simp⟩, fun h => by cases h⟩)
  rw [filter_t] at l3
  obtain ⟨ts, hts⟩ : ∃ ts, ts = ps.map (·.2) := ⟨_, rfl⟩
  rw [← hts] at l3
  have tn : ts.Nodup := by rw [hts]; exact h.nd
  have tl : ts.length ≤ 4000 := by rw [hts, List.length_map]; exact hl
  have kp : ks.Pairwise (fun a b => a < b) := by rw [hks]; exact List.pairwise_map.mpr h.inc
  have kl : ks.length ≤ 4000 := by rw [hks, List.length_map]; exact hl
  obtain ⟨cs, l4, ac⟩ := lc_bls (vs := [6, 7]) (g := gT 2 (gsCons (gN 6) (gsCons (gN 7) gsNil))) (t := T_is_mapping_4) (f := E_is_mapping_4) (e := [.fz d, .fz (.int own), .fz (.int other), .fz (.lst (ks.map .int)), .fz (.lst (ts.map .int)), .no, .no, .no]) (All2.map pr (ks.zip (ks.drop 1))) (by rw [List.length_zip]; omega) (fun x d' hx hR => by
    subst hR
    have hlt := zip_inc kp x hx
    exact ⟨[.fz d, .fz (.int own), .fz (.int other), .fz (.lst (ks.map .int)), .fz (.lst (ts.map .int)), .no, .fz (.int x.1), .fz (.int x.2)], _, [.fz d, .fz (.int own), .fz (.int other), .fz (.lst (ks.map .int)), .fz (.lst (ts.map .int)), .no, .fz (.int x.1), .fz (.int x.2)], by simp [pr], rfl, by simp [E_is_mapping_4, hlt], by simp⟩)
  have hz : zipD (ks.map .int) ((ks.drop 1).map .int) = (ks.zip (ks.drop 1)).map pr := zip_map _ _
  obtain ⟨zs, hzs⟩ : ∃ zs, zs = (ks.zip (ks.drop 1)).map pr := ⟨_, rfl⟩
  rw [← hzs] at hz l4
  obtain ⟨k', hk'⟩ : ∃ k', k' = ks.drop 1 := ⟨_, rfl⟩
  have hc := cut1' ks
  rw [← hk'] at hz hc
  simp [m_is_mapping, e_runD, b_is_mapping, N_is_mapping, I_is_mapping_1, hs, hq, l1, l2, l3, hc, hz, l4, -List.all_eq_true, ab, ac, tn, tl]
def idsOf (base : List Int) : List Int := match m_ids_of [.fz (.lst (base.map .int))] with
  | some (.fz (.lst ds), _) => (toInts ds).getD []
  | _ => []
structure OkIds (base is : List Int) : Prop where
  len : is.length = base.length
  bd : ∀ x ∈ is, 0 ≤ x ∧ x < (base.count 0 : Nat)
  all : ∀ k : Int, 0 ≤ k → k < (base.count 0 : Nat) → k ∈ is
theorem ids_ex {base : List Int} (hv : Valid base) (hl : base.length ≤ 1000) : ∃ is, m_ids_of [.fz (.lst (base.map .int))] = some (.fz (.lst (is.map .int)), [.fz (.lst (base.map .int))]) ∧ OkIds base is := by
  obtain ⟨e', h1, is, p, q, rfl, hl2, hb, ha⟩ := loopF_inv (g := gT 2 (gsCons (gN 3) (gsCons (gN 4) gsNil))) (b := L_ids_of_1) (ds := enumD 0 (base.map .int))
    (fun i e => ∃ (is : List Int) (p q : Sl), e = [.fz (.lst (base.map .int)), .ow (.lst (is.map .int)), .fz (.int ((base.take i).count 0 : Nat)), p, q] ∧ is.length = i ∧ (∀ x ∈ is, 0 ≤ x ∧ x < ((base.take i).count 0 : Nat)) ∧ ∀ k : Int, 0 ≤ k → k < ((base.take i).count 0 : Nat) → k ∈ is)
    (e0 := [.fz (.lst (base.map .int)), .ow (.lst []), .fz (.int 0), .no, .no]) ⟨[], _, _, rfl, rfl, by simp, fun k h1 h2 => by simp at h2; omega⟩ (fun i d e hd hi => by
      obtain ⟨is, p, q, rfl, hl2, hb, ha⟩ := hi
      obtain ⟨n, hn, rfl⟩ := enum_ints hd
      have hil : i < base.length := (List.getElem?_eq_some_iff.mp hn).1
      obtain ⟨b0, b1⟩ := hv.bd i n hn
      have et : base.take (i + 1) = base.take i ++ [n] := take_succ' hn
      by_cases hz : n = 0
      · subst hz
        have ec : (base.take (i + 1)).count 0 = (base.take i).count 0 + 1 := by rw [et, List.count_append]; simp
        refine ⟨[.fz (.lst (base.map .int)), .ow (.lst (is.map .int)), .fz (.int ((base.take i).count 0 : Nat)), .fz (.int i), .fz (.int 0)], [.fz (.lst (base.map .int)), .ow (.lst ((is ++ [(((base.take i).count 0 : Nat) : Int)]).map .int)), .fz (.int ((base.take (i + 1)).count 0 : Nat)), .fz (.int i), .fz (.int 0)], by simp, ?_, is ++ [(((base.take i).count 0 : Nat) : Int)], _, _, rfl, by simp [hl2], fun x hx => ?_, fun k k0 k1 => ?_⟩
        · simp [L_ids_of_1, I_ids_of_1, ec, show is.length < 100000 by omega]
        · rw [ec]
          rcases List.mem_append.mp hx with hx | hx
          · have := hb x hx; omega
          · have hx : x = ((base.take i).count 0 : Nat) := by simpa using hx
            omega
        · rw [ec] at k1
          by_cases hk : k = ((base.take i).count 0 : Nat)
          · rw [hk]; simp
          · exact List.mem_append_left _ (ha k k0 (by omega))
      · have ec : (base.take (i + 1)).count 0 = (base.take i).count 0 := by rw [et, List.count_append]; simp [hz]
        obtain ⟨y, hy, hym⟩ := atI_lt (l := is) (i := (i : Int) - n) (by omega) (by omega)
        have hy' : atI (is.map D.int) ((i : Int) - n) = some (.int y) := by rw [atI_map, hy]; rfl
        refine ⟨[.fz (.lst (base.map .int)), .ow (.lst (is.map .int)), .fz (.int ((base.take i).count 0 : Nat)), .fz (.int i), .fz (.int n)], [.fz (.lst (base.map .int)), .ow (.lst ((is ++ [y]).map .int)), .fz (.int ((base.take (i + 1)).count 0 : Nat)), .fz (.int i), .fz (.int n)], by simp, ?_, is ++ [y], _, _, rfl, by simp [hl2], fun x hx => ?_, fun k k0 k1 => ?_⟩
        · simp [L_ids_of_1, I_ids_of_1, ec, hz, hy', show is.length < 100000 by omega]
        · rw [ec]
          rcases List.mem_append.mp hx with hx | hx
          · exact hb x hx
          · have hx : x = y := by simpa using hx
            rw [hx]; exact hb y hym
        · rw [ec] at k1
          exact List.mem_append_left _ (ha k k0 k1))
  rw [enumD_len, List.length_map] at hl2 hb ha
  rw [List.take_length] at hb ha
  refine ⟨is, ?_, hl2, hb, ha⟩
  simp [m_ids_of, e_runD, b_ids_of, N_ids_of]
  rw [h1]
  simp
theorem e_ids_of {base : List Int} (hv : Valid base) (hl : base.length ≤ 1000) : m_ids_of [.fz (.lst (base.map .int))] = some (.fz (.lst ((idsOf base).map .int)), [.fz (.lst (base.map .int))]) ∧ OkIds base (idsOf base) := by
  obtain ⟨is, h1, h2⟩ := ids_ex hv hl
  have e : idsOf base = is := by
    unfold idsOf
    rw [h1]
    show (toInts (is.map .int)).getD [] = is
    rw [toInts_map]
    rfl
  rw [e]
  exact ⟨h1, h2⟩
/-! ### dicts -/
def dicOf (ps : List (Int × Int)) : List (Key × D) := ps.foldl (fun acc p => putD acc (.inl p.1) (.int p.2)) []
def dicGo (acc : List (Key × D)) (ps : List (Int × Int)) : List (Key × D) := ps.foldl (fun acc p => putD acc (.inl p.1) (.int p.2)) acc
theorem dic_get : ∀ (ps : List (Int × Int)) (acc : List (Key × D)) (s : Int) (v : D), valD (dicGo acc ps) (.inl s) = some v → (∃ t, v = .int t ∧ (s, t) ∈ ps) ∨ valD acc (.inl s) = some v
  | [], _, _, _, h => .inr h
  | p :: ps, acc, s, v, h => by
    rcases dic_get ps _ s v h with ⟨t, h1, h2⟩ | h1
    · exact .inl ⟨t, h1, List.mem_cons_of_mem _ h2⟩
    · rw [valD_put] at h1
      split at h1
      · rename_i e
        cases e
        cases h1
        exact .inl ⟨p.2, rfl, List.mem_cons_self⟩
      · exact .inr h1
theorem dic_has : ∀ (ps : List (Int × Int)) (acc : List (Key × D)) (s : Int), ((valD acc (.inl s)).isSome = true ∨ ∃ t, (s, t) ∈ ps) → (valD (dicGo acc ps) (.inl s)).isSome = true
  | [], _, _, h => h.elim (fun h => h) (fun ⟨_, h⟩ => by simp at h)
  | p :: ps, acc, s, h => by
    refine dic_has ps _ s ?_
    rw [valD_put]
    by_cases e : s = p.1
    · subst e; left; simp
    · have ne : ¬ (Sum.inl s : Key) = .inl p.1 := fun h => e (by cases h; rfl)
      rw [if_neg ne]
      rcases h with h | ⟨t, h⟩
      · exact .inl h
      · rcases List.mem_cons.mp h with h | h
        · exact absurd (by rw [← h]) e
        · exact .inr ⟨t, h⟩
theorem dicGo_len : ∀ (ps : List (Int × Int)) (acc : List (Key × D)), (dicGo acc ps).length ≤ acc.length + ps.length
  | [], _ => by simp [dicGo]
  | p :: ps, acc => by
    have h1 := dicGo_len ps (putD acc (.inl p.1) (.int p.2))
    have h2 := putD_len (kvs := acc) (k := .inl p.1) (v := .int p.2)
    show (dicGo (putD acc (.inl p.1) (.int p.2)) ps).length ≤ _
    simp
    omega
/-- a dict comprehension over things that stand for pairs -/
theorem dc_rel {α : Type} {R : α → D → Prop} {vs : List Nat} {g : FG} {t : FT} {fk fv : FE} {e : En} (c : α → Int × Int) : ∀ {xs : List α} {ds : List D} {acc : List (Key × D)}, All2 R xs ds → acc.length + xs.length ≤ 100000 →
    (∀ x d, x ∈ xs → R x d → ∃ e1 e2 e3 e4, g d (wipeE e vs) = some e1 ∧ t e1 = some (true, e2) ∧ fk e2 = some (.int (c x).1, e3) ∧ fv e3 = some (.int (c x).2, e4) ∧ unw e e4 vs = e) →
    dcLoop vs g t fk fv ds acc e = some (dicGo acc (xs.map c), e)
  | _, _, acc, .nil, _, _ => rfl
  | x :: xs, d :: ds, acc, .cons r h, hl, hs => by
    obtain ⟨e1, e2, e3, e4, h1, h2, h3, h4, h5⟩ := hs x d List.mem_cons_self r
    have hl' : acc.length + (xs.length + 1) ≤ 100000 := hl
    have hp := putD_len (kvs := acc) (k := .inl (c x).1) (v := .int (c x).2)
    have ih := dc_rel (vs := vs) (g := g) (t := t) (fk := fk) (fv := fv) (e := e) c (acc := putD acc (.inl (c x).1) (.int (c x).2)) h (by omega) (fun y d hy => hs y d (List.mem_cons_of_mem _ hy))
    unfold dcLoop
    simp only [h1, h2, h3, h4, Option.bind_some, Vd.keyOf]
    rw [if_pos (by omega), h5]
    exact ih
end K64

end

section
set_option Elab.async false
set_option linter.all false
set_option maxRecDepth 100000
set_option maxHeartbeats 2000000
/-! Pb: distance lists and symbol lists, in plain mathematics. -/
namespace Dm
/-- ds is the distance list of the symbols s -/
def IsD (s ds : List Int) : Prop := ds.length = s.length ∧ ∀ (i : Nat) (d : Int), ds[i]? = some d → (d = 0 ∧ ∀ j, j < i → s[j]? ≠ s[i]?) ∨ ∃ j, j < i ∧ d = (i : Int) - (j : Nat) ∧ s[j]? = s[i]? ∧ ∀ k, j < k → k < i → s[k]? ≠ s[i]?
/-- the same pattern of equal symbols -/
def Pat (s t : List Int) : Prop := s.length = t.length ∧ ∀ i j, i < s.length → j < s.length → (s[i]? = s[j]? ↔ t[i]? = t[j]?)
theorem Pat.refl (s : List Int) : Pat s s := ⟨rfl, fun _ _ _ _ => Iff.rfl⟩
theorem Pat.symm {s t : List Int} (h : Pat s t) : Pat t s := ⟨h.1.symm, fun i j hi hj => (h.2 i j (by rw [h.1]; exact hi) (by rw [h.1]; exact hj)).symm⟩
theorem Pat.trans {s t u : List Int} (h : Pat s t) (k : Pat t u) : Pat s u := ⟨h.1.trans k.1, fun i j hi hj => (h.2 i j hi hj).trans (k.2 i j (by rw [← h.1]; exact hi) (by rw [← h.1]; exact hj))⟩
theorem IsD.uniq {s t ds es : List Int} (h : IsD s ds) (k : IsD t es) (p : Pat s t) : ds = es := by
  apply List.ext_getElem?
  intro i
  by_cases hi : i < s.length
  · have hd : i < ds.length := by rw [h.1]; exact hi
    have he : i < es.length := by rw [k.1, ← p.1]; exact hi
    have h1 := h.2 i _ (List.getElem?_eq_getElem hd)
    have h2 := k.2 i _ (List.getElem?_eq_getElem he)
    rw [List.getElem?_eq_getElem hd, List.getElem?_eq_getElem he]
    congr 1
    rcases h1 with ⟨a1, a2⟩ | ⟨j, j1, j2, j3, j4⟩ <;> rcases h2 with ⟨b1, b2⟩ | ⟨m, m1, m2, m3, m4⟩
    · rw [a1, b1]
    · exact absurd ((p.2 m i (by omega) hi).mpr m3) (a2 m m1)
    · exact absurd ((p.2 j i (by omega) hi).mp j3) (b2 j j1)
    · rcases Nat.lt_trichotomy j m with q | q | q
      · exact absurd ((p.2 m i (by omega) hi).mpr m3) (j4 m q m1)
      · subst q; rw [j2, m2]
      · exact absurd ((p.2 j i (by omega) hi).mp j3) (m4 j q j1)
  · rw [List.getElem?_eq_none (by rw [h.1]; omega), List.getElem?_eq_none (by rw [k.1, ← p.1]; omega)]
theorem IsD.pat {s t ds : List Int} (h : IsD s ds) (k : IsD t ds) : Pat s t := by
  have hl : s.length = t.length := h.1.symm.trans k.1
  have key : ∀ i, i < s.length → ∀ j, j < i → (s[j]? = s[i]? ↔ t[j]? = t[i]?) := by
    intro i
    induction i using Nat.strongRecOn with
    | _ i ih =>
      intro hi j hj
      have hd : i < ds.length := by rw [h.1]; exact hi
      have h1 := h.2 i _ (List.getElem?_eq_getElem hd)
      have h2 := k.2 i _ (List.getElem?_eq_getElem hd)
      rcases h1 with ⟨a1, a2⟩ | ⟨p, p1, p2, p3, p4⟩ <;> rcases h2 with ⟨b1, b2⟩ | ⟨m, m1, m2, m3, m4⟩
      · exact ⟨fun z => absurd z (a2 j hj), fun z => absurd z (b2 j hj)⟩
      · omega
      · omega
      · have e : p = m := by omega
        subst e
        rcases Nat.lt_trichotomy j p with q | q | q
        · rw [← p3, ← m3]
          exact ih p p1 (by omega) j q
        · subst q; exact ⟨fun _ => m3, fun _ => p3⟩
        · exact ⟨fun z => absurd z (p4 j q hj), fun z => absurd z (m4 j q hj)⟩
  refine ⟨hl, fun i j hi hj => ?_⟩
  rcases Nat.lt_trichotomy i j with q | q | q
  · exact key j hj i q
  · subst q; exact ⟨fun _ => rfl, fun _ => rfl⟩
  · exact ⟨fun z => ((key i hi j q).mp z.symm).symm, fun z => ((key i hi j q).mpr z.symm).symm⟩
theorem IsD.of_pat {s t ds : List Int} (h : IsD s ds) (p : Pat s t) : IsD t ds := by
  refine ⟨h.1.trans p.1, fun i d hd => ?_⟩
  have hi : i < s.length := by rw [← h.1]; exact (List.getElem?_eq_some_iff.mp hd).1
  rcases h.2 i d hd with ⟨a1, a2⟩ | ⟨j, j1, j2, j3, j4⟩
  · exact .inl ⟨a1, fun j hj z => a2 j hj ((p.2 j i (by omega) hi).mpr z)⟩
  · exact .inr ⟨j, j1, j2, (p.2 j i (by omega) hi).mp j3, fun k k1 k2 z => j4 k k1 k2 ((p.2 k i (by omega) hi).mpr z)⟩
theorem IsD.bd {s ds : List Int} (h : IsD s ds) (i : Nat) (d : Int) (hd : ds[i]? = some d) : 0 ≤ d ∧ d ≤ i := by
  rcases h.2 i d hd with ⟨a1, _⟩ | ⟨j, j1, j2, _⟩ <;> omega
theorem IsD.inj {s ds : List Int} (h : IsD s ds) (j k : Nat) (d e : Int) (hd : ds[j]? = some d) (he : ds[k]? = some e) (d0 : 0 < d) (e0 : 0 < e) (q : (j : Int) - d = k - e) : j = k := by
  rcases h.2 j d hd with ⟨a1, _⟩ | ⟨p, p1, p2, p3, p4⟩
  · omega
  rcases h.2 k e he with ⟨a1, _⟩ | ⟨m, m1, m2, m3, m4⟩
  · omega
  have e : p = m := by omega
  subst e
  rcases Nat.lt_trichotomy j k with z | z | z
  · exact absurd (p3.symm.trans m3) (m4 j p1 z)
  · exact z
  · exact absurd (m3.symm.trans p3) (p4 k m1 z)
theorem IsD.nil : IsD [] [] := ⟨rfl, fun i d h => by simp at h⟩
theorem get_snoc {α : Type} {l : List α} {a b : α} {i : Nat} (h : (l ++ [a])[i]? = some b) : (i < l.length ∧ l[i]? = some b) ∨ (i = l.length ∧ b = a) := by
  by_cases hi : i < l.length
  · rw [List.getElem?_append_left hi] at h; exact .inl ⟨hi, h⟩
  · rw [List.getElem?_append_right (by omega)] at h
    have h1 : i - l.length = 0 := by
      have := (List.getElem?_eq_some_iff.mp h).1
      simp at this; omega
    rw [h1] at h
    simp at h
    exact .inr ⟨by omega, h.symm⟩
theorem at_snoc {α : Type} (l : List α) (a : α) : (l ++ [a])[l.length]? = some a := by simp
theorem at_left {α : Type} (l m : List α) {i : Nat} (h : i < l.length) : (l ++ m)[i]? = l[i]? := List.getElem?_append_left h
/-- a new symbol behind -/
theorem IsD.new {s ds : List Int} (h : IsD s ds) {x : Int} (hx : x ∉ s) : IsD (s ++ [x]) (ds ++ [0]) := by
  refine ⟨by simp [h.1], fun i d hd => ?_⟩
  rcases get_snoc hd with ⟨hi, hd⟩ | ⟨hi, rfl⟩
  · have his : i < s.length := by rw [← h.1]; exact hi
    rcases h.2 i d hd with ⟨a1, a2⟩ | ⟨j, j1, j2, j3, j4⟩
    · exact .inl ⟨a1, fun j hj => by rw [at_left _ _ his, at_left _ _ (by omega)]; exact a2 j hj⟩
    · exact .inr ⟨j, j1, j2, by rw [at_left _ _ his, at_left _ _ (by omega)]; exact j3, fun k k1 k2 => by rw [at_left _ _ his, at_left _ _ (by omega)]; exact j4 k k1 k2⟩
  · refine .inl ⟨rfl, fun j hj => ?_⟩
    rw [h.1] at hi
    subst hi
    rw [at_snoc, at_left _ _ hj]
    intro z
    exact hx (List.mem_of_getElem? z)
/-- a known symbol behind, p its last place -/
theorem IsD.old {s ds : List Int} (h : IsD s ds) {x : Int} {p : Nat} (hp : s[p]? = some x) (hl : ∀ k, p < k → k < s.length → s[k]? ≠ some x) : IsD (s ++ [x]) (ds ++ [(s.length : Int) - p]) := by
  have hpl : p < s.length := (List.getElem?_eq_some_iff.mp hp).1
  refine ⟨by simp [h.1], fun i d hd => ?_⟩
  rcases get_snoc hd with ⟨hi, hd⟩ | ⟨hi, rfl⟩
  · have his : i < s.length := by rw [← h.1]; exact hi
    rcases h.2 i d hd with ⟨a1, a2⟩ | ⟨j, j1, j2, j3, j4⟩
    · exact .inl ⟨a1, fun j hj => by rw [at_left _ _ his, at_left _ _ (by omega)]; exact a2 j hj⟩
    · exact .inr ⟨j, j1, j2, by rw [at_left _ _ his, at_left _ _ (by omega)]; exact j3, fun k k1 k2 => by rw [at_left _ _ his, at_left _ _ (by omega)]; exact j4 k k1 k2⟩
  · rw [h.1] at hi
    subst hi
    refine .inr ⟨p, hpl, rfl, by rw [at_snoc, at_left _ _ hpl]; exact hp, fun k k1 k2 => ?_⟩
    rw [at_snoc, at_left _ _ k2]
    exact hl k k1 k2
theorem take_succ {α : Type} {l : List α} {i : Nat} {a : α} (h : l[i]? = some a) : l.take (i + 1) = l.take i ++ [a] := by
  rw [List.take_succ, h]; rfl
theorem IsD.take {s ds : List Int} (h : IsD s ds) (n : Nat) : IsD (s.take n) (ds.take n) := by
  refine ⟨by simp [h.1], fun i d hd => ?_⟩
  rw [List.getElem?_take] at hd
  split at hd
  · rename_i hin
    have tk : ∀ j, j ≤ i → (s.take n)[j]? = s[j]? := fun j hj => by rw [List.getElem?_take, if_pos (by omega)]
    rcases h.2 i d hd with ⟨a1, a2⟩ | ⟨j, j1, j2, j3, j4⟩
    · exact .inl ⟨a1, fun j hj => by rw [tk i (Nat.le_refl _), tk j (by omega)]; exact a2 j hj⟩
    · exact .inr ⟨j, j1, j2, by rw [tk i (Nat.le_refl _), tk j (by omega)]; exact j3, fun k k1 k2 => by rw [tk i (Nat.le_refl _), tk k (by omega)]; exact j4 k k1 k2⟩
  · cases hd
/-! ### ids -/
def idsStep (acc : List Int) (c d : Int) : List Int × Int := if d = 0 then (acc ++ [c], c + 1) else (acc ++ [(acc[((acc.length : Int) - d).toNat]?).getD 0], c)
def idsGo : List Int → List Int → Int → List Int
  | [], acc, _ => acc
  | d :: r, acc, c => idsGo r (idsStep acc c d).1 (idsStep acc c d).2
def idsF (ds : List Int) : List Int := idsGo ds [] 0
structure Ids (is ds : List Int) (c : Int) : Prop where
  d : IsD is ds
  bd : ∀ x ∈ is, 0 ≤ x ∧ x < c
  all : ∀ k : Int, 0 ≤ k → k < c → k ∈ is
  c : c = (ds.count 0 : Nat)
theorem Ids.step {is ds : List Int} {c d : Int} (h : Ids is ds c) (b0 : 0 ≤ d) (b1 : d ≤ ds.length) (inj : ∀ (k : Nat) (e : Int), ds[k]? = some e → 0 < d → 0 < e → (ds.length : Int) - d ≠ k - e) : Ids (idsStep is c d).1 (ds ++ [d]) (idsStep is c d).2 := by
  have hc0 : 0 ≤ c := by rw [h.c]; omega
  unfold idsStep
  by_cases hz : d = 0
  · subst hz
    rw [if_pos rfl]
    refine ⟨h.d.new fun hm => ?_, fun x hx => ?_, fun k k0 k1 => ?_, ?_⟩
    · have := h.bd c hm; omega
    · rcases List.mem_append.mp hx with hx | hx
      · have := h.bd x hx; simp only []; omega
      · have : x = c := by simpa using hx
        simp only []; omega
    · by_cases hk : k = c
      · rw [hk]; simp
      · exact List.mem_append_left _ (h.all k k0 (by simp only [] at k1; omega))
    · rw [List.count_append, h.c]; simp
  · rw [if_neg hz]
    have hlen := h.d.1
    have hp : ((is.length : Int) - d).toNat < is.length := by omega
    have hpe : is[((is.length : Int) - d).toNat]? = some is[((is.length : Int) - d).toNat] := List.getElem?_eq_getElem hp
    have hx : (is[((is.length : Int) - d).toNat]?).getD 0 = is[((is.length : Int) - d).toNat] := by rw [hpe]; rfl
    rw [hx]
    have hde : d = (is.length : Int) - (((is.length : Int) - d).toNat : Nat) := by omega
    refine ⟨?_, fun x hx => ?_, fun k k0 k1 => List.mem_append_left _ (h.all k k0 k1), ?_⟩
    · have hold := h.d.old hpe (fun k k1 k2 z => ?_)
      · rw [← hde] at hold; exact hold
      · -- the least such k
        have ex : ∃ k, ((is.length : Int) - d).toNat < k ∧ k < is.length ∧ is[k]? = is[((is.length : Int) - d).toNat]? := ⟨k, k1, k2, by rw [z, hpe]⟩
        have mn : ∃ k, (((is.length : Int) - d).toNat < k ∧ k < is.length ∧ is[k]? = is[((is.length : Int) - d).toNat]?) ∧ ∀ j, j < k → ¬(((is.length : Int) - d).toNat < j ∧ j < is.length ∧ is[j]? = is[((is.length : Int) - d).toNat]?) := by
          obtain ⟨k, hk⟩ := ex
          induction k using Nat.strongRecOn with
          | _ k ih =>
            by_cases q : ∃ j, j < k ∧ ((is.length : Int) - d).toNat < j ∧ j < is.length ∧ is[j]? = is[((is.length : Int) - d).toNat]?
            · obtain ⟨j, hj, hq⟩ := q
              exact ih j hj hq
            · exact ⟨k, hk, fun j hj hq => q ⟨j, hj, hq⟩⟩
        obtain ⟨m, ⟨m1, m2, m3⟩, m4⟩ := mn
        have hm : m < ds.length := by omega
        rcases h.d.2 m _ (List.getElem?_eq_getElem hm) with ⟨a1, a2⟩ | ⟨j, j1, j2, j3, j4⟩
        · exact a2 _ m1 m3.symm
        · by_cases hj : j = ((is.length : Int) - d).toNat
          · exact inj m _ (List.getElem?_eq_getElem hm) (by omega) (by omega) (by rw [j2, hj]; omega)
          · rcases Nat.lt_or_gt_of_ne hj with q | q
            · exact j4 _ q m1 m3.symm
            · exact m4 j j1 ⟨q, by omega, j3.trans m3⟩
    · rcases List.mem_append.mp hx with hx | hx
      · exact h.bd x hx
      · have : x = is[((is.length : Int) - d).toNat] := by simpa using hx
        rw [this]
        exact h.bd _ (List.getElem_mem hp)
    · rw [List.count_append, h.c]; simp [hz]
structure Valid (ds : List Int) : Prop where
  bd : ∀ (j : Nat) (d : Int), ds[j]? = some d → 0 ≤ d ∧ d ≤ j
  inj : ∀ (j k : Nat) (d e : Int), ds[j]? = some d → ds[k]? = some e → 0 < d → 0 < e → (j : Int) - d = k - e → j = k
theorem IsD.valid {s ds : List Int} (h : IsD s ds) : Valid ds := ⟨h.bd, h.inj⟩
theorem idsGo_ok : ∀ (r ds is : List Int) (c : Int), Ids is ds c → Valid (ds ++ r) → ∃ c', Ids (idsGo r is c) (ds ++ r) c'
  | [], ds, is, c, h, _ => ⟨c, by rw [List.append_nil]; exact h⟩
  | d :: r, ds, is, c, h, v => by
    have e : ds ++ d :: r = (ds ++ [d]) ++ r := by simp
    have hd : (ds ++ d :: r)[ds.length]? = some d := by simp
    obtain ⟨b0, b1⟩ := v.bd _ d hd
    have hs := h.step b0 b1 (fun k e' hk d0 e0 q => by
      have hkl := (List.getElem?_eq_some_iff.mp hk).1
      have := v.inj _ k d e' hd (by rw [List.getElem?_append_left hkl]; exact hk) d0 e0 q
      omega)
    rw [e] at v ⊢
    exact idsGo_ok r _ _ _ hs v
theorem idsF_ok {ds : List Int} (v : Valid ds) : Ids (idsF ds) ds (ds.count 0 : Nat) := by
  obtain ⟨c, h⟩ := idsGo_ok ds [] [] 0 ⟨.nil, by simp, fun k h1 h2 => by omega, rfl⟩ v
  have := h.c
  simp only [List.nil_append] at h this
  rw [← this]
  exact h
end Dm

end

section
set_option Elab.async false
set_option linter.all false
set_option maxRecDepth 100000
set_option maxHeartbeats 2000000
namespace Dm
theorem last_place {s : List Int} {x : Int} (h : x ∈ s) : ∃ p, s[p]? = some x ∧ ∀ k, p < k → k < s.length → s[k]? ≠ some x := by
  have go : ∀ n, n ≤ s.length → (∃ p, p < n ∧ s[p]? = some x) → ∃ p, s[p]? = some x ∧ ∀ k, p < k → k < n → s[k]? ≠ some x := by
    intro n
    induction n with
    | zero => intro _ ⟨p, hp, _⟩; omega
    | succ n ih =>
      intro hn hx
      by_cases q : s[n]? = some x
      · exact ⟨n, q, fun k h1 h2 => by omega⟩
      · obtain ⟨p, hp, hpx⟩ := hx
        have hpn : p ≠ n := fun e => q (by rw [← e]; exact hpx)
        obtain ⟨p', h1, h2⟩ := ih (by omega) ⟨p, by omega, hpx⟩
        refine ⟨p', h1, fun k k1 k2 => ?_⟩
        by_cases e : k = n
        · rw [e]; exact q
        · exact h2 k k1 (by omega)
  obtain ⟨p, hp⟩ := List.mem_iff_getElem?.mp h
  exact go s.length (Nat.le_refl _) ⟨p, (List.getElem?_eq_some_iff.mp hp).1, hp⟩
theorem isD_ex (s : List Int) : ∃ ds, IsD s ds := by
  have go : ∀ n, n ≤ s.length → ∃ ds, IsD (s.take n) ds := by
    intro n
    induction n with
    | zero => intro _; exact ⟨[], by rw [List.take_zero]; exact .nil⟩
    | succ n ih =>
      intro hn
      obtain ⟨ds, hds⟩ := ih (by omega)
      have e : s[n]? = some s[n] := List.getElem?_eq_getElem (by omega)
      rw [take_succ e]
      by_cases hx : s[n] ∈ s.take n
      · obtain ⟨p, h1, h2⟩ := last_place hx
        exact ⟨_, hds.old h1 h2⟩
      · exact ⟨_, hds.new hx⟩
  obtain ⟨ds, h⟩ := go s.length (Nat.le_refl _)
  rw [List.take_length] at h
  exact ⟨ds, h⟩
noncomputable def dbF (s : List Int) : List Int := Classical.choose (isD_ex s)
theorem dbF_ok (s : List Int) : IsD s (dbF s) := Classical.choose_spec (isD_ex s)
theorem dbF_of {s ds : List Int} (h : IsD s ds) : dbF s = ds := (dbF_ok s).uniq h (.refl s)
theorem dbF_pat {s t : List Int} (h : Pat s t) : dbF s = dbF t := (dbF_ok s).uniq (dbF_ok t) h
theorem dbF_len (s : List Int) : (dbF s).length = s.length := (dbF_ok s).1
theorem dbF_valid (s : List Int) : Valid (dbF s) := (dbF_ok s).valid
theorem ids_pat (s : List Int) : Pat (idsF (dbF s)) s := (idsF_ok (dbF_valid s)).d.pat (dbF_ok s)
theorem dbF_ids {ds : List Int} (v : Valid ds) : dbF (idsF ds) = ds := dbF_of (idsF_ok v).d
theorem idsF_len {ds : List Int} (v : Valid ds) : (idsF ds).length = ds.length := (idsF_ok v).d.1.symm
end Dm
namespace K64
open PySem PySem.Spec PyProof.Rows L2 Vd Vd0 Dm
theorem val_of {ds : List Int} (v : Dm.Valid ds) : Valid ds := ⟨v.bd, v.inj⟩
theorem e_ids_of' {ds : List Int} (v : Dm.Valid ds) (hl : ds.length ≤ 1000) : m_ids_of [.fz (.lst (ds.map .int))] = some (.fz (.lst ((idsF ds).map .int)), [.fz (.lst (ds.map .int))]) := by
  obtain ⟨e', h1, is, c, p, q, rfl, hl2, hg⟩ := loopF_inv (g := gT 2 (gsCons (gN 3) (gsCons (gN 4) gsNil))) (b := L_ids_of_1) (ds := enumD 0 (ds.map .int))
    (fun i e => ∃ (is : List Int) (c : Int) (p q : Sl), e = [.fz (.lst (ds.map .int)), .ow (.lst (is.map .int)), .fz (.int c), p, q] ∧ is.length = i ∧ idsGo (ds.drop i) is c = idsF ds)
    (e0 := [.fz (.lst (ds.map .int)), .ow (.lst []), .fz (.int 0), .no, .no]) ⟨[], _, _, _, rfl, rfl, rfl⟩ (fun i d e hd hi => by
      obtain ⟨is, c, p, q, rfl, hl2, hg⟩ := hi
      obtain ⟨n, hn, rfl⟩ := enum_ints hd
      have hil : i < ds.length := (List.getElem?_eq_some_iff.mp hn).1
      obtain ⟨b0, b1⟩ := v.bd i n hn
      have hdrop : ds.drop i = n :: ds.drop (i + 1) := by
        rw [List.drop_eq_getElem_cons hil]
        rw [List.getElem?_eq_getElem hil] at hn
        cases hn; rfl
      rw [hdrop] at hg
      unfold idsGo at hg
      refine ⟨[.fz (.lst (ds.map .int)), .ow (.lst (is.map .int)), .fz (.int c), .fz (.int i), .fz (.int n)], [.fz (.lst (ds.map .int)), .ow (.lst ((idsStep is c n).1.map .int)), .fz (.int (idsStep is c n).2), .fz (.int i), .fz (.int n)], by simp, ?_, _, _, _, _, rfl, ?_, hg⟩
      · by_cases hz : n = 0
        · subst hz
          simp [L_ids_of_1, I_ids_of_1, idsStep, show is.length < 100000 by omega]
        · have ha : atI (is.map D.int) ((i : Int) - n) = some (.int ((is[((is.length : Int) - n).toNat]?).getD 0)) := by
            rw [atI_map, atI_nat (by omega) (by omega), hl2, List.getElem?_eq_getElem (by omega)]; rfl
          simp [L_ids_of_1, I_ids_of_1, idsStep, hz, ha, show is.length < 100000 by omega]
      · unfold idsStep
        split <;> simp [hl2])
  rw [enumD_len, List.length_map] at hl2 hg
  rw [List.drop_length] at hg
  simp only [idsGo] at hg
  subst hg
  simp [m_ids_of, e_runD, b_ids_of, N_ids_of]
  rw [h1]
  simp
theorem e_law_ids {ds : List Int} (v : Dm.Valid ds) (hl : ds.length ≤ 1000) : m_law_ids [.fz (.lst (ds.map .int))] = some (.fz (.lst ((idsF ds).map .int)), [.fz (.lst (ds.map .int))]) := by
  obtain ⟨e', h1, is, c, p, q, rfl, hl2, hg⟩ := loopF_inv (g := gT 2 (gsCons (gN 3) (gsCons (gN 4) gsNil))) (b := L_law_ids_1) (ds := enumD 0 (ds.map .int))
    (fun i e => ∃ (is : List Int) (c : Int) (p q : Sl), e = [.fz (.lst (ds.map .int)), .ow (.lst (is.map .int)), .fz (.int c), p, q] ∧ is.length = i ∧ idsGo (ds.drop i) is c = idsF ds)
    (e0 := [.fz (.lst (ds.map .int)), .ow (.lst []), .fz (.int 0), .no, .no]) ⟨[], _, _, _, rfl, rfl, rfl⟩ (fun i d e hd hi => by
      obtain ⟨is, c, p, q, rfl, hl2, hg⟩ := hi
      obtain ⟨n, hn, rfl⟩ := enum_ints hd
      have hil : i < ds.length := (List.getElem?_eq_some_iff.mp hn).1
      obtain ⟨b0, b1⟩ := v.bd i n hn
      have hdrop : ds.drop i = n :: ds.drop (i + 1) := by
        rw [List.drop_eq_getElem_cons hil]
        rw [List.getElem?_eq_getElem hil] at hn
        cases hn; rfl
      rw [hdrop] at hg
      unfold idsGo at hg
      refine ⟨[.fz (.lst (ds.map .int)), .ow (.lst (is.map .int)), .fz (.int c), .fz (.int i), .fz (.int n)], [.fz (.lst (ds.map .int)), .ow (.lst ((idsStep is c n).1.map .int)), .fz (.int (idsStep is c n).2), .fz (.int i), .fz (.int n)], by simp, ?_, _, _, _, _, rfl, ?_, hg⟩
      · by_cases hz : n = 0
        · subst hz
          simp [L_law_ids_1, I_law_ids_1, idsStep, show is.length < 100000 by omega]
        · have ha : atI (is.map D.int) ((i : Int) - n) = some (.int ((is[((is.length : Int) - n).toNat]?).getD 0)) := by
            rw [atI_map, atI_nat (by omega) (by omega), hl2, List.getElem?_eq_getElem (by omega)]; rfl
          simp [L_law_ids_1, I_law_ids_1, idsStep, hz, ha, show is.length < 100000 by omega]
      · unfold idsStep
        split <;> simp [hl2])
  rw [enumD_len, List.length_map] at hl2 hg
  rw [List.drop_length] at hg
  simp only [idsGo] at hg
  subst hg
  simp [m_law_ids, e_runD, b_law_ids, N_law_ids]
  rw [h1]
  simp
end K64

end

section
set_option Elab.async false
set_option linter.all false
set_option maxRecDepth 100000
set_option maxHeartbeats 2000000
namespace K64
open PySem PySem.Spec PyProof.Rows L2 Vd Vd0 Dm
theorem take_at {s : List Int} {i k : Nat} (h : k < i) : (s.take i)[k]? = s[k]? := by rw [List.getElem?_take, if_pos h]
theorem mem_take {s : List Int} {i : Nat} {x : Int} (h : x ∈ s.take i) : ∃ k, k < i ∧ s[k]? = some x := by
  obtain ⟨k, hk⟩ := List.mem_iff_getElem?.mp h
  have hki : k < i := by
    have := (List.getElem?_eq_some_iff.mp hk).1
    simp at this; omega
  exact ⟨k, hki, by rw [← take_at hki]; exact hk⟩
/-- the last places of the symbols, as a dict tells them -/
def LastOk (s : List Int) (i : Nat) (kvs : List (Key × D)) : Prop := ∀ x : Int, (valD kvs (.inl x) = none ∧ ∀ k, k < i → s[k]? ≠ some x) ∨ ∃ r : Nat, valD kvs (.inl x) = some (.int r) ∧ r < i ∧ s[r]? = some x ∧ ∀ k, r < k → k < i → s[k]? ≠ some x
theorem LastOk.put {s : List Int} {i : Nat} {kvs : List (Key × D)} (h : LastOk s i kvs) {n : Int} (hn : s[i]? = some n) : LastOk s (i + 1) (putD kvs (.inl n) (.int i)) := fun x => by
  rw [valD_put]
  by_cases e : x = n
  · subst e
    exact .inr ⟨i, by simp, by omega, hn, fun k h1 h2 => by omega⟩
  · have ne : ¬ (Sum.inl x : Key) = .inl n := fun h => e (by cases h; rfl)
    rw [if_neg ne]
    have hi : s[i]? ≠ some x := by rw [hn]; intro z; cases z; exact e rfl
    rcases h x with ⟨h1, h2⟩ | ⟨r, h1, h2, h3, h4⟩
    · exact .inl ⟨h1, fun k hk => by
        by_cases q : k = i
        · rw [q]; exact hi
        · exact h2 k (by omega)⟩
    · exact .inr ⟨r, h1, by omega, h3, fun k k1 k2 => by
        by_cases q : k = i
        · rw [q]; exact hi
        · exact h4 k k1 (by omega)⟩
theorem e_distances_by {s : List Int} (h : s.length ≤ 1000) : m_distances_by [.fz (.lst (s.map .int))] = some (.fz (.lst ((dbF s).map .int)), [.fz (.lst (s.map .int))]) := by
  obtain ⟨e', h1, kvs, ds, p, q, rfl, hk, hv, hd⟩ := loopF_inv (g := gT 2 (gsCons (gN 3) (gsCons (gN 4) gsNil))) (b := L_distances_by_1) (ds := enumD 0 (s.map .int))
    (fun i e => ∃ (kvs : List (Key × D)) (ds : List Int) (p q : Sl), e = [.fz (.lst (s.map .int)), .ow (.dic kvs), .ow (.lst (ds.map .int)), p, q] ∧ kvs.length ≤ i ∧ LastOk s i kvs ∧ IsD (s.take i) ds)
    (e0 := [.fz (.lst (s.map .int)), .ow (.dic []), .ow (.lst []), .no, .no])
    ⟨[], [], .no, .no, rfl, Nat.le_refl _, fun x => .inl ⟨rfl, fun k hk => by omega⟩, by rw [List.take_zero]; exact .nil⟩ (fun i d e hd hi => by
      obtain ⟨kvs, ds, p, q, rfl, hk, hv, hds⟩ := hi
      obtain ⟨n, hn, rfl⟩ := enum_ints hd
      have hil : i < s.length := (List.getElem?_eq_some_iff.mp hn).1
      have hdl : ds.length = i := by rw [hds.1]; simp; omega
      have hti : (s.take i).length = i := by simp; omega
      rcases hv n with ⟨hc, h0⟩ | ⟨r, hc, r1, r2, r3⟩
      · refine ⟨[.fz (.lst (s.map .int)), .ow (.dic kvs), .ow (.lst (ds.map .int)), .fz (.int i), .fz (.int n)], [.fz (.lst (s.map .int)), .ow (.dic (putD kvs (.inl n) (.int i))), .ow (.lst ((ds ++ [0]).map .int)), .fz (.int i), .fz (.int n)], by simp, ?_, _, _, _, _, rfl, Nat.le_trans putD_len (by omega), hv.put hn, ?_⟩
        · simp [L_distances_by_1, hc, show ds.length < 100000 by omega, show kvs.length < 100000 by omega]
        · rw [take_succ hn]
          exact hds.new fun hm => by
            obtain ⟨k, k1, k2⟩ := mem_take hm
            exact h0 k k1 k2
      · refine ⟨[.fz (.lst (s.map .int)), .ow (.dic kvs), .ow (.lst (ds.map .int)), .fz (.int i), .fz (.int n)], [.fz (.lst (s.map .int)), .ow (.dic (putD kvs (.inl n) (.int i))), .ow (.lst ((ds ++ [(i : Int) - r]).map .int)), .fz (.int i), .fz (.int n)], by simp, ?_, _, _, _, _, rfl, Nat.le_trans putD_len (by omega), hv.put hn, ?_⟩
        · simp [L_distances_by_1, hc, show ds.length < 100000 by omega, show kvs.length < 100000 by omega]
        · rw [take_succ hn]
          have := hds.old (x := n) (p := r) (by rw [take_at r1]; exact r2) (fun k k1 k2 => by rw [hti] at k2; rw [take_at k2]; exact r3 k k1 k2)
          rw [hti] at this
          exact this)
  rw [enumD_len, List.length_map, List.take_length] at hd
  simp [m_distances_by, e_runD, b_distances_by, N_distances_by]
  rw [h1]
  simp [dbF_of hd]
/-! ### the law's own -/
theorem rgD_filter (n : Nat) (p : Nat → Bool) : (rgD 0 n) = ((List.range n).map fun (i : Nat) => D.int (i : Int)) := by
  unfold rgD; simp
theorem law_ahead {s : List Int} {i : Nat} (n : Int) (hi : i ≤ s.length) (hs : s.length ≤ 1000) (fd : D) (a : Sl) : lcLoop [5] (gN 5) T_law_distances_1 E_law_distances_1 (rgD 0 i) [] [.fz (.lst (s.map .int)), .ow fd, .fz (.int i), .fz (.int n), a, .no] =
    some ((((List.range i).filter fun k => decide (s[k]? = some n)).map fun (k : Nat) => D.int (k : Int)), [.fz (.lst (s.map .int)), .ow fd, .fz (.int i), .fz (.int n), a, .no]) := by
  have h := lc_rel (R := fun (k : Nat) (d : D) => d = .int (k : Int) ∧ k < i) (xs := List.range i) (ds := rgD 0 i) (vs := [5]) (g := gN 5) (t := T_law_distances_1) (f := E_law_distances_1)
    (e := [.fz (.lst (s.map .int)), .ow fd, .fz (.int i), .fz (.int n), a, .no]) ?_ (fun k => decide (s[k]? = some n)) (fun k => k) (fun (k : Nat) => D.int (k : Int)) (by simp; omega) ?_
  · simpa using h
  · have : rgD 0 i = (List.range i).map fun (k : Nat) => D.int (k : Int) := by unfold rgD; simp
    rw [this]
    have go : ∀ l : List Nat, (∀ k ∈ l, k < i) → All2 (fun (k : Nat) (d : D) => d = .int (k : Int) ∧ k < i) l (l.map fun (k : Nat) => D.int (k : Int)) := fun l => by
      induction l with
      | nil => intro _; exact .nil
      | cons k l ih => intro h; exact .cons ⟨rfl, h k (by simp)⟩ (ih fun j hj => h j (by simp [hj]))
    exact go _ fun k hk => List.mem_range.mp hk
  · rintro k d hk ⟨rfl, hki⟩
    have hkl : k < s.length := by omega
    have ha : atI (s.map D.int) (k : Int) = some (.int s[k]) := by
      rw [atI_map, atI_nat (by omega) (by omega)]; simp [List.getElem?_eq_getElem hkl]
    refine ⟨_, [.fz (.lst (s.map .int)), .ow fd, .fz (.int i), .fz (.int n), a, .fz (.int k)], e_gN 5 _, ?_, fun _ => ⟨[.fz (.lst (s.map .int)), .ow fd, .fz (.int i), .fz (.int n), a, .fz (.int k)], ?_, ?_⟩, fun _ => ?_⟩
    · simp [T_law_distances_1, ha, List.getElem?_eq_getElem hkl]
    · simp [E_law_distances_1]
    · simp
    · simp
end K64

end

section
set_option Elab.async false
set_option linter.all false
set_option maxRecDepth 100000
set_option maxHeartbeats 2000000
namespace K64
open PySem PySem.Spec PyProof.Rows L2 Vd Vd0 Dm
theorem fl_last {P : Nat → Bool} {p : Nat} : ∀ i, (∀ k, p < k → k < i → P k = false) → P p = true → p < i → (List.range i).filter P = (List.range p).filter P ++ [p]
  | 0, _, _, h => by omega
  | i + 1, h1, h2, h3 => by
    rw [List.range_succ, List.filter_append]
    by_cases e : p = i
    · subst e
      simp [h2]
    · rw [fl_last i (fun k a b => h1 k a (by omega)) h2 (by omega)]
      simp [h1 i (by omega) (by omega)]
theorem fl_none {P : Nat → Bool} {i : Nat} (h : ∀ k, k < i → P k = false) : (List.range i).filter P = [] := List.filter_eq_nil_iff.mpr fun k hk => by simp [h k (List.mem_range.mp hk)]
theorem atI_snoc {α : Type} (l : List α) (a : α) : atI (l ++ [a]) (-1) = some a := by
  unfold atI ixN
  have h1 : ¬ (0 : Int) ≤ -1 := by decide
  rw [if_neg h1]
  have h2 : -((l ++ [a]).length : Int) ≤ -1 := by simp; omega
  rw [if_pos h2]
  simp
  have : (-1 + ((l.length : Int) + 1)).toNat = l.length := by omega
  rw [this]; simp
theorem e_law_distances {s : List Int} (h : s.length ≤ 1000) : m_law_distances [.fz (.lst (s.map .int))] = some (.fz (.lst ((dbF s).map .int)), [.fz (.lst (s.map .int))]) := by
  obtain ⟨e', h1, ds, p, q, r, rfl, hd⟩ := loopF_inv (g := gT 2 (gsCons (gN 2) (gsCons (gN 3) gsNil))) (b := L_law_distances_1) (ds := enumD 0 (s.map .int))
    (fun i e => ∃ (ds : List Int) (p q r : Sl), e = [.fz (.lst (s.map .int)), .ow (.lst (ds.map .int)), p, q, r, .no] ∧ IsD (s.take i) ds)
    (e0 := [.fz (.lst (s.map .int)), .ow (.lst []), .no, .no, .no, .no])
    ⟨[], .no, .no, .no, rfl, by rw [List.take_zero]; exact .nil⟩ (fun i d e hd hi => by
      obtain ⟨ds, p, q, r, rfl, hds⟩ := hi
      obtain ⟨n, hn, rfl⟩ := enum_ints hd
      have hil : i < s.length := (List.getElem?_eq_some_iff.mp hn).1
      have hdl : ds.length = i := by rw [hds.1]; simp; omega
      have hti : (s.take i).length = i := by simp; omega
      have hah := law_ahead n (i := i) (by omega) h (.lst (ds.map .int)) r
      by_cases hm : n ∈ s.take i
      · obtain ⟨k, k1, k2⟩ := last_place hm
        have hki : k < i := by have := (List.getElem?_eq_some_iff.mp k1).1; omega
        rw [take_at hki] at k1
        rw [fl_last (P := fun k => decide (s[k]? = some n)) (p := k) i (fun j j1 j2 => by
          have := k2 j j1 (by omega)
          rw [take_at j2] at this
          simpa using this) (by simpa using k1) hki] at hah
        have hl : ((List.range k).filter (fun k => decide (s[k]? = some n)) ++ [k]).map (fun (k : Nat) => D.int (k : Int)) = ((((List.range k).filter (fun k => decide (s[k]? = some n))).map fun (k : Nat) => (k : Int)) ++ [(k : Int)]).map D.int := by simp
        rw [hl] at hah
        generalize hA : ((List.range k).filter (fun k => decide (s[k]? = some n))).map (fun (k : Nat) => (k : Int)) = A at hah
        refine ⟨[.fz (.lst (s.map .int)), .ow (.lst (ds.map .int)), .fz (.int i), .fz (.int n), r, .no], [.fz (.lst (s.map .int)), .ow (.lst ((ds ++ [(i : Int) - k]).map .int)), .fz (.int i), .fz (.int n), .fz (.lst ((A ++ [(k : Int)]).map .int)), .no], by simp, ?_, _, _, _, _, rfl, ?_⟩
        · have a1 : atI ((A ++ [(k : Int)]).map D.int) (-1) = some (.int k) := by rw [List.map_append]; exact atI_snoc _ _
          have a2 : vNe (.lst ((A ++ [(k : Int)]).map .int)) (.lst []) = some (.bl true) := by rw [e_vNe0]; simp
          simp only [List.map_append] at a1 a2 hah ⊢
          simp [L_law_distances_1, show (i : Int) ≤ 1000000000 by omega, hah, show ds.length < 100000 by omega]
          simp at a1 a2
          simp [a1, a2, show ds.length < 100000 by omega]
        · rw [take_succ hn]
          have := hds.old (x := n) (p := k) (by rw [take_at hki]; exact k1) k2
          rw [hti] at this
          exact this
      · rw [fl_none (P := fun k => decide (s[k]? = some n)) (i := i) (fun k hk => by
          simp only [decide_eq_false_iff_not]
          intro z
          exact hm (List.mem_of_getElem? (by rw [take_at hk]; exact z))), List.map_nil] at hah
        refine ⟨[.fz (.lst (s.map .int)), .ow (.lst (ds.map .int)), .fz (.int i), .fz (.int n), r, .no], [.fz (.lst (s.map .int)), .ow (.lst ((ds ++ [0]).map .int)), .fz (.int i), .fz (.int n), .fz (.lst []), .no], by simp, ?_, _, _, _, _, rfl, ?_⟩
        · simp [L_law_distances_1, show (i : Int) ≤ 1000000000 by omega, hah, show ds.length < 100000 by omega]
        · rw [take_succ hn]
          exact hds.new hm)
  rw [enumD_len, List.length_map, List.take_length] at hd
  simp [m_law_distances, e_runD, b_law_distances, N_law_distances]
  rw [h1]
  simp [dbF_of hd]
/-! ### small things -/
theorem all_ints (ns : List Int) : All2 (fun (n : Int) (d : D) => d = .int n) ns (ns.map .int) := by
  induction ns with
  | nil => exact .nil
  | cons n ns ih => exact .cons rfl ih
theorem count_filter (ds : List Int) : (ds.filter fun n => decide (n = 0)).length = ds.count 0 := by
  rw [List.count, List.countP_eq_length_filter]
  congr 1
theorem e_symbol_count {ds : List Int} (h : ds.length ≤ 1000) : m_symbol_count [.fz (.lst (ds.map .int))] = some (.fz (.int (ds.count 0 : Nat)), [.fz (.lst (ds.map .int))]) := by
  have := lc_ints (vs := [1]) (g := gN 1) (t := T_symbol_count_1) (f := E_symbol_count_1) (ns := ds) (e := [.fz (.lst (ds.map .int)), .no]) (fun n => decide (n = 0)) (fun n => n) (by omega) (fun n hn => by
    refine ⟨_, [.fz (.lst (ds.map .int)), .fz (.int n)], e_gN 1 _, ?_, fun _ => ⟨[.fz (.lst (ds.map .int)), .fz (.int n)], ?_, ?_⟩, fun _ => ?_⟩
    · simp [T_symbol_count_1]
    · simp [E_symbol_count_1]
    · simp
    · simp)
  simp [m_symbol_count, e_runD, b_symbol_count, N_symbol_count, this, count_filter]
theorem e_law_symbol_count {ds : List Int} (h : ds.length ≤ 1000) : m_law_symbol_count [.fz (.lst (ds.map .int))] = some (.fz (.int (ds.count 0 : Nat)), [.fz (.lst (ds.map .int))]) := by
  have := lc_ints (vs := [1]) (g := gN 1) (t := T_law_symbol_count_1) (f := E_law_symbol_count_1) (ns := ds) (e := [.fz (.lst (ds.map .int)), .no]) (fun n => decide (n = 0)) (fun n => 1) (by omega) (fun n hn => by
    refine ⟨_, [.fz (.lst (ds.map .int)), .fz (.int n)], e_gN 1 _, ?_, fun _ => ⟨[.fz (.lst (ds.map .int)), .fz (.int n)], ?_, ?_⟩, fun _ => ?_⟩
    · simp [T_law_symbol_count_1]
    · simp [E_law_symbol_count_1]
    · simp
    · simp)
  simp [m_law_symbol_count, e_runD, b_law_symbol_count, N_law_symbol_count, this, count_filter]
theorem e_checked {ds : List Int} (v : Dm.Valid ds) (h : ds.length ≤ 400) : m_checked_distances [.fz (.lst (ds.map .int))] = some (.fz (.lst (ds.map .int)), [.fz (.lst (ds.map .int))]) := by
  have := e_is_distances (ns := ds) (d := .lst (ds.map .int)) (.inl rfl) (val_of v) h
  simp [m_checked_distances, e_runD, b_checked_distances, N_checked_distances, I_checked_distances_1, this]
theorem e_checked_s {ds : List Int} (v : Dm.Valid ds) (h : ds.length ≤ 400) : m_checked_search [.fz (.lst (ds.map .int))] = some (.fz (.lst (ds.map .int)), [.fz (.lst (ds.map .int))]) := by
  have := e_is_distances (ns := ds) (d := .lst (ds.map .int)) (.inl rfl) (val_of v) h
  simp [m_checked_search, e_runD, b_checked_search, N_checked_search, I_checked_search_1, this]
theorem e_check_position {p hi : Int} (h0 : 0 ≤ p) (h1 : p ≤ hi) : m_check_position [.fz (.int p), .fz (.int hi)] = some (.fz .non, [.fz (.int p), .fz (.int hi)]) := by
  simp [m_check_position, e_runD, b_check_position, N_check_position, I_check_position_1, h0, h1]
theorem e_check_symbol {p hi : Int} (h0 : 0 ≤ p) (h1 : p ≤ hi) : m_check_symbol [.fz (.int p), .fz (.int hi)] = some (.fz .non, [.fz (.int p), .fz (.int hi)]) := by
  simp [m_check_symbol, e_runD, b_check_symbol, N_check_symbol, I_check_symbol_1, h0, h1]
theorem e_check_number {p hi : Int} (h0 : 0 ≤ p) (h1 : p ≤ hi) : m_check_number [.fz (.int p), .fz (.int hi)] = some (.fz .non, [.fz (.int p), .fz (.int hi)]) := by
  simp [m_check_number, e_runD, b_check_number, N_check_number, I_check_number_1, h0, h1]
theorem e_check_number0 {p : Int} (h0 : 0 ≤ p) : m_check_number [.fz (.int p), .fz .non] = some (.fz .non, [.fz (.int p), .fz .non]) := by
  simp [m_check_number, e_runD, b_check_number, N_check_number, I_check_number_1, h0]
end K64

end

section
set_option Elab.async false
set_option linter.all false
set_option maxRecDepth 100000
set_option maxHeartbeats 2000000
namespace K64
open PySem PySem.Spec PyProof.Rows L2 Vd Vd0 Dm
theorem cutm_to (l : List Int) (p : Nat) : Vd.cutD (l.map D.int) none (some (p : Int)) = (l.take p).map D.int := by
  unfold Vd.cutD
  rw [HT.sIx_none, HT.sIx_nat, List.drop_zero, Nat.sub_zero, List.length_map, List.map_take]
  rcases Nat.le_total p l.length with h | h
  · rw [Nat.min_eq_left h]
  · rw [Nat.min_eq_right h, List.take_of_length_le (by simp), List.take_of_length_le (by simpa using h)]
theorem cutm_from (l : List Int) (p : Nat) : Vd.cutD (l.map D.int) (some (p : Int)) none = (l.drop p).map D.int := by
  unfold Vd.cutD
  rw [HT.sIx_none, HT.sIx_nat, List.length_map, List.map_drop, List.take_of_length_le (by simp)]
  rcases Nat.le_total p l.length with h | h
  · rw [Nat.min_eq_left h]
  · rw [Nat.min_eq_right h, List.drop_of_length_le (by simp), List.drop_of_length_le (by simpa using h)]
theorem cutm_from1 (l : List Int) (p : Nat) : Vd.cutD (l.map D.int) (some ((p : Int) + 1)) none = (l.drop (p + 1)).map D.int := by
  have := cutm_from l (p + 1)
  rw [show ((p + 1 : Nat) : Int) = (p : Int) + 1 by omega] at this
  exact this
theorem cutm_ft (l : List Int) {a b : Nat} (h : a + b ≤ l.length) : Vd.cutD (l.map D.int) (some (a : Int)) (some ((a : Int) + b)) = ((l.drop a).take b).map D.int := by
  unfold Vd.cutD
  have e : ((a : Int) + b) = ((a + b : Nat) : Int) := by omega
  rw [e, HT.sIx_nat, HT.sIx_nat, List.length_map, List.map_take, List.map_drop, Nat.min_eq_left h, Nat.min_eq_left (by omega)]
  congr 1
  omega
section
variable {l : List Int} {p : Nat} {y : Int}
theorem e_insert_at (v : Dm.Valid l) (h : l.length ≤ 399) (hp : p ≤ l.length) (y0 : 0 ≤ y) (y1 : y ≤ (l.count 0 : Nat)) :
    m_insert_at [.fz (.lst (l.map .int)), .fz (.int p), .fz (.int y)] = some (.fz (.lst ((dbF ((idsF l).take p ++ [y] ++ (idsF l).drop p)).map .int)), [.fz (.lst (l.map .int)), .fz (.int p), .fz (.int y)]) := by
  have hl := idsF_len v
  have hd := e_distances_by (s := (idsF l).take p ++ [y] ++ (idsF l).drop p) (by simp; omega)
  generalize dbF ((idsF l).take p ++ [y] ++ (idsF l).drop p) = R at hd ⊢
  simp at hd
  have c1 := e_checked v (by omega)
  have c2 := e_check_position (p := p) (hi := l.length) (by omega) (by omega)
  have c3 := e_symbol_count (ds := l) (by omega)
  have c4 := e_check_symbol y0 y1
  have c5 := e_ids_of' v (by omega)
  simp [m_insert_at, e_runD, b_insert_at, N_insert_at, I_insert_at_1, c1, c2, c3, c4, c5, cutm_to, cutm_from, show ¬ (l.length : Int) = 400 by omega, hl, show min p l.length + 1 ≤ 100000 by omega, show min p l.length + 1 + (l.length - p) ≤ 100000 by omega, hd, show min p l.length + (l.length - p + 1) ≤ 100000 by omega]
theorem e_delete_at (v : Dm.Valid l) (h : l.length ≤ 400) (hp : p < l.length) :
    m_delete_at [.fz (.lst (l.map .int)), .fz (.int p)] = some (.fz (.lst ((dbF ((idsF l).take p ++ (idsF l).drop (p + 1))).map .int)), [.fz (.lst (l.map .int)), .fz (.int p)]) := by
  have hl := idsF_len v
  have hd := e_distances_by (s := (idsF l).take p ++ (idsF l).drop (p + 1)) (by simp; omega)
  generalize dbF ((idsF l).take p ++ (idsF l).drop (p + 1)) = R at hd ⊢
  simp at hd
  have c1 := e_checked v (by omega)
  have c2 := e_check_position (p := p) (hi := l.length - 1) (by omega) (by omega)
  have c5 := e_ids_of' v (by omega)
  simp [m_delete_at, e_runD, b_delete_at, N_delete_at, c1, c2, c5, cutm_to, cutm_from1, hl, hd, show min p l.length + (l.length - (p + 1)) ≤ 100000 by omega]
theorem e_replace_at (v : Dm.Valid l) (h : l.length ≤ 400) (hp : p < l.length) (y0 : 0 ≤ y) (y1 : y ≤ (l.count 0 : Nat)) :
    m_replace_at [.fz (.lst (l.map .int)), .fz (.int p), .fz (.int y)] = some (.fz (.lst ((dbF ((idsF l).take p ++ [y] ++ (idsF l).drop (p + 1))).map .int)), [.fz (.lst (l.map .int)), .fz (.int p), .fz (.int y)]) := by
  have hl := idsF_len v
  have hd := e_distances_by (s := (idsF l).take p ++ [y] ++ (idsF l).drop (p + 1)) (by simp; omega)
  generalize dbF ((idsF l).take p ++ [y] ++ (idsF l).drop (p + 1)) = R at hd ⊢
  simp at hd
  have c1 := e_checked v (by omega)
  have c2 := e_check_position (p := p) (hi := l.length - 1) (by omega) (by omega)
  have c3 := e_symbol_count (ds := l) (by omega)
  have c4 := e_check_symbol y0 y1
  have c5 := e_ids_of' v (by omega)
  simp [m_replace_at, e_runD, b_replace_at, N_replace_at, c1, c2, c3, c4, c5, cutm_to, cutm_from1, hl, show min p l.length + 1 ≤ 100000 by omega, hd, show min p l.length + 1 + (l.length - (p + 1)) ≤ 100000 by omega, show min p l.length + (l.length - (p + 1) + 1) ≤ 100000 by omega]
theorem e_symbol_ids (v : Dm.Valid l) (h : l.length ≤ 400) : m_symbol_ids [.fz (.lst (l.map .int))] = some (.fz (.lst ((idsF l).map .int)), [.fz (.lst (l.map .int))]) := by
  have c1 := e_checked v (by omega)
  have c5 := e_ids_of' v (by omega)
  simp [m_symbol_ids, e_runD, b_symbol_ids, N_symbol_ids, c1, c5]
theorem e_reversed (v : Dm.Valid l) (h : l.length ≤ 400) : m_reversed_distances [.fz (.lst (l.map .int))] = some (.fz (.lst ((dbF (idsF l).reverse).map .int)), [.fz (.lst (l.map .int))]) := by
  have hl := idsF_len v
  have c1 := e_checked v (by omega)
  have c5 := e_ids_of' v (by omega)
  have hd := e_distances_by (s := (idsF l).reverse) (by simp; omega)
  generalize dbF (idsF l).reverse = R at hd ⊢
  rw [List.map_reverse] at hd
  simp [m_reversed_distances, e_runD, b_reversed_distances, N_reversed_distances, c1, c5, hd]
theorem e_split (v : Dm.Valid l) (h : l.length ≤ 400) (hp : p < l.length) :
    m_split_symbol [.fz (.lst (l.map .int)), .fz (.int p)] = some (.fz (.lst ((dbF ((idsF l).take p ++ ((idsF l).drop p).map fun y => if some y = (idsF l)[p]? then ((l.count 0 : Nat) : Int) else y)).map .int)), [.fz (.lst (l.map .int)), .fz (.int p)]) := by
  have hl := idsF_len v
  have hd := e_distances_by (s := (idsF l).take p ++ ((idsF l).drop p).map fun y => if some y = (idsF l)[p]? then ((l.count 0 : Nat) : Int) else y) (by simp; omega)
  generalize dbF ((idsF l).take p ++ ((idsF l).drop p).map fun y => if some y = (idsF l)[p]? then ((l.count 0 : Nat) : Int) else y) = R at hd ⊢
  have hpi : p < (idsF l).length := by omega
  have ha : atI ((idsF l).map D.int) (p : Int) = some (.int (idsF l)[p]) := by
    rw [atI_map, atI_nat (by omega) (by omega)]; simp [List.getElem?_eq_getElem hpi]
  have hc := lc_ints (vs := [5]) (g := gN 5) (t := T_split_symbol_1) (f := E_split_symbol_1) (ns := (idsF l).drop p) (e := [.fz (.lst (l.map .int)), .fz (.int p), .fz (.lst (l.map .int)), .fz (.lst ((idsF l).map .int)), .fz (.int (l.count 0 : Nat)), .no]) (fun _ => true) (fun y => if some y = (idsF l)[p]? then ((l.count 0 : Nat) : Int) else y) (by simp; omega) (fun n hn => by
    refine ⟨_, [.fz (.lst (l.map .int)), .fz (.int p), .fz (.lst (l.map .int)), .fz (.lst ((idsF l).map .int)), .fz (.int (l.count 0 : Nat)), .fz (.int n)], e_gN 5 _, ?_, fun _ => ⟨[.fz (.lst (l.map .int)), .fz (.int p), .fz (.lst (l.map .int)), .fz (.lst ((idsF l).map .int)), .fz (.int (l.count 0 : Nat)), .fz (.int n)], ?_, ?_⟩, fun q => (by cases q)⟩
    · simp [T_split_symbol_1, fYes]
    · by_cases hn : n = (idsF l)[p]
      · simp [E_split_symbol_1, ha, hn, List.getElem?_eq_getElem hpi]
      · simp [E_split_symbol_1, ha, hn, List.getElem?_eq_getElem hpi]
    · simp)
  rw [filter_t] at hc
  have c1 := e_checked v (by omega)
  have c2 := e_check_position (p := p) (hi := l.length - 1) (by omega) (by omega)
  have c3 := e_symbol_count (ds := l) (by omega)
  have c5 := e_ids_of' v (by omega)
  rw [List.map_append] at hd
  generalize hM : List.map (fun y => if some y = (idsF l)[p]? then ((l.count 0 : Nat) : Int) else y) ((idsF l).drop p) = M at hd hc
  have hMl : M.length = l.length - p := by rw [← hM]; simp [hl]
  rw [List.map_take] at hd
  rw [List.map_drop] at hc
  simp [m_split_symbol, e_runD, b_split_symbol, N_split_symbol, c1, c2, c3, c5, cutm_to, cutm_from, hc, hl, hMl, show min p l.length + (l.length - p) ≤ 100000 by omega, hd]
theorem e_merge (v : Dm.Valid l) (h : l.length ≤ 400) {a b : Int} (a0 : 0 ≤ a) (a1 : a < (l.count 0 : Nat)) (b0 : 0 ≤ b) (b1 : b < (l.count 0 : Nat)) :
    m_merge_symbols [.fz (.lst (l.map .int)), .fz (.int a), .fz (.int b)] = some (.fz (.lst ((dbF ((idsF l).map fun y => if y = b then a else y)).map .int)), [.fz (.lst (l.map .int)), .fz (.int a), .fz (.int b)]) := by
  have hl := idsF_len v
  have hd := e_distances_by (s := (idsF l).map fun y => if y = b then a else y) (by simp; omega)
  generalize dbF ((idsF l).map fun y => if y = b then a else y) = R at hd ⊢
  have hc := lc_ints (vs := [4]) (g := gN 4) (t := T_merge_symbols_1) (f := E_merge_symbols_1) (ns := idsF l) (e := [.fz (.lst (l.map .int)), .fz (.int a), .fz (.int b), .fz (.lst (l.map .int)), .fz (.int b)]) (fun _ => true) (fun y => if y = b then a else y) (by omega) (fun n hn => by
    refine ⟨_, [.fz (.lst (l.map .int)), .fz (.int a), .fz (.int b), .fz (.lst (l.map .int)), .fz (.int n)], e_gN 4 _, ?_, fun _ => ⟨[.fz (.lst (l.map .int)), .fz (.int a), .fz (.int b), .fz (.lst (l.map .int)), .fz (.int n)], ?_, ?_⟩, fun q => (by cases q)⟩
    · simp [T_merge_symbols_1, fYes]
    · by_cases hn : n = b
      · simp [E_merge_symbols_1, hn]
      · simp [E_merge_symbols_1, hn]
    · simp)
  rw [filter_t] at hc
  have c1 := e_checked v (by omega)
  have c3 := e_symbol_count (ds := l) (by omega)
  have c4 := e_check_symbol (p := a) (hi := (l.count 0 : Nat) - 1) a0 (by omega)
  have c6 := e_check_symbol (p := b) (hi := (l.count 0 : Nat) - 1) b0 (by omega)
  have c5 := e_ids_of' v (by omega)
  generalize List.map (fun y => if y = b then a else y) (idsF l) = M at hd hc
  simp [m_merge_symbols, e_runD, b_merge_symbols, N_merge_symbols, c1, loopF, L_merge_symbols_1, c3, c4, c6, c5, hc, hd]
end
end K64

end

section
set_option Elab.async false
set_option linter.all false
set_option maxRecDepth 100000
set_option maxHeartbeats 2000000
namespace K64
open PySem PySem.Spec PyProof.Rows L2 Vd Vd0 Dm
theorem ens_get : ∀ (ns : List Int) (k : Int) (i : Nat), (ens k ns)[i]? = (ns[i]?).map fun n => (k + i, n)
  | [], k, i => by simp [ens]
  | n :: ns, k, 0 => by simp [ens]
  | n :: ns, k, i + 1 => by
    have := ens_get ns (k + 1) i
    simp [ens, this]
    cases ns[i]? with
    | none => rfl
    | some m => simp; omega
/-- a window of the entries xs -/
def wnF (xs : List Int) : List Int := (ens 0 xs).map fun q => if q.2 ≤ q.1 then q.2 else 0
theorem wnF_len (xs : List Int) : (wnF xs).length = xs.length := by simp [wnF, ens_len]
theorem wnF_get (xs : List Int) (i : Nat) : (wnF xs)[i]? = (xs[i]?).map fun n => if n ≤ (i : Int) then n else 0 := by
  unfold wnF
  rw [List.getElem?_map, ens_get]
  cases xs[i]? with
  | none => rfl
  | some n => simp
theorem wnF_isD {s ds : List Int} (h : IsD s ds) (a n : Nat) (hn : a + n ≤ s.length) : IsD ((s.drop a).take n) (wnF ((ds.drop a).take n)) := by
  have hl := h.1
  refine ⟨by rw [wnF_len]; simp [hl], fun i d hd => ?_⟩
  rw [wnF_get] at hd
  obtain ⟨e, h1, rfl⟩ := Option.map_eq_some_iff.mp hd
  have hi : i < n := by
    have := (List.getElem?_eq_some_iff.mp h1).1
    simp at this; omega
  have at_ : ∀ j, j < n → ((s.drop a).take n)[j]? = s[a + j]? := fun j hj => by rw [List.getElem?_take, if_pos hj, List.getElem?_drop]
  rw [List.getElem?_take, if_pos hi, List.getElem?_drop] at h1
  rcases h.2 (a + i) e h1 with ⟨a1, a2⟩ | ⟨j, j1, j2, j3, j4⟩
  · refine .inl ⟨by rw [a1]; simp, fun j hj => ?_⟩
    rw [at_ j (by omega), at_ i hi]
    exact a2 _ (by omega)
  · by_cases hj : a ≤ j
    · refine .inr ⟨j - a, by omega, ?_, ?_, fun k k1 k2 => ?_⟩
      · rw [if_pos (by omega)]; omega
      · rw [at_ _ (by omega), at_ i hi, show a + (j - a) = j by omega]; exact j3
      · rw [at_ _ (by omega), at_ i hi]; exact j4 _ (by omega) (by omega)
    · refine .inl ⟨by rw [if_neg (by omega)], fun k hk => ?_⟩
      rw [at_ k (by omega), at_ i hi]
      exact j4 _ (by omega) (by omega)
section
variable {l : List Int}
theorem wnF_db (v : Dm.Valid l) {a n : Nat} (hn : a + n ≤ l.length) : wnF ((l.drop a).take n) = dbF (((idsF l).drop a).take n) :=
  (dbF_of (wnF_isD (idsF_ok v).d a n (by rw [idsF_len v]; exact hn))).symm
theorem all_pr (qs : List (Int × Int)) : All2 (fun (q : Int × Int) (d : D) => d = pr q) qs (qs.map pr) := All2.map pr qs
theorem e_window_of {a n : Nat} (h : a + n ≤ l.length) (hl : l.length ≤ 1000) : m_window_of [.fz (.lst (l.map .int)), .fz (.int a), .fz (.int n)] = some (.fz (.lst ((wnF ((l.drop a).take n)).map .int)), [.fz (.lst (l.map .int)), .fz (.int a), .fz (.int n)]) := by
  have hc := lc_rel (R := fun (q : Int × Int) (d : D) => d = pr q) (xs := ens 0 ((l.drop a).take n)) (ds := enumD 0 (((l.drop a).take n).map .int)) (vs := [3, 4]) (g := gT 2 (gsCons (gN 3) (gsCons (gN 4) gsNil))) (t := T_window_of_1) (f := E_window_of_1)
    (e := [.fz (.lst (l.map .int)), .fz (.int a), .fz (.int n), .no, .no]) (by rw [enum_ens]; exact all_pr _) (fun _ => true) (fun q => if q.2 ≤ q.1 then q.2 else 0) D.int (by rw [ens_len]; simp; omega) (by
      rintro ⟨i, x⟩ d hq rfl
      refine ⟨_, [.fz (.lst (l.map .int)), .fz (.int a), .fz (.int n), .fz (.int i), .fz (.int x)], by simp [pr]; rfl, ?_, fun _ => ⟨[.fz (.lst (l.map .int)), .fz (.int a), .fz (.int n), .fz (.int i), .fz (.int x)], ?_, ?_⟩, fun q => (by cases q)⟩
      · simp [T_window_of_1, fYes]
      · by_cases hx : x ≤ i
        · simp [E_window_of_1, hx]
        · simp [E_window_of_1, hx]
      · simp)
  rw [filter_t] at hc
  have hw : (ens 0 ((l.drop a).take n)).map (fun q => if q.2 ≤ q.1 then q.2 else 0) = wnF ((l.drop a).take n) := rfl
  rw [hw] at hc
  generalize wnF ((l.drop a).take n) = W at hc ⊢
  have cu := cutm_ft l h
  generalize hE : enumD 0 (((l.drop a).take n).map D.int) = EE at hc
  simp [m_window_of, e_runD, b_window_of, N_window_of, cu]
  rw [List.map_take, List.map_drop] at hE
  simp [hE, hc]
theorem e_window (v : Dm.Valid l) {a n : Nat} (h : a + n ≤ l.length) (hl : l.length ≤ 400) : m_window [.fz (.lst (l.map .int)), .fz (.int a), .fz (.int n)] = some (.fz (.lst ((dbF (((idsF l).drop a).take n)).map .int)), [.fz (.lst (l.map .int)), .fz (.int a), .fz (.int n)]) := by
  have c0 := e_window_of h (by omega)
  rw [wnF_db v h] at c0
  have c1 := e_checked v (by omega)
  have c2 := e_check_position (p := a) (hi := l.length) (by omega) (by omega)
  simp [m_window, e_runD, b_window, N_window, I_window_1, c1, c2, show (n : Int) ≤ l.length - a by omega, c0]
/-! ### the distance to the next -/
theorem e_next (v : Dm.Valid l) (hl : l.length ≤ 400) : ∃ nx : List Int, m_next_distances [.fz (.lst (l.map .int))] = some (.fz (.lst (nx.map .int)), [.fz (.lst (l.map .int))]) ∧ IsD (idsF l).reverse nx.reverse := by
  have hI := (idsF_ok v).d
  generalize idsF l = is at hI
  have hil := hI.1
  have c1 := e_checked v (by omega)
  have hc := lc_ints (vs := [4]) (g := gN 4) (t := T_next_distances_1) (f := E_next_distances_1) (ns := l) (e := [.fz (.lst (l.map .int)), .fz (.lst (l.map .int)), .no, .no, .no]) (fun _ => true) (fun _ => 0) (by omega) (fun n hn => by
    refine ⟨_, [.fz (.lst (l.map .int)), .fz (.lst (l.map .int)), .no, .no, .fz (.int n)], e_gN 4 _, ?_, fun _ => ⟨[.fz (.lst (l.map .int)), .fz (.lst (l.map .int)), .no, .no, .fz (.int n)], ?_, ?_⟩, fun q => (by cases q)⟩
    · simp [T_next_distances_1, fYes]
    · simp [E_next_distances_1]
    · simp)
  rw [filter_t] at hc
  obtain ⟨e', h1, fo, p, q, rfl, hf, hk⟩ := loopF_inv (g := gT 2 (gsCons (gN 3) (gsCons (gN 4) gsNil))) (b := L_next_distances_1) (ds := enumD 0 (l.map .int))
    (fun i e => ∃ (fo : List Int) (p q : Sl), e = [.fz (.lst (l.map .int)), .fz (.lst (l.map .int)), .ow (.lst (fo.map .int)), p, q] ∧ fo.length = l.length ∧
      ∀ j d, fo[j]? = some d → (d = 0 ∧ ∀ k, j < k → k < i → is[k]? ≠ is[j]?) ∨ ∃ k, j < k ∧ k < i ∧ d = (k : Int) - (j : Nat) ∧ is[k]? = is[j]? ∧ ∀ m, j < m → m < k → is[m]? ≠ is[j]?)
    (e0 := [.fz (.lst (l.map .int)), .fz (.lst (l.map .int)), .ow (.lst ((l.map fun _ => (0 : Int)).map .int)), .no, .no])
    ⟨_, _, _, rfl, by simp, fun j d hd => .inl ⟨by
      rw [List.getElem?_map] at hd
      obtain ⟨_, _, h2⟩ := Option.map_eq_some_iff.mp hd
      exact h2.symm, fun k h1 h2 => by omega⟩⟩ (fun i d e hd hi => by
      obtain ⟨fo, p, q, rfl, hf, hk⟩ := hi
      obtain ⟨n, hn, rfl⟩ := enum_ints hd
      have hil2 : i < l.length := (List.getElem?_eq_some_iff.mp hn).1
      obtain ⟨b0, b1⟩ := v.bd i n hn
      rcases hI.2 i n hn with ⟨a1, a2⟩ | ⟨r, r1, r2, r3, r4⟩
      · subst a1
        refine ⟨[.fz (.lst (l.map .int)), .fz (.lst (l.map .int)), .ow (.lst (fo.map .int)), .fz (.int i), .fz (.int 0)], [.fz (.lst (l.map .int)), .fz (.lst (l.map .int)), .ow (.lst (fo.map .int)), .fz (.int i), .fz (.int 0)], by simp, by simp [L_next_distances_1, I_next_distances_1], fo, _, _, rfl, hf, fun j d hj => ?_⟩
        have hjl := (List.getElem?_eq_some_iff.mp hj).1
        rcases hk j d hj with ⟨z1, z2⟩ | ⟨k, k1, k2, k3, k4, k5⟩
        · refine .inl ⟨z1, fun k k1 k2 => ?_⟩
          by_cases e : k = i
          · subst e; exact fun z => a2 j k1 z.symm
          · exact z2 k k1 (by omega)
        · exact .inr ⟨k, k1, by omega, k3, k4, k5⟩
      · have hx : ixN (fo.map D.int).length ((i : Int) - n) = some r := by
          unfold ixN
          rw [List.length_map, if_pos (by omega), if_pos (by omega)]
          congr 1; omega
        have n0 : 0 < n := by omega
        refine ⟨[.fz (.lst (l.map .int)), .fz (.lst (l.map .int)), .ow (.lst (fo.map .int)), .fz (.int i), .fz (.int n)], [.fz (.lst (l.map .int)), .fz (.lst (l.map .int)), .ow (.lst ((fo.set r n).map .int)), .fz (.int i), .fz (.int n)], by simp, ?_, _, _, _, rfl, by simp [hf], fun j d hj => ?_⟩
        · have hx' : ixN fo.length ((i : Int) - n) = some r := by simpa using hx
          simp [L_next_distances_1, I_next_distances_1, n0, hx', List.map_set]
        · by_cases e : j = r
          · subst e
            rw [List.getElem?_set_self (by omega)] at hj
            cases hj
            exact .inr ⟨i, r1, by omega, by omega, r3.symm, fun m m1 m2 z => r4 m m1 m2 (z.trans r3)⟩
          · rw [List.getElem?_set_ne (Ne.symm e)] at hj
            rcases hk j d hj with ⟨z1, z2⟩ | ⟨k, k1, k2, k3, k4, k5⟩
            · refine .inl ⟨z1, fun k k1 k2 z => ?_⟩
              by_cases e2 : k = i
              · subst e2
                rcases Nat.lt_or_gt_of_ne e with q | q
                · exact z2 r q r1 (r3.trans z)
                · exact r4 j q k1 z.symm
              · exact z2 k k1 (by omega) z
            · exact .inr ⟨k, k1, by omega, k3, k4, k5⟩)
  rw [enumD_len, List.length_map] at hk
  refine ⟨fo, ?_, ?_, fun i d hd => ?_⟩
  · simp [m_next_distances, e_runD, b_next_distances, N_next_distances, c1, hc]
    simp at h1
    simp [h1]
  · simp; omega
  · have hir : i < fo.length := by
      have := (List.getElem?_eq_some_iff.mp hd).1
      simpa using this
    have rv : ∀ j, j < l.length → is.reverse[j]? = is[l.length - 1 - j]? := fun j hj => by
      rw [List.getElem?_reverse (by omega), ← hil]
    rw [List.getElem?_reverse hir] at hd
    rw [hf] at hd
    rcases hk _ d hd with ⟨z1, z2⟩ | ⟨k, k1, k2, k3, k4, k5⟩
    · refine .inl ⟨z1, fun j hj => ?_⟩
      rw [rv j (by omega), rv i (by omega)]
      exact z2 _ (by omega) (by omega)
    · refine .inr ⟨l.length - 1 - k, by omega, by omega, ?_, fun m m1 m2 => ?_⟩
      · rw [rv _ (by omega), rv i (by omega), show l.length - 1 - (l.length - 1 - k) = k by omega]
        exact k4
      · rw [rv m (by omega), rv i (by omega)]
        exact k5 _ (by omega) (by omega)
end
end K64

end

section
set_option Elab.async false
set_option linter.all false
set_option maxRecDepth 100000
set_option maxHeartbeats 2000000
namespace K64
open PySem PySem.Spec PyProof.Rows L2 Vd Vd0 Dm
def occGo (l : List Int) (s : Nat) : Nat → List Int → Bool
  | _, [] => true
  | k, p :: ps => decide ((if (l[s + k]?).getD 0 ≤ (k : Int) then (l[s + k]?).getD 0 else 0) = p) && occGo l s (k + 1) ps
theorem occ_loop {l : List Int} {s : Nat} {pd : D} : ∀ (ps : List Int) (k : Nat) (a b c : Sl), s + k + ps.length ≤ l.length → ∃ a' b' c', loopF (gT 2 (gsCons (gN 3) (gsCons (gN 4) gsNil))) L_occurs_at_1 (enumD k (ps.map .int)) [.fz (.lst (l.map .int)), .fz pd, .fz (.int s), a, b, c] =
    some (if occGo l s k ps = true then .nx [.fz (.lst (l.map .int)), .fz pd, .fz (.int s), a', b', c'] else .rt (.fz (.bl false)) [.fz (.lst (l.map .int)), .fz pd, .fz (.int s), a', b', c'])
  | [], k, a, b, c, _ => ⟨a, b, c, by simp [enumD, loopF, occGo]⟩
  | p :: ps, k, a, b, c, h => by
    have hk : s + k < l.length := by simp at h; omega
    have ha : atI (l.map D.int) ((s : Int) + k) = some (.int ((l[s + k]?).getD 0)) := by
      rw [atI_map, atI_nat (by omega) (by omega), show ((s : Int) + k).toNat = s + k by omega, List.getElem?_eq_getElem hk]; rfl
    generalize hx : (l[s + k]?).getD 0 = x at ha
    by_cases hp : (if x ≤ (k : Int) then x else 0) = p
    · obtain ⟨a', b', c', h1⟩ := occ_loop (l := l) (s := s) (pd := pd) ps (k + 1) (.fz (.int k)) (.fz (.int p)) (.fz (.int x)) (by simp at h; omega)
      refine ⟨a', b', c', ?_⟩
      have e : occGo l s k (p :: ps) = occGo l s (k + 1) ps := by simp [occGo, hx, hp]
      rw [e]
      rw [← h1]
      by_cases hxk : x ≤ (k : Int)
      · rw [if_pos hxk] at hp
        subst hp
        simp [enumD, loopF, L_occurs_at_1, I_occurs_at_1, ha, hxk]
      · rw [if_neg hxk] at hp
        subst hp
        simp [enumD, loopF, L_occurs_at_1, I_occurs_at_1, ha, hxk]
    · refine ⟨.fz (.int k), .fz (.int p), .fz (.int x), ?_⟩
      have e : occGo l s k (p :: ps) = false := by simp [occGo, hx, hp]
      rw [e]
      by_cases hxk : x ≤ (k : Int)
      · rw [if_pos hxk] at hp
        simp [enumD, loopF, L_occurs_at_1, I_occurs_at_1, ha, hxk, hp]
      · rw [if_neg hxk] at hp
        simp [enumD, loopF, L_occurs_at_1, I_occurs_at_1, ha, hxk, hp]
theorem e_occurs {l ps : List Int} {s : Nat} (h : s + ps.length ≤ l.length) : m_occurs_at [.fz (.lst (l.map .int)), .fz (.lst (ps.map .int)), .fz (.int s)] = some (.fz (.bl (occGo l s 0 ps)), [.fz (.lst (l.map .int)), .fz (.lst (ps.map .int)), .fz (.int s)]) := by
  obtain ⟨a, b, c, h1⟩ := occ_loop (l := l) (s := s) (pd := .lst (ps.map .int)) ps 0 .no .no .no (by omega)
  cases ho : occGo l s 0 ps with
  | true =>
    rw [ho, if_pos rfl] at h1
    simp [m_occurs_at, e_runD, b_occurs_at, N_occurs_at, h1]
  | false =>
    rw [ho, if_neg (by simp)] at h1
    simp [m_occurs_at, e_runD, b_occurs_at, N_occurs_at, h1]
theorem occ_of {l : List Int} {s : Nat} : ∀ (ps : List Int) (k : Nat), (∀ (i : Nat) (p : Int), ps[i]? = some p → ∃ d, l[s + (k + i)]? = some d ∧ (if d ≤ ((k + i : Nat) : Int) then d else 0) = p) → occGo l s k ps = true
  | [], _, _ => rfl
  | p :: ps, k, h => by
    obtain ⟨d, h1, h2⟩ := h 0 p rfl
    have h1 : l[s + k]? = some d := h1
    have h2 : (if d ≤ (k : Int) then d else 0) = p := h2
    have ih := occ_of ps (k + 1) (fun i q hq => by
      obtain ⟨d, h3, h4⟩ := h (i + 1) q (by simpa using hq)
      exact ⟨d, by rw [show k + 1 + i = k + (i + 1) by omega]; exact h3, by rw [show k + 1 + i = k + (i + 1) by omega]; exact h4⟩)
    simp [occGo, h1, h2, ih]
theorem occ_wn {l : List Int} {a n : Nat} (h : a + n ≤ l.length) : occGo l a 0 (wnF ((l.drop a).take n)) = true := occ_of _ 0 fun i p hp => by
  rw [wnF_get] at hp
  obtain ⟨d, h1, h2⟩ := Option.map_eq_some_iff.mp hp
  have hi : i < n := by
    have := (List.getElem?_eq_some_iff.mp h1).1
    simp at this; omega
  rw [List.getElem?_take, if_pos hi, List.getElem?_drop] at h1
  exact ⟨d, by rw [Nat.zero_add]; exact h1, by rw [Nat.zero_add]; exact h2⟩
theorem rgD_nat (n : Nat) : rgD 0 n = (List.range n).map fun (k : Nat) => D.int (k : Int) := by unfold rgD; simp
theorem all_rg (n : Nat) : All2 (fun (k : Nat) (d : D) => d = .int (k : Int)) (List.range n) (rgD 0 n) := by
  rw [rgD_nat]; exact All2.map _ _
theorem e_find_all {l ps : List Int} (v : Dm.Valid l) (vp : Dm.Valid ps) (hl : l.length ≤ 400) (h : ps.length ≤ l.length) :
    m_find_all [.fz (.lst (l.map .int)), .fz (.lst (ps.map .int))] = some (.fz (.lst ((((List.range (l.length - ps.length + 1)).filter fun s => occGo l s 0 ps).map fun (s : Nat) => (s : Int)).map .int)), [.fz (.lst (l.map .int)), .fz (.lst (ps.map .int))]) := by
  have c1 := e_checked_s v hl
  have c2 := e_checked_s vp (by omega)
  have hn : ((l.length : Int) - ps.length + 1).toNat = l.length - ps.length + 1 := by omega
  have hc := lc_rel (all_rg (l.length - ps.length + 1)) (vs := [4]) (g := gN 4) (t := T_find_all_1) (f := E_find_all_1)
    (e := [.fz (.lst (l.map .int)), .fz (.lst (ps.map .int)), .fz (.lst (l.map .int)), .fz (.lst (ps.map .int)), .no]) (fun s => occGo l s 0 ps) (fun (s : Nat) => (s : Int)) D.int (by simp; omega) (by
      rintro s d hs rfl
      have hs := List.mem_range.mp hs
      refine ⟨_, [.fz (.lst (l.map .int)), .fz (.lst (ps.map .int)), .fz (.lst (l.map .int)), .fz (.lst (ps.map .int)), .fz (.int s)], e_gN 4 _, ?_, fun _ => ⟨[.fz (.lst (l.map .int)), .fz (.lst (ps.map .int)), .fz (.lst (l.map .int)), .fz (.lst (ps.map .int)), .fz (.int s)], ?_, ?_⟩, fun _ => ?_⟩
      · simp [T_find_all_1, e_occurs (l := l) (ps := ps) (s := s) (by omega)]
      · simp [E_find_all_1]
      · simp
      · simp)
  generalize hX : List.map (fun (s : Nat) => (s : Int)) ((List.range (l.length - ps.length + 1)).filter fun s => occGo l s 0 ps) = XX at hc ⊢
  simp [m_find_all, e_runD, b_find_all, N_find_all, c1, c2, hn, show (l.length : Int) - ps.length + 1 ≤ 1000000000 by omega, show -1000000000 ≤ (l.length : Int) - ps.length + 1 by omega, hc]
/-! ### the number of mappings -/
def cmF (a b : Int) : Nat → Int × Int
  | 0 => (0, 1)
  | k + 1 => ((cmF a b k).1 + (cmF a b k).2, (cmF a b k).2 * (a - k) * (b - k) / (k + 1))
theorem e_law_mapping_count {a b : Nat} (ha : a ≤ 1000) (hb : b ≤ 1000) : m_law_mapping_count [.fz (.int a), .fz (.int b)] = some (.fz (.int (cmF a b (min a b + 1)).1), [.fz (.int a), .fz (.int b)]) := by
  obtain ⟨e', h1, p, rfl⟩ := loopF_inv (g := gN 4) (b := L_law_mapping_count_1) (ds := rgD 0 (min a b + 1))
    (fun i e => ∃ p : Sl, e = [.fz (.int a), .fz (.int b), .fz (.int (cmF a b i).1), .fz (.int (cmF a b i).2), p]) (e0 := [.fz (.int a), .fz (.int b), .fz (.int 0), .fz (.int 1), .no]) ⟨_, rfl⟩ (fun i d e hd hi => by
      obtain ⟨p, rfl⟩ := hi
      obtain ⟨rfl, hi⟩ := rg_get hd
      refine ⟨_, [.fz (.int a), .fz (.int b), .fz (.int (cmF a b (i + 1)).1), .fz (.int (cmF a b (i + 1)).2), .fz (.int i)], e_gN 4 _, ?_, _, rfl⟩
      have m1 : CMulW (cmF a b i).2 ((a : Int) - i) ∨ CMul (cmF a b i).2 ((a : Int) - i) := cmul_r (by omega) (by omega)
      have m2 : CMulW ((cmF a b i).2 * ((a : Int) - i)) ((b : Int) - i) ∨ CMul ((cmF a b i).2 * ((a : Int) - i)) ((b : Int) - i) := cmul_r (by omega) (by omega)
      have d1 : ∀ z : Int, CDivW z ((i : Int) + 1) := fun z => cdiv_ok (by omega) (by
        have : (i : Int) + 1 < 2 ^ 20 := by omega
        exact Int.lt_of_lt_of_le this (by decide))
      simp [L_law_mapping_count_1, m1, m2, d1, cmF])
  have hm : (if b < a then (b : Int) else a) = ((min a b : Nat) : Int) := by split <;> omega
  have hm2 : (((min a b : Nat) : Int) + 1).toNat = min a b + 1 := by omega
  have hm3 : ((min a b : Nat) : Int) + 1 ≤ 1000000000 := by omega
  have hm4 : -1000000000 ≤ ((min a b : Nat) : Int) + 1 := by omega
  rw [rg_len] at h1
  generalize cmF (a : Int) b = CM at h1 ⊢
  simp [m_law_mapping_count, e_runD, b_law_mapping_count, N_law_mapping_count, hm]
  generalize min a b = mm at *
  simp [hm2, hm3, hm4, h1]
theorem e_count_mappings {l r : List Int} (v : Dm.Valid l) (vr : Dm.Valid r) (hl : l.length ≤ 400) (hr : r.length ≤ 400) :
    m_count_mappings [.fz (.lst (l.map .int)), .fz (.lst (r.map .int))] = some (.fz (.int (cmF (l.count 0 : Nat) (r.count 0 : Nat) (min (l.count 0) (r.count 0) + 1)).1), [.fz (.lst (l.map .int)), .fz (.lst (r.map .int))]) := by
  have ha : l.count 0 ≤ 400 := Nat.le_trans List.count_le_length hl
  have hb : r.count 0 ≤ 400 := Nat.le_trans List.count_le_length hr
  have c1 := e_checked v hl
  have c2 := e_checked vr hr
  have c3 := e_symbol_count (ds := l) (by omega)
  have c4 := e_symbol_count (ds := r) (by omega)
  generalize l.count 0 = a at *
  generalize r.count 0 = b at *
  obtain ⟨e', h1, p, rfl⟩ := loopF_inv (g := gN 6) (b := L_count_mappings_1) (ds := rgD 0 (min a b + 1))
    (fun i e => ∃ p : Sl, e = [.fz (.lst (l.map .int)), .fz (.lst (r.map .int)), .fz (.int a), .fz (.int b), .fz (.int (cmF a b i).1), .fz (.int (cmF a b i).2), p]) (e0 := [.fz (.lst (l.map .int)), .fz (.lst (r.map .int)), .fz (.int a), .fz (.int b), .fz (.int 0), .fz (.int 1), .no]) ⟨_, rfl⟩ (fun i d e hd hi => by
      obtain ⟨p, rfl⟩ := hi
      obtain ⟨rfl, hi⟩ := rg_get hd
      refine ⟨_, [.fz (.lst (l.map .int)), .fz (.lst (r.map .int)), .fz (.int a), .fz (.int b), .fz (.int (cmF a b (i + 1)).1), .fz (.int (cmF a b (i + 1)).2), .fz (.int i)], e_gN 6 _, ?_, _, rfl⟩
      have m1 : CMulW (cmF a b i).2 ((a : Int) - i) ∨ CMul (cmF a b i).2 ((a : Int) - i) := cmul_r (by omega) (by omega)
      have m2 : CMulW ((cmF a b i).2 * ((a : Int) - i)) ((b : Int) - i) ∨ CMul ((cmF a b i).2 * ((a : Int) - i)) ((b : Int) - i) := cmul_r (by omega) (by omega)
      have d1 : ∀ z : Int, CDivW z ((i : Int) + 1) := fun z => cdiv_ok (by omega) (by
        have : (i : Int) + 1 < 2 ^ 20 := by omega
        exact Int.lt_of_lt_of_le this (by decide))
      simp [L_count_mappings_1, m1, m2, d1, cmF])
  have hm : (if b < a then (b : Int) else a) = ((min a b : Nat) : Int) := by split <;> omega
  have hm2 : (((min a b : Nat) : Int) + 1).toNat = min a b + 1 := by omega
  have hm3 : ((min a b : Nat) : Int) + 1 ≤ 1000000000 := by omega
  have hm4 : -1000000000 ≤ ((min a b : Nat) : Int) + 1 := by omega
  rw [rg_len] at h1
  generalize cmF (a : Int) b = CM at h1 ⊢
  simp [m_count_mappings, e_runD, b_count_mappings, N_count_mappings, hm, c1, c2, c3, c4]
  generalize min a b = mm at *
  simp [hm2, hm3, hm4, h1]
end K64

end

section
set_option Elab.async false
set_option linter.all false
set_option maxRecDepth 100000
set_option maxHeartbeats 2000000
namespace Dm
theorem cat_pat {is A B : List Int} {p : Nat} {c : Int} (hp : p ≤ is.length) (PA : Pat A (is.take p)) (PB : Pat B (is.drop p)) (bA : ∀ x ∈ A, x < c) (bB : ∀ x ∈ B, 0 ≤ x) (g : Int → Int)
    (h1 : ∀ (t j : Nat) (b sid : Int), B[t]? = some b → (is.drop p)[t]? = some sid → j < p → is[j]? = some sid → A[j]? = some (g b))
    (h2 : ∀ (t : Nat) (b sid : Int), B[t]? = some b → (is.drop p)[t]? = some sid → (∀ j, j < p → is[j]? ≠ some sid) → g b = c + b) : Pat (A ++ B.map g) is := by
  have lA : A.length = p := by rw [PA.1]; simp; omega
  have lB : B.length = is.length - p := by rw [PB.1]; simp
  have hl : (A ++ B.map g).length = is.length := by simp; omega
  have lo : ∀ x, x < p → (A ++ B.map g)[x]? = A[x]? := fun x hx => List.getElem?_append_left (by omega)
  have hi : ∀ y, p ≤ y → (A ++ B.map g)[y]? = (B[y - p]?).map g := fun y hy => by rw [List.getElem?_append_right (by omega), lA, List.getElem?_map]
  have tk : ∀ x, x < p → (is.take p)[x]? = is[x]? := fun x hx => by rw [List.getElem?_take, if_pos hx]
  have dr : ∀ y, p ≤ y → (is.drop p)[y - p]? = is[y]? := fun y hy => by rw [List.getElem?_drop]; congr 1; omega
  -- what stands behind the cut
  have beh : ∀ y, p ≤ y → y < is.length → ∃ b sid, B[y - p]? = some b ∧ is[y]? = some sid ∧ (is.drop p)[y - p]? = some sid ∧ (A ++ B.map g)[y]? = some (g b) ∧ 0 ≤ b := fun y h1 h2 => by
    have hb : y - p < B.length := by omega
    refine ⟨B[y - p], is[y], List.getElem?_eq_getElem hb, List.getElem?_eq_getElem h2, by rw [dr y h1]; exact List.getElem?_eq_getElem h2, ?_, bB _ (List.getElem_mem hb)⟩
    rw [hi y h1, List.getElem?_eq_getElem hb]; rfl
  have key : ∀ x y, x < y → y < is.length → ((A ++ B.map g)[x]? = (A ++ B.map g)[y]? ↔ is[x]? = is[y]?) := by
    intro x y hxy hy
    by_cases hyp : y < p
    · rw [lo x (by omega), lo y hyp, ← tk x (by omega), ← tk y hyp]
      exact PA.2 x y (by omega) (by omega)
    · obtain ⟨b, sid, q1, q2, q3, q4, q5⟩ := beh y (by omega) hy
      by_cases hxp : x < p
      · rw [lo x hxp, q4, q2]
        by_cases ho : ∃ j, j < p ∧ is[j]? = some sid
        · obtain ⟨j, j1, j2⟩ := ho
          have a1 := h1 _ j b sid q1 q3 j1 j2
          rw [← a1, PA.2 x j (by omega) (by omega), tk x hxp, tk j j1, j2]
        · have e := h2 _ b sid q1 q3 (fun j hj hz => ho ⟨j, hj, hz⟩)
          refine ⟨fun z => ?_, fun z => absurd ⟨x, hxp, z⟩ ho⟩
          have hm := bA _ (List.mem_of_getElem? z)
          omega
      · obtain ⟨b', sid', r1, r2, r3, r4, r5⟩ := beh x (by omega) (by omega)
        rw [r4, q4, r2, q2]
        have hB : (B[x - p]? = B[y - p]? ↔ (is.drop p)[x - p]? = (is.drop p)[y - p]?) := PB.2 _ _ (by omega) (by omega)
        rw [r1, q1, r3, q3] at hB
        by_cases ho : ∃ j, j < p ∧ is[j]? = some sid <;> by_cases ho' : ∃ j, j < p ∧ is[j]? = some sid'
        · obtain ⟨j, j1, j2⟩ := ho
          obtain ⟨j', k1, k2⟩ := ho'
          have a1 := h1 _ j b sid q1 q3 j1 j2
          have a2 := h1 _ j' b' sid' r1 r3 k1 k2
          rw [← a1, ← a2, PA.2 j' j (by omega) (by omega), tk j' k1, tk j j1, j2, k2]
        · obtain ⟨j, j1, j2⟩ := ho
          have a1 := h1 _ j b sid q1 q3 j1 j2
          have e := h2 _ b' sid' r1 r3 (fun j hj hz => ho' ⟨j, hj, hz⟩)
          have hm := bA _ (List.mem_of_getElem? a1)
          refine ⟨fun z => ?_, fun z => ?_⟩
          · have := Option.some.inj z; omega
          · exact absurd ⟨j, j1, by rw [j2, ← z]⟩ ho'
        · obtain ⟨j', k1, k2⟩ := ho'
          have a2 := h1 _ j' b' sid' r1 r3 k1 k2
          have e := h2 _ b sid q1 q3 (fun j hj hz => ho ⟨j, hj, hz⟩)
          have hm := bA _ (List.mem_of_getElem? a2)
          refine ⟨fun z => ?_, fun z => ?_⟩
          · have := Option.some.inj z; omega
          · exact absurd ⟨j', k1, by rw [k2, ← z]⟩ ho
        · have e := h2 _ b sid q1 q3 (fun j hj hz => ho ⟨j, hj, hz⟩)
          have e' := h2 _ b' sid' r1 r3 (fun j hj hz => ho' ⟨j, hj, hz⟩)
          rw [← hB, e, e']
          constructor
          · intro z; have := Option.some.inj z; congr 1; omega
          · intro z; have := Option.some.inj z; congr 1; omega
  refine ⟨hl, fun x y hx hy => ?_⟩
  rw [hl] at hx hy
  rcases Nat.lt_trichotomy x y with h | h | h
  · exact key x y h hy
  · subst h; exact ⟨fun _ => rfl, fun _ => rfl⟩
  · exact ⟨fun z => ((key y x h hx).mp z.symm).symm, fun z => ((key y x h hx).mpr z.symm).symm⟩
end Dm
namespace K64
open PySem PySem.Spec PyProof.Rows L2 Vd Vd0 Dm
theorem ks_any {n : Int} : ∀ {kvs : List (Key × D)} {ks : List Int}, intKs kvs = some ks → (kvs.any fun kv => decide (kv.1 = .inl n)) = decide (n ∈ ks)
  | [], ks, h => by cases h; rfl
  | (.inl i, d) :: kvs, ks, h => by
    obtain ⟨r, h1, h2⟩ := Option.map_eq_some_iff.mp (show (intKs kvs).map (fun r => i :: r) = some ks from h)
    subst h2
    rw [List.any_cons, ks_any h1]
    by_cases e : i = n
    · subst e; simp
    · have ne : ¬ (Sum.inl i : Key) = .inl n := fun z => e (by cases z; rfl)
      have ne2 : ¬ n = i := fun z => e z.symm
      simp [ne, ne2]
  | (.inr z, d) :: kvs, ks, h => by cases h
theorem ks_map {k : Key} {v : D} : ∀ (kvs : List (Key × D)), intKs (kvs.map fun kv => if kv.1 = k then (kv.1, v) else kv) = intKs kvs
  | [] => rfl
  | (.inl i, d) :: kvs => by
    rw [List.map_cons]
    by_cases e : (Sum.inl i : Key) = k
    · rw [if_pos e]
      show (intKs _).map _ = (intKs kvs).map _
      rw [ks_map kvs]
    · rw [if_neg e]
      show (intKs _).map _ = (intKs kvs).map _
      rw [ks_map kvs]
  | (.inr z, d) :: kvs => by
    rw [List.map_cons]
    by_cases e : (Sum.inr z : Key) = k
    · rw [if_pos e]; rfl
    · rw [if_neg e]; rfl
theorem ks_app {n : Int} {v : D} : ∀ {kvs : List (Key × D)} {ks : List Int}, intKs kvs = some ks → intKs (kvs ++ [(.inl n, v)]) = some (ks ++ [n])
  | [], ks, h => by cases h; rfl
  | (.inl i, d) :: kvs, ks, h => by
    obtain ⟨r, h1, h2⟩ := Option.map_eq_some_iff.mp (show (intKs kvs).map (fun r => i :: r) = some ks from h)
    subst h2
    show (intKs (kvs ++ [(.inl n, v)])).map (fun r => i :: r) = _
    rw [ks_app h1]; rfl
  | (.inr z, d) :: kvs, ks, h => by cases h
theorem ks_put {n : Int} {v : D} {kvs : List (Key × D)} {ks : List Int} (h : intKs kvs = some ks) : intKs (putD kvs (.inl n) v) = some (if n ∈ ks then ks else ks ++ [n]) := by
  unfold putD
  rw [ks_any h]
  by_cases e : n ∈ ks
  · rw [if_pos (by simpa using e), if_pos e, ks_map, h]
  · rw [if_neg (by simpa using e), if_neg e, ks_app h]
theorem ks_len : ∀ {kvs : List (Key × D)} {ks : List Int}, intKs kvs = some ks → kvs.length = ks.length
  | [], ks, h => by cases h; rfl
  | (.inl i, d) :: kvs, ks, h => by
    obtain ⟨r, h1, h2⟩ := Option.map_eq_some_iff.mp (show (intKs kvs).map (fun r => i :: r) = some ks from h)
    subst h2
    simp [ks_len h1]
  | (.inr z, d) :: kvs, ks, h => by cases h
theorem ks_mem {n : Int} {kvs : List (Key × D)} {ks : List Int} (h : intKs kvs = some ks) : n ∈ ks ↔ ∃ v, valD kvs (.inl n) = some v := by
  have := ks_any (n := n) h
  unfold valD
  constructor
  · intro hm
    rw [decide_eq_true hm] at this
    obtain ⟨q, q1, q2⟩ := List.any_eq_true.mp this
    cases hf : kvs.find? fun kv => decide (kv.1 = .inl n) with
    | none => exact absurd q2 (by simpa using List.find?_eq_none.mp hf q q1)
    | some r => exact ⟨r.2, rfl⟩
  · rintro ⟨v, hv⟩
    obtain ⟨r, r1, r2⟩ := Option.map_eq_some_iff.mp hv
    have h1 := List.find?_some r1
    have h2 := List.mem_of_find?_eq_some r1
    have : (kvs.any fun kv => decide (kv.1 = .inl n)) = true := List.any_eq_true.mpr ⟨r, h2, h1⟩
    rw [ks_any h] at this
    simpa using this
theorem strict_of {l : List Int} (h : l.Pairwise (· ≤ ·)) (n : l.Nodup) : l.Pairwise (· < ·) := by
  induction l with
  | nil => exact .nil
  | cons a l ih =>
    obtain ⟨h1, h2⟩ := List.pairwise_cons.mp h
    obtain ⟨n1, n2⟩ := List.nodup_cons.mp n
    exact List.pairwise_cons.mpr ⟨fun b hb => by
      have := h1 b hb
      have : a ≠ b := fun e => n1 (e ▸ hb)
      omega, ih h2 n2⟩
end K64

end

section
set_option Elab.async false
set_option linter.all false
set_option maxRecDepth 100000
set_option maxHeartbeats 2000000
namespace K64
open PySem PySem.Spec PyProof.Rows L2 Vd Vd0 Dm
/-- b is mapped to a: seen in the first i places behind the cut -/
def Lk (is A B : List Int) (p i : Nat) (b a : Int) : Prop := ∃ (t j : Nat) (sid : Int), t < i ∧ B[t]? = some b ∧ (is.drop p)[t]? = some sid ∧ j < p ∧ is[j]? = some sid ∧ A[j]? = some a
theorem Lk.uniq {is A B : List Int} {p i : Nat} (hp : p ≤ is.length) (PA : Pat A (is.take p)) (PB : Pat B (is.drop p)) {b b' a a' : Int} (h : Lk is A B p i b a) (h' : Lk is A B p i b' a') : b = b' ↔ a = a' := by
  obtain ⟨t, j, s, t1, t2, t3, t4, t5, t6⟩ := h
  obtain ⟨u, k, r, u1, u2, u3, u4, u5, u6⟩ := h'
  have lA : A.length = p := by rw [PA.1]; simp; omega
  have hB := PB.2 t u (List.getElem?_eq_some_iff.mp t2).1 (List.getElem?_eq_some_iff.mp u2).1
  have hA := PA.2 j k (by omega) (by omega)
  rw [t2, u2, t3, u3] at hB
  rw [t6, u6, List.getElem?_take, List.getElem?_take, if_pos t4, if_pos u4, t5, u5] at hA
  constructor
  · intro e
    exact Option.some.inj (hA.mpr (hB.mp (by rw [e])))
  · intro e
    exact Option.some.inj (hB.mpr (hA.mp (by rw [e])))
def valI (kvs : List (Key × D)) (k : Int) : Int := match valD kvs (.inl k) with
  | some (.int a) => a
  | _ => 0
theorem e_own {l : List Int} (v : Dm.Valid l) (hl : l.length ≤ 60) {p : Nat} (hp : p ≤ l.length) : ∃ ps : List (Int × Int), m_law_own_mapping [.fz (.lst (l.map .int)), .fz (.int p)] = some (.fz (.lst (ps.map pr)), [.fz (.lst (l.map .int)), .fz (.int p)]) ∧
    ps.Pairwise (fun q r => q.1 < r.1) ∧ ps.length ≤ 60 ∧ ∀ b a, (b, a) ∈ ps ↔ Lk (idsF l) (idsF (dbF ((idsF l).take p))) (idsF (dbF ((idsF l).drop p))) p (l.length - p) b a := by
  have hil := idsF_len v
  have c1 := e_law_ids v (by omega)
  have PA := ids_pat ((idsF l).take p)
  have PB := ids_pat ((idsF l).drop p)
  have c2 := e_law_distances (s := (idsF l).take p) (by simp; omega)
  have c3 := e_law_distances (s := (idsF l).drop p) (by simp; omega)
  have c4 := e_law_ids (dbF_valid ((idsF l).take p)) (by rw [dbF_len]; simp; omega)
  have c5 := e_law_ids (dbF_valid ((idsF l).drop p)) (by rw [dbF_len]; simp; omega)
  have cu1 := cutm_to (idsF l) p
  have cu2 := cutm_from (idsF l) p
  generalize idsF (dbF ((idsF l).take p)) = A at *
  generalize idsF (dbF ((idsF l).drop p)) = B at *
  generalize dbF ((idsF l).take p) = DA at *
  generalize dbF ((idsF l).drop p) = DB at *
  generalize idsF l = is at *
  have lA : A.length = p := by rw [PA.1]; simp; omega
  have lB : B.length = l.length - p := by rw [PB.1]; simp [hil]
  have ti : toInts (List.take p (List.map D.int is)) = some (is.take p) := by rw [← List.map_take]; exact toInts_map _
  obtain ⟨e', h1, kvs, q, r, rfl, ks, hks, hnd, hkl, hv⟩ := loopF_inv (g := gT 2 (gsCons (gN 6) (gsCons (gN 7) gsNil))) (b := L_law_own_mapping_1) (ds := enumD 0 ((is.drop p).map .int))
    (fun i e => ∃ (kvs : List (Key × D)) (q r : Sl), e = [.fz (.lst (l.map .int)), .fz (.int p), .fz (.lst (is.map .int)), .fz (.lst (A.map .int)), .fz (.lst (B.map .int)), .ow (.dic kvs), q, r] ∧
      ∃ ks, intKs kvs = some ks ∧ ks.Nodup ∧ ks.length ≤ i ∧ ∀ (b : Int) (x : D), valD kvs (.inl b) = some x ↔ ∃ a, x = .int a ∧ Lk is A B p i b a)
    (e0 := [.fz (.lst (l.map .int)), .fz (.int p), .fz (.lst (is.map .int)), .fz (.lst (A.map .int)), .fz (.lst (B.map .int)), .ow (.dic []), .no, .no])
    ⟨[], _, _, rfl, [], rfl, .nil, Nat.le_refl _, fun b x => ⟨fun h => by simp [valD] at h, fun ⟨a, _, t, _, _, h, _⟩ => by omega⟩⟩ (fun i d e hd hi => by
      obtain ⟨kvs, q, r, rfl, ks, hks, hnd, hkl, hv⟩ := hi
      obtain ⟨sid, hs, rfl⟩ := enum_ints hd
      have hil2 : i < l.length - p := by
        have := (List.getElem?_eq_some_iff.mp hs).1
        simp at this; omega
      have hBi : B[i]? = some B[i] := List.getElem?_eq_getElem (by omega)
      generalize B[i] = b0 at hBi
      have hs' : is[p + i]? = some sid := by rw [List.getElem?_drop] at hs; exact hs
      by_cases hm : sid ∈ is.take p
      · have hmi : sid ∈ is := List.mem_of_mem_take hm
        have hj : is.idxOf sid < p := by
          obtain ⟨k, k1, k2⟩ := mem_take hm
          rcases Nat.lt_or_ge (is.idxOf sid) p with z | z
          · exact z
          · have hk : k < is.idxOf sid := by omega
            have := lt_idx_ne hk (List.getElem?_eq_some_iff.mp k2).1
            rw [List.getElem?_eq_some_iff] at k2
            exact absurd k2.2 this
        have hji : is[is.idxOf sid]? = some sid := by
          rw [List.getElem?_eq_getElem (List.idxOf_lt_length_iff.mpr hmi), List.getElem_idxOf]
        generalize hix : is.idxOf sid = j at hj hji
        have hAj : A[j]? = some A[j] := List.getElem?_eq_getElem (by omega)
        generalize A[j] = a0 at hAj
        have lk0 : Lk is A B p (i + 1) b0 a0 := ⟨i, j, sid, by omega, hBi, hs, hj, hji, hAj⟩
        have ab : atI (B.map D.int) (i : Int) = some (.int b0) := by
          rw [atI_map, atI_nat (by omega) (by omega), Int.toNat_natCast, hBi]; rfl
        have aa : atI (A.map D.int) (j : Int) = some (.int a0) := by
          rw [atI_map, atI_nat (by omega) (by omega), Int.toNat_natCast, hAj]; rfl
        refine ⟨[.fz (.lst (l.map .int)), .fz (.int p), .fz (.lst (is.map .int)), .fz (.lst (A.map .int)), .fz (.lst (B.map .int)), .ow (.dic kvs), .fz (.int i), .fz (.int sid)],
          [.fz (.lst (l.map .int)), .fz (.int p), .fz (.lst (is.map .int)), .fz (.lst (A.map .int)), .fz (.lst (B.map .int)), .ow (.dic (putD kvs (.inl b0) (.int a0))), .fz (.int i), .fz (.int sid)], by simp, ?_, _, _, _, rfl, _, ks_put hks, ?_, ?_, fun b x => ?_⟩
        · simp [L_law_own_mapping_1, I_law_own_mapping_1, cu1, ti, hm, hmi, hix, ab, aa, show kvs.length < 100000 by rw [ks_len hks]; omega]
        · split
          · exact hnd
          · rename_i hb
            exact List.nodup_append.mpr ⟨hnd, by simp, fun a ha b hb' e => by
              have : b = b0 := by simpa using hb'
              exact hb (by rw [← this, ← e]; exact ha)⟩
        · split
          · omega
          · simp; omega
        · rw [valD_put]
          by_cases e : b = b0
          · subst e
            rw [if_pos rfl]
            constructor
            · intro z; cases z; exact ⟨a0, rfl, lk0⟩
            · rintro ⟨a, rfl, hq⟩
              rw [(hq.uniq (by omega) PA PB lk0).mp rfl]
          · have ne : ¬ (Sum.inl b : Key) = .inl b0 := fun h => e (by cases h; rfl)
            rw [if_neg ne, hv]
            constructor
            · rintro ⟨a, ha, t, j', s', t1, t2⟩
              exact ⟨a, ha, t, j', s', by omega, t2⟩
            · rintro ⟨a, ha, t, j', s', t1, t2, t3⟩
              refine ⟨a, ha, t, j', s', ?_, t2, t3⟩
              rcases Nat.lt_or_ge t i with z | z
              · exact z
              · have : t = i := by omega
                subst this
                rw [hBi] at t2
                exact absurd (Option.some.inj t2).symm e
      · refine ⟨[.fz (.lst (l.map .int)), .fz (.int p), .fz (.lst (is.map .int)), .fz (.lst (A.map .int)), .fz (.lst (B.map .int)), .ow (.dic kvs), .fz (.int i), .fz (.int sid)],
          [.fz (.lst (l.map .int)), .fz (.int p), .fz (.lst (is.map .int)), .fz (.lst (A.map .int)), .fz (.lst (B.map .int)), .ow (.dic kvs), .fz (.int i), .fz (.int sid)], by simp, ?_, _, _, _, rfl, ks, hks, hnd, by omega, fun b x => ?_⟩
        · simp [L_law_own_mapping_1, I_law_own_mapping_1, cu1, ti, hm]
        · rw [hv]
          constructor
          · rintro ⟨a, ha, t, j', s', t1, t2⟩
            exact ⟨a, ha, t, j', s', by omega, t2⟩
          · rintro ⟨a, ha, t, j', s', t1, t2, t3, t4, t5, t6⟩
            refine ⟨a, ha, t, j', s', ?_, t2, t3, t4, t5, t6⟩
            rcases Nat.lt_or_ge t i with z | z
            · exact z
            · have : t = i := by omega
              subst this
              rw [hs] at t3
              have : sid = s' := Option.some.inj t3
              subst this
              exact absurd (List.mem_of_getElem? (by rw [take_at t4]; exact t5)) hm)
  rw [enumD_len, List.length_map, List.length_drop, hil] at hkl hv
  have hvi : ∀ k ∈ ks, valD kvs (.inl k) = some (.int (valI kvs k)) := fun k hk => by
    obtain ⟨x, hx⟩ := (ks_mem hks).mp hk
    obtain ⟨a, rfl, _⟩ := (hv k x).mp hx
    unfold valI
    rw [hx]
  have hc := lc_rel (all_ints (sortI ks)) (vs := [7]) (g := gN 7) (t := T_law_own_mapping_1) (f := E_law_own_mapping_1)
    (e := [.fz (.lst (l.map .int)), .fz (.int p), .fz (.lst (is.map .int)), .fz (.lst (A.map .int)), .fz (.lst (B.map .int)), .ow (.dic kvs), q, r]) (fun _ => true) (fun k => (k, valI kvs k)) pr (by rw [(sortI_perm ks).length_eq]; omega) (by
      rintro k d hk rfl
      have hk' : k ∈ ks := (sortI_perm ks).mem_iff.mp hk
      refine ⟨_, [.fz (.lst (l.map .int)), .fz (.int p), .fz (.lst (is.map .int)), .fz (.lst (A.map .int)), .fz (.lst (B.map .int)), .ow (.dic kvs), q, .fz (.int k)], e_gN 7 _, ?_, fun _ => ⟨[.fz (.lst (l.map .int)), .fz (.int p), .fz (.lst (is.map .int)), .fz (.lst (A.map .int)), .fz (.lst (B.map .int)), .ow (.dic kvs), q, .fz (.int k)], ?_, ?_⟩, fun z => (by cases z)⟩
      · simp [T_law_own_mapping_1, fYes]
      · simp [E_law_own_mapping_1, hvi k hk', pr]
      · simp)
  rw [filter_t] at hc
  refine ⟨(sortI ks).map fun k => (k, valI kvs k), ?_, ?_, ?_, fun b a => ?_⟩
  · generalize List.map pr (List.map (fun k => (k, valI kvs k)) (sortI ks)) = PS at hc ⊢
    rw [List.map_drop] at h1
    simp [m_law_own_mapping, e_runD, b_law_own_mapping, N_law_own_mapping, c1, cu1, cu2]
    rw [List.map_take] at c2
    rw [List.map_drop] at c3
    simp [c2, c3, c4, c5, cu2, h1, hks, show ks.length < 64 by omega, hc]
  · rw [List.pairwise_map]
    exact strict_of (sortI_sorted ks) ((sortI_perm ks).nodup_iff.mpr hnd)
  · rw [List.length_map, (sortI_perm ks).length_eq]; omega
  · constructor
    · intro hm
      obtain ⟨k, hk, e⟩ := List.mem_map.mp hm
      cases e
      obtain ⟨a', e1, e2⟩ := (hv b _).mp (hvi b ((sortI_perm ks).mem_iff.mp hk))
      cases e1
      exact e2
    · intro hq
      have hx := (hv b (.int a)).mpr ⟨a, rfl, hq⟩
      have hk : b ∈ ks := (ks_mem hks).mpr ⟨_, hx⟩
      have := hvi b hk
      rw [hx] at this
      have e : a = valI kvs b := by cases this; rfl
      exact List.mem_map.mpr ⟨b, (sortI_perm ks).mem_iff.mpr hk, by rw [e]⟩
end K64

end

section
set_option Elab.async false
set_option linter.all false
set_option maxRecDepth 100000
set_option maxHeartbeats 2000000
namespace K64
open PySem PySem.Spec PyProof.Rows L2 Vd Vd0 Dm
def gF (kvs : List (Key × D)) (c b : Int) : Int := match valD kvs (.inl b) with
  | some (.int a) => a
  | _ => c + b
theorem all_dsp (ps : List (Int × Int)) : DsL DsP ps (.lst (ps.map pr)) := ⟨_, .inl rfl, (All2.map pr ps).imp fun a b h => .inr h⟩
theorem e_concat {l : List Int} (v : Dm.Valid l) (hl : l.length ≤ 60) {p : Nat} (hp : p ≤ l.length) {ps : List (Int × Int)} (inc : ps.Pairwise fun q r => q.1 < r.1) (hpl : ps.length ≤ 60)
    (hlk : ∀ b a, (b, a) ∈ ps ↔ Lk (idsF l) (idsF (dbF ((idsF l).take p))) (idsF (dbF ((idsF l).drop p))) p (l.length - p) b a) :
    m_concatenate [.fz (.lst ((dbF ((idsF l).take p)).map .int)), .fz (.lst ((dbF ((idsF l).drop p)).map .int)), .fz (.lst (ps.map pr))] = some (.fz (.lst (l.map .int)), [.fz (.lst ((dbF ((idsF l).take p)).map .int)), .fz (.lst ((dbF ((idsF l).drop p)).map .int)), .fz (.lst (ps.map pr))]) := by
  have hil := idsF_len v
  have PA := ids_pat ((idsF l).take p)
  have PB := ids_pat ((idsF l).drop p)
  have hdl := dbF_ids v
  have okA := idsF_ok (dbF_valid ((idsF l).take p))
  have okB := idsF_ok (dbF_valid ((idsF l).drop p))
  have vA := dbF_valid ((idsF l).take p)
  have vB := dbF_valid ((idsF l).drop p)
  have lA : (dbF ((idsF l).take p)).length = p := by rw [dbF_len]; simp; omega
  have lB : (dbF ((idsF l).drop p)).length = l.length - p := by rw [dbF_len]; simp [hil]
  have c1 := e_checked vA (by omega)
  have c2 := e_checked vB (by omega)
  have c3 := e_symbol_count (ds := dbF ((idsF l).take p)) (by omega)
  have c4 := e_symbol_count (ds := dbF ((idsF l).drop p)) (by omega)
  have c5 := e_ids_of' vA (by omega)
  have c6 := e_ids_of' vB (by omega)
  generalize hA : idsF (dbF ((idsF l).take p)) = A at *
  generalize hB : idsF (dbF ((idsF l).drop p)) = B at *
  generalize dbF ((idsF l).take p) = DA at *
  generalize dbF ((idsF l).drop p) = DB at *
  generalize idsF l = is at *
  have lA2 : A.length = p := by rw [PA.1]; simp; omega
  have lB2 : B.length = l.length - p := by rw [PB.1]; simp [hil]
  have ok : OkMap (DB.count 0 : Nat) (DA.count 0 : Nat) ps := by
    refine ⟨inc, fun q hq => ?_, ?_⟩
    · obtain ⟨t, j, sid, t1, t2, t3, t4, t5, t6⟩ := (hlk q.1 q.2).mp hq
      have b1 := okB.bd _ (List.mem_of_getElem? t2)
      have b2 := okA.bd _ (List.mem_of_getElem? t6)
      exact ⟨b1.1, b1.2, b2.1, b2.2⟩
    · rw [List.nodup_iff_pairwise_ne, List.pairwise_map]
      refine List.Pairwise.imp_of_mem (fun {q r} hq hr hlt e => ?_) inc
      have := (((hlk q.1 q.2).mp hq).uniq (by omega) PA PB ((hlk r.1 r.2).mp hr)).mpr e
      omega
  have c7 := e_is_mapping (all_dsp ps) ok (by omega)
  have hdc := dc_rel (R := fun (q : Int × Int) (d : D) => d = pr q) (vs := [7]) (g := gN 7) (t := T_concatenate_1) (fk := Y_concatenate_1) (fv := E_concatenate_1)
    (e := [.fz (.lst (DA.map .int)), .fz (.lst (DB.map .int)), .fz (.lst (ps.map pr)), .fz (.lst (DA.map .int)), .fz (.lst (DB.map .int)), .fz (.int (DA.count 0 : Nat)), .no, .no, .no]) (fun q => q) (xs := ps) (ds := ps.map pr) (acc := []) (All2.map pr ps) (by simp; omega) (by
      rintro q d hq rfl
      exact ⟨_, [.fz (.lst (DA.map .int)), .fz (.lst (DB.map .int)), .fz (.lst (ps.map pr)), .fz (.lst (DA.map .int)), .fz (.lst (DB.map .int)), .fz (.int (DA.count 0 : Nat)), .no, .fz (pr q), .no], [.fz (.lst (DA.map .int)), .fz (.lst (DB.map .int)), .fz (.lst (ps.map pr)), .fz (.lst (DA.map .int)), .fz (.lst (DB.map .int)), .fz (.int (DA.count 0 : Nat)), .no, .fz (pr q), .no], [.fz (.lst (DA.map .int)), .fz (.lst (DB.map .int)), .fz (.lst (ps.map pr)), .fz (.lst (DA.map .int)), .fz (.lst (DB.map .int)), .fz (.int (DA.count 0 : Nat)), .no, .fz (pr q), .no],
        e_gN 7 _, by simp [T_concatenate_1, fYes], by simp [Y_concatenate_1, pr], by simp [E_concatenate_1, pr], by simp⟩)
  have hmi : ps.map (fun q => q) = ps := by simp
  rw [hmi] at hdc
  have kv : ∀ b a, (b, a) ∈ ps → valD (dicGo [] ps) (.inl b) = some (.int a) := fun b a hm => by
    have h1 := dic_has ps [] b (.inr ⟨a, hm⟩)
    obtain ⟨x, hx⟩ := Option.isSome_iff_exists.mp h1
    rcases dic_get ps [] b x hx with ⟨t, rfl, ht⟩ | h
    · rw [hx]
      have := (((hlk b a).mp hm).uniq (by omega) PA PB ((hlk b t).mp ht)).mp rfl
      rw [this]
    · simp [valD] at h
  have kn : ∀ b, (∀ a, (b, a) ∉ ps) → valD (dicGo [] ps) (.inl b) = none := fun b hn => by
    cases hx : valD (dicGo [] ps) (.inl b) with
    | none => rfl
    | some x =>
      rcases dic_get ps [] b x hx with ⟨t, rfl, ht⟩ | h
      · exact absurd ht (hn t)
      · simp [valD] at h
  have kg : ∀ b c : Int, (valD (dicGo [] ps) (.inl b)).getD (.int (c + b)) = .int (gF (dicGo [] ps) c b) := fun b c => by
    unfold gF
    cases hx : valD (dicGo [] ps) (.inl b) with
    | none => rfl
    | some x =>
      rcases dic_get ps [] b x hx with ⟨t, rfl, ht⟩ | h
      · rfl
      · simp [valD] at h
  generalize dicGo [] ps = kvs at *
  have hc := lc_rel (all_ints B) (vs := [8]) (g := gN 8) (t := T_concatenate_2) (f := E_concatenate_2)
    (e := [.fz (.lst (DA.map .int)), .fz (.lst (DB.map .int)), .fz (.lst (ps.map pr)), .fz (.lst (DA.map .int)), .fz (.lst (DB.map .int)), .fz (.int (DA.count 0 : Nat)), .fz (.dic kvs), .no, .no]) (fun _ => true) (gF kvs (DA.count 0 : Nat)) D.int (by omega) (by
      rintro b d hb rfl
      refine ⟨_, [.fz (.lst (DA.map .int)), .fz (.lst (DB.map .int)), .fz (.lst (ps.map pr)), .fz (.lst (DA.map .int)), .fz (.lst (DB.map .int)), .fz (.int (DA.count 0 : Nat)), .fz (.dic kvs), .no, .fz (.int b)], e_gN 8 _, ?_, fun _ => ⟨[.fz (.lst (DA.map .int)), .fz (.lst (DB.map .int)), .fz (.lst (ps.map pr)), .fz (.lst (DA.map .int)), .fz (.lst (DB.map .int)), .fz (.int (DA.count 0 : Nat)), .fz (.dic kvs), .no, .fz (.int b)], ?_, ?_⟩, fun z => (by cases z)⟩
      · simp [T_concatenate_2, fYes]
      · simp [E_concatenate_2, kg]
      · simp)
  rw [filter_t] at hc
  have hpat : Pat (A ++ B.map (gF kvs (DA.count 0 : Nat))) is := by
    refine cat_pat (by omega) PA PB (fun x hx => (okA.bd x hx).2) (fun x hx => (okB.bd x hx).1) _ (fun t j b sid t1 t2 t3 t4 => ?_) fun t b sid t1 t2 t3 => ?_
    · have hAj : A[j]? = some A[j] := List.getElem?_eq_getElem (by omega)
      have hm := (hlk b A[j]).mpr ⟨t, j, sid, by have := (List.getElem?_eq_some_iff.mp t1).1; omega, t1, t2, t3, t4, hAj⟩
      rw [hAj]
      unfold gF
      rw [kv b _ hm]
    · have hno : ∀ a, (b, a) ∉ ps := fun a hm => by
        obtain ⟨t', j', sid', u1, u2, u3, u4, u5, u6⟩ := (hlk b a).mp hm
        have := PB.2 t t' (List.getElem?_eq_some_iff.mp t1).1 (List.getElem?_eq_some_iff.mp u2).1
        rw [t1, u2, t2, u3] at this
        have e := Option.some.inj (this.mp rfl)
        exact t3 j' u4 (by rw [u5, e])
      unfold gF
      rw [kn b hno]
  have hd := e_distances_by (s := A ++ B.map (gF kvs (DA.count 0 : Nat))) (by simp; omega)
  rw [dbF_pat hpat, hdl] at hd
  generalize hM : B.map (gF kvs (DA.count 0 : Nat)) = M at *
  have hMl : M.length = l.length - p := by rw [← hM]; simp [lB2]
  rw [List.map_append] at hd
  simp [m_concatenate, e_runD, b_concatenate, N_concatenate, I_concatenate_1, I_concatenate_2, c1, c2, c3, c4, c5, c6, c7, hdc, hc, lA, lB, show ¬ (400 : Int) < p + ((l.length - p : Nat) : Int) by omega, lA2, hMl, show p + (l.length - p) ≤ 100000 by omega, hd]
end K64

end

section
set_option Elab.async false
set_option linter.all false
set_option maxRecDepth 100000
set_option maxHeartbeats 2000000
namespace Dm
theorem Pat.reverse {s t : List Int} (h : Pat s t) : Pat s.reverse t.reverse := by
  refine ⟨by simp [h.1], fun i j hi hj => ?_⟩
  simp at hi hj
  have e := h.1
  rw [List.getElem?_reverse hi, List.getElem?_reverse hj, List.getElem?_reverse (by omega), List.getElem?_reverse (by omega), ← e]
  exact h.2 _ _ (by omega) (by omega)
theorem Pat.take {s t : List Int} (h : Pat s t) (n : Nat) : Pat (s.take n) (t.take n) := by
  refine ⟨by simp [h.1], fun i j hi hj => ?_⟩
  rw [List.length_take] at hi hj
  rw [List.getElem?_take, List.getElem?_take, List.getElem?_take, List.getElem?_take, if_pos (by omega), if_pos (by omega), if_pos (by omega), if_pos (by omega)]
  exact h.2 i j (by omega) (by omega)
theorem Pat.drop {s t : List Int} (h : Pat s t) (n : Nat) : Pat (s.drop n) (t.drop n) := by
  refine ⟨by simp [h.1], fun i j hi hj => ?_⟩
  simp at hi hj
  rw [List.getElem?_drop, List.getElem?_drop, List.getElem?_drop, List.getElem?_drop]
  exact h.2 _ _ (by omega) (by omega)
end Dm
namespace K64
open PySem PySem.Spec PyProof.Rows L2 Vd Vd0 Dm
theorem e_windows_hold {l : List Int} (v : Dm.Valid l) (hl : l.length ≤ 60) {p : Nat} (hp : p ≤ l.length) : m_law_windows_hold [.fz (.lst (l.map .int)), .fz (.int p)] = some (.fz (.bl true), [.fz (.lst (l.map .int)), .fz (.int p)]) := by
  have hil := idsF_len v
  have hdl := dbF_ids v
  -- the windows
  have w1 := e_window v (a := 0) (n := p) (by omega) (by omega)
  have w2 := e_window v (a := p) (n := l.length - p) (by omega) (by omega)
  rw [List.drop_zero] at w1
  rw [List.take_of_length_le (by simp; omega)] at w2
  obtain ⟨ps, o1, o2, o3, o4⟩ := e_own v hl hp
  have k1 := e_concat v hl hp o2 o3 o4
  have f1 := e_find_all (l := l) (ps := dbF ((idsF l).take p)) v (dbF_valid _) (by omega) (by rw [dbF_len]; simp; omega)
  have f2 := e_find_all (l := l) (ps := dbF ((idsF l).drop p)) v (dbF_valid _) (by omega) (by rw [dbF_len]; simp; omega)
  have q1 : occGo l 0 0 (dbF ((idsF l).take p)) = true := by
    have := occ_wn (l := l) (a := 0) (n := p) (by omega)
    rw [wnF_db v (by omega), List.drop_zero] at this
    exact this
  have q2 : occGo l p 0 (dbF ((idsF l).drop p)) = true := by
    have := occ_wn (l := l) (a := p) (n := l.length - p) (by omega)
    rw [wnF_db v (by omega), List.take_of_length_le (by simp; omega)] at this
    exact this
  have m1 : (0 : Int) ∈ ((List.range (l.length - (dbF ((idsF l).take p)).length + 1)).filter fun s => occGo l s 0 (dbF ((idsF l).take p))).map fun (s : Nat) => (s : Int) :=
    List.mem_map.mpr ⟨0, List.mem_filter.mpr ⟨List.mem_range.mpr (by omega), q1⟩, rfl⟩
  have m2 : (p : Int) ∈ ((List.range (l.length - (dbF ((idsF l).drop p)).length + 1)).filter fun s => occGo l s 0 (dbF ((idsF l).drop p))).map fun (s : Nat) => (s : Int) :=
    List.mem_map.mpr ⟨p, List.mem_filter.mpr ⟨List.mem_range.mpr (by rw [dbF_len]; simp; omega), q2⟩, rfl⟩
  -- the reversed list
  have r1 := e_reversed v (by omega)
  have vb := dbF_valid (idsF l).reverse
  have lb : (dbF (idsF l).reverse).length = l.length := by rw [dbF_len]; simp [hil]
  have r2 := e_reversed vb (by omega)
  have r3 : dbF (idsF (dbF (idsF l).reverse)).reverse = l := by
    have := (ids_pat (idsF l).reverse).reverse
    rw [List.reverse_reverse] at this
    rw [dbF_pat this, hdl]
  rw [r3] at r2
  obtain ⟨nx, n1, n2⟩ := e_next v (by omega)
  have n3 := dbF_of n2
  obtain ⟨qs, o5, o6, o7, o8⟩ := e_own vb (by omega) (p := l.length - p) (by omega)
  have k2 := e_concat vb (by omega) (p := l.length - p) (by omega) o6 o7 o8
  have r4 := e_reversed (dbF_valid ((idsF l).drop p)) (by rw [dbF_len]; simp; omega)
  have r5 := e_reversed (dbF_valid ((idsF l).take p)) (by rw [dbF_len]; simp; omega)
  have pb := ids_pat (idsF l).reverse
  have r6 : dbF (idsF (dbF ((idsF l).drop p))).reverse = dbF ((idsF (dbF (idsF l).reverse)).take (l.length - p)) := by
    have a1 := (ids_pat ((idsF l).drop p)).reverse
    have a2 := pb.take (l.length - p)
    rw [List.take_reverse, hil, show l.length - (l.length - p) = p by omega] at a2
    rw [dbF_pat a1, dbF_pat a2]
  have r7 : dbF (idsF (dbF ((idsF l).take p))).reverse = dbF ((idsF (dbF (idsF l).reverse)).drop (l.length - p)) := by
    have a1 := (ids_pat ((idsF l).take p)).reverse
    have a2 := pb.drop (l.length - p)
    rw [List.drop_reverse, hil, show l.length - (l.length - p) = p by omega] at a2
    rw [dbF_pat a1, dbF_pat a2]
  rw [r6] at r4
  rw [r7] at r5
  have la : (dbF ((idsF l).take p)).length ≤ 60 := by rw [dbF_len]; simp; omega
  have lc : (dbF ((idsF l).drop p)).length ≤ 60 := by rw [dbF_len]; simp; omega
  have t1 := e_law_symbol_count (ds := dbF ((idsF l).take p)) (by omega)
  have t2 := e_law_symbol_count (ds := dbF ((idsF l).drop p)) (by omega)
  have t3 := e_count_mappings (dbF_valid ((idsF l).take p)) (dbF_valid ((idsF l).drop p)) (by omega) (by omega)
  have t4 := e_law_mapping_count (a := (dbF ((idsF l).take p)).count 0) (b := (dbF ((idsF l).drop p)).count 0) (Nat.le_trans List.count_le_length (by omega)) (Nat.le_trans List.count_le_length (by omega))
  generalize dbF ((idsF (dbF (idsF l).reverse)).drop (l.length - p)) = E1 at *
  generalize dbF ((idsF (dbF (idsF l).reverse)).take (l.length - p)) = E2 at *
  generalize hBk : dbF (idsF l).reverse = Bk at *
  generalize hFA : List.map (fun (s : Nat) => (s : Int)) ((List.range (l.length - (dbF ((idsF l).take p)).length + 1)).filter fun s => occGo l s 0 (dbF ((idsF l).take p))) = FA at *
  generalize hFB : List.map (fun (s : Nat) => (s : Int)) ((List.range (l.length - (dbF ((idsF l).drop p)).length + 1)).filter fun s => occGo l s 0 (dbF ((idsF l).drop p))) = FB at *
  generalize dbF ((idsF l).take p) = A at *
  generalize dbF ((idsF l).drop p) = B at *
  have hlp : (l.length : Int) - p = ((l.length - p : Nat) : Int) := by omega
  generalize (cmF (List.count 0 A : Nat) (List.count 0 B : Nat) (min (List.count 0 A) (List.count 0 B) + 1)).1 = CM at *
  generalize A.count 0 = ca at *
  generalize B.count 0 = cb at *
  have rv : vRev (.lst (nx.map .int)) = some (.lst (nx.reverse.map .int)) := by simp
  have w1' : m_window [.fz (.lst (l.map .int)), .fz (.int 0), .fz (.int p)] = some (.fz (.lst (A.map .int)), [.fz (.lst (l.map .int)), .fz (.int 0), .fz (.int p)]) := w1
  have hrr : (nx.map D.int).reverse = Bk.map D.int := by rw [n3, List.map_reverse]
  simp [m_law_windows_hold, e_runD, b_law_windows_hold, N_law_windows_hold, I_law_windows_hold_1, I_law_windows_hold_2, I_law_windows_hold_3, I_law_windows_hold_4, w1', w2, hlp, o1, k1, t1, t2, t3, t4, r1, r2, n1, lb, hrr, r2, r4, r5, o5, k2, f1, f2, m1, m2]
end K64

end

section
set_option Elab.async false
set_option linter.all false
set_option maxRecDepth 100000
set_option maxHeartbeats 2000000
namespace Dm
theorem Pat.reidx {s t u v : List Int} (h : Pat s t) (hl : u.length = v.length) (f : Nat → Nat) (hf : ∀ i, i < u.length → f i < s.length ∧ u[i]? = s[f i]? ∧ v[i]? = t[f i]?) : Pat u v := by
  refine ⟨hl, fun i j hi hj => ?_⟩
  obtain ⟨a1, a2, a3⟩ := hf i hi
  obtain ⟨b1, b2, b3⟩ := hf j hj
  rw [a2, a3, b2, b3]
  exact h.2 _ _ a1 b1
theorem pat_del {s t : List Int} (h : Pat s t) (p : Nat) : Pat (s.take p ++ s.drop (p + 1)) (t.take p ++ t.drop (p + 1)) := by
  have hl := h.1
  refine h.reidx (by simp [hl]) (fun i => if i < p then i else i + 1) fun i hi => ?_
  simp at hi
  have tk : ∀ w : List Int, w.length = s.length → (w.take p ++ w.drop (p + 1))[i]? = w[if i < p then i else i + 1]? := fun w hw => by
    by_cases hip : i < p
    · rw [if_pos hip]
      by_cases hw2 : i < w.length
      · rw [List.getElem?_append_left (by simp; omega), List.getElem?_take, if_pos hip]
      · rw [List.getElem?_append_right (by simp; omega), List.getElem?_drop]
        rw [List.getElem?_eq_none (by simp; omega), List.getElem?_eq_none (by omega)]
    · rw [if_neg hip]
      rw [List.getElem?_append_right (by simp; omega), List.getElem?_drop]
      simp
      by_cases hps : p ≤ w.length
      · rw [show p + 1 + (i - min p w.length) = i + 1 by omega]
      · rw [List.getElem?_eq_none (by omega), List.getElem?_eq_none (by omega)]
  refine ⟨?_, tk s rfl, tk t hl.symm⟩
  split <;> omega
end Dm
namespace K64
open PySem PySem.Spec PyProof.Rows L2 Vd Vd0 Dm
def OkS (d : D) : Prop := ∃ a b : Int, d = .lst [.int a, .int b] ∧ 0 ≤ a
theorem e_draw {d : D} {m : Int} (h : OkS d) (m1 : 1 ≤ m) (m2 : m < 2 ^ 64) : ∃ r d', m_law_draw [.ow d, .fz (.int m)] = some (.fz (.int r), [.ow d', .fz (.int m)]) ∧ 0 ≤ r ∧ r < m ∧ OkS d' := by
  obtain ⟨a, b, rfl, ha⟩ := h
  have mp : 0 < m := by omega
  have c0 : CPow 10 18 := by decide +kernel
  have cd : CDivW a m := cdiv_ok mp (Int.lt_trans m2 (by decide +kernel))
  by_cases hb : (1000000000000000000 : Int) ≤ a
  · refine ⟨a % m, .lst [.int (a / m), .int b], ?_, Int.emod_nonneg _ (by omega), Int.emod_lt_of_pos _ mp, _, _, rfl, Int.ediv_nonneg ha (by omega)⟩
    simp [m_law_draw, e_runD, b_law_draw, N_law_draw, I_law_draw_1, c0, hb, mp, cd, ixN]
  · have c1 : CMulW (b + 1) 48271 ∨ CMul (b + 1) 48271 := cmul_r (by decide) (by decide)
    generalize hx : (b + 1) * 48271 % 2147483647 = x
    have x0 : 0 ≤ x := by rw [← hx]; exact Int.emod_nonneg _ (by decide)
    have x1 : x < 2147483647 := by rw [← hx]; exact Int.emod_lt_of_pos _ (by decide)
    have c2 : CMulW x x ∨ CMul x x := cmul_r x0 (by omega)
    have c3 : ∀ z, CMulW z 69621 ∨ CMul z 69621 := fun z => cmul_r (by decide) (by decide)
    have c4 : ∀ z, CDivW z 8 := fun z => cdiv_ok (by decide) (by decide +kernel)
    refine ⟨x * x % 2147483629 * 69621 % 2147483587 / 8 % m, .lst [.int a, .int x], ?_, Int.emod_nonneg _ (by omega), Int.emod_lt_of_pos _ mp, _, _, rfl, ha⟩
    simp [m_law_draw, e_runD, b_law_draw, N_law_draw, I_law_draw_1, c0, hb, mp, c1, hx, c2, c3, c4, ixN]
/-- k draws -/
theorem lc_draws {k : Nat} {m : Int} (m1 : 1 ≤ m) (m2 : m < 2 ^ 64) (hk : k ≤ 1000) {f : FE} {t : FT} (mk : D → Sl → En) (hwi : ∀ d s, wipeE (mk d s) [5] = mk d .no) (hset : ∀ d s s', (mk d s).set 5 s' = mk d s')
    (hun : ∀ d d' s s', unw (mk d s) (mk d' s') [5] = mk d' s) (ht : ∀ e, t e = some (true, e))
    (hf : ∀ d r d' s, m_law_draw [.ow d, .fz (.int m)] = some (.fz (.int r), [.ow d', .fz (.int m)]) → f (mk d s) = some (.int r, mk d' s)) {d : D} (hd : OkS d) (s : Sl) :
    ∃ (rs : List Int) (d' : D), lcLoop [5] (gN 5) t f (rgD 0 k) [] (mk d s) = some (rs.map .int, mk d' s) ∧ rs.length = k ∧ OkS d' := by
  obtain ⟨r, e', h1, rs, d', rfl, rfl, h4, h5⟩ := lc_inv (vs := [5]) (g := gN 5) (t := t) (f := f) (ds := rgD 0 k)
    (fun i a e => ∃ (rs : List Int) (d : D), a = rs.map .int ∧ e = mk d s ∧ rs.length = i ∧ OkS d) (e0 := mk d s) (acc := []) ⟨[], d, rfl, rfl, rfl, hd⟩ (by simp; omega) (fun i x a e hx hi => by
      obtain ⟨rs, d, rfl, rfl, h1, h2⟩ := hi
      obtain ⟨rfl, _⟩ := rg_get hx
      obtain ⟨r, d', q1, q2, q3, q4⟩ := e_draw h2 m1 m2
      refine ⟨mk d (.fz (.int i)), by rw [hwi, e_gN, hset], .inl ⟨_, _, _, ht _, hf d r d' _ q1, rs ++ [r], d', by simp, hun _ _ _ _, by simp [h1], q4⟩⟩)
  rw [rg_len] at h4
  exact ⟨rs, d', h1, h4, h5⟩
end K64

end

section
set_option Elab.async false
set_option linter.all false
set_option maxRecDepth 100000
set_option maxHeartbeats 2000000
namespace K64
open PySem PySem.Spec PyProof.Rows L2 Vd Vd0 Dm
theorem e_symbols {d : D} (hd : OkS d) {n : Nat} {m : Int} (hn : n ≤ 60) (m1 : 1 ≤ m) (m2 : m < 2 ^ 64) : ∃ (rs : List Int) (d' : D), m_law_symbols [.ow d, .fz (.int n), .fz (.int m)] = some (.fz (.lst (rs.map .int)), [.ow d', .fz (.int n), .fz (.int m)]) ∧ rs.length = n ∧ OkS d' := by
  obtain ⟨r, d1, q1, q2, q3, q4⟩ := e_draw hd (m := 3) (by decide) (by decide)
  -- the straight way
  have straight : ∀ d, OkS d → ∀ (s3 s4 : Sl), ∃ (rs : List Int) (d' : D), lcLoop [5] (gN 5) T_law_symbols_3 E_law_symbols_3 (rgD 0 n) [] [.ow d, .fz (.int n), .fz (.int m), s3, s4, .no] = some (rs.map .int, [.ow d', .fz (.int n), .fz (.int m), s3, s4, .no]) ∧ rs.length = n ∧ OkS d' := fun d hd s3 s4 =>
    lc_draws (t := T_law_symbols_3) (f := E_law_symbols_3) m1 m2 (by omega) (fun d s => [.ow d, .fz (.int n), .fz (.int m), s3, s4, s]) (fun _ _ => by simp) (fun _ _ _ => by simp) (fun _ _ _ _ => by simp) (fun e => by simp [T_law_symbols_3, fYes]) (fun d r d' s h => by simp [E_law_symbols_3, h]) hd .no
  by_cases hc : r = 0 ∧ 1 < n
  · obtain ⟨rfl, hn1⟩ := hc
    have hdiv : CDivW (n : Int) 2 := cdiv_ok (by decide) (by decide +kernel)
    obtain ⟨r2, d2, a1, a2, a3, a4⟩ := e_draw q4 (m := (n : Int) / 2) (by omega) (by omega)
    obtain ⟨rs, d3, b1, b2, b3⟩ := lc_draws (k := (1 + r2).toNat) (t := T_law_symbols_1) (f := E_law_symbols_1) m1 m2 (by omega) (fun d s => [.ow d, .fz (.int n), .fz (.int m), .fz (.int (1 + r2)), .no, s]) (fun _ _ => by simp) (fun _ _ _ => by simp) (fun _ _ _ _ => by simp) (fun e => by simp [T_law_symbols_1, fYes]) (fun d r d' s h => by simp [E_law_symbols_1, h]) a4 .no
    have hc := lc_rel (all_rg n) (vs := [5]) (g := gN 5) (t := T_law_symbols_2) (f := E_law_symbols_2)
      (e := [.ow d3, .fz (.int n), .fz (.int m), .fz (.int (1 + r2)), .fz (.lst (rs.map .int)), .no]) (fun _ => true) (fun k => (rs[((k : Int) % (1 + r2)).toNat]?).getD 0) D.int (by simp; omega) (by
        rintro k d hk rfl
        have h0 : 0 ≤ (k : Int) % (1 + r2) := Int.emod_nonneg _ (by omega)
        have h1 : (k : Int) % (1 + r2) < 1 + r2 := Int.emod_lt_of_pos _ (by omega)
        have ha : atI (rs.map D.int) ((k : Int) % (1 + r2)) = some (.int ((rs[((k : Int) % (1 + r2)).toNat]?).getD 0)) := by
          rw [atI_map, atI_nat h0 (by omega), List.getElem?_eq_getElem (by omega)]; rfl
        refine ⟨_, [.ow d3, .fz (.int n), .fz (.int m), .fz (.int (1 + r2)), .fz (.lst (rs.map .int)), .fz (.int k)], e_gN 5 _, ?_, fun _ => ⟨[.ow d3, .fz (.int n), .fz (.int m), .fz (.int (1 + r2)), .fz (.lst (rs.map .int)), .fz (.int k)], ?_, ?_⟩, fun z => (by cases z)⟩
        · simp [T_law_symbols_2, fYes]
        · simp [E_law_symbols_2, ha, show 0 < 1 + r2 by omega]
        · simp)
    rw [filter_t] at hc
    refine ⟨(List.range n).map fun (k : Nat) => (rs[((k : Int) % (1 + r2)).toNat]?).getD 0, d3, ?_, by simp, b3⟩
    · generalize (List.range n).map (fun (k : Nat) => (rs[((k : Int) % (1 + r2)).toNat]?).getD 0) = W at hc ⊢
      simp [m_law_symbols, e_runD, b_law_symbols, N_law_symbols, I_law_symbols_1, q1, show (1 : Int) < n by omega, hn1, hdiv, a1, b1, show 1 + r2 ≤ 1000000000 by omega, show -1000000000 ≤ 1 + r2 by omega, show (n : Int) ≤ 1000000000 by omega, hc]
  · obtain ⟨rs, d2, b1, b2, b3⟩ := straight d1 q4 .no .no
    refine ⟨rs, d2, ?_, b2, b3⟩
    by_cases hr : r = 0
    · have hn1 : ¬ 1 < n := fun z => hc ⟨hr, z⟩
      subst hr
      simp [m_law_symbols, e_runD, b_law_symbols, N_law_symbols, I_law_symbols_1, q1, show ¬ (1 : Int) < n by omega, hn1, show (n : Int) ≤ 1000000000 by omega, b1]
    · simp [m_law_symbols, e_runD, b_law_symbols, N_law_symbols, I_law_symbols_1, q1, hr, show (n : Int) ≤ 1000000000 by omega, b1]
/-! ### edits -/
section
variable {l : List Int} {p : Nat} {y : Int}
theorem ins_del (v : Dm.Valid l) (hp : p ≤ l.length) : dbF ((idsF (dbF ((idsF l).take p ++ [y] ++ (idsF l).drop p))).take p ++ (idsF (dbF ((idsF l).take p ++ [y] ++ (idsF l).drop p))).drop (p + 1)) = l := by
  have hil := idsF_len v
  have h := pat_del (ids_pat ((idsF l).take p ++ [y] ++ (idsF l).drop p)) p
  have h1 : ((idsF l).take p ++ [y] ++ (idsF l).drop p).take p = (idsF l).take p := by
    rw [List.append_assoc, List.take_append_of_le_length (by simp; omega), List.take_take, Nat.min_self]
  have h2 : ((idsF l).take p ++ [y] ++ (idsF l).drop p).drop (p + 1) = (idsF l).drop p := by
    have : ((idsF l).take p ++ [y]).length = p + 1 := by simp; omega
    rw [← this, List.drop_left]
  rw [h1, h2, List.take_append_drop] at h
  rw [dbF_pat h, dbF_ids v]
theorem put_at (s : List Int) (hp : p < s.length) (y : Int) (i : Nat) : (s.take p ++ [y] ++ s.drop (p + 1))[i]? = if i = p then some y else s[i]? := by
  have hl : (s.take p ++ [y]).length = p + 1 := by simp; omega
  by_cases h1 : i < p
  · rw [if_neg (by omega), List.append_assoc, List.getElem?_append_left (by simp; omega), List.getElem?_take, if_pos h1]
  · by_cases h2 : i = p
    · subst h2
      rw [if_pos rfl, List.append_assoc, List.getElem?_append_right (by simp; omega)]
      simp; rw [Nat.min_eq_left (by omega)]; simp
    · rw [if_neg h2, List.getElem?_append_right (by omega), hl, List.getElem?_drop]
      congr 1; omega
theorem rep_back (v : Dm.Valid l) (hp : p < l.length) {q : Nat} (hq : q < l.length) (hpq : q ≠ p) (he : (idsF l)[q]? = (idsF l)[p]?) {z : Int} (hz : (idsF (dbF ((idsF l).take p ++ [y] ++ (idsF l).drop (p + 1))))[q]? = some z) :
    dbF ((idsF (dbF ((idsF l).take p ++ [y] ++ (idsF l).drop (p + 1)))).take p ++ [z] ++ (idsF (dbF ((idsF l).take p ++ [y] ++ (idsF l).drop (p + 1)))).drop (p + 1)) = l := by
  have hil := idsF_len v
  have h := ids_pat ((idsF l).take p ++ [y] ++ (idsF l).drop (p + 1))
  have hX : ∀ i, ((idsF l).take p ++ [y] ++ (idsF l).drop (p + 1))[i]? = if i = p then some y else (idsF l)[i]? := fun i => put_at _ (by omega) _ _
  have hXl : ((idsF l).take p ++ [y] ++ (idsF l).drop (p + 1)).length = l.length := by simp; omega
  generalize (idsF l).take p ++ [y] ++ (idsF l).drop (p + 1) = X at *
  generalize idsF (dbF X) = L at *
  have hLl : L.length = l.length := by rw [h.1, hXl]
  have hpat : Pat (L.take p ++ [z] ++ L.drop (p + 1)) (idsF l) := by
    refine h.reidx (by simp; omega) (fun i => if i = p then q else i) fun i hi => ?_
    have hi : i < l.length := by simp at hi; omega
    rw [put_at L (by omega), hX]
    by_cases e : i = p
    · subst e
      simp only [if_true]
      rw [if_neg hpq]
      exact ⟨by omega, hz.symm, he.symm⟩
    · simp only [if_neg e]
      exact ⟨by omega, by first | rfl | trivial, by first | rfl | trivial⟩
  rw [dbF_pat hpat, dbF_ids v]
theorem split_merge (v : Dm.Valid l) (hp : p < l.length) {f : Nat} (hf : f ≤ p) (hfe : (idsF l)[f]? = (idsF l)[p]?) (hfm : ∀ k, k < f → (idsF l)[k]? ≠ (idsF l)[p]?) {a b : Int}
    (ha : (idsF (dbF ((idsF l).take p ++ ((idsF l).drop p).map fun y => if some y = (idsF l)[p]? then ((l.count 0 : Nat) : Int) else y)))[f]? = some a)
    (hb : (idsF (dbF ((idsF l).take p ++ ((idsF l).drop p).map fun y => if some y = (idsF l)[p]? then ((l.count 0 : Nat) : Int) else y)))[p]? = some b) :
    dbF ((idsF (dbF ((idsF l).take p ++ ((idsF l).drop p).map fun y => if some y = (idsF l)[p]? then ((l.count 0 : Nat) : Int) else y))).map fun y => if y = b then a else y) = l := by
  have hil := idsF_len v
  have ok := idsF_ok v
  have h := ids_pat ((idsF l).take p ++ ((idsF l).drop p).map fun y => if some y = (idsF l)[p]? then ((l.count 0 : Nat) : Int) else y)
  have hY : ∀ i, i < l.length → ((idsF l).take p ++ ((idsF l).drop p).map fun y => if some y = (idsF l)[p]? then ((l.count 0 : Nat) : Int) else y)[i]? = if p ≤ i ∧ (idsF l)[i]? = (idsF l)[p]? then some ((l.count 0 : Nat) : Int) else (idsF l)[i]? := fun i hi => by
    by_cases h1 : i < p
    · rw [if_neg (by omega), List.getElem?_append_left (by simp; omega), List.getElem?_take, if_pos h1]
    · rw [List.getElem?_append_right (by simp; omega), List.getElem?_map, List.getElem?_drop]
      simp only [List.length_take]
      rw [show p + (i - min p (idsF l).length) = i by omega, List.getElem?_eq_getElem (l := idsF l) (i := i) (by omega)]
      simp only [Option.map_some]
      by_cases h2 : some (idsF l)[i] = (idsF l)[p]?
      · rw [if_pos h2, if_pos ⟨by omega, h2⟩]
      · rw [if_neg h2, if_neg fun z => h2 z.2]
  have hYl : ((idsF l).take p ++ ((idsF l).drop p).map fun y => if some y = (idsF l)[p]? then ((l.count 0 : Nat) : Int) else y).length = l.length := by simp; omega
  generalize (idsF l).take p ++ ((idsF l).drop p).map (fun y => if some y = (idsF l)[p]? then ((l.count 0 : Nat) : Int) else y) = Y at *
  generalize idsF (dbF Y) = L at *
  have hLl : L.length = l.length := by rw [h.1, hYl]
  have hc : ∀ i, i < l.length → (idsF l)[i]? ≠ some ((l.count 0 : Nat) : Int) := fun i hi z => by
    have := ok.bd _ (List.mem_of_getElem? z); omega
  have hYp : Y[p]? = some ((l.count 0 : Nat) : Int) := by rw [hY p hp, if_pos ⟨Nat.le_refl _, rfl⟩]
  -- the patterns of Y and of the list itself
  have hLp : ∀ i, i < l.length → (L[i]? = L[p]? ↔ p ≤ i ∧ (idsF l)[i]? = (idsF l)[p]?) := fun i hi => by
    rw [h.2 i p (by omega) (by omega), hYp, hY i hi]
    split
    · rename_i z; exact ⟨fun _ => z, fun _ => rfl⟩
    · rename_i z; exact ⟨fun w => absurd w (hc i hi), fun w => absurd w z⟩
  have hZ : ∀ i, i < l.length → (L.map fun y => if y = b then a else y)[i]? = L[if p ≤ i ∧ (idsF l)[i]? = (idsF l)[p]? then f else i]? := fun i hi => by
    rw [List.getElem?_map, List.getElem?_eq_getElem (by omega)]
    simp only [Option.map_some]
    have hLi := hLp i hi
    rw [List.getElem?_eq_getElem (by omega), hb] at hLi
    by_cases e : L[i] = b
    · rw [if_pos e, if_pos (hLi.mp (by rw [e])), ha]
    · rw [if_neg e, if_neg fun z => e (Option.some.inj (hLi.mpr z)), List.getElem?_eq_getElem (by omega)]
  have hpat : Pat (L.map fun y => if y = b then a else y) (idsF l) := by
    refine ⟨by simp; omega, fun i j hi hj => ?_⟩
    rw [List.length_map] at hi hj
    have hi : i < l.length := by omega
    have hj : j < l.length := by omega
    rw [hZ i hi, hZ j hj]
    -- what the list holds at the places taken
    have hh : ∀ i, i < l.length → (idsF l)[if p ≤ i ∧ (idsF l)[i]? = (idsF l)[p]? then f else i]? = (idsF l)[i]? := fun i hi => by
      split
      · rename_i z; rw [hfe, z.2]
      · rfl
    refine Iff.trans ?_ (show ((idsF l)[if p ≤ i ∧ (idsF l)[i]? = (idsF l)[p]? then f else i]? = (idsF l)[if p ≤ j ∧ (idsF l)[j]? = (idsF l)[p]? then f else j]? ↔ (idsF l)[i]? = (idsF l)[j]?) from by rw [hh i hi, hh j hj])
    have bi : (if p ≤ i ∧ (idsF l)[i]? = (idsF l)[p]? then f else i) < l.length := by split <;> omega
    have bj : (if p ≤ j ∧ (idsF l)[j]? = (idsF l)[p]? then f else j) < l.length := by split <;> omega
    have ni : ∀ i, (if p ≤ i ∧ (idsF l)[i]? = (idsF l)[p]? then f else i) < p ∨ (idsF l)[if p ≤ i ∧ (idsF l)[i]? = (idsF l)[p]? then f else i]? ≠ (idsF l)[p]? ∨ f = p := fun i => by
      by_cases hfp : f = p
      · exact .inr (.inr hfp)
      · split
        · exact .inl (by omega)
        · rename_i z
          by_cases q : i < p
          · exact .inl q
          · exact .inr (.inl fun w => z ⟨by omega, w⟩)
    have n1 := ni i
    have n2 := ni j
    generalize (if p ≤ i ∧ (idsF l)[i]? = (idsF l)[p]? then f else i) = i' at *
    generalize (if p ≤ j ∧ (idsF l)[j]? = (idsF l)[p]? then f else j) = j' at *
    rw [h.2 i' j' (by omega) (by omega), hY i' bi, hY j' bj]
    by_cases ei : p ≤ i' ∧ (idsF l)[i']? = (idsF l)[p]? <;> by_cases ej : p ≤ j' ∧ (idsF l)[j']? = (idsF l)[p]?
    · rw [if_pos ei, if_pos ej, ei.2, ej.2]
      exact ⟨fun _ => rfl, fun _ => rfl⟩
    · rw [if_pos ei, if_neg ej]
      refine ⟨fun w => absurd w.symm (hc j' bj), fun w => ?_⟩
      have hfp : f = p := by
        rcases n1 with z | z | z
        · omega
        · exact absurd ei.2 z
        · exact z
      have : ¬ p ≤ j' := fun z => ej ⟨z, w.symm.trans ei.2⟩
      exact absurd (w.symm.trans ei.2) (hfm j' (by omega))
    · rw [if_neg ei, if_pos ej]
      refine ⟨fun w => absurd w (hc i' bi), fun w => ?_⟩
      have hfp : f = p := by
        rcases n2 with z | z | z
        · omega
        · exact absurd ej.2 z
        · exact z
      have : ¬ p ≤ i' := fun z => ei ⟨z, w.trans ej.2⟩
      exact absurd (w.trans ej.2) (hfm i' (by omega))
    · rw [if_neg ei, if_neg ej]
  rw [dbF_pat hpat, dbF_ids v]
end
end K64

end

section
set_option Elab.async false
set_option linter.all false
set_option maxRecDepth 100000
set_option maxHeartbeats 2000000
namespace K64
open PySem PySem.Spec PyProof.Rows L2 Vd Vd0 Dm
theorem count_one {s : List Int} {p : Nat} {a : Int} (hp : s[p]? = some a) (h : ∀ q, q < s.length → q ≠ p → s[q]? ≠ some a) : s.count a = 1 := by
  have hpl : p < s.length := (List.getElem?_eq_some_iff.mp hp).1
  have e : s = s.take p ++ a :: s.drop (p + 1) := by
    have : s.drop p = a :: s.drop (p + 1) := by
      rw [List.drop_eq_getElem_cons hpl]
      rw [List.getElem?_eq_getElem hpl] at hp
      cases hp; rfl
    rw [← this, List.take_append_drop]
  have n1 : a ∉ s.take p := fun hm => by
    obtain ⟨k, k1, k2⟩ := mem_take hm
    exact h k (by omega) (by omega) k2
  have n2 : a ∉ s.drop (p + 1) := fun hm => by
    obtain ⟨k, hk⟩ := List.mem_iff_getElem?.mp hm
    rw [List.getElem?_drop] at hk
    exact h _ (List.getElem?_eq_some_iff.mp hk).1 (by omega) hk
  rw [e, List.count_append, List.count_cons_self, List.count_eq_zero_of_not_mem n1, List.count_eq_zero_of_not_mem n2]
theorem e_edits_hold {d : D} {l : List Int} (hd : OkS d) (v : Dm.Valid l) (hl : l.length ≤ 60) : ∃ d', m_law_edits_hold [.ow d, .fz (.lst (l.map .int))] = some (.fz (.bl true), [.ow d', .fz (.lst (l.map .int))]) ∧ OkS d' := by
  have hil := idsF_len v
  have ok := idsF_ok v
  have hcl : l.count 0 ≤ l.length := List.count_le_length
  obtain ⟨r1, d1, q1, q2, q3, q4⟩ := e_draw hd (m := (l.length : Int) + 1) (by omega) (by omega)
  obtain ⟨p0, rfl⟩ := Int.eq_ofNat_of_zero_le q2
  obtain ⟨y, d2, q5, q6, q7, q8⟩ := e_draw q4 (m := ((l.count 0 : Nat) : Int) + 1) (by omega) (by omega)
  have c1 := e_law_ids v (by omega)
  have c2 := e_law_symbol_count (ds := l) (by omega)
  have c3 := e_symbol_ids v (by omega)
  have c4 := e_insert_at v (by omega) (p := p0) (by omega) q6 (by omega)
  have l2 : (dbF ((idsF l).take p0 ++ [y] ++ (idsF l).drop p0)).length = l.length + 1 := by rw [dbF_len]; simp; omega
  have c5 := e_delete_at (dbF_valid ((idsF l).take p0 ++ [y] ++ (idsF l).drop p0)) (by omega) (p := p0) (by omega)
  rw [ins_del v (by omega)] at c5
  generalize dbF ((idsF l).take p0 ++ [y] ++ (idsF l).drop p0) = L2 at *
  by_cases hz : l.length = 0
  · refine ⟨d2, ?_, q8⟩
    have hz' : (l.length : Int) = 0 := by omega
    simp [m_law_edits_hold, e_runD, b_law_edits_hold, N_law_edits_hold, I_law_edits_hold_1, I_law_edits_hold_2, I_law_edits_hold_3, c1, c2, c3, q1, q5, c4, c5]
    simp [List.length_eq_zero_iff.mp hz]
  · obtain ⟨r3, d3, a1, a2, a3, a4⟩ := e_draw q8 (m := (l.length : Int)) (by omega) (by omega)
    obtain ⟨p, rfl⟩ := Int.eq_ofNat_of_zero_le a2
    have hp : p < l.length := by omega
    have c6 := e_replace_at v (by omega) hp q6 (y := y) (by omega)
    have lo : (dbF ((idsF l).take p ++ [y] ++ (idsF l).drop (p + 1))).length = l.length := by rw [dbF_len]; simp; omega
    have vo := dbF_valid ((idsF l).take p ++ [y] ++ (idsF l).drop (p + 1))
    have oko := idsF_ok vo
    have lol := idsF_len vo
    have c7 := e_law_ids vo (by omega)
    have rb := fun (q : Nat) (hq : q < l.length) (hpq : q ≠ p) (he : (idsF l)[q]? = (idsF l)[p]?) (z : Int) hz => rep_back (y := y) v hp hq hpq he (z := z) hz
    have c8 := fun (z : Int) (z0 : 0 ≤ z) z1 => e_replace_at vo (by omega) (p := p) (by omega) z0 (y := z) z1
    have c9 := e_split v (by omega) hp
    have ls : (dbF ((idsF l).take p ++ ((idsF l).drop p).map fun y => if some y = (idsF l)[p]? then ((l.count 0 : Nat) : Int) else y)).length = l.length := by rw [dbF_len]; simp; omega
    have vs := dbF_valid ((idsF l).take p ++ ((idsF l).drop p).map fun y => if some y = (idsF l)[p]? then ((l.count 0 : Nat) : Int) else y)
    have oks := idsF_ok vs
    have lsl := idsF_len vs
    have c10 := e_law_ids vs (by omega)
    have c11 := fun (a b : Int) (a0 : 0 ≤ a) a1 (b0 : 0 ≤ b) b1 => e_merge vs (by omega) (a := a) (b := b) a0 a1 b0 b1
    have sm := fun (f : Nat) (hf : f ≤ p) hfe hfm (a b : Int) ha hb => split_merge v hp (f := f) hf hfe hfm (a := a) (b := b) ha hb
    generalize dbF ((idsF l).take p ++ [y] ++ (idsF l).drop (p + 1)) = O at *
    generalize idsF O = LO at *
    generalize dbF ((idsF l).take p ++ ((idsF l).drop p).map fun y => if some y = (idsF l)[p]? then ((l.count 0 : Nat) : Int) else y) = S at *
    generalize idsF S = LS at *
    generalize hX : idsF l = is at *
    have hpe : is[p]? = some is[p] := List.getElem?_eq_getElem (by omega)
    generalize is[p] = σ at hpe
    have ap : atI (is.map D.int) (p : Int) = some (.int σ) := by
      rw [atI_map, atI_nat (by omega) (by omega), Int.toNat_natCast, hpe]; rfl
    have hm : σ ∈ is := List.mem_of_getElem? hpe
    -- the home places
    have hc := lc_rel (all_rg l.length) (vs := [14]) (g := gN 14) (t := T_law_edits_hold_1) (f := E_law_edits_hold_1)
      (e := [.ow d3, .fz (.lst (l.map .int)), .fz (.int l.length), .fz (.lst (is.map .int)), .fz (.int (l.count 0 : Nat)), .fz (.int p), .fz (.int y), .fz (.bl (decide (is.count σ = 1))), .fz (.lst (O.map .int)), .fz (.lst (LO.map .int)), .no, .no, .no, .no, .no]) (fun k => decide (is[k]? = some σ) && !decide (k = p)) (fun k => (LO[k]?).getD 0) D.int (by simp; omega) (by
        rintro k d hk rfl
        have hk := List.mem_range.mp hk
        have ha : atI (is.map D.int) (k : Int) = some (.int is[k]) := by
          rw [atI_map, atI_nat (by omega) (by omega), Int.toNat_natCast, List.getElem?_eq_getElem (by omega)]; rfl
        have hb : atI (LO.map D.int) (k : Int) = some (.int ((LO[k]?).getD 0)) := by
          rw [atI_map, atI_nat (by omega) (by omega), Int.toNat_natCast, List.getElem?_eq_getElem (by omega)]; rfl
        have hk2 : is[k]? = some is[k] := List.getElem?_eq_getElem (by omega)
        refine ⟨_, [.ow d3, .fz (.lst (l.map .int)), .fz (.int l.length), .fz (.lst (is.map .int)), .fz (.int (l.count 0 : Nat)), .fz (.int p), .fz (.int y), .fz (.bl (decide (is.count σ = 1))), .fz (.lst (O.map .int)), .fz (.lst (LO.map .int)), .no, .no, .no, .no, .fz (.int k)], e_gN 14 _, ?_, fun _ => ⟨[.ow d3, .fz (.lst (l.map .int)), .fz (.int l.length), .fz (.lst (is.map .int)), .fz (.int (l.count 0 : Nat)), .fz (.int p), .fz (.int y), .fz (.bl (decide (is.count σ = 1))), .fz (.lst (O.map .int)), .fz (.lst (LO.map .int)), .no, .no, .no, .no, .fz (.int k)], ?_, ?_⟩, fun _ => ?_⟩
        · generalize is[k] = ik at *
          by_cases h1 : ik = σ
          · subst h1
            by_cases h2 : k = p
            · subst h2; simp [T_law_edits_hold_1, ha, hk2]
            · simp [T_law_edits_hold_1, ha, ap, hk2, h2, show ¬ (k : Int) = p by omega]
          · simp [T_law_edits_hold_1, ha, ap, hk2, h1]
        · simp [E_law_edits_hold_1, hb]
        · simp
        · simp)
    generalize hHm : List.map (fun (k : Nat) => (LO[k]?).getD 0) ((List.range l.length).filter fun k => decide (is[k]? = some σ) && !decide (k = p)) = HM at hc
    -- the first place of the symbol
    have hf1 : is.idxOf σ ≤ p := by
      rcases Nat.lt_or_ge p (is.idxOf σ) with z | z
      · have := lt_idx_ne z (by omega)
        rw [List.getElem?_eq_some_iff] at hpe
        exact absurd hpe.2 this
      · exact z
    have hf2 : is[is.idxOf σ]? = some σ := by rw [List.getElem?_eq_getElem (List.idxOf_lt_length_iff.mpr hm), List.getElem_idxOf]
    have hf3 : ∀ k, k < is.idxOf σ → is[k]? ≠ some σ := fun k hk z => by
      have := lt_idx_ne hk (by omega)
      rw [List.getElem?_eq_some_iff] at z
      exact this z.2
    generalize hfx : is.idxOf σ = f at hf1 hf2 hf3
    have ea : LS[f]? = some LS[f] := List.getElem?_eq_getElem (by omega)
    have eb : LS[p]? = some LS[p] := List.getElem?_eq_getElem (by omega)
    generalize LS[f] = a at ea
    generalize LS[p] = b at eb
    have aa : atI (LS.map D.int) (f : Int) = some (.int a) := by
      rw [atI_map, atI_nat (by omega) (by omega), Int.toNat_natCast, ea]; rfl
    have ab : atI (LS.map D.int) (p : Int) = some (.int b) := by
      rw [atI_map, atI_nat (by omega) (by omega), Int.toNat_natCast, eb]; rfl
    have sm' := sm f hf1 (by rw [hf2, hpe]) (fun k hk => by rw [hpe]; exact hf3 k hk) a b ea eb
    have ba := oks.bd a (List.mem_of_getElem? ea)
    have bb := oks.bd b (List.mem_of_getElem? eb)
    have c12 := c11 a b ba.1 ba.2 bb.1 bb.2
    rw [sm'] at c12
    refine ⟨d3, ?_, a4⟩
    have hne : ¬ l = [] := fun z => hz (by rw [z]; rfl)
    have hcm : mCount (.lst (is.map .int)) [.int σ] = some (.int (is.count σ : Nat)) := by simp
    have hix : mIndex (.lst (is.map .int)) [.int σ] = some (.int (f : Nat)) := by simp [hm, hfx]
    by_cases hone : is.count σ = 1
    · simp only [hone, decide_true] at hc
      simp [m_law_edits_hold, e_runD, b_law_edits_hold, N_law_edits_hold, I_law_edits_hold_1, I_law_edits_hold_2, I_law_edits_hold_3, I_law_edits_hold_4, c1, c2, c3, q1, q5, c4, c5, hne, a1, ap, hone, c6, c7, show (l.length : Int) ≤ 1000000000 by omega, hc, c9, c10, hm, hfx, aa, ab, c12]
    · simp only [hone, decide_false] at hc
      have hone' : ¬ ((is.count σ : Nat) : Int) = 1 := by omega
      obtain ⟨q, hq, hqp, hqe⟩ : ∃ q, q < l.length ∧ q ≠ p ∧ is[q]? = some σ := by
        apply Classical.byContradiction
        intro hn
        exact hone (count_one hpe fun q hq hqp z => hn ⟨q, by omega, hqp, z⟩)
      have hqm : q ∈ (List.range l.length).filter fun k => decide (is[k]? = some σ) && !decide (k = p) := List.mem_filter.mpr ⟨List.mem_range.mpr hq, by simp [hqe, hqp]⟩
      obtain ⟨k0, hk0, z0, HM', rfl, hz0⟩ : ∃ k0, (k0 < l.length ∧ k0 ≠ p ∧ is[k0]? = some σ) ∧ ∃ z0 HM', HM = z0 :: HM' ∧ LO[k0]? = some z0 := by
        cases hfl : (List.range l.length).filter fun k => decide (is[k]? = some σ) && !decide (k = p) with
        | nil => rw [hfl] at hqm; simp at hqm
        | cons k0 rest =>
          have hk : k0 ∈ (List.range l.length).filter fun k => decide (is[k]? = some σ) && !decide (k = p) := by rw [hfl]; simp
          obtain ⟨h1, h2⟩ := List.mem_filter.mp hk
          have h1 := List.mem_range.mp h1
          simp at h2
          refine ⟨k0, ⟨h1, h2.2, h2.1⟩, LO[k0]'(by omega), rest.map fun (k : Nat) => (LO[k]?).getD 0, ?_, List.getElem?_eq_getElem (by omega)⟩
          rw [← hHm, hfl, List.map_cons, List.getElem?_eq_getElem (by omega)]
          rfl
      have bz := oko.bd z0 (List.mem_of_getElem? hz0)
      have c13 := c8 z0 bz.1 (by omega)
      rw [rb k0 hk0.1 hk0.2.1 (by rw [hk0.2.2, hpe]) z0 hz0] at c13
      rw [List.map_cons] at hc
      simp [m_law_edits_hold, e_runD, b_law_edits_hold, N_law_edits_hold, I_law_edits_hold_1, I_law_edits_hold_2, I_law_edits_hold_3, I_law_edits_hold_4, c1, c2, c3, q1, q5, c4, c5, hne, a1, ap, hone, hone', c6, c7, show (l.length : Int) ≤ 1000000000 by omega, hc, c9, c10, hm, hfx, aa, ab, c12, c13]
end K64

end

section
set_option Elab.async false
set_option linter.all false
set_option maxRecDepth 100000
set_option maxHeartbeats 2000000
/-! Pq: recency ranks, in plain mathematics. -/
namespace Dm
open Vd
/-- the symbols so far, the last one first -/
def mtf (s : List Int) : List Int := s.foldl (fun r x => x :: r.erase x) []
theorem mtf_snoc (s : List Int) (x : Int) : mtf (s ++ [x]) = x :: (mtf s).erase x := by simp [mtf]
theorem mtf_ok (s : List Int) : (mtf s).Nodup ∧ ∀ x, x ∈ mtf s ↔ x ∈ s := by
  have go : ∀ n, n ≤ s.length → (mtf (s.take n)).Nodup ∧ ∀ x, x ∈ mtf (s.take n) ↔ x ∈ s.take n := fun n => by
    induction n with
    | zero => intro _; simp [mtf]
    | succ n ih =>
      intro h
      obtain ⟨h1, h2⟩ := ih (by omega)
      rw [take_succ (List.getElem?_eq_getElem (by omega)), mtf_snoc]
      refine ⟨List.nodup_cons.mpr ⟨fun z => (h1.mem_erase_iff.mp z).1 rfl, h1.erase _⟩, fun x => ?_⟩
      rw [List.mem_cons, h1.mem_erase_iff, h2 x, List.mem_append, List.mem_singleton]
      by_cases e : x = s[n]
      · simp [e]
      · simp [e]
  have := go s.length (Nat.le_refl _)
  rwa [List.take_length] at this
theorem mtf_behind (u : List Int) (x : Int) (w : List Int) (hx : x ∉ w) : ∃ rest, mtf (u ++ [x] ++ w) = mtf w ++ x :: rest := by
  have go : ∀ n, n ≤ w.length → ∃ rest, mtf (u ++ [x] ++ w.take n) = mtf (w.take n) ++ x :: rest := fun n => by
    induction n with
    | zero => intro _; exact ⟨(mtf u).erase x, by rw [List.take_zero, List.append_nil, mtf_snoc]; rfl⟩
    | succ n ih =>
      intro h
      obtain ⟨rest, hr⟩ := ih (by omega)
      have hy : w[n] ≠ x := fun e => hx (e ▸ List.getElem_mem _)
      rw [take_succ (List.getElem?_eq_getElem (by omega)), ← List.append_assoc, mtf_snoc, mtf_snoc, hr]
      by_cases hm : w[n] ∈ mtf (w.take n)
      · rw [List.erase_append_left _ hm]
        exact ⟨rest, rfl⟩
      · rw [List.erase_append_right _ hm, List.erase_of_not_mem hm, List.erase_cons_tail (by simpa using fun e => hy e.symm)]
        exact ⟨_, rfl⟩
  have := go w.length (Nat.le_refl _)
  rwa [List.take_length] at this
theorem mtf_len (s : List Int) : (mtf s).length = (dedI s).length := (dedI_of (mtf_ok s).1 (mtf_ok s).2).symm
/-- the rank of the symbol at place i -/
def rkF (s ds : List Int) (i : Nat) : Int := if (ds[i]?).getD 0 = 0 then 0 else 1 + ((dedI ((s.drop (i - ((ds[i]?).getD 0).toNat + 1)).take (((ds[i]?).getD 0).toNat - 1))).length : Nat)
/-- one rank is turned back into a symbol -/
def stR (rec : List Int) (r : Int) : List Int := if r > 0 then (rec[(r - 1).toNat]?).getD 0 :: rec.eraseIdx (r - 1).toNat else (rec.length : Int) :: rec
theorem split3 {s : List Int} {p i : Nat} {x : Int} (hp : s[p]? = some x) (hpi : p < i) (hi : i ≤ s.length) : s.take i = s.take p ++ [x] ++ (s.drop (p + 1)).take (i - (p + 1)) := by
  apply List.ext_getElem?
  intro k
  rw [List.getElem?_take]
  have hpl : p < s.length := (List.getElem?_eq_some_iff.mp hp).1
  by_cases h1 : k < p
  · rw [if_pos (by omega), List.append_assoc, List.getElem?_append_left (by simp; omega), List.getElem?_take, if_pos h1]
  · by_cases h2 : k = p
    · subst h2
      rw [if_pos hpi, hp, List.append_assoc, List.getElem?_append_right (by simp; omega)]
      simp; rw [Nat.min_eq_left (by omega)]; simp
    · have hl : (s.take p ++ [x]).length = p + 1 := by simp; omega
      rw [List.getElem?_append_right (by omega), hl, List.getElem?_take, List.getElem?_drop]
      by_cases h3 : k < i
      · rw [if_pos h3, if_pos (by omega)]; congr 1; omega
      · rw [if_neg h3, if_neg (by omega)]
/-- ranks lead back: the i-th rank, the symbols so far in their order -/
theorem rank_back {s ds : List Int} (ok : Ids s ds (ds.count 0 : Nat)) {i : Nat} {x : Int} (hx : s[i]? = some x) (hcan : ∀ (i : Nat) (x : Int), s[i]? = some x → ds[i]? = some 0 → x = ((mtf (s.take i)).length : Nat)) :
    0 ≤ rkF s ds i ∧ rkF s ds i ≤ ((mtf (s.take i)).length : Nat) ∧ stR (mtf (s.take i)) (rkF s ds i) = mtf (s.take (i + 1)) := by
  have hil : i < s.length := (List.getElem?_eq_some_iff.mp hx).1
  have hdl : i < ds.length := by rw [ok.d.1]; exact hil
  have hd : ds[i]? = some ds[i] := List.getElem?_eq_getElem hdl
  have hdd := ok.d.2 i ds[i] hd
  have hs : (s.take i).length = i := by simp; omega
  rw [take_succ hx, mtf_snoc]
  rcases hdd with ⟨a1, a2⟩ | ⟨p, p1, p2, p3, p4⟩
  · have hr : rkF s ds i = 0 := by unfold rkF; rw [hd, Option.getD_some, if_pos a1]
    rw [hr]
    have hn : x ∉ s.take i := fun hm => by
      obtain ⟨k, hk⟩ := List.mem_iff_getElem?.mp hm
      have hki : k < i := by have := (List.getElem?_eq_some_iff.mp hk).1; omega
      rw [List.getElem?_take, if_pos hki] at hk
      exact a2 k hki (by rw [hk, hx])
    have hn2 : x ∉ mtf (s.take i) := fun h => hn (((mtf_ok _).2 x).mp h)
    refine ⟨Int.le_refl _, by omega, ?_⟩
    unfold stR
    rw [if_neg (by omega), List.erase_of_not_mem hn2, hcan i x hx (by rw [hd, a1])]
  · have hpx : s[p]? = some x := by rw [p3, hx]
    have d0 : 0 < ds[i] := by omega
    have e1 : i - ds[i].toNat + 1 = p + 1 := by omega
    have e2 : ds[i].toNat - 1 = i - (p + 1) := by omega
    have hr : rkF s ds i = 1 + ((dedI ((s.drop (p + 1)).take (i - (p + 1)))).length : Nat) := by
      unfold rkF; rw [hd, Option.getD_some, if_neg (by omega), e1, e2]
    have hw : x ∉ (s.drop (p + 1)).take (i - (p + 1)) := fun hm => by
      obtain ⟨k, hk⟩ := List.mem_iff_getElem?.mp hm
      have hki : k < i - (p + 1) := by have := (List.getElem?_eq_some_iff.mp hk).1; simp at this; omega
      rw [List.getElem?_take, if_pos hki, List.getElem?_drop] at hk
      exact p4 (p + 1 + k) (by omega) (by omega) (by rw [hk, hx])
    obtain ⟨rest, hrest⟩ := mtf_behind (s.take p) x _ hw
    rw [← split3 hpx p1 (by omega)] at hrest
    have hl := mtf_len ((s.drop (p + 1)).take (i - (p + 1)))
    generalize mtf ((s.drop (p + 1)).take (i - (p + 1))) = W at hrest hl
    generalize (s.drop (p + 1)).take (i - (p + 1)) = ww at *
    rw [hr, hrest, ← hl]
    have nd := (mtf_ok (s.take i)).1
    rw [hrest] at nd
    have hxW : x ∉ W := fun h => by
      have := (List.nodup_append.mp nd).2.2 x h x (by simp)
      exact this rfl
    refine ⟨by omega, by simp; omega, ?_⟩
    unfold stR
    rw [if_pos (by omega), show (1 + (W.length : Int) - 1).toNat = W.length by omega]
    have g : (W ++ x :: rest)[W.length]? = some x := by simp
    rw [g, Option.getD_some, List.erase_append_right _ hxW, List.erase_cons_head]
    congr 1
    rw [List.eraseIdx_append_of_length_le (Nat.le_refl _)]
    simp
end Dm

end

section
set_option Elab.async false
set_option linter.all false
set_option maxRecDepth 100000
set_option maxHeartbeats 2000000
namespace Dm
open Vd
def idsFold (ds : List Int) (st : List Int × Int) : List Int × Int := ds.foldl (fun st d => idsStep st.1 st.2 d) st
theorem idsGo_fold : ∀ (ds acc : List Int) (c : Int), idsGo ds acc c = (idsFold ds (acc, c)).1
  | [], _, _ => rfl
  | d :: r, acc, c => by
    show idsGo r _ _ = _
    rw [idsGo_fold r]
    rfl
theorem idsFold_pre : ∀ (ds : List Int) (st : List Int × Int), (idsFold ds st).1.take st.1.length = st.1 ∧ (idsFold ds st).1.length = st.1.length + ds.length
  | [], st => by simp [idsFold]
  | d :: r, st => by
    obtain ⟨h1, h2⟩ := idsFold_pre r (idsStep st.1 st.2 d)
    have hs : ∃ x, (idsStep st.1 st.2 d).1 = st.1 ++ [x] := by
      unfold idsStep
      split
      · exact ⟨_, rfl⟩
      · exact ⟨_, rfl⟩
    obtain ⟨x, hx⟩ := hs
    have e : idsFold (d :: r) st = idsFold r (idsStep st.1 st.2 d) := rfl
    rw [e]
    rw [hx] at h1 h2
    simp only [List.length_append, List.length_cons, List.length_nil] at h1 h2
    refine ⟨?_, by simp; omega⟩
    have := congrArg (List.take st.1.length) h1
    rw [List.take_take, Nat.min_eq_left (by omega), List.take_left] at this
    exact this
theorem idsFold_app (a b : List Int) (st : List Int × Int) : idsFold (a ++ b) st = idsFold b (idsFold a st) := by simp [idsFold]
theorem idsF_take (ds : List Int) (i : Nat) (hi : i ≤ ds.length) : (idsF ds).take i = idsF (ds.take i) := by
  unfold idsF
  rw [idsGo_fold, idsGo_fold]
  have e : idsFold ds ([], 0) = idsFold (ds.drop i) (idsFold (ds.take i) ([], 0)) := by rw [← idsFold_app, List.take_append_drop]
  have h1 := (idsFold_pre (ds.take i) ([], 0)).2
  simp only [List.length_nil, List.length_take, Nat.zero_add, Nat.min_eq_left hi] at h1
  rw [e]
  have := (idsFold_pre (ds.drop i) (idsFold (ds.take i) ([], 0))).1
  rw [h1] at this
  exact this
theorem Valid.take {ds : List Int} (v : Valid ds) (i : Nat) : Valid (ds.take i) := by
  have tk : ∀ {j : Nat} {d : Int}, (ds.take i)[j]? = some d → ds[j]? = some d := fun {j d} h => by
    rw [List.getElem?_take] at h
    split at h
    · exact h
    · cases h
  exact ⟨fun j d h => v.bd j d (tk h), fun j k d e h1 h2 => v.inj j k d e (tk h1) (tk h2)⟩
/-- the number of symbols so far is the next id -/
theorem ids_canon {ds : List Int} (v : Valid ds) {i : Nat} {x : Int} (hx : (idsF ds)[i]? = some x) (h0 : ds[i]? = some 0) : x = ((mtf ((idsF ds).take i)).length : Nat) := by
  have hi : i < ds.length := (List.getElem?_eq_some_iff.mp h0).1
  have ok := idsF_ok (v.take i)
  have e1 : (idsF ds).take (i + 1) = idsF (ds.take i ++ [0]) := by rw [idsF_take ds _ (by omega), take_succ h0]
  -- the state behind the first i
  have st : ∃ c, idsFold (ds.take i) ([], 0) = (idsF (ds.take i), c) ∧ c = ((ds.take i).count 0 : Nat) := by
    have gen : ∀ (r ds is : List Int) (c : Int), Ids is ds c → Valid (ds ++ r) → Ids (idsFold r (is, c)).1 (ds ++ r) (idsFold r (is, c)).2 := fun r => by
      induction r with
      | nil => intro ds is c h _; simpa [idsFold] using h
      | cons d r ih =>
        intro ds is c h v
        have e : ds ++ d :: r = (ds ++ [d]) ++ r := by simp
        have hd : (ds ++ d :: r)[ds.length]? = some d := by simp
        obtain ⟨b0, b1⟩ := v.bd _ d hd
        have hs := h.step b0 b1 (fun k e' hk d0 e0 q => by
          have hkl := (List.getElem?_eq_some_iff.mp hk).1
          have := v.inj _ k d e' hd (by rw [List.getElem?_append_left hkl]; exact hk) d0 e0 q
          omega)
        rw [e] at v ⊢
        exact ih _ _ _ hs v
    have h := gen (ds.take i) [] [] 0 ⟨.nil, by simp, fun k h1 h2 => by omega, rfl⟩ (by simpa using v.take i)
    refine ⟨(idsFold (ds.take i) ([], 0)).2, ?_, by simpa using h.c⟩
    unfold idsF
    rw [idsGo_fold]
  obtain ⟨c, hc1, hc2⟩ := st
  have e2 : idsF (ds.take i ++ [0]) = idsF (ds.take i) ++ [c] := by
    conv => lhs; unfold idsF
    rw [idsGo_fold, idsFold_app, hc1]
    rfl
  have hil : (idsF (ds.take i)).length = i := by rw [idsF_len (v.take i)]; simp; omega
  have e3 : x = c := by
    have h1 : ((idsF ds).take (i + 1))[i]? = some x := by rw [List.getElem?_take, if_pos (by omega)]; exact hx
    rw [e1, e2] at h1
    have h2 : (idsF (ds.take i) ++ [c])[i]? = some c := by
      have := at_snoc (idsF (ds.take i)) c
      rwa [hil] at this
    rw [h2] at h1
    exact (Option.some.inj h1).symm
  rw [e3, hc2, idsF_take ds i (by omega), mtf_len]
  have := dedI_of (ns := idsF (ds.take i)) (ms := (List.range ((ds.take i).count 0)).map fun (k : Nat) => (k : Int)) ?_ ?_
  · rw [this]; simp
  · rw [List.nodup_iff_pairwise_ne, List.pairwise_map]
    exact (List.nodup_iff_pairwise_ne.mp List.nodup_range).imp fun h e => h (by omega)
  · intro y
    constructor
    · intro hy
      obtain ⟨k, hk, rfl⟩ := List.mem_map.mp hy
      exact ok.all _ (by omega) (by have := List.mem_range.mp hk; omega)
    · intro hy
      obtain ⟨b0, b1⟩ := ok.bd y hy
      exact List.mem_map.mpr ⟨y.toNat, List.mem_range.mpr (by omega), by omega⟩
end Dm

end

section
set_option Elab.async false
set_option linter.all false
set_option maxRecDepth 100000
set_option maxHeartbeats 2000000
namespace Dm
open Vd
/-- symbols from ranks: the order and the ids so far -/
def frF (rs : List Int) : List Int × List Int := rs.foldl (fun st r => (stR st.1 r, st.2 ++ [(stR st.1 r).headD 0])) ([], [])
theorem frF_snoc (rs : List Int) (r : Int) : frF (rs ++ [r]) = (stR (frF rs).1 r, (frF rs).2 ++ [(stR (frF rs).1 r).headD 0]) := by simp [frF]
def OkR (rs : List Int) : Prop := ∀ (i : Nat) (r : Int), rs[i]? = some r → 0 ≤ r ∧ r ≤ ((rs.take i).count 0 : Nat)
def Canon (s : List Int) : Prop := ∀ (i : Nat) (x : Int), s[i]? = some x → x ∉ s.take i → x = ((mtf (s.take i)).length : Nat)
theorem canon_eq {s t : List Int} (hs : Canon s) (ht : Canon t) (p : Pat s t) : s = t := by
  have go : ∀ n, n ≤ s.length → s.take n = t.take n := fun n => by
    induction n with
    | zero => intro _; rfl
    | succ n ih =>
      intro h
      have e := ih (by omega)
      have h1 : s[n]? = some s[n] := List.getElem?_eq_getElem (by omega)
      have h2 : t[n]? = some (t[n]'(by rw [← p.1]; omega)) := List.getElem?_eq_getElem (by rw [← p.1]; omega)
      rw [take_succ h1, take_succ h2, e]
      congr 2
      by_cases hm : s[n] ∈ s.take n
      · obtain ⟨k, hk⟩ := List.mem_iff_getElem?.mp hm
        have hkn : k < n := by have := (List.getElem?_eq_some_iff.mp hk).1; simp at this; omega
        have hk2 := hk
        rw [e] at hk2
        rw [List.getElem?_take, if_pos hkn] at hk hk2
        have := (p.2 k n (by omega) (by omega)).mp (by rw [hk, h1])
        rw [hk2, h2] at this
        exact Option.some.inj this
      · have hm2 : (t[n]'(by rw [← p.1]; omega)) ∉ t.take n := fun hm2 => by
          obtain ⟨k, hk⟩ := List.mem_iff_getElem?.mp hm2
          have hkn : k < n := by have := (List.getElem?_eq_some_iff.mp hk).1; simp at this; omega
          rw [List.getElem?_take, if_pos hkn] at hk
          have := (p.2 k n (by omega) (by omega)).mpr (by rw [hk, h2])
          rw [h1] at this
          exact hm (List.mem_of_getElem? (by rw [List.getElem?_take, if_pos hkn]; exact this))
        rw [hs n _ h1 hm, ht n _ h2 hm2, e]
  have := go s.length (Nat.le_refl _)
  rwa [List.take_length, List.take_of_length_le (by rw [p.1]; exact Nat.le_refl _)] at this
theorem canon_ids {ds : List Int} (v : Valid ds) : Canon (idsF ds) := fun i x hx hn => by
  have ok := idsF_ok v
  have hi : i < ds.length := by rw [ok.d.1]; exact (List.getElem?_eq_some_iff.mp hx).1
  rcases ok.d.2 i _ (List.getElem?_eq_getElem hi) with ⟨a1, _⟩ | ⟨j, j1, _, j3, _⟩
  · exact ids_canon v hx (by rw [List.getElem?_eq_getElem hi, a1])
  · exact absurd (List.mem_of_getElem? (by rw [List.getElem?_take, if_pos j1, j3]; exact hx)) hn
theorem erase_idx {l : List Int} (nd : l.Nodup) {k : Nat} (hk : k < l.length) : l.eraseIdx k = l.erase l[k] := by
  induction l generalizing k with
  | nil => simp at hk
  | cons a l ih =>
    obtain ⟨n1, n2⟩ := List.nodup_cons.mp nd
    cases k with
    | zero => simp
    | succ k =>
      have hk' : k < l.length := by simpa using hk
      have : a ≠ l[k] := fun e => n1 (e ▸ List.getElem_mem hk')
      simp only [List.eraseIdx_cons_succ, List.getElem_cons_succ]
      rw [List.erase_cons_tail (by simpa using this), ih n2 hk']
/-- what ranks make -/
theorem frF_ok {rs : List Int} (ok : OkR rs) : ∀ n, n ≤ rs.length → (frF (rs.take n)).1 = mtf (frF (rs.take n)).2 ∧ (frF (rs.take n)).2.length = n ∧ (frF (rs.take n)).1.length = (rs.take n).count 0 ∧ Canon (frF (rs.take n)).2 ∧
    (∀ x ∈ (frF (rs.take n)).2, 0 ≤ x ∧ x < ((rs.take n).count 0 : Nat)) := fun n => by
  induction n with
  | zero => intro _; exact ⟨rfl, rfl, rfl, fun i x h _ => by simp [frF] at h, by simp [frF]⟩
  | succ n ih =>
    intro h
    obtain ⟨h1, h2, h3, h4, h5⟩ := ih (by omega)
    have hr : rs[n]? = some rs[n] := List.getElem?_eq_getElem (by omega)
    obtain ⟨r0, r1⟩ := ok n _ hr
    have hm := mtf_ok (frF (rs.take n)).2
    rw [take_succ hr, frF_snoc, List.count_append]
    generalize rs[n] = r at *
    generalize (frF (rs.take n)).2 = ids at *
    generalize hrec : (frF (rs.take n)).1 = rec at *
    generalize (rs.take n).count 0 = c at *
    subst h1
    by_cases hz : r > 0
    · have hk : (r - 1).toNat < (mtf ids).length := by omega
      have es : stR (mtf ids) r = (mtf ids)[(r - 1).toNat] :: (mtf ids).eraseIdx (r - 1).toNat := by
        unfold stR; rw [if_pos hz, List.getElem?_eq_getElem hk]; rfl
      have hx : (mtf ids)[(r - 1).toNat] ∈ ids := (hm.2 _).mp (List.getElem_mem hk)
      rw [es]
      simp only [List.headD_cons]
      rw [erase_idx hm.1 hk]
      generalize (mtf ids)[(r - 1).toNat] = x at *
      refine ⟨by rw [mtf_snoc], by simp [h2], ?_, fun i y hy hn => ?_, fun y hy => ?_⟩
      · have hx2 := (hm.2 x).mpr hx
        have : 0 < (mtf ids).length := by omega
        simp [List.length_erase_of_mem hx2, show ¬ r = 0 by omega]
        omega
      · rcases get_snoc hy with ⟨q1, q2⟩ | ⟨q1, q2⟩
        · rw [List.take_append_of_le_length (by omega)] at hn ⊢
          exact h4 i y q2 hn
        · rw [q1, List.take_left] at hn
          rw [q2] at hn
          exact absurd hx hn
      · simp only [show ¬ r = 0 by omega, List.count_singleton]
        have hc0 : (if r == 0 then 1 else 0) = 0 := by simp [show ¬ r = 0 by omega]
        rw [hc0]
        rcases List.mem_append.mp hy with hy | hy
        · exact h5 y hy
        · have : y = x := by simpa using hy
          rw [this]; exact h5 x hx
    · have hz0 : r = 0 := by omega
      have es : stR (mtf ids) r = ((mtf ids).length : Int) :: mtf ids := by unfold stR; rw [if_neg hz]
      rw [es]
      simp only [List.headD_cons]
      have hn : ((mtf ids).length : Int) ∉ ids := fun hm2 => by
        have := h5 _ hm2; omega
      have hn2 : ((mtf ids).length : Int) ∉ mtf ids := fun h => hn ((hm.2 _).mp h)
      subst hz0
      refine ⟨by rw [mtf_snoc, List.erase_of_not_mem hn2], by simp [h2], by simp [h3], fun i y hy hn => ?_, fun y hy => ?_⟩
      · rcases get_snoc hy with ⟨q1, q2⟩ | ⟨q1, q2⟩
        · rw [List.take_append_of_le_length (by omega)] at hn ⊢
          exact h4 i y q2 hn
        · rw [q1, List.take_left]
          exact q2
      · have hc0 : ([0] : List Int).count 0 = 1 := by decide
        rw [hc0]
        rcases List.mem_append.mp hy with hy | hy
        · have := h5 y hy; omega
        · have : y = ((mtf ids).length : Int) := by simpa using hy
          rw [this]; omega
/-- the ids that ranks make -/
def idsR (rs : List Int) : List Int := (frF rs).2
theorem idsR_len {rs : List Int} (ok : OkR rs) : (idsR rs).length = rs.length := by
  have := (frF_ok ok rs.length (Nat.le_refl _)).2.1
  rwa [List.take_length] at this
theorem idsR_canon {rs : List Int} (ok : OkR rs) : Canon (idsR rs) := by
  have := (frF_ok ok rs.length (Nat.le_refl _)).2.2.2.1
  rwa [List.take_length] at this
theorem OkR.take {rs : List Int} (ok : OkR rs) (n : Nat) : OkR (rs.take n) := fun i r h => by
  rw [List.getElem?_take] at h
  split at h
  · have := ok i r h
    rw [List.take_take, Nat.min_eq_left (by omega)]
    exact this
  · cases h
theorem idsR_take {rs : List Int} (n : Nat) : (idsR rs).take n = idsR (rs.take n) := by
  have go : ∀ m, m ≤ rs.length → ∀ n, n ≤ m → (frF (rs.take m)).2.take n = (frF (rs.take n)).2 ∧ (frF (rs.take m)).2.length = m := fun m => by
    induction m with
    | zero => intro _ n hn; have : n = 0 := by omega
              subst this; exact ⟨rfl, rfl⟩
    | succ m ih =>
      intro h n hn
      have hr : rs[m]? = some rs[m] := List.getElem?_eq_getElem (by omega)
      have hl := (ih (by omega) 0 (by omega)).2
      rw [take_succ hr, frF_snoc]
      refine ⟨?_, by simp [hl]⟩
      by_cases e : n = m + 1
      · subst e
        rw [take_succ hr, frF_snoc, List.take_of_length_le (by simp [hl])]
      · rw [List.take_append_of_le_length (by omega)]
        exact (ih (by omega) n (by omega)).1
  unfold idsR
  by_cases hn : n ≤ rs.length
  · have := (go rs.length (Nat.le_refl _) n hn).1
    rwa [List.take_length] at this
  · have hl := (go rs.length (Nat.le_refl _) 0 (Nat.zero_le _)).2
    rw [List.take_length] at hl
    rw [List.take_of_length_le (by omega), List.take_of_length_le (by omega)]
theorem recR {rs : List Int} (ok : OkR rs) {n : Nat} (hn : n ≤ rs.length) : (frF (rs.take n)).1 = mtf ((idsR rs).take n) := by
  rw [idsR_take]
  exact (frF_ok ok n hn).1
theorem rec_len {rs : List Int} (ok : OkR rs) {n : Nat} (hn : n ≤ rs.length) : (mtf ((idsR rs).take n)).length = (rs.take n).count 0 := by
  rw [← recR ok hn]
  exact (frF_ok ok n hn).2.2.1
theorem rec_step {rs : List Int} (ok : OkR rs) {n : Nat} {r : Int} (hr : rs[n]? = some r) : stR (mtf ((idsR rs).take n)) r = mtf ((idsR rs).take (n + 1)) := by
  have hn : n < rs.length := (List.getElem?_eq_some_iff.mp hr).1
  rw [← recR ok (by omega), ← recR ok (by omega), take_succ hr, frF_snoc]
theorem nd_inj {l : List Int} (nd : l.Nodup) {i j : Nat} (hi : i < l.length) (hj : j < l.length) (e : l[i] = l[j]) : i = j := by
  have h := List.pairwise_iff_getElem.mp (List.nodup_iff_pairwise_ne.mp nd)
  rcases Nat.lt_trichotomy i j with q | q | q
  · exact absurd e (h i j hi hj q)
  · exact q
  · exact absurd e.symm (h j i hj hi q)
theorem stR_inj {rec : List Int} (nd : rec.Nodup) (hn : (rec.length : Int) ∉ rec) {r r' : Int} (h0 : 0 ≤ r) (h1 : r ≤ rec.length) (k0 : 0 ≤ r') (k1 : r' ≤ rec.length) (e : stR rec r = stR rec r') : r = r' := by
  unfold stR at e
  by_cases a : r > 0 <;> by_cases b : r' > 0
  · rw [if_pos a, if_pos b, List.getElem?_eq_getElem (by omega), List.getElem?_eq_getElem (by omega)] at e
    have e1 : rec[(r - 1).toNat]'(by omega) = rec[(r' - 1).toNat]'(by omega) := (List.cons.inj e).1
    have := nd_inj nd _ _ e1
    omega
  · rw [if_pos a, if_neg b, List.getElem?_eq_getElem (by omega)] at e
    have e1 : rec[(r - 1).toNat]'(by omega) = (rec.length : Int) := (List.cons.inj e).1
    exact absurd (e1 ▸ List.getElem_mem _) hn
  · rw [if_neg a, if_pos b, List.getElem?_eq_getElem (by omega)] at e
    have e1 : (rec.length : Int) = rec[(r' - 1).toNat]'(by omega) := (List.cons.inj e).1
    exact absurd (e1.symm ▸ List.getElem_mem _) hn
  · omega
theorem idsR_ids {rs : List Int} (ok : OkR rs) : idsF (dbF (idsR rs)) = idsR rs :=
  canon_eq (canon_ids (dbF_valid _)) (idsR_canon ok) (ids_pat _)
/-- the ranks of what ranks make -/
theorem rank_of {rs : List Int} (ok : OkR rs) {i : Nat} {r : Int} (hr : rs[i]? = some r) : rkF (idsR rs) (dbF (idsR rs)) i = r := by
  have hi : i < rs.length := (List.getElem?_eq_some_iff.mp hr).1
  have hl := idsR_len ok
  have v := dbF_valid (idsR rs)
  have okI := idsF_ok v
  have hx : (idsR rs)[i]? = some (idsR rs)[i] := List.getElem?_eq_getElem (by omega)
  rw [idsR_ids ok] at okI
  obtain ⟨b0, b1, b2⟩ := rank_back okI hx (fun j x h1 h2 => by
    have := ids_canon v (i := j) (x := x)
    rw [idsR_ids ok] at this
    exact this h1 h2)
  have hm := mtf_ok ((idsR rs).take i)
  have hrl := rec_len ok (n := i) (by omega)
  obtain ⟨r0, r1⟩ := ok i r hr
  refine stR_inj hm.1 (fun h => ?_) b0 b1 r0 (by omega) (b2.trans (rec_step ok hr).symm)
  have hb := (frF_ok ok i (by omega)).2.2.2.2 (((mtf ((idsR rs).take i)).length : Nat) : Int) (by
    show _ ∈ idsR (rs.take i)
    have := (hm.2 _).mp h
    rwa [idsR_take] at this ⊢)
  omega
end Dm

end

section
set_option Elab.async false
set_option linter.all false
set_option maxRecDepth 100000
set_option maxHeartbeats 2000000
namespace Dm
open Vd
/-- the ranks of a list -/
def rksF (l : List Int) : List Int := (List.range l.length).map fun (i : Nat) => rkF (idsF l) l i
theorem rksF_len (l : List Int) : (rksF l).length = l.length := by simp [rksF]
theorem rksF_at {l : List Int} {i : Nat} (h : i < l.length) : (rksF l)[i]? = some (rkF (idsF l) l i) := by
  unfold rksF; rw [List.getElem?_map, List.getElem?_range h]; rfl
theorem rksF_pre {l : List Int} (v : Valid l) : ∀ n, n ≤ l.length → (frF ((rksF l).take n)).1 = mtf ((idsF l).take n) ∧ (frF ((rksF l).take n)).2 = (idsF l).take n ∧ ((rksF l).take n).count 0 = (mtf ((idsF l).take n)).length := fun n => by
  induction n with
  | zero => intro _; exact ⟨rfl, rfl, rfl⟩
  | succ n ih =>
    intro h
    obtain ⟨h1, h2, h3⟩ := ih (by omega)
    have hl := idsF_len v
    have hx : (idsF l)[n]? = some (idsF l)[n] := List.getElem?_eq_getElem (by omega)
    obtain ⟨b0, b1, b2⟩ := rank_back (idsF_ok v) hx fun j x h1 h2 => ids_canon v h1 h2
    rw [take_succ (rksF_at (by omega)), frF_snoc, List.count_append, h1, h2, h3, b2]
    refine ⟨rfl, ?_, ?_⟩
    · rw [take_succ hx, mtf_snoc]; rfl
    · rw [← b2]
      generalize rkF (idsF l) l n = r at *
      generalize mtf ((idsF l).take n) = rec at *
      unfold stR
      by_cases hz : r > 0
      · rw [if_pos hz]
        have : 0 < rec.length := by omega
        simp [List.length_eraseIdx, show ¬ r = 0 by omega, show (r - 1).toNat < rec.length by omega, show r.toNat - 1 < rec.length by omega]
        omega
      · have : r = 0 := by omega
        subst this
        simp
theorem rksF_ok {l : List Int} (v : Valid l) : OkR (rksF l) := fun i r h => by
  have hi : i < l.length := by have := (List.getElem?_eq_some_iff.mp h).1; rwa [rksF_len] at this
  rw [rksF_at hi] at h
  cases h
  have hl := idsF_len v
  obtain ⟨b0, b1, _⟩ := rank_back (idsF_ok v) (List.getElem?_eq_getElem (l := idsF l) (i := i) (by omega)) fun j x h1 h2 => ids_canon v h1 h2
  rw [(rksF_pre v i (by omega)).2.2]
  exact ⟨b0, b1⟩
theorem idsR_rks {l : List Int} (v : Valid l) : idsR (rksF l) = idsF l := by
  have := (rksF_pre v l.length (Nat.le_refl _)).2.1
  rw [List.take_of_length_le (by rw [rksF_len]; exact Nat.le_refl _), List.take_of_length_le (by rw [idsF_len v]; exact Nat.le_refl _)] at this
  exact this
theorem db_rks {l : List Int} (v : Valid l) : dbF (idsR (rksF l)) = l := by rw [idsR_rks v, dbF_ids v]
theorem rks_db {rs : List Int} (ok : OkR rs) : rksF (dbF (idsR rs)) = rs := by
  have hl := idsR_len ok
  apply List.ext_getElem?
  intro i
  by_cases hi : i < rs.length
  · rw [rksF_at (by rw [dbF_len]; omega), idsR_ids ok, List.getElem?_eq_getElem hi]
    rw [rank_of ok (List.getElem?_eq_getElem hi)]
  · rw [List.getElem?_eq_none (by rw [rksF_len, dbF_len]; omega), List.getElem?_eq_none (by omega)]
/-- a rank is 0 where the distance is -/
theorem rk_zero {l : List Int} {i : Nat} : rkF (idsF l) l i = 0 ↔ (l[i]?).getD 0 = 0 := by
  unfold rkF
  by_cases h : (l[i]?).getD 0 = 0
  · rw [if_pos h]; exact ⟨fun _ => h, fun _ => rfl⟩
  · rw [if_neg h]; exact ⟨fun z => by omega, fun z => absurd z h⟩
theorem rks_count {l : List Int} : ∀ n, n ≤ l.length → ((rksF l).take n).count 0 = (l.take n).count 0 := fun n => by
  induction n with
  | zero => intro _; rfl
  | succ n ih =>
    intro h
    have hd : l[n]? = some l[n] := List.getElem?_eq_getElem (by omega)
    rw [take_succ (rksF_at (by omega)), take_succ hd, List.count_append, List.count_append, ih (by omega)]
    congr 1
    have := rk_zero (l := l) (i := n)
    rw [hd, Option.getD_some] at this
    generalize rkF (idsF l) l n = r at *
    generalize l[n] = d at *
    by_cases e : r = 0
    · have h0 := this.mp e
      rw [e, h0]
    · have : ¬ d = 0 := fun z => e (this.mpr z)
      simp [List.count_singleton, e, this]
end Dm
namespace K64
open PySem PySem.Spec PyProof.Rows L2 Vd Vd0 Dm
theorem map_erase {α β : Type} (f : α → β) : ∀ (l : List α) (k : Nat), (l.map f).eraseIdx k = (l.eraseIdx k).map f
  | [], _ => rfl
  | _ :: _, 0 => rfl
  | a :: l, k + 1 => by
    simp only [List.map_cons, List.eraseIdx_cons_succ]
    rw [map_erase f l k]
theorem cutm_ab (l : List Int) {a b : Nat} (h : a ≤ b) (hb : b ≤ l.length) {x : Int} (hx : x = (a : Int)) : Vd.cutD (l.map D.int) (some x) (some (b : Int)) = ((l.drop a).take (b - a)).map D.int := by
  subst hx
  have := cutm_ft l (a := a) (b := b - a) (by omega)
  rw [show (a : Int) + ((b - a : Nat) : Int) = b by omega] at this
  exact this
theorem e_rank_at {l is : List Int} (hl : is.length = l.length) (v : Dm.Valid l) (h60 : l.length ≤ 1000) {i : Nat} (hi : i < l.length) : m_rank_at [.fz (.lst (l.map .int)), .fz (.lst (is.map .int)), .fz (.int i)] = some (.fz (.int (rkF is l i)), [.fz (.lst (l.map .int)), .fz (.lst (is.map .int)), .fz (.int i)]) := by
  have hd : l[i]? = some l[i] := List.getElem?_eq_getElem hi
  obtain ⟨b0, b1⟩ := v.bd i _ hd
  have ha : atI (l.map D.int) (i : Int) = some (.int l[i]) := by
    rw [atI_map, atI_nat (by omega) (by omega), Int.toNat_natCast, hd]; rfl
  unfold rkF
  rw [hd, Option.getD_some]
  generalize l[i] = d at *
  by_cases hz : d = 0
  · subst hz
    simp [m_rank_at, e_runD, b_rank_at, N_rank_at, I_rank_at_1, ha]
  · have cu := cutm_ab is (a := i - d.toNat + 1) (b := i) (by omega) (by omega) (x := (i : Int) - d + 1) (by omega)
    rw [show i - (i - d.toNat + 1) = d.toNat - 1 by omega] at cu
    rw [if_neg hz]
    have ti : toInts (List.map D.int (List.take (d.toNat - 1) (List.drop (i - d.toNat + 1) is))) = some ((is.drop (i - d.toNat + 1)).take (d.toNat - 1)) := toInts_map _
    have hlen : ((is.drop (i - d.toNat + 1)).take (d.toNat - 1)).length ≤ 4000 := by simp; omega
    generalize hS : (is.drop (i - d.toNat + 1)).take (d.toNat - 1) = S at *
    simp [m_rank_at, e_runD, b_rank_at, N_rank_at, I_rank_at_1, ha, hz, cu, hlen]
theorem e_recency {l : List Int} (v : Dm.Valid l) (hl : l.length ≤ 400) : m_recency_ranks [.fz (.lst (l.map .int))] = some (.fz (.lst ((rksF l).map .int)), [.fz (.lst (l.map .int))]) := by
  have c1 := e_checked v hl
  have c2 := e_ids_of' v (by omega)
  have hc := lc_rel (all_rg l.length) (vs := [3]) (g := gN 3) (t := T_recency_ranks_1) (f := E_recency_ranks_1)
    (e := [.fz (.lst (l.map .int)), .fz (.lst (l.map .int)), .fz (.lst ((idsF l).map .int)), .no]) (fun _ => true) (fun k => rkF (idsF l) l k) D.int (by simp; omega) (by
      rintro k d hk rfl
      have hk := List.mem_range.mp hk
      refine ⟨_, [.fz (.lst (l.map .int)), .fz (.lst (l.map .int)), .fz (.lst ((idsF l).map .int)), .fz (.int k)], e_gN 3 _, ?_, fun _ => ⟨[.fz (.lst (l.map .int)), .fz (.lst (l.map .int)), .fz (.lst ((idsF l).map .int)), .fz (.int k)], ?_, ?_⟩, fun z => (by cases z)⟩
      · simp [T_recency_ranks_1, fYes]
      · simp [E_recency_ranks_1, e_rank_at (idsF_len v) v (by omega) hk]
      · simp)
  rw [filter_t] at hc
  have hr : (List.range l.length).map (fun k => rkF (idsF l) l k) = rksF l := rfl
  rw [hr] at hc
  simp [m_recency_ranks, e_runD, b_recency_ranks, N_recency_ranks, c1, c2, show (l.length : Int) ≤ 1000000000 by omega, hc]
theorem e_from_ranks {rs : List Int} (ok : OkR rs) (hl : rs.length ≤ 400) : m_distances_from_ranks [.fz (.lst (rs.map .int))] = some (.fz (.lst ((dbF (idsR rs)).map .int)), [.fz (.lst (rs.map .int))]) := by
  have hd := e_distances_by (s := idsR rs) (by rw [idsR_len ok]; omega)
  obtain ⟨e', h1, p, rfl⟩ := loopF_inv (g := gN 3) (b := L_distances_from_ranks_1) (ds := rs.map .int)
    (fun i e => ∃ p : Sl, e = [.fz (.lst (rs.map .int)), .ow (.lst ((frF (rs.take i)).2.map .int)), .ow (.lst ((frF (rs.take i)).1.map .int)), p]) (e0 := [.fz (.lst (rs.map .int)), .ow (.lst []), .ow (.lst []), .no]) ⟨.no, rfl⟩ (fun i d e hd hi => by
      obtain ⟨p, rfl⟩ := hi
      rw [List.getElem?_map] at hd
      obtain ⟨r, hr, rfl⟩ := Option.map_eq_some_iff.mp hd
      have hil : i < rs.length := (List.getElem?_eq_some_iff.mp hr).1
      obtain ⟨r0, r1⟩ := ok i r hr
      obtain ⟨_, k2, k3, _⟩ := frF_ok ok i (by omega)
      have hc : (rs.take i).count 0 ≤ i := Nat.le_trans List.count_le_length (by simp; omega)
      refine ⟨_, [.fz (.lst (rs.map .int)), .ow (.lst ((frF (rs.take (i + 1))).2.map .int)), .ow (.lst ((frF (rs.take (i + 1))).1.map .int)), .fz (.int r)], e_gN 3 _, ?_, _, rfl⟩
      rw [take_succ hr, frF_snoc]
      simp only []
      rw [← k3] at r1
      generalize (frF (rs.take i)).1 = rec at *
      generalize (frF (rs.take i)).2 = ids at *
      unfold stR
      by_cases hz : r > 0
      · rw [if_pos hz, show (r - 1).toNat = r.toNat - 1 by omega]
        have hk : r.toNat - 1 < rec.length := by omega
        have hg : rec[r.toNat - 1]? = some rec[r.toNat - 1] := List.getElem?_eq_getElem hk
        have he : (rec.eraseIdx (r.toNat - 1)).length < 100000 := by rw [List.length_eraseIdx]; split <;> omega
        have hm : (rec.map D.int).eraseIdx (r.toNat - 1) = (rec.eraseIdx (r.toNat - 1)).map .int := map_erase _ _ _
        rw [hg, Option.getD_some]
        generalize rec[r.toNat - 1] = x at hg
        simp [L_distances_from_ranks_1, I_distances_from_ranks_2, r0, r1, hz, show 1 ≤ r by omega, show r - 1 < 1073741824 by omega, hg, hm, he, show ids.length < 100000 by omega]
      · have : r = 0 := by omega
        subst this
        simp [L_distances_from_ranks_1, I_distances_from_ranks_2, show rec.length < 100000 by omega, show ids.length < 100000 by omega])
  rw [List.length_map, List.take_length] at h1
  simp [m_distances_from_ranks, e_runD, b_distances_from_ranks, N_distances_from_ranks, I_distances_from_ranks_1, h1]
  unfold idsR at hd
  simp [hd, idsR]
end K64

end

section
set_option Elab.async false
set_option linter.all false
set_option maxRecDepth 100000
set_option maxHeartbeats 2000000
namespace Dm
/-- ways to go on: L places left, u symbols so far, at most w -/
def T (w : Nat) : Nat → Nat → Int
  | 0, _ => 1
  | L + 1, u => u * T w L u + (if u < w then T w L (u + 1) else 0)
def fr (w L u : Nat) : Int := if u < w then T w L (u + 1) else 0
theorem T_succ (w L u : Nat) : T w (L + 1) u = u * T w L u + fr w L u := rfl
theorem T_nn (w : Nat) : ∀ L u, 0 ≤ T w L u
  | 0, _ => by simp [T]
  | L + 1, u => by
    rw [T_succ]
    have h1 := Int.mul_nonneg (Int.natCast_nonneg u) (T_nn w L u)
    have h2 : 0 ≤ fr w L u := by unfold fr; split; exact T_nn w L _; exact Int.le_refl _
    omega
theorem fr_nn (w L u : Nat) : 0 ≤ fr w L u := by unfold fr; split; exact T_nn w L _; exact Int.le_refl _
theorem T_pos (w : Nat) : ∀ L u, 1 ≤ u → 0 < T w L u
  | 0, _, _ => by simp [T]
  | L + 1, u, h => by
    rw [T_succ]
    have h1 : 0 < (u : Int) * T w L u := Int.mul_pos (by omega) (T_pos w L u h)
    have h2 := fr_nn w L u
    omega
theorem T_le (w : Nat) : ∀ L u, u ≤ w → T w L u ≤ (w + 1 : Int) ^ L
  | 0, _, _ => by simp [T]
  | L + 1, u, h => by
    rw [T_succ, Int.pow_succ]
    have h1 := T_le w L u h
    have h0 := T_nn w L u
    have hp : (0 : Int) ≤ (w + 1 : Int) ^ L := Int.le_trans h0 h1
    unfold fr
    split
    · have h2 := T_le w L (u + 1) (by omega)
      have h3 : (u : Int) * T w L u ≤ (u : Int) * (w + 1 : Int) ^ L := Int.mul_le_mul_of_nonneg_left h1 (by omega)
      have h4 : (u : Int) * (w + 1 : Int) ^ L + (w + 1 : Int) ^ L ≤ (w + 1 : Int) ^ L * (w + 1) := by
        have e : (u : Int) * (w + 1 : Int) ^ L + (w + 1 : Int) ^ L = (w + 1 : Int) ^ L * (u + 1) := by rw [Int.mul_add, Int.mul_one, Int.mul_comm]
        rw [e]
        exact Int.mul_le_mul_of_nonneg_left (by omega) hp
      omega
    · have h3 : (u : Int) * T w L u ≤ (w + 1 : Int) ^ L * (w + 1) := by
        have a1 : (u : Int) * T w L u ≤ (u : Int) * (w + 1 : Int) ^ L := Int.mul_le_mul_of_nonneg_left h1 (by omega)
        have a2 : (w + 1 : Int) ^ L * (u : Int) ≤ (w + 1 : Int) ^ L * (w + 1) := Int.mul_le_mul_of_nonneg_left (by omega) hp
        have a3 : (u : Int) * (w + 1 : Int) ^ L = (w + 1 : Int) ^ L * (u : Int) := Int.mul_comm _ _
        omega
      omega
def Nm (w : Nat) : List Int → Nat → Int
  | [], _ => 0
  | r :: rs, u => if r = 0 then Nm w rs (u + 1) else fr w rs.length u + (r - 1) * T w rs.length u + Nm w rs u
def Un (w : Nat) : Nat → Nat → Int → List Int
  | 0, _, _ => []
  | L + 1, u, k => if k < fr w L u then 0 :: Un w L (u + 1) k else ((k - fr w L u) / T w L u + 1) :: Un w L u ((k - fr w L u) % T w L u)
def Okw (w : Nat) : List Int → Nat → Prop
  | [], _ => True
  | r :: rs, u => 0 ≤ r ∧ r ≤ u ∧ ((r = 0 → u < w ∧ Okw w rs (u + 1)) ∧ (r ≠ 0 → Okw w rs u))
theorem Nm_bd {w : Nat} : ∀ {rs : List Int} {u : Nat}, u ≤ w → Okw w rs u → 0 ≤ Nm w rs u ∧ Nm w rs u < T w rs.length u
  | [], u, _, _ => by simp [Nm, T]
  | r :: rs, u, hu, h => by
    obtain ⟨h0, h1, h2, h3⟩ := h
    have hT := T_nn w rs.length u
    have hm := Int.mul_nonneg (Int.natCast_nonneg u) hT
    rw [List.length_cons, T_succ]
    unfold Nm
    by_cases hz : r = 0
    · rw [if_pos hz]
      obtain ⟨a1, a2⟩ := h2 hz
      have := Nm_bd (by omega) a2
      unfold fr
      rw [if_pos a1]
      omega
    · rw [if_neg hz]
      have := Nm_bd hu (h3 hz)
      have hf := fr_nn w rs.length u
      have b1 : 0 ≤ (r - 1) * T w rs.length u := Int.mul_nonneg (by omega) hT
      have b2 : (r - 1) * T w rs.length u + T w rs.length u ≤ (u : Int) * T w rs.length u := by
        have e : (r - 1) * T w rs.length u + T w rs.length u = r * T w rs.length u := by rw [Int.sub_mul]; omega
        rw [e]
        exact Int.mul_le_mul_of_nonneg_right h1 hT
      omega
theorem Un_Nm {w : Nat} : ∀ {rs : List Int} {u : Nat}, u ≤ w → Okw w rs u → Un w rs.length u (Nm w rs u) = rs
  | [], u, _, _ => rfl
  | r :: rs, u, hu, h => by
    obtain ⟨h0, h1, h2, h3⟩ := h
    rw [List.length_cons]
    unfold Un Nm
    by_cases hz : r = 0
    · rw [if_pos hz]
      obtain ⟨a1, a2⟩ := h2 hz
      have := Nm_bd (by omega) a2
      have hf : fr w rs.length u = T w rs.length (u + 1) := by unfold fr; rw [if_pos a1]
      rw [if_pos (by omega), Un_Nm (by omega) a2, hz]
    · rw [if_neg hz]
      have hb := Nm_bd hu (h3 hz)
      have hT := T_nn w rs.length u
      have b1 : 0 ≤ (r - 1) * T w rs.length u := Int.mul_nonneg (by omega) hT
      rw [if_neg (by omega)]
      have e : fr w rs.length u + (r - 1) * T w rs.length u + Nm w rs u - fr w rs.length u = Nm w rs u + (r - 1) * T w rs.length u := by omega
      rw [e, Int.add_mul_ediv_right _ _ (by omega), Int.add_mul_emod_self_right, Int.ediv_eq_zero_of_lt hb.1 hb.2, Int.emod_eq_of_lt hb.1 hb.2, Un_Nm hu (h3 hz)]
      congr 1; omega
theorem Un_pos {w L u : Nat} {k : Int} (h1 : k < T w (L + 1) u) (h2 : ¬ k < fr w L u) : 0 < T w L u := by
  rw [T_succ] at h1
  have h3 : 0 < (u : Int) * T w L u := by omega
  rcases Int.lt_or_le 0 (T w L u) with h | h
  · exact h
  · have := T_nn w L u
    have e : T w L u = 0 := by omega
    rw [e, Int.mul_zero] at h3
    omega
theorem Un_ok {w : Nat} : ∀ {n u : Nat} {k : Int}, u ≤ w → 0 ≤ k → k < T w n u → Okw w (Un w n u k) u ∧ Nm w (Un w n u k) u = k ∧ (Un w n u k).length = n
  | 0, u, k, _, h0, h1 => by
    have : k = 0 := by simp [T] at h1; omega
    exact ⟨trivial, by rw [this]; rfl, rfl⟩
  | L + 1, u, k, hu, h0, h1 => by
    unfold Un
    by_cases hk : k < fr w L u
    · rw [if_pos hk]
      have hw : u < w := by
        apply Classical.byContradiction
        intro z
        unfold fr at hk
        rw [if_neg z] at hk
        omega
      have hf : fr w L u = T w L (u + 1) := by unfold fr; rw [if_pos hw]
      obtain ⟨a1, a2, a3⟩ := Un_ok (w := w) (n := L) (u := u + 1) (k := k) (by omega) h0 (by omega)
      exact ⟨⟨Int.le_refl _, by omega, fun _ => ⟨hw, a1⟩, fun z => absurd rfl z⟩, by unfold Nm; rw [if_pos rfl, a2], by simp [a3]⟩
    · rw [if_neg hk]
      have hp := Un_pos h1 hk
      rw [T_succ] at h1
      obtain ⟨a1, a2, a3⟩ := Un_ok (w := w) (n := L) (u := u) (k := (k - fr w L u) % T w L u) hu (Int.emod_nonneg _ (by omega)) (Int.emod_lt_of_pos _ hp)
      have q0 : 0 ≤ (k - fr w L u) / T w L u := Int.ediv_nonneg (by omega) (by omega)
      have q1 : (k - fr w L u) / T w L u < u := Int.ediv_lt_of_lt_mul hp (by omega)
      have hd := Int.mul_ediv_add_emod (k - fr w L u) (T w L u)
      generalize (k - fr w L u) / T w L u = q at *
      generalize (k - fr w L u) % T w L u = m at *
      refine ⟨⟨by omega, by omega, fun z => by omega, fun _ => a1⟩, ?_, by simp [a3]⟩
      unfold Nm
      rw [if_neg (by omega), a2, a3]
      have e : (q + 1 - 1) * T w L u = T w L u * q := by rw [Int.add_sub_cancel, Int.mul_comm]
      rw [e]; omega
/-- the numbers are in the order of the ranks -/
theorem Nm_lt {w : Nat} : ∀ {rs rs' : List Int} {u : Nat}, u ≤ w → Okw w rs u → Okw w rs' u → rs.length = rs'.length → Nm w rs u < Nm w rs' u → ∃ (i : Nat) (r r' : Int), rs.take i = rs'.take i ∧ rs[i]? = some r ∧ rs'[i]? = some r' ∧ r < r'
  | [], [], u, _, _, _, _, h => by simp [Nm] at h
  | [], _ :: _, _, _, _, _, h, _ => by simp at h
  | _ :: _, [], _, _, _, _, h, _ => by simp at h
  | r :: rs, r' :: rs', u, hu, ok, ok', hl0, h => by
    have hl : rs.length = rs'.length := by simpa using hl0
    clear hl0
    obtain ⟨a0, a1, a2, a3⟩ := ok
    obtain ⟨b0, b1, b2, b3⟩ := ok'
    by_cases e : r = r'
    · subst e
      unfold Nm at h
      rw [hl] at h
      by_cases hz : r = 0
      · rw [if_pos hz, if_pos hz] at h
        obtain ⟨i, x, y, q1, q2, q3, q4⟩ := Nm_lt (by have := (a2 hz).1; omega) (a2 hz).2 (b2 hz).2 hl h
        exact ⟨i + 1, x, y, by simp [q1], by simpa using q2, by simpa using q3, q4⟩
      · rw [if_neg hz, if_neg hz] at h
        obtain ⟨i, x, y, q1, q2, q3, q4⟩ := Nm_lt hu (a3 hz) (b3 hz) hl (by omega)
        exact ⟨i + 1, x, y, by simp [q1], by simpa using q2, by simpa using q3, q4⟩
    · by_cases hlt : r < r'
      · exact ⟨0, r, r', rfl, rfl, rfl, hlt⟩
      · exfalso
        have hz : ¬ r = 0 := by omega
        unfold Nm at h
        rw [if_neg hz, hl] at h
        have hb := Nm_bd hu (a3 hz)
        have hT := T_nn w rs'.length u
        by_cases hz' : r' = 0
        · rw [if_pos hz'] at h
          have hb' := Nm_bd (by have := (b2 hz').1; omega) (b2 hz').2
          have hf : fr w rs'.length u = T w rs'.length (u + 1) := by unfold fr; rw [if_pos (b2 hz').1]
          have : 0 ≤ (r - 1) * T w rs'.length u := Int.mul_nonneg (by omega) hT
          omega
        · rw [if_neg hz'] at h
          have hb' := Nm_bd hu (b3 hz')
          have : (r' - 1) * T w rs'.length u + T w rs'.length u ≤ (r - 1) * T w rs'.length u := by
            have e : (r' - 1) * T w rs'.length u + T w rs'.length u = r' * T w rs'.length u := by rw [Int.sub_mul]; omega
            rw [e]
            exact Int.mul_le_mul_of_nonneg_right (by omega) hT
          omega
/-- what Okw says of a whole list of ranks -/
theorem okw_iff {w : Nat} : ∀ {rs : List Int} {u : Nat}, u ≤ w → (Okw w rs u ↔ (∀ (i : Nat) (r : Int), rs[i]? = some r → 0 ≤ r ∧ r ≤ (u + (rs.take i).count 0 : Nat)) ∧ u + rs.count 0 ≤ w)
  | [], u, hu => ⟨fun _ => ⟨fun i r h => by simp at h, by simpa using hu⟩, fun _ => trivial⟩
  | r :: rs, u, hu => by
    by_cases hz : r = 0
    · subst hz
      constructor
      · rintro ⟨a0, a1, a2, a3⟩
        obtain ⟨b1, b2⟩ := a2 rfl
        obtain ⟨c1, c2⟩ := (okw_iff (by omega)).mp b2
        refine ⟨fun i x h => ?_, by simp; omega⟩
        cases i with
        | zero => cases h; simp
        | succ i =>
          have := c1 i x (by simpa using h)
          simp; omega
      · rintro ⟨h1, h2⟩
        simp at h2
        refine ⟨Int.le_refl _, by omega, fun _ => ⟨by omega, (okw_iff (by omega)).mpr ⟨fun i x h => ?_, by omega⟩⟩, fun z => absurd rfl z⟩
        have := h1 (i + 1) x (by simpa using h)
        simp at this; omega
    · constructor
      · rintro ⟨a0, a1, a2, a3⟩
        obtain ⟨c1, c2⟩ := (okw_iff hu).mp (a3 hz)
        refine ⟨fun i x h => ?_, by simp [List.count_cons, hz]; omega⟩
        cases i with
        | zero => cases h; simp; omega
        | succ i =>
          have := c1 i x (by simpa using h)
          simp [List.count_cons, hz]; omega
      · rintro ⟨h1, h2⟩
        have h0 := h1 0 r rfl
        simp at h0
        simp [List.count_cons, hz] at h2
        refine ⟨h0.1, by omega, fun z => absurd z hz, fun _ => (okw_iff hu).mpr ⟨fun i x h => ?_, by omega⟩⟩
        have := h1 (i + 1) x (by simpa using h)
        simp [List.count_cons, hz] at this; omega
theorem okw_of {w : Nat} {rs : List Int} (h : OkR rs) (hw : rs.count 0 ≤ w) : Okw w rs 0 := (okw_iff (Nat.zero_le _)).mpr ⟨fun i r hr => by simpa using h i r hr, by simpa using hw⟩
theorem okw_to {w : Nat} {rs : List Int} (h : Okw w rs 0) : OkR rs ∧ rs.count 0 ≤ w := by
  obtain ⟨h1, h2⟩ := (okw_iff (Nat.zero_le _)).mp h
  exact ⟨fun i r hr => by simpa using h1 i r hr, by simpa using h2⟩
end Dm

end

section
set_option Elab.async false
set_option linter.all false
set_option maxRecDepth 100000
set_option maxHeartbeats 2000000
namespace Dm
/-- the number of ways to use exactly k symbols in j places -/
def S : Nat → Nat → Int
  | 0, 0 => 1
  | 0, _ + 1 => 0
  | _ + 1, 0 => 0
  | j + 1, k + 1 => S j k + (k + 1) * S j (k + 1)
def sm (f : Nat → Int) : Nat → Int
  | 0 => f 0
  | k + 1 => sm f k + f (k + 1)
theorem sm_succ (f : Nat → Int) (k : Nat) : sm f (k + 1) = sm f k + f (k + 1) := rfl
theorem sm_ext {f g : Nat → Int} : ∀ n, (∀ k, k ≤ n → f k = g k) → sm f n = sm g n
  | 0, h => h 0 (Nat.le_refl _)
  | n + 1, h => by unfold sm; rw [sm_ext n fun k hk => h k (by omega), h (n + 1) (Nat.le_refl _)]
theorem S_zero : ∀ {j k : Nat}, j < k → S j k = 0
  | 0, 0, h => by omega
  | 0, k + 1, _ => rfl
  | j + 1, 0, h => by omega
  | j + 1, k + 1, h => by
    unfold S
    rw [S_zero (by omega), S_zero (by omega)]
    simp
theorem S_T (w L j : Nat) : ∀ v, v ≤ w → sm (fun u => S j u * T w (L + 1) u) v = sm (fun u => S (j + 1) u * T w L u) v + S j v * fr w L v
  | 0, _ => by
    show S j 0 * T w (L + 1) 0 = S (j + 1) 0 * T w L 0 + _
    rw [T_succ]
    have : S (j + 1) 0 = 0 := rfl
    rw [this]
    simp
  | v + 1, h => by
    have ih := S_T w L j v (by omega)
    unfold sm
    rw [ih, T_succ]
    have hf : fr w L v = T w L (v + 1) := by unfold fr; rw [if_pos (by omega)]
    have hS : S (j + 1) (v + 1) = S j v + (v + 1) * S j (v + 1) := rfl
    rw [hf, hS, Int.mul_add, Int.add_mul]
    have e : S j (v + 1) * (((v + 1 : Nat) : Int) * T w L (v + 1)) = ((v : Int) + 1) * S j (v + 1) * T w L (v + 1) := by
      rw [← Int.mul_assoc, Int.mul_comm (S j (v + 1))]; rfl
    omega
theorem T_sum (w n : Nat) : ∀ j, j ≤ n → T w n 0 = sm (fun u => S j u * T w (n - j) u) w
  | 0, _ => by
    have go : ∀ v, sm (fun u => S 0 u * T w (n - 0) u) v = T w n 0 := fun v => by
      induction v with
      | zero => show S 0 0 * T w n 0 = _; rw [show S 0 0 = 1 from rfl, Int.one_mul]
      | succ v ih => unfold sm; rw [ih, show S 0 (v + 1) = 0 from rfl]; simp
    exact (go w).symm
  | j + 1, h => by
    rw [T_sum w n j (by omega)]
    have e : n - j = (n - (j + 1)) + 1 := by omega
    rw [e, S_T w (n - (j + 1)) j w (Nat.le_refl _)]
    have hf : fr w (n - (j + 1)) w = 0 := by unfold fr; rw [if_neg (by omega)]
    rw [hf]; simp
theorem T_S (w n : Nat) : T w n 0 = sm (S n) w := by
  rw [T_sum w n n (Nat.le_refl _)]
  refine sm_ext w fun k _ => ?_
  rw [Nat.sub_self]
  show S n k * 1 = _
  rw [Int.mul_one]
theorem T_rec {n m : Nat} (hm : 1 ≤ m) : T (min n m) n 0 = T (min n (m - 1)) n 0 + S n m := by
  rw [T_S, T_S]
  rcases Nat.le_total m n with h | h
  · rw [Nat.min_eq_right h, Nat.min_eq_right (by omega)]
    have e := sm_succ (S n) (m - 1)
    rw [show m - 1 + 1 = m by omega] at e
    exact e
  · rcases Nat.lt_or_ge n m with h2 | h2
    · rw [Nat.min_eq_left h, Nat.min_eq_left (by omega), S_zero h2]; omega
    · have : n = m := by omega
      subst this
      rw [Nat.min_self, Nat.min_eq_right (by omega)]
      have e := sm_succ (S n) (n - 1)
      rw [show n - 1 + 1 = n by omega] at e
      exact e
end Dm
namespace K64
open PySem PySem.Spec PyProof.Rows L2 Vd Vd0 Dm
def rowI (w L : Nat) : List Int := (List.range (w + 1)).map fun u => T w L u
def rowD (w L : Nat) : D := .lst ((rowI w L).map .int)
def tabD (w n : Nat) : D := .lst ((List.range (n + 1)).map (rowD w))
theorem rowI_at {w L u : Nat} (h : u ≤ w) : (rowI w L)[u]? = some (T w L u) := by
  unfold rowI; rw [List.getElem?_map, List.getElem?_range (by omega)]; rfl
theorem row_ix {w L u : Nat} (h : u ≤ w) : atI ((rowI w L).map D.int) (u : Int) = some (.int (T w L u)) := by
  rw [atI_map, atI_nat (by omega) (by simp [rowI]; omega), Int.toNat_natCast, rowI_at h]; rfl
theorem row_ix1 {w L u : Nat} (h : u < w) : atI ((rowI w L).map D.int) ((u : Int) + 1) = some (.int (T w L (u + 1))) := by
  have := row_ix (w := w) (L := L) (u := u + 1) (by omega)
  rw [show ((u + 1 : Nat) : Int) = (u : Int) + 1 by omega] at this
  exact this
theorem tab_ix {w n L : Nat} (h : L ≤ n) : atI ((List.range (n + 1)).map (rowD w)) (L : Int) = some (rowD w L) := by
  rw [atI_map, atI_nat (by omega) (by simp; omega), Int.toNat_natCast, List.getElem?_range (by omega)]; rfl
theorem row0 (w : Nat) : (List.replicate (w + 1) [D.int 1]).flatten = (rowI w 0).map D.int := by
  unfold rowI
  rw [List.map_map]
  have : ((D.int ∘ fun u => T w 0 u) : Nat → D) = fun _ => D.int 1 := rfl
  rw [this, List.map_const', List.length_range]
  induction w + 1 with
  | zero => rfl
  | succ k ih => rw [List.replicate_succ, List.flatten_cons, ih, List.replicate_succ]; rfl
theorem e_table {n m : Nat} (hn : n ≤ 400) : m_completion_table [.fz (.int n), .fz (.int m)] = some (.fz (tabD (min n m) n), [.fz (.int n), .fz (.int m)]) := by
  have hm : vMin (.int n) (.int m) = some (.int ((min n m : Nat) : Int)) := by
    have : (if (m : Int) < n then (m : Int) else n) = ((min n m : Nat) : Int) := by split <;> omega
    show some (D.int (if (m : Int) < n then (m : Int) else n)) = _
    rw [this]
  have hw : min n m ≤ 400 := by omega
  generalize min n m = w at *
  obtain ⟨e', h1, p, q, r, rfl⟩ := loopF_inv (g := gN 4) (b := L_completion_table_1) (ds := rgD 0 n)
    (fun i e => ∃ p q r : Sl, e = [.fz (.int n), .fz (.int m), .fz (.int w), .ow (tabD w i), p, q, r, .no]) (e0 := [.fz (.int n), .fz (.int m), .fz (.int w), .ow (tabD w 0), .no, .no, .no, .no]) ⟨_, _, _, rfl⟩ (fun i d e hd hi => by
      obtain ⟨p, q, r, rfl⟩ := hi
      obtain ⟨rfl, hin⟩ := rg_get hd
      have hlast : atI ((List.range (i + 1)).map (rowD w)) (-1) = some (rowD w i) := by
        rw [List.range_succ, List.map_append]; exact atI_snoc _ _
      have hc := lc_rel (all_rg (w + 1)) (vs := [7]) (g := gN 7) (t := T_completion_table_1) (f := E_completion_table_1)
        (e := [.fz (.int n), .fz (.int m), .fz (.int w), .ow (tabD w i), .fz (.int i), .fz (rowD w i), r, .no]) (fun _ => true) (fun u => T w (i + 1) u) D.int (by simp; omega) (by
          rintro u d hu rfl
          have hu := List.mem_range.mp hu
          refine ⟨_, [.fz (.int n), .fz (.int m), .fz (.int w), .ow (tabD w i), .fz (.int i), .fz (rowD w i), r, .fz (.int u)], e_gN 7 _, ?_, fun _ => ⟨[.fz (.int n), .fz (.int m), .fz (.int w), .ow (tabD w i), .fz (.int i), .fz (rowD w i), r, .fz (.int u)], ?_, ?_⟩, fun z => (by cases z)⟩
          · simp [T_completion_table_1, fYes]
          · have m1 : CMulW (u : Int) (T w i u) ∨ CMul (u : Int) (T w i u) := cmul_l (by omega) (by omega)
            rw [T_succ]
            unfold fr
            by_cases huw : u < w
            · simp [E_completion_table_1, rowD, row_ix (w := w) (L := i) (u := u) (by omega), row_ix1 (w := w) (L := i) (u := u) huw, m1, huw]
            · simp [E_completion_table_1, rowD, row_ix (w := w) (L := i) (u := u) (by omega), m1, huw]
          · simp)
      rw [filter_t] at hc
      have hrow : (List.range (w + 1)).map (fun u => T w (i + 1) u) = rowI w (i + 1) := rfl
      rw [hrow] at hc
      have happ : tabD w (i + 1) = .lst ((List.range (i + 1)).map (rowD w) ++ [rowD w (i + 1)]) := by
        unfold tabD
        rw [List.range_succ (n := i + 1), List.map_append]; rfl
      refine ⟨_, [.fz (.int n), .fz (.int m), .fz (.int w), .ow (tabD w (i + 1)), .fz (.int i), .fz (rowD w i), .fz (rowD w (i + 1)), .no], e_gN 4 _, ?_, _, _, _, rfl⟩
      have hrd : rowD w (i + 1) = .lst ((rowI w (i + 1)).map .int) := rfl
      have htd : tabD w i = .lst ((List.range (i + 1)).map (rowD w)) := rfl
      rw [happ]
      rw [htd] at hc ⊢
      rw [hrd]
      generalize hR : (List.range (i + 1)).map (rowD w) = R at *
      have hRl : R.length = i + 1 := by rw [← hR]; simp
      generalize rowD w i = q0 at *
      generalize (rowI w (i + 1)).map D.int = q1 at *
      simp [L_completion_table_1, hlast, show (w : Int) + 1 ≤ 1000000000 by omega, show -1000000000 ≤ (w : Int) + 1 by omega, show ((w : Int) + 1).toNat = w + 1 by omega, hc, show R.length < 100000 by omega])
  rw [rg_len] at h1
  have h0 : tabD w 0 = .lst [.lst (List.replicate (w + 1) [D.int 1]).flatten] := by rw [row0]; rfl
  have hfl : (List.replicate (w + 1) [D.int 1]).flatten = List.replicate (w + 1) (D.int 1) := by simp
  rw [h0, hfl] at h1
  generalize tabD w n = TT at *
  simp [m_completion_table, e_runD, b_completion_table, N_completion_table, -e_min, hm, show -(9223372036854775808 : Int) ≤ (w : Int) + 1 by omega, show (w : Int) + 1 < 9223372036854775808 by omega, show ((w : Int) + 1).toNat = w + 1 by omega, show w + 1 ≤ 100000 by omega, show (n : Int) ≤ 1000000000 by omega, h1]
end K64

end

section
set_option Elab.async false
set_option linter.all false
set_option maxRecDepth 100000
set_option maxHeartbeats 2000000
namespace K64
open PySem PySem.Spec PyProof.Rows L2 Vd Vd0 Dm
theorem e_count_lists {n m : Nat} (hn : n ≤ 400) : m_count_lists [.fz (.int n), .fz (.int m)] = some (.fz (.int (T (min n m) n 0)), [.fz (.int n), .fz (.int m)]) := by
  have c1 := e_check_number (p := n) (hi := 400) (by omega) (by omega)
  have c2 := e_check_number0 (p := (m : Int)) (by omega)
  have c3 := e_table (m := m) hn
  have c4 := tab_ix (w := min n m) (n := n) (L := n) (Nat.le_refl _)
  have c5 := row_ix (w := min n m) (L := n) (u := 0) (Nat.zero_le _)
  generalize min n m = w at *
  unfold tabD at c3
  unfold rowD at c4
  generalize T w n 0 = t at *
  generalize (rowI w n).map D.int = R at *
  have c5 : atI R 0 = some (.int t) := c5
  generalize hTB : (List.range (n + 1)).map (rowD w) = TB at *
  have c4 : atI TB (n : Int) = some (.lst R) := by rw [← hTB]; exact c4
  simp [m_count_lists, e_runD, b_count_lists, N_count_lists, c1, c2, c3, c4, c5]
theorem tab_ix' {w n i : Nat} (h : i < n) : atI ((List.range (n + 1)).map (rowD w)) ((n : Int) - i - 1) = some (.lst ((rowI w (n - (i + 1))).map .int)) := by
  have := tab_ix (w := w) (n := n) (L := n - (i + 1)) (by omega)
  rw [show ((n - (i + 1) : Nat) : Int) = (n : Int) - i - 1 by omega] at this
  exact this
theorem e_rank_list {l : List Int} (v : Dm.Valid l) (hl : l.length ≤ 60) {m : Nat} (hm : l.count 0 ≤ m) : m_rank_list [.fz (.lst (l.map .int)), .fz (.int m)] = some (.fz (.int (Nm (min l.length m) (rksF l) 0)), [.fz (.lst (l.map .int)), .fz (.int m)]) := by
  have hcl : l.count 0 ≤ l.length := List.count_le_length
  have c1 := e_checked v (by omega)
  have c2 := e_check_number0 (p := (m : Int)) (by omega)
  have c3 := e_symbol_count (ds := l) (by omega)
  have c4 := e_table (n := l.length) (m := m) (by omega)
  have c5 := e_ids_of' v (by omega)
  have hw : min l.length m ≤ 60 := by omega
  have hcw : l.count 0 ≤ min l.length m := by omega
  have hmin : vMin (.int l.length) (.int m) = some (.int ((min l.length m : Nat) : Int)) := by
    have : (if (m : Int) < l.length then (m : Int) else l.length) = ((min l.length m : Nat) : Int) := by split <;> omega
    show some (D.int (if (m : Int) < l.length then (m : Int) else l.length)) = _
    rw [this]
  generalize min l.length m = w at *
  have hrl := rksF_len l
  have rcount : ∀ i, i ≤ l.length → ((rksF l).take i).count 0 ≤ l.count 0 := fun i hi => by
    rw [rks_count i hi]
    exact List.Sublist.count_le 0 (List.take_sublist i l)
  have htd : tabD w l.length = .lst ((List.range (l.length + 1)).map (rowD w)) := rfl
  rw [htd] at c4
  have hix : ∀ i, i < l.length → atI ((List.range (l.length + 1)).map (rowD w)) ((l.length : Int) - i - 1) = some (.lst ((rowI w (l.length - (i + 1))).map .int)) := fun i hi => tab_ix' hi
  generalize (List.range (l.length + 1)).map (rowD w) = TB at *
  generalize hN : Nm w (rksF l) 0 = N
  obtain ⟨e', h1, f, p, q, r, rfl, hf⟩ := loopF_inv (g := gN 8) (b := L_rank_list_1) (ds := rgD 0 l.length)
    (fun i e => ∃ (f : Int) (p q r : Sl), e = [.fz (.lst (l.map .int)), .fz (.int m), .fz (.lst (l.map .int)), .fz (.lst TB), .fz (.int w), .fz (.lst ((idsF l).map .int)), .fz (.int f), .fz (.int (((rksF l).take i).count 0 : Nat)), p, q, r] ∧
      f + Nm w ((rksF l).drop i) (((rksF l).take i).count 0) = N)
    (e0 := [.fz (.lst (l.map .int)), .fz (.int m), .fz (.lst (l.map .int)), .fz (.lst TB), .fz (.int w), .fz (.lst ((idsF l).map .int)), .fz (.int 0), .fz (.int 0), .no, .no, .no]) ⟨0, _, _, _, rfl, by rw [List.drop_zero, List.take_zero, Int.zero_add]; exact hN⟩ (fun i d e hd hi => by
      obtain ⟨f, p, q, r, rfl, hf⟩ := hi
      obtain ⟨rfl, hil⟩ := rg_get hd
      have hr := rksF_at (l := l) (i := i) hil
      have hrk := e_rank_at (idsF_len v) v (by omega) hil
      have ok := (rksF_ok v) i _ hr
      have hdrop : (rksF l).drop i = rkF (idsF l) l i :: (rksF l).drop (i + 1) := by
        rw [List.drop_eq_getElem_cons (by omega)]
        rw [List.getElem?_eq_getElem (by omega)] at hr
        rw [Option.some.inj hr]
      rw [hdrop] at hf
      have hdl : ((rksF l).drop (i + 1)).length = l.length - (i + 1) := by simp [hrl]
      have htk : ((rksF l).take (i + 1)).count 0 = ((rksF l).take i).count 0 + (if rkF (idsF l) l i = 0 then 1 else 0) := by
        rw [take_succ hr, List.count_append]
        congr 1
        by_cases e : rkF (idsF l) l i = 0 <;> simp [e]
      have hc1 := rcount i (by omega)
      have hc2 := rcount (i + 1) (by omega)
      have hix := hix i hil
      unfold Nm at hf
      rw [hdl] at hf
      rw [htk] at hc2 ⊢
      generalize ((rksF l).take i).count 0 = u at *
      generalize rkF (idsF l) l i = rk at *
      generalize l.length - (i + 1) = L at *
      by_cases hz : rk = 0
      · subst hz
        rw [if_pos rfl] at hf hc2 ⊢
        refine ⟨_, [.fz (.lst (l.map .int)), .fz (.int m), .fz (.lst (l.map .int)), .fz (.lst TB), .fz (.int w), .fz (.lst ((idsF l).map .int)), .fz (.int f), .fz (.int ((u + 1 : Nat) : Int)), .fz (.int i), .fz (.lst ((rowI w L).map .int)), .fz (.int 0)], e_gN 8 _, ?_, f, _, _, _, rfl, hf⟩
        simp [L_rank_list_1, I_rank_list_2, hix, hrk]
      · rw [if_neg hz] at hf hc2 ⊢
        have a1 := row_ix (w := w) (L := L) (u := u) (by omega)
        have m1 : CMulW (rk - 1) (T w L u) ∨ CMul (rk - 1) (T w L u) := cmul_l (by omega) (by omega)
        refine ⟨_, [.fz (.lst (l.map .int)), .fz (.int m), .fz (.lst (l.map .int)), .fz (.lst TB), .fz (.int w), .fz (.lst ((idsF l).map .int)), .fz (.int (f + (fr w L u + (rk - 1) * T w L u))), .fz (.int ((u + 0 : Nat) : Int)), .fz (.int i), .fz (.lst ((rowI w L).map .int)), .fz (.int rk)], e_gN 8 _, ?_, _, _, _, _, rfl, by simp only [Nat.add_zero]; omega⟩
        unfold fr
        by_cases huw : u < w
        · have a2 := row_ix1 (w := w) (L := L) (u := u) huw
          generalize (rowI w L).map D.int = RR at *
          simp [L_rank_list_1, I_rank_list_2, hix, hrk, hz, a1, a2, huw, m1]
        · generalize (rowI w L).map D.int = RR at *
          simp [L_rank_list_1, I_rank_list_2, hix, hrk, hz, a1, huw, m1])
  rw [rg_len] at hf h1
  rw [List.drop_of_length_le (by omega)] at hf
  have hf : f = N := by rw [← hf]; simp [Nm]
  rw [← hf]
  simp [m_rank_list, e_runD, b_rank_list, N_rank_list, I_rank_list_1, -e_min, hmin, c1, c2, c3, c4, c5, show ¬ m < l.count 0 by omega, show (l.length : Int) ≤ 1000000000 by omega, h1]
end K64

end

section
set_option Elab.async false
set_option linter.all false
set_option maxRecDepth 100000
set_option maxHeartbeats 2000000
namespace K64
open PySem PySem.Spec PyProof.Rows L2 Vd Vd0 Dm
theorem T_small {w L u : Nat} (hw : w ≤ 60) (hL : L ≤ 60) (hu : u ≤ w) : T w L u < 2 ^ 400 := by
  have h1 := T_le w L u hu
  have h2 : ((w + 1 : Nat) ^ L) ≤ 64 ^ 60 := Nat.le_trans (Nat.pow_le_pow_left (by omega) L) (Nat.pow_le_pow_right (by omega) hL)
  have h3 : (64 : Nat) ^ 60 < 2 ^ 400 := by decide +kernel
  have h4 : ((w + 1 : Nat) ^ L) < 2 ^ 400 := Nat.lt_of_le_of_lt h2 h3
  have h5 : (((w + 1 : Nat) ^ L : Nat) : Int) < ((2 ^ 400 : Nat) : Int) := Int.ofNat_lt.mpr h4
  rw [Int.natCast_pow, Int.natCast_pow] at h5
  have h6 : ((w + 1 : Nat) : Int) = (w : Int) + 1 := by omega
  rw [h6] at h5
  exact Int.lt_of_le_of_lt h1 h5
theorem cdiv_big {i j : Int} (h0 : 0 < j) (h : j < 2 ^ 400) : CDivW i j := ⟨h0, Nat.lt_of_lt_of_le (log2_lt (by omega) h (by decide)) (by decide)⟩
theorem e_unrank {n m : Nat} {k : Int} (hn : n ≤ 60) (k0 : 0 ≤ k) (k1 : k < T (min n m) n 0) : m_unrank_list [.fz (.int n), .fz (.int m), .fz (.int k)] = some (.fz (.lst ((dbF (idsR (Un (min n m) n 0 k))).map .int)), [.fz (.int n), .fz (.int m), .fz (.int k)]) := by
  have c1 := e_check_number (p := n) (hi := 400) (by omega) (by omega)
  have c2 := e_check_number0 (p := (m : Int)) (by omega)
  have c3 := e_table (m := m) (n := n) (by omega)
  have hw : min n m ≤ 60 := by omega
  have hmin : vMin (.int n) (.int m) = some (.int ((min n m : Nat) : Int)) := by
    have : (if (m : Int) < n then (m : Int) else n) = ((min n m : Nat) : Int) := by split <;> omega
    show some (D.int (if (m : Int) < n then (m : Int) else n)) = _
    rw [this]
  generalize min n m = w at *
  have c4 := tab_ix (w := w) (n := n) (L := n) (Nat.le_refl _)
  have c5 := row_ix (w := w) (L := n) (u := 0) (Nat.zero_le _)
  have c6 := e_check_number (p := k) (hi := T w n 0 - 1) k0 (by omega)
  have htd : tabD w n = .lst ((List.range (n + 1)).map (rowD w)) := rfl
  rw [htd] at c3
  have hix : ∀ i, i < n → atI ((List.range (n + 1)).map (rowD w)) ((n : Int) - i - 1) = some (.lst ((rowI w (n - (i + 1))).map .int)) := fun i hi => tab_ix' hi
  unfold rowD at c4
  have c5 : atI ((rowI w n).map D.int) 0 = some (.int (T w n 0)) := c5
  have hrw : (fun L => D.lst ((rowI w L).map .int)) = rowD w := rfl
  rw [hrw] at c4
  obtain ⟨u1, u2, u3⟩ := Un_ok (w := w) (n := n) (u := 0) (Nat.zero_le _) k0 k1
  obtain ⟨okR, _⟩ := okw_to u1
  have c7 := e_from_ranks okR (by omega)
  generalize (List.range (n + 1)).map (rowD w) = TB at *
  generalize hU : Un w n 0 k = U at *
  obtain ⟨e', h1, pre, kk, u, p, q, r, rfl, hp, hpl, _⟩ := loopF_inv (g := gN 8) (b := L_unrank_list_1) (ds := rgD 0 n)
    (fun i e => ∃ (pre : List Int) (kk : Int) (u : Nat) (p q r : Sl), e = [.fz (.int n), .fz (.int m), .fz (.int k), .fz (.lst TB), .fz (.int w), .ow (.lst (pre.map .int)), .fz (.int kk), .fz (.int u), p, q, r] ∧
      pre ++ Un w (n - i) u kk = U ∧ pre.length = i ∧ u ≤ w ∧ 0 ≤ kk ∧ kk < T w (n - i) u)
    (e0 := [.fz (.int n), .fz (.int m), .fz (.int k), .fz (.lst TB), .fz (.int w), .ow (.lst []), .fz (.int k), .fz (.int 0), .no, .no, .no]) ⟨[], k, 0, _, _, _, rfl, by rw [Nat.sub_zero]; exact hU, rfl, Nat.zero_le _, k0, by rw [Nat.sub_zero]; exact k1⟩ (fun i d e hd hi => by
      obtain ⟨pre, kk, u, p, q, r, rfl, hp, hpl, huw, kk0, kk1⟩ := hi
      obtain ⟨rfl, hin⟩ := rg_get hd
      have hix := hix i hin
      have hL : n - i = (n - (i + 1)) + 1 := by omega
      rw [hL] at hp kk1
      have hLs : n - (i + 1) ≤ 60 := by omega
      generalize n - (i + 1) = L at *
      have a1 := row_ix (w := w) (L := L) (u := u) huw
      have hfr : fr w L u = if u < w then T w L (u + 1) else 0 := rfl
      have hb : ∀ x : Int, (if u < w then some (D.int (T w L (u + 1)), x) else some (D.int 0, x)) = some (D.int (fr w L u), x) := fun x => by unfold fr; split <;> rfl
      by_cases hk : kk < fr w L u
      · have hw : u < w := by
          apply Classical.byContradiction
          intro z
          rw [hfr, if_neg z] at hk
          omega
        have a2 := row_ix1 (w := w) (L := L) (u := u) hw
        rw [hfr, if_pos hw] at hk
        unfold Dm.Un at hp
        rw [hfr, if_pos hw, if_pos hk] at hp
        refine ⟨_, [.fz (.int n), .fz (.int m), .fz (.int k), .fz (.lst TB), .fz (.int w), .ow (.lst ((pre ++ [0]).map .int)), .fz (.int kk), .fz (.int ((u + 1 : Nat) : Int)), .fz (.int i), .fz (.lst ((rowI w L).map .int)), .fz (.int (T w L (u + 1)))], e_gN 8 _, ?_, pre ++ [0], kk, u + 1, _, _, _, rfl, by rw [← hp]; simp, by simp [hpl], by omega, kk0, hk⟩
        generalize (rowI w L).map D.int = RR at *
        simp [L_unrank_list_1, I_unrank_list_1, hix, a1, a2, hw, hk, show pre.length < 100000 by omega]
      · have hTp := Un_pos kk1 hk
        have cd : CDivW (kk - fr w L u) (T w L u) := cdiv_big hTp (T_small hw hLs huw)
        unfold Dm.Un at hp
        rw [if_neg hk] at hp
        refine ⟨_, [.fz (.int n), .fz (.int m), .fz (.int k), .fz (.lst TB), .fz (.int w), .ow (.lst ((pre ++ [(kk - fr w L u) / T w L u + 1]).map .int)), .fz (.int ((kk - fr w L u) % T w L u)), .fz (.int u), .fz (.int i), .fz (.lst ((rowI w L).map .int)), .fz (.int (fr w L u))], e_gN 8 _, ?_, pre ++ [(kk - fr w L u) / T w L u + 1], _, u, _, _, _, rfl, by rw [← hp]; simp, by simp [hpl], huw, Int.emod_nonneg _ (by omega), Int.emod_lt_of_pos _ hTp⟩
        by_cases hw : u < w
        · have a2 := row_ix1 (w := w) (L := L) (u := u) hw
          rw [hfr, if_pos hw] at hk cd ⊢
          generalize (rowI w L).map D.int = RR at *
          simp [L_unrank_list_1, I_unrank_list_1, hix, a1, a2, hw, hk, show pre.length < 100000 by omega, cd, hTp]
        · rw [hfr, if_neg hw] at hk cd ⊢
          generalize (rowI w L).map D.int = RR at *
          simp at cd
          simp [L_unrank_list_1, I_unrank_list_1, hix, a1, hw, show ¬ kk < 0 by omega, show pre.length < 100000 by omega, cd, hTp])
  rw [rg_len, Nat.sub_self] at hp
  have hpU : pre = U := by rw [← hp]; simp [Dm.Un]
  subst hpU
  generalize (rowI w n).map D.int = RR at *
  simp [m_unrank_list, e_runD, b_unrank_list, N_unrank_list, -e_min, hmin, c1, c2, c3, c4, c5, c6, show (n : Int) ≤ 1000000000 by omega, h1, c7]
end K64

end

section
set_option Elab.async false
set_option linter.all false
set_option maxRecDepth 100000
set_option maxHeartbeats 2000000
namespace Dm
open Vd
theorem nd_sub : ∀ {a b : List Int}, a.Nodup → (∀ x, x ∈ a → x ∈ b) → a.length ≤ b.length
  | [], _, _, _ => Nat.zero_le _
  | x :: a, b, h, hs => by
    obtain ⟨n1, n2⟩ := List.nodup_cons.mp h
    have hx : x ∈ b := hs x (by simp)
    have := nd_sub (b := b.erase x) n2 fun y hy => by
      have hne : y ≠ x := fun e => n1 (e ▸ hy)
      exact (List.mem_erase_of_ne hne).mpr (hs y (by simp [hy]))
    have hl := List.length_erase_of_mem hx
    have : 0 < b.length := List.length_pos_of_mem hx
    simp only [List.length_cons]
    omega
theorem dbF_take (s : List Int) (i : Nat) : (dbF s).take i = dbF (s.take i) := (dbF_of ((dbF_ok s).take i)).symm
theorem leI_false : ∀ (i : Nat) {l m : List Int} {d d' : Int}, l.take i = m.take i → l[i]? = some d → m[i]? = some d' → d < d' → leI m l = false
  | 0, [], _, _, _, _, h, _, _ => by simp at h
  | 0, _ :: _, [], _, _, _, _, h, _ => by simp at h
  | 0, a :: l, b :: m, d, d', _, h1, h2, h => by
    have h1 : a = d := by simpa using h1
    have h2 : b = d' := by simpa using h2
    subst h1; subst h2
    unfold leI
    rw [if_neg (by omega)]
    exact decide_eq_false (by omega)
  | i + 1, [], _, _, _, _, h, _, _ => by simp at h
  | i + 1, _ :: _, [], _, _, _, _, h, _ => by simp at h
  | i + 1, a :: l, b :: m, d, d', h0, h1, h2, h => by
    simp only [List.take_succ_cons, List.cons.injEq] at h0
    unfold leI
    rw [if_pos h0.1.symm]
    exact leI_false i h0.2 (by simpa using h1) (by simpa using h2) h
/-- a greater rank, a greater distance -/
theorem rank_mono {l l' : List Int} (v : Valid l) (v' : Valid l') {i : Nat} (ht : l.take i = l'.take i) (hi : i < l.length) (hi' : i < l'.length) (h : rkF (idsF l) l i < rkF (idsF l') l' i) : l[i] < l'[i] := by
  have hI : (idsF l).take i = (idsF l').take i := by rw [idsF_take l i (by omega), idsF_take l' i (by omega), ht]
  have b := v.bd i _ (List.getElem?_eq_getElem hi)
  have b' := v'.bd i _ (List.getElem?_eq_getElem hi')
  have z := rk_zero (l := l) (i := i)
  have z' := rk_zero (l := l') (i := i)
  have lI := idsF_len v
  have lI' := idsF_len v'
  unfold rkF at h z z'
  rw [List.getElem?_eq_getElem hi, Option.getD_some] at z h
  rw [List.getElem?_eq_getElem hi', Option.getD_some] at z' h
  generalize l[i] = d at *
  generalize l'[i] = d' at *
  by_cases h0 : d = 0
  · by_cases h1 : d' = 0
    · rw [if_pos h0, if_pos h1] at h; omega
    · omega
  · by_cases h1 : d' = 0
    · rw [if_neg h0, if_pos h1] at h; omega
    · rw [if_neg h0, if_neg h1] at h
      apply Classical.byContradiction
      intro hn
      have sub : (dedI (((idsF l').drop (i - d'.toNat + 1)).take (d'.toNat - 1))).length ≤ (dedI (((idsF l).drop (i - d.toNat + 1)).take (d.toNat - 1))).length := by
        refine nd_sub (dedI_nd _) fun x hx => ?_
        rw [dedI_mem] at hx ⊢
        obtain ⟨k, hk⟩ := List.mem_iff_getElem?.mp hx
        have hkl : k < d'.toNat - 1 := by
          have := (List.getElem?_eq_some_iff.mp hk).1
          simp at this; omega
        rw [List.getElem?_take, if_pos hkl, List.getElem?_drop] at hk
        have e : (idsF l)[i - d'.toNat + 1 + k]? = some x := by
          have := congrArg (fun t => t[i - d'.toNat + 1 + k]?) hI
          have this : ((idsF l).take i)[i - d'.toNat + 1 + k]? = ((idsF l').take i)[i - d'.toNat + 1 + k]? := this
          rw [List.getElem?_take, List.getElem?_take, if_pos (by omega), if_pos (by omega)] at this
          rw [this]; exact hk
        refine List.mem_of_getElem? (i := d.toNat - d'.toNat + k) ?_
        rw [List.getElem?_take, if_pos (by omega), List.getElem?_drop]
        rw [show i - d.toNat + 1 + (d.toNat - d'.toNat + k) = i - d'.toNat + 1 + k by omega]
        exact e
      omega
/-- the list with the next number is greater -/
theorem next_greater {w : Nat} {l l' : List Int} (v : Valid l) (v' : Valid l') (hl : l.length = l'.length) (ok : Okw w (rksF l) 0) (ok' : Okw w (rksF l') 0) (h : Nm w (rksF l) 0 < Nm w (rksF l') 0) : leI l' l = false := by
  obtain ⟨i, r, r', h1, h2, h3, h4⟩ := Nm_lt (Nat.zero_le _) ok ok' (by rw [rksF_len, rksF_len]; exact hl) h
  have hi : i < l.length := by have := (List.getElem?_eq_some_iff.mp h2).1; rwa [rksF_len] at this
  have hi' : i < l'.length := by omega
  rw [rksF_at hi] at h2
  rw [rksF_at hi'] at h3
  have ht : l.take i = l'.take i := by
    rw [← db_rks v, ← db_rks v', dbF_take, dbF_take, idsR_take, idsR_take, h1]
  have hlt := rank_mono v v' ht hi hi' (by rw [Option.some.inj h2, Option.some.inj h3]; exact h4)
  exact leI_false i ht (List.getElem?_eq_getElem hi) (List.getElem?_eq_getElem hi') hlt
/-! ### the smallest list -/
def smF (w n : Nat) : List Int := List.replicate w 0 ++ List.replicate (n - w) 1
theorem Un_zero {w : Nat} (hw : 1 ≤ w) : ∀ (n u : Nat), u ≤ w → w - u ≤ n → Dm.Un w n u 0 = List.replicate (w - u) 0 ++ List.replicate (n - (w - u)) 1
  | 0, u, h1, h2 => by
    have : w - u = 0 := by omega
    rw [this]; rfl
  | n + 1, u, h1, h2 => by
    unfold Dm.Un
    by_cases h : u < w
    · have hf : fr w n u = T w n (u + 1) := by unfold fr; rw [if_pos h]
      have hp := T_pos w n (u + 1) (by omega)
      rw [if_pos (by omega), Un_zero hw n (u + 1) (by omega) (by omega)]
      rw [show w - u = (w - (u + 1)) + 1 by omega, List.replicate_succ, List.cons_append]
      rw [show n + 1 - (w - (u + 1) + 1) = n - (w - (u + 1)) by omega]
    · have hu : u = w := by omega
      subst hu
      have hf : fr u n u = 0 := by unfold fr; rw [if_neg (by omega)]
      have z1 : (0 - 0 : Int) / T u n u = 0 := by simp
      have z2 : (0 - 0 : Int) % T u n u = 0 := by simp
      rw [hf, if_neg (by omega), z1, z2, Un_zero hw n u (Nat.le_refl _) (by omega)]
      simp [List.replicate_succ]
theorem smF_at {w n i : Nat} (h : i < n) (hw : w ≤ n) : (smF w n)[i]? = some (if i < w then 0 else 1) := by
  unfold smF
  by_cases h1 : i < w
  · rw [if_pos h1, List.getElem?_append_left (by simpa using h1)]
    simp [h1]
  · rw [if_neg h1, List.getElem?_append_right (by simpa using h1), List.length_replicate, List.getElem?_replicate, if_pos (by omega)]
theorem smF_len {w n : Nat} (h : w ≤ n) : (smF w n).length = n := by simp [smF]; omega
theorem smF_valid {w n : Nat} (hw : 1 ≤ w) (h : w ≤ n) : Valid (smF w n) := by
  have gt : ∀ {j : Nat} {d : Int}, (smF w n)[j]? = some d → j < n ∧ d = if j < w then 0 else 1 := fun {j d} hj => by
    have hl := (List.getElem?_eq_some_iff.mp hj).1
    rw [smF_len h] at hl
    rw [smF_at hl h] at hj
    exact ⟨hl, (Option.some.inj hj).symm⟩
  refine ⟨fun j d hj => ?_, fun j k d e h1 h2 d0 e0 hq => ?_⟩
  · obtain ⟨a, b⟩ := gt hj
    split at b <;> omega
  · obtain ⟨a, b⟩ := gt h1
    obtain ⟨a', b'⟩ := gt h2
    split at b <;> split at b' <;> omega
theorem smF_ranks {w n : Nat} (h : w ≤ n) : rksF (smF w n) = smF w n := by
  apply List.ext_getElem?
  intro i
  by_cases hi : i < n
  · rw [rksF_at (by rw [smF_len h]; exact hi)]
    unfold rkF
    rw [smF_at hi h, Option.getD_some]
    by_cases h1 : i < w
    · simp [h1]
    · simp [h1, dedI, PyProof.Rows.firstMet]
  · rw [List.getElem?_eq_none (by rw [rksF_len, smF_len h]; omega), List.getElem?_eq_none (by rw [smF_len h]; omega)]
theorem Un_small {w n : Nat} (hw : 1 ≤ w) (h : w ≤ n) : dbF (idsR (Dm.Un w n 0 0)) = smF w n := by
  have e := Un_zero hw n 0 (Nat.zero_le _) (by omega)
  rw [Nat.sub_zero] at e
  have e2 : Dm.Un w n 0 0 = rksF (smF w n) := by rw [smF_ranks h]; exact e
  rw [e2, db_rks (smF_valid hw h)]
end Dm

end

section
set_option Elab.async false
set_option linter.all false
set_option maxRecDepth 100000
set_option maxHeartbeats 2000000
namespace Vd
open PySem PySem.Spec PyProof.Rows L2 Vd0
def rng2K : Option (List D × En) → Option (List D × En)
  | some ([.int m, .int n], e) => if (n ≤ 1000000000 ∧ -1000000000 ≤ n) ∧ m ≤ 1000000000 ∧ -1000000000 ≤ m then some (rgD m (n - m).toNat, e) else none
  | _ => none
@[simp] theorem rng2K_ (m n : Int) (e : En) : rng2K (some ([.int m, .int n], e)) = if (n ≤ 1000000000 ∧ -1000000000 ≤ n) ∧ m ≤ 1000000000 ∧ -1000000000 ≤ m then some (rgD m (n - m).toNat, e) else none := id rfl
@[simp] theorem e_fRng2 (fa : FA) (e : En) : fRng2 fa e = rng2K (fa e) := by
  unfold fRng2
  cases fa e with
  | none => rfl
  | some p =>
    obtain ⟨ds, e1⟩ := p
    match ds with
    | [] => rfl
    | [a] => cases a <;> rfl
    | [a, b] => cases a <;> first | rfl | (cases b <;> rfl)
    | a :: b :: _ :: _ => cases a <;> first | rfl | (cases b <;> rfl)
end Vd
namespace K64
open PySem PySem.Spec PyProof.Rows L2 Vd Vd0 Dm
def wsI (m j : Nat) : List Int := (List.range (m + 1)).map (S j) ++ [0]
theorem wsI_at {m j k : Nat} (h : k ≤ m) : atI ((wsI m j).map D.int) (k : Int) = some (.int (S j k)) := by
  rw [atI_map, atI_nat (by omega) (by simp [wsI]; omega), Int.toNat_natCast]
  unfold wsI
  rw [List.getElem?_append_left (by simp; omega), List.getElem?_map, List.getElem?_range (by omega)]; rfl
theorem wsI_0 (m : Nat) : (wsI m 0).map D.int = D.int 1 :: List.replicate (m + 1) (D.int 0) := by
  unfold wsI
  rw [List.range_succ_eq_map, List.map_cons, List.map_map]
  have : (S 0 ∘ Nat.succ : Nat → Int) = fun _ => 0 := rfl
  rw [this, List.map_const', List.length_range]
  simp [S]
  rw [← List.replicate_succ', List.replicate_succ]
theorem wsI_s (m j : Nat) : wsI m (j + 1) = 0 :: (List.range m).map (fun k => S j k + ((k : Int) + 1) * S j (k + 1)) ++ [0] := by
  unfold wsI
  rw [List.range_succ_eq_map, List.map_cons, List.map_map]
  rfl
theorem e_exact {n m : Nat} (hn : n ≤ 60) (hm : m ≤ 100) : m_law_exact_count [.fz (.int n), .fz (.int m)] = some (.fz (.int (S n m)), [.fz (.int n), .fz (.int m)]) := by
  obtain ⟨e', h1, p, rfl⟩ := loopF_inv (g := gN 3) (b := L_law_exact_count_1) (ds := rgD 0 n)
    (fun i e => ∃ p : Sl, e = [.fz (.int n), .fz (.int m), .fz (.lst ((wsI m i).map .int)), p, .no]) (e0 := [.fz (.int n), .fz (.int m), .fz (.lst ((wsI m 0).map .int)), .no, .no]) ⟨_, rfl⟩ (fun i d e hd hi => by
      obtain ⟨p, rfl⟩ := hi
      obtain ⟨rfl, hin⟩ := rg_get hd
      have hA : All2 (fun (k : Nat) (d : D) => d = .int (1 + (k : Int))) (List.range m) (rgD 1 m) := by
        unfold rgD; exact All2.map _ _
      have hc := lc_rel hA (vs := [4]) (g := gN 4) (t := T_law_exact_count_1) (f := E_law_exact_count_1)
        (e := [.fz (.int n), .fz (.int m), .fz (.lst ((wsI m i).map .int)), .fz (.int i), .no]) (fun _ => true) (fun k => S i k + ((k : Int) + 1) * S i (k + 1)) D.int (by simp; omega) (by
          rintro k d hk rfl
          have hk := List.mem_range.mp hk
          have a1 := wsI_at (m := m) (j := i) (k := k) (by omega)
          have a2 := wsI_at (m := m) (j := i) (k := k + 1) (by omega)
          rw [show ((k + 1 : Nat) : Int) = 1 + (k : Int) by omega] at a2
          have m1 : CMulW (1 + (k : Int)) (S i (k + 1)) ∨ CMul (1 + (k : Int)) (S i (k + 1)) := cmul_l (by omega) (by omega)
          have e1 : 1 + (k : Int) - 1 = k := by omega
          refine ⟨_, [.fz (.int n), .fz (.int m), .fz (.lst ((wsI m i).map .int)), .fz (.int i), .fz (.int (1 + (k : Int)))], e_gN 4 _, ?_, fun _ => ⟨[.fz (.int n), .fz (.int m), .fz (.lst ((wsI m i).map .int)), .fz (.int i), .fz (.int (1 + (k : Int)))], ?_, ?_⟩, fun z => (by cases z)⟩
          · simp [T_law_exact_count_1, fYes]
          · rw [Int.add_comm (k : Int) 1]
            generalize (wsI m i).map D.int = W at *
            simp [E_law_exact_count_1, a1, a2, m1, e1]
          · simp)
      rw [filter_t] at hc
      refine ⟨_, [.fz (.int n), .fz (.int m), .fz (.lst ((wsI m (i + 1)).map .int)), .fz (.int i), .no], e_gN 3 _, ?_, _, rfl⟩
      rw [wsI_s]
      have hl : ((List.range m).map fun k => S i k + ((k : Int) + 1) * S i (k + 1)).length = m := by simp
      generalize (List.range m).map (fun k => S i k + ((k : Int) + 1) * S i (k + 1)) = R at *
      generalize (wsI m i).map D.int = W at *
      simp [L_law_exact_count_1, hc, hl, show (m : Int) + 1 ≤ 1000000000 by omega, show -1000000000 ≤ (m : Int) + 1 by omega, show ((m : Int) + 1 - 1).toNat = m by omega, show 1 + m ≤ 100000 by omega, show m ≤ 99999 by omega, show m ≤ 99998 by omega])
  rw [rg_len] at h1
  rw [wsI_0] at h1
  have a1 := wsI_at (m := m) (j := n) (k := m) (Nat.le_refl _)
  generalize (wsI m n).map D.int = W at *
  have hfl : (List.replicate (m + 1) [D.int 0]).flatten = List.replicate (m + 1) (D.int 0) := by simp
  simp [m_law_exact_count, e_runD, b_law_exact_count, N_law_exact_count, show -(9223372036854775808 : Int) ≤ (m : Int) + 1 by omega, show (m : Int) + 1 < 9223372036854775808 by omega, show ((m : Int) + 1).toNat = m + 1 by omega, show m ≤ 99999 by omega, show 1 + (m + 1) ≤ 100000 by omega, show (n : Int) ≤ 1000000000 by omega, h1, a1]
theorem e_smallest {n m : Nat} (hn : n ≤ 60) : m_law_smallest [.fz (.int n), .fz (.int m)] = some (.fz (.lst ((smF (min n m) n).map .int)), [.fz (.int n), .fz (.int m)]) := by
  have hmin : vMin (.int n) (.int m) = some (.int ((min n m : Nat) : Int)) := by
    have : (if (m : Int) < n then (m : Int) else n) = ((min n m : Nat) : Int) := by split <;> omega
    show some (D.int (if (m : Int) < n then (m : Int) else n)) = _
    rw [this]
  have hw : min n m ≤ n := by omega
  generalize min n m = w at *
  have e1 : ((n : Int) - w).toNat = n - w := by omega
  unfold smF
  simp [m_law_smallest, e_runD, b_law_smallest, N_law_smallest, -e_min, hmin, show -(9223372036854775808 : Int) ≤ (w : Int) by omega, show (w : Int) < 9223372036854775808 by omega, show w ≤ 100000 by omega, show -(9223372036854775808 : Int) ≤ (n : Int) - w by omega, show (n : Int) - w < 9223372036854775808 by omega, e1, show n - w ≤ 100000 by omega, show w + (n - w) ≤ 100000 by omega]
end K64

end

section
set_option Elab.async false
set_option linter.all false
set_option maxRecDepth 100000
set_option maxHeartbeats 2000000
namespace K64
open PySem PySem.Spec PyProof.Rows L2 Vd Vd0 Dm
theorem count_pos {l : List Int} (v : Dm.Valid l) (h : 0 < l.length) : 1 ≤ l.count 0 := by
  obtain ⟨b0, b1⟩ := v.bd 0 _ (List.getElem?_eq_getElem h)
  have : l[0] = 0 := by omega
  exact List.count_pos_iff.mpr (this ▸ List.getElem_mem h)
theorem e_ranking_holds {d : D} {l : List Int} (hd : OkS d) (v : Dm.Valid l) (hl : l.length ≤ 60) : ∃ d', m_law_ranking_holds [.ow d, .fz (.lst (l.map .int))] = some (.fz (.bl true), [.ow d', .fz (.lst (l.map .int))]) ∧ OkS d' := by
  obtain ⟨r, d1, q1, q2, q3, q4⟩ := e_draw hd (m := 3) (by decide) (by decide)
  obtain ⟨rn, rfl⟩ := Int.eq_ofNat_of_zero_le q2
  have hcl : l.count 0 ≤ l.length := List.count_le_length
  have c1 := e_law_symbol_count (ds := l) (by omega)
  have hcm : l.count 0 ≤ l.count 0 + rn := by omega
  have hm62 : l.count 0 + rn ≤ 62 := by omega
  have hcast : ((l.count 0 : Nat) : Int) + (rn : Int) = ((l.count 0 + rn : Nat) : Int) := by omega
  have hpos : 0 < l.length → 1 ≤ l.count 0 + rn := fun h => by have := count_pos v h; omega
  have hzero : l.count 0 + rn = 0 → l.length = 0 := fun h => by
    rcases Nat.eq_zero_or_pos l.length with z | z
    · exact z
    · have := hpos z; omega
  generalize l.count 0 + rn = m at *
  have c2 := e_rank_list v hl hcm
  have c3 := e_count_lists (n := l.length) (m := m) (by omega)
  have okw : Okw (min l.length m) (rksF l) 0 := okw_of (rksF_ok v) (by
    have := rks_count (l := l) l.length (Nat.le_refl _)
    rw [List.take_of_length_le (by rw [rksF_len]; exact Nat.le_refl _), List.take_length] at this
    omega)
  have hb := Nm_bd (Nat.zero_le _) okw
  rw [rksF_len] at hb
  have hu := Un_Nm (Nat.zero_le _) okw
  rw [rksF_len] at hu
  have c4 := e_unrank (n := l.length) (m := m) hl hb.1 hb.2
  rw [hu, db_rks v] at c4
  have c5 := e_unrank (n := l.length) (m := m) (k := 0) hl (Int.le_refl _) (by omega)
  have c6 := e_smallest (n := l.length) (m := m) hl
  have hsm : 0 < l.length → dbF (idsR (Dm.Un (min l.length m) l.length 0 0)) = smF (min l.length m) l.length := fun h => Un_small (by have := hpos h; omega) (by omega)
  have c7 : m ≠ 0 → m_count_lists [.fz (.int l.length), .fz (.int ((m : Int) - 1))] = some (.fz (.int (T (min l.length (m - 1)) l.length 0)), [.fz (.int l.length), .fz (.int ((m : Int) - 1))]) := fun h => by
    have := e_count_lists (n := l.length) (m := m - 1) (by omega)
    rwa [show ((m - 1 : Nat) : Int) = (m : Int) - 1 by omega] at this
  have c8 := e_exact (n := l.length) (m := m) hl (by omega)
  have c9 : m ≠ 0 → T (min l.length m) l.length 0 = T (min l.length (m - 1)) l.length 0 + S l.length m := fun h => T_rec (by omega)
  -- the next list
  have nxt : Nm (min l.length m) (rksF l) 0 + 1 < T (min l.length m) l.length 0 → ∃ l2 : List Int, m_unrank_list [.fz (.int l.length), .fz (.int m), .fz (.int (Nm (min l.length m) (rksF l) 0 + 1))] = some (.fz (.lst (l2.map .int)), [.fz (.int l.length), .fz (.int m), .fz (.int (Nm (min l.length m) (rksF l) 0 + 1))]) ∧
      leI l2 l = false ∧ l2.length = l.length ∧ l2.count 0 ≤ m ∧ m_rank_list [.fz (.lst (l2.map .int)), .fz (.int m)] = some (.fz (.int (Nm (min l.length m) (rksF l) 0 + 1)), [.fz (.lst (l2.map .int)), .fz (.int m)]) := fun h => by
    obtain ⟨u1, u2, u3⟩ := Un_ok (w := min l.length m) (n := l.length) (u := 0) (k := Nm (min l.length m) (rksF l) 0 + 1) (Nat.zero_le _) (by omega) h
    obtain ⟨o1, o2⟩ := okw_to u1
    have v2 := dbF_valid (idsR (Dm.Un (min l.length m) l.length 0 (Nm (min l.length m) (rksF l) 0 + 1)))
    have l2 : (dbF (idsR (Dm.Un (min l.length m) l.length 0 (Nm (min l.length m) (rksF l) 0 + 1)))).length = l.length := by rw [dbF_len, idsR_len o1, u3]
    have rr := rks_db o1
    have cnt := rks_count (l := dbF (idsR (Dm.Un (min l.length m) l.length 0 (Nm (min l.length m) (rksF l) 0 + 1)))) l.length (by omega)
    rw [List.take_of_length_le (by rw [rksF_len]; omega), List.take_of_length_le (by omega), rr] at cnt
    refine ⟨_, e_unrank hl (by omega) h, ?_, l2, by omega, ?_⟩
    · refine next_greater (w := min l.length m) v v2 l2.symm okw (by rw [rr]; exact u1) ?_
      rw [rr, u2]; omega
    · have := e_rank_list v2 (by omega) (m := m) (by omega)
      rw [l2, rr, u2] at this
      exact this
  refine ⟨d1, ?_, q4⟩
  have hbN := hb
  generalize Nm (min l.length m) (rksF l) 0 = N at *
  generalize hTT : T (min l.length m) l.length 0 = TT at *
  generalize smF (min l.length m) l.length = SM at *
  generalize dbF (idsR (Dm.Un (min l.length m) l.length 0 0)) = S0 at *
  have i2 : ∀ e, e = [.ow d1, .fz (.lst (l.map .int)), .fz (.int l.length), .fz (.int m), .fz (.int N), .fz (.int TT), .no] → I_law_ranking_holds_2 e = some (.nx e) := fun e he => by
    subst he
    by_cases hn : 0 < l.length
    · have e1 := hsm hn
      subst e1
      simp [I_law_ranking_holds_2, show (0 : Int) < l.length by omega, hn, c5, c6]
    · have hn0 : l = [] := List.length_eq_zero_iff.mp (by omega)
      subst hn0
      simp [I_law_ranking_holds_2]
  have i5 : ∃ z, I_law_ranking_holds_5 [.ow d1, .fz (.lst (l.map .int)), .fz (.int l.length), .fz (.int m), .fz (.int N), .fz (.int TT), .no] = some (.nx [.ow d1, .fz (.lst (l.map .int)), .fz (.int l.length), .fz (.int m), .fz (.int N), .fz (.int TT), z]) := by
    by_cases hn : N + 1 < TT
    · obtain ⟨l2, a1, a2, a3, a4, a5⟩ := nxt hn
      have a6 := e_law_symbol_count (ds := l2) (by omega)
      refine ⟨.fz (.lst (l2.map .int)), ?_⟩
      simp [I_law_ranking_holds_5, I_law_ranking_holds_3, I_law_ranking_holds_4, hn, a1, a2, a6, show ¬ (m : Int) < (l2.count 0 : Nat) by omega, show ¬ m < l2.count 0 by omega, a5]
    · exact ⟨.no, by simp [I_law_ranking_holds_5, hn]⟩
  obtain ⟨z, i5⟩ := i5
  have h0N : 0 ≤ N := hbN.1
  have hNT : N < TT := hbN.2
  have i1 : I_law_ranking_holds_1 [.ow d1, .fz (.lst (l.map .int)), .fz (.int l.length), .fz (.int m), .fz (.int N), .fz (.int TT), .no] = some (.nx [.ow d1, .fz (.lst (l.map .int)), .fz (.int l.length), .fz (.int m), .fz (.int N), .fz (.int TT), .no]) := by
    simp [I_law_ranking_holds_1, h0N, hNT, c4]
  have i2' := i2 _ rfl
  by_cases hm0 : m = 0
  · have hn0 : l = [] := List.length_eq_zero_iff.mp (hzero hm0)
    subst hm0
    have hT1 : TT = 1 := by rw [← hTT, hn0]; rfl
    have i6 : I_law_ranking_holds_6 [.ow d1, .fz (.lst (l.map .int)), .fz (.int l.length), .fz (.int ((0 : Nat) : Int)), .fz (.int N), .fz (.int TT), z] = some (.rt (.fz (.bl true)) [.ow d1, .fz (.lst (l.map .int)), .fz (.int l.length), .fz (.int ((0 : Nat) : Int)), .fz (.int N), .fz (.int TT), z]) := by
      rw [hn0, hT1]
      simp [I_law_ranking_holds_6]
    have z0 : ((0 : Nat) : Int) = 0 := rfl
    rw [z0] at hcast c2 c3 i1 i2' i5 i6
    simp [m_law_ranking_holds, e_runD, b_law_ranking_holds, N_law_ranking_holds, c1, q1, hcast, c2, c3, i1, i2', i5, i6]
  · have i6 : I_law_ranking_holds_6 [.ow d1, .fz (.lst (l.map .int)), .fz (.int l.length), .fz (.int m), .fz (.int N), .fz (.int TT), z] = some (.nx [.ow d1, .fz (.lst (l.map .int)), .fz (.int l.length), .fz (.int m), .fz (.int N), .fz (.int TT), z]) := by
      simp [I_law_ranking_holds_6, hm0]
    have c7 := c7 hm0
    have c9 := (c9 hm0).symm
    simp [m_law_ranking_holds, e_runD, b_law_ranking_holds, N_law_ranking_holds, c1, q1, hcast, c2, c3, i1, i2', i5, i6, c7, c8, c9]
end K64

end

section
set_option Elab.async false
set_option linter.all false
set_option maxRecDepth 100000
set_option maxHeartbeats 2000000
namespace K64
open PySem PySem.Spec PyProof.Rows L2 Vd Vd0 Dm
theorem e_law_holds {d : D} (hd : OkS d) : ∃ d', m_law_holds [.ow d] = some (.fz (.bl true), [.ow d']) := by
  obtain ⟨r1, d1, a1, a2, a3, a4⟩ := e_draw hd (m := 61) (by decide) (by decide)
  obtain ⟨n, rfl⟩ := Int.eq_ofNat_of_zero_le a2
  obtain ⟨r2, d2, b1, b2, b3, b4⟩ := e_draw a4 (m := 9) (by decide) (by decide)
  obtain ⟨rs, d3, c1, c2, c3⟩ := e_symbols b4 (n := n) (m := 1 + r2) (by omega) (by omega) (by omega)
  have c4 := e_law_distances (s := rs) (by omega)
  have v := dbF_valid rs
  have hl : (dbF rs).length ≤ 60 := by rw [dbF_len]; omega
  generalize dbF rs = l at *
  have c5 := e_recency v (by omega)
  have c6 := e_from_ranks (rksF_ok v) (by rw [rksF_len]; omega)
  rw [db_rks v] at c6
  obtain ⟨r3, d4, f1, f2, f3, f4⟩ := e_draw c3 (m := (l.length : Int) + 1) (by omega) (by omega)
  obtain ⟨p, rfl⟩ := Int.eq_ofNat_of_zero_le f2
  have g1 := e_windows_hold v hl (p := p) (by omega)
  obtain ⟨d5, h1, h2⟩ := e_ranking_holds f4 v hl
  obtain ⟨d6, k1, k2⟩ := e_edits_hold h2 v hl
  refine ⟨d6, ?_⟩
  simp [m_law_holds, e_runD, b_law_holds, N_law_holds, I_law_holds_1, I_law_holds_2, I_law_holds_3, a1, b1, c1, c4, c5, c6, f1, g1, h1, k1]
theorem e_stream {c : Int} {k : Nat} (hk : k < 100) : ∃ d, m_law_stream [.fz (.int c), .fz (.int k)] = some (.ow d, [.fz (.int c), .fz (.int k)]) ∧ OkS d := by
  have m1 : CMulW 2 (k : Int) ∨ CMul 2 (k : Int) := cmul_l (by decide) (by decide)
  generalize hx : (if c < 0 then -c else c) = x
  have hx0 : 0 ≤ x := by rw [← hx]; split <;> omega
  have m2 : CMulW (x % 2147483629 + 1) (2 * (k : Int) + 16807) ∨ CMul (x % 2147483629 + 1) (2 * (k : Int) + 16807) := cmul_r (by omega) (by omega)
  refine ⟨.lst [.int x, .int ((x % 2147483629 + 1) * (2 * (k : Int) + 16807) % 2147483647)], ?_, _, _, rfl, hx0⟩
  simp [m_law_stream, e_runD, b_law_stream, N_law_stream, hx, m1, m2]
theorem e_law {ns : List Int} (hns : ns.length ≤ 63) : ∃ s, m_law [.fz (.scr ns)] = some (.fz (.bl true), s) := by
  have hmin : vMin (.int 6) (.int ns.length) = some (.int ((min 6 ns.length : Nat) : Int)) := by
    have : (if (ns.length : Int) < 6 then (ns.length : Int) else 6) = ((min 6 ns.length : Nat) : Int) := by split <;> omega
    show some (D.int (if (ns.length : Int) < 6 then (ns.length : Int) else 6)) = _
    rw [this]
  generalize min 6 ns.length = q at hmin
  have hmax : vMax (.int 1) (.int q) = some (.int ((max 1 q : Nat) : Int)) := by
    have : (if (q : Int) > 1 then (q : Int) else 1) = ((max 1 q : Nat) : Int) := by split <;> omega
    show some (D.int (if (q : Int) > 1 then (q : Int) else 1)) = _
    rw [this]
  have cu1 := cutm_to ns 6
  have hcat : (ns.take 6).map D.int ++ [D.int 0] = (ns.take 6 ++ [0]).map D.int := by simp
  have hcl : (ns.take 6 ++ [(0 : Int)]).length ≤ 7 := by simp; omega
  generalize hc0 : ns.take 6 ++ [(0 : Int)] = cs0 at *
  have cu2 := cutm_to cs0 (max 1 q)
  have hcs : (cs0.take (max 1 q)).length ≤ 7 := by rw [List.length_take]; omega
  generalize cs0.take (max 1 q) = cs at *
  have hc := lc_rel (R := fun (x : Int × Int) (d : D) => d = pr x) (xs := ens 0 cs) (ds := enumD 0 (cs.map .int)) (vs := [2, 3]) (g := gT 2 (gsCons (gN 2) (gsCons (gN 3) gsNil))) (t := T_law_1) (f := E_law_1)
    (e := [.fz (.scr ns), .fz (.lst (cs.map .int)), .no, .no]) (by rw [enum_ens]; exact all_pr _) (fun _ => false) (fun x => x.1) D.int (by rw [ens_len]; omega) (by
      rintro x d hx rfl
      obtain ⟨j, h1, h2⟩ := ens_mem hx
      have hj := (List.getElem?_eq_some_iff.mp h1).1
      obtain ⟨k, c⟩ := x
      have hk : k = (j : Int) := by simp only at h2; omega
      subst hk
      obtain ⟨d1, s1, s2⟩ := e_stream (c := c) (k := j) (by omega)
      obtain ⟨d2, s3⟩ := e_law_holds s2
      refine ⟨[.fz (.scr ns), .fz (.lst (cs.map .int)), .fz (.int j), .fz (.int c)], [.fz (.scr ns), .fz (.lst (cs.map .int)), .fz (.int j), .fz (.int c)], by simp [pr], ?_, fun z => (by cases z), fun _ => ?_⟩
      · simp [T_law_1, s1, s3]
      · simp)
  have hf : (ens 0 cs).filter (fun _ => false) = [] := List.filter_eq_nil_iff.mpr fun _ _ => by simp
  rw [hf] at hc
  refine ⟨[.fz (.scr ns)], ?_⟩
  have hl6 : (ns.take 6).length + 1 ≤ 100000 := by rw [List.length_take]; omega
  have hE : vEq (.lst []) (.lst []) = some (.bl true) := by have := e_vEqL [] []; simpa using this
  have hvc : vAdd (.lst ((ns.take 6).map .int)) (.lst [.int 0]) = some (.lst (cs0.map .int)) := by
    show (if ((ns.take 6).map D.int).length + [D.int 0].length ≤ 100000 then some (D.lst ((ns.take 6).map D.int ++ [D.int 0])) else none) = _
    rw [hcat, if_pos (by rw [List.length_map]; exact hl6)]
  have cu1' : Vd.cutD (ns.map D.int) none (some 6) = (ns.take 6).map D.int := cu1
  generalize (ns.take 6).map D.int = N6 at *
  simp [m_law, e_runD, b_law, N_law, cu1', -e_vAddL, hvc, -e_min, -e_max, hmin, hmax, cu2, hc, hE]
end K64

end

section
set_option Elab.async false
set_option linter.all false
set_option maxRecDepth 100000
set_option maxHeartbeats 0
namespace K64
open PySem PySem.Spec PyProof.Rows L2 Vd Vd0
def d_law_distances : He.DefD := ⟨("_law_distances", none), "_law_distances", "_law_distances", defArgs (top 54), defBody (top 54), defScope (top 54), [], []⟩
def d_law_ids : He.DefD := ⟨("_law_ids", none), "_law_ids", "_law_ids", defArgs (top 56), defBody (top 56), defScope (top 56), [], []⟩
def d_law_symbol_count : He.DefD := ⟨("_law_symbol_count", none), "_law_symbol_count", "_law_symbol_count", defArgs (top 57), defBody (top 57), defScope (top 57), [], []⟩
def d_law_draw : He.DefD := ⟨("_law_draw", none), "_law_draw", "_law_draw", defArgs (top 53), defBody (top 53), defScope (top 53), [], []⟩
def d_is_sequence : He.DefD := ⟨("is_sequence", none), "is_sequence", "is_sequence", defArgs (top 12), defBody (top 12), defScope (top 12), [], []⟩
def d_is_integer : He.DefD := ⟨("is_integer", none), "is_integer", "is_integer", defArgs (top 11), defBody (top 11), defScope (top 11), [.non], []⟩
def d_is_distances : He.DefD := ⟨("is_distances", none), "is_distances", "is_distances", defArgs (top 13), defBody (top 13), defScope (top 13), [], []⟩
def d_checked_distances : He.DefD := ⟨("checked_distances", none), "checked", "checked", defArgs (top 14), defBody (top 14), defScope (top 14), [], []⟩
def d_check_position : He.DefD := ⟨("check_position", none), "check_position", "check_position", defArgs (top 30), defBody (top 30), defScope (top 30), [], []⟩
def d_check_symbol : He.DefD := ⟨("check_symbol", none), "check_symbol", "check_symbol", defArgs (top 40), defBody (top 40), defScope (top 40), [], []⟩
def d_ids_of : He.DefD := ⟨("ids_of", none), "ids_of", "ids_of", defArgs (top 16), defBody (top 16), defScope (top 16), [], []⟩
def d_distances_by : He.DefD := ⟨("distances_by", none), "distances_by", "distances_by", defArgs (top 17), defBody (top 17), defScope (top 17), [], []⟩
def d_symbol_count : He.DefD := ⟨("symbol_count", none), "symbol_count", "symbol_count", defArgs (top 18), defBody (top 18), defScope (top 18), [], []⟩
def d_replace_at : He.DefD := ⟨("replace_at", none), "replace_at", "replace_at", defArgs (top 43), defBody (top 43), defScope (top 43), [], []⟩
def d_split_symbol : He.DefD := ⟨("split_symbol", none), "split_symbol", "split_symbol", defArgs (top 45), defBody (top 45), defScope (top 45), [], []⟩
def d_symbol_ids : He.DefD := ⟨("symbol_ids", none), "symbol_ids", "symbol_ids", defArgs (top 19), defBody (top 19), defScope (top 19), [], []⟩
def d_delete_at : He.DefD := ⟨("delete_at", none), "delete_at", "delete_at", defArgs (top 42), defBody (top 42), defScope (top 42), [], []⟩
def d_merge_symbols : He.DefD := ⟨("merge_symbols", none), "merge_symbols", "merge_symbols", defArgs (top 44), defBody (top 44), defScope (top 44), [], []⟩
def d_insert_at : He.DefD := ⟨("insert_at", none), "insert_at", "insert_at", defArgs (top 41), defBody (top 41), defScope (top 41), [], []⟩
def d_law_edits_hold : He.DefD := ⟨("_law_edits_hold", none), "_law_edits_hold", "_law_edits_hold", defArgs (top 64), defBody (top 64), defScope (top 64), [], []⟩
def d_law_symbols : He.DefD := ⟨("_law_symbols", none), "_law_symbols", "_law_symbols", defArgs (top 55), defBody (top 55), defScope (top 55), [], []⟩
def d_distances_from_ranks : He.DefD := ⟨("distances_from_ranks", none), "distances_from_ranks", "distances_from_ranks", defArgs (top 22), defBody (top 22), defScope (top 22), [], []⟩
def d_law_own_mapping : He.DefD := ⟨("_law_own_mapping", none), "_law_own_mapping", "_law_own_mapping", defArgs (top 58), defBody (top 58), defScope (top 58), [], []⟩
def d_reversed_distances : He.DefD := ⟨("reversed_distances", none), "reversed_distances", "reversed_distances", defArgs (top 37), defBody (top 37), defScope (top 37), [], []⟩
def d_window_of : He.DefD := ⟨("window_of", none), "window_of", "window_of", defArgs (top 31), defBody (top 31), defScope (top 31), [], []⟩
def d_window : He.DefD := ⟨("window", none), "window", "window", defArgs (top 32), defBody (top 32), defScope (top 32), [], []⟩
def d_is_pair : He.DefD := ⟨("is_pair", none), "is_pair", "is_pair", defArgs (top 33), defBody (top 33), defScope (top 33), [], []⟩
def d_is_mapping : He.DefD := ⟨("is_mapping", none), "is_mapping", "is_mapping", defArgs (top 34), defBody (top 34), defScope (top 34), [], []⟩
def d_concatenate : He.DefD := ⟨("concatenate", none), "concatenate", "concatenate", defArgs (top 35), defBody (top 35), defScope (top 35), [], []⟩
def d_count_mappings : He.DefD := ⟨("count_mappings", none), "count_mappings", "count_mappings", defArgs (top 36), defBody (top 36), defScope (top 36), [], []⟩
def d_law_mapping_count : He.DefD := ⟨("_law_mapping_count", none), "_law_mapping_count", "_law_mapping_count", defArgs (top 59), defBody (top 59), defScope (top 59), [], []⟩
def d_checked_search : He.DefD := ⟨("checked_search", none), "checked", "checked", defArgs (top 47), defBody (top 47), defScope (top 47), [], []⟩
def d_occurs_at : He.DefD := ⟨("occurs_at", none), "occurs_at", "occurs_at", defArgs (top 49), defBody (top 49), defScope (top 49), [], []⟩
def d_find_all : He.DefD := ⟨("find_all", none), "find_all", "find_all", defArgs (top 50), defBody (top 50), defScope (top 50), [], []⟩
def d_next_distances : He.DefD := ⟨("next_distances", none), "next_distances", "next_distances", defArgs (top 38), defBody (top 38), defScope (top 38), [], []⟩
def d_law_windows_hold : He.DefD := ⟨("_law_windows_hold", none), "_law_windows_hold", "_law_windows_hold", defArgs (top 60), defBody (top 60), defScope (top 60), [], []⟩
def d_check_number : He.DefD := ⟨("check_number", none), "check_number", "check_number", defArgs (top 24), defBody (top 24), defScope (top 24), [.non], []⟩
def d_completion_table : He.DefD := ⟨("completion_table", none), "completion_table", "completion_table", defArgs (top 25), defBody (top 25), defScope (top 25), [], []⟩
def d_rank_at : He.DefD := ⟨("rank_at", none), "rank_at", "rank_at", defArgs (top 20), defBody (top 20), defScope (top 20), [], []⟩
def d_rank_list : He.DefD := ⟨("rank_list", none), "rank_list", "rank_list", defArgs (top 27), defBody (top 27), defScope (top 27), [], []⟩
def d_count_lists : He.DefD := ⟨("count_lists", none), "count_lists", "count_lists", defArgs (top 26), defBody (top 26), defScope (top 26), [], []⟩
def d_unrank_list : He.DefD := ⟨("unrank_list", none), "unrank_list", "unrank_list", defArgs (top 28), defBody (top 28), defScope (top 28), [], []⟩
def d_law_smallest : He.DefD := ⟨("_law_smallest", none), "_law_smallest", "_law_smallest", defArgs (top 62), defBody (top 62), defScope (top 62), [], []⟩
def d_law_exact_count : He.DefD := ⟨("_law_exact_count", none), "_law_exact_count", "_law_exact_count", defArgs (top 63), defBody (top 63), defScope (top 63), [], []⟩
def d_law_ranking_holds : He.DefD := ⟨("_law_ranking_holds", none), "_law_ranking_holds", "_law_ranking_holds", defArgs (top 61), defBody (top 61), defScope (top 61), [], []⟩
def d_recency_ranks : He.DefD := ⟨("recency_ranks", none), "recency_ranks", "recency_ranks", defArgs (top 21), defBody (top 21), defScope (top 21), [], []⟩
def d_law_holds : He.DefD := ⟨("_law_holds", none), "_law_holds", "_law_holds", defArgs (top 65), defBody (top 65), defScope (top 65), [], []⟩
def d_law_stream : He.DefD := ⟨("_law_stream", none), "_law_stream", "_law_stream", defArgs (top 52), defBody (top 52), defScope (top 52), [], []⟩
def d_law : He.DefD := ⟨("law", none), "law", "law", defArgs (top 66), defBody (top 66), defScope (top 66), [], []⟩
def fn : List He.DefD := [d_law_distances, d_law_ids, d_law_symbol_count, d_law_draw, d_is_sequence, d_is_integer, d_is_distances, d_checked_distances, d_check_position, d_check_symbol, d_ids_of, d_distances_by, d_symbol_count, d_replace_at, d_split_symbol, d_symbol_ids, d_delete_at, d_merge_symbols, d_insert_at, d_law_edits_hold, d_law_symbols, d_distances_from_ranks, d_law_own_mapping, d_reversed_distances, d_window_of, d_window, d_is_pair, d_is_mapping, d_concatenate, d_count_mappings, d_law_mapping_count, d_checked_search, d_occurs_at, d_find_all, d_next_distances, d_law_windows_hold, d_check_number, d_completion_table, d_rank_at, d_rank_list, d_count_lists, d_unrank_list, d_law_smallest, d_law_exact_count, d_law_ranking_holds, d_recency_ranks, d_law_holds, d_law_stream, d_law]
def fa : List He.Fa := [.glo "_law_distances", .glo "_law_ids", .glo "_law_symbol_count", .glo "_law_draw", .glo "is_sequence", .glo "is_integer", .glo "is_distances", .glo "checked_distances", .glo "check_position", .glo "check_symbol", .glo "ids_of", .glo "distances_by", .glo "symbol_count", .glo "replace_at", .glo "split_symbol", .glo "symbol_ids", .glo "delete_at", .glo "merge_symbols", .glo "insert_at", .glo "_law_edits_hold", .glo "_law_symbols", .glo "distances_from_ranks", .glo "_law_own_mapping", .glo "reversed_distances", .glo "window_of", .glo "window", .glo "is_pair", .glo "is_mapping", .glo "concatenate", .glo "count_mappings", .glo "_law_mapping_count", .glo "checked_search", .glo "occurs_at", .glo "find_all", .glo "next_distances", .glo "_law_windows_hold", .glo "check_number", .glo "completion_table", .glo "rank_at", .glo "rank_list", .glo "count_lists", .glo "unrank_list", .glo "_law_smallest", .glo "_law_exact_count", .glo "_law_ranking_holds", .glo "recency_ranks", .glo "_law_holds", .glo "_law_stream", .glo "law", .free "abs", .free "all", .free "bool", .free "enumerate", .free "int", .free "isinstance", .free "len", .free "list", .free "max", .free "min", .free "range", .free "set", .free "sorted", .free "tuple", .free "zip", .int "MAX_POSITIONS" (400)]
def cmK (K : PySem.W.Frag) : Nat → Addr

  | _ => 0
def nmK : Nat → List Str

  | _ => []
def kxK (K : PySem.W.Frag) : Kx := ⟨K, cmK K, nmK⟩
theorem facts {P : Program} {w : World} {K : PySem.W.Frag} {hp : Heap} {mg : Str → Option Value} (X : K.In hp) (G : hp.Ns mainGlobals mg) (c : He.SaysD fa fn K) :
    ∃ fd : FuncData, (∀ (s : Shared) (v : Value), BindsTo s fd ⟨[v], []⟩ [("_law_script", v)]) ∧ ∀ base : Heap, FnOk P w K mg base CX0 7 (He.ga K "law") fd ["_law_script"] (spD (kxK K) 1 m_law) := by
  obtain ⟨fd_law_distances, F_law_distances⟩ := c.def_ 0 (d := d_law_distances) rfl
  obtain ⟨fd_law_ids, F_law_ids⟩ := c.def_ 1 (d := d_law_ids) rfl
  obtain ⟨fd_law_symbol_count, F_law_symbol_count⟩ := c.def_ 2 (d := d_law_symbol_count) rfl
  obtain ⟨fd_law_draw, F_law_draw⟩ := c.def_ 3 (d := d_law_draw) rfl
  obtain ⟨fd_is_sequence, F_is_sequence⟩ := c.def_ 4 (d := d_is_sequence) rfl
  obtain ⟨fd_is_integer, F_is_integer⟩ := c.def_ 5 (d := d_is_integer) rfl
  obtain ⟨fd_is_distances, F_is_distances⟩ := c.def_ 6 (d := d_is_distances) rfl
  obtain ⟨fd_checked_distances, F_checked_distances⟩ := c.def_ 7 (d := d_checked_distances) rfl
  obtain ⟨fd_check_position, F_check_position⟩ := c.def_ 8 (d := d_check_position) rfl
  obtain ⟨fd_check_symbol, F_check_symbol⟩ := c.def_ 9 (d := d_check_symbol) rfl
  obtain ⟨fd_ids_of, F_ids_of⟩ := c.def_ 10 (d := d_ids_of) rfl
  obtain ⟨fd_distances_by, F_distances_by⟩ := c.def_ 11 (d := d_distances_by) rfl
  obtain ⟨fd_symbol_count, F_symbol_count⟩ := c.def_ 12 (d := d_symbol_count) rfl
  obtain ⟨fd_replace_at, F_replace_at⟩ := c.def_ 13 (d := d_replace_at) rfl
  obtain ⟨fd_split_symbol, F_split_symbol⟩ := c.def_ 14 (d := d_split_symbol) rfl
  obtain ⟨fd_symbol_ids, F_symbol_ids⟩ := c.def_ 15 (d := d_symbol_ids) rfl
  obtain ⟨fd_delete_at, F_delete_at⟩ := c.def_ 16 (d := d_delete_at) rfl
  obtain ⟨fd_merge_symbols, F_merge_symbols⟩ := c.def_ 17 (d := d_merge_symbols) rfl
  obtain ⟨fd_insert_at, F_insert_at⟩ := c.def_ 18 (d := d_insert_at) rfl
  obtain ⟨fd_law_edits_hold, F_law_edits_hold⟩ := c.def_ 19 (d := d_law_edits_hold) rfl
  obtain ⟨fd_law_symbols, F_law_symbols⟩ := c.def_ 20 (d := d_law_symbols) rfl
  obtain ⟨fd_distances_from_ranks, F_distances_from_ranks⟩ := c.def_ 21 (d := d_distances_from_ranks) rfl
  obtain ⟨fd_law_own_mapping, F_law_own_mapping⟩ := c.def_ 22 (d := d_law_own_mapping) rfl
  obtain ⟨fd_reversed_distances, F_reversed_distances⟩ := c.def_ 23 (d := d_reversed_distances) rfl
  obtain ⟨fd_window_of, F_window_of⟩ := c.def_ 24 (d := d_window_of) rfl
  obtain ⟨fd_window, F_window⟩ := c.def_ 25 (d := d_window) rfl
  obtain ⟨fd_is_pair, F_is_pair⟩ := c.def_ 26 (d := d_is_pair) rfl
  obtain ⟨fd_is_mapping, F_is_mapping⟩ := c.def_ 27 (d := d_is_mapping) rfl
  obtain ⟨fd_concatenate, F_concatenate⟩ := c.def_ 28 (d := d_concatenate) rfl
  obtain ⟨fd_count_mappings, F_count_mappings⟩ := c.def_ 29 (d := d_count_mappings) rfl
  obtain ⟨fd_law_mapping_count, F_law_mapping_count⟩ := c.def_ 30 (d := d_law_mapping_count) rfl
  obtain ⟨fd_checked_search, F_checked_search⟩ := c.def_ 31 (d := d_checked_search) rfl
  obtain ⟨fd_occurs_at, F_occurs_at⟩ := c.def_ 32 (d := d_occurs_at) rfl
  obtain ⟨fd_find_all, F_find_all⟩ := c.def_ 33 (d := d_find_all) rfl
  obtain ⟨fd_next_distances, F_next_distances⟩ := c.def_ 34 (d := d_next_distances) rfl
  obtain ⟨fd_law_windows_hold, F_law_windows_hold⟩ := c.def_ 35 (d := d_law_windows_hold) rfl
  obtain ⟨fd_check_number, F_check_number⟩ := c.def_ 36 (d := d_check_number) rfl
  obtain ⟨fd_completion_table, F_completion_table⟩ := c.def_ 37 (d := d_completion_table) rfl
  obtain ⟨fd_rank_at, F_rank_at⟩ := c.def_ 38 (d := d_rank_at) rfl
  obtain ⟨fd_rank_list, F_rank_list⟩ := c.def_ 39 (d := d_rank_list) rfl
  obtain ⟨fd_count_lists, F_count_lists⟩ := c.def_ 40 (d := d_count_lists) rfl
  obtain ⟨fd_unrank_list, F_unrank_list⟩ := c.def_ 41 (d := d_unrank_list) rfl
  obtain ⟨fd_law_smallest, F_law_smallest⟩ := c.def_ 42 (d := d_law_smallest) rfl
  obtain ⟨fd_law_exact_count, F_law_exact_count⟩ := c.def_ 43 (d := d_law_exact_count) rfl
  obtain ⟨fd_law_ranking_holds, F_law_ranking_holds⟩ := c.def_ 44 (d := d_law_ranking_holds) rfl
  obtain ⟨fd_recency_ranks, F_recency_ranks⟩ := c.def_ 45 (d := d_recency_ranks) rfl
  obtain ⟨fd_law_holds, F_law_holds⟩ := c.def_ 46 (d := d_law_holds) rfl
  obtain ⟨fd_law_stream, F_law_stream⟩ := c.def_ 47 (d := d_law_stream) rfl
  obtain ⟨fd_law, F_law⟩ := c.def_ 48 (d := d_law) rfl
  have g_abs : mg "abs" = none := He.free_ok X G (c.fact 49 (f := .free "abs") rfl)
  have g_all : mg "all" = none := He.free_ok X G (c.fact 50 (f := .free "all") rfl)
  have g_bool : mg "bool" = none := He.free_ok X G (c.fact 51 (f := .free "bool") rfl)
  have g_enumerate : mg "enumerate" = none := He.free_ok X G (c.fact 52 (f := .free "enumerate") rfl)
  have g_int : mg "int" = none := He.free_ok X G (c.fact 53 (f := .free "int") rfl)
  have g_isinstance : mg "isinstance" = none := He.free_ok X G (c.fact 54 (f := .free "isinstance") rfl)
  have g_len : mg "len" = none := He.free_ok X G (c.fact 55 (f := .free "len") rfl)
  have g_list : mg "list" = none := He.free_ok X G (c.fact 56 (f := .free "list") rfl)
  have g_max : mg "max" = none := He.free_ok X G (c.fact 57 (f := .free "max") rfl)
  have g_min : mg "min" = none := He.free_ok X G (c.fact 58 (f := .free "min") rfl)
  have g_range : mg "range" = none := He.free_ok X G (c.fact 59 (f := .free "range") rfl)
  have g_set : mg "set" = none := He.free_ok X G (c.fact 60 (f := .free "set") rfl)
  have g_sorted : mg "sorted" = none := He.free_ok X G (c.fact 61 (f := .free "sorted") rfl)
  have g_tuple : mg "tuple" = none := He.free_ok X G (c.fact 62 (f := .free "tuple") rfl)
  have g_zip : mg "zip" = none := He.free_ok X G (c.fact 63 (f := .free "zip") rfl)
  have q_MAX_POSITIONS : ∃ u, mg "MAX_POSITIONS" = some u ∧ RelV (.int (400)) u := let ⟨t, e⟩ := He.int_ok X G (c.fact 64 (f := .int "MAX_POSITIONS" (400)) rfl); ⟨_, e, t, rfl⟩
  have b_law := FunD.bindsA (ps := ["_law_script"]) F_law fun _ _ _ _ _ _ us hl => match us, hl with | [_], _ => rfl
  refine ⟨fd_law, fun s v => b_law s [v] rfl, fun base => ?_⟩
  have bi_c_law_distances : Binds K fd_law_distances ["_law_symbols_here"] [] := F_law_distances.bindsN fun _ _ _ _ _ _ us hl => match us, hl with | [_], _ => rfl
  have ok_law_distances := k_law_distances (x := kxK K) (Pr := P) (w := w) (mg := mg) (base := base) F_law_distances g_enumerate g_range
  have c_law_distances : Cal P w K mg base (kxK K) "_law_distances" 1 ["_law_symbols_here"] 1 m_law_distances [] := ⟨_, fd_law_distances, [], [], ok_law_distances, (He.glo_ok X G (c.fact 0 (f := .glo "_law_distances") rfl)), F_law_distances.kp, bi_c_law_distances, .nil, fun _ => .nil⟩
  have bi_c_law_ids : Binds K fd_law_ids ["_law_distances_here"] [] := F_law_ids.bindsN fun _ _ _ _ _ _ us hl => match us, hl with | [_], _ => rfl
  have ok_law_ids := k_law_ids (x := kxK K) (Pr := P) (w := w) (mg := mg) (base := base) F_law_ids g_enumerate
  have c_law_ids : Cal P w K mg base (kxK K) "_law_ids" 1 ["_law_distances_here"] 1 m_law_ids [] := ⟨_, fd_law_ids, [], [], ok_law_ids, (He.glo_ok X G (c.fact 1 (f := .glo "_law_ids") rfl)), F_law_ids.kp, bi_c_law_ids, .nil, fun _ => .nil⟩
  have bi_c_law_symbol_count : Binds K fd_law_symbol_count ["_law_distances_here"] [] := F_law_symbol_count.bindsN fun _ _ _ _ _ _ us hl => match us, hl with | [_], _ => rfl
  have ok_law_symbol_count := k_law_symbol_count (x := kxK K) (Pr := P) (w := w) (mg := mg) (base := base) F_law_symbol_count g_len
  have c_law_symbol_count : Cal P w K mg base (kxK K) "_law_symbol_count" 1 ["_law_distances_here"] 1 m_law_symbol_count [] := ⟨_, fd_law_symbol_count, [], [], ok_law_symbol_count, (He.glo_ok X G (c.fact 2 (f := .glo "_law_symbol_count") rfl)), F_law_symbol_count.kp, bi_c_law_symbol_count, .nil, fun _ => .nil⟩
  have bi_c_law_draw : Binds K fd_law_draw ["_law_stream_here", "_law_many"] [] := F_law_draw.bindsN fun _ _ _ _ _ _ us hl => match us, hl with | [_, _], _ => rfl
  have ok_law_draw := k_law_draw (x := kxK K) (Pr := P) (w := w) (mg := mg) (base := base) F_law_draw 
  have c_law_draw : Cal P w K mg base (kxK K) "_law_draw" 1 ["_law_stream_here", "_law_many"] 2 m_law_draw [] := ⟨_, fd_law_draw, [], [], ok_law_draw, (He.glo_ok X G (c.fact 3 (f := .glo "_law_draw") rfl)), F_law_draw.kp, bi_c_law_draw, .nil, fun _ => .nil⟩
  have bi_c_is_sequence : Binds K fd_is_sequence ["value"] [] := F_is_sequence.bindsN fun _ _ _ _ _ _ us hl => match us, hl with | [_], _ => rfl
  have ok_is_sequence := k_is_sequence (x := kxK K) (Pr := P) (w := w) (mg := mg) (base := base) F_is_sequence g_isinstance g_list g_tuple
  have c_is_sequence : Cal P w K mg base (kxK K) "is_sequence" 1 ["value"] 1 m_is_sequence [] := ⟨_, fd_is_sequence, [], [], ok_is_sequence, (He.glo_ok X G (c.fact 4 (f := .glo "is_sequence") rfl)), F_is_sequence.kp, bi_c_is_sequence, .nil, fun _ => .nil⟩
  obtain ⟨ds_c_is_integer, vd_c_is_integer, bi_c_is_integer⟩ := F_is_integer.binds1 (ps := ["value", "lowest", "highest"]) 3 1 (by intro e; cases e) rfl fun _ _ _ _ _ _ _ us its h1 h2 => match us, its, h1, h2 with | [_, _, _], [_], _, _ => ⟨_, rfl, rfl⟩
  have ok_is_integer := k_is_integer (x := kxK K) (Pr := P) (w := w) (mg := mg) (base := base) F_is_integer g_isinstance g_int g_bool
  have c_is_integer : Cal P w K mg base (kxK K) "is_integer" 1 ["value", "lowest", "highest"] 3 m_is_integer [] := ⟨_, fd_is_integer, [], ds_c_is_integer, ok_is_integer, (He.glo_ok X G (c.fact 5 (f := .glo "is_integer") rfl)), F_is_integer.kp, bi_c_is_integer, vd_c_is_integer, fun _ => .nil⟩
  have bi_c_is_distances : Binds K fd_is_distances ["value"] [] := F_is_distances.bindsN fun _ _ _ _ _ _ us hl => match us, hl with | [_], _ => rfl
  have ok_is_distances := k_is_distances (x := kxK K) (Pr := P) (w := w) (mg := mg) (base := base) F_is_distances c_is_sequence g_len q_MAX_POSITIONS g_enumerate c_is_integer g_all g_set
  have c_is_distances : Cal P w K mg base (kxK K) "is_distances" 2 ["value"] 1 m_is_distances [] := ⟨_, fd_is_distances, [], [], ok_is_distances, (He.glo_ok X G (c.fact 6 (f := .glo "is_distances") rfl)), F_is_distances.kp, bi_c_is_distances, .nil, fun _ => .nil⟩
  have bi_c_checked_distances : Binds K fd_checked_distances ["distances"] [] := F_checked_distances.bindsN fun _ _ _ _ _ _ us hl => match us, hl with | [_], _ => rfl
  have ok_checked_distances := k_checked_distances (x := kxK K) (Pr := P) (w := w) (mg := mg) (base := base) F_checked_distances c_is_distances g_list
  have c_checked_distances : Cal P w K mg base (kxK K) "checked_distances" 3 ["distances"] 1 m_checked_distances [] := ⟨_, fd_checked_distances, [], [], ok_checked_distances, (He.glo_ok X G (c.fact 7 (f := .glo "checked_distances") rfl)), F_checked_distances.kp, bi_c_checked_distances, .nil, fun _ => .nil⟩
  have bi_c_check_position : Binds K fd_check_position ["position", "highest"] [] := F_check_position.bindsN fun _ _ _ _ _ _ us hl => match us, hl with | [_, _], _ => rfl
  have ok_check_position := k_check_position (x := kxK K) (Pr := P) (w := w) (mg := mg) (base := base) F_check_position c_is_integer
  have c_check_position : Cal P w K mg base (kxK K) "check_position" 2 ["position", "highest"] 2 m_check_position [] := ⟨_, fd_check_position, [], [], ok_check_position, (He.glo_ok X G (c.fact 8 (f := .glo "check_position") rfl)), F_check_position.kp, bi_c_check_position, .nil, fun _ => .nil⟩
  have bi_c_check_symbol : Binds K fd_check_symbol ["symbol", "highest"] [] := F_check_symbol.bindsN fun _ _ _ _ _ _ us hl => match us, hl with | [_, _], _ => rfl
  have ok_check_symbol := k_check_symbol (x := kxK K) (Pr := P) (w := w) (mg := mg) (base := base) F_check_symbol c_is_integer
  have c_check_symbol : Cal P w K mg base (kxK K) "check_symbol" 2 ["symbol", "highest"] 2 m_check_symbol [] := ⟨_, fd_check_symbol, [], [], ok_check_symbol, (He.glo_ok X G (c.fact 9 (f := .glo "check_symbol") rfl)), F_check_symbol.kp, bi_c_check_symbol, .nil, fun _ => .nil⟩
  have bi_c_ids_of : Binds K fd_ids_of ["distances"] [] := F_ids_of.bindsN fun _ _ _ _ _ _ us hl => match us, hl with | [_], _ => rfl
  have ok_ids_of := k_ids_of (x := kxK K) (Pr := P) (w := w) (mg := mg) (base := base) F_ids_of g_enumerate
  have c_ids_of : Cal P w K mg base (kxK K) "ids_of" 1 ["distances"] 1 m_ids_of [] := ⟨_, fd_ids_of, [], [], ok_ids_of, (He.glo_ok X G (c.fact 10 (f := .glo "ids_of") rfl)), F_ids_of.kp, bi_c_ids_of, .nil, fun _ => .nil⟩
  have bi_c_distances_by : Binds K fd_distances_by ["symbols"] [] := F_distances_by.bindsN fun _ _ _ _ _ _ us hl => match us, hl with | [_], _ => rfl
  have ok_distances_by := k_distances_by (x := kxK K) (Pr := P) (w := w) (mg := mg) (base := base) F_distances_by g_enumerate
  have c_distances_by : Cal P w K mg base (kxK K) "distances_by" 1 ["symbols"] 1 m_distances_by [] := ⟨_, fd_distances_by, [], [], ok_distances_by, (He.glo_ok X G (c.fact 11 (f := .glo "distances_by") rfl)), F_distances_by.kp, bi_c_distances_by, .nil, fun _ => .nil⟩
  have bi_c_symbol_count : Binds K fd_symbol_count ["distances"] [] := F_symbol_count.bindsN fun _ _ _ _ _ _ us hl => match us, hl with | [_], _ => rfl
  have ok_symbol_count := k_symbol_count (x := kxK K) (Pr := P) (w := w) (mg := mg) (base := base) F_symbol_count g_len
  have c_symbol_count : Cal P w K mg base (kxK K) "symbol_count" 1 ["distances"] 1 m_symbol_count [] := ⟨_, fd_symbol_count, [], [], ok_symbol_count, (He.glo_ok X G (c.fact 12 (f := .glo "symbol_count") rfl)), F_symbol_count.kp, bi_c_symbol_count, .nil, fun _ => .nil⟩
  have bi_c_replace_at : Binds K fd_replace_at ["distances", "position", "symbol"] [] := F_replace_at.bindsN fun _ _ _ _ _ _ us hl => match us, hl with | [_, _, _], _ => rfl
  have ok_replace_at := k_replace_at (x := kxK K) (Pr := P) (w := w) (mg := mg) (base := base) F_replace_at c_checked_distances c_check_position g_len c_check_symbol c_symbol_count c_ids_of c_distances_by
  have c_replace_at : Cal P w K mg base (kxK K) "replace_at" 4 ["distances", "position", "symbol"] 3 m_replace_at [] := ⟨_, fd_replace_at, [], [], ok_replace_at, (He.glo_ok X G (c.fact 13 (f := .glo "replace_at") rfl)), F_replace_at.kp, bi_c_replace_at, .nil, fun _ => .nil⟩
  have bi_c_split_symbol : Binds K fd_split_symbol ["distances", "position"] [] := F_split_symbol.bindsN fun _ _ _ _ _ _ us hl => match us, hl with | [_, _], _ => rfl
  have ok_split_symbol := k_split_symbol (x := kxK K) (Pr := P) (w := w) (mg := mg) (base := base) F_split_symbol c_checked_distances c_check_position g_len c_ids_of c_symbol_count c_distances_by
  have c_split_symbol : Cal P w K mg base (kxK K) "split_symbol" 4 ["distances", "position"] 2 m_split_symbol [] := ⟨_, fd_split_symbol, [], [], ok_split_symbol, (He.glo_ok X G (c.fact 14 (f := .glo "split_symbol") rfl)), F_split_symbol.kp, bi_c_split_symbol, .nil, fun _ => .nil⟩
  have bi_c_symbol_ids : Binds K fd_symbol_ids ["distances"] [] := F_symbol_ids.bindsN fun _ _ _ _ _ _ us hl => match us, hl with | [_], _ => rfl
  have ok_symbol_ids := k_symbol_ids (x := kxK K) (Pr := P) (w := w) (mg := mg) (base := base) F_symbol_ids c_ids_of c_checked_distances
  have c_symbol_ids : Cal P w K mg base (kxK K) "symbol_ids" 4 ["distances"] 1 m_symbol_ids [] := ⟨_, fd_symbol_ids, [], [], ok_symbol_ids, (He.glo_ok X G (c.fact 15 (f := .glo "symbol_ids") rfl)), F_symbol_ids.kp, bi_c_symbol_ids, .nil, fun _ => .nil⟩
  have bi_c_delete_at : Binds K fd_delete_at ["distances", "position"] [] := F_delete_at.bindsN fun _ _ _ _ _ _ us hl => match us, hl with | [_, _], _ => rfl
  have ok_delete_at := k_delete_at (x := kxK K) (Pr := P) (w := w) (mg := mg) (base := base) F_delete_at c_checked_distances c_check_position g_len c_ids_of c_distances_by
  have c_delete_at : Cal P w K mg base (kxK K) "delete_at" 4 ["distances", "position"] 2 m_delete_at [] := ⟨_, fd_delete_at, [], [], ok_delete_at, (He.glo_ok X G (c.fact 16 (f := .glo "delete_at") rfl)), F_delete_at.kp, bi_c_delete_at, .nil, fun _ => .nil⟩
  have bi_c_merge_symbols : Binds K fd_merge_symbols ["distances", "one", "other"] [] := F_merge_symbols.bindsN fun _ _ _ _ _ _ us hl => match us, hl with | [_, _, _], _ => rfl
  have ok_merge_symbols := k_merge_symbols (x := kxK K) (Pr := P) (w := w) (mg := mg) (base := base) F_merge_symbols c_checked_distances c_check_symbol c_symbol_count c_distances_by c_ids_of
  have c_merge_symbols : Cal P w K mg base (kxK K) "merge_symbols" 4 ["distances", "one", "other"] 3 m_merge_symbols [] := ⟨_, fd_merge_symbols, [], [], ok_merge_symbols, (He.glo_ok X G (c.fact 17 (f := .glo "merge_symbols") rfl)), F_merge_symbols.kp, bi_c_merge_symbols, .nil, fun _ => .nil⟩
  have bi_c_insert_at : Binds K fd_insert_at ["distances", "position", "symbol"] [] := F_insert_at.bindsN fun _ _ _ _ _ _ us hl => match us, hl with | [_, _, _], _ => rfl
  have ok_insert_at := k_insert_at (x := kxK K) (Pr := P) (w := w) (mg := mg) (base := base) F_insert_at c_checked_distances c_check_position g_len c_check_symbol c_symbol_count q_MAX_POSITIONS c_ids_of c_distances_by
  have c_insert_at : Cal P w K mg base (kxK K) "insert_at" 4 ["distances", "position", "symbol"] 3 m_insert_at [] := ⟨_, fd_insert_at, [], [], ok_insert_at, (He.glo_ok X G (c.fact 18 (f := .glo "insert_at") rfl)), F_insert_at.kp, bi_c_insert_at, .nil, fun _ => .nil⟩
  have bi_c_law_edits_hold : Binds K fd_law_edits_hold ["_law_stream_here", "_law_distances_here"] [] := F_law_edits_hold.bindsN fun _ _ _ _ _ _ us hl => match us, hl with | [_, _], _ => rfl
  have ok_law_edits_hold := k_law_edits_hold (x := kxK K) (Pr := P) (w := w) (mg := mg) (base := base) F_law_edits_hold g_len c_law_ids c_law_symbol_count c_law_draw c_symbol_ids c_delete_at c_insert_at c_replace_at g_range c_split_symbol c_merge_symbols
  have c_law_edits_hold : Cal P w K mg base (kxK K) "_law_edits_hold" 5 ["_law_stream_here", "_law_distances_here"] 2 m_law_edits_hold [] := ⟨_, fd_law_edits_hold, [], [], ok_law_edits_hold, (He.glo_ok X G (c.fact 19 (f := .glo "_law_edits_hold") rfl)), F_law_edits_hold.kp, bi_c_law_edits_hold, .nil, fun _ => .nil⟩
  have bi_c_law_symbols : Binds K fd_law_symbols ["_law_stream_here", "_law_many", "_law_most"] [] := F_law_symbols.bindsN fun _ _ _ _ _ _ us hl => match us, hl with | [_, _, _], _ => rfl
  have ok_law_symbols := k_law_symbols (x := kxK K) (Pr := P) (w := w) (mg := mg) (base := base) F_law_symbols c_law_draw g_range
  have c_law_symbols : Cal P w K mg base (kxK K) "_law_symbols" 2 ["_law_stream_here", "_law_many", "_law_most"] 3 m_law_symbols [] := ⟨_, fd_law_symbols, [], [], ok_law_symbols, (He.glo_ok X G (c.fact 20 (f := .glo "_law_symbols") rfl)), F_law_symbols.kp, bi_c_law_symbols, .nil, fun _ => .nil⟩
  have bi_c_distances_from_ranks : Binds K fd_distances_from_ranks ["ranks"] [] := F_distances_from_ranks.bindsN fun _ _ _ _ _ _ us hl => match us, hl with | [_], _ => rfl
  have ok_distances_from_ranks := k_distances_from_ranks (x := kxK K) (Pr := P) (w := w) (mg := mg) (base := base) F_distances_from_ranks c_is_sequence c_is_integer g_len c_distances_by
  have c_distances_from_ranks : Cal P w K mg base (kxK K) "distances_from_ranks" 2 ["ranks"] 1 m_distances_from_ranks [] := ⟨_, fd_distances_from_ranks, [], [], ok_distances_from_ranks, (He.glo_ok X G (c.fact 21 (f := .glo "distances_from_ranks") rfl)), F_distances_from_ranks.kp, bi_c_distances_from_ranks, .nil, fun _ => .nil⟩
  have bi_c_law_own_mapping : Binds K fd_law_own_mapping ["_law_distances_here", "_law_position"] [] := F_law_own_mapping.bindsN fun _ _ _ _ _ _ us hl => match us, hl with | [_, _], _ => rfl
  have ok_law_own_mapping := k_law_own_mapping (x := kxK K) (Pr := P) (w := w) (mg := mg) (base := base) F_law_own_mapping c_law_ids c_law_distances g_enumerate g_sorted
  have c_law_own_mapping : Cal P w K mg base (kxK K) "_law_own_mapping" 2 ["_law_distances_here", "_law_position"] 2 m_law_own_mapping [] := ⟨_, fd_law_own_mapping, [], [], ok_law_own_mapping, (He.glo_ok X G (c.fact 22 (f := .glo "_law_own_mapping") rfl)), F_law_own_mapping.kp, bi_c_law_own_mapping, .nil, fun _ => .nil⟩
  have bi_c_reversed_distances : Binds K fd_reversed_distances ["distances"] [] := F_reversed_distances.bindsN fun _ _ _ _ _ _ us hl => match us, hl with | [_], _ => rfl
  have ok_reversed_distances := k_reversed_distances (x := kxK K) (Pr := P) (w := w) (mg := mg) (base := base) F_reversed_distances c_distances_by c_ids_of c_checked_distances
  have c_reversed_distances : Cal P w K mg base (kxK K) "reversed_distances" 4 ["distances"] 1 m_reversed_distances [] := ⟨_, fd_reversed_distances, [], [], ok_reversed_distances, (He.glo_ok X G (c.fact 23 (f := .glo "reversed_distances") rfl)), F_reversed_distances.kp, bi_c_reversed_distances, .nil, fun _ => .nil⟩
  have bi_c_window_of : Binds K fd_window_of ["distances", "start", "length"] [] := F_window_of.bindsN fun _ _ _ _ _ _ us hl => match us, hl with | [_, _, _], _ => rfl
  have ok_window_of := k_window_of (x := kxK K) (Pr := P) (w := w) (mg := mg) (base := base) F_window_of g_enumerate
  have c_window_of : Cal P w K mg base (kxK K) "window_of" 1 ["distances", "start", "length"] 3 m_window_of [] := ⟨_, fd_window_of, [], [], ok_window_of, (He.glo_ok X G (c.fact 24 (f := .glo "window_of") rfl)), F_window_of.kp, bi_c_window_of, .nil, fun _ => .nil⟩
  have bi_c_window : Binds K fd_window ["distances", "start", "length"] [] := F_window.bindsN fun _ _ _ _ _ _ us hl => match us, hl with | [_, _, _], _ => rfl
  have ok_window := k_window (x := kxK K) (Pr := P) (w := w) (mg := mg) (base := base) F_window c_checked_distances c_check_position g_len c_is_integer c_window_of
  have c_window : Cal P w K mg base (kxK K) "window" 4 ["distances", "start", "length"] 3 m_window [] := ⟨_, fd_window, [], [], ok_window, (He.glo_ok X G (c.fact 25 (f := .glo "window") rfl)), F_window.kp, bi_c_window, .nil, fun _ => .nil⟩
  have bi_c_is_pair : Binds K fd_is_pair ["value", "own_count", "other_count"] [] := F_is_pair.bindsN fun _ _ _ _ _ _ us hl => match us, hl with | [_, _, _], _ => rfl
  have ok_is_pair := k_is_pair (x := kxK K) (Pr := P) (w := w) (mg := mg) (base := base) F_is_pair c_is_sequence g_len c_is_integer
  have c_is_pair : Cal P w K mg base (kxK K) "is_pair" 2 ["value", "own_count", "other_count"] 3 m_is_pair [] := ⟨_, fd_is_pair, [], [], ok_is_pair, (He.glo_ok X G (c.fact 26 (f := .glo "is_pair") rfl)), F_is_pair.kp, bi_c_is_pair, .nil, fun _ => .nil⟩
  have bi_c_is_mapping : Binds K fd_is_mapping ["value", "own_count", "other_count"] [] := F_is_mapping.bindsN fun _ _ _ _ _ _ us hl => match us, hl with | [_, _, _], _ => rfl
  have ok_is_mapping := k_is_mapping (x := kxK K) (Pr := P) (w := w) (mg := mg) (base := base) F_is_mapping c_is_sequence c_is_pair g_all g_zip g_len g_set
  have c_is_mapping : Cal P w K mg base (kxK K) "is_mapping" 3 ["value", "own_count", "other_count"] 3 m_is_mapping [] := ⟨_, fd_is_mapping, [], [], ok_is_mapping, (He.glo_ok X G (c.fact 27 (f := .glo "is_mapping") rfl)), F_is_mapping.kp, bi_c_is_mapping, .nil, fun _ => .nil⟩
  have bi_c_concatenate : Binds K fd_concatenate ["first", "second", "mapping"] [] := F_concatenate.bindsN fun _ _ _ _ _ _ us hl => match us, hl with | [_, _, _], _ => rfl
  have ok_concatenate := k_concatenate (x := kxK K) (Pr := P) (w := w) (mg := mg) (base := base) F_concatenate c_checked_distances c_symbol_count c_is_mapping g_len q_MAX_POSITIONS c_distances_by c_ids_of
  have c_concatenate : Cal P w K mg base (kxK K) "concatenate" 4 ["first", "second", "mapping"] 3 m_concatenate [] := ⟨_, fd_concatenate, [], [], ok_concatenate, (He.glo_ok X G (c.fact 28 (f := .glo "concatenate") rfl)), F_concatenate.kp, bi_c_concatenate, .nil, fun _ => .nil⟩
  have bi_c_count_mappings : Binds K fd_count_mappings ["first", "second"] [] := F_count_mappings.bindsN fun _ _ _ _ _ _ us hl => match us, hl with | [_, _], _ => rfl
  have ok_count_mappings := k_count_mappings (x := kxK K) (Pr := P) (w := w) (mg := mg) (base := base) F_count_mappings c_symbol_count c_checked_distances g_min g_range
  have c_count_mappings : Cal P w K mg base (kxK K) "count_mappings" 4 ["first", "second"] 2 m_count_mappings [] := ⟨_, fd_count_mappings, [], [], ok_count_mappings, (He.glo_ok X G (c.fact 29 (f := .glo "count_mappings") rfl)), F_count_mappings.kp, bi_c_count_mappings, .nil, fun _ => .nil⟩
  have bi_c_law_mapping_count : Binds K fd_law_mapping_count ["_law_few", "_law_many"] [] := F_law_mapping_count.bindsN fun _ _ _ _ _ _ us hl => match us, hl with | [_, _], _ => rfl
  have ok_law_mapping_count := k_law_mapping_count (x := kxK K) (Pr := P) (w := w) (mg := mg) (base := base) F_law_mapping_count g_min g_range
  have c_law_mapping_count : Cal P w K mg base (kxK K) "_law_mapping_count" 1 ["_law_few", "_law_many"] 2 m_law_mapping_count [] := ⟨_, fd_law_mapping_count, [], [], ok_law_mapping_count, (He.glo_ok X G (c.fact 30 (f := .glo "_law_mapping_count") rfl)), F_law_mapping_count.kp, bi_c_law_mapping_count, .nil, fun _ => .nil⟩
  have bi_c_checked_search : Binds K fd_checked_search ["distances"] [] := F_checked_search.bindsN fun _ _ _ _ _ _ us hl => match us, hl with | [_], _ => rfl
  have ok_checked_search := k_checked_search (x := kxK K) (Pr := P) (w := w) (mg := mg) (base := base) F_checked_search c_is_distances g_list
  have c_checked_search : Cal P w K mg base (kxK K) "checked_search" 3 ["distances"] 1 m_checked_search [] := ⟨_, fd_checked_search, [], [], ok_checked_search, (He.glo_ok X G (c.fact 31 (f := .glo "checked_search") rfl)), F_checked_search.kp, bi_c_checked_search, .nil, fun _ => .nil⟩
  have bi_c_occurs_at : Binds K fd_occurs_at ["distances", "pattern", "start"] [] := F_occurs_at.bindsN fun _ _ _ _ _ _ us hl => match us, hl with | [_, _, _], _ => rfl
  have ok_occurs_at := k_occurs_at (x := kxK K) (Pr := P) (w := w) (mg := mg) (base := base) F_occurs_at g_enumerate
  have c_occurs_at : Cal P w K mg base (kxK K) "occurs_at" 1 ["distances", "pattern", "start"] 3 m_occurs_at [] := ⟨_, fd_occurs_at, [], [], ok_occurs_at, (He.glo_ok X G (c.fact 32 (f := .glo "occurs_at") rfl)), F_occurs_at.kp, bi_c_occurs_at, .nil, fun _ => .nil⟩
  have bi_c_find_all : Binds K fd_find_all ["distances", "pattern"] [] := F_find_all.bindsN fun _ _ _ _ _ _ us hl => match us, hl with | [_, _], _ => rfl
  have ok_find_all := k_find_all (x := kxK K) (Pr := P) (w := w) (mg := mg) (base := base) F_find_all c_checked_search g_len g_range c_occurs_at
  have c_find_all : Cal P w K mg base (kxK K) "find_all" 4 ["distances", "pattern"] 2 m_find_all [] := ⟨_, fd_find_all, [], [], ok_find_all, (He.glo_ok X G (c.fact 33 (f := .glo "find_all") rfl)), F_find_all.kp, bi_c_find_all, .nil, fun _ => .nil⟩
  have bi_c_next_distances : Binds K fd_next_distances ["distances"] [] := F_next_distances.bindsN fun _ _ _ _ _ _ us hl => match us, hl with | [_], _ => rfl
  have ok_next_distances := k_next_distances (x := kxK K) (Pr := P) (w := w) (mg := mg) (base := base) F_next_distances c_checked_distances g_enumerate
  have c_next_distances : Cal P w K mg base (kxK K) "next_distances" 4 ["distances"] 1 m_next_distances [] := ⟨_, fd_next_distances, [], [], ok_next_distances, (He.glo_ok X G (c.fact 34 (f := .glo "next_distances") rfl)), F_next_distances.kp, bi_c_next_distances, .nil, fun _ => .nil⟩
  have bi_c_law_windows_hold : Binds K fd_law_windows_hold ["_law_distances_here", "_law_position"] [] := F_law_windows_hold.bindsN fun _ _ _ _ _ _ us hl => match us, hl with | [_, _], _ => rfl
  have ok_law_windows_hold := k_law_windows_hold (x := kxK K) (Pr := P) (w := w) (mg := mg) (base := base) F_law_windows_hold c_window g_len c_law_own_mapping c_concatenate c_law_symbol_count c_count_mappings c_law_mapping_count c_reversed_distances c_next_distances c_find_all
  have c_law_windows_hold : Cal P w K mg base (kxK K) "_law_windows_hold" 5 ["_law_distances_here", "_law_position"] 2 m_law_windows_hold [] := ⟨_, fd_law_windows_hold, [], [], ok_law_windows_hold, (He.glo_ok X G (c.fact 35 (f := .glo "_law_windows_hold") rfl)), F_law_windows_hold.kp, bi_c_law_windows_hold, .nil, fun _ => .nil⟩
  obtain ⟨ds_c_check_number_1, vd_c_check_number_1, bi_c_check_number_1⟩ := F_check_number.binds1 (ps := ["number", "highest"]) 1 0 (by intro e; cases e) rfl fun _ _ _ _ _ _ _ us its h1 h2 => match us, its, h1, h2 with | [_], [_], _, _ => ⟨_, rfl, rfl⟩
  obtain ⟨ds_c_check_number, vd_c_check_number, bi_c_check_number⟩ := F_check_number.binds1 (ps := ["number", "highest"]) 2 1 (by intro e; cases e) rfl fun _ _ _ _ _ _ _ us its h1 h2 => match us, its, h1, h2 with | [_, _], [_], _, _ => ⟨_, rfl, rfl⟩
  have ok_check_number := k_check_number (x := kxK K) (Pr := P) (w := w) (mg := mg) (base := base) F_check_number c_is_integer
  have c_check_number_1 : Cal P w K mg base (kxK K) "check_number" 2 ["number", "highest"] 2 m_check_number [.non] := ⟨_, fd_check_number, [.non], ds_c_check_number_1, ok_check_number, (He.glo_ok X G (c.fact 36 (f := .glo "check_number") rfl)), F_check_number.kp, bi_c_check_number_1, vd_c_check_number_1, fun _ => .cons .non (.nil)⟩
  have c_check_number : Cal P w K mg base (kxK K) "check_number" 2 ["number", "highest"] 2 m_check_number [] := ⟨_, fd_check_number, [], ds_c_check_number, ok_check_number, (He.glo_ok X G (c.fact 36 (f := .glo "check_number") rfl)), F_check_number.kp, bi_c_check_number, vd_c_check_number, fun _ => .nil⟩
  have bi_c_completion_table : Binds K fd_completion_table ["length", "most_symbols"] [] := F_completion_table.bindsN fun _ _ _ _ _ _ us hl => match us, hl with | [_, _], _ => rfl
  have ok_completion_table := k_completion_table (x := kxK K) (Pr := P) (w := w) (mg := mg) (base := base) F_completion_table g_min g_range
  have c_completion_table : Cal P w K mg base (kxK K) "completion_table" 1 ["length", "most_symbols"] 2 m_completion_table [] := ⟨_, fd_completion_table, [], [], ok_completion_table, (He.glo_ok X G (c.fact 37 (f := .glo "completion_table") rfl)), F_completion_table.kp, bi_c_completion_table, .nil, fun _ => .nil⟩
  have bi_c_rank_at : Binds K fd_rank_at ["distances", "ids", "position"] [] := F_rank_at.bindsN fun _ _ _ _ _ _ us hl => match us, hl with | [_, _, _], _ => rfl
  have ok_rank_at := k_rank_at (x := kxK K) (Pr := P) (w := w) (mg := mg) (base := base) F_rank_at g_len g_set
  have c_rank_at : Cal P w K mg base (kxK K) "rank_at" 1 ["distances", "ids", "position"] 3 m_rank_at [] := ⟨_, fd_rank_at, [], [], ok_rank_at, (He.glo_ok X G (c.fact 38 (f := .glo "rank_at") rfl)), F_rank_at.kp, bi_c_rank_at, .nil, fun _ => .nil⟩
  have bi_c_rank_list : Binds K fd_rank_list ["distances", "most_symbols"] [] := F_rank_list.bindsN fun _ _ _ _ _ _ us hl => match us, hl with | [_, _], _ => rfl
  have ok_rank_list := k_rank_list (x := kxK K) (Pr := P) (w := w) (mg := mg) (base := base) F_rank_list c_checked_distances c_check_number_1 c_symbol_count c_completion_table g_len g_min c_ids_of g_range c_rank_at
  have c_rank_list : Cal P w K mg base (kxK K) "rank_list" 4 ["distances", "most_symbols"] 2 m_rank_list [] := ⟨_, fd_rank_list, [], [], ok_rank_list, (He.glo_ok X G (c.fact 39 (f := .glo "rank_list") rfl)), F_rank_list.kp, bi_c_rank_list, .nil, fun _ => .nil⟩
  have bi_c_count_lists : Binds K fd_count_lists ["length", "most_symbols"] [] := F_count_lists.bindsN fun _ _ _ _ _ _ us hl => match us, hl with | [_, _], _ => rfl
  have ok_count_lists := k_count_lists (x := kxK K) (Pr := P) (w := w) (mg := mg) (base := base) F_count_lists c_check_number q_MAX_POSITIONS c_check_number_1 c_completion_table
  have c_count_lists : Cal P w K mg base (kxK K) "count_lists" 3 ["length", "most_symbols"] 2 m_count_lists [] := ⟨_, fd_count_lists, [], [], ok_count_lists, (He.glo_ok X G (c.fact 40 (f := .glo "count_lists") rfl)), F_count_lists.kp, bi_c_count_lists, .nil, fun _ => .nil⟩
  have bi_c_unrank_list : Binds K fd_unrank_list ["length", "most_symbols", "number"] [] := F_unrank_list.bindsN fun _ _ _ _ _ _ us hl => match us, hl with | [_, _, _], _ => rfl
  have ok_unrank_list := k_unrank_list (x := kxK K) (Pr := P) (w := w) (mg := mg) (base := base) F_unrank_list c_check_number q_MAX_POSITIONS c_check_number_1 c_completion_table g_min g_range c_distances_from_ranks
  have c_unrank_list : Cal P w K mg base (kxK K) "unrank_list" 3 ["length", "most_symbols", "number"] 3 m_unrank_list [] := ⟨_, fd_unrank_list, [], [], ok_unrank_list, (He.glo_ok X G (c.fact 41 (f := .glo "unrank_list") rfl)), F_unrank_list.kp, bi_c_unrank_list, .nil, fun _ => .nil⟩
  have bi_c_law_smallest : Binds K fd_law_smallest ["_law_many", "_law_most"] [] := F_law_smallest.bindsN fun _ _ _ _ _ _ us hl => match us, hl with | [_, _], _ => rfl
  have ok_law_smallest := k_law_smallest (x := kxK K) (Pr := P) (w := w) (mg := mg) (base := base) F_law_smallest g_min
  have c_law_smallest : Cal P w K mg base (kxK K) "_law_smallest" 1 ["_law_many", "_law_most"] 2 m_law_smallest [] := ⟨_, fd_law_smallest, [], [], ok_law_smallest, (He.glo_ok X G (c.fact 42 (f := .glo "_law_smallest") rfl)), F_law_smallest.kp, bi_c_law_smallest, .nil, fun _ => .nil⟩
  have bi_c_law_exact_count : Binds K fd_law_exact_count ["_law_many", "_law_most"] [] := F_law_exact_count.bindsN fun _ _ _ _ _ _ us hl => match us, hl with | [_, _], _ => rfl
  have ok_law_exact_count := k_law_exact_count (x := kxK K) (Pr := P) (w := w) (mg := mg) (base := base) F_law_exact_count g_range
  have c_law_exact_count : Cal P w K mg base (kxK K) "_law_exact_count" 1 ["_law_many", "_law_most"] 2 m_law_exact_count [] := ⟨_, fd_law_exact_count, [], [], ok_law_exact_count, (He.glo_ok X G (c.fact 43 (f := .glo "_law_exact_count") rfl)), F_law_exact_count.kp, bi_c_law_exact_count, .nil, fun _ => .nil⟩
  have bi_c_law_ranking_holds : Binds K fd_law_ranking_holds ["_law_stream_here", "_law_distances_here"] [] := F_law_ranking_holds.bindsN fun _ _ _ _ _ _ us hl => match us, hl with | [_, _], _ => rfl
  have ok_law_ranking_holds := k_law_ranking_holds (x := kxK K) (Pr := P) (w := w) (mg := mg) (base := base) F_law_ranking_holds g_len c_law_symbol_count c_law_draw c_rank_list c_count_lists c_unrank_list c_law_smallest g_int c_law_exact_count
  have c_law_ranking_holds : Cal P w K mg base (kxK K) "_law_ranking_holds" 5 ["_law_stream_here", "_law_distances_here"] 2 m_law_ranking_holds [] := ⟨_, fd_law_ranking_holds, [], [], ok_law_ranking_holds, (He.glo_ok X G (c.fact 44 (f := .glo "_law_ranking_holds") rfl)), F_law_ranking_holds.kp, bi_c_law_ranking_holds, .nil, fun _ => .nil⟩
  have bi_c_recency_ranks : Binds K fd_recency_ranks ["distances"] [] := F_recency_ranks.bindsN fun _ _ _ _ _ _ us hl => match us, hl with | [_], _ => rfl
  have ok_recency_ranks := k_recency_ranks (x := kxK K) (Pr := P) (w := w) (mg := mg) (base := base) F_recency_ranks c_checked_distances c_ids_of g_len g_range c_rank_at
  have c_recency_ranks : Cal P w K mg base (kxK K) "recency_ranks" 4 ["distances"] 1 m_recency_ranks [] := ⟨_, fd_recency_ranks, [], [], ok_recency_ranks, (He.glo_ok X G (c.fact 45 (f := .glo "recency_ranks") rfl)), F_recency_ranks.kp, bi_c_recency_ranks, .nil, fun _ => .nil⟩
  have bi_c_law_holds : Binds K fd_law_holds ["_law_stream_here"] [] := F_law_holds.bindsN fun _ _ _ _ _ _ us hl => match us, hl with | [_], _ => rfl
  have ok_law_holds := k_law_holds (x := kxK K) (Pr := P) (w := w) (mg := mg) (base := base) F_law_holds c_law_distances c_law_symbols c_law_draw c_distances_from_ranks c_recency_ranks c_law_windows_hold g_len c_law_ranking_holds c_law_edits_hold
  have c_law_holds : Cal P w K mg base (kxK K) "_law_holds" 6 ["_law_stream_here"] 1 m_law_holds [] := ⟨_, fd_law_holds, [], [], ok_law_holds, (He.glo_ok X G (c.fact 46 (f := .glo "_law_holds") rfl)), F_law_holds.kp, bi_c_law_holds, .nil, fun _ => .nil⟩
  have bi_c_law_stream : Binds K fd_law_stream ["_law_cell", "_law_k"] [] := F_law_stream.bindsN fun _ _ _ _ _ _ us hl => match us, hl with | [_, _], _ => rfl
  have ok_law_stream := k_law_stream (x := kxK K) (Pr := P) (w := w) (mg := mg) (base := base) F_law_stream g_abs
  have c_law_stream : Cal P w K mg base (kxK K) "_law_stream" 1 ["_law_cell", "_law_k"] 2 m_law_stream [] := ⟨_, fd_law_stream, [], [], ok_law_stream, (He.glo_ok X G (c.fact 47 (f := .glo "_law_stream") rfl)), F_law_stream.kp, bi_c_law_stream, .nil, fun _ => .nil⟩
  have ok_law := k_law (x := kxK K) (Pr := P) (w := w) (mg := mg) (base := base) F_law g_len g_min g_max g_enumerate c_law_holds c_law_stream
  exact ok_law
abbrev R : PySem.W.OpenRow := PySem.W.OpenLaw.row PySem.Challenge.rw_howfarback_k64_whole_windows_edits_and_r
abbrev hk : PySem.W.Hook := He.hookD 4 fa fn
def ob (s : PySem.W.SharedT) : He.AlD := He.obsDG 4 fa fn (HandSHeadRun.getT s)
theorem ob_eq (s : PySem.W.SharedT) : ob s = hk.obs s.abs := He.obsDG_eq (HandSHeadRun.getT_eq s)
def loose1 : List Str := ["HowFarBackError", "InvalidDistances", "InvalidRanks", "InvalidPosition", "InvalidNumber", "InvalidMapping", "TooLong", "UnknownSymbol", "MAX_POSITIONS", "is_integer", "is_sequence", "is_distances", "checked", "checked_distances", "ids_of", "distances_by", "symbol_count", "symbol_ids", "rank_at", "recency_ranks", "distances_from_ranks", "check_number", "completion_table", "count_lists", "rank_list", "unrank_list", "check_position", "window_of", "window", "is_pair"]
def loose2 : List Str := ["is_mapping", "concatenate", "count_mappings", "reversed_distances", "next_distances", "check_symbol", "insert_at", "delete_at", "replace_at", "merge_symbols", "split_symbol", "checked_search", "occurs_at", "find_all", "_law_stream", "_law_draw", "_law_distances", "_law_symbols", "_law_ids", "_law_symbol_count", "_law_own_mapping", "_law_mapping_count", "_law_windows_hold", "_law_ranking_holds", "_law_smallest", "_law_exact_count", "_law_edits_hold", "_law_holds"]
def loose3 : List Str := []
theorem run (w : World) : HandSHeadRun.RunEq R (PySem.W.view R.prog [66]) hk ob 4000 (loose1 ++ loose2 ++ loose3) w := by
  intro os
  kernel_rfl
end K64
open PySem PySem.W PySem.Calls PyProof.Rows Vd
theorem K64_of (hm : ∀ ns : List Int, ns.length ≤ 63 → ∃ s, K64.m_law [.fz (.scr ns)] = some (.fz (.bl true), s)) : PySem.Challenge.rw_howfarback_k64_whole_windows_edits_and_r.Holds := by
  w_on; o_law
  refine HandSHeadRun.head_any (r := OpenLaw.row PySem.Challenge.rw_howfarback_k64_whole_windows_edits_and_r) (q := view (OpenLaw.row PySem.Challenge.rw_howfarback_k64_whole_windows_edits_and_r).prog [66]) (H := K64.hk) (ob := K64.ob) (M := 4000) (loose := K64.loose1 ++ K64.loose2 ++ K64.loose3) (d := HandSHeadRun.topDef (OpenLaw.row PySem.Challenge.rw_howfarback_k64_whole_windows_edits_and_r).prog 66) (kwd := []) K64.ob_eq
    (by kernel_rfl) (fun s => by kernel_rfl) K64.run (by kernel_rfl) (by kernel_rfl) (by kernel_rfl) (by rfl) (by first | assumption | decide +kernel) (by decide +kernel) ⟨rfl, rfl, rfl, rfl, rfl, by decide +kernel⟩ ?hw ?hc
  case hw => w_witness2
  case hc =>
    refine L2.walk_ofE (l := PySem.Challenge.rw_howfarback_k64_whole_windows_edits_and_r) (n := 63) (k := 7) (x := "_law_script") (CX := L2.CX0) rfl (by decide) (by kernel_rfl) ⟨rfl, by decide, by decide⟩ ?F (fun _ _ _ _ z => z)
    intro w mg fa h Y G hmg0
    obtain ⟨K, KX, c⟩ := Y
    have hmg : mg ("law" : PySem.Str) = some (.ref fa) := by
      have e : (HandSHeadRun.topDef (OpenLaw.row PySem.Challenge.rw_howfarback_k64_whole_windows_edits_and_r).prog 66).name = ("law" : PySem.Str) := by kernel_rfl
      rw [← e]
      exact hmg0
    have e := hmg.symm.trans (He.glo_ok KX G (c.fact 48 (f := .glo "law") rfl))
    cases e
    obtain ⟨fd, hb, hF⟩ := K64.facts (P := (PySem.Challenge.rw_howfarback_k64_whole_windows_edits_and_r).prog) (w := w) KX G c
    exact ⟨K, fd, spD (K64.kxK K) 1 K64.m_law, KX, hb, fun H a ns hl _ hS => sp_script hS (hm ns hl), fun base _ _ => hF base⟩

end
theorem PySem.Challenge.cw_howfarback_k64_whole_windows_edits_and_r_holds : PySem.Challenge.rw_howfarback_k64_whole_windows_edits_and_r.Holds :=
  K64_of fun _ h => K64.e_law h
