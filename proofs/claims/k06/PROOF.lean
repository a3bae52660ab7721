import PyProof.Rows.All
import Wide.All
import OpenK.AllK
import Wide.FinOn
import PySem.Challenge.RW_cellguard_k06_bounds_of_sets
import HandS.ForMost
import HandS.ForExc
import HandS.Deep
import HandS.TupAny
import HandS.IsInst
import HandS.TupLen
import HandS.SortInts
import HandS.Style
import HandS.TryOnly
import HandS.Small
import HandS.Iter
import HandS.Zip
import HandS.Comp
import HandS.Defaults
import HandS.CallSlots
import HandS.ExcOwn
import HandS.Exc
import HandS.ExcIs
import HandS.Text
import HandS.HeadEnd
import HandS.EndBits
import KE.KStateDown
import Lean
import HandS.Head0
import HandS.Head1
import HandS.Head2
import HandS.HeadHook1
import HandS.HeadHook2
import HandS.HeadHook3
import HandS.HeadHook4
set_option Elab.async false
set_option linter.all false
set_option maxRecDepth 100000
set_option maxHeartbeats 4000000
namespace DL
open PySem PySem.Spec PyProof.Rows L2

/-! ### data -/
/-- a key of a dict -/
inductive KD where
  | k (x : Key)
  | t (l : List Key)
  deriving DecidableEq
/-- which keys a dict has: plain ones, tuples of plain ones -/
inductive KS where
  | k | t
  deriving DecidableEq
/-- the kinds of objects; scr: a list from outside -/
inductive Kd where
  | lst | tup | scr
  | dct (s : KS) (ks : List KD)
  | ins (c : Nat)
  deriving DecidableEq
/-- own: it may be changed here; ro: read only for now; pm: never changed again -/
inductive Fl where
  | own | ro | pm
  deriving DecidableEq
/-- data -/
inductive D where
  | non | bl (b : Bool) | int (i : Int) | str (x : Str) | uns
  | nd (k : Kd) (o : Fl) (xs : List D)
theorem D.ind {P : D → Prop} (h1 : P .non) (h2 : ∀ b, P (.bl b)) (h3 : ∀ i, P (.int i)) (h4 : ∀ x, P (.str x)) (h5 : P .uns) (h6 : ∀ k o xs, (∀ d ∈ xs, P d) → P (.nd k o xs)) : ∀ d, P d
  | .non => h1
  | .bl b => h2 b
  | .int i => h3 i
  | .str x => h4 x
  | .uns => h5
  | .nd k o xs => h6 k o xs (fun d _ => D.ind h1 h2 h3 h4 h5 h6 d)
/-- one class: where it stands, its fields -/
structure CI where
  ad : Addr
  nm : List Str
abbrev Cs := Nat → CI
abbrev Env := List (Option D)

/-- a dict's lock left out -/
def core : HO → HO
  | .frz _ (.dK k) => .dK k
  | .frz _ (.dT k) => .dT k
  | o => o
/-- all that stands in H stands in H', up to dicts' locks -/
def Le (H H' : Hp) : Prop := ∀ a o, H a = some o → ∃ o', H' a = some o' ∧ core o' = core o
theorem Le.refl (H : Hp) : Le H H := fun a o h => ⟨o, h, rfl⟩
theorem Le.trans {A B C : Hp} (h : Le A B) (k : Le B C) : Le A C := fun a o e => by
  obtain ⟨o1, e1, c1⟩ := h a o e
  obtain ⟨o2, e2, c2⟩ := k a o1 e1
  exact ⟨o2, e2, c2.trans c1⟩
theorem core_lst {o : HO} {xs : List V} (h : core o = .lst xs) : o = .lst xs := by
  unfold core at h
  split at h <;> first | exact h | cases h
theorem core_tup {o : HO} {xs : List V} (h : core o = .tup xs) : o = .tup xs := by
  unfold core at h
  split at h <;> first | exact h | cases h
theorem core_ins {o : HO} {C dx : Addr} {fs : List (Str × V)} (h : core o = .ins C dx fs) : o = .ins C dx fs := by
  unfold core at h
  split at h <;> first | exact h | cases h
theorem core_own {o : HO} {x : Addr} (h : core o = .own x) : o = .own x := by
  unfold core at h
  split at h <;> first | exact h | cases h
theorem core_dK {o : HO} {k : List (Key × V)} (h : core o = .dK k) : o = .dK k ∨ ∃ b, o = .frz b (.dK k) := by
  unfold core at h
  split at h
  · exact .inr ⟨_, by rw [h]⟩
  · cases h
  · exact .inl h
theorem core_dT {o : HO} {k : List (List Key × V)} (h : core o = .dT k) : o = .dT k ∨ ∃ b, o = .frz b (.dT k) := by
  unfold core at h
  split at h
  · cases h
  · exact .inr ⟨_, by rw [h]⟩
  · exact .inl h
theorem core_frzL {o : HO} {b : Obj} {xs : List V} (h : core o = .frz b (.lst xs)) : o = .frz b (.lst xs) := by
  unfold core at h
  split at h <;> first | exact h | cases h
theorem Le.lst {H H' : Hp} (l : Le H H') {a : Addr} {xs : List V} (h : H a = some (.lst xs)) : H' a = some (.lst xs) := by
  obtain ⟨o, e, c⟩ := l a _ h
  rw [core_lst c] at e; exact e
theorem Le.tup {H H' : Hp} (l : Le H H') {a : Addr} {xs : List V} (h : H a = some (.tup xs)) : H' a = some (.tup xs) := by
  obtain ⟨o, e, c⟩ := l a _ h
  rw [core_tup c] at e; exact e
theorem Le.ins {H H' : Hp} (l : Le H H') {a C dx : Addr} {fs : List (Str × V)} (h : H a = some (.ins C dx fs)) : H' a = some (.ins C dx fs) := by
  obtain ⟨o, e, c⟩ := l a _ h
  rw [core_ins c] at e; exact e
theorem Le.own {H H' : Hp} (l : Le H H') {a x : Addr} (h : H a = some (.own x)) : H' a = some (.own x) := by
  obtain ⟨o, e, c⟩ := l a _ h
  rw [core_own c] at e; exact e
theorem Le.rdK {H H' : Hp} (l : Le H H') {a : Addr} {k : List (Key × V)} (h : Rd H a (.dK k)) : Rd H' a (.dK k) := by
  have key : ∃ o, H a = some o ∧ core o = .dK k := by
    rcases h with h | ⟨b, h⟩
    · exact ⟨_, h, rfl⟩
    · exact ⟨_, h, rfl⟩
  obtain ⟨o, h, c⟩ := key
  obtain ⟨o', e, c'⟩ := l a _ h
  rcases core_dK (c'.trans c) with z | ⟨b, z⟩
  · rw [z] at e; exact .inl e
  · rw [z] at e; exact .inr ⟨b, e⟩
theorem Le.rdT {H H' : Hp} (l : Le H H') {a : Addr} {k : List (List Key × V)} (h : Rd H a (.dT k)) : Rd H' a (.dT k) := by
  have key : ∃ o, H a = some o ∧ core o = .dT k := by
    rcases h with h | ⟨b, h⟩
    · exact ⟨_, h, rfl⟩
    · exact ⟨_, h, rfl⟩
  obtain ⟨o, h, c⟩ := key
  obtain ⟨o', e, c'⟩ := l a _ h
  rcases core_dT (c'.trans c) with z | ⟨b, z⟩
  · rw [z] at e; exact .inl e
  · rw [z] at e; exact .inr ⟨b, e⟩
theorem Le.sql {K : PySem.W.Frag} {H H' : Hp} (l : Le H H') {a : Addr} {xs : List V} (h : SqL K H a xs) : SqL K H' a xs := by
  rcases h with h | h
  · refine .inl ?_
    rcases h with h | ⟨b, h⟩
    · exact .inl (l.lst h)
    · obtain ⟨o, e, c⟩ := l a _ h
      rw [core_frzL c] at e
      exact .inr ⟨b, e⟩
  · exact .inr h

/-! ### one node in a heap -/
def isUns : D → Bool
  | .uns => true
  | _ => false
/-- an instance's attributes against the class's fields: us: which are not stored yet, vs the values -/
structure FOk (nm : List Str) (fs : List (Str × V)) (us : List Bool) (vs : List V) : Prop where
  lx : us.length = nm.length
  lv : vs.length = nm.length
  ln : nm.length ≤ 900
  nd : nm.Nodup
  lf : fs.length ≤ (us.filter fun u => !u).length
  mem : ∀ p ∈ fs, p.1 ∈ nm
  un : ∀ (i : Nat) (n : Str), nm[i]? = some n → us[i]? = some true → fs.lookup n = none
  at_ : ∀ (i : Nat) (n : Str), nm[i]? = some n → us[i]? = some false → fs.lookup n = vs[i]?
/-- the dict at a, read -/
def DRd (H : Hp) (a : Addr) (s : KS) (ks : List KD) (vs : List V) : Prop :=
  (∃ kvs : List (Key × V), Rd H a (.dK kvs) ∧ ks = kvs.map (fun p => .k p.1) ∧ vs = kvs.map (·.2) ∧ s = .k ∧ (kvs.map (·.1)).Nodup) ∨
  ∃ kvs : List (List Key × V), Rd H a (.dT kvs) ∧ ks = kvs.map (fun p => .t p.1) ∧ vs = kvs.map (·.2) ∧ s = .t ∧ (kvs.map (·.1)).Nodup
/-- the dict at a, to be written -/
def DWr (H : Hp) (a : Addr) (s : KS) (ks : List KD) (vs : List V) : Prop :=
  (∃ kvs : List (Key × V), H a = some (.dK kvs) ∧ ks = kvs.map (fun p => .k p.1) ∧ vs = kvs.map (·.2) ∧ s = .k ∧ (kvs.map (·.1)).Nodup) ∨
  ∃ kvs : List (List Key × V), H a = some (.dT kvs) ∧ ks = kvs.map (fun p => .t p.1) ∧ vs = kvs.map (·.2) ∧ s = .t ∧ (kvs.map (·.1)).Nodup
theorem DWr.rd {H : Hp} {a : Addr} {s : KS} {ks : List KD} {vs : List V} (h : DWr H a s ks vs) : DRd H a s ks vs := by
  rcases h with ⟨kvs, h, r⟩ | ⟨kvs, h, r⟩
  · exact .inl ⟨kvs, .inl h, r⟩
  · exact .inr ⟨kvs, .inl h, r⟩
theorem DRd.len {H : Hp} {a : Addr} {s : KS} {ks : List KD} {vs : List V} (h : DRd H a s ks vs) : vs.length = ks.length := by
  rcases h with ⟨kvs, h, r1, r2, _⟩ | ⟨kvs, h, r1, r2, _⟩
  · subst r1 r2; simp
  · subst r1 r2; simp
def IAt (c : Cs) (H : Hp) (a : Addr) (i : Nat) (xs : List D) (vs : List V) (A : List Addr) : Prop :=
  ∃ dx fs, H a = some (.ins (c i).ad dx fs) ∧ H dx = some (.own a) ∧ FOk (c i).nm fs (xs.map isUns) vs ∧ A = [a, dx]
/-- the node at a, to be read -/
def RAt (c : Cs) (K : PySem.W.Frag) (H : Hp) (a : Addr) (k : Kd) (xs : List D) (vs : List V) : Prop := match k with
  | .lst => H a = some (.lst vs)
  | .tup => H a = some (.tup vs)
  | .scr => SqL K H a vs
  | .dct s ks => DRd H a s ks vs
  | .ins i => ∃ A, IAt c H a i xs vs A
/-- the node at a, to be written; A: the addresses that it takes -/
def WAt (c : Cs) (H : Hp) (a : Addr) (k : Kd) (xs : List D) (vs : List V) (A : List Addr) : Prop := match k with
  | .lst => H a = some (.lst vs) ∧ A = [a]
  | .tup => False
  | .scr => False
  | .dct s ks => DWr H a s ks vs ∧ A = [a]
  | .ins i => IAt c H a i xs vs A
theorem RAt.mono {c : Cs} {K : PySem.W.Frag} {H H' : Hp} {a : Addr} {k : Kd} {xs : List D} {vs : List V} (l : Le H H') (h : RAt c K H a k xs vs) : RAt c K H' a k xs vs := by
  cases k with
  | lst => exact l.lst h
  | tup => exact l.tup h
  | scr => exact l.sql h
  | dct s ks =>
    rcases h with ⟨kvs, h, r⟩ | ⟨kvs, h, r⟩
    · exact .inl ⟨kvs, l.rdK h, r⟩
    · exact .inr ⟨kvs, l.rdT h, r⟩
  | ins i =>
    obtain ⟨A, dx, fs, h1, h2, r⟩ := h
    exact ⟨A, dx, fs, l.ins h1, l.own h2, r⟩
theorem WAt.rat {c : Cs} {K : PySem.W.Frag} {H : Hp} {a : Addr} {k : Kd} {xs : List D} {vs : List V} {A : List Addr} (h : WAt c H a k xs vs A) : RAt c K H a k xs vs := by
  cases k with
  | lst => exact h.1
  | tup => exact h.elim
  | scr => exact h.elim
  | dct s ks => exact h.1.rd
  | ins i => exact ⟨A, h⟩
theorem WAt.mem {c : Cs} {H : Hp} {a : Addr} {k : Kd} {xs : List D} {vs : List V} {A : List Addr} (h : WAt c H a k xs vs A) : a ∈ A := by
  cases k with
  | lst => rw [h.2]; simp
  | tup => exact h.elim
  | scr => exact h.elim
  | dct s ks => rw [h.2]; simp
  | ins i => obtain ⟨dx, fs, h1, h2, _, e⟩ := h; rw [e]; simp
theorem WAt.some {c : Cs} {H : Hp} {a : Addr} {k : Kd} {xs : List D} {vs : List V} {A : List Addr} (h : WAt c H a k xs vs A) : ∀ b ∈ A, ∃ o, H b = some o := by
  intro b hb
  cases k with
  | lst => rw [h.2] at hb; simp at hb; subst hb; exact ⟨_, h.1⟩
  | tup => exact h.elim
  | scr => exact h.elim
  | dct s ks =>
    rw [h.2] at hb; simp at hb; subst hb
    rcases h.1 with ⟨kvs, h, r⟩ | ⟨kvs, h, r⟩
    · exact ⟨_, h⟩
    · exact ⟨_, h⟩
  | ins i =>
    obtain ⟨dx, fs, h1, h2, _, e⟩ := h; rw [e] at hb; simp at hb
    rcases hb with rfl | rfl
    · exact ⟨_, h1⟩
    · exact ⟨_, h2⟩
/-- a node hangs on its own addresses alone -/
theorem WAt.keep {c : Cs} {H H' : Hp} {a : Addr} {k : Kd} {xs : List D} {vs : List V} {A : List Addr} (h : WAt c H a k xs vs A) (e : ∀ b ∈ A, H' b = H b) : WAt c H' a k xs vs A := by
  cases k with
  | lst => exact ⟨by rw [e a h.mem]; exact h.1, h.2⟩
  | tup => exact h.elim
  | scr => exact h.elim
  | dct s ks =>
    have m := e a h.mem
    obtain ⟨h1, h2⟩ := h
    refine ⟨?_, h2⟩
    rcases h1 with ⟨kvs, h, r⟩ | ⟨kvs, h, r⟩
    · exact .inl ⟨kvs, by rw [m]; exact h, r⟩
    · exact .inr ⟨kvs, by rw [m]; exact h, r⟩
  | ins i =>
    obtain ⟨dx, fs, h1, h2, r, eA⟩ := h
    subst eA
    exact ⟨dx, fs, by rw [e a (by simp)]; exact h1, by rw [e dx (by simp)]; exact h2, r, rfl⟩
end DL
set_option Elab.async false
set_option linter.all false
set_option maxRecDepth 100000
set_option maxHeartbeats 4000000
namespace DL
open PySem PySem.Spec PyProof.Rows L2

/-! ### what data a value is -/
/-- the heap that such a node leans on -/
def hz (o : Fl) (HP H : Hp) : Hp := match o with
  | .pm => HP
  | _ => H
section
variable (c : Cs) (K : PySem.W.Frag)
mutual
/-- v is the datum d, all of it frozen -/
def Ro (HP : Hp) : Hp → D → V → Prop
  | _, .non, v => v = .non
  | _, .bl b, v => v = .bl b
  | _, .int i, v => v = .int i
  | _, .str x, v => v = .str x
  | _, .uns, _ => True
  | H, .nd k o xs, v => o ≠ .own ∧ ∃ a vs, v = .ref a ∧ RAt c K (hz o HP H) a k xs vs ∧ RoL HP (hz o HP H) xs vs
def RoL (HP : Hp) : Hp → List D → List V → Prop
  | _, [], vs => vs = []
  | H, d :: ds, vs => ∃ v r, vs = v :: r ∧ Ro HP H d v ∧ RoL HP H ds r
end
mutual
/-- v is the datum d; F: the addresses that it owns -/
def Ow (HP H0 H : Hp) : D → V → (Addr → Prop) → Prop
  | .nd k .own xs, v, F => ∃ a vs A F', v = .ref a ∧ WAt c H a k xs vs A ∧ (∀ b ∈ A, H0 b = none) ∧ (∀ b ∈ A, ¬ F' b) ∧ OwL HP H0 H xs vs F' ∧ ∀ b, F b ↔ b ∈ A ∨ F' b
  | .nd k .ro xs, v, F => Ro c K HP H0 (.nd k .ro xs) v ∧ ∀ b, ¬ F b
  | .nd k .pm xs, v, F => Ro c K HP H0 (.nd k .pm xs) v ∧ ∀ b, ¬ F b
  | .non, v, F => v = .non ∧ ∀ b, ¬ F b
  | .bl x, v, F => v = .bl x ∧ ∀ b, ¬ F b
  | .int i, v, F => v = .int i ∧ ∀ b, ¬ F b
  | .str x, v, F => v = .str x ∧ ∀ b, ¬ F b
  | .uns, v, F => ∀ b, ¬ F b
def OwL (HP H0 H : Hp) : List D → List V → (Addr → Prop) → Prop
  | [], vs, F => vs = [] ∧ ∀ b, ¬ F b
  | d :: ds, vs, F => ∃ v r F1 F2, vs = v :: r ∧ Ow HP H0 H d v F1 ∧ OwL HP H0 H ds r F2 ∧ (∀ b, F1 b → ¬ F2 b) ∧ ∀ b, F b ↔ F1 b ∨ F2 b
end
end
def frF : Fl → Fl
  | .own => .ro
  | o => o
mutual
/-- read only -/
def frz : D → D
  | .nd k o xs => .nd k (frF o) (frzL xs)
  | .non => .non
  | .bl b => .bl b
  | .int i => .int i
  | .str x => .str x
  | .uns => .uns
def frzL : List D → List D
  | [] => []
  | d :: ds => frz d :: frzL ds
end
theorem frzL_map : ∀ xs : List D, frzL xs = xs.map frz
  | [] => rfl
  | d :: ds => by rw [frzL, frzL_map ds]; rfl
mutual
/-- for good -/
def pmz : D → D
  | .nd k _ xs => .nd k .pm (pmzL xs)
  | .non => .non
  | .bl b => .bl b
  | .int i => .int i
  | .str x => .str x
  | .uns => .uns
def pmzL : List D → List D
  | [] => []
  | d :: ds => pmz d :: pmzL ds
end
theorem pmzL_map : ∀ xs : List D, pmzL xs = xs.map pmz
  | [] => rfl
  | d :: ds => by rw [pmzL, pmzL_map ds]; rfl
def roF : Fl → Bool
  | .own => false
  | _ => true
mutual
def isRo : D → Bool
  | .nd _ o xs => roF o && isRoL xs
  | _ => true
def isRoL : List D → Bool
  | [] => true
  | d :: ds => isRo d && isRoL ds
end
theorem isRoL_all : ∀ xs : List D, isRoL xs = xs.all isRo
  | [] => rfl
  | d :: ds => by rw [isRoL, isRoL_all ds]; rfl
mutual
/-- no read-only node that may be another's -/
def clean : D → Bool
  | .nd _ o xs => match o with
    | .own => cleanL xs
    | .ro => false
    | .pm => true
  | _ => true
def cleanL : List D → Bool
  | [] => true
  | d :: ds => clean d && cleanL ds
end
theorem cleanL_all : ∀ xs : List D, cleanL xs = xs.all clean
  | [] => rfl
  | d :: ds => by rw [cleanL, cleanL_all ds]; rfl
theorem isUns_frz (d : D) : isUns (frz d) = isUns d := by
  cases d <;> rfl
theorem isUns_pmz (d : D) : isUns (pmz d) = isUns d := by
  cases d <;> rfl

section
variable {c : Cs} {K : PySem.W.Frag}
theorem hz_mono {o : Fl} {HP HP' H H' : Hp} (lp : Le HP HP') (l : Le H H') : Le (hz o HP H) (hz o HP' H') := by
  cases o <;> first | exact l | exact lp
theorem RoL.mono_of {HP HP' H H' : Hp} : ∀ {xs : List D} {vs : List V}, (∀ d ∈ xs, ∀ v, Ro c K HP H d v → Ro c K HP' H' d v) → RoL c K HP H xs vs → RoL c K HP' H' xs vs
  | [], _, _, h => h
  | d :: ds, vs, k, h => by
    obtain ⟨v, r, e, h1, h2⟩ := h
    exact ⟨v, r, e, k d (by simp) v h1, RoL.mono_of (fun d hd => k d (by simp [hd])) h2⟩
theorem Ro.mono {HP HP' : Hp} (lp : Le HP HP') (d : D) : ∀ {H H' : Hp} {v : V}, Le H H' → Ro c K HP H d v → Ro c K HP' H' d v := by
  induction d using D.ind with
  | h6 k o xs ih =>
    intro H H' v l h
    obtain ⟨e, a, vs, e2, h1, h2⟩ := h
    exact ⟨e, a, vs, e2, h1.mono (hz_mono lp l), RoL.mono_of (fun d hd v q => ih d hd (hz_mono lp l) q) h2⟩
  | _ => intro H H' v l h; exact h
theorem RoL.mono {HP HP' H H' : Hp} (lp : Le HP HP') (l : Le H H') {xs : List D} {vs : List V} (h : RoL c K HP H xs vs) : RoL c K HP' H' xs vs :=
  RoL.mono_of (fun d _ _ q => Ro.mono lp d l q) h
theorem RoL.len {HP H : Hp} : ∀ {xs : List D} {vs : List V}, RoL c K HP H xs vs → vs.length = xs.length
  | [], vs, h => by
    have e : vs = [] := h
    subst e; rfl
  | d :: ds, vs, h => by
    obtain ⟨v, r, e, _, h2⟩ := h
    rw [e, List.length_cons, List.length_cons, RoL.len h2]
theorem RoL.get {HP H : Hp} : ∀ {xs : List D} {vs : List V}, RoL c K HP H xs vs → ∀ {i : Nat} {d : D}, xs[i]? = some d → ∃ v, vs[i]? = some v ∧ Ro c K HP H d v
  | [], _, _, i, d, e => by simp at e
  | x :: ds, vs, h, i, d, e => by
    obtain ⟨v, r, e1, h1, h2⟩ := h
    subst e1
    cases i with
    | zero => simp at e; subst e; exact ⟨v, rfl, h1⟩
    | succ i => simp at e; obtain ⟨w, e2, q⟩ := RoL.get h2 e; exact ⟨w, by simpa using e2, q⟩
theorem RoL.of {HP H : Hp} : ∀ {xs : List D} {vs : List V}, vs.length = xs.length → (∀ (i : Nat) (d : D) (v : V), xs[i]? = some d → vs[i]? = some v → Ro c K HP H d v) → RoL c K HP H xs vs
  | [], vs, l, _ => by
    have : vs = [] := by simpa using l
    exact this
  | x :: ds, [], l, _ => by simp at l
  | x :: ds, v :: r, l, h => ⟨v, r, rfl, h 0 x v rfl rfl, RoL.of (by simpa using l) fun i d w e1 e2 => h (i + 1) d w (by simpa using e1) (by simpa using e2)⟩
theorem frF_of {o : Fl} (h : o ≠ .own) : frF o = o := by
  cases o with
  | own => exact absurd rfl h
  | _ => rfl
theorem RoL.map_eq {HP : Hp} {f : D → D} : ∀ {l : List D} {ws : List V} {G : Hp}, (∀ d ∈ l, ∀ (H : Hp) (v : V), Ro c K HP H d v → f d = d) → RoL c K HP G l ws → l.map f = l
  | [], _, _, _, _ => rfl
  | x :: l, ws, G, hm, q => by
    obtain ⟨v, r, e, q1, q2⟩ := q
    rw [List.map_cons, hm x (by simp) G v q1, RoL.map_eq (fun d hd => hm d (by simp [hd])) q2]
theorem Ro.frz_eq {HP : Hp} (d : D) : ∀ {H : Hp} {v : V}, Ro c K HP H d v → frz d = d := by
  induction d using D.ind with
  | h6 k o xs ih =>
    intro H v h
    obtain ⟨e, a, vs, e2, h1, h2⟩ := h
    rw [frz, frzL_map, frF_of e, RoL.map_eq (fun d hd H v q => ih d hd q) h2]
  | _ => intro H v h; rfl
theorem frF_frF (o : Fl) : frF (frF o) = frF o := by cases o <;> rfl
theorem frz_frz (d : D) : frz (frz d) = frz d := by
  induction d using D.ind with
  | h6 k o xs ih =>
    rw [frz, frzL_map, frz, frzL_map, List.map_map, frF_frF]
    congr 1
    exact List.map_congr_left fun d hd => ih d hd
  | _ => rfl
theorem isRo_frz (d : D) (h : isRo d = true) : frz d = d := by
  induction d using D.ind with
  | h6 k o xs ih =>
    rw [isRo, isRoL_all] at h
    simp only [Bool.and_eq_true, List.all_eq_true] at h
    have ho : frF o = o := by
      cases o with
      | own => exact absurd h.1 (by simp [roF])
      | _ => rfl
    rw [frz, frzL_map, ho]
    congr 1
    have e := List.map_congr_left (f := frz) (g := id) (l := xs) fun d hd => ih d hd (h.2 d hd)
    rw [e, List.map_id]
  | _ => rfl
theorem Ro.isRo {HP H : Hp} (d : D) : ∀ {H : Hp} {v : V}, Ro c K HP H d v → isRo d = true := by
  induction d using D.ind with
  | h6 k o xs ih =>
    intro H v h
    obtain ⟨e, a, vs, e2, h1, h2⟩ := h
    rw [DL.isRo, isRoL_all]
    have ho : roF o = true := by
      cases o with
      | own => exact absurd rfl e
      | _ => rfl
    rw [ho, Bool.true_and, List.all_eq_true]
    intro d hd
    obtain ⟨i, hi, e⟩ := List.mem_iff_getElem.mp hd
    obtain ⟨w, _, q⟩ := h2.get (i := i) (d := d) (by rw [List.getElem?_eq_getElem hi, e])
    exact ih d hd q
  | _ => intro H v h; rfl
/-- a frozen datum owns nothing -/
theorem Ow.ro {HP H0 H : Hp} {d : D} {v : V} {F : Addr → Prop} (h : Ow c K HP H0 H d v F) (e : isRo d = true) : Ro c K HP H0 d v ∧ ∀ b, ¬ F b := by
  cases d with
  | nd k o xs =>
    cases o with
    | own => rw [isRo] at e; simp [roF] at e
    | ro => exact h
    | pm => exact h
  | uns => exact ⟨True.intro, h⟩
  | _ => exact h
theorem Ow.of_ro {HP H0 H : Hp} {d : D} {v : V} {F : Addr → Prop} (h : Ro c K HP H0 d v) (n : ∀ b, ¬ F b) : Ow c K HP H0 H d v F := by
  cases d with
  | nd k o xs =>
    cases o with
    | own => exact absurd rfl h.1
    | ro => exact ⟨h, n⟩
    | pm => exact ⟨h, n⟩
  | uns => exact n
  | _ => exact ⟨h, n⟩
theorem OwL.len {HP H0 H : Hp} : ∀ {xs : List D} {vs : List V} {F : Addr → Prop}, OwL c K HP H0 H xs vs F → vs.length = xs.length
  | [], vs, _, h => by
    have e : vs = [] := h.1
    subst e; rfl
  | d :: ds, vs, F, h => by
    obtain ⟨v, r, F1, F2, e, _, h2, _⟩ := h
    rw [e, List.length_cons, List.length_cons, OwL.len h2]
theorem Ow.held {HP H0 H : Hp} (d : D) : ∀ {v : V} {F : Addr → Prop}, Ow c K HP H0 H d v F → ∀ b, F b → (∃ o, H b = some o) ∧ H0 b = none := by
  induction d using D.ind with
  | h6 k o xs ih =>
    intro v F h b hb
    cases o with
    | ro => exact absurd hb (h.2 b)
    | pm => exact absurd hb (h.2 b)
    | own =>
      obtain ⟨a, vs, A, F', e, h1, h2, h3, h4, h5⟩ := h
      have go : ∀ {l : List D} {ws : List V} {G : Addr → Prop}, (∀ d ∈ l, d ∈ xs) → OwL c K HP H0 H l ws G → G b → (∃ o, H b = some o) ∧ H0 b = none := by
        intro l
        induction l with
        | nil => intro ws G _ q g; exact absurd g (q.2 b)
        | cons x l ihl =>
          intro ws G hm q g
          obtain ⟨v, r, F1, F2, e, q1, q2, _, q4⟩ := q
          rcases (q4 b).mp g with g | g
          · exact ih x (hm x (by simp)) q1 b g
          · exact ihl (fun d hd => hm d (by simp [hd])) q2 g
      rcases (h5 b).mp hb with hb | hb
      · exact ⟨h1.some b hb, h2 b hb⟩
      · exact go (fun _ h => h) h4 hb
  | h5 => intro v F h b hb; exact absurd hb (h b)
  | _ => intro v F h b hb; exact absurd hb (h.2 b)
/-- what is owned hangs on its own addresses -/
theorem Ow.keep {HP HP' H0 H0' H H' : Hp} (lp : Le HP HP') (l0 : Le H0 H0') (d : D) : ∀ {v : V} {F : Addr → Prop}, (∀ b, F b → H' b = H b ∧ H0' b = none) → Ow c K HP H0 H d v F → Ow c K HP' H0' H' d v F := by
  induction d using D.ind with
  | h6 k o xs ih =>
    intro v F hF h
    cases o with
    | ro => exact ⟨Ro.mono lp _ l0 h.1, h.2⟩
    | pm => exact ⟨Ro.mono lp _ l0 h.1, h.2⟩
    | own =>
      obtain ⟨a, vs, A, F', e, h1, h2, h3, h4, h5⟩ := h
      have go : ∀ {l : List D} {ws : List V} {G : Addr → Prop}, (∀ d ∈ l, d ∈ xs) → (∀ b, G b → F b) → OwL c K HP H0 H l ws G → OwL c K HP' H0' H' l ws G := by
        intro l
        induction l with
        | nil => intro ws G _ _ q; exact q
        | cons x l ihl =>
          intro ws G hm hG q
          obtain ⟨v, r, F1, F2, e, q1, q2, q3, q4⟩ := q
          exact ⟨v, r, F1, F2, e, ih x (hm x (by simp)) (fun b hb => hF b (hG b ((q4 b).mpr (.inl hb)))) q1, ihl (fun d hd => hm d (by simp [hd])) (fun b hb => hG b ((q4 b).mpr (.inr hb))) q2, q3, q4⟩
      exact ⟨a, vs, A, F', e, h1.keep fun b hb => (hF b ((h5 b).mpr (.inl hb))).1, fun b hb => (hF b ((h5 b).mpr (.inl hb))).2, h3, go (fun _ h => h) (fun b hb => (h5 b).mpr (.inr hb)) h4, h5⟩
  | _ => intro v F hF h; exact h
theorem map_uns {f : D → D} (hf : ∀ d, isUns (f d) = isUns d) (xs : List D) : (xs.map f).map isUns = xs.map isUns := by
  rw [List.map_map]
  exact List.map_congr_left fun d _ => hf d
theorem RAt.congr {K : PySem.W.Frag} {H : Hp} {a : Addr} {k : Kd} {xs ys : List D} {vs : List V} (h : RAt c K H a k xs vs) (e : ys.map isUns = xs.map isUns) : RAt c K H a k ys vs := by
  cases k with
  | ins i =>
    obtain ⟨A, dx, fs, h1, h2, r, q⟩ := h
    exact ⟨A, dx, fs, h1, h2, by rw [e]; exact r, q⟩
  | _ => exact h
theorem WAt.congr {H : Hp} {a : Addr} {k : Kd} {xs ys : List D} {vs : List V} {A : List Addr} (h : WAt c H a k xs vs A) (e : ys.map isUns = xs.map isUns) : WAt c H a k ys vs A := by
  cases k with
  | ins i =>
    obtain ⟨dx, fs, h1, h2, r, q⟩ := h
    exact ⟨dx, fs, h1, h2, by rw [e]; exact r, q⟩
  | _ => exact h
theorem RAt.map {f : D → D} (hf : ∀ d, isUns (f d) = isUns d) {K : PySem.W.Frag} {H : Hp} {a : Addr} {k : Kd} {xs : List D} {vs : List V} (h : RAt c K H a k xs vs) : RAt c K H a k (xs.map f) vs :=
  h.congr (map_uns hf xs)
theorem OwL.toRo {HP H0 H HP' H1 : Hp} {f : D → D} {F : Addr → Prop} : ∀ {l : List D} {ws : List V} {G : Addr → Prop}, (∀ d ∈ l, ∀ (v : V) (F1 : Addr → Prop), (∀ b, F1 b → F b) → Ow c K HP H0 H d v F1 → Ro c K HP' H1 (f d) v) → (∀ b, G b → F b) → OwL c K HP H0 H l ws G → RoL c K HP' H1 (l.map f) ws
  | [], _, _, _, _, q => q.1
  | x :: l, ws, G, hm, hG, q => by
    obtain ⟨v, r, F1, F2, e, q1, q2, q3, q4⟩ := q
    exact ⟨v, r, e, hm x (by simp) v F1 (fun b hb => hG b ((q4 b).mpr (.inl hb))) q1, OwL.toRo (fun d hd => hm d (by simp [hd])) (fun b hb => hG b ((q4 b).mpr (.inr hb))) q2⟩
/-- frozen: in any heap that holds its addresses as they stand -/
theorem Ow.freeze {HP HP' H0 H H1 : Hp} (lp : Le HP HP') (l0 : Le H0 H1) (d : D) : ∀ {v : V} {F : Addr → Prop}, (∀ b, F b → H1 b = H b) → Ow c K HP H0 H d v F → Ro c K HP' H1 (frz d) v := by
  induction d using D.ind with
  | h6 k o xs ih =>
    intro v F hF h
    cases o with
    | own =>
      obtain ⟨a, vs, A, F', e, h1, h2, h3, h4, h5⟩ := h
      have h1' := h1.keep (H' := H1) fun b hb => hF b ((h5 b).mpr (.inl hb))
      rw [frz, frzL_map]
      exact ⟨by simp [frF], a, vs, e, h1'.rat.map isUns_frz, OwL.toRo (F := F) (fun d hd v F1 hF1 q => ih d hd (fun b hb => hF b (hF1 b hb)) q) (fun b hb => (h5 b).mpr (.inr hb)) h4⟩
    | _ =>
      have e := Ro.frz_eq _ h.1
      rw [e]
      exact Ro.mono lp _ l0 h.1
  | h5 => intro v F hF h; exact True.intro
  | _ => intro v F hF h; exact h.1
theorem Ow.view {HP H0 H : Hp} (l : Le H0 H) {d : D} {v : V} {F : Addr → Prop} (h : Ow c K HP H0 H d v F) : Ro c K HP H (frz d) v := Ow.freeze (Le.refl _) l d (fun _ _ => rfl) h
/-- what is permanent hangs on HP alone -/
theorem Ro.pm {HP HP' : Hp} (lp : Le HP HP') {k : Kd} {xs : List D} {v : V} {H H' : Hp} (h : Ro c K HP H (.nd k .pm xs) v) : Ro c K HP' H' (.nd k .pm xs) v := by
  obtain ⟨e, a, vs, e2, h1, h2⟩ := h
  exact ⟨e, a, vs, e2, h1.mono lp, h2.mono lp lp⟩
theorem Ro.pmz {HP HP' : Hp} (lp : Le HP HP') (d : D) : ∀ {v : V}, Ro c K HP HP d v → Ro c K HP' HP' (pmz d) v := by
  induction d using D.ind with
  | h6 k o xs ih =>
    intro v h
    obtain ⟨e, a, vs, e2, h1, h2⟩ := h
    rw [DL.pmz, pmzL_map]
    have hh : hz o HP HP = HP := by cases o <;> rfl
    rw [hh] at h1 h2
    refine ⟨by simp, a, vs, e2, (h1.mono lp).map isUns_pmz, ?_⟩
    show RoL c K HP' HP' (xs.map DL.pmz) vs
    refine RoL.of (by rw [List.length_map]; exact h2.len) fun i d v e3 e4 => ?_
    rw [List.getElem?_map] at e3
    obtain ⟨d', e5, e6⟩ := Option.map_eq_some_iff.mp e3
    obtain ⟨w, e7, q⟩ := h2.get e5
    rw [e4] at e7
    cases e7
    rw [← e6]
    exact ih d' (List.mem_of_getElem? e5) q
  | _ => intro v h; exact h
/-- for good -/
theorem Ow.seal {HP HP' H0 H : Hp} (lp : Le HP HP') (d : D) : ∀ {v : V} {F : Addr → Prop}, clean d = true → (∀ b, F b → HP' b = H b) → Ow c K HP H0 H d v F → Ro c K HP' HP' (pmz d) v := by
  induction d using D.ind with
  | h6 k o xs ih =>
    intro v F hc hF h
    cases o with
    | ro => rw [clean] at hc; simp at hc
    | pm =>
      have q : Ro c K HP HP (.nd k .pm xs) v := Ro.pm (Le.refl _) h.1
      exact Ro.pmz lp _ q
    | own =>
      obtain ⟨a, vs, A, F', e, h1, h2, h3, h4, h5⟩ := h
      rw [clean, cleanL_all, List.all_eq_true] at hc
      have h1' := h1.keep (H' := HP') fun b hb => hF b ((h5 b).mpr (.inl hb))
      rw [DL.pmz, pmzL_map]
      exact ⟨by simp, a, vs, e, h1'.rat.map isUns_pmz, OwL.toRo (F := F) (fun d hd v F1 hF1 q => ih d hd (hc d hd) (fun b hb => hF b (hF1 b hb)) q) (fun b hb => (h5 b).mpr (.inr hb)) h4⟩
  | h5 => intro v F _ _ h; exact True.intro
  | _ => intro v F _ _ h; exact h.1
end
end DL
set_option Elab.async false
set_option linter.all false
set_option maxRecDepth 100000
set_option maxHeartbeats 4000000
namespace DL
open PySem PySem.Spec PyProof.Rows L2

/-! ### the state -/
abbrev St := L2.St
/-- the exception that an except suite handles: its name's slot, its object, its own field -/
structure HX where
  slot : Nat
  ad : Addr
  pay : Option (Addr × HO)
/-- the context of a body: X, the classes, the exceptions' classes and fields, what is wanted of an exception -/
structure G where
  X : Cx
  c : Cs
  xc : Nat → Addr
  xf : Nat → Str
  W : WX
  hd : Option HX
/-- what is permanent, what is frozen, all that is tracked -/
structure Wd where
  HP : Hp
  H0 : Hp
  H : Hp
abbrev Fps := Nat → Addr → Prop
/-- an atom's value -/
def AV : D → V → Prop
  | .non, v => v = .non
  | .bl b, v => v = .bl b
  | .int i, v => v = .int i
  | .str x, v => v = .str x
  | _, _ => False
theorem AV.ro {c : Cs} {K : PySem.W.Frag} {HP H : Hp} {d : D} {v : V} (h : AV d v) : Ro c K HP H d v := by
  cases d <;> first | exact h | exact h.elim
theorem AV.ow {c : Cs} {K : PySem.W.Frag} {HP H0 H : Hp} {d : D} {v : V} (h : AV d v) : Ow c K HP H0 H d v (fun _ => False) := Ow.of_ro h.ro fun _ => id
def HxOk (hd : Option HX) (w : Wd) (σ : St) : Prop := ∀ h, hd = some h → σ[h.slot]? = some (some (.ref h.ad)) ∧ ∀ q, h.pay = some q → ∃ o, w.H0 q.1 = some o ∧ core o = core q.2
theorem HxOk.none {w : Wd} {σ : St} : HxOk none w σ := fun h e => by cases e
theorem HxOk.w {hd : Option HX} {w w' : Wd} {σ : St} (x : HxOk hd w σ) (l : Le w.H0 w'.H0) : HxOk hd w' σ := fun h e => ⟨(x h e).1, fun q eq => by
  obtain ⟨o, e1, c1⟩ := (x h e).2 q eq
  obtain ⟨o', e2, c2⟩ := l q.1 o e1
  exact ⟨o', e2, c2.trans c1⟩⟩
theorem HxOk.σ {hd : Option HX} {w : Wd} {σ σ' : St} (x : HxOk hd w σ) (k : ∀ h, hd = some h → σ'[h.slot]? = σ[h.slot]?) : HxOk hd w σ' := fun h e => ⟨(k h e).trans (x h e).1, (x h e).2⟩
structure SrC (c : Cs) (K : PySem.W.Frag) (hd : Option HX) (w : Wd) (Fs : Fps) (σ : St) (env : Env) : Prop where
  lp : Le w.HP w.H0
  l0 : Le w.H0 w.H
  len : env.length = σ.length
  slot : ∀ (i : Nat) (d : D), env[i]? = some (some d) → ∃ v, σ[i]? = some (some v) ∧ Ow c K w.HP w.H0 w.H d v (Fs i)
  non : ∀ i : Nat, (∀ d, env[i]? ≠ some (some d)) → ∀ a, ¬ Fs i a
  dis : ∀ (i j : Nat) (a : Addr), Fs i a → Fs j a → i = j
  hx : HxOk hd w σ
abbrev Sr (g : G) := SrC g.c g.X.K g.hd
/-- what an evaluation may do: T: the slots that it touches (stores, changes, freezes) -/
structure Ext (T : List Nat) (w : Wd) (Fs : Fps) (w' : Wd) (Fs' : Fps) : Prop where
  hp : Le w.HP w'.HP
  h0 : Le w.H0 w'.H0
  off : ∀ a o, w.H a = some o → (∀ i, ¬ Fs i a) → w'.H a = some o
  keep : ∀ i, i ∉ T → ∀ a, Fs i a → w'.H a = w.H a ∧ w'.H0 a = none
  same : ∀ i, i ∉ T → ∀ a, Fs' i a ↔ Fs i a
  fs : ∀ i a, Fs' i a → Fs i a ∨ w.H a = none ∨ ∃ j ∈ T, Fs j a
  h0n : ∀ a, w'.H0 a ≠ none → w.H0 a ≠ none ∨ (∃ i, Fs i a) ∨ w.H a = none
  dom : ∀ a, w.H a ≠ none → w'.H a ≠ none
  pn : ∀ a, w'.HP a ≠ none → w.HP a ≠ none ∨ (∃ i, Fs i a) ∨ w.H a = none
section
variable {g : G} {w w' w'' : Wd} {Fs Fs' Fs'' : Fps} {σ σ' : St} {env env' : Env} {T T' R : List Nat} {d : D} {v : V} {F : Addr → Prop}
theorem Sr.held (s : Sr g w Fs σ env) {i : Nat} {a : Addr} (h : Fs i a) : (∃ o, w.H a = some o) ∧ w.H0 a = none := by
  by_cases e : ∃ d, env[i]? = some (some d)
  · obtain ⟨d, e⟩ := e
    obtain ⟨v, _, q⟩ := s.slot i d e
    exact q.held d a h
  · exact absurd h (s.non i (fun d q => e ⟨d, q⟩) a)
theorem Sr.ext0 (s : Sr g w Fs σ env) (T : List Nat) : Ext T w Fs w Fs :=
  ⟨Le.refl _, Le.refl _, fun _ _ h _ => h, fun _ _ a h => ⟨rfl, (s.held h).2⟩, fun _ _ _ => Iff.rfl, fun _ _ h => .inl h, fun _ h => .inl h, fun _ h => h, fun _ h => .inl h⟩
theorem Ext.trans (h : Ext T w Fs w' Fs') (k : Ext T' w' Fs' w'' Fs'') : Ext (T ++ T') w Fs w'' Fs'' where
  hp := h.hp.trans k.hp
  h0 := h.h0.trans k.h0
  off := fun a o e n => k.off a o (h.off a o e n) fun i q => by
    rcases h.fs i a q with z | z | ⟨j, _, z⟩
    · exact n i z
    · rw [e] at z; cases z
    · exact n j z
  keep := fun i hi a q => by
    have h1 : i ∉ T := fun z => hi (List.mem_append_left _ z)
    have h2 : i ∉ T' := fun z => hi (List.mem_append_right _ z)
    obtain ⟨e1, _⟩ := h.keep i h1 a q
    obtain ⟨e2, e3⟩ := k.keep i h2 a ((h.same i h1 a).mpr q)
    exact ⟨e2.trans e1, e3⟩
  same := fun i hi a => by
    have h1 : i ∉ T := fun z => hi (List.mem_append_left _ z)
    have h2 : i ∉ T' := fun z => hi (List.mem_append_right _ z)
    exact (k.same i h2 a).trans (h.same i h1 a)
  fs := fun i a q => by
    rcases k.fs i a q with z | z | ⟨j, hj, z⟩
    · rcases h.fs i a z with y | y | ⟨m, hm, y⟩
      · exact .inl y
      · exact .inr (.inl y)
      · exact .inr (.inr ⟨m, List.mem_append_left _ hm, y⟩)
    · refine .inr (.inl ?_)
      by_cases y : w.H a = none
      · exact y
      · exact absurd z (h.dom a y)
    · rcases h.fs j a z with y | y | ⟨m, hm, y⟩
      · exact .inr (.inr ⟨j, List.mem_append_right _ hj, y⟩)
      · exact .inr (.inl y)
      · exact .inr (.inr ⟨m, List.mem_append_left _ hm, y⟩)
  h0n := fun a q => by
    rcases k.h0n a q with z | ⟨i, z⟩ | z
    · exact h.h0n a z
    · rcases h.fs i a z with y | y | ⟨m, hm, y⟩
      · exact .inr (.inl ⟨i, y⟩)
      · exact .inr (.inr y)
      · exact .inr (.inl ⟨m, y⟩)
    · refine .inr (.inr ?_)
      by_cases y : w.H a = none
      · exact y
      · exact absurd z (h.dom a y)
  dom := fun a q => k.dom a (h.dom a q)
  pn := fun a q => by
    rcases k.pn a q with z | ⟨i, z⟩ | z
    · exact h.pn a z
    · rcases h.fs i a z with y | y | ⟨m, hm, y⟩
      · exact .inr (.inl ⟨i, y⟩)
      · exact .inr (.inr y)
      · exact .inr (.inl ⟨m, y⟩)
    · refine .inr (.inr ?_)
      by_cases y : w.H a = none
      · exact y
      · exact absurd z (h.dom a y)
theorem Ext.weak (h : Ext T w Fs w' Fs') (hT : ∀ i ∈ T, i ∈ T') : Ext T' w Fs w' Fs' :=
  ⟨h.hp, h.h0, h.off, fun i hi => h.keep i fun z => hi (hT i z), fun i hi => h.same i fun z => hi (hT i z), fun i a q => by
    rcases h.fs i a q with z | z | ⟨j, hj, z⟩
    · exact .inl z
    · exact .inr (.inl z)
    · exact .inr (.inr ⟨j, hT j hj, z⟩), h.h0n, h.dom, h.pn⟩
/-- what is owned by slots in R, or by nobody, stays so -/
theorem Ext.hold (h : Ext T w Fs w' Fs') (q : Ow g.c g.X.K w.HP w.H0 w.H d v F) (n : ∀ a, F a → (∃ i ∈ R, Fs i a) ∨ ∀ i, ¬ Fs i a) (hR : ∀ i ∈ R, i ∉ T) :
    Ow g.c g.X.K w'.HP w'.H0 w'.H d v F ∧ ∀ a, F a → (∃ i ∈ R, Fs' i a) ∨ ∀ i, ¬ Fs' i a := by
  refine ⟨Ow.keep h.hp h.h0 d (fun b hb => ?_) q, fun a ha => ?_⟩
  · obtain ⟨⟨o, e⟩, z⟩ := q.held d b hb
    rcases n b hb with ⟨i, hi, y⟩ | y
    · exact h.keep i (hR i hi) b y
    · refine ⟨by rw [e]; exact h.off b o e y, ?_⟩
      cases x : w'.H0 b with
      | none => rfl
      | some u =>
        rcases h.h0n b (by rw [x]; simp) with t | ⟨i, t⟩ | t
        · exact absurd z t
        · exact absurd t (y i)
        · rw [e] at t; cases t
  · obtain ⟨⟨o, e⟩, _⟩ := q.held d a ha
    rcases n a ha with ⟨i, hi, y⟩ | y
    · exact .inl ⟨i, hi, (h.same i (hR i hi) a).mpr y⟩
    · refine .inr fun i z => ?_
      rcases h.fs i a z with t | t | ⟨j, _, t⟩
      · exact y i t
      · rw [e] at t; cases t
      · exact y j t
/-- a temporary stays as it is -/
theorem Ext.tmp (h : Ext T w Fs w' Fs') (q : Ow g.c g.X.K w.HP w.H0 w.H d v F) (n : ∀ a, F a → ∀ i, ¬ Fs i a) :
    Ow g.c g.X.K w'.HP w'.H0 w'.H d v F ∧ ∀ a, F a → ∀ i, ¬ Fs' i a := by
  obtain ⟨h1, h2⟩ := h.hold (R := []) q (fun a ha => .inr (n a ha)) (fun _ z => absurd z (by simp))
  exact ⟨h1, fun a ha => (h2 a ha).elim (fun ⟨i, hi, _⟩ => absurd hi (by simp)) id⟩
end

/-! ### outcomes -/
inductive ER where
  | ok (d : D) (env : Env)
  | ex (x : Nat) (p : Option D) (env : Env)
  | bad
def ER.bind : ER → (D → Env → ER) → ER
  | .ok d env, k => k d env
  | .ex x p env, _ => .ex x p env
  | .bad, _ => .bad
def ER.of : Option D → Env → ER
  | some d, env => .ok d env
  | none, _ => .bad
/-- an exception's own field -/
def PayF (xf : Nat → Str) (H : Hp) (x : Nat) : Option D → Option Addr → Prop
  | none, dd => dd = none
  | some d, dd => ∃ a v, dd = some a ∧ H a = some (.xd [(xf x, v)]) ∧ AV d v
abbrev PayOk (g : G) := PayF g.xf
def XPost (g : G) (T : List Nat) (w : Wd) (Fs : Fps) (σ : St) (x : Nat) (p : Option D) (env' : Env) : Prop :=
  ∀ w' Fs' dd, Ext T w Fs w' Fs' → Sr g w' Fs' σ env' → PayOk g w'.H x p dd → g.W (.ref (g.xc x)) dd σ w'.H
/-- a value that is nobody else's -/
def EPost (g : G) (T : List Nat) (w : Wd) (Fs : Fps) (σ : St) (Q : VK) : ER → Prop
  | .ok d env' => ∀ w' Fs' v F, Ext T w Fs w' Fs' → Sr g w' Fs' σ env' → Ow g.c g.X.K w'.HP w'.H0 w'.H d v F → (∀ a, F a → ∀ i, ¬ Fs' i a) → (∀ a, F a → w.H a = none ∨ ∃ j ∈ T, Fs j a) → Q v w'.H
  | .ex x p env' => XPost g T w Fs σ x p env'
  | .bad => False
/-- a value that is looked at: its own addresses are those of slots in R, or nobody's -/
def OPost (g : G) (T R : List Nat) (w : Wd) (Fs : Fps) (σ : St) (Q : VK) : ER → Prop
  | .ok d env' => ∀ w' Fs' v F, Ext T w Fs w' Fs' → Sr g w' Fs' σ env' → Ow g.c g.X.K w'.HP w'.H0 w'.H d v F → (∀ a, F a → (∃ i ∈ R, Fs' i a) ∨ ∀ i, ¬ Fs' i a) → (∀ a, F a → w.H a = none ∨ ∃ j, Fs j a) → Q v w'.H
  | .ex x p env' => XPost g T w Fs σ x p env'
  | .bad => False
/-- slots that are not touched stand as they stood -/
def Frm (T : List Nat) (f : Env → ER) : Prop := ∀ env d env', f env = .ok d env' → ∀ i, i ∉ T → env'[i]? = env[i]?
structure PEx (g : G) (e : Expr) (T : List Nat) (f : Env → ER) : Prop where
  fr : Frm T f
  ex : ∃ t, PE g.X e t ∧ ∀ w Fs σ env, Sr g w Fs σ env → ∀ Q, EPost g T w Fs σ Q (f env) → t σ w.H Q
structure POx (g : G) (e : Expr) (T R : List Nat) (f : Env → ER) : Prop where
  fr : Frm T f
  ex : ∃ t, PE g.X e t ∧ ∀ w Fs σ env, Sr g w Fs σ env → ∀ Q, OPost g T R w Fs σ Q (f env) → t σ w.H Q
section
variable {g : G} {e a b : Expr} {T Ta Tb R Ra Rb : List Nat} {f fa fb : Env → ER}
theorem PEx.op (h : PEx g e T f) : POx g e T [] f := by
  obtain ⟨t, h1, h2⟩ := h.ex
  refine ⟨h.fr, t, h1, fun w Fs σ env s Q q => h2 w Fs σ env s Q ?_⟩
  cases er : f env with
  | ok d env' =>
    rw [er] at q
    exact fun w' Fs' v F x s' o n p => q w' Fs' v F x s' o (fun a ha => .inr (n a ha)) fun a ha => (p a ha).imp id fun ⟨j, _, z⟩ => ⟨j, z⟩
  | ex x p env' => rw [er] at q; exact q
  | bad => rw [er] at q; exact q
theorem PEx.cast {f' : Env → ER} (h : PEx g e T f) (q : ∀ env, f env = f' env) : PEx g e T f' := by
  have e : f = f' := funext q
  rw [← e]; exact h
end
/-- the world behind a new object at p, nothing else touched -/
def Wd.put (w : Wd) (p : Addr) (o : HO) : Wd := ⟨w.HP, w.H0, upd w.H p o⟩
section
variable {g : G} {w w' w'' : Wd} {Fs Fs' Fs'' : Fps} {σ σ' : St} {env env' : Env} {T T' R : List Nat} {d : D} {v : V} {F : Addr → Prop}
theorem Le.put {H H' : Hp} (l : Le H H') {p : Addr} {o : HO} (n : H' p = none) : Le H (upd H' p o) := fun a u e => by
  obtain ⟨o', e', c⟩ := l a u e
  exact ⟨o', by rw [upd_ne (ne_of_none e' n)]; exact e', c⟩
/-- a new object of ours, in no slot yet -/
theorem Sr.put (s : Sr g w Fs σ env) {p : Addr} {o : HO} (n : w.H p = none) : Sr g (w.put p o) Fs σ env ∧ Ext [] w Fs (w.put p o) Fs := by
  have ne : ∀ {a : Addr}, w.H a ≠ none → a ≠ p := fun h z => h (z ▸ n)
  refine ⟨⟨s.lp, s.l0.put n, s.len, fun i d e => ?_, s.non, s.dis, s.hx⟩, ⟨Le.refl _, Le.refl _, fun a u e _ => ?_, fun i _ a q => ?_, fun _ _ _ => Iff.rfl, fun i a q => .inl q, fun a q => .inl q, fun a q => ?_, fun a q => .inl q⟩⟩
  · obtain ⟨v, e1, q⟩ := s.slot i d e
    refine ⟨v, e1, Ow.keep (Le.refl _) (Le.refl _) d (fun b hb => ?_) q⟩
    obtain ⟨⟨u, eu⟩, z⟩ := q.held d b hb
    exact ⟨upd_ne (ne (by rw [eu]; simp)), z⟩
  · show upd w.H p o a = _
    rw [upd_ne (ne (by rw [e]; simp))]; exact e
  · obtain ⟨⟨u, eu⟩, z⟩ := s.held q
    exact ⟨upd_ne (ne (by rw [eu]; simp)), z⟩
  · show upd w.H p o a ≠ none
    rw [upd_ne (ne q)]; exact q
end
end DL
set_option Elab.async false
set_option linter.all false
set_option maxRecDepth 100000
set_option maxHeartbeats 4000000
namespace DL
open PySem PySem.Spec PyProof.Rows L2

/-! ### places within a datum -/
def getP : List Nat → D → Option D
  | [], d => some d
  | j :: p, .nd _ _ xs => match xs[j]? with
    | some x => getP p x
    | none => none
  | _ :: _, _ => none
def setP : List Nat → D → D → D
  | [], e, _ => e
  | j :: p, e, .nd k o xs => .nd k o (match xs[j]? with
    | some x => xs.set j (setP p e x)
    | none => xs)
  | _ :: _, _, d => d
def ownF : Fl → Bool
  | .own => true
  | _ => false
/-- every node above the place is owned -/
def ownP : List Nat → D → Bool
  | [], _ => true
  | j :: p, .nd _ o xs => ownF o && match xs[j]? with
    | some x => ownP p x
    | none => false
  | _ :: _, _ => false
/-- d at v stands in d0 at v0, at the place p: it may be put in place anew -/
def Rep (g : G) (w : Wd) (F0 F : Addr → Prop) (v v0 : V) (p : List Nat) (d0 : D) (u : Bool) : Prop :=
  ∀ (w2 : Wd) (d2 : D) (F2 : Addr → Prop), Le w.HP w2.HP → Le w.H0 w2.H0 → (∀ a, F0 a → ¬ F a → w2.H a = w.H a ∧ w2.H0 a = none) → Ow g.c g.X.K w2.HP w2.H0 w2.H d2 v F2 → isUns d2 = u → (∀ a, F2 a → F0 a → F a) →
    ∃ F3, Ow g.c g.X.K w2.HP w2.H0 w2.H (setP p d2 d0) v0 F3 ∧ ∀ a, F3 a ↔ (F0 a ∧ ¬ F a) ∨ F2 a
section
variable {g : G} {w w' w'' : Wd} {F F0 F1 : Addr → Prop} {d d0 x1 : D} {v v0 : V} {p : List Nat}
theorem OwL.child : ∀ {xs : List D} {vs : List V} {F : Addr → Prop} {j : Nat} {x1 : D}, OwL g.c g.X.K w.HP w.H0 w.H xs vs F → xs[j]? = some x1 →
    ∃ v1 F1, vs[j]? = some v1 ∧ Ow g.c g.X.K w.HP w.H0 w.H x1 v1 F1 ∧ (∀ a, F1 a → F a) ∧
      ∀ (w2 : Wd) (d2 : D) (F2 : Addr → Prop), Le w.HP w2.HP → Le w.H0 w2.H0 → (∀ a, F a → ¬ F1 a → w2.H a = w.H a ∧ w2.H0 a = none) → Ow g.c g.X.K w2.HP w2.H0 w2.H d2 v1 F2 → (∀ a, F2 a → F a → F1 a) →
        ∃ F3, OwL g.c g.X.K w2.HP w2.H0 w2.H (xs.set j d2) vs F3 ∧ ∀ a, F3 a ↔ (F a ∧ ¬ F1 a) ∨ F2 a
  | [], _, _, j, x1, _, e => by simp at e
  | x :: ds, vs, F, 0, x1, h, e => by
    obtain ⟨v, r, G1, G2, ev, q1, q2, q3, q4⟩ := h
    simp at e; subst e
    refine ⟨v, G1, by rw [ev]; rfl, q1, fun a ha => (q4 a).mpr (.inl ha), fun w2 d2 F2 lp l0 hk h2 hd => ?_⟩
    have tail : OwL g.c g.X.K w2.HP w2.H0 w2.H ds r G2 := by
      have go : ∀ {l : List D} {ws : List V} {E : Addr → Prop}, (∀ b, E b → w2.H b = w.H b ∧ w2.H0 b = none) → OwL g.c g.X.K w.HP w.H0 w.H l ws E → OwL g.c g.X.K w2.HP w2.H0 w2.H l ws E := by
        intro l
        induction l with
        | nil => intro ws E _ q; exact q
        | cons y l ihl =>
          intro ws E hE q
          obtain ⟨v, r, E1, E2, e, y1, y2, y3, y4⟩ := q
          exact ⟨v, r, E1, E2, e, Ow.keep lp l0 y (fun b hb => hE b ((y4 b).mpr (.inl hb))) y1, ihl (fun b hb => hE b ((y4 b).mpr (.inr hb))) y2, y3, y4⟩
      exact go (fun b hb => hk b ((q4 b).mpr (.inr hb)) fun z => q3 b z hb) q2
    refine ⟨fun a => F2 a ∨ G2 a, ⟨v, r, F2, G2, ev, h2, tail, fun b hb hg => ?_, fun b => Iff.rfl⟩, fun a => ?_⟩
    · exact q3 b (hd b hb ((q4 b).mpr (.inr hg))) hg
    · constructor
      · rintro (z | z)
        · exact .inr z
        · exact .inl ⟨(q4 a).mpr (.inr z), fun y => q3 a y z⟩
      · rintro (⟨z, n⟩ | z)
        · rcases (q4 a).mp z with y | y
          · exact absurd y n
          · exact .inr y
        · exact .inl z
  | x :: ds, vs, F, j + 1, x1, h, e => by
    obtain ⟨v, r, G1, G2, ev, q1, q2, q3, q4⟩ := h
    obtain ⟨v1, F1, e1, o1, s1, k1⟩ := OwL.child (j := j) q2 (by simpa using e)
    refine ⟨v1, F1, by rw [ev]; simpa using e1, o1, fun a ha => (q4 a).mpr (.inr (s1 a ha)), fun w2 d2 F2 lp l0 hk h2 hd => ?_⟩
    obtain ⟨F3, h3, h4⟩ := k1 w2 d2 F2 lp l0 (fun a ha na => hk a ((q4 a).mpr (.inr ha)) na) h2 fun a ha z => hd a ha ((q4 a).mpr (.inr z))
    have head : Ow g.c g.X.K w2.HP w2.H0 w2.H x v G1 := Ow.keep lp l0 x (fun b hb => hk b ((q4 b).mpr (.inl hb)) fun z => q3 b hb (s1 b z)) q1
    refine ⟨fun a => G1 a ∨ F3 a, ⟨v, r, G1, F3, ev, head, h3, fun b hb z => ?_, fun b => Iff.rfl⟩, fun a => ?_⟩
    · rcases (h4 b).mp z with ⟨y, _⟩ | y
      · exact q3 b hb y
      · exact q3 b hb (s1 b (hd b y ((q4 b).mpr (.inl hb))))
    · constructor
      · rintro (z | z)
        · exact .inl ⟨(q4 a).mpr (.inl z), fun y => q3 a z (s1 a y)⟩
        · rcases (h4 a).mp z with ⟨y, n⟩ | y
          · exact .inl ⟨(q4 a).mpr (.inr y), n⟩
          · exact .inr y
      · rintro (⟨z, n⟩ | z)
        · rcases (q4 a).mp z with y | y
          · exact .inl y
          · exact .inr ((h4 a).mpr (.inl ⟨y, n⟩))
        · exact .inr ((h4 a).mpr (.inr z))
theorem map_set_uns {xs : List D} {j : Nat} {x d : D} (e : xs[j]? = some x) (h : isUns d = isUns x) : (xs.set j d).map isUns = xs.map isUns := by
  rw [List.map_set, h]
  have hj : j < (xs.map isUns).length := by rw [List.length_map]; exact (List.getElem?_eq_some_iff.mp e).1
  have e2 : (xs.map isUns)[j] = isUns x := by
    obtain ⟨h1, h2⟩ := List.getElem?_eq_some_iff.mp e
    rw [List.getElem_map, h2]
  rw [← e2]
  exact List.set_getElem_self hj
/-- one step down -/
theorem Ow.child {k : Kd} {o : Fl} {xs : List D} {j : Nat} (lp : Le w.HP w.H0) (l0 : Le w.H0 w.H) (h : Ow g.c g.X.K w.HP w.H0 w.H (.nd k o xs) v F) (e : xs[j]? = some x1) :
    ∃ a vs v1 F1, v = .ref a ∧ RAt g.c g.X.K w.H a k xs vs ∧ vs.length = xs.length ∧ vs[j]? = some v1 ∧ Ow g.c g.X.K w.HP w.H0 w.H x1 v1 F1 ∧ (∀ a, F1 a → F a) ∧ (o = .own → Rep g w F F1 v1 v [j] (.nd k o xs) (isUns x1)) := by
  have roc : Ro g.c g.X.K w.HP w.H0 (.nd k o xs) v → o ≠ .own → ∃ a vs v1 F1, v = .ref a ∧ RAt g.c g.X.K w.H a k xs vs ∧ vs.length = xs.length ∧ vs[j]? = some v1 ∧ Ow g.c g.X.K w.HP w.H0 w.H x1 v1 F1 ∧ (∀ a, F1 a → F a) ∧ (o = .own → Rep g w F F1 v1 v [j] (.nd k o xs) (isUns x1)) := by
    intro q ne
    obtain ⟨_, a, vs, e2, h1, h2⟩ := q
    obtain ⟨v1, e3, q⟩ := h2.get e
    have hl : Le (hz o w.HP w.H0) w.H0 := by cases o <;> first | exact Le.refl _ | exact lp
    refine ⟨a, vs, v1, fun _ => False, e2, h1.mono (hl.trans l0), h2.len, e3, Ow.of_ro (Ro.mono (Le.refl _) x1 hl q) fun _ => id, fun _ z => z.elim, fun z => absurd z ne⟩
  cases o with
  | ro => exact roc h.1 (by simp)
  | pm => exact roc h.1 (by simp)
  | own =>
    obtain ⟨a, vs, A, F', e2, h1, h2, h3, h4, h5⟩ := h
    obtain ⟨v1, F1, e3, q1, q2, q3⟩ := h4.child e
    refine ⟨a, vs, v1, F1, e2, h1.rat, h4.len, e3, q1, fun b hb => (h5 b).mpr (.inr (q2 b hb)), fun _ w2 d2 F2 lp2 l02 hk hw hu hd => ?_⟩
    obtain ⟨F3, o3, f3⟩ := q3 w2 d2 F2 lp2 l02 (fun b hb nb => hk b ((h5 b).mpr (.inr hb)) nb) hw fun b hb z => hd b hb ((h5 b).mpr (.inr z))
    have hA : ∀ b ∈ A, w2.H b = w.H b ∧ w2.H0 b = none := fun b hb => hk b ((h5 b).mpr (.inl hb)) fun z => h3 b hb (q2 b z)
    refine ⟨fun b => b ∈ A ∨ F3 b, ?_, fun b => ?_⟩
    · show Ow _ _ _ _ _ (.nd k .own (match xs[j]? with | some x => xs.set j (setP [] d2 x) | none => xs)) _ _
      rw [e]
      show Ow _ _ _ _ _ (.nd k .own (xs.set j d2)) _ _
      refine ⟨a, vs, A, F3, e2, (h1.keep fun b hb => (hA b hb).1).congr (map_set_uns e hu), fun b hb => (hA b hb).2, fun b hb z => ?_, o3, fun b => Iff.rfl⟩
      rcases (f3 b).mp z with ⟨y, _⟩ | y
      · exact h3 b hb y
      · exact h3 b hb (q2 b (hd b y ((h5 b).mpr (.inl hb))))
    · constructor
      · rintro (z | z)
        · exact .inl ⟨(h5 b).mpr (.inl z), fun y => h3 b z (q2 b y)⟩
        · rcases (f3 b).mp z with ⟨y, n⟩ | y
          · exact .inl ⟨(h5 b).mpr (.inr y), n⟩
          · exact .inr y
      · rintro (⟨z, n⟩ | z)
        · rcases (h5 b).mp z with y | y
          · exact .inl y
          · exact .inr ((f3 b).mpr (.inl ⟨y, n⟩))
        · exact .inr ((f3 b).mpr (.inr z))
theorem getP_snoc : ∀ {p : List Nat} {j : Nat} {d0 : D}, getP (p ++ [j]) d0 = (getP p d0).bind (getP [j])
  | [], j, d0 => by simp [getP]
  | i :: p, j, d0 => by
    cases d0 with
    | nd k o xs =>
      show (match xs[i]? with | some x => getP (p ++ [j]) x | none => none) = (match xs[i]? with | some x => getP p x | none => none).bind (getP [j])
      cases xs[i]? with
      | none => rfl
      | some x => exact getP_snoc
    | _ => rfl
theorem setP_snoc : ∀ {p : List Nat} {j : Nat} {d0 d e : D}, getP p d0 = some d → setP (p ++ [j]) e d0 = setP p (setP [j] e d) d0
  | [], j, d0, d, e, h => by
    have h' : d0 = d := by simpa [getP] using h
    subst h'; rfl
  | i :: p, j, d0, d, e, h => by
    cases d0 with
    | nd k o xs =>
      have h' : (match xs[i]? with | some x => getP p x | none => none) = some d := h
      show D.nd k o (match xs[i]? with | some x => xs.set i (setP (p ++ [j]) e x) | none => xs) = D.nd k o (match xs[i]? with | some x => xs.set i (setP p (setP [j] e d) x) | none => xs)
      cases q : xs[i]? with
      | none => rfl
      | some x =>
        rw [q] at h'
        dsimp only
        rw [setP_snoc (p := p) h']
    | _ => cases h
theorem ownP_snoc : ∀ {p : List Nat} {j : Nat} {d0 d : D}, getP p d0 = some d → ownP (p ++ [j]) d0 = (ownP p d0 && ownP [j] d)
  | [], j, d0, d, h => by
    have h' : d0 = d := by simpa [getP] using h
    subst h'; rfl
  | i :: p, j, d0, d, h => by
    cases d0 with
    | nd k o xs =>
      have h' : (match xs[i]? with | some x => getP p x | none => none) = some d := h
      show (ownF o && match xs[i]? with | some x => ownP (p ++ [j]) x | none => false) = ((ownF o && match xs[i]? with | some x => ownP p x | none => false) && ownP [j] d)
      cases q : xs[i]? with
      | none => rw [q] at h'; cases h'
      | some x =>
        rw [q] at h'
        dsimp only
        rw [ownP_snoc (p := p) h', Bool.and_assoc]
    | _ => cases h
theorem Rep.nil : Rep g w F F v v [] d (isUns d) := fun w2 d2 F2 _ _ _ h _ _ => ⟨F2, h, fun a => ⟨.inr, fun z => z.elim (fun y => absurd y.1 y.2) id⟩⟩
/-- two steps in one -/
theorem Rep.snoc {j : Nat} {u : Bool} {v1 : V} (h : Rep g w F0 F v v0 p d0 (isUns d)) (hs : ∀ a, F a → F0 a) (e : getP p d0 = some d) (k : Rep g w F F1 v1 v [j] d u) (ks : ∀ a, F1 a → F a) : Rep g w F0 F1 v1 v0 (p ++ [j]) d0 u := by
  intro w2 d2 F2 lp l0 hk hw hu hd
  obtain ⟨F3, h3, f3⟩ := k w2 d2 F2 lp l0 (fun a ha na => hk a (hs a ha) na) hw hu fun a ha z => hd a ha (hs a z)
  have eu : isUns (setP [j] d2 d) = isUns d := by
    cases d <;> rfl
  obtain ⟨F4, h4, f4⟩ := h w2 (setP [j] d2 d) F3 lp l0 (fun a ha na => hk a ha fun z => na (ks a z)) h3 eu fun a ha z => by
    rcases (f3 a).mp ha with ⟨y, _⟩ | y
    · exact y
    · exact ks a (hd a y z)
  refine ⟨F4, by rw [setP_snoc e]; exact h4, fun a => ?_⟩
  constructor
  · intro z
    rcases (f4 a).mp z with ⟨y, n⟩ | y
    · exact .inl ⟨y, fun x => n (ks a x)⟩
    · rcases (f3 a).mp y with ⟨x, n⟩ | x
      · exact .inl ⟨hs a x, n⟩
      · exact .inr x
  · rintro (⟨y, n⟩ | y)
    · by_cases x : F a
      · exact (f4 a).mpr (.inr ((f3 a).mpr (.inl ⟨x, n⟩)))
      · exact (f4 a).mpr (.inl ⟨y, x⟩)
    · exact (f4 a).mpr (.inr ((f3 a).mpr (.inr y)))
/-- the place stands in a later world as well -/
theorem Rep.later {u : Bool} (h : Rep g w F0 F v v0 p d0 u) (lp : Le w.HP w'.HP) (l0 : Le w.H0 w'.H0) (k : ∀ a, F0 a → w'.H a = w.H a) : Rep g w' F0 F v v0 p d0 u :=
  fun w2 d2 F2 lp2 l02 hk hw hu hd => h w2 d2 F2 (lp.trans lp2) (l0.trans l02) (fun a ha na => ⟨(hk a ha na).1.trans (k a ha), (hk a ha na).2⟩) hw hu hd
end
end DL
set_option Elab.async false
set_option linter.all false
set_option maxRecDepth 100000
set_option maxHeartbeats 4000000
namespace DL
open PySem PySem.Spec PyProof.Rows L2

/-! ### places, as expressions -/
inductive PR where
  | ok (p : List Nat) (d : D) (env : Env)
  | ex (x : Nat) (p : Option D) (env : Env)
  | bad
def PR.toE : PR → (List Nat → D → Env → ER) → ER
  | .ok p d env, k => k p d env
  | .ex x q env, _ => .ex x q env
  | .bad, _ => .bad
def PR.bind : PR → (List Nat → D → Env → PR) → PR
  | .ok p d env, k => k p d env
  | .ex x q env, _ => .ex x q env
  | .bad, _ => .bad
def ER.toP : ER → (D → Env → PR) → PR
  | .ok d env, k => k d env
  | .ex x q env, _ => .ex x q env
  | .bad, _ => .bad
def PPost (g : G) (i : Nat) (T : List Nat) (w : Wd) (Fs : Fps) (σ : St) (Q : VK) : PR → Prop
  | .ok p d env' => ∀ w' Fs' v v0 d0 F, Ext T w Fs w' Fs' → Sr g w' Fs' σ env' → env'[i]? = some (some d0) → σ[i]? = some (some v0) → getP p d0 = some d → Ow g.c g.X.K w'.HP w'.H0 w'.H d v F → (∀ a, F a → Fs' i a) → (ownP p d0 = true → Rep g w' (Fs' i) F v v0 p d0 (isUns d)) → Q v w'.H
  | .ex x p env' => XPost g T w Fs σ x p env'
  | .bad => False
structure PPx (g : G) (e : Expr) (i : Nat) (T : List Nat) (f : Env → PR) : Prop where
  fr : ∀ env p d env', f env = .ok p d env' → ∀ k, k ∉ T → env'[k]? = env[k]?
  ni : i ∉ T
  ex : ∃ t, PE g.X e t ∧ ∀ w Fs σ env, Sr g w Fs σ env → ∀ Q, PPost g i T w Fs σ Q (f env) → t σ w.H Q
def fName (i : Nat) (env : Env) : PR := match env[i]? with
  | some (some d) => .ok [] d env
  | _ => .bad
/-- the field j of an instance of the class cc -/
def fFld (cc j : Nat) (p : List Nat) (d : D) (env : Env) : PR := match d with
  | .nd (.ins c') _ xs => match c' == cc, xs[j]? with
    | true, some x => if isUns x = true then .bad else .ok (p ++ [j]) x env
    | _, _ => .bad
  | _ => .bad
def keyA : D → Option Key
  | .int i => some (.inl i)
  | .str x => some (.inr x)
  | _ => none
def keyAs : List D → Option (List Key)
  | [] => some []
  | d :: ds => match keyA d, keyAs ds with
    | some k, some ks => some (k :: ks)
    | _, _ => none
def keyD : D → Option KD
  | .int i => some (.k (.inl i))
  | .str x => some (.k (.inr x))
  | .nd .tup _ xs => (keyAs xs).map .t
  | _ => none
/-- the first place of a key -/
def keyIx (ks : List KD) (k : KD) : Option Nat := ks.findIdx? fun q => decide (q = k)
/-- which item -/
def ixOf (d di : D) : Option Nat := match d with
  | .nd k _ xs => match k with
    | .dct _ ks => (keyD di).bind (keyIx ks)
    | .ins _ => none
    | _ => match di with
      | .int n => ixN xs.length n
      | _ => none
  | _ => none
def fIx (p : List Nat) (d di : D) (env : Env) : PR := match d with
  | .nd _ _ xs => match ixOf d di with
    | some j => match xs[j]? with
      | some x => .ok (p ++ [j]) x env
      | none => .bad
    | none => .bad
  | _ => .bad

section
variable {g : G} {e a b : Expr} {i j cc : Nat} {T Ta Tb R Ra Rb : List Nat} {f fa fb : Env → ER} {fp : Env → PR} {pos : Pos}
theorem ppx_name {x : Str} (hN : g.X.N[i]? = some x) (hv : Vis g.X.env.scope x) (hd : (x == ("__debug__" : Str)) = false := by decide) (hcd : (x == ("__classdict__" : Str)) = false := by decide) : PPx g (.Name x pos) i [] (fName i) := by
  refine ⟨fun env p d env' h k _ => ?_, by simp, _, pe_var hN hv hd hcd, fun w Fs σ env s Q h => ?_⟩
  · unfold fName at h
    split at h
    · cases h; rfl
    · cases h
  · unfold fName at h
    split at h
    · rename_i d hd
      obtain ⟨v, e1, q⟩ := s.slot i d hd
      exact ⟨v, e1, h w Fs v v d (Fs i) (s.ext0 _) s hd e1 rfl q (fun _ z => z) fun _ => Rep.nil⟩
    · exact h.elim
theorem RAt.fld {c : Cs} {K : PySem.W.Frag} {H : Hp} {a : Addr} {k j : Nat} {xs : List D} {vs : List V} {n : Str} {x : D} {v : V} (h : RAt c K H a (.ins k) xs vs) (hn : (c k).nm[j]? = some n) (hx : xs[j]? = some x) (hu : isUns x = false) (hv : vs[j]? = some v) :
    ∃ dx fs, H a = some (.ins (c k).ad dx fs) ∧ fs.lookup n = some v := by
  obtain ⟨A, dx, fs, h1, h2, r, _⟩ := h
  refine ⟨dx, fs, h1, ?_⟩
  rw [r.at_ j n hn (by rw [List.getElem?_map, hx, ← hu]; rfl), hv]
theorem ppx_fld {fld : Str} (hb : PPx g b i T fp) (hc : Cls g.X.K (g.c cc).ad) (hn : NoAttr g.X.K (g.c cc).ad fld) (hj : (g.c cc).nm[j]? = some fld) (hbase : attributeBase b fld g.X.env (eval b g.X.env) = eval b g.X.env := by rfl) :
    PPx g (.Attribute b fld pos) i T (fun env => (fp env).bind (fFld cc j)) := by
  obtain ⟨t, h1, h2⟩ := hb.ex
  have inv : ∀ {p : List Nat} {d : D} {env : Env} {p' d' env'}, fFld cc j p d env = .ok p' d' env' → ∃ o xs, d = .nd (.ins cc) o xs ∧ xs[j]? = some d' ∧ isUns d' = false ∧ p' = p ++ [j] ∧ env' = env := by
    intro p d env p' d' env' h
    unfold fFld at h
    split at h
    · rename_i c' o xs
      split at h
      · rename_i x h1 h2
        split at h
        · cases h
        · rename_i hu
          cases h
          have ec : c' = cc := by simpa using h1
          subst ec
          exact ⟨o, xs, rfl, h2, by simpa using hu, rfl, rfl⟩
      · cases h
    · cases h
  refine ⟨fun env p d env' h k hk => ?_, hb.ni, _, pe_fld h1 hbase, fun w Fs σ env s Q h => ?_⟩
  · cases er : fp env with
    | ok p0 d0 env1 =>
      simp only [er, PR.bind] at h
      obtain ⟨o, xs, _, _, _, _, e⟩ := inv h
      rw [e]
      exact hb.fr env p0 d0 env1 er k hk
    | ex x q env1 => simp only [er, PR.bind] at h; cases h
    | bad => simp only [er, PR.bind] at h; cases h
  · refine h2 w Fs σ env s _ ?_
    cases er : fp env with
    | ex x q env1 => simp only [er, PR.bind] at h; exact h
    | bad => simp only [er, PR.bind] at h; exact h
    | ok p0 d0 env1 =>
      simp only [er, PR.bind] at h
      intro w' Fs' v v0 d00 F x s' e1 e2 e3 o f r
      cases eq : fFld cc j p0 d0 env1 with
      | ex x q env1 =>
        exfalso
        unfold fFld at eq
        split at eq
        · split at eq
          · split at eq <;> cases eq
          · cases eq
        · cases eq
      | bad => rw [eq] at h; exact h.elim
      | ok p' d' env' =>
        obtain ⟨ow, xs, ed, ej, eu, ep, ee⟩ := inv eq
        rw [eq] at h
        subst ed ep ee
        obtain ⟨a, vs, v1, F1, ev, ra, _, e4, o1, s1, r1⟩ := o.child s'.lp s'.l0 ej
        obtain ⟨dx, fs, q1, q2⟩ := ra.fld hj ej eu e4
        refine ⟨a, _, dx, fs, v1, ev, q1, hc, hn, q2, ?_⟩
        refine h w' Fs' v1 v0 d00 F1 x s' e1 e2 (by rw [getP_snoc, e3]; show (match xs[j]? with | some x => getP [] x | none => none) = _; rw [ej]; rfl) o1 (fun b hb => f b (s1 b hb)) fun hp => ?_
        rw [ownP_snoc e3] at hp
        obtain ⟨hp1, hp2⟩ := Bool.and_eq_true_iff.mp hp
        have eo : ow = .own := by
          have z : (ownF ow && match xs[j]? with | some x => ownP [] x | none => false) = true := hp2
          cases ow with
          | own => rfl
          | _ => simp [ownF] at z
        exact (r hp1).snoc f e3 (r1 eo) s1
/-! ### keys -/
def KeyV (H : Hp) : KD → V → Prop
  | .k x, v => v = kV x
  | .t l, v => ∃ b, v = .ref b ∧ H b = some (.tup (l.map kV))
theorem keyA_v {c : Cs} {K : PySem.W.Frag} {HP H : Hp} {d : D} {k : Key} {v : V} (h : keyA d = some k) (r : Ro c K HP H d v) : v = kV k := by
  cases d with
  | int i => cases h; exact r
  | str i => cases h; exact r
  | _ => cases h
theorem keyAs_v {c : Cs} {K : PySem.W.Frag} {HP H : Hp} : ∀ {xs : List D} {ks : List Key} {vs : List V}, keyAs xs = some ks → RoL c K HP H xs vs → vs = ks.map kV
  | [], ks, vs, h, r => by
    cases h
    exact r
  | d :: ds, ks, vs, h, r => by
    obtain ⟨v, q, e, r1, r2⟩ := r
    unfold keyAs at h
    split at h
    · rename_i k ks' h1 h2
      cases h
      rw [e, keyA_v h1 r1, keyAs_v h2 r2, List.map_cons]
    · cases h
theorem keyD_v {c : Cs} {K : PySem.W.Frag} {HP H : Hp} (lp : Le HP H) {d : D} {k : KD} {v : V} (h : keyD d = some k) (r : Ro c K HP H d v) : KeyV H k v := by
  cases d with
  | int i => cases h; exact r
  | str i => cases h; exact r
  | nd kk o xs =>
    cases kk with
    | tup =>
      obtain ⟨l, e1, e2⟩ := Option.map_eq_some_iff.mp (show (keyAs xs).map KD.t = some k from h)
      subst e2
      obtain ⟨_, a, vs, e, h1, h2⟩ := r
      rw [keyAs_v e1 h2] at h1
      have hl : Le (hz o HP H) H := by cases o <;> first | exact Le.refl _ | exact lp
      exact ⟨a, e, hl.tup h1⟩
    | _ => cases h
  | _ => cases h
theorem keyAs_frz : ∀ {xs : List D}, keyAs (xs.map frz) = keyAs xs
  | [] => rfl
  | d :: ds => by
    have e : keyA (frz d) = keyA d := by cases d <;> rfl
    rw [List.map_cons, keyAs, keyAs, e, keyAs_frz]
theorem keyD_frz (d : D) : keyD (frz d) = keyD d := by
  cases d with
  | nd k o xs =>
    rw [frz, frzL_map]
    cases k with
    | tup =>
      show (keyAs (xs.map frz)).map KD.t = (keyAs xs).map KD.t
      rw [keyAs_frz]
    | _ => rfl
  | _ => rfl
theorem findIdx_valV {κ : Type} [DecidableEq κ] : ∀ {kvs : List (κ × V)} {k : κ} {j : Nat}, (kvs.findIdx? fun p => decide (p.1 = k)) = some j → valV kvs k = (kvs[j]?).map (·.2)
  | [], k, j, h => by simp at h
  | p :: r, k, j, h => by
    rw [List.findIdx?_cons] at h
    by_cases e : p.1 = k
    · rw [if_pos (by simpa using e)] at h
      cases h
      rw [valV_pos e]; rfl
    · rw [if_neg (by simpa using e)] at h
      obtain ⟨i, h1, h2⟩ := Option.map_eq_some_iff.mp h
      subst h2
      rw [valV_neg e, findIdx_valV h1]
      rfl
theorem keyIx_k : ∀ {kvs : List (Key × V)} {k : Key}, keyIx (kvs.map fun p => .k p.1) (.k k) = kvs.findIdx? fun p => decide (p.1 = k) := by
  intro kvs k
  unfold keyIx
  rw [List.findIdx?_map]
  congr 1
  funext p
  show decide (KD.k p.1 = KD.k k) = _
  by_cases e : p.1 = k
  · simp [e]
  · simp [e]
theorem keyIx_t : ∀ {kvs : List (List Key × V)} {k : List Key}, keyIx (kvs.map fun p => .t p.1) (.t k) = kvs.findIdx? fun p => decide (p.1 = k) := by
  intro kvs k
  unfold keyIx
  rw [List.findIdx?_map]
  congr 1
  funext p
  show decide (KD.t p.1 = KD.t k) = _
  by_cases e : p.1 = k
  · simp [e]
  · simp [e]
theorem keyIx_kt {kvs : List (Key × V)} {k : List Key} : keyIx (kvs.map fun p => .k p.1) (.t k) = none := by
  unfold keyIx
  rw [List.findIdx?_map, List.findIdx?_eq_none_iff]
  intro x _
  show decide (KD.k x.1 = KD.t k) = false
  exact decide_eq_false (fun z => nomatch z)
theorem keyIx_tk {kvs : List (List Key × V)} {k : Key} : keyIx (kvs.map fun p => .t p.1) (.k k) = none := by
  unfold keyIx
  rw [List.findIdx?_map, List.findIdx?_eq_none_iff]
  intro x _
  show decide (KD.t x.1 = KD.k k) = false
  exact decide_eq_false (fun z => nomatch z)
/-- a key that stands in a dict -/
theorem DRd.get {H : Hp} {a : Addr} {s : KS} {ks : List KD} {vs : List V} {k : KD} {y : V} {j : Nat} {v : V} (h : DRd H a s ks vs) (hk : KeyV H k y) (e : keyIx ks k = some j) (ev : vs[j]? = some v) : DGet H a y (some v) := by
  rcases h with ⟨kvs, h, r1, r2, _⟩ | ⟨kvs, h, r1, r2, _⟩
  · subst r1 r2
    cases k with
    | k x =>
      rw [keyIx_k] at e
      refine .inl ⟨kvs, x, h, hk, ?_⟩
      rw [findIdx_valV e, ← ev, List.getElem?_map]
    | t l => rw [keyIx_kt] at e; cases e
  · subst r1 r2
    cases k with
    | k x => rw [keyIx_tk] at e; cases e
    | t l =>
      rw [keyIx_t] at e
      obtain ⟨b, e1, e2⟩ := hk
      refine .inr ⟨kvs, l, b, h, e1, e2, ?_⟩
      rw [findIdx_valV e, ← ev, List.getElem?_map]
theorem ix_dict {X : Cx} (hu : X.A.units + 1 < cLine) : IxR X (fun x y H Q => ∃ a v, x = .ref a ∧ DGet H a y (some v) ∧ Q v H) := by
  intro value slice pins s σ H x y v u Q I rx ry h hs
  obtain ⟨a, z, rfl, gq, q⟩ := h
  cases rx
  exact tail_any (dict_typeIs I gq) PySem.F.slot_dict_getitem.lookup (d_getItem hu I gq ry fun w' s' I' r' => ⟨z, H, I', r', q⟩) hs
def rIxAny (K : PySem.W.Frag) : R2 := fun x y H Q => rIx K x y H Q ∨ ∃ a v, x = .ref a ∧ DGet H a y (some v) ∧ Q v H
theorem ix_any {X : Cx} (hu : X.A.units + 1 < cLine) : IxR X (rIxAny X.K) := ix_seq.or (ix_dict hu)
theorem ixN_lt {n : Nat} {i : Int} {j : Nat} (h : ixN n i = some j) : j < n := (ixN_seq h).2.1
/-- an item of an object, by its datum -/
theorem rIx_of {w : Wd} {di : D} {vy : V} {k : Kd} {o : Fl} {xs : List D} {j : Nat} {K : PySem.W.Frag} {c : Cs} (lp : Le w.HP w.H0) (l0 : Le w.H0 w.H) {a : Addr} {vs : List V} {v1 : V} (ra : RAt c K w.H a k xs vs) (hl : vs.length = xs.length) (e4 : vs[j]? = some v1)
    (ej : ixOf (.nd k o xs) di = some j) (ri : Ro c K w.HP w.H (frz di) vy) {Q : VK} (q : Q v1 w.H) : rIxAny K (.ref a) vy w.H Q := by
  have at_ : ∀ {n : Int}, ixN xs.length n = some j → atI vs n = some v1 := fun {n} h => by
    unfold atI
    rw [hl, h]
    exact e4
  have key : ∀ {s : KS} {ks : List KD}, k = .dct s ks → rIxAny K (.ref a) vy w.H Q := by
    intro s ks ek
    subst ek
    obtain ⟨kk, e5, e6⟩ := Option.bind_eq_some_iff.mp (show (keyD di).bind (keyIx ks) = some j from ej)
    exact .inr ⟨a, v1, rfl, DRd.get ra (keyD_v (lp.trans l0) (by rw [keyD_frz]; exact e5) ri) e6 e4, q⟩
  cases k with
  | dct s ks => exact key rfl
  | ins c => cases ej
  | lst =>
    cases di with
    | int n => exact .inl (.inl ⟨a, vs, n, v1, rfl, ri, .inl (.inl ra), at_ ej, q⟩)
    | _ => cases ej
  | scr =>
    cases di with
    | int n => exact .inl (.inl ⟨a, vs, n, v1, rfl, ri, ra, at_ ej, q⟩)
    | _ => cases ej
  | tup =>
    cases di with
    | int n => exact .inl (.inr (.inl ⟨a, vs, n, v1, rfl, ri, .inl (.inl ra), at_ ej, q⟩))
    | _ => cases ej
theorem fIx_inv {p : List Nat} {d di : D} {env : Env} {p' d' env'} (h : fIx p d di env = .ok p' d' env') : ∃ k o xs j, d = .nd k o xs ∧ ixOf d di = some j ∧ xs[j]? = some d' ∧ p' = p ++ [j] ∧ env' = env := by
  unfold fIx at h
  split at h
  · rename_i k o xs
    split at h
    · rename_i j hj
      split at h
      · rename_i x hx
        cases h
        exact ⟨k, o, xs, j, rfl, hj, hx, rfl, rfl⟩
      · cases h
    · cases h
  · cases h
theorem fIx_no {p : List Nat} {d di : D} {env : Env} {x q env'} (h : fIx p d di env = .ex x q env') : False := by
  unfold fIx at h
  split at h
  · split at h
    · split at h <;> cases h
    · cases h
  · cases h
theorem isUns_nd {k : Kd} {o : Fl} {xs : List D} : isUns (.nd k o xs) = false := rfl
theorem ppx_ix (hu : g.X.A.units + 1 < cLine) (ha : PPx g a i Ta fp) (hb : POx g b Tb Rb fb) (hi : i ∉ Tb) (hs : PlainIx b) :
    PPx g (.Subscript a b pos) i (Ta ++ Tb) (fun env => (fp env).bind fun p d e1 => (fb e1).toP fun di e2 => fIx p d di e2) := by
  obtain ⟨t, h1, h2⟩ := ha.ex
  obtain ⟨u, k1, k2⟩ := hb.ex
  refine ⟨fun env p d env' h k hk => ?_, fun z => (List.mem_append.mp z).elim ha.ni hi, _, pe_ix (ix_any hu) h1 k1 hs, fun w Fs σ env s Q h => ?_⟩
  · cases er : fp env with
    | ex x q env1 => simp only [er, PR.bind] at h; cases h
    | bad => simp only [er, PR.bind] at h; cases h
    | ok p0 d0 env1 =>
      cases eb : fb env1 with
      | ex x q env1 => simp only [er, PR.bind, eb, ER.toP] at h; cases h
      | bad => simp only [er, PR.bind, eb, ER.toP] at h; cases h
      | ok di env2 =>
        simp only [er, PR.bind, eb, ER.toP] at h
        obtain ⟨_, _, _, _, _, _, _, _, e⟩ := fIx_inv h
        rw [e, hb.fr _ _ _ eb k fun z => hk (List.mem_append_right _ z), ha.fr _ _ _ _ er k fun z => hk (List.mem_append_left _ z)]
  · refine h2 w Fs σ env s _ ?_
    cases er : fp env with
    | ex x q env1 =>
      simp only [er, PR.bind] at h
      exact fun w' Fs' dd x s' py => h w' Fs' dd (x.weak fun i hi => List.mem_append_left _ hi) s' py
    | bad => simp only [er, PR.bind] at h; exact h
    | ok p0 d0 env1 =>
      simp only [er, PR.bind] at h
      intro w1 Fs1 v v0 d00 F x1 s1 e1 e2 e3 o f r
      refine k2 w1 Fs1 σ env1 s1 _ ?_
      cases eb : fb env1 with
      | ex x q env2 =>
        simp only [eb, ER.toP] at h
        exact fun w' Fs' dd x s' py => h w' Fs' dd (x1.trans x) s' py
      | bad => simp only [eb, ER.toP] at h; exact h
      | ok di env2 =>
        simp only [eb, ER.toP] at h
        intro w2 Fs2 vy Fy x2 s2 oy fy py
        cases eq : fIx p0 d0 di env2 with
        | ex x q env' => exact (fIx_no eq).elim
        | bad => rw [eq] at h; exact h.elim
        | ok p' d' env' =>
          obtain ⟨kk, ow, xs, j, ed, ej, ex, ep, ee⟩ := fIx_inv eq
          rw [eq] at h
          subst ed ep ee
          have eF : Fs2 i = Fs1 i := funext fun a => propext (x2.same i hi a)
          obtain ⟨o2, _⟩ := x2.hold (R := [i]) o (fun a ha => .inl ⟨i, by simp, f a ha⟩) (fun k hk => by simp at hk; subst hk; exact hi)
          obtain ⟨a, vs, v1, F1, ev, ra, hl, e4, o3, s3, r3⟩ := o2.child s2.lp s2.l0 ex
          subst ev
          refine rIx_of s2.lp s2.l0 ra hl e4 ej (oy.view s2.l0) ?_
          have e1' : env'[i]? = some (some d00) := by rw [hb.fr _ _ _ eb i hi]; exact e1
          refine h w2 Fs2 v1 v0 d00 F1 (x1.trans x2) s2 e1' e2 (by rw [getP_snoc, e3]; show (match xs[j]? with | some x => getP [] x | none => none) = _; rw [ex]; rfl) o3 (fun b hb => by rw [eF]; exact f b (s3 b hb)) fun hp => ?_
          rw [ownP_snoc e3] at hp
          obtain ⟨hp1, hp2⟩ := Bool.and_eq_true_iff.mp hp
          have eo : ow = .own := by
            have z : (ownF ow && match xs[j]? with | some x => ownP [] x | none => false) = true := hp2
            cases ow with
            | own => rfl
            | _ => simp [ownF] at z
          have rl := (r hp1).later x2.hp x2.h0 fun a ha => (x2.keep i hi a ha).1
          rw [eF]
          exact rl.snoc f e3 (r3 eo) s3
end
end DL
set_option Elab.async false
set_option linter.all false
set_option maxRecDepth 100000
set_option maxHeartbeats 4000000
namespace DL
open PySem PySem.Spec PyProof.Rows L2

/-! ### new objects -/
/-- nothing old is touched -/
structure Grow (w w' : Wd) : Prop where
  hp : Le w.HP w'.HP
  h0 : Le w.H0 w'.H0
  l : ∀ a o, w.H a = some o → w'.H a = some o
  n : ∀ a, w'.H0 a ≠ none → w.H0 a ≠ none ∨ w.H a = none
  pn : ∀ a, w'.HP a ≠ none → w.HP a ≠ none ∨ w.H a = none
  lp : Le w'.HP w'.H0
  l0 : Le w'.H0 w'.H
section
variable {g : G} {w w' w'' : Wd} {Fs Fs' Fs'' : Fps} {σ σ' : St} {env env' : Env} {T T' R : List Nat} {d : D} {v : V} {F : Addr → Prop}
theorem Grow.refl (lp : Le w.HP w.H0) (l0 : Le w.H0 w.H) : Grow w w := ⟨Le.refl _, Le.refl _, fun _ _ h => h, fun _ h => .inl h, fun _ h => .inl h, lp, l0⟩
theorem Grow.trans (h : Grow w w') (k : Grow w' w'') : Grow w w'' where
  hp := h.hp.trans k.hp
  h0 := h.h0.trans k.h0
  l := fun a o e => k.l a o (h.l a o e)
  n := fun a q => by
    rcases k.n a q with z | z
    · exact h.n a z
    · refine .inr ?_
      cases e : w.H a with
      | none => rfl
      | some o => rw [h.l a o e] at z; cases z
  pn := fun a q => by
    rcases k.pn a q with z | z
    · exact h.pn a z
    · refine .inr ?_
      cases e : w.H a with
      | none => rfl
      | some o => rw [h.l a o e] at z; cases z
  lp := k.lp
  l0 := k.l0
theorem Grow.ow (h : Grow w w') (q : Ow g.c g.X.K w.HP w.H0 w.H d v F) : Ow g.c g.X.K w'.HP w'.H0 w'.H d v F := by
  refine Ow.keep h.hp h.h0 d (fun b hb => ?_) q
  obtain ⟨⟨o, e⟩, z⟩ := q.held d b hb
  refine ⟨by rw [e]; exact h.l b o e, ?_⟩
  cases x : w'.H0 b with
  | none => rfl
  | some u =>
    rcases h.n b (by rw [x]; simp) with t | t
    · exact absurd z t
    · rw [e] at t; cases t
theorem Sr.grow (s : Sr g w Fs σ env) (h : Grow w w') : Sr g w' Fs σ env ∧ Ext [] w Fs w' Fs := by
  refine ⟨⟨h.lp, h.l0, s.len, fun i d e => ?_, s.non, s.dis, s.hx.w h.h0⟩, ⟨h.hp, h.h0, fun a o e _ => h.l a o e, fun i _ a q => ?_, fun _ _ _ => Iff.rfl, fun i a q => .inl q, fun a q => ?_, fun a q => ?_, fun a q => (h.pn a q).imp id .inr⟩⟩
  · obtain ⟨v, e1, q⟩ := s.slot i d e
    exact ⟨v, e1, h.ow (g := g) q⟩
  · obtain ⟨⟨o, e⟩, z⟩ := s.held q
    refine ⟨by rw [e]; exact h.l a o e, ?_⟩
    cases x : w'.H0 a with
    | none => rfl
    | some u =>
      rcases h.n a (by rw [x]; simp) with t | t
      · exact absurd z t
      · rw [e] at t; cases t
  · rcases h.n a q with z | z
    · exact .inl z
    · exact .inr (.inr z)
  · cases e : w.H a with
    | none => exact absurd e q
    | some o => rw [h.l a o e]; simp
theorem Grow.put {p : Addr} {o : HO} (lp : Le w.HP w.H0) (l0 : Le w.H0 w.H) (n : w.H p = none) : Grow w (w.put p o) :=
  ⟨Le.refl _, Le.refl _, fun a u e => by
    show upd w.H p o a = _
    rw [upd_ne (ne_of_none e n)]; exact e, fun a q => .inl q, fun a q => .inl q, lp, l0.put n⟩
/-- a new object that is frozen at once, for good -/
def Wd.putP (w : Wd) (p : Addr) (o : HO) : Wd := ⟨upd w.HP p o, upd w.H0 p o, upd w.H p o⟩
def Wd.put0 (w : Wd) (p : Addr) (o : HO) : Wd := ⟨w.HP, upd w.H0 p o, upd w.H p o⟩
theorem Le.none {H H' : Hp} (l : Le H H') {p : Addr} (n : H' p = none) : H p = none := by
  cases e : H p with
  | none => rfl
  | some o =>
    obtain ⟨o', e', _⟩ := l p o e
    rw [n] at e'; cases e'
theorem Le.upd2 {H H' : Hp} (l : Le H H') (p : Addr) (o : HO) : Le (upd H p o) (upd H' p o) := fun a u e => by
  by_cases h : a = p
  · subst h
    rw [upd_same] at e; cases e
    exact ⟨o, upd_same, rfl⟩
  · rw [upd_ne h] at e
    obtain ⟨o', e', c⟩ := l a u e
    exact ⟨o', by rw [upd_ne h]; exact e', c⟩
theorem Grow.putP {p : Addr} {o : HO} (lp : Le w.HP w.H0) (l0 : Le w.H0 w.H) (n : w.H p = none) : Grow w (w.putP p o) := by
  have n0 := l0.none n
  have np := lp.none n0
  refine ⟨(Le.refl _).put np, (Le.refl _).put n0, fun a u e => ?_, fun a q => ?_, fun a q => ?_, lp.upd2 p o, l0.upd2 p o⟩
  · show upd w.H p o a = _
    rw [upd_ne (ne_of_none e n)]; exact e
  · by_cases h : a = p
    · exact .inr (h ▸ n)
    · refine .inl ?_
      have z : upd w.H0 p o a ≠ none := q
      rw [upd_ne h] at z; exact z
  · by_cases h : a = p
    · exact .inr (h ▸ n)
    · refine .inl ?_
      have z : upd w.HP p o a ≠ none := q
      rw [upd_ne h] at z; exact z
theorem Grow.put0 {p : Addr} {o : HO} (lp : Le w.HP w.H0) (l0 : Le w.H0 w.H) (n : w.H p = none) : Grow w (w.put0 p o) := by
  have n0 := l0.none n
  refine ⟨Le.refl _, (Le.refl _).put n0, fun a u e => ?_, fun a q => ?_, fun a q => .inl q, lp.put n0, l0.upd2 p o⟩
  · show upd w.H p o a = _
    rw [upd_ne (ne_of_none e n)]; exact e
  · by_cases h : a = p
    · exact .inr (h ▸ n)
    · refine .inl ?_
      have z : upd w.H0 p o a ≠ none := q
      rw [upd_ne h] at z; exact z
end

/-! ### expressions: constants, names, places as values -/
def eConst (d : D) (env : Env) : ER := .ok d env
def eMove (i : Nat) (env : Env) : ER := match env[i]? with
  | some (some d) => .ok d (env.set i none)
  | _ => .bad
def eLook (r : PR) : ER := r.toE fun _ d env => .ok d env
def eRo (r : PR) : ER := r.toE fun _ d env => if isRo d = true then .ok d env else .bad
section
variable {g : G} {e a b : Expr} {i j cc : Nat} {T Ta Tb R Ra Rb : List Nat} {f fa fb : Env → ER} {fp : Env → PR} {pos : Pos}
theorem pex_const {d : D} {v : V} (h : PE g.X e (tC v)) (a : AV d v) : PEx g e [] (eConst d) := by
  refine ⟨fun env d' env' h k _ => ?_, _, h, fun w Fs σ env s Q h => ?_⟩
  · cases h; rfl
  · exact h w Fs v (fun _ => False) (s.ext0 _) s a.ow (fun _ z => z.elim) fun _ z => z.elim
theorem pex_int {n : Int} {k : Nat} : PEx g (.Constant (.int n) k pos) [] (eConst (.int n)) := pex_const pe_int rfl
theorem pex_bl {n : Bool} {k : Nat} : PEx g (.Constant (.bool n) k pos) [] (eConst (.bl n)) := pex_const pe_bl rfl
theorem pex_non {k : Nat} : PEx g (.Constant .none k pos) [] (eConst .non) := pex_const pe_non rfl
theorem pex_str {x : Str} {k : Nat} : PEx g (.Constant (.str x) k pos) [] (eConst (.str x)) := pex_const pe_str rfl
theorem Sr.kill (s : Sr g w Fs σ env) (i : Nat) : Sr g w (fun k a => k ≠ i ∧ Fs k a) σ (env.set i none) := by
  refine ⟨s.lp, s.l0, by rw [List.length_set]; exact s.len, fun k d e => ?_, fun k n a z => ?_, fun k m a y z => s.dis k m a y.2 z.2, s.hx⟩
  · by_cases h : k = i
    · subst h
      rw [List.getElem?_set] at e
      simp at e
    · rw [List.getElem?_set_ne (Ne.symm h)] at e
      obtain ⟨v, e1, q⟩ := s.slot k d e
      refine ⟨v, e1, ?_⟩
      have : (fun a => k ≠ i ∧ Fs k a) = Fs k := funext fun a => propext ⟨fun z => z.2, fun z => ⟨h, z⟩⟩
      show Ow _ _ _ _ _ d v (fun a => k ≠ i ∧ Fs k a)
      rw [this]; exact q
  · refine s.non k (fun d e => n d ?_) a z.2
    rw [List.getElem?_set_ne (Ne.symm z.1)]; exact e
theorem pex_move {x : Str} (hN : g.X.N[i]? = some x) (hv : Vis g.X.env.scope x) (hd : (x == ("__debug__" : Str)) = false := by decide) (hcd : (x == ("__classdict__" : Str)) = false := by decide) : PEx g (.Name x pos) [i] (eMove i) := by
  refine ⟨fun env d env' h k hk => ?_, _, pe_var hN hv hd hcd, fun w Fs σ env s Q h => ?_⟩
  · unfold eMove at h
    split at h
    · cases h
      rw [List.getElem?_set_ne]
      intro z; subst z; simp at hk
    · cases h
  · unfold eMove at h
    split at h
    · rename_i d hd
      obtain ⟨v, e1, q⟩ := s.slot i d hd
      refine ⟨v, e1, h w (fun k a => k ≠ i ∧ Fs k a) v (Fs i) ⟨Le.refl _, Le.refl _, fun _ _ h _ => h, fun k _ a z => ⟨rfl, (s.held z).2⟩, fun k hk a => ⟨fun z => z.2, fun z => ⟨by simpa using hk, z⟩⟩, fun k a z => .inl z.2, fun _ z => .inl z, fun _ z => z, fun _ z => .inl z⟩ (s.kill i) q (fun a ha k z => z.1 (s.dis k i a z.2 ha)) fun a ha => .inr ⟨i, by simp, ha⟩⟩
    · exact h.elim
theorem pox_path (h : PPx g e i T fp) : POx g e T [i] (fun env => eLook (fp env)) := by
  obtain ⟨t, h1, h2⟩ := h.ex
  refine ⟨fun env d env' q k hk => ?_, t, h1, fun w Fs σ env s Q q => h2 w Fs σ env s Q ?_⟩
  · cases er : fp env with
    | ok p d0 env1 => simp only [eLook, er, PR.toE] at q; cases q; exact h.fr env p d env' er k hk
    | ex x q' env1 => simp only [eLook, er, PR.toE] at q; cases q
    | bad => simp only [eLook, er, PR.toE] at q; cases q
  · cases er : fp env with
    | ex x q' env1 => simp only [eLook, er, PR.toE] at q; exact q
    | bad => simp only [eLook, er, PR.toE] at q; exact q
    | ok p d0 env1 =>
      simp only [eLook, er, PR.toE] at q
      intro w' Fs' v v0 d00 F x s' e1 e2 e3 o f r
      refine q w' Fs' v F x s' o (fun a ha => .inl ⟨i, by simp, f a ha⟩) fun a ha => ?_
      rcases x.fs i a (f a ha) with z | z | ⟨j, _, z⟩
      · exact .inr ⟨i, z⟩
      · exact .inl z
      · exact .inr ⟨j, z⟩
theorem pex_ro (h : PPx g e i T fp) : PEx g e T (fun env => eRo (fp env)) := by
  obtain ⟨t, h1, h2⟩ := h.ex
  refine ⟨fun env d env' q k hk => ?_, t, h1, fun w Fs σ env s Q q => h2 w Fs σ env s Q ?_⟩
  · cases er : fp env with
    | ok p d0 env1 =>
      simp only [eRo, er, PR.toE] at q
      split at q
      · cases q; exact h.fr env p d env' er k hk
      · cases q
    | ex x q' env1 => simp only [eRo, er, PR.toE] at q; cases q
    | bad => simp only [eRo, er, PR.toE] at q; cases q
  · cases er : fp env with
    | ex x q' env1 => simp only [eRo, er, PR.toE] at q; exact q
    | bad => simp only [eRo, er, PR.toE] at q; exact q
    | ok p d0 env1 =>
      simp only [eRo, er, PR.toE] at q
      intro w' Fs' v v0 d00 F x s' e1 e2 e3 o f r
      split at q
      · rename_i hr
        obtain ⟨_, n⟩ := o.ro hr
        exact q w' Fs' v F x s' o (fun a ha => absurd ha (n a)) fun a ha => absurd ha (n a)
      · exact q.elim
/-- a place is frozen where it stands, and handed on -/
noncomputable def frzH (H H0 : Hp) (F : Addr → Prop) : Hp := fun a => open Classical in if F a then H a else H0 a
theorem frzH_in {H H0 : Hp} {F : Addr → Prop} {a : Addr} (h : F a) : frzH H H0 F a = H a := by unfold frzH; rw [if_pos h]
theorem frzH_out {H H0 : Hp} {F : Addr → Prop} {a : Addr} (h : ¬ F a) : frzH H H0 F a = H0 a := by unfold frzH; rw [if_neg h]
def setS (i : Nat) (p : List Nat) (e : D) (env : Env) : Env := match env[i]? with
  | some (some d0) => env.set i (some (setP p e d0))
  | _ => env
def eShr (i : Nat) (r : PR) : ER := r.toE fun p d env => if isRo d = true then .ok d env else match env[i]? with
  | some (some d0) => if ownP p d0 = true then .ok (frz d) (env.set i (some (setP p (frz d) d0))) else .bad
  | _ => .bad
theorem ownP_frz_uns (d : D) : isUns (frz d) = isUns d := isUns_frz d
/-- a slot's datum is put in place anew -/
theorem Sr.re (s : Sr g w Fs σ env) {w2 : Wd} {F3 : Addr → Prop} {d0 d3 : D} {v0 : V} (e1 : env[i]? = some (some d0)) (e2 : σ[i]? = some (some v0)) (lp2 : Le w2.HP w2.H0) (l02 : Le w2.H0 w2.H) (hp : Le w.HP w2.HP) (h0 : Le w.H0 w2.H0)
    (k : ∀ j, j ≠ i → ∀ a, Fs j a → w2.H a = w.H a ∧ w2.H0 a = none) (o3 : Ow g.c g.X.K w2.HP w2.H0 w2.H d3 v0 F3) (n : ∀ a, F3 a → ∀ j, j ≠ i → ¬ Fs j a) : Sr g w2 (fun j a => (j = i ∧ F3 a) ∨ (j ≠ i ∧ Fs j a)) σ (env.set i (some d3)) := by
  have hi : i < env.length := (List.getElem?_eq_some_iff.mp e1).1
  refine ⟨lp2, l02, by rw [List.length_set]; exact s.len, fun j d e => ?_, fun j q a z => ?_, fun j m a y z => ?_, s.hx.w h0⟩
  · by_cases h : j = i
    · subst h
      rw [List.getElem?_set_self hi] at e
      cases e
      refine ⟨v0, e2, ?_⟩
      have : (fun a => (j = j ∧ F3 a) ∨ (j ≠ j ∧ Fs j a)) = F3 := funext fun a => propext ⟨fun z => z.elim (fun y => y.2) fun y => absurd rfl y.1, fun z => .inl ⟨rfl, z⟩⟩
      show Ow _ _ _ _ _ _ _ (fun a => (j = j ∧ F3 a) ∨ (j ≠ j ∧ Fs j a))
      rw [this]; exact o3
    · rw [List.getElem?_set_ne (Ne.symm h)] at e
      obtain ⟨v, e3, q⟩ := s.slot j d e
      refine ⟨v, e3, ?_⟩
      have : (fun a => (j = i ∧ F3 a) ∨ (j ≠ i ∧ Fs j a)) = Fs j := funext fun a => propext ⟨fun z => z.elim (fun y => absurd y.1 h) fun y => y.2, fun z => .inr ⟨h, z⟩⟩
      show Ow _ _ _ _ _ _ _ (fun a => (j = i ∧ F3 a) ∨ (j ≠ i ∧ Fs j a))
      rw [this]
      exact Ow.keep hp h0 d (fun b hb => k j h b hb) q
  · rcases z with ⟨h, z⟩ | ⟨h, z⟩
    · subst h
      exact q d3 (List.getElem?_set_self hi)
    · exact s.non j (fun d e => q d (by rw [List.getElem?_set_ne (Ne.symm h)]; exact e)) a z
  · rcases y with ⟨h1, y⟩ | ⟨h1, y⟩ <;> rcases z with ⟨h2, z⟩ | ⟨h2, z⟩
    · rw [h1, h2]
    · exact absurd z (n a y m h2)
    · exact absurd y (n a z j h1)
    · exact s.dis j m a y z
theorem pex_shr (h : PPx g e i T fp) : PEx g e (T ++ [i]) (fun env => eShr i (fp env)) := by
  obtain ⟨t, h1, h2⟩ := h.ex
  refine ⟨fun env d env' q k hk => ?_, t, h1, fun w Fs σ env s Q q => h2 w Fs σ env s Q ?_⟩
  · have k1 : k ∉ T := fun z => hk (List.mem_append_left _ z)
    have k2 : k ≠ i := fun z => hk (by simp [z])
    cases er : fp env with
    | ok p d0 env1 =>
      simp only [eShr, er, PR.toE] at q
      split at q
      · cases q; exact h.fr env p d env' er k k1
      · split at q
        · split at q
          · cases q
            rw [List.getElem?_set_ne (Ne.symm k2)]
            exact h.fr env p d0 env1 er k k1
          · cases q
        · cases q
    | ex x q' env1 => simp only [eShr, er, PR.toE] at q; cases q
    | bad => simp only [eShr, er, PR.toE] at q; cases q
  · cases er : fp env with
    | ex x q' env1 =>
      simp only [eShr, er, PR.toE] at q
      exact fun w' Fs' dd x s' py => q w' Fs' dd (x.weak fun i hi => List.mem_append_left _ hi) s' py
    | bad => simp only [eShr, er, PR.toE] at q; exact q
    | ok p d0 env1 =>
      simp only [eShr, er, PR.toE] at q
      intro w' Fs' v v0 d00 F x s' e1 e2 e3 o f r
      split at q
      · rename_i hr
        obtain ⟨_, n⟩ := o.ro hr
        exact q w' Fs' v F (x.weak fun i hi => List.mem_append_left _ hi) s' o (fun a ha => absurd ha (n a)) fun a ha => absurd ha (n a)
      · rw [e1] at q
        dsimp only at q
        split at q
        · rename_i hr hp
          have fin : ∀ {a : Addr}, frzH w'.H w'.H0 F a ≠ none → w'.H0 a ≠ none ∨ F a := fun {a} z => by
            by_cases y : F a
            · exact .inr y
            · rw [frzH_out y] at z; exact .inl z
          have l1 : Le w'.H0 (frzH w'.H w'.H0 F) := fun a u eu => by
            have y : ¬ F a := fun y => by
              have := (o.held d0 a y).2
              rw [eu] at this; cases this
            exact ⟨u, by rw [frzH_out y]; exact eu, rfl⟩
          have l2 : Le (frzH w'.H w'.H0 F) w'.H := fun a u eu => by
            by_cases y : F a
            · rw [frzH_in y] at eu; exact ⟨u, eu, rfl⟩
            · rw [frzH_out y] at eu; exact s'.l0 a u eu
          have oro : Ro g.c g.X.K w'.HP (frzH w'.H w'.H0 F) (frz d0) v := Ow.freeze (Le.refl _) l1 d0 (fun b hb => frzH_in hb) o
          obtain ⟨F3, o3, f3⟩ := r hp ⟨w'.HP, frzH w'.H w'.H0 F, w'.H⟩ (frz d0) (fun _ => False) (Le.refl _) l1 (fun a ha na => ⟨rfl, by
            show frzH w'.H w'.H0 F a = none
            rw [frzH_out na]; exact (s'.held ha).2⟩) (Ow.of_ro oro fun _ => id) (isUns_frz d0) (fun _ z => z.elim)
          have f3' : ∀ a, F3 a → Fs' i a := fun a ha => by
            rcases (f3 a).mp ha with y | y
            · exact y.1
            · exact y.elim
          have out : ∀ {a : Addr}, ¬ F a → w'.H0 a = none → frzH w'.H w'.H0 F a = none := fun na z => by rw [frzH_out na]; exact z
          have s2 := s'.re (w2 := ⟨w'.HP, frzH w'.H w'.H0 F, w'.H⟩) (d3 := setP p (frz d0) d00) e1 e2 (s'.lp.trans l1) l2 (Le.refl _) l1
            (fun j hj a ha => ⟨rfl, out (fun y => hj (s'.dis j i a ha (f a y))) (s'.held ha).2⟩) o3 (fun a ha j hj z => hj (s'.dis j i a z (f3' a ha)))
          refine q ⟨w'.HP, frzH w'.H w'.H0 F, w'.H⟩ _ v (fun _ => False) (x.trans (T' := [i]) ?_) s2 (Ow.of_ro oro fun _ => id) (fun _ z => z.elim) fun _ z => z.elim
          refine ⟨Le.refl _, l1, fun a o eo _ => eo, fun j hj a ha => ⟨rfl, out (fun y => hj (by simp [s'.dis j i a ha (f a y)])) (s'.held ha).2⟩, fun j hj a => ?_, fun j a z => ?_, fun a z => ?_, fun _ z => z, fun _ z => .inl z⟩
          · have hj : j ≠ i := by simpa using hj
            exact ⟨fun z => z.elim (fun y => absurd y.1 hj) fun y => y.2, fun z => .inr ⟨hj, z⟩⟩
          · rcases z with ⟨_, z⟩ | ⟨_, z⟩
            · exact .inr (.inr ⟨i, by simp, f3' a z⟩)
            · exact .inl z
          · rcases fin z with y | y
            · exact .inl y
            · exact .inr (.inl ⟨i, f a y⟩)
        · exact q.elim
end
end DL
set_option Elab.async false
set_option linter.all false
set_option maxRecDepth 100000
set_option maxHeartbeats 4000000
namespace DL
open PySem PySem.Spec PyProof.Rows L2

/-! ### two operands -/
section
variable {g : G} {e a b : Expr} {i j cc : Nat} {T Ta Tb R Ra Rb : List Nat} {f fa fb : Env → ER} {fp : Env → PR} {pos : Pos}
def Post2 (g : G) (Ta Tb Ra Rb : List Nat) (w : Wd) (Fs : Fps) (σ : St) (ra : ER) (fb : Env → ER) (P : D → D → Env → V → V → Wd → Fps → Prop) : Prop :=
  match ra with
  | .ok dx e1 => match fb e1 with
    | .ok dy e2 => ∀ w' Fs' vx vy Fx Fy, Ext (Ta ++ Tb) w Fs w' Fs' → Sr g w' Fs' σ e2 → Ow g.c g.X.K w'.HP w'.H0 w'.H dx vx Fx → Ow g.c g.X.K w'.HP w'.H0 w'.H dy vy Fy →
        (∀ a, Fx a → (∃ i ∈ Ra, Fs' i a) ∨ ∀ i, ¬ Fs' i a) → (∀ a, Fy a → (∃ i ∈ Rb, Fs' i a) ∨ ∀ i, ¬ Fs' i a) → P dx dy e2 vx vy w' Fs'
    | .ex x p e2 => XPost g (Ta ++ Tb) w Fs σ x p e2
    | .bad => False
  | .ex x p e1 => XPost g (Ta ++ Tb) w Fs σ x p e1
  | .bad => False
theorem XPost.weak {T T' : List Nat} {w : Wd} {Fs : Fps} {σ : St} {x : Nat} {p : Option D} {env : Env} (h : XPost g T' w Fs σ x p env) (hT : ∀ i ∈ T, i ∈ T') : XPost g T w Fs σ x p env :=
  fun w' Fs' dd x s' py => h w' Fs' dd (x.weak hT) s' py
theorem seq2 (ha : POx g a Ta Ra fa) (hb : POx g b Tb Rb fb) (hd : ∀ i ∈ Ra, i ∉ Tb) : ∃ t u, PE g.X a t ∧ PE g.X b u ∧ ∀ w Fs σ env, Sr g w Fs σ env → ∀ (Q : V → V → Hp → Prop),
    Post2 g Ta Tb Ra Rb w Fs σ (fa env) fb (fun _ _ _ vx vy w' _ => Q vx vy w'.H) → t σ w.H fun x H1 => u σ H1 fun y H2 => Q x y H2 := by
  obtain ⟨t, h1, h2⟩ := ha.ex
  obtain ⟨u, k1, k2⟩ := hb.ex
  refine ⟨t, u, h1, k1, fun w Fs σ env s Q h => h2 w Fs σ env s _ ?_⟩
  unfold Post2 at h
  cases er : fa env with
  | ex x p e1 => rw [er] at h; exact XPost.weak (T := Ta) (T' := Ta ++ Tb) h fun i hi => List.mem_append_left _ hi
  | bad => rw [er] at h; exact h
  | ok dx e1 =>
    simp only [er] at h
    intro w1 Fs1 vx Fx x1 s1 o1 n1 p1
    refine k2 w1 Fs1 σ e1 s1 _ ?_
    cases eb : fb e1 with
    | ex x p e2 =>
      simp only [eb] at h
      exact fun w' Fs' dd x s' py => h w' Fs' dd (x1.trans x) s' py
    | bad => simp only [eb] at h
    | ok dy e2 =>
      simp only [eb] at h
      intro w2 Fs2 vy Fy x2 s2 o2 n2 p2
      obtain ⟨o1', n1'⟩ := x2.hold o1 n1 hd
      exact h w2 Fs2 vx vy Fx Fy (x1.trans x2) s2 o1' o2 n1' n2
theorem frm2 {k : D → D → Env → ER} (ha : Frm Ta fa) (hb : Frm Tb fb) (hk : ∀ dx dy e2 d e3, k dx dy e2 = .ok d e3 → e3 = e2) : Frm (Ta ++ Tb) (fun env => (fa env).bind fun dx e1 => (fb e1).bind fun dy e2 => k dx dy e2) := by
  intro env d env' h i hi
  cases er : fa env with
  | ex x p e1 => simp only [er, ER.bind] at h; cases h
  | bad => simp only [er, ER.bind] at h; cases h
  | ok dx e1 =>
    simp only [er, ER.bind] at h
    cases eb : fb e1 with
    | ex x p e2 => simp only [eb] at h; cases h
    | bad => simp only [eb] at h; cases h
    | ok dy e2 =>
      simp only [eb] at h
      rw [hk _ _ _ _ _ h, hb _ _ _ eb i fun z => hi (List.mem_append_right _ z), ha _ _ _ er i fun z => hi (List.mem_append_left _ z)]
/-! ### operators -/
/-- an operation of two values, by data -/
def OpS (g : G) (r : R2) (h : D → D → Option D) : Prop := ∀ dx dy d, h dx dy = some d → ∀ (w : Wd) vx vy Fx Fy, Le w.HP w.H0 → Le w.H0 w.H → Ow g.c g.X.K w.HP w.H0 w.H dx vx Fx → Ow g.c g.X.K w.HP w.H0 w.H dy vy Fy →
  ∀ Q : VK, (∀ w' v F, Grow w w' → Ow g.c g.X.K w'.HP w'.H0 w'.H d v F → (∀ a, F a → w.H a = none) → Q v w'.H) → r vx vy w.H Q
def eOp2 (h : D → D → Option D) (fa fb : Env → ER) (env : Env) : ER := (fa env).bind fun dx e1 => (fb e1).bind fun dy e2 => ER.of (h dx dy) e2
theorem ER.of_ok {o : Option D} {env : Env} {d : D} {e : Env} (h : ER.of o env = .ok d e) : o = some d ∧ e = env := by
  cases o with
  | none => cases h
  | some x => cases h; exact ⟨rfl, rfl⟩
/-- behind an operation: the new objects are in no slot -/
theorem fin_new {w w1 w2 : Wd} {Fs Fs1 : Fps} {σ : St} {env1 : Env} {d : D} {v : V} {F : Addr → Prop} {Q : VK} {T : List Nat} (x : Ext T w Fs w1 Fs1) (s1 : Sr g w1 Fs1 σ env1) (gr : Grow w1 w2) (o : Ow g.c g.X.K w2.HP w2.H0 w2.H d v F) (n : ∀ a, F a → w1.H a = none)
    (h : EPost g T w Fs σ Q (.ok d env1)) : Q v w2.H := by
  obtain ⟨s2, x2⟩ := s1.grow gr
  refine h w2 Fs1 v F ((x.trans x2).weak fun i hi => by simpa using hi) s2 o (fun a ha i z => ?_) fun a ha => .inl ?_
  · obtain ⟨⟨u, e⟩, _⟩ := s1.held z
    rw [n a ha] at e; cases e
  · by_cases e : w.H a = none
    · exact e
    · exact absurd (n a ha) (x.dom a e)
theorem op2_run {r : R2} {h : D → D → Option D} (hop : OpS g r h) {w : Wd} {Fs : Fps} {σ : St} {env : Env} {Q : VK} (q : EPost g (Ta ++ Tb) w Fs σ Q (eOp2 h fa fb env)) :
    Post2 g Ta Tb Ra Rb w Fs σ (fa env) fb (fun _ _ _ vx vy w' _ => r vx vy w'.H Q) := by
  unfold Post2
  unfold eOp2 at q
  cases er : fa env with
  | ex x p e1 => simp only [er, ER.bind] at q; exact q
  | bad => simp only [er, ER.bind] at q; exact q
  | ok dx e1 =>
    simp only [er, ER.bind] at q
    cases eb : fb e1 with
    | ex x p e2 => simp only [eb] at q; simp only [eb]; exact q
    | bad => simp only [eb] at q; exact (show False from q).elim
    | ok dy e2 =>
      simp only [eb] at q
      simp only [eb]
      intro w' Fs' vx vy Fx Fy x s o1 o2 _ _
      cases eh : h dx dy with
      | none => rw [eh] at q; exact q.elim
      | some d =>
        rw [eh] at q
        exact hop dx dy d eh w' vx vy Fx Fy s.lp s.l0 o1 o2 Q fun w2 v F gr o n => fin_new x s gr o n q
theorem frm_op2 {h : D → D → Option D} (ha : Frm Ta fa) (hb : Frm Tb fb) : Frm (Ta ++ Tb) (eOp2 h fa fb) := frm2 ha hb fun _ _ _ _ _ q => (ER.of_ok q).2
theorem pex_bin {op : Operator} {r : R2} {h : D → D → Option D} (ho : OpR g.X (binaryOp op) r) (hop : OpS g r h) (ha : POx g a Ta Ra fa) (hb : POx g b Tb Rb fb) (hd : ∀ i ∈ Ra, i ∉ Tb) :
    PEx g (.BinOp a op b pos) (Ta ++ Tb) (eOp2 h fa fb) := by
  obtain ⟨t, u, h1, h2, k⟩ := seq2 ha hb hd
  exact ⟨frm_op2 ha.fr hb.fr, _, pe_op ho h1 h2, fun w Fs σ env s Q q => k w Fs σ env s (fun x y H => r x y H Q) (op2_run hop q)⟩
theorem pex_cmp {op : CmpOp} {r : R2} {h : D → D → Option D} (ho : OpR g.X (compareOp op) r) (hop : OpS g r h) (ha : POx g a Ta Ra fa) (hb : POx g b Tb Rb fb) (hd : ∀ i ∈ Ra, i ∉ Tb) (hm : behindInMarks op b = false) :
    PEx g (.Compare a [op] [b] pos) (Ta ++ Tb) (eOp2 h fa fb) := by
  obtain ⟨t, u, h1, h2, k⟩ := seq2 ha hb hd
  exact ⟨frm_op2 ha.fr hb.fr, _, pe_cmpR ho h1 h2 hm, fun w Fs σ env s Q q => k w Fs σ env s (fun x y H => r x y H Q) (op2_run hop q)⟩
/-! ### tests -/
def TPost (g : G) (T : List Nat) (w : Wd) (Fs : Fps) (σ : St) (Q : Bool → Hp → Prop) : ER → Prop
  | .ok d env' => match d with
    | .bl b => ∀ w' Fs', Ext T w Fs w' Fs' → Sr g w' Fs' σ env' → Q b w'.H
    | _ => False
  | .ex x p env' => XPost g T w Fs σ x p env'
  | .bad => False
structure PTx (g : G) (e : Expr) (T : List Nat) (f : Env → ER) : Prop where
  fr : Frm T f
  ex : ∃ t, PT g.X e t ∧ ∀ w Fs σ env, Sr g w Fs σ env → ∀ Q, TPost g T w Fs σ Q (f env) → t σ w.H Q
structure PWx (g : G) (e : Expr) (T : List Nat) (f : Env → ER) : Prop where
  fr : Frm T f
  ex : ∃ t, PW g.X e t ∧ ∀ w Fs σ env, Sr g w Fs σ env → ∀ Q, TPost g T w Fs σ Q (f env) → t σ w.H Q
theorem PWx.pt (h : PWx g e T f) : PTx g e T f := ⟨h.fr, let ⟨t, h1, h2⟩ := h.ex; ⟨t, h1.pt, h2⟩⟩
theorem TPost.toE {w : Wd} {Fs : Fps} {σ : St} {Q : Bool → Hp → Prop} {r : ER} (h : TPost g T w Fs σ Q r) : EPost g T w Fs σ (fun x H => ∃ k, x = .bl k ∧ Q k H) r := by
  cases r with
  | ex x p e => exact h
  | bad => exact h
  | ok d e =>
    cases d with
    | bl k =>
      intro w' Fs' v F x s o _ _
      exact ⟨k, o.1, h w' Fs' x s⟩
    | _ => exact h.elim
theorem ptx_cmp {op : CmpOp} {r : R2} {h : D → D → Option D} (ho : OpR g.X (compareOp op) r) (hop : OpS g r h) (ha : POx g a Ta Ra fa) (hb : POx g b Tb Rb fb) (hd : ∀ i ∈ Ra, i ∉ Tb) (hm : behindInMarks op b = false) :
    PTx g (.Compare a [op] [b] pos) (Ta ++ Tb) (eOp2 h fa fb) := by
  obtain ⟨t, u, h1, h2, k⟩ := seq2 ha hb hd
  refine ⟨frm_op2 ha.fr hb.fr, _, pt_cmpR ho h1 h2 hm, fun w Fs σ env s Q q => ?_⟩
  exact k w Fs σ env s (fun x y H => r x y H fun x' H' => ∃ k, x' = .bl k ∧ Q k H') (op2_run hop q.toE)
theorem ptx_val (h : PEx g e T f) (he : ∀ whole, isTrue e g.X.env whole = (do let v ← whole; standAt e.pos; holding [v] (truthy v)) := by intro _; rfl) : PTx g e T f := by
  obtain ⟨t, h1, h2⟩ := h.ex
  exact ⟨h.fr, _, pt_val h1 he, fun w Fs σ env s Q q => h2 w Fs σ env s _ q.toE⟩
/-- a < b < c, b asked once -/
def eChain (h h' : D → D → Option D) (fa fb fc : Env → ER) (env : Env) : ER := (fa env).bind fun dx e1 => (fb e1).bind fun dy e2 => match h dx dy with
  | some (.bl true) => (fc e2).bind fun dz e3 => ER.of (h' dy dz) e3
  | some (.bl false) => .ok (.bl false) e2
  | _ => .bad
/-- .. by two places, or constants, that stay -/
def BlS (g : G) (r : R2) (h : D → D → Option D) : Prop := ∀ dx dy d, h dx dy = some d → ∀ (w : Wd) vx vy Fx Fy, Le w.HP w.H0 → Le w.H0 w.H → Ow g.c g.X.K w.HP w.H0 w.H dx vx Fx → Ow g.c g.X.K w.HP w.H0 w.H dy vy Fy →
  ∃ k, d = .bl k ∧ ∀ Q : VK, Q (.bl k) w.H → r vx vy w.H Q
theorem BlS.op {r : R2} {h : D → D → Option D} (q : BlS g r h) : OpS g r h := by
  intro dx dy d eh w vx vy Fx Fy lp l0 o1 o2 Q hq
  obtain ⟨k, e, z⟩ := q dx dy d eh w vx vy Fx Fy lp l0 o1 o2
  subst e
  exact z Q (hq w (.bl k) (fun _ => False) (.refl lp l0) ⟨rfl, fun _ => id⟩ fun _ y => y.elim)
theorem chain_run {c : Expr} {Tc Rc : List Nat} {fc : Env → ER} {r r' : R2} {h h' : D → D → Option D} (hr : BlS g r h) (hr' : BlS g r' h') (ha : POx g a Ta Ra fa) (hb : POx g b Tb Rb fb) (hc : POx g c Tc Rc fc) (hd : ∀ i ∈ Ra, i ∉ Tb) (hd2 : ∀ i ∈ Rb, i ∉ Tc) :
    ∃ ta tb tc, PE g.X a ta ∧ PE g.X b tb ∧ PE g.X c tc ∧ ∀ w Fs σ env, Sr g w Fs σ env → ∀ Q, EPost g (Ta ++ Tb ++ Tc) w Fs σ Q (eChain h h' fa fb fc env) → tChain r r' ta tb tc σ w.H Q := by
  obtain ⟨t, u, h1, h2, k⟩ := seq2 ha hb hd
  obtain ⟨tc, k1, k2⟩ := hc.ex
  refine ⟨t, u, tc, h1, h2, k1, fun w Fs σ env s Q q => ?_⟩
  refine k w Fs σ env s (fun x y H2 => r x y H2 fun z H3 => ∃ k, z = .bl k ∧ if k = true then tc σ H3 fun zz H4 => r' y zz H4 Q else Q (.bl false) H3) ?_
  unfold Post2
  unfold eChain at q
  cases er : fa env with
  | ex x p e1 => simp only [er, ER.bind] at q; exact q.weak fun i hi => List.mem_append_left _ hi
  | bad => simp only [er, ER.bind] at q; exact q
  | ok dx e1 =>
    simp only [er, ER.bind] at q
    cases eb : fb e1 with
    | ex x p e2 => simp only [eb] at q; simp only [eb]; exact q.weak fun i hi => List.mem_append_left _ hi
    | bad => simp only [eb] at q; exact (show False from q).elim
    | ok dy e2 =>
      simp only [eb] at q
      simp only [eb]
      intro w' Fs' vx vy Fx Fy x s' o1 o2 n1 n2
      cases eh : h dx dy with
      | none => rw [eh] at q; exact q.elim
      | some d =>
        obtain ⟨kk, ed, z⟩ := hr dx dy d eh w' vx vy Fx Fy s'.lp s'.l0 o1 o2
        subst ed
        rw [eh] at q
        refine z _ ⟨kk, rfl, ?_⟩
        cases kk with
        | false =>
          rw [if_neg (by simp)]
          exact q w' Fs' (.bl false) (fun _ => False) (x.weak fun i hi => List.mem_append_left _ hi) s' ⟨rfl, fun _ => id⟩ (fun _ z => z.elim) fun _ z => z.elim
        | true =>
          rw [if_pos rfl]
          dsimp only at q
          refine k2 w' Fs' σ e2 s' _ ?_
          cases ec : fc e2 with
          | ex xx p e3 =>
            simp only [ec, ER.bind] at q
            exact fun w'' Fs'' dd x2 s2 py => q w'' Fs'' dd (x.trans x2) s2 py
          | bad => simp only [ec, ER.bind] at q; exact (show False from q).elim
          | ok dz e3 =>
            simp only [ec, ER.bind] at q
            intro w3 Fs3 vz Fz x3 s3 o3 n3 p3
            obtain ⟨o2', _⟩ := x3.hold o2 n2 hd2
            cases eh2 : h' dy dz with
            | none => rw [eh2] at q; exact q.elim
            | some d2 =>
              rw [eh2] at q
              obtain ⟨k2, ed2, z2⟩ := hr' dy dz d2 eh2 w3 vy vz Fy Fz s3.lp s3.l0 o2' o3
              subst ed2
              exact z2 Q (q w3 Fs3 (.bl k2) (fun _ => False) (x.trans x3) s3 ⟨rfl, fun _ => id⟩ (fun _ z => z.elim) fun _ z => z.elim)
theorem frm_chain {Tc : List Nat} {fc : Env → ER} {h h' : D → D → Option D} (ha : Frm Ta fa) (hb : Frm Tb fb) (hc : Frm Tc fc) : Frm (Ta ++ Tb ++ Tc) (eChain h h' fa fb fc) := by
  intro env d env' q i hi
  have i1 : i ∉ Ta := fun z => hi (List.mem_append_left _ (List.mem_append_left _ z))
  have i2 : i ∉ Tb := fun z => hi (List.mem_append_left _ (List.mem_append_right _ z))
  have i3 : i ∉ Tc := fun z => hi (List.mem_append_right _ z)
  unfold eChain at q
  cases er : fa env with
  | ex x p e1 => simp only [er, ER.bind] at q; cases q
  | bad => simp only [er, ER.bind] at q; cases q
  | ok dx e1 =>
    simp only [er, ER.bind] at q
    cases eb : fb e1 with
    | ex x p e2 => simp only [eb] at q; cases q
    | bad => simp only [eb] at q; cases q
    | ok dy e2 =>
      simp only [eb] at q
      have e21 : e2[i]? = env[i]? := (hb _ _ _ eb i i2).trans (ha _ _ _ er i i1)
      split at q
      · cases ec : fc e2 with
        | ex x p e3 => simp only [ec] at q; cases q
        | bad => simp only [ec] at q; cases q
        | ok dz e3 =>
          simp only [ec] at q
          rw [(ER.of_ok q).2, hc _ _ _ ec i i3, e21]
      · cases q; exact e21
      · cases q
theorem pex_chain {c : Expr} {Tc Rc : List Nat} {fc : Env → ER} {op op' : CmpOp} {r r' : R2} {h h' : D → D → Option D} (ho : OpR g.X (compareOp op) r) (ho' : OpR g.X (compareOp op') r') (hr : BlS g r h) (hr' : BlS g r' h') (ha : POx g a Ta Ra fa) (hb : POx g b Tb Rb fb) (hc : POx g c Tc Rc fc)
    (hd : ∀ i ∈ Ra, i ∉ Tb) (hd2 : ∀ i ∈ Rb, i ∉ Tc) (hm : lastMarks [op, op'] [b, c] = false := by with_unfolding_all rfl) : PEx g (.Compare a [op, op'] [b, c] pos) (Ta ++ Tb ++ Tc) (eChain h h' fa fb fc) := by
  obtain ⟨ta, tb, tc, h1, h2, h3, k⟩ := chain_run hr hr' ha hb hc hd hd2
  exact ⟨frm_chain ha.fr hb.fr hc.fr, _, pe_chain ho ho' h1 h2 h3 hm, k⟩
theorem ptx_chain {c : Expr} {Tc Rc : List Nat} {fc : Env → ER} {op op' : CmpOp} {r r' : R2} {h h' : D → D → Option D} (ho : OpR g.X (compareOp op) r) (ho' : OpR g.X (compareOp op') r') (hr : BlS g r h) (hr' : BlS g r' h') (ha : POx g a Ta Ra fa) (hb : POx g b Tb Rb fb) (hc : POx g c Tc Rc fc)
    (hd : ∀ i ∈ Ra, i ∉ Tb) (hd2 : ∀ i ∈ Rb, i ∉ Tc) (hm : lastMarks [op, op'] [b, c] = false := by with_unfolding_all rfl) : PTx g (.Compare a [op, op'] [b, c] pos) (Ta ++ Tb ++ Tc) (eChain h h' fa fb fc) := by
  obtain ⟨ta, tb, tc, h1, h2, h3, k⟩ := chain_run hr hr' ha hb hc hd hd2
  exact ⟨frm_chain ha.fr hb.fr hc.fr, _, pt_chain ho ho' h1 h2 h3 hm, fun w Fs σ env s Q q => k w Fs σ env s _ q.toE⟩
end
end DL
set_option Elab.async false
set_option linter.all false
set_option maxRecDepth 100000
set_option maxHeartbeats 4000000
namespace DL
open PySem PySem.Spec PyProof.Rows L2

/-! ### and, or, not, if .. else -/
def eAnd (fa fb : Env → ER) (env : Env) : ER := (fa env).bind fun d e1 => match d with
  | .bl true => fb e1
  | .bl false => .ok (.bl false) e1
  | _ => .bad
def eOr (fa fb : Env → ER) (env : Env) : ER := (fa env).bind fun d e1 => match d with
  | .bl false => fb e1
  | .bl true => .ok (.bl true) e1
  | _ => .bad
def eNot (fa : Env → ER) (env : Env) : ER := (fa env).bind fun d e1 => match d with
  | .bl b => .ok (.bl (!b)) e1
  | _ => .bad
def eIf (fc fa fb : Env → ER) (env : Env) : ER := (fc env).bind fun d e1 => match d with
  | .bl b => if b = true then fa e1 else fb e1
  | _ => .bad
section
variable {g : G} {e a b c : Expr} {i j cc : Nat} {T Ta Tb Tc R Ra Rb : List Nat} {f fa fb fc : Env → ER} {fp : Env → PR} {pos : Pos} {rest : List Expr}
theorem frm_and (ha : Frm Ta fa) (hb : Frm Tb fb) : Frm (Ta ++ Tb) (eAnd fa fb) := by
  intro env d env' q i hi
  have i1 : i ∉ Ta := fun z => hi (List.mem_append_left _ z)
  have i2 : i ∉ Tb := fun z => hi (List.mem_append_right _ z)
  unfold eAnd at q
  cases er : fa env with
  | ex x p e1 => simp only [er, ER.bind] at q; cases q
  | bad => simp only [er, ER.bind] at q; cases q
  | ok dx e1 =>
    simp only [er, ER.bind] at q
    split at q
    · exact (hb _ _ _ q i i2).trans (ha _ _ _ er i i1)
    · cases q; exact ha _ _ _ er i i1
    · cases q
theorem frm_or (ha : Frm Ta fa) (hb : Frm Tb fb) : Frm (Ta ++ Tb) (eOr fa fb) := by
  intro env d env' q i hi
  have i1 : i ∉ Ta := fun z => hi (List.mem_append_left _ z)
  have i2 : i ∉ Tb := fun z => hi (List.mem_append_right _ z)
  unfold eOr at q
  cases er : fa env with
  | ex x p e1 => simp only [er, ER.bind] at q; cases q
  | bad => simp only [er, ER.bind] at q; cases q
  | ok dx e1 =>
    simp only [er, ER.bind] at q
    split at q
    · exact (hb _ _ _ q i i2).trans (ha _ _ _ er i i1)
    · cases q; exact ha _ _ _ er i i1
    · cases q
theorem frm_not (ha : Frm Ta fa) : Frm Ta (eNot fa) := by
  intro env d env' q i hi
  unfold eNot at q
  cases er : fa env with
  | ex x p e1 => simp only [er, ER.bind] at q; cases q
  | bad => simp only [er, ER.bind] at q; cases q
  | ok dx e1 =>
    simp only [er, ER.bind] at q
    split at q
    · cases q; exact ha _ _ _ er i hi
    · cases q
theorem frm_if (hc : Frm Tc fc) (ha : Frm Ta fa) (hb : Frm Tb fb) : Frm (Tc ++ (Ta ++ Tb)) (eIf fc fa fb) := by
  intro env d env' q i hi
  have i0 : i ∉ Tc := fun z => hi (List.mem_append_left _ z)
  have i1 : i ∉ Ta := fun z => hi (List.mem_append_right _ (List.mem_append_left _ z))
  have i2 : i ∉ Tb := fun z => hi (List.mem_append_right _ (List.mem_append_right _ z))
  unfold eIf at q
  cases er : fc env with
  | ex x p e1 => simp only [er, ER.bind] at q; cases q
  | bad => simp only [er, ER.bind] at q; cases q
  | ok dx e1 =>
    simp only [er, ER.bind] at q
    split at q
    · split at q
      · exact (ha _ _ _ q i i1).trans (hc _ _ _ er i i0)
      · exact (hb _ _ _ q i i2).trans (hc _ _ _ er i i0)
    · cases q
theorem TPost.after {w w' : Wd} {Fs Fs' : Fps} {σ : St} {Q : Bool → Hp → Prop} {r : ER} (x : Ext Ta w Fs w' Fs') (h : TPost g (Ta ++ Tb) w Fs σ Q r) : TPost g Tb w' Fs' σ Q r := by
  cases r with
  | ex xx p e => exact fun w2 Fs2 dd x2 s2 py => h w2 Fs2 dd (x.trans x2) s2 py
  | bad => exact h
  | ok d e =>
    cases d with
    | bl b => exact fun w2 Fs2 x2 s2 => h w2 Fs2 (x.trans x2) s2
    | _ => exact h
theorem TPost.weak {w : Wd} {Fs : Fps} {σ : St} {Q : Bool → Hp → Prop} {r : ER} {T' : List Nat} (h : TPost g T' w Fs σ Q r) (hT : ∀ i ∈ T, i ∈ T') : TPost g T w Fs σ Q r := by
  cases r with
  | ex xx p e => exact XPost.weak h hT
  | bad => exact h
  | ok d e =>
    cases d with
    | bl b => exact fun w2 Fs2 x2 s2 => h w2 Fs2 (x2.weak hT) s2
    | _ => exact h
theorem EPost.after {w w' : Wd} {Fs Fs' : Fps} {σ : St} {Q : VK} {r : ER} (x : Ext Ta w Fs w' Fs') (h : EPost g (Ta ++ Tb) w Fs σ Q r) : EPost g Tb w' Fs' σ Q r := by
  cases r with
  | ex xx p e => exact fun w2 Fs2 dd x2 s2 py => h w2 Fs2 dd (x.trans x2) s2 py
  | bad => exact h
  | ok d e =>
    refine fun w2 Fs2 v F x2 s2 o n pr => h w2 Fs2 v F (x.trans x2) s2 o n fun a ha => ?_
    rcases pr a ha with z | ⟨j, hj, z⟩
    · refine .inl ?_
      by_cases y : w.H a = none
      · exact y
      · exact absurd z (x.dom a y)
    · rcases x.fs j a z with y | y | ⟨k, hk, y⟩
      · exact .inr ⟨j, List.mem_append_right _ hj, y⟩
      · exact .inl y
      · exact .inr ⟨k, List.mem_append_left _ hk, y⟩
theorem EPost.weak {w : Wd} {Fs : Fps} {σ : St} {Q : VK} {r : ER} {T' : List Nat} (h : EPost g T' w Fs σ Q r) (hT : ∀ i ∈ T, i ∈ T') : EPost g T w Fs σ Q r := by
  cases r with
  | ex xx p e => exact XPost.weak h hT
  | bad => exact h
  | ok d e => exact fun w2 Fs2 v F x2 s2 o n pr => h w2 Fs2 v F (x2.weak hT) s2 o n fun a ha => (pr a ha).imp id fun ⟨j, hj, z⟩ => ⟨j, hT j hj, z⟩
theorem pwx_and1 (ha : PTx g a Ta fa) : PWx g (.BoolOp .And [a] pos) Ta fa := ⟨ha.fr, let ⟨t, h1, h2⟩ := ha.ex; ⟨t, pw_and1 h1, h2⟩⟩
theorem pwx_or1 (ha : PTx g a Ta fa) : PWx g (.BoolOp .Or [a] pos) Ta fa := ⟨ha.fr, let ⟨t, h1, h2⟩ := ha.ex; ⟨t, pw_or1 h1, h2⟩⟩
theorem pwx_and (ha : PTx g a Ta fa) (hb : PWx g (.BoolOp .And (b :: rest) pos) Tb fb) : PWx g (.BoolOp .And (a :: b :: rest) pos) (Ta ++ Tb) (eAnd fa fb) := by
  obtain ⟨t, h1, h2⟩ := ha.ex
  obtain ⟨u, k1, k2⟩ := hb.ex
  refine ⟨frm_and ha.fr hb.fr, _, pw_and h1 k1, fun w Fs σ env s Q q => h2 w Fs σ env s _ ?_⟩
  unfold eAnd at q
  cases er : fa env with
  | ex x p e => rw [er] at q; exact XPost.weak q fun i hi => List.mem_append_left _ hi
  | bad => rw [er] at q; exact q
  | ok d e =>
    rw [er] at q
    cases d with
    | bl k =>
      intro w' Fs' x s'
      cases k with
      | true => rw [if_pos rfl]; exact k2 w' Fs' σ e s' Q (TPost.after x q)
      | false =>
        rw [if_neg (by simp)]
        exact q w' Fs' (x.weak fun i hi => List.mem_append_left _ hi) s'
    | _ => exact q
theorem pwx_or (ha : PTx g a Ta fa) (hb : PWx g (.BoolOp .Or (b :: rest) pos) Tb fb) : PWx g (.BoolOp .Or (a :: b :: rest) pos) (Ta ++ Tb) (eOr fa fb) := by
  obtain ⟨t, h1, h2⟩ := ha.ex
  obtain ⟨u, k1, k2⟩ := hb.ex
  refine ⟨frm_or ha.fr hb.fr, _, pw_or h1 k1, fun w Fs σ env s Q q => h2 w Fs σ env s _ ?_⟩
  unfold eOr at q
  cases er : fa env with
  | ex x p e => rw [er] at q; exact XPost.weak q fun i hi => List.mem_append_left _ hi
  | bad => rw [er] at q; exact q
  | ok d e =>
    rw [er] at q
    cases d with
    | bl k =>
      intro w' Fs' x s'
      cases k with
      | false => rw [if_neg (by simp)]; exact k2 w' Fs' σ e s' Q (TPost.after x q)
      | true =>
        rw [if_pos rfl]
        exact q w' Fs' (x.weak fun i hi => List.mem_append_left _ hi) s'
    | _ => exact q
theorem ptx_not (ha : PTx g a Ta fa) : PTx g (.UnaryOp .Not a pos) Ta (eNot fa) := by
  obtain ⟨t, h1, h2⟩ := ha.ex
  refine ⟨frm_not ha.fr, _, pt_not h1, fun w Fs σ env s Q q => h2 w Fs σ env s _ ?_⟩
  unfold eNot at q
  cases er : fa env with
  | ex x p e => rw [er] at q; exact q
  | bad => rw [er] at q; exact q
  | ok d e =>
    rw [er] at q
    cases d with
    | bl k => exact q
    | _ => exact q
theorem pex_one {op : BoolOp} (h : PEx g a Ta fa) : PEx g (.BoolOp op [a] pos) Ta fa := ⟨h.fr, let ⟨t, h1, h2⟩ := h.ex; ⟨t, pe_one h1, h2⟩⟩
theorem pex_and (ha : PEx g a Ta fa) (hb : PEx g (.BoolOp .And (b :: rest) pos) Tb fb) : PEx g (.BoolOp .And (a :: b :: rest) pos) (Ta ++ Tb) (eAnd fa fb) := by
  obtain ⟨t, h1, h2⟩ := ha.ex
  obtain ⟨u, k1, k2⟩ := hb.ex
  refine ⟨frm_and ha.fr hb.fr, _, pe_and h1 k1, fun w Fs σ env s Q q => h2 w Fs σ env s _ ?_⟩
  unfold eAnd at q
  cases er : fa env with
  | ex x p e => rw [er] at q; exact XPost.weak q fun i hi => List.mem_append_left _ hi
  | bad => rw [er] at q; exact q
  | ok d e =>
    rw [er] at q
    intro w' Fs' v F x s' o n pr
    cases d with
    | bl k =>
      refine ⟨k, o.1, ?_⟩
      cases k with
      | true => rw [if_pos rfl]; exact k2 w' Fs' σ e s' Q (EPost.after x q)
      | false =>
        rw [if_neg (by simp)]
        exact q w' Fs' (.bl false) F (x.weak fun i hi => List.mem_append_left _ hi) s' ⟨rfl, o.2⟩ n fun a ha => absurd ha (o.2 a)
    | _ => exact q.elim
theorem pex_or (ha : PEx g a Ta fa) (hb : PEx g (.BoolOp .Or (b :: rest) pos) Tb fb) : PEx g (.BoolOp .Or (a :: b :: rest) pos) (Ta ++ Tb) (eOr fa fb) := by
  obtain ⟨t, h1, h2⟩ := ha.ex
  obtain ⟨u, k1, k2⟩ := hb.ex
  refine ⟨frm_or ha.fr hb.fr, _, pe_or h1 k1, fun w Fs σ env s Q q => h2 w Fs σ env s _ ?_⟩
  unfold eOr at q
  cases er : fa env with
  | ex x p e => rw [er] at q; exact XPost.weak q fun i hi => List.mem_append_left _ hi
  | bad => rw [er] at q; exact q
  | ok d e =>
    rw [er] at q
    intro w' Fs' v F x s' o n pr
    cases d with
    | bl k =>
      refine ⟨k, o.1, ?_⟩
      cases k with
      | false => rw [if_neg (by simp)]; exact k2 w' Fs' σ e s' Q (EPost.after x q)
      | true =>
        rw [if_pos rfl]
        exact q w' Fs' (.bl true) F (x.weak fun i hi => List.mem_append_left _ hi) s' ⟨rfl, o.2⟩ n fun a ha => absurd ha (o.2 a)
    | _ => exact q.elim
theorem pex_not (ha : PEx g a Ta fa) : PEx g (.UnaryOp .Not a pos) Ta (eNot fa) := by
  obtain ⟨t, h1, h2⟩ := ha.ex
  refine ⟨frm_not ha.fr, _, pe_not h1, fun w Fs σ env s Q q => h2 w Fs σ env s _ ?_⟩
  unfold eNot at q
  cases er : fa env with
  | ex x p e => rw [er] at q; exact q
  | bad => rw [er] at q; exact q
  | ok d e =>
    rw [er] at q
    intro w' Fs' v F x s' o n pr
    cases d with
    | bl k => exact ⟨k, o.1, q w' Fs' (.bl (!k)) F x s' ⟨rfl, o.2⟩ n pr⟩
    | _ => exact q.elim
theorem pex_if (hc : PTx g c Tc fc) (ha : PEx g a Ta fa) (hb : PEx g b Tb fb) : PEx g (.IfExp c a b pos) (Tc ++ (Ta ++ Tb)) (eIf fc fa fb) := by
  obtain ⟨t, h1, h2⟩ := hc.ex
  obtain ⟨u, k1, k2⟩ := ha.ex
  obtain ⟨u', l1, l2⟩ := hb.ex
  refine ⟨frm_if hc.fr ha.fr hb.fr, _, pe_ifExp h1 k1 l1, fun w Fs σ env s Q q => h2 w Fs σ env s _ ?_⟩
  unfold eIf at q
  cases er : fc env with
  | ex x p e => rw [er] at q; exact XPost.weak q fun i hi => List.mem_append_left _ hi
  | bad => rw [er] at q; exact q
  | ok d e =>
    rw [er] at q
    cases d with
    | bl k =>
      intro w' Fs' x s'
      cases k with
      | true =>
        rw [if_pos rfl]
        exact k2 w' Fs' σ e s' Q (EPost.weak (EPost.after x q) fun i hi => List.mem_append_left _ hi)
      | false =>
        rw [if_neg (by simp)]
        exact l2 w' Fs' σ e s' Q (EPost.weak (EPost.after x q) fun i hi => List.mem_append_right _ hi)
    | _ => exact q
/-! ### what the operators say of data -/
theorem Ow.int {c : Cs} {K : PySem.W.Frag} {HP H0 H : Hp} {i : Int} {v : V} {F : Addr → Prop} (h : Ow c K HP H0 H (.int i) v F) : v = .int i := h.1
theorem Ow.strv {c : Cs} {K : PySem.W.Frag} {HP H0 H : Hp} {i : Str} {v : V} {F : Addr → Prop} (h : Ow c K HP H0 H (.str i) v F) : v = .str i := h.1
def hI (h : Int → Int → Option Int) : D → D → Option D
  | .int i, .int j => (h i j).map .int
  | _, _ => none
theorem opS_I {r : R2} {C : Int → Int → Prop} {q : Int → Int → Int} {h : Int → Int → Option Int} (hr : ∀ x y H Q, rI C (fun i j => .int (q i j)) x y H Q → r x y H Q) (hc : ∀ i j k, h i j = some k → C i j ∧ k = q i j) : OpS g r (hI h) := by
  intro dx dy d eh w vx vy Fx Fy lp l0 o1 o2 Q hq
  unfold hI at eh
  split at eh
  · rename_i i j
    obtain ⟨k, e1, e2⟩ := Option.map_eq_some_iff.mp eh
    obtain ⟨c1, c2⟩ := hc i j k e1
    subst e2 c2
    exact hr _ _ _ _ ⟨i, j, o1.int, o2.int, c1, hq w _ (fun _ => False) (.refl lp l0) ⟨rfl, fun _ => id⟩ fun _ z => z.elim⟩
  · cases eh
def hIB (h : Int → Int → Bool) : D → D → Option D
  | .int i, .int j => some (.bl (h i j))
  | _, _ => none
theorem blS_I {q : Int → Int → Bool} : BlS g (rI0 fun i j => .bl (q i j)) (hIB q) := by
  intro dx dy d eh w vx vy Fx Fy lp l0 o1 o2
  unfold hIB at eh
  split at eh
  · rename_i i j
    cases eh
    exact ⟨_, rfl, fun Q hq => ⟨i, j, o1.int, o2.int, hq⟩⟩
  · cases eh
def hOr (h h' : D → D → Option D) (x y : D) : Option D := match h x y with
  | some d => some d
  | none => h' x y
theorem OpS.or {r r' : R2} {h h' : D → D → Option D} (a : OpS g r h) (b : OpS g r' h') : OpS g (fun x y H Q => r x y H Q ∨ r' x y H Q) (hOr h h') := by
  intro dx dy d eh w vx vy Fx Fy lp l0 o1 o2 Q hq
  cases e : h dx dy with
  | some d' =>
    unfold hOr at eh
    rw [e] at eh
    cases eh
    exact .inl (a dx dy _ e w vx vy Fx Fy lp l0 o1 o2 Q hq)
  | none =>
    unfold hOr at eh
    rw [e] at eh
    exact .inr (b dx dy _ eh w vx vy Fx Fy lp l0 o1 o2 Q hq)
theorem BlS.or {r r' : R2} {h h' : D → D → Option D} (a : BlS g r h) (b : BlS g r' h') : BlS g (fun x y H Q => r x y H Q ∨ r' x y H Q) (hOr h h') := by
  intro dx dy d eh w vx vy Fx Fy lp l0 o1 o2
  cases e : h dx dy with
  | some d' =>
    unfold hOr at eh
    rw [e] at eh
    cases eh
    obtain ⟨k, e2, z⟩ := a dx dy _ e w vx vy Fx Fy lp l0 o1 o2
    exact ⟨k, e2, fun Q hq => .inl (z Q hq)⟩
  | none =>
    unfold hOr at eh
    rw [e] at eh
    obtain ⟨k, e2, z⟩ := b dx dy _ eh w vx vy Fx Fy lp l0 o1 o2
    exact ⟨k, e2, fun Q hq => .inr (z Q hq)⟩
end
end DL
set_option Elab.async false
set_option linter.all false
set_option maxRecDepth 100000
set_option maxHeartbeats 4000000
namespace DL
open PySem PySem.Spec PyProof.Rows L2

/-! ### argument lists -/
inductive LR where
  | ok (ds : List D) (env : Env)
  | ex (x : Nat) (p : Option D) (env : Env)
  | bad
def LR.toE : LR → (List D → Env → ER) → ER
  | .ok ds env, k => k ds env
  | .ex x p env, _ => .ex x p env
  | .bad, _ => .bad
def lNil (env : Env) : LR := .ok [] env
def lCons (f : Env → ER) (fs : Env → LR) (env : Env) : LR := match f env with
  | .ok d e1 => (match fs e1 with
    | .ok ds e2 => .ok (d :: ds) e2
    | .ex x p e2 => .ex x p e2
    | .bad => .bad)
  | .ex x p e1 => .ex x p e1
  | .bad => .bad
def FrmL (T : List Nat) (f : Env → LR) : Prop := ∀ env ds env', f env = .ok ds env' → ∀ i, i ∉ T → env'[i]? = env[i]?
/-- values that are looked at -/
def ArgsO (g : G) (w : Wd) (Fs : Fps) (R : List Nat) (ds : List D) (vs : List V) : Prop :=
  Paired (fun d v => ∃ F, Ow g.c g.X.K w.HP w.H0 w.H d v F ∧ ∀ a, F a → (∃ i ∈ R, Fs i a) ∨ ∀ i, ¬ Fs i a) ds vs
def APost (g : G) (T R : List Nat) (w : Wd) (Fs : Fps) (σ : St) (Q : List V → Hp → Prop) : LR → Prop
  | .ok ds env' => ∀ w' Fs' vs, Ext T w Fs w' Fs' → Sr g w' Fs' σ env' → ArgsO g w' Fs' R ds vs → Q vs w'.H
  | .ex x p env' => XPost g T w Fs σ x p env'
  | .bad => False
structure PAx (g : G) (es : List Expr) (T R : List Nat) (f : Env → LR) : Prop where
  fr : FrmL T f
  ln : ∀ env ds env', f env = .ok ds env' → ds.length = es.length
  ex : ∃ t, PA g.X es t ∧ ∀ w Fs σ env, Sr g w Fs σ env → ∀ Q, APost g T R w Fs σ Q (f env) → t σ w.H Q
/-- values that are nobody else's -/
def VPost (g : G) (T : List Nat) (w : Wd) (Fs : Fps) (σ : St) (Q : List V → Hp → Prop) : LR → Prop
  | .ok ds env' => ∀ w' Fs' vs F, Ext T w Fs w' Fs' → Sr g w' Fs' σ env' → OwL g.c g.X.K w'.HP w'.H0 w'.H ds vs F → (∀ a, F a → ∀ i, ¬ Fs' i a) → (∀ a, F a → w.H a = none ∨ ∃ j ∈ T, Fs j a) → Q vs w'.H
  | .ex x p env' => XPost g T w Fs σ x p env'
  | .bad => False
structure PVx (g : G) (es : List Expr) (T : List Nat) (f : Env → LR) : Prop where
  fr : FrmL T f
  ln : ∀ env ds env', f env = .ok ds env' → ds.length = es.length
  ex : ∃ t, PA g.X es t ∧ ∀ w Fs σ env, Sr g w Fs σ env → ∀ Q, VPost g T w Fs σ Q (f env) → t σ w.H Q
section
variable {g : G} {e a b c : Expr} {es : List Expr} {i j cc : Nat} {T Ta Tb Tc R Ra Rb : List Nat} {f fa fb fc : Env → ER} {fs : Env → LR} {fp : Env → PR} {pos : Pos} {rest : List Expr}
theorem frmL_cons (ha : Frm Ta fa) (hb : FrmL Tb fs) : FrmL (Ta ++ Tb) (lCons fa fs) := by
  intro env ds env' q i hi
  unfold lCons at q
  split at q
  · rename_i d e1 h1
    split at q
    · rename_i ds' e2 h2
      cases q
      exact (hb _ _ _ h2 i fun z => hi (List.mem_append_right _ z)).trans (ha _ _ _ h1 i fun z => hi (List.mem_append_left _ z))
    · cases q
    · cases q
  · cases q
  · cases q
theorem lCons_len {n : Nat} (hb : ∀ env ds env', fs env = .ok ds env' → ds.length = n) : ∀ env ds env', lCons fa fs env = .ok ds env' → ds.length = n + 1 := by
  intro env ds env' q
  unfold lCons at q
  split at q
  · rename_i d e1 h1
    split at q
    · rename_i ds' e2 h2
      cases q
      rw [List.length_cons, hb _ _ _ h2]
    · cases q
    · cases q
  · cases q
  · cases q
theorem pax_nil : PAx g [] [] [] lNil := ⟨fun env ds env' q i _ => by cases q; rfl, fun env ds env' q => by cases q; rfl, _, pa_nil, fun w Fs σ env s Q q => q w Fs [] (s.ext0 _) s .nil⟩
theorem pax_cons (ha : POx g a Ta Ra fa) (hb : PAx g es Tb Rb fs) (hd : ∀ i ∈ Ra, i ∉ Tb) (hs : starEach (a :: es) g.X.env = (false, eval a g.X.env) :: starEach es g.X.env := by rfl) : PAx g (a :: es) (Ta ++ Tb) (Ra ++ Rb) (lCons fa fs) := by
  obtain ⟨t, h1, h2⟩ := ha.ex
  obtain ⟨u, k1, k2⟩ := hb.ex
  refine ⟨frmL_cons ha.fr hb.fr, lCons_len hb.ln, _, pa_cons h1 k1 hs, fun w Fs σ env s Q q => h2 w Fs σ env s _ ?_⟩
  unfold lCons at q
  cases er : fa env with
  | ex x p e => rw [er] at q; exact XPost.weak q fun i hi => List.mem_append_left _ hi
  | bad => rw [er] at q; exact q
  | ok d e1 =>
    simp only [er] at q
    intro w1 Fs1 v F x1 s1 o1 n1 _
    refine k2 w1 Fs1 σ e1 s1 _ ?_
    cases eb : fs e1 with
    | ex x p e => simp only [eb] at q; exact fun w2 Fs2 dd x2 s2 py => q w2 Fs2 dd (x1.trans x2) s2 py
    | bad => simp only [eb] at q; exact (show False from q).elim
    | ok ds e2 =>
      simp only [eb] at q
      intro w2 Fs2 vs x2 s2 o2
      obtain ⟨o1', n1'⟩ := x2.hold o1 n1 hd
      refine q w2 Fs2 (v :: vs) (x1.trans x2) s2 (.cons ⟨F, o1', fun a ha => (n1' a ha).imp (fun ⟨i, hi, z⟩ => ⟨i, List.mem_append_left _ hi, z⟩) id⟩ ?_)
      exact Paired.mapP o2 fun d v ⟨F, h, n⟩ => ⟨F, h, fun a ha => (n a ha).imp (fun ⟨i, hi, z⟩ => ⟨i, List.mem_append_right _ hi, z⟩) id⟩
theorem pvx_nil : PVx g [] [] lNil := ⟨fun env ds env' q i _ => by cases q; rfl, fun env ds env' q => by cases q; rfl, _, pa_nil, fun w Fs σ env s Q q => q w Fs [] (fun _ => False) (s.ext0 _) s ⟨rfl, fun _ => id⟩ (fun _ z => z.elim) fun _ z => z.elim⟩
theorem pvx_cons (ha : PEx g a Ta fa) (hb : PVx g es Tb fs) (hs : starEach (a :: es) g.X.env = (false, eval a g.X.env) :: starEach es g.X.env := by rfl) : PVx g (a :: es) (Ta ++ Tb) (lCons fa fs) := by
  obtain ⟨t, h1, h2⟩ := ha.ex
  obtain ⟨u, k1, k2⟩ := hb.ex
  refine ⟨frmL_cons ha.fr hb.fr, lCons_len hb.ln, _, pa_cons h1 k1 hs, fun w Fs σ env s Q q => h2 w Fs σ env s _ ?_⟩
  unfold lCons at q
  cases er : fa env with
  | ex x p e => rw [er] at q; exact XPost.weak q fun i hi => List.mem_append_left _ hi
  | bad => rw [er] at q; exact q
  | ok d e1 =>
    simp only [er] at q
    intro w1 Fs1 v F x1 s1 o1 n1 p1
    refine k2 w1 Fs1 σ e1 s1 _ ?_
    cases eb : fs e1 with
    | ex x p e => simp only [eb] at q; exact fun w2 Fs2 dd x2 s2 py => q w2 Fs2 dd (x1.trans x2) s2 py
    | bad => simp only [eb] at q; exact (show False from q).elim
    | ok ds e2 =>
      simp only [eb] at q
      intro w2 Fs2 vs F2 x2 s2 o2 n2 p2
      obtain ⟨o1', n1'⟩ := x2.tmp o1 n1
      have dj : ∀ a, F a → ¬ F2 a := fun a ha hb => by
        obtain ⟨⟨u, eu⟩, _⟩ := o1.held d a ha
        rcases p2 a hb with z | ⟨j, _, z⟩
        · rw [eu] at z; cases z
        · exact n1 a ha j z
      refine q w2 Fs2 (v :: vs) (fun a => F a ∨ F2 a) (x1.trans x2) s2 ⟨v, vs, F, F2, rfl, o1', o2, dj, fun _ => Iff.rfl⟩ (fun a ha => ha.elim (n1' a) (n2 a)) fun a ha => ?_
      rcases ha with ha | ha
      · exact (p1 a ha).imp id fun ⟨j, hj, z⟩ => ⟨j, List.mem_append_left _ hj, z⟩
      · rcases p2 a ha with z | ⟨j, hj, z⟩
        · refine .inl ?_
          by_cases y : w.H a = none
          · exact y
          · exact absurd z (x1.dom a y)
        · rcases x1.fs j a z with y | y | ⟨k, hk, y⟩
          · exact .inr ⟨j, List.mem_append_right _ hj, y⟩
          · exact .inl y
          · exact .inr ⟨k, List.mem_append_left _ hk, y⟩
/-! ### displays -/
theorem Ow.newLst {w : Wd} {Fs : Fps} {σ : St} {env : Env} (s : Sr g w Fs σ env) {p : Addr} {ds : List D} {vs : List V} {F : Addr → Prop} (n : w.H p = none) (o : OwL g.c g.X.K w.HP w.H0 w.H ds vs F) :
    Ow g.c g.X.K (w.put p (.lst vs)).HP (w.put p (.lst vs)).H0 (w.put p (.lst vs)).H (.nd .lst .own ds) (.ref p) (fun b => b = p ∨ F b) := by
  have gr := Grow.put (o := .lst vs) s.lp s.l0 n
  have heldL : ∀ {l : List D} {ws : List V} {E : Addr → Prop}, OwL g.c g.X.K w.HP w.H0 w.H l ws E → OwL g.c g.X.K (w.put p (.lst vs)).HP (w.put p (.lst vs)).H0 (w.put p (.lst vs)).H l ws E ∧ ∀ b, E b → w.H b ≠ none := by
    intro l
    induction l with
    | nil => intro ws E q; exact ⟨q, fun b hb => absurd hb (q.2 b)⟩
    | cons x l ih =>
      intro ws E q
      obtain ⟨v, r, F1, F2, e, q1, q2, q3, q4⟩ := q
      obtain ⟨i1, i2⟩ := ih q2
      refine ⟨⟨v, r, F1, F2, e, gr.ow (g := g) q1, i1, q3, q4⟩, fun b hb => ?_⟩
      rcases (q4 b).mp hb with z | z
      · obtain ⟨⟨u, eu⟩, _⟩ := q1.held x b z
        rw [eu]; simp
      · exact i2 b z
  obtain ⟨o', ne⟩ := heldL o
  refine ⟨p, vs, [p], F, rfl, ⟨upd_same, rfl⟩, fun b hb => ?_, fun b hb z => ?_, o', fun b => by simp⟩
  · have eb : b = p := by simpa using hb
    subst eb
    exact s.l0.none n
  · have eb : b = p := by simpa using hb
    subst eb
    exact ne b z n
def eLst (fs : Env → LR) (env : Env) : ER := (fs env).toE fun ds e => .ok (.nd .lst .own ds) e
theorem frm_toE {k : List D → Env → ER} (h : FrmL T fs) (hk : ∀ ds e d e', k ds e = .ok d e' → e' = e) : Frm T (fun env => (fs env).toE k) := by
  intro env d env' q i hi
  cases er : fs env with
  | ex x p e => simp only [er, LR.toE] at q; cases q
  | bad => simp only [er, LR.toE] at q; cases q
  | ok ds e => simp only [er, LR.toE] at q; rw [hk _ _ _ _ q]; exact h _ _ _ er i hi
theorem small_line {n : Nat} (h : n ≤ 1000) : n ≤ sizeLine := Nat.le_trans h (by rw [sizeLine_eq]; decide)
theorem pex_lst (h : PVx g es T fs) (hl : es.length ≤ 1000 := by decide) : PEx g (.List es pos) T (eLst fs) := by
  obtain ⟨t, h1, h2⟩ := h.ex
  refine ⟨frm_toE h.fr fun _ _ _ _ q => by cases q; rfl, _, pe_lst h1, fun w Fs σ env s Q q => h2 w Fs σ env s _ ?_⟩
  unfold eLst at q
  cases er : fs env with
  | ex x p e => rw [er] at q; exact q
  | bad => rw [er] at q; exact q
  | ok ds e =>
    rw [er] at q
    intro w1 Fs1 vs F x1 s1 o1 n1 p1
    have hlen : vs.length ≤ sizeLine := by rw [o1.len, h.ln _ _ _ er]; exact small_line hl
    refine ⟨hlen, fun p np => ?_⟩
    have gr := Grow.put (o := .lst vs) s1.lp s1.l0 np
    obtain ⟨s2, x2⟩ := s1.grow gr
    refine q (w1.put p (.lst vs)) Fs1 (.ref p) (fun b => b = p ∨ F b) ((x1.trans x2).weak fun i hi => by simpa using hi) s2 (Ow.newLst s1 np o1) (fun a ha i z => ?_) fun a ha => ?_
    · rcases ha with rfl | ha
      · obtain ⟨⟨u, eu⟩, _⟩ := s1.held z
        rw [np] at eu; cases eu
      · exact n1 a ha i z
    · rcases ha with rfl | ha
      · refine .inl ?_
        by_cases y : w.H a = none
        · exact y
        · exact absurd np (x1.dom a y)
      · exact p1 a ha
/-- permanent, or an atom -/
def isPm : D → Bool
  | .nd _ o _ => match o with
    | .pm => true
    | _ => false
  | _ => true
def mkTup (ds : List D) : D := if ds.all isPm = true then .nd .tup .pm ds else if cleanL ds = true then .nd .tup .pm (pmzL ds) else .nd .tup .ro (frzL ds)
def eTup (fs : Env → LR) (env : Env) : ER := (fs env).toE fun ds e => .ok (mkTup ds) e
theorem isPm_ro {w : Wd} {d : D} {v : V} {F : Addr → Prop} (h : isPm d = true) (o : Ow g.c g.X.K w.HP w.H0 w.H d v F) : Ro g.c g.X.K w.HP w.HP d v ∧ ∀ b, ¬ F b := by
  cases d with
  | nd k fl xs =>
    cases fl with
    | pm => exact ⟨Ro.pm (Le.refl _) o.1, o.2⟩
    | _ => cases h
  | uns => exact ⟨True.intro, o⟩
  | _ => exact o
theorem OwL.pm {w : Wd} : ∀ {ds : List D} {vs : List V} {F : Addr → Prop}, ds.all isPm = true → OwL g.c g.X.K w.HP w.H0 w.H ds vs F → RoL g.c g.X.K w.HP w.HP ds vs
  | [], vs, F, _, o => o.1
  | d :: ds, vs, F, h, o => by
    obtain ⟨v, r, F1, F2, e, q1, q2, _, _⟩ := o
    simp only [List.all_cons, Bool.and_eq_true] at h
    exact ⟨v, r, e, (isPm_ro h.1 q1).1, OwL.pm h.2 q2⟩
theorem OwL.held {w : Wd} : ∀ {ds : List D} {vs : List V} {F : Addr → Prop}, OwL g.c g.X.K w.HP w.H0 w.H ds vs F → ∀ b, F b → (∃ o, w.H b = some o) ∧ w.H0 b = none
  | [], vs, F, o, b, hb => absurd hb (o.2 b)
  | d :: ds, vs, F, o, b, hb => by
    obtain ⟨v, r, F1, F2, e, q1, q2, _, q4⟩ := o
    rcases (q4 b).mp hb with z | z
    · exact q1.held d b z
    · exact OwL.held q2 b z
/-- a tuple of what one holds -/
theorem mkTup_ok {w : Wd} {ds : List D} {vs : List V} {F : Addr → Prop} {p : Addr} (lp : Le w.HP w.H0) (l0 : Le w.H0 w.H) (np : w.H p = none) (o : OwL g.c g.X.K w.HP w.H0 w.H ds vs F) :
    ∃ w2 : Wd, w2.H = upd w.H p (.tup vs) ∧ Le w.HP w2.HP ∧ Le w.H0 w2.H0 ∧ Le w2.HP w2.H0 ∧ Le w2.H0 w2.H ∧ (∀ a, w2.H0 a ≠ none → w.H0 a ≠ none ∨ w.H a = none ∨ F a) ∧ (∀ a, w2.HP a ≠ none → w.HP a ≠ none ∨ w.H a = none ∨ F a) ∧ Ro g.c g.X.K w2.HP w2.H0 (mkTup ds) (.ref p) := by
  have n0 := l0.none np
  have nP := lp.none n0
  by_cases h1 : ds.all isPm = true
  · refine ⟨w.putP p (.tup vs), rfl, (Grow.putP lp l0 np).hp, (Grow.putP lp l0 np).h0, (Grow.putP lp l0 np).lp, (Grow.putP lp l0 np).l0, fun a q => ((Grow.putP lp l0 np).n a q).imp id .inl, fun a q => ((Grow.putP lp l0 np).pn a q).imp id .inl, ?_⟩
    unfold mkTup
    rw [if_pos h1]
    have q := OwL.pm h1 o
    exact ⟨by simp, p, vs, rfl, upd_same, q.mono ((Le.refl _).put nP) ((Le.refl _).put nP)⟩
  · have fsome : ∀ {a : Addr}, F a → a ≠ p := fun {a} ha z => by
      obtain ⟨⟨u, eu⟩, _⟩ := OwL.held o a ha
      rw [z, np] at eu; cases eu
    have f0 : ∀ {a : Addr}, F a → w.H0 a = none := fun ha => (OwL.held o _ ha).2
    have lf : ∀ {X : Hp}, Le X w.H → (∀ a, F a → X a = none) → Le X (frzH w.H X F) := fun {X} l hF a u eu => by
      have y : ¬ F a := fun y => by rw [hF a y] at eu; cases eu
      exact ⟨u, by rw [frzH_out y]; exact eu, rfl⟩
    have lf2 : ∀ {X : Hp}, Le X w.H → Le (frzH w.H X F) w.H := fun {X} l a u eu => by
      by_cases y : F a
      · rw [frzH_in y] at eu; exact ⟨u, eu, rfl⟩
      · rw [frzH_out y] at eu; exact l a u eu
    have fp : frzH w.H w.H0 F p = none := by rw [frzH_out (fun y => fsome y rfl)]; exact n0
    have fpP : frzH w.H w.HP F p = none := by rw [frzH_out (fun y => fsome y rfl)]; exact nP
    have n0' : ∀ {X : Hp} {a : Addr}, upd (frzH w.H X F) p (.tup vs) a ≠ none → X a ≠ none ∨ w.H a = none ∨ F a := fun {X a} q => by
      by_cases y : a = p
      · exact .inr (.inl (y ▸ np))
      · rw [upd_ne y] at q
        by_cases z : F a
        · exact .inr (.inr z)
        · rw [frzH_out z] at q; exact .inl q
    have fP0 : ∀ a, F a → w.HP a = none := fun a ha => lp.none (f0 ha)
    by_cases h2 : cleanL ds = true
    · have lPH : Le w.HP w.H := lp.trans l0
      have lPF := lf lPH fP0
      have both : Le (frzH w.H w.HP F) (frzH w.H w.H0 F) := fun a u eu => by
        by_cases y : F a
        · rw [frzH_in y] at eu
          exact ⟨u, by rw [frzH_in y]; exact eu, rfl⟩
        · rw [frzH_out y] at eu
          obtain ⟨u', e', c'⟩ := lp a u eu
          exact ⟨u', by rw [frzH_out y]; exact e', c'⟩
      refine ⟨⟨upd (frzH w.H w.HP F) p (.tup vs), upd (frzH w.H w.H0 F) p (.tup vs), upd w.H p (.tup vs)⟩, rfl, lPF.put fpP, (lf l0 fun a ha => f0 ha).put fp, both.upd2 p _, (lf2 l0).upd2 p _, fun a q => n0' q, fun a q => n0' q, ?_⟩
      unfold mkTup
      rw [if_neg h1, if_pos h2, pmzL_map]
      refine ⟨by simp, p, vs, rfl, upd_same, ?_⟩
      have hc : ∀ d ∈ ds, clean d = true := by
        rw [cleanL_all, List.all_eq_true] at h2
        exact h2
      exact OwL.toRo (F := F) (HP' := upd (frzH w.H w.HP F) p (.tup vs)) (H1 := upd (frzH w.H w.HP F) p (.tup vs)) (fun d hd v F1 hF1 q => Ow.seal (lPF.put fpP) d (hc d hd) (fun b hb => by
        rw [upd_ne (fsome (hF1 b hb)), frzH_in (hF1 b hb)]) q) (fun b hb => hb) o
    · refine ⟨⟨w.HP, upd (frzH w.H w.H0 F) p (.tup vs), upd w.H p (.tup vs)⟩, rfl, Le.refl _, (lf l0 fun a ha => f0 ha).put fp, (lp.trans (lf l0 fun a ha => f0 ha)).put fp, (lf2 l0).upd2 p _, fun a q => n0' q, fun a q => .inl q, ?_⟩
      unfold mkTup
      rw [if_neg h1, if_neg h2, frzL_map]
      refine ⟨by simp, p, vs, rfl, upd_same, ?_⟩
      exact OwL.toRo (F := F) (HP' := w.HP) (H1 := upd (frzH w.H w.H0 F) p (.tup vs)) (fun d hd v F1 hF1 q => Ow.freeze (Le.refl _) ((lf l0 fun a ha => f0 ha).put fp) d (fun b hb => by
        rw [upd_ne (fsome (hF1 b hb)), frzH_in (hF1 b hb)]) q) (fun b hb => hb) o
theorem pex_tup {k : Nat} (h : PVx g es T fs) (hl : es.length ≤ 1000 := by decide) : PEx g (.Tuple es k pos) T (eTup fs) := by
  obtain ⟨t, h1, h2⟩ := h.ex
  refine ⟨frm_toE h.fr fun _ _ _ _ q => by cases q; rfl, _, pe_tup h1, fun w Fs σ env s Q q => h2 w Fs σ env s _ ?_⟩
  unfold eTup at q
  cases er : fs env with
  | ex x p e => rw [er] at q; exact q
  | bad => rw [er] at q; exact q
  | ok ds e =>
    rw [er] at q
    intro w1 Fs1 vs F x1 s1 o1 n1 p1
    have hlen : vs.length ≤ sizeLine := by rw [o1.len, h.ln _ _ _ er]; exact small_line hl
    refine ⟨hlen, fun p np => ?_⟩
    obtain ⟨w2, eH, lpp, l00, lp2, l02, hn, hpn, ro⟩ := mkTup_ok s1.lp s1.l0 np o1
    rw [← eH]
    have slotsF : ∀ {i : Nat} {a : Addr}, Fs1 i a → w2.H a = w1.H a ∧ w2.H0 a = none := fun {i a} z => by
      obtain ⟨⟨u, eu⟩, z0⟩ := s1.held z
      refine ⟨by rw [eH, upd_ne (ne_of_none eu np)], ?_⟩
      cases y : w2.H0 a with
      | none => rfl
      | some u2 =>
        rcases hn a (by rw [y]; simp) with t | t | t
        · exact absurd z0 t
        · rw [eu] at t; cases t
        · exact absurd z (n1 a t i)
    have s2 : Sr g w2 Fs1 σ e := ⟨lp2, l02, s1.len, fun i d ed => by
      obtain ⟨v, e1, qq⟩ := s1.slot i d ed
      exact ⟨v, e1, Ow.keep lpp l00 d (fun b hb => slotsF hb) qq⟩, s1.non, s1.dis, s1.hx.w l00⟩
    refine q w2 Fs1 (.ref p) (fun _ => False) ?_ s2 (Ow.of_ro ro fun _ => id) (fun _ z => z.elim) fun _ z => z.elim
    refine ⟨x1.hp.trans lpp, x1.h0.trans l00, fun a o eo n => ?_, fun i hi a z => ?_, x1.same, x1.fs, fun a z => ?_, fun a z => ?_, fun a z => ?_⟩
    · have := x1.off a o eo n
      rw [eH, upd_ne (ne_of_none this np)]; exact this
    · obtain ⟨e1, e2⟩ := x1.keep i hi a z
      obtain ⟨e3, e4⟩ := slotsF ((x1.same i hi a).mpr z)
      exact ⟨e3.trans e1, e4⟩
    · rcases hn a z with y | y | y
      · exact x1.h0n a y
      · refine .inr (.inr ?_)
        by_cases t : w.H a = none
        · exact t
        · exact absurd y (x1.dom a t)
      · rcases p1 a y with t | ⟨j, _, t⟩
        · exact .inr (.inr t)
        · exact .inr (.inl ⟨j, t⟩)
    · have := x1.dom a z
      by_cases y : a = p
      · subst y; rw [eH, upd_same]; simp
      · rw [eH, upd_ne y]; exact this
    · rcases hpn a z with y | y | y
      · exact x1.pn a y
      · refine .inr (.inr ?_)
        by_cases t : w.H a = none
        · exact t
        · exact absurd y (x1.dom a t)
      · rcases p1 a y with t | ⟨j, _, t⟩
        · exact .inr (.inr t)
        · exact .inr (.inl ⟨j, t⟩)
end
end DL
set_option Elab.async false
set_option linter.all false
set_option maxRecDepth 100000
set_option maxHeartbeats 4000000
namespace DL
open PySem PySem.Spec PyProof.Rows L2

/-! ### calls of built-ins, by data -/
def Looks (g : G) (w : Wd) : List D → List V → Prop := Paired fun d v => ∃ F, Ow g.c g.X.K w.HP w.H0 w.H d v F
/-- what a call says of data -/
def CallS (g : G) (r : List V → Hp → VK → Prop) (h : List D → Option D) : Prop := ∀ ds d, h ds = some d → ∀ (w : Wd) vs, Le w.HP w.H0 → Le w.H0 w.H → Looks g w ds vs →
  ∀ Q : VK, (∀ w' v F, Grow w w' → Ow g.c g.X.K w'.HP w'.H0 w'.H d v F → (∀ a, F a → w.H a = none) → Q v w'.H) → r vs w.H Q
def eCallV (h : List D → Option D) (fs : Env → LR) (env : Env) : ER := (fs env).toE fun ds e => ER.of (h ds) e
section
variable {g : G} {e a b c : Expr} {es : List Expr} {i j cc : Nat} {T Ta Tb Tc R Ra Rb : List Nat} {f fa fb fc : Env → ER} {fs : Env → LR} {fp : Env → PR} {p pos : Pos} {rest : List Expr} {r : List V → Hp → VK → Prop} {h : List D → Option D} {x : Str}
theorem callV_run {t : TA} (ha : PAx g (e :: es) T R fs) (h2 : ∀ w Fs σ env, Sr g w Fs σ env → ∀ Q, APost g T R w Fs σ Q (fs env) → t σ w.H Q) (hs : CallS g r h) : ∀ w Fs σ env, Sr g w Fs σ env → ∀ Q, EPost g T w Fs σ Q (eCallV h fs env) → tCB r t σ w.H Q := by
  intro w Fs σ env s Q q
  refine h2 w Fs σ env s _ ?_
  unfold eCallV at q
  cases er : fs env with
  | ex x p e => rw [er] at q; exact q
  | bad => rw [er] at q; exact q
  | ok ds e1 =>
    rw [er] at q
    intro w1 Fs1 vs x1 s1 o1
    have q : EPost g T w Fs σ Q (ER.of (h ds) e1) := q
    cases eh : h ds with
    | none => rw [eh] at q; exact q.elim
    | some d =>
      rw [eh] at q
      exact hs ds d eh w1 vs s1.lp s1.l0 (Paired.mapP o1 fun d v ⟨F, o, _⟩ => ⟨F, o⟩) Q fun w2 v F gr o n => fin_new x1 s1 gr o n q
theorem frm_callV (ha : PAx g es T R fs) : Frm T (eCallV h fs) := frm_toE ha.fr fun ds e d e' q => (ER.of_ok q).2
theorem pex_callB {id : String} (hc : CallR g.X (.builtin id) r) (hs : CallS g r h) (hg : Gl g.X x) (hm : g.X.mg x = none) (hv : bootBuiltins x = some (.builtin id)) (ha : PAx g (e :: es) T R fs) (hn : x ≠ "__name__" := by decide) (hdb : (x == ("__debug__" : Str)) = false := by decide)
    (he : starEach (e :: es) g.X.env = (false, eval e g.X.env) :: starEach es g.X.env := by rfl) (hpl : (backTo pos (starEach es g.X.env)).any (·.1) = false := by rfl) : PEx g (.Call (.Name x p) (e :: es) [] pos) T (eCallV h fs) := by
  obtain ⟨t, h1, h2⟩ := ha.ex
  exact ⟨frm_callV ha, _, pe_callB hc hg hm hv h1 hn hdb he hpl, callV_run ha h2 hs⟩
theorem pex_callTy {Ty : String} (hc : CallR g.X (.type Ty) r) (hs : CallS g r h) (hg : Gl g.X x) (hm : g.X.mg x = none) (hv : bootBuiltins x = some (.type Ty)) (ha : PAx g (e :: es) T R fs) (hn : x ≠ "__name__" := by decide) (hdb : (x == ("__debug__" : Str)) = false := by decide)
    (he : starEach (e :: es) g.X.env = (false, eval e g.X.env) :: starEach es g.X.env := by rfl) (hpl : (backTo pos (starEach es g.X.env)).any (·.1) = false := by rfl) : PEx g (.Call (.Name x p) (e :: es) [] pos) T (eCallV h fs) := by
  obtain ⟨t, h1, h2⟩ := ha.ex
  exact ⟨frm_callV ha, _, pe_callTy hc hg hm hv h1 hn hdb he hpl, callV_run ha h2 hs⟩
end
section
variable {g : G} {w : Wd}
theorem looks1 {d : D} {vs : List V} (h : Looks g w [d] vs) : ∃ v F, vs = [v] ∧ Ow g.c g.X.K w.HP w.H0 w.H d v F := by
  cases h with
  | cons q r => cases r; obtain ⟨F, q⟩ := q; exact ⟨_, F, rfl, q⟩
theorem looks2 {d e : D} {vs : List V} (h : Looks g w [d, e] vs) : ∃ v u F E, vs = [v, u] ∧ Ow g.c g.X.K w.HP w.H0 w.H d v F ∧ Ow g.c g.X.K w.HP w.H0 w.H e u E := by
  cases h with
  | cons q r =>
    obtain ⟨v, F, e1, o⟩ := looks1 r
    subst e1
    obtain ⟨E, q⟩ := q
    exact ⟨_, v, E, F, rfl, q, o⟩
/-- an atom as an answer -/
theorem atom_fin {d : D} {v : V} {Q : VK} (hq : ∀ w' v F, Grow w w' → Ow g.c g.X.K w'.HP w'.H0 w'.H d v F → (∀ a, F a → w.H a = none) → Q v w'.H) (lp : Le w.HP w.H0) (l0 : Le w.H0 w.H) (a : AV d v) : Q v w.H :=
  hq w v (fun _ => False) (.refl lp l0) a.ow fun _ z => z.elim
def hAbs : List D → Option D
  | [.int i] => some (.int (if i < 0 then -i else i))
  | _ => none
theorem callS_abs : CallS g (fun xs H Q => ∃ i, xs = [.int i] ∧ Q (.int (if i < 0 then -i else i)) H) hAbs := by
  intro ds d e w vs lp l0 o Q hq
  unfold hAbs at e
  split at e
  · rename_i i
    cases e
    obtain ⟨v, F, rfl, q⟩ := looks1 o
    rw [q.int]
    exact ⟨i, rfl, atom_fin (g := g) hq lp l0 rfl⟩
  · cases e
def hMax2 : List D → Option D
  | [.int i, .int j] => some (.int (if j > i then j else i))
  | _ => none
theorem callS_max2 : CallS g (fun xs H Q => ∃ i j, xs = [.int i, .int j] ∧ Q (.int (if j > i then j else i)) H) hMax2 := by
  intro ds d e w vs lp l0 o Q hq
  unfold hMax2 at e
  split at e
  · rename_i i j
    cases e
    obtain ⟨v, u, F, E, rfl, q, q'⟩ := looks2 o
    rw [q.int, q'.int]
    exact ⟨i, j, rfl, atom_fin (g := g) hq lp l0 rfl⟩
  · cases e
def hMin2 : List D → Option D
  | [.int i, .int j] => some (.int (if j < i then j else i))
  | _ => none
theorem callS_min2 : CallS g (fun xs H Q => ∃ i j, xs = [.int i, .int j] ∧ Q (.int (if j < i then j else i)) H) hMin2 := by
  intro ds d e w vs lp l0 o Q hq
  unfold hMin2 at e
  split at e
  · rename_i i j
    cases e
    obtain ⟨v, u, F, E, rfl, q, q'⟩ := looks2 o
    rw [q.int, q'.int]
    exact ⟨i, j, rfl, atom_fin (g := g) hq lp l0 rfl⟩
  · cases e
def hInt : List D → Option D
  | [.int i] => some (.int i)
  | [.bl k] => some (.int (if k = true then 1 else 0))
  | _ => none
theorem callS_int : CallS g (fun xs H Q => (∃ i, xs = [.int i] ∧ Q (.int i) H) ∨ ∃ k, xs = [.bl k] ∧ Q (.int (if k then 1 else 0)) H) hInt := by
  intro ds d e w vs lp l0 o Q hq
  unfold hInt at e
  split at e
  · rename_i i
    cases e
    obtain ⟨v, F, rfl, q⟩ := looks1 o
    rw [q.int]
    exact .inl ⟨i, rfl, atom_fin (g := g) hq lp l0 rfl⟩
  · rename_i k
    cases e
    obtain ⟨v, F, rfl, q⟩ := looks1 o
    rw [q.1]
    exact .inr ⟨k, rfl, atom_fin (g := g) hq lp l0 rfl⟩
  · cases e
/-- a list, a tuple as it may be read -/
theorem Ow.node {k : Kd} {fl : Fl} {xs : List D} {v : V} {F : Addr → Prop} (lp : Le w.HP w.H0) (l0 : Le w.H0 w.H) (o : Ow g.c g.X.K w.HP w.H0 w.H (.nd k fl xs) v F) :
    ∃ a vs, v = .ref a ∧ RAt g.c g.X.K w.H a k xs vs ∧ vs.length = xs.length ∧ ∀ (i : Nat) (x : D), xs[i]? = some x → ∃ v1 F1, vs[i]? = some v1 ∧ Ow g.c g.X.K w.HP w.H0 w.H x v1 F1 := by
  have ro : ∀ {fl : Fl}, Ro g.c g.X.K w.HP w.H0 (.nd k fl xs) v → ∃ a vs, v = .ref a ∧ RAt g.c g.X.K w.H a k xs vs ∧ vs.length = xs.length ∧ ∀ (i : Nat) (x : D), xs[i]? = some x → ∃ v1 F1, vs[i]? = some v1 ∧ Ow g.c g.X.K w.HP w.H0 w.H x v1 F1 := by
    intro fl q
    obtain ⟨_, a, vs, e, h1, h2⟩ := q
    have hl : Le (hz fl w.HP w.H0) w.H0 := by cases fl <;> first | exact Le.refl _ | exact lp
    refine ⟨a, vs, e, h1.mono (hl.trans l0), h2.len, fun i x ex => ?_⟩
    obtain ⟨v1, e1, q⟩ := h2.get ex
    exact ⟨v1, fun _ => False, e1, Ow.of_ro (Ro.mono (Le.refl _) x hl q) fun _ => id⟩
  cases fl with
  | ro => exact ro o.1
  | pm => exact ro o.1
  | own =>
    obtain ⟨a, vs, A, F', e, h1, h2, h3, h4, h5⟩ := o
    refine ⟨a, vs, e, h1.rat, h4.len, fun i x ex => ?_⟩
    obtain ⟨v1, F1, e1, q, _⟩ := h4.child ex
    exact ⟨v1, F1, e1, q⟩
def hLen : List D → Option D
  | [.str x] => if x.length ≤ sizeLine then some (.int (x.length : Nat)) else none
  | [.nd k _ xs] => match k with
    | .ins _ => none
    | _ => some (.int (xs.length : Nat))
  | _ => none
def rLenAny (K : PySem.W.Frag) : List V → Hp → VK → Prop := fun vs H Q => (∃ x n, vs = [x] ∧ LenV K x H n ∧ Q (.int n) H) ∨ ((∃ a kvs, vs = [V.ref a] ∧ Rd H a (.dK kvs) ∧ Q (.int kvs.length) H) ∨ ∃ a kvs, vs = [V.ref a] ∧ Rd H a (.dT kvs) ∧ Q (.int kvs.length) H)
theorem call_lenAny {X : Cx} : CallR X (.builtin "len") (rLenAny X.K) := by
  intro pins s σ H xs us Q I r h
  rcases h with h | ⟨a, kvs, rfl, ha, q⟩ | ⟨a, kvs, rfl, ha, q⟩
  · exact call_len pins s σ H xs us Q I r h
  · obtain ⟨u, rfl, ru⟩ := vals1 r
    cases ru
    exact d_len I ha fun t s' I' => ⟨.int kvs.length, H, I', ⟨t, rfl⟩, q⟩
  · obtain ⟨u, rfl, ru⟩ := vals1 r
    cases ru
    obtain ⟨z, hd, ys, rel, dd⟩ := dt_rd I.hok ha
    have hl : kvs.length = ys.length := Paired.length rel
    refine call_len_dictH hd dd (by rw [← hl]; rw [sizeLine_eq] at z; omega) ?_
    rw [← hl]
    exact ⟨.int ((kvs.length : Nat) : Int), H, I.tok _, ⟨_, rfl⟩, q⟩
theorem callS_len : CallS g (rLenAny g.X.K) hLen := by
  intro ds d e w vs lp l0 o Q hq
  unfold hLen at e
  split at e
  · rename_i x
    split at e
    · rename_i hx
      cases e
      obtain ⟨v, F, rfl, q⟩ := looks1 o
      rw [q.strv]
      exact .inl ⟨.str x, x.length, rfl, ⟨hx, rfl⟩, atom_fin (g := g) hq lp l0 rfl⟩
    · cases e
  · rename_i k fl xs
    obtain ⟨v, F, rfl, q⟩ := looks1 o
    obtain ⟨a, vs, rfl, ra, hl, _⟩ := q.node lp l0
    have fin : d = .int (xs.length : Nat) → Q (.int (vs.length : Nat)) w.H := fun ed => by
      subst ed
      rw [hl]
      exact atom_fin (g := g) hq lp l0 rfl
    cases k with
    | ins c => cases e
    | lst => cases e; exact .inl ⟨_, _, rfl, .inl ⟨vs, .inl (.inl ra), rfl⟩, fin rfl⟩
    | scr => cases e; exact .inl ⟨_, _, rfl, .inl ⟨vs, ra, rfl⟩, fin rfl⟩
    | tup => cases e; exact .inl ⟨_, _, rfl, .inr ⟨vs, .inl (.inl ra), rfl⟩, fin rfl⟩
    | dct s ks =>
      cases e
      rcases ra with ⟨kvs, h1, h2, h3, _⟩ | ⟨kvs, h1, h2, h3, _⟩
      · refine .inr (.inl ⟨a, kvs, rfl, h1, ?_⟩)
        have := fin rfl
        rw [h3, List.length_map] at this
        exact this
      · refine .inr (.inr ⟨a, kvs, rfl, h1, ?_⟩)
        have := fin rfl
        rw [h3, List.length_map] at this
        exact this
  · cases e
/-- a new list of what may be shared -/
theorem fin_newlst {ds : List D} {vs : List V} {p : Addr} {Q : VK} (lp : Le w.HP w.H0) (l0 : Le w.H0 w.H) (np : w.H p = none) (hl : RoL g.c g.X.K w.HP w.H0 ds vs)
    (hq : ∀ w' v F, Grow w w' → Ow g.c g.X.K w'.HP w'.H0 w'.H (.nd .lst .own ds) v F → (∀ a, F a → w.H a = none) → Q v w'.H) : Q (.ref p) (upd w.H p (.lst vs)) := by
  have gr := Grow.put (o := .lst vs) lp l0 np
  have oL : ∀ {l : List D} {ws : List V}, RoL g.c g.X.K w.HP w.H0 l ws → OwL g.c g.X.K w.HP w.H0 (upd w.H p (.lst vs)) l ws (fun _ => False) := by
    intro l
    induction l with
    | nil => intro ws q; exact ⟨q, fun _ => id⟩
    | cons x l ih =>
      intro ws q
      obtain ⟨v, r, e, q1, q2⟩ := q
      exact ⟨v, r, fun _ => False, fun _ => False, e, Ow.of_ro q1 fun _ => id, ih q2, fun _ z => z.elim, fun b => by simp⟩
  refine hq (w.put p (.lst vs)) (.ref p) (fun b => b = p) gr ⟨p, vs, [p], fun _ => False, rfl, ⟨upd_same, rfl⟩, fun b hb => ?_, fun _ _ => id, oL hl, fun b => by simp⟩ fun a ha => by rw [ha]; exact np
  have eb : b = p := by simpa using hb
  subst eb
  exact l0.none np
/-- the items of a node that may be shared -/
theorem Ow.items {k : Kd} {fl : Fl} {xs : List D} {v : V} {F : Addr → Prop} (lp : Le w.HP w.H0) (l0 : Le w.H0 w.H) (o : Ow g.c g.X.K w.HP w.H0 w.H (.nd k fl xs) v F) (h : isRoL xs = true) :
    ∃ a vs, v = .ref a ∧ RAt g.c g.X.K w.H a k xs vs ∧ RoL g.c g.X.K w.HP w.H0 xs vs := by
  obtain ⟨a, vs, e, ra, hl, ch⟩ := o.node lp l0
  refine ⟨a, vs, e, ra, RoL.of hl fun i d v e1 e2 => ?_⟩
  obtain ⟨v1, F1, e3, q⟩ := ch i d e1
  rw [e2] at e3
  cases e3
  rw [isRoL_all, List.all_eq_true] at h
  exact (q.ro (h d (List.mem_of_getElem? e1))).1
def hList : List D → Option D
  | [.nd k _ xs] => match k with
    | .lst => if isRoL xs = true then some (.nd .lst .own xs) else none
    | .tup => if isRoL xs = true then some (.nd .lst .own xs) else none
    | .scr => if isRoL xs = true then some (.nd .lst .own xs) else none
    | _ => none
  | _ => none
theorem callS_list : CallS g (fun xs H Q => ∃ p ys, xs = [.ref p] ∧ (SqL g.X.K H p ys ∨ SqT g.X.K H p ys) ∧ ∀ l, H l = none → Q (.ref l) (upd H l (.lst ys))) hList := by
  intro ds d e w vs lp l0 o Q hq
  unfold hList at e
  split at e
  · rename_i k fl xs
    obtain ⟨v, F, rfl, q⟩ := looks1 o
    cases k with
    | lst =>
      by_cases hr : isRoL xs = true
      · simp only [hr, if_true] at e
        cases e
        obtain ⟨a, vs, rfl, ra, rl⟩ := q.items lp l0 hr
        exact ⟨a, vs, rfl, .inl (.inl (.inl ra)), fun l nl => fin_newlst (g := g) lp l0 nl rl hq⟩
      · simp [hr] at e
    | tup =>
      by_cases hr : isRoL xs = true
      · simp only [hr, if_true] at e
        cases e
        obtain ⟨a, vs, rfl, ra, rl⟩ := q.items lp l0 hr
        exact ⟨a, vs, rfl, .inr (.inl (.inl ra)), fun l nl => fin_newlst (g := g) lp l0 nl rl hq⟩
      · simp [hr] at e
    | scr =>
      by_cases hr : isRoL xs = true
      · simp only [hr, if_true] at e
        cases e
        obtain ⟨a, vs, rfl, ra, rl⟩ := q.items lp l0 hr
        exact ⟨a, vs, rfl, .inl ra, fun l nl => fin_newlst (g := g) lp l0 nl rl hq⟩
      · simp [hr] at e
    | _ => cases e
  · cases e
/-- a list of ints -/
def intsOf : List D → Option (List Int)
  | [] => some []
  | .int i :: r => (intsOf r).map (i :: ·)
  | _ :: _ => none
theorem intsOf_v {HP H : Hp} {c : Cs} {K : PySem.W.Frag} : ∀ {xs : List D} {ns : List Int} {vs : List V}, intsOf xs = some ns → RoL c K HP H xs vs → vs = ns.map V.int
  | [], ns, vs, h, r => by cases h; exact r
  | d :: ds, ns, vs, h, r => by
    obtain ⟨v, q, e, r1, r2⟩ := r
    cases d with
    | int i =>
      obtain ⟨m, h1, h2⟩ := Option.map_eq_some_iff.mp (show (intsOf ds).map (i :: ·) = some ns from h)
      subst h2
      rw [e, show v = .int i from r1, intsOf_v h1 r2, List.map_cons]
    | _ => cases h
theorem intsOf_ro : ∀ {xs : List D} {ns : List Int}, intsOf xs = some ns → isRoL xs = true
  | [], _, _ => rfl
  | d :: ds, ns, h => by
    cases d with
    | int i =>
      obtain ⟨m, h1, h2⟩ := Option.map_eq_some_iff.mp (show (intsOf ds).map (i :: ·) = some ns from h)
      show (isRo (.int i) && isRoL ds) = true
      rw [intsOf_ro h1]; rfl
    | _ => cases h
theorem intsOf_map : ∀ (ns : List Int), intsOf (ns.map .int) = some ns
  | [] => rfl
  | n :: r => by
    show (intsOf (r.map .int)).map (n :: ·) = _
    rw [intsOf_map r]; rfl
def lstOf : D → Option (List D)
  | .nd .lst _ xs => some xs
  | .nd .scr _ xs => some xs
  | _ => none
/-- a list of ints at its place -/
theorem lst_ints {d : D} {xs : List D} {ns : List Int} {v : V} {F : Addr → Prop} (lp : Le w.HP w.H0) (l0 : Le w.H0 w.H) (h1 : lstOf d = some xs) (h2 : intsOf xs = some ns) (o : Ow g.c g.X.K w.HP w.H0 w.H d v F) : ∃ a, v = .ref a ∧ SqL g.X.K w.H a (ns.map V.int) := by
  unfold lstOf at h1
  split at h1
  · cases h1
    obtain ⟨a, vs, e, ra, rl⟩ := o.items lp l0 (intsOf_ro h2)
    refine ⟨a, e, ?_⟩
    rw [← intsOf_v h2 rl]
    exact .inl (.inl ra)
  · cases h1
    obtain ⟨a, vs, e, ra, rl⟩ := o.items lp l0 (intsOf_ro h2)
    refine ⟨a, e, ?_⟩
    rw [← intsOf_v h2 rl]
    exact ra
  · cases h1
def hSum : List D → Option D
  | [d] => ((lstOf d).bind intsOf).map fun ns => .int ns.sum
  | _ => none
theorem callS_sum : CallS g (rSum g.X.K) hSum := by
  intro ds d e w vs lp l0 o Q hq
  unfold hSum at e
  split at e
  · rename_i x
    obtain ⟨ns, h1, h2⟩ := Option.map_eq_some_iff.mp e
    obtain ⟨xs, h3, h4⟩ := Option.bind_eq_some_iff.mp h1
    subst h2
    obtain ⟨v, F, rfl, q⟩ := looks1 o
    obtain ⟨a, rfl, sq⟩ := lst_ints lp l0 h3 h4 q
    exact ⟨a, ns, rfl, sq, atom_fin (g := g) hq lp l0 rfl⟩
  · cases e
def minI : List Int → Option Int
  | [] => none
  | [a] => some a
  | a :: r => (minI r).map fun m => if m < a then m else a
theorem minI_mem : ∀ {ns : List Int} {m : Int}, minI ns = some m → m ∈ ns ∧ ∀ y ∈ ns, m ≤ y
  | [], m, h => by cases h
  | [a], m, h => by cases h; simp
  | a :: b :: r, m, h => by
    obtain ⟨k, h1, h2⟩ := Option.map_eq_some_iff.mp (show (minI (b :: r)).map (fun m => if m < a then m else a) = some m from h)
    obtain ⟨i1, i2⟩ := minI_mem h1
    subst h2
    by_cases e : k < a
    · rw [if_pos e]
      refine ⟨List.mem_cons_of_mem _ i1, fun y hy => ?_⟩
      rcases List.mem_cons.mp hy with rfl | hy
      · omega
      · exact i2 y hy
    · rw [if_neg e]
      refine ⟨List.mem_cons_self, fun y hy => ?_⟩
      rcases List.mem_cons.mp hy with rfl | hy
      · omega
      · have := i2 y hy; omega
theorem minI_some : ∀ {ns : List Int}, 0 < ns.length → ∃ m, minI ns = some m
  | [], h => by simp at h
  | [a], _ => ⟨a, rfl⟩
  | a :: b :: r, _ => by
    obtain ⟨m, h⟩ := minI_some (ns := b :: r) (by simp)
    exact ⟨_, by show (minI (b :: r)).map _ = _; rw [h]; rfl⟩
def hMin1 : List D → Option D
  | [d] => ((lstOf d).bind intsOf).bind fun ns => (minI ns).map .int
  | _ => none
theorem callS_min1 : CallS g (rMin g.X.K) hMin1 := by
  intro ds d e w vs lp l0 o Q hq
  unfold hMin1 at e
  split at e
  · rename_i x
    obtain ⟨ns, h1, h2⟩ := Option.bind_eq_some_iff.mp e
    obtain ⟨xs, h3, h4⟩ := Option.bind_eq_some_iff.mp h1
    obtain ⟨m, h5, h6⟩ := Option.map_eq_some_iff.mp h2
    subst h6
    obtain ⟨v, F, rfl, q⟩ := looks1 o
    obtain ⟨a, rfl, sq⟩ := lst_ints lp l0 h3 h4 q
    obtain ⟨m1, m2⟩ := minI_mem h5
    refine ⟨a, ns, rfl, sq, List.length_pos_of_mem m1, fun m' k1 k2 => ?_⟩
    have em : m' = m := by
      have a1 := m2 m' k1
      have a2 := k2 m m1
      omega
    subst em
    exact atom_fin (g := g) hq lp l0 rfl
  · cases e
/-- ints in order -/
def insI (a : Int) : List Int → List Int
  | [] => [a]
  | b :: r => if a ≤ b then a :: b :: r else b :: insI a r
def sortI : List Int → List Int
  | [] => []
  | a :: r => insI a (sortI r)
theorem insI_perm (a : Int) : ∀ l : List Int, (insI a l).Perm (a :: l)
  | [] => .refl _
  | b :: r => by
    unfold insI
    split
    · exact .refl _
    · exact (List.Perm.cons b (insI_perm a r)).trans (List.Perm.swap a b r)
theorem sortI_perm : ∀ l : List Int, (sortI l).Perm l
  | [] => .refl _
  | a :: r => (insI_perm a _).trans (List.Perm.cons a (sortI_perm r))
theorem insI_sorted (a : Int) : ∀ {l : List Int}, l.Pairwise (· ≤ ·) → (insI a l).Pairwise (· ≤ ·)
  | [], _ => by simp [insI]
  | b :: r, h => by
    obtain ⟨h1, h2⟩ := List.pairwise_cons.mp h
    unfold insI
    split
    · rename_i e
      refine List.pairwise_cons.mpr ⟨fun y hy => ?_, h⟩
      rcases List.mem_cons.mp hy with rfl | hy
      · exact e
      · have := h1 y hy; omega
    · rename_i e
      refine List.pairwise_cons.mpr ⟨fun y hy => ?_, insI_sorted a h2⟩
      rcases List.mem_cons.mp ((insI_perm a r).mem_iff.mp hy) with rfl | hy
      · omega
      · exact h1 y hy
theorem sortI_sorted : ∀ l : List Int, (sortI l).Pairwise (· ≤ ·)
  | [] => .nil
  | a :: r => insI_sorted a (sortI_sorted r)
theorem sorted_unique : ∀ {l m : List Int}, l.Perm m → l.Pairwise (· ≤ ·) → m.Pairwise (· ≤ ·) → l = m := fun p h1 h2 =>
  p.eq_of_pairwise (fun a b _ _ x y => by omega) h1 h2
def hSorted : List D → Option D
  | [d] => ((lstOf d).bind intsOf).map fun ns => .nd .lst .own ((sortI ns).map .int)
  | _ => none
theorem roL_ints {HP H : Hp} {c : Cs} {K : PySem.W.Frag} : ∀ ns : List Int, RoL c K HP H (ns.map .int) (ns.map V.int)
  | [] => rfl
  | n :: r => ⟨.int n, r.map V.int, rfl, rfl, roL_ints r⟩
theorem callS_sorted : CallS g (rSortedI g.X.K) hSorted := by
  intro ds d e w vs lp l0 o Q hq
  unfold hSorted at e
  split at e
  · rename_i x
    obtain ⟨ns, h1, h2⟩ := Option.map_eq_some_iff.mp e
    obtain ⟨xs, h3, h4⟩ := Option.bind_eq_some_iff.mp h1
    subst h2
    obtain ⟨v, F, rfl, q⟩ := looks1 o
    obtain ⟨a, rfl, sq⟩ := lst_ints lp l0 h3 h4 q
    refine ⟨a, ns, rfl, sq, fun ns' p pm srt np => ?_⟩
    have en : ns' = sortI ns := sorted_unique (pm.trans (sortI_perm ns).symm) srt (sortI_sorted ns)
    subst en
    exact fin_newlst (g := g) lp l0 np (roL_ints _) hq
  · cases e
end
end DL
set_option Elab.async false
set_option linter.all false
set_option maxRecDepth 100000
set_option maxHeartbeats 4000000
namespace DL
open PySem PySem.Spec PyProof.Rows L2

/-! ### operators by data -/
section
variable {g : G} {w : Wd}
abbrev hAddI : D → D → Option D := hI fun i j => some (i + j)
abbrev hSubI : D → D → Option D := hI fun i j => some (i - j)
theorem opS_addI : OpS g (rI0 fun i j => .int (i + j)) hAddI := opS_I (C := fun _ _ => True) (q := fun i j => i + j) (fun x y H Q ⟨i, j, a, b, _, q⟩ => ⟨i, j, a, b, q⟩) fun i j k e => ⟨trivial, by cases e; rfl⟩
theorem opS_subI : OpS g (rI0 fun i j => .int (i - j)) hSubI := opS_I (C := fun _ _ => True) (q := fun i j => i - j) (fun x y H Q ⟨i, j, a, b, _, q⟩ => ⟨i, j, a, b, q⟩) fun i j k e => ⟨trivial, by cases e; rfl⟩
/-- a product, one factor small -/
def mulOk (i j : Int) : Bool := (decide (-(2 ^ 64) < i) && decide (i < 2 ^ 64)) || (decide (-(2 ^ 64) < j) && decide (j < 2 ^ 64))
abbrev hMulI : D → D → Option D := hI fun i j => if mulOk i j = true then some (i * j) else none
theorem opS_mulI : OpS g (rI CMul fun i j => .int (i * j)) hMulI := opS_I (q := fun i j => i * j) (fun _ _ _ _ h => h) fun i j k e => by
  split at e
  · rename_i h
    cases e
    refine ⟨?_, rfl⟩
    unfold mulOk at h
    simp only [Bool.or_eq_true, Bool.and_eq_true, decide_eq_true_eq] at h
    exact h
  · cases e
abbrev hDivI : D → D → Option D := hI fun i j => if 0 < j ∧ j < 1073741824 then some (i / j) else none
theorem opS_divI : OpS g (rI CDiv fun i j => .int (i / j)) hDivI := opS_I (q := fun i j => i / j) (fun _ _ _ _ h => h) fun i j k e => by
  split at e
  · rename_i h
    cases e
    exact ⟨h, rfl⟩
  · cases e
abbrev hModI : D → D → Option D := hI fun i j => if 0 < j then some (i % j) else none
theorem opS_modI : OpS g (rI (fun _ j => 0 < j) fun i j => .int (i % j)) hModI := opS_I (q := fun i j => i % j) (fun _ _ _ _ h => h) fun i j k e => by
  split at e
  · rename_i h
    cases e
    exact ⟨h, rfl⟩
  · cases e
abbrev hShrI : D → D → Option D := hI fun i j => if 0 ≤ j then some (i / 2 ^ j.toNat) else none
theorem opS_shrI : OpS g (rI (fun _ j => 0 ≤ j) fun i j => .int (i / 2 ^ j.toNat)) hShrI := opS_I (q := fun i j => i / 2 ^ j.toNat) (fun _ _ _ _ h => h) fun i j k e => by
  split at e
  · rename_i h
    cases e
    exact ⟨h, rfl⟩
  · cases e
abbrev hAndI : D → D → Option D := hI fun i j => some (Builtin.bitAnd i j)
theorem opS_andI : OpS g (rI0 fun i j => .int (Builtin.bitAnd i j)) hAndI := opS_I (C := fun _ _ => True) (q := fun i j => Builtin.bitAnd i j) (fun x y H Q ⟨i, j, a, b, _, q⟩ => ⟨i, j, a, b, q⟩) fun i j k e => ⟨trivial, by cases e; rfl⟩
/-- texts joined -/
def hAddS : D → D → Option D
  | .str x, .str y => if x.length + y.length ≤ sizeLine then some (.str (x ++ y)) else none
  | _, _ => none
theorem opS_addS : OpS g (fun x y H Q => ∃ i j, x = .str i ∧ y = .str j ∧ i.length + j.length ≤ sizeLine ∧ Q (.str (i ++ j)) H) hAddS := by
  intro dx dy d eh w vx vy Fx Fy lp l0 o1 o2 Q hq
  unfold hAddS at eh
  split at eh
  · rename_i x y
    split at eh
    · rename_i hl
      cases eh
      exact ⟨x, y, o1.strv, o2.strv, hl, atom_fin (g := g) hq lp l0 rfl⟩
    · cases eh
  · cases eh
theorem RoL.append {HP H : Hp} {c : Cs} {K : PySem.W.Frag} : ∀ {xs ys : List D} {vs us : List V}, RoL c K HP H xs vs → RoL c K HP H ys us → RoL c K HP H (xs ++ ys) (vs ++ us)
  | [], ys, vs, us, h, k => by
    have e : vs = [] := h
    subst e
    exact k
  | x :: xs, ys, vs, us, h, k => by
    obtain ⟨v, r, e, h1, h2⟩ := h
    subst e
    exact ⟨v, r ++ us, rfl, h1, RoL.append h2 k⟩
/-- lists joined: a new one -/
def hCat : D → D → Option D
  | .nd .lst _ xs, .nd .lst _ ys => if isRoL xs = true ∧ isRoL ys = true ∧ xs.length + ys.length ≤ sizeLine then some (.nd .lst .own (xs ++ ys)) else none
  | _, _ => none
theorem opS_cat : OpS g rCat hCat := by
  intro dx dy d eh w vx vy Fx Fy lp l0 o1 o2 Q hq
  unfold hCat at eh
  split at eh
  · rename_i f1 xs f2 ys
    split at eh
    · rename_i hl
      cases eh
      obtain ⟨a, vs, e1, ra, rl⟩ := o1.items lp l0 hl.1
      obtain ⟨b, us, e2, rb, rl2⟩ := o2.items lp l0 hl.2.1
      exact ⟨a, b, vs, us, e1, e2, ra, rb, by rw [rl.len, rl2.len]; exact hl.2.2, fun p np => fin_newlst (g := g) lp l0 np (rl.append rl2) hq⟩
    · cases eh
  · cases eh
/-- a list repeated: a new one -/
def hRep : D → D → Option D
  | .nd .lst _ xs, .int k => if isRoL xs = true ∧ k < 2 ^ 31 ∧ -(2 ^ 31) < k ∧ xs.length * k.toNat ≤ sizeLine then some (.nd .lst .own (List.replicate k.toNat xs).flatten) else none
  | _, _ => none
theorem RoL.rep {HP H : Hp} {c : Cs} {K : PySem.W.Frag} {xs : List D} {vs : List V} (h : RoL c K HP H xs vs) : ∀ k : Nat, RoL c K HP H (List.replicate k xs).flatten (List.replicate k vs).flatten
  | 0 => rfl
  | k + 1 => by
    rw [List.replicate_succ, List.replicate_succ, List.flatten_cons, List.flatten_cons]
    exact h.append (RoL.rep h k)
theorem opS_rep : OpS g rRep hRep := by
  intro dx dy d eh w vx vy Fx Fy lp l0 o1 o2 Q hq
  unfold hRep at eh
  split at eh
  · rename_i f1 xs k
    split at eh
    · rename_i hl
      cases eh
      obtain ⟨a, vs, e1, ra, rl⟩ := o1.items lp l0 hl.1
      exact ⟨a, k, vs, e1, o2.int, ra, by have := hl.2.2.1; omega, by have := hl.2.1; omega, by rw [rl.len]; exact hl.2.2.2, fun p np => fin_newlst (g := g) lp l0 np (rl.rep _) hq⟩
    · cases eh
  · cases eh
theorem OpR.or3 {X : Cx} {f : Value → Value → Sem Value} {r r' r'' : R2} (h : OpR X f r) (h' : OpR X f r') (h'' : OpR X f r'') : OpR X f (fun x y H Q => r x y H Q ∨ (fun x y H Q => r' x y H Q ∨ r'' x y H Q) x y H Q) := h.or (h'.or h'')
/-- + of ints, texts, lists -/
def hAdd : D → D → Option D := hOr hAddI (hOr hAddS hCat)
theorem op_addA {X : Cx} : OpR X (binaryOp .Add) (fun x y H Q => (rI0 fun i j => .int (i + j)) x y H Q ∨ (fun x y H Q => (∃ i j, x = .str i ∧ y = .str j ∧ i.length + j.length ≤ sizeLine ∧ Q (.str (i ++ j)) H) ∨ rCat x y H Q) x y H Q) := op_add.or (op_add_str.or op_cat)
theorem opS_addA : OpS g (fun x y H Q => (rI0 fun i j => .int (i + j)) x y H Q ∨ (fun x y H Q => (∃ i j, x = .str i ∧ y = .str j ∧ i.length + j.length ≤ sizeLine ∧ Q (.str (i ++ j)) H) ∨ rCat x y H Q) x y H Q) hAdd := opS_addI.or (opS_addS.or opS_cat)
/-- * of ints, a list by an int -/
def hMul : D → D → Option D := hOr hMulI hRep
theorem op_mulA {X : Cx} : OpR X (binaryOp .Mult) (fun x y H Q => (rI CMul fun i j => .int (i * j)) x y H Q ∨ rRep x y H Q) := op_mul.or op_rep
theorem opS_mulA : OpS g (fun x y H Q => (rI CMul fun i j => .int (i * j)) x y H Q ∨ rRep x y H Q) hMul := opS_mulI.or opS_rep

/-! ### == and in -/
mutual
def toPy : D → PyData
  | .non => .none
  | .bl b => .bool b
  | .int i => .int i
  | .str x => .str x
  | .uns => .dict []
  | .nd k _ xs => match k with
    | .lst => .list (toPyL xs)
    | .scr => .list (toPyL xs)
    | .tup => .tuple (toPyL xs)
    | _ => .dict []
def toPyL : List D → List PyData
  | [] => []
  | d :: ds => toPy d :: toPyL ds
end
def seqK : Kd → Bool
  | .lst => true
  | .scr => true
  | .tup => true
  | _ => false
mutual
/-- data that == compares, at most so deep -/
def dok : Nat → D → Bool
  | _, .non => true
  | _, .bl _ => true
  | _, .int _ => true
  | _, .str x => PyData.strOk x
  | _, .uns => false
  | 0, .nd _ _ _ => false
  | n + 1, .nd k _ xs => seqK k && dokL n xs
def dokL : Nat → List D → Bool
  | _, [] => true
  | n, d :: ds => dok n d && dokL n ds
end
theorem dokL_all (n : Nat) : ∀ xs : List D, dokL n xs = xs.all (dok n)
  | [] => by simp [dokL]
  | d :: ds => by rw [dokL, dokL_all n ds]; rfl
theorem toPyL_map : ∀ xs : List D, toPyL xs = xs.map toPy
  | [] => by simp [toPyL]
  | d :: ds => by rw [toPyL, toPyL_map ds]; rfl
theorem canLayAll_all : ∀ ds : List PyData, PyData.canLayAll0 ds = ds.all PyData.canLay0
  | [] => by simp [PyData.canLayAll0]
  | d :: ds => by rw [PyData.canLayAll0, canLayAll_all ds]; rfl
theorem depthAll_le {n : Nat} : ∀ {ds : List PyData}, (∀ d ∈ ds, d.depth ≤ n) → PyData.depthAll ds ≤ n
  | [], _ => by simp [PyData.depthAll]
  | d :: ds, h => by
    rw [PyData.depthAll]
    exact Nat.max_le.mpr ⟨h d (by simp), depthAll_le fun x hx => h x (by simp [hx])⟩
theorem dok_ok (d : D) : ∀ n : Nat, dok n d = true → (toPy d).canLay0 = true ∧ (toPy d).depth ≤ n := by
  induction d using D.ind with
  | h6 k o xs ih =>
    intro n h
    cases n with
    | zero => rw [dok] at h; cases h
    | succ n =>
      rw [dok, Bool.and_eq_true, dokL_all, List.all_eq_true] at h
      obtain ⟨hk, hx⟩ := h
      have hc : (toPyL xs).all PyData.canLay0 = true := by
        rw [toPyL_map, List.all_eq_true]
        intro p hp
        obtain ⟨x, hx2, e⟩ := List.mem_map.mp hp
        rw [← e]; exact (ih x hx2 n (hx x hx2)).1
      have hd : PyData.depthAll (toPyL xs) ≤ n := by
        refine depthAll_le fun p hp => ?_
        rw [toPyL_map] at hp
        obtain ⟨x, hx2, e⟩ := List.mem_map.mp hp
        rw [← e]; exact (ih x hx2 n (hx x hx2)).2
      cases k with
      | lst => exact ⟨by rw [toPy, PyData.canLay0, canLayAll_all]; exact hc, by rw [toPy, PyData.depth]; omega⟩
      | scr => exact ⟨by rw [toPy, PyData.canLay0, canLayAll_all]; exact hc, by rw [toPy, PyData.depth]; omega⟩
      | tup => exact ⟨by rw [toPy, PyData.canLay0, canLayAll_all]; exact hc, by rw [toPy, PyData.depth]; omega⟩
      | _ => cases hk
  | h4 x =>
    intro n h
    have h : PyData.strOk x = true := by cases n <;> exact h
    exact ⟨by rw [toPy, PyData.canLay0]; exact h, by rw [toPy, PyData.depth]; omega⟩
  | h5 => intro n h; cases n <;> cases h
  | _ => intro n h; exact ⟨by rw [toPy, PyData.canLay0], by rw [toPy, PyData.depth]; omega⟩
theorem dok_shaped {d : D} {n : Nat} (hn : n ≤ 64) (h : dok n d = true) : SeqAt.shaped (toPy d) = true := by
  obtain ⟨h1, h2⟩ := dok_ok d n h
  unfold SeqAt.shaped
  rw [h1, Bool.true_and]
  exact decide_eq_true (by omega)
theorem Ow.dp (lp : Le w.HP w.H0) (l0 : Le w.H0 w.H) (d : D) : ∀ (n : Nat) {v : V} {F : Addr → Prop}, dok n d = true → Ow g.c g.X.K w.HP w.H0 w.H d v F → Dp g.X.K w.H v (toPy d) := by
  induction d using D.ind with
  | h6 k o xs ih =>
    intro n v F h q
    cases n with
    | zero => rw [dok] at h; cases h
    | succ n =>
      rw [dok, Bool.and_eq_true, dokL_all, List.all_eq_true] at h
      obtain ⟨hk, hx⟩ := h
      obtain ⟨a, vs, e, ra, hl, ch⟩ := q.node lp l0
      subst e
      have all : ∀ {l : List D} {ws : List V}, (∀ x ∈ l, x ∈ xs) → ws.length = l.length → (∀ (i : Nat) (x : D), l[i]? = some x → ∃ v1 F1, ws[i]? = some v1 ∧ Ow g.c g.X.K w.HP w.H0 w.H x v1 F1) → DpAll g.X.K w.H ws (toPyL l) := by
        intro l
        induction l with
        | nil =>
          intro ws _ e _
          have : ws = [] := by simpa using e
          subst this
          rw [toPyL]
          exact .nil
        | cons x l ihl =>
          intro ws hm e hc
          cases ws with
          | nil => simp at e
          | cons v r =>
            rw [toPyL]
            obtain ⟨v1, F1, e1, q1⟩ := hc 0 x rfl
            cases e1
            exact .cons (ih x (hm x (by simp)) n (hx x (hm x (by simp))) q1) (ihl (fun y hy => hm y (by simp [hy])) (by simpa using e) fun i y hy => hc (i + 1) y (by simpa using hy))
      have da := all (fun _ h => h) hl ch
      cases k with
      | lst => rw [toPy]; exact .lst (.inl (.inl ra)) da
      | scr => rw [toPy]; exact .lst ra da
      | tup => rw [toPy]; exact .tup (.inl (.inl ra)) da
      | _ => cases hk
  | h1 => intro n v F h q; rw [q.1, toPy]; exact .non
  | h2 b => intro n v F h q; rw [q.1, toPy]; exact .bl b
  | h3 b => intro n v F h q; rw [q.1, toPy]; exact .int b
  | h4 b => intro n v F h q; rw [q.1, toPy]; exact .str b
  | h5 => intro n v F h q; cases n <;> cases h
mutual
/-- == of data -/
def eqd : D → D → Bool
  | .non, .non => true
  | .bl a, .bl b => a == b
  | .bl a, .int j => (if a = true then 1 else 0) == j
  | .int i, .bl b => i == (if b = true then 1 else 0)
  | .int i, .int j => i == j
  | .str x, .str y => x == y
  | .nd k _ xs, .nd k' _ ys => (match k, k' with
    | .tup, .tup => true
    | .lst, .lst => true
    | .lst, .scr => true
    | .scr, .lst => true
    | .scr, .scr => true
    | _, _ => false) && eqdL xs ys
  | _, _ => false
def eqdL : List D → List D → Bool
  | [], [] => true
  | x :: xs, y :: ys => eqd x y && eqdL xs ys
  | _, _ => false
end
theorem eqd_py (x : D) : ∀ (n m : Nat) (y : D), dok n x = true → dok m y = true → PyData.eqv (toPy x) (toPy y) = eqd x y := by
  induction x using D.ind with
  | h6 k o xs ih =>
    intro n m y hx hy
    cases n with
    | zero => rw [dok] at hx; cases hx
    | succ n =>
      rw [dok, Bool.and_eq_true, dokL_all, List.all_eq_true] at hx
      obtain ⟨hk, hx⟩ := hx
      cases y with
      | nd k' o' ys =>
        cases m with
        | zero => rw [dok] at hy; cases hy
        | succ m =>
          rw [dok, Bool.and_eq_true, dokL_all, List.all_eq_true] at hy
          obtain ⟨hk', hy⟩ := hy
          have all : ∀ {l r : List D}, (∀ x ∈ l, x ∈ xs) → (∀ y ∈ r, y ∈ ys) → PyData.eqvAll (toPyL l) (toPyL r) = eqdL l r := by
            intro l
            induction l with
            | nil =>
              intro r _ _
              cases r with
              | nil => rw [toPyL, PyData.eqvAll, eqdL]
              | cons y r => rw [toPyL, toPyL, PyData.eqvAll, eqdL] <;> simp
            | cons x l ihl =>
              intro r hm hr
              cases r with
              | nil => rw [toPyL, toPyL, PyData.eqvAll, eqdL] <;> simp
              | cons y r =>
                rw [toPyL, toPyL, PyData.eqvAll, eqdL, ih x (hm x (by simp)) n m y (hx x (hm x (by simp))) (hy y (hr y (by simp))), ihl (fun z hz => hm z (by simp [hz])) fun z hz => hr z (by simp [hz])]
          have e := all (l := xs) (r := ys) (fun _ h => h) (fun _ h => h)
          cases k <;> first | (cases hk; done) | skip
          all_goals cases k' <;> first | (cases hk'; done) | skip
          all_goals simp only [toPy, PyData.eqv, eqd, e, Bool.true_and, Bool.false_and]
      | str z => cases k <;> first | (cases hk; done) | (simp [toPy, PyData.eqv, eqd])
      | uns => cases m <;> cases hy
      | _ => cases k <;> first | (cases hk; done) | (simp [toPy, PyData.eqv, eqd])
  | h5 => intro n m y hx hy; cases n <;> cases hx
  | _ =>
    intro n m y hx hy
    cases y with
    | nd k' o' ys =>
      cases m with
      | zero => rw [dok] at hy; cases hy
      | succ m =>
        rw [dok, Bool.and_eq_true] at hy
        cases k' <;> first | (cases hy.1; done) | (simp [toPy, PyData.eqv, eqd])
    | uns => cases m <;> cases hy
    | _ => simp [toPy, PyData.eqv, eqd]
def hEq (x y : D) : Option D := if dok 40 x = true ∧ dok 40 y = true then some (.bl (eqd x y)) else none
def hNe (x y : D) : Option D := if dok 40 x = true ∧ dok 40 y = true then some (.bl (!eqd x y)) else none
theorem blS_eq : BlS g (rEqD g.X.K) hEq := by
  intro dx dy d eh w vx vy Fx Fy lp l0 o1 o2
  unfold hEq at eh
  split at eh
  · rename_i h
    cases eh
    refine ⟨_, rfl, fun Q hq => ⟨toPy dx, toPy dy, o1.dp lp l0 dx 40 h.1, o2.dp lp l0 dy 40 h.2, dok_shaped (by omega) h.1, dok_shaped (by omega) h.2, ?_⟩⟩
    rw [eqd_py dx 40 40 dy h.1 h.2]
    exact hq
  · cases eh
theorem blS_ne : BlS g (rNeD g.X.K) hNe := by
  intro dx dy d eh w vx vy Fx Fy lp l0 o1 o2
  unfold hNe at eh
  split at eh
  · rename_i h
    cases eh
    refine ⟨_, rfl, fun Q hq => ⟨toPy dx, toPy dy, o1.dp lp l0 dx 40 h.1, o2.dp lp l0 dy 40 h.2, dok_shaped (by omega) h.1, dok_shaped (by omega) h.2, ?_⟩⟩
    rw [eqd_py dx 40 40 dy h.1 h.2]
    exact hq
  · cases eh
end
end DL
set_option Elab.async false
set_option linter.all false
set_option maxRecDepth 100000
set_option maxHeartbeats 4000000
namespace DL
open PySem PySem.Spec PyProof.Rows L2

section
variable {g : G} {w : Wd} {e a b c : Expr} {es : List Expr} {i j cc : Nat} {T Ta Tb Tc R Ra Rb : List Nat} {f fa fb fc : Env → ER} {fs : Env → LR} {fp : Env → PR} {p pos : Pos} {rest : List Expr} {x : Str}
/-! ### in -/
/-- is the key of the dict's sort? -/
def okKey (s : KS) (k : KD) : Bool := match s, k with
  | .k, .k _ => true
  | .t, .t _ => true
  | _, _ => false
theorem DRd.has {H : Hp} {a : Addr} {s : KS} {ks : List KD} {vs : List V} {k : KD} {y : V} (h : DRd H a s ks vs) (hk : KeyV H k y) (hm : okKey s k = true) :
    ∃ o : Option V, DGet H a y o ∧ o.isSome = (keyIx ks k).isSome := by
  have isv : ∀ {κ : Type} [DecidableEq κ] (kvs : List (κ × V)) (k : κ), (valV kvs k).isSome = (kvs.findIdx? fun p => decide (p.1 = k)).isSome := by
    intro κ _ kvs k
    rw [← valV_any, List.findIdx?_isSome]
  rcases h with ⟨kvs, h, r1, r2, r3, _⟩ | ⟨kvs, h, r1, r2, r3, _⟩
  · subst r1 r2 r3
    cases k with
    | k x =>
      refine ⟨valV kvs x, .inl ⟨kvs, x, h, hk, rfl⟩, ?_⟩
      rw [keyIx_k]
      exact isv kvs x
    | t l => cases hm
  · subst r1 r2 r3
    cases k with
    | t l =>
      obtain ⟨b, e1, e2⟩ := hk
      refine ⟨valV kvs l, .inr ⟨kvs, l, b, h, e1, e2, rfl⟩, ?_⟩
      rw [keyIx_t]
      exact isv kvs l
    | k x => cases hm
def flatD : D → Bool
  | .non => true
  | .bl _ => true
  | .int _ => true
  | .str _ => true
  | _ => false
/-- is it in? -/
def inD (x : D) : D → Option Bool
  | .nd k _ xs => match k with
    | .lst => if dok 40 x = true ∧ dokL 39 xs = true then some (xs.any fun z => eqd z x) else none
    | .scr => if dok 40 x = true ∧ dokL 39 xs = true then some (xs.any fun z => eqd z x) else none
    | .tup => if flatD x = true ∧ xs.all flatD = true then some (xs.any fun z => eqd z x) else none
    | .dct so ks => match keyD x with
      | some k => if okKey so k = true then some (keyIx ks k).isSome else none
      | none => none
    | _ => none
  | .str y => match x with
    | .str z => some (!(Builtin.Str.occurrences y z 0 y.length 1).isEmpty)
    | _ => none
  | _ => none
def rDin (neg : Bool) : R2 := fun y x H Q => ∃ a o, x = .ref a ∧ DGet H a y o ∧ Q (.bl (if neg then !o.isSome else o.isSome)) H
def rSin (neg : Bool) : R2 := fun x y H Q => ∃ i j, x = .str i ∧ y = .str j ∧ Q (.bl (if neg then !(!(Builtin.Str.occurrences j i 0 j.length 1).isEmpty) else !(Builtin.Str.occurrences j i 0 j.length 1).isEmpty)) H
def rInA (K : PySem.W.Frag) : R2 := fun x y H Q => (rInD K x y H Q ∨ rIn K false x y H Q) ∨ (rDin false x y H Q ∨ rSin false x y H Q)
def rNinA (K : PySem.W.Frag) : R2 := fun x y H Q => (rNotInD K x y H Q ∨ rIn K true x y H Q) ∨ (rDin true x y H Q ∨ rSin true x y H Q)
theorem op_din {X : Cx} (hu : X.A.units + 1 < cLine) : OpR X (compareOp .In) (rDin false) := by
  intro pins s σ H x y v u Q I rx ry h
  obtain ⟨a, o, rfl, gq, q⟩ := h
  cases ry
  exact d_in hu I gq rx fun s' I' => ⟨.bl o.isSome, H, I', rfl, q⟩
theorem op_dnin {X : Cx} (hu : X.A.units + 1 < cLine) : OpR X (compareOp .NotIn) (rDin true) := by
  intro pins s σ H x y v u Q I rx ry h
  obtain ⟨a, o, rfl, gq, q⟩ := h
  cases ry
  exact d_notIn hu I gq rx fun s' I' => ⟨.bl (!o.isSome), H, I', rfl, q⟩
theorem op_sin {X : Cx} : OpR X (compareOp .In) (rSin false) := fun pins s σ H x y v u Q I rx ry h => op_in_str pins s σ H x y v u Q I rx ry h
theorem op_snin {X : Cx} : OpR X (compareOp .NotIn) (rSin true) := fun pins s σ H x y v u Q I rx ry h => op_notin_str pins s σ H x y v u Q I rx ry h
theorem op_inA {X : Cx} (hu : X.A.units + 65 < cLine) : OpR X (compareOp .In) (rInA X.K) := ((op_inD hu).or op_in_seq).or ((op_din (by omega)).or op_sin)
theorem op_ninA {X : Cx} (hu : X.A.units + 65 < cLine) : OpR X (compareOp .NotIn) (rNinA X.K) := ((op_notInD hu).or op_notIn_seq).or ((op_dnin (by omega)).or op_snin)
theorem flatD_v {w : Wd} {d : D} {v : V} {F : Addr → Prop} (h : flatD d = true) (o : Ow g.c g.X.K w.HP w.H0 w.H d v F) : flatV v = true ∧ AV d v := by
  cases d with
  | nd k fl xs => cases h
  | uns => cases h
  | _ => rw [o.1]; exact ⟨rfl, rfl⟩
theorem eqV_eqd {d e : D} {v u : V} (h1 : AV d v) (h2 : AV e u) : eqV v u = eqd d e := by
  cases d <;> first | (cases h1; done) | skip
  all_goals cases e <;> first | (cases h2; done) | skip
  all_goals (cases h1; cases h2; simp [eqV, eqd])
theorem any_py {n : Nat} (x : D) (hx : dok 40 x = true) : ∀ {xs : List D}, dokL n xs = true → ((toPyL xs).any fun z => PyData.eqv z (toPy x)) = xs.any fun z => eqd z x
  | [], _ => by rw [toPyL]; rfl
  | d :: ds, h => by
    rw [dokL, Bool.and_eq_true] at h
    rw [toPyL, List.any_cons, List.any_cons, eqd_py d n 40 x h.1 hx, any_py x hx h.2]
/-- in, not in, at once: k: what is told of the answer -/
theorem in_run {dx dy : D} {k : Bool} (eh : inD dx dy = some k) {vx vy : V} {Fx Fy : Addr → Prop} (lp : Le w.HP w.H0) (l0 : Le w.H0 w.H) (o1 : Ow g.c g.X.K w.HP w.H0 w.H dx vx Fx) (o2 : Ow g.c g.X.K w.HP w.H0 w.H dy vy Fy) :
    (∃ d ds, Dp g.X.K w.H vx d ∧ Dp g.X.K w.H vy (.list ds) ∧ SeqAt.shaped d = true ∧ SeqAt.shaped (.list ds) = true ∧ (ds.any fun z => PyData.eqv z d) = k) ∨
    (∃ p xs, vy = .ref p ∧ (SqL g.X.K w.H p xs ∨ SqT g.X.K w.H p xs) ∧ flatV vx = true ∧ xs.all flatV = true ∧ inV vx xs = k) ∨
    (∃ a o, vy = .ref a ∧ DGet w.H a vx o ∧ o.isSome = k) ∨ (∃ i j, vx = .str i ∧ vy = .str j ∧ (!(Builtin.Str.occurrences j i 0 j.length 1).isEmpty) = k) := by
  have seq : ∀ {fl : Fl} {xs : List D} {kk : Kd}, (kk = .lst ∨ kk = .scr) → dy = .nd kk fl xs → dok 40 dx = true → dokL 39 xs = true → (xs.any fun z => eqd z dx) = k →
      ∃ d ds, Dp g.X.K w.H vx d ∧ Dp g.X.K w.H vy (.list ds) ∧ SeqAt.shaped d = true ∧ SeqAt.shaped (.list ds) = true ∧ (ds.any fun z => PyData.eqv z d) = k := by
    intro fl xs kk hk e h1 h2 h3
    subst e
    have h4 : dok 40 (.nd kk fl xs) = true := by
      rcases hk with rfl | rfl <;> (rw [dok, Bool.and_eq_true]; exact ⟨rfl, h2⟩)
    have hp : toPy (.nd kk fl xs) = .list (toPyL xs) := by rcases hk with rfl | rfl <;> rw [toPy]
    have q2 := o2.dp lp l0 _ 40 h4
    have q3 := dok_shaped (n := 40) (by omega) h4
    rw [hp] at q2 q3
    exact ⟨toPy dx, toPyL xs, o1.dp lp l0 dx 40 h1, q2, dok_shaped (by omega) h1, q3, (any_py dx h1 h2).trans h3⟩
  cases dy with
  | nd kk fl xs =>
    cases kk with
    | lst =>
      unfold inD at eh
      dsimp only at eh
      split at eh
      · rename_i h; cases eh; exact .inl (seq (.inl rfl) rfl h.1 h.2 rfl)
      · cases eh
    | scr =>
      unfold inD at eh
      dsimp only at eh
      split at eh
      · rename_i h; cases eh; exact .inl (seq (.inr rfl) rfl h.1 h.2 rfl)
      · cases eh
    | tup =>
      unfold inD at eh
      dsimp only at eh
      split at eh
      · rename_i h
        cases eh
        obtain ⟨a, vs, e, ra, hl, ch⟩ := o2.node lp l0
        obtain ⟨f1, av⟩ := flatD_v h.1 o1
        have key : ∀ {l : List D} {ws : List V}, l.all flatD = true → ws.length = l.length → (∀ (i : Nat) (x : D), l[i]? = some x → ∃ v1 F1, ws[i]? = some v1 ∧ Ow g.c g.X.K w.HP w.H0 w.H x v1 F1) → ws.all flatV = true ∧ inV vx ws = l.any fun z => eqd z dx := by
          intro l
          induction l with
          | nil =>
            intro ws _ e _
            have : ws = [] := by simpa using e
            subst this
            exact ⟨rfl, rfl⟩
          | cons x l ih =>
            intro ws hf e hc
            cases ws with
            | nil => simp at e
            | cons v r =>
              obtain ⟨v1, F1, e1, q1⟩ := hc 0 x rfl
              cases e1
              simp only [List.all_cons, Bool.and_eq_true] at hf
              obtain ⟨f2, av2⟩ := flatD_v hf.1 q1
              obtain ⟨i1, i2⟩ := ih hf.2 (by simpa using e) fun i y hy => hc (i + 1) y (by simpa using hy)
              refine ⟨by rw [List.all_cons, f2, i1]; rfl, ?_⟩
              have i2' : (r.any fun y => eqV y vx) = l.any fun z => eqd z dx := i2
              show (eqV v vx || r.any fun y => eqV y vx) = _
              rw [i2', eqV_eqd av2 av, List.any_cons]
        obtain ⟨k1, k2⟩ := key h.2 hl ch
        exact .inr (.inl ⟨a, vs, e, .inr (.inl (.inl ra)), f1, k1, k2⟩)
      · cases eh
    | dct so ks =>
      unfold inD at eh
      dsimp only at eh
      split at eh
      · rename_i kd hk
        split at eh
        · rename_i hs
          cases eh
          obtain ⟨a, vs, e, ra, hl, ch⟩ := o2.node lp l0
          have kv : KeyV w.H kd vx := keyD_v (lp.trans l0) (by rw [keyD_frz]; exact hk) (o1.view l0)
          obtain ⟨o, g1, g2⟩ := DRd.has ra kv hs
          exact .inr (.inr (.inl ⟨a, o, e, g1, g2⟩))
        · cases eh
      · cases eh
    | ins c => cases eh
  | str y =>
    cases dx with
    | str z =>
      cases eh
      exact .inr (.inr (.inr ⟨z, y, o1.strv, o2.strv, rfl⟩))
    | _ => cases eh
  | _ => cases eh
def hIn (x y : D) : Option D := (inD x y).map .bl
def hNin (x y : D) : Option D := (inD x y).map fun k => .bl (!k)
theorem blS_in : BlS g (rInA g.X.K) hIn := by
  intro dx dy d eh w vx vy Fx Fy lp l0 o1 o2
  obtain ⟨k, e1, e2⟩ := Option.map_eq_some_iff.mp eh
  subst e2
  refine ⟨k, rfl, fun Q hq => ?_⟩
  rcases in_run e1 lp l0 o1 o2 with ⟨d, ds, h1, h2, h3, h4, h5⟩ | ⟨p, xs, h1, h2, h3, h4, h5⟩ | ⟨a, o, h1, h2, h5⟩ | ⟨i, j, h1, h2, h5⟩
  · subst h5; exact .inl (.inl ⟨d, ds, h1, h2, h3, h4, hq⟩)
  · subst h5; exact .inl (.inr ⟨p, xs, h1, h2, h3, h4, hq⟩)
  · subst h5; exact .inr (.inl ⟨a, o, h1, h2, hq⟩)
  · subst h5; exact .inr (.inr ⟨i, j, h1, h2, hq⟩)
theorem blS_nin : BlS g (rNinA g.X.K) hNin := by
  intro dx dy d eh w vx vy Fx Fy lp l0 o1 o2
  obtain ⟨k, e1, e2⟩ := Option.map_eq_some_iff.mp eh
  subst e2
  refine ⟨!k, rfl, fun Q hq => ?_⟩
  rcases in_run e1 lp l0 o1 o2 with ⟨d, ds, h1, h2, h3, h4, h5⟩ | ⟨p, xs, h1, h2, h3, h4, h5⟩ | ⟨a, o, h1, h2, h5⟩ | ⟨i, j, h1, h2, h5⟩
  · subst h5; exact .inl (.inl ⟨d, ds, h1, h2, h3, h4, hq⟩)
  · subst h5; exact .inl (.inr ⟨p, xs, h1, h2, h3, h4, hq⟩)
  · subst h5; exact .inr (.inl ⟨a, o, h1, h2, hq⟩)
  · subst h5; exact .inr (.inr ⟨i, j, h1, h2, hq⟩)
/-! ### is -/
def isN : D → Option Bool
  | .non => some true
  | .uns => none
  | _ => some false
def hIs (x y : D) : Option D := match y with
  | .non => (isN x).map .bl
  | .bl b => match x with
    | .bl a => some (.bl (decide (a = b)))
    | _ => none
  | _ => none
def hIsnt (x y : D) : Option D := match y with
  | .non => (isN x).map fun k => .bl (!k)
  | .bl b => match x with
    | .bl a => some (.bl (!decide (a = b)))
    | _ => none
  | _ => none
theorem isN_v {dx : D} {k : Bool} {vx : V} {Fx : Addr → Prop} (h : isN dx = some k) (o : Ow g.c g.X.K w.HP w.H0 w.H dx vx Fx) : decide (vx = .non) = k := by
  cases dx with
  | non => cases h; rw [o.1]; rfl
  | uns => cases h
  | nd kk fl xs =>
    cases h
    cases fl with
    | own => obtain ⟨a, vs, A, F', e, _⟩ := o; rw [e]; rfl
    | ro => obtain ⟨⟨_, a, vs, e, _⟩, _⟩ := o; rw [e]; rfl
    | pm => obtain ⟨⟨_, a, vs, e, _⟩, _⟩ := o; rw [e]; rfl
  | _ => cases h; rw [o.1]; rfl
theorem op_isA {X : Cx} : OpR X (compareOp .Is) (fun x y H Q => (y = .non ∧ Q (.bl (decide (x = .non))) H) ∨ rIsB x y H Q) := op_isN.or op_isBl
theorem op_isntA {X : Cx} : OpR X (compareOp .IsNot) (fun x y H Q => (y = .non ∧ Q (.bl (!decide (x = .non))) H) ∨ rNotB x y H Q) := op_notN.or op_notBl
theorem blS_is : BlS g (fun x y H Q => (y = .non ∧ Q (.bl (decide (x = .non))) H) ∨ rIsB x y H Q) hIs := by
  intro dx dy d eh w vx vy Fx Fy lp l0 o1 o2
  unfold hIs at eh
  split at eh
  · obtain ⟨k, e1, e2⟩ := Option.map_eq_some_iff.mp eh
    subst e2
    exact ⟨k, rfl, fun Q hq => .inl ⟨o2.1, by rw [isN_v e1 o1]; exact hq⟩⟩
  · split at eh
    · rename_i b a
      cases eh
      exact ⟨_, rfl, fun Q hq => .inr ⟨_, _, o1.1, o2.1, hq⟩⟩
    · cases eh
  · cases eh
theorem blS_isnt : BlS g (fun x y H Q => (y = .non ∧ Q (.bl (!decide (x = .non))) H) ∨ rNotB x y H Q) hIsnt := by
  intro dx dy d eh w vx vy Fx Fy lp l0 o1 o2
  unfold hIsnt at eh
  split at eh
  · obtain ⟨k, e1, e2⟩ := Option.map_eq_some_iff.mp eh
    subst e2
    exact ⟨!k, rfl, fun Q hq => .inl ⟨o2.1, by rw [isN_v e1 o1]; exact hq⟩⟩
  · split at eh
    · rename_i b a
      cases eh
      exact ⟨_, rfl, fun Q hq => .inr ⟨_, _, o1.1, o2.1, hq⟩⟩
    · cases eh
  · cases eh
/-! ### comparisons -/
abbrev hLt : D → D → Option D := hIB fun i j => decide (i < j)
abbrev hLe : D → D → Option D := hIB fun i j => decide (i ≤ j)
abbrev hGt : D → D → Option D := hIB fun i j => decide (j < i)
abbrev hGe : D → D → Option D := hIB fun i j => decide (j ≤ i)
theorem blS_lt : BlS g (rI0 fun i j => .bl (decide (i < j))) hLt := blS_I
theorem blS_le : BlS g (rI0 fun i j => .bl (decide (i ≤ j))) hLe := blS_I
theorem blS_gt : BlS g (rI0 fun i j => .bl (decide (j < i))) hGt := blS_I
theorem blS_ge : BlS g (rI0 fun i j => .bl (decide (j ≤ i))) hGe := blS_I
def hLeS (x y : D) : Option D := match x, y with
  | .str i, .str j => some (.bl (!decide (j.cps.toList < i.cps.toList)))
  | _, _ => none
theorem blS_leS : BlS g (fun x y H Q => ∃ i j, x = .str i ∧ y = .str j ∧ Q (.bl (!decide (j.cps.toList < i.cps.toList))) H) hLeS := by
  intro dx dy d eh w vx vy Fx Fy lp l0 o1 o2
  unfold hLeS at eh
  split at eh
  · cases eh; exact ⟨_, rfl, fun Q hq => ⟨_, _, o1.strv, o2.strv, hq⟩⟩
  · cases eh
/-! ### minus -/
def eNeg (fa : Env → ER) (env : Env) : ER := (fa env).bind fun d e => match d with
  | .int i => .ok (.int (-i)) e
  | _ => .bad
theorem pex_neg (ha : POx g a Ta Ra fa) : PEx g (.UnaryOp .USub a pos) Ta (eNeg fa) := by
  obtain ⟨t, h1, h2⟩ := ha.ex
  refine ⟨fun env d env' q i hi => ?_, _, pe_un un_neg h1, fun w Fs σ env s Q q => h2 w Fs σ env s _ ?_⟩
  · unfold eNeg at q
    cases er : fa env with
    | ex x p e1 => simp only [er, ER.bind] at q; cases q
    | bad => simp only [er, ER.bind] at q; cases q
    | ok dx e1 =>
      simp only [er, ER.bind] at q
      split at q
      · cases q; exact ha.fr _ _ _ er i hi
      · cases q
  · unfold eNeg at q
    cases er : fa env with
    | ex x p e => rw [er] at q; exact q
    | bad => rw [er] at q; exact q
    | ok d e =>
      rw [er] at q
      intro w1 Fs1 v F x1 s1 o1 _ _
      cases d with
      | int i => exact ⟨i, o1.int, q w1 Fs1 (.int (-i)) (fun _ => False) x1 s1 ⟨rfl, fun _ => id⟩ (fun _ z => z.elim) fun _ z => z.elim⟩
      | _ => exact q.elim
/-! ### items of values -/
def fIxV (d di : D) : Option D := match d with
  | .str z => match di with
    | .int i => if z.length ≤ sizeLine then (atI z.cps.toList i).map fun c => .str ⟨#[c]⟩ else none
    | _ => none
  | .nd _ _ xs => match ixOf d di with
    | some j => xs[j]?
    | none => none
  | _ => none
def eIxS (fa fb : Env → ER) : Env → ER := eOp2 (fun x y => match fIxV x y with
  | some d => if isRo d = true then some d else none
  | none => none) fa fb
theorem opS_ix : OpS g (rIxAny g.X.K) (fun x y => match fIxV x y with
  | some d => if isRo d = true then some d else none
  | none => none) := by
  intro dx dy d eh w vx vy Fx Fy lp l0 o1 o2 Q hq
  dsimp only at eh
  split at eh
  · rename_i d' e'
    split at eh
    · rename_i hr
      cases eh
      cases dx with
      | str z =>
        cases dy with
        | int i =>
          have e' : (if z.length ≤ sizeLine then (atI z.cps.toList i).map fun c => D.str ⟨#[c]⟩ else none) = some d := e'
          split at e'
          · rename_i hz
            obtain ⟨c, e1, e2⟩ := Option.map_eq_some_iff.mp e'
            subst e2
            exact .inl (.inr (.inr ⟨z, i, c, o1.strv, o2.int, hz, e1, atom_fin (g := g) hq lp l0 rfl⟩))
          · cases e'
        | _ => cases e'
      | nd k fl xs =>
        have e' : (match ixOf (.nd k fl xs) dy with | some j => xs[j]? | none => none) = some d := e'
        cases ej : ixOf (.nd k fl xs) dy with
        | none => rw [ej] at e'; cases e'
        | some j =>
          rw [ej] at e'
          obtain ⟨a, vs, ev, ra, hl, ch⟩ := o1.node lp l0
          obtain ⟨v1, F1, e4, o3⟩ := ch j d e'
          subst ev
          obtain ⟨rr, nn⟩ := o3.ro hr
          exact rIx_of lp l0 ra hl e4 ej (o2.view l0) (hq w v1 F1 (.refl lp l0) o3 fun a ha => absurd ha (nn a))
      | _ => cases e'
    · cases eh
  · cases eh
theorem pex_ixs (hu : g.X.A.units + 1 < cLine) (ha : POx g a Ta Ra fa) (hb : POx g b Tb Rb fb) (hd : ∀ i ∈ Ra, i ∉ Tb) (hs : PlainIx b) : PEx g (.Subscript a b pos) (Ta ++ Tb) (eIxS fa fb) := by
  obtain ⟨t, u, h1, h2, k⟩ := seq2 ha hb hd
  exact ⟨frm_op2 ha.fr hb.fr, _, pe_ix (ix_any hu) h1 h2 hs, fun w Fs σ env s Q q => k w Fs σ env s (fun x y H => rIxAny g.X.K x y H Q) (op2_run opS_ix q)⟩
/-- an item taken out of a value that is nobody else's -/
def eIxT (fa fb : Env → ER) : Env → ER := eOp2 fIxV fa fb
theorem pex_ixt (hu : g.X.A.units + 1 < cLine) (ha : PEx g a Ta fa) (hb : POx g b Tb Rb fb) (hs : PlainIx b) : PEx g (.Subscript a b pos) (Ta ++ Tb) (eIxT fa fb) := by
  obtain ⟨t, h1, h2⟩ := ha.ex
  obtain ⟨u, k1, k2⟩ := hb.ex
  refine ⟨frm_op2 ha.fr hb.fr, _, pe_ix (ix_any hu) h1 k1 hs, fun w Fs σ env s Q q => h2 w Fs σ env s _ ?_⟩
  unfold eIxT eOp2 at q
  cases er : fa env with
  | ex x p e1 => rw [er] at q; exact XPost.weak q fun i hi => List.mem_append_left _ hi
  | bad => rw [er] at q; exact q
  | ok dx e1 =>
    simp only [er, ER.bind] at q
    intro w1 Fs1 vx Fx x1 s1 o1 n1 p1
    refine k2 w1 Fs1 σ e1 s1 _ ?_
    cases eb : fb e1 with
    | ex x p e2 => simp only [eb] at q; exact fun w2 Fs2 dd x2 s2 py => q w2 Fs2 dd (x1.trans x2) s2 py
    | bad => simp only [eb] at q; exact (show False from q).elim
    | ok dy e2 =>
      simp only [eb] at q
      intro w2 Fs2 vy Fy x2 s2 o2 _ _
      obtain ⟨o1', n1'⟩ := x2.tmp o1 n1
      have pr : ∀ a, Fx a → w.H a = none ∨ ∃ j ∈ Ta ++ Tb, Fs j a := fun a ha => (p1 a ha).imp id fun ⟨j, hj, z⟩ => ⟨j, List.mem_append_left _ hj, z⟩
      cases dx with
      | str z =>
        cases dy with
        | int i =>
          have q : EPost g (Ta ++ Tb) w Fs σ Q (ER.of (if z.length ≤ sizeLine then (atI z.cps.toList i).map fun c => D.str ⟨#[c]⟩ else none) e2) := q
          split at q
          · rename_i hz
            cases ec : atI z.cps.toList i with
            | none => rw [ec] at q; exact (show False from q).elim
            | some c =>
              rw [ec] at q
              exact .inl (.inr (.inr ⟨z, i, c, o1'.strv, o2.int, hz, ec, q w2 Fs2 (.str ⟨#[c]⟩) (fun _ => False) (x1.trans x2) s2 ⟨rfl, fun _ => id⟩ (fun _ z => z.elim) fun _ z => z.elim⟩))
          · exact (show False from q).elim
        | _ => exact (show False from q).elim
      | nd k fl xs =>
        have q : EPost g (Ta ++ Tb) w Fs σ Q (ER.of (match ixOf (.nd k fl xs) dy with | some j => xs[j]? | none => none) e2) := q
        cases ej : ixOf (.nd k fl xs) dy with
        | none => rw [ej] at q; exact (show False from q).elim
        | some j =>
          rw [ej] at q
          dsimp only at q
          cases ed : xs[j]? with
          | none => rw [ed] at q; exact (show False from q).elim
          | some d' =>
            rw [ed] at q
            obtain ⟨a, vs, v1, F1, ev, ra, hl, e4, o3, s3, _⟩ := o1'.child s2.lp s2.l0 ed
            subst ev
            exact rIx_of s2.lp s2.l0 ra hl e4 ej (o2.view s2.l0) (q w2 Fs2 v1 F1 (x1.trans x2) s2 o3 (fun b hb => n1' b (s3 b hb)) fun b hb => pr b (s3 b hb))
      | _ => exact (show False from q).elim
end
end DL
set_option Elab.async false
set_option linter.all false
set_option maxRecDepth 100000
set_option maxHeartbeats 4000000
namespace DL
open PySem PySem.Spec PyProof.Rows L2

/-! ### statements -/
inductive SR where
  | nx (env : Env)
  | rt (d : D) (env : Env)
  | bk (env : Env)
  | ct (env : Env)
  | ex (x : Nat) (p : Option D) (env : Env)
  | bad
/-- what statements may do; S: the slots that they store to -/
structure ExtS (S : List Nat) (w : Wd) (Fs : Fps) (σ : St) (w' : Wd) (Fs' : Fps) (σ' : St) : Prop where
  hp : Le w.HP w'.HP
  h0 : Le w.H0 w'.H0
  off : ∀ a o, w.H a = some o → (∀ i, ¬ Fs i a) → w'.H a = some o
  fs : ∀ i a, Fs' i a → (∃ j, Fs j a) ∨ w.H a = none
  h0n : ∀ a, w'.H0 a ≠ none → w.H0 a ≠ none ∨ (∃ i, Fs i a) ∨ w.H a = none
  dom : ∀ a, w.H a ≠ none → w'.H a ≠ none
  st : ∀ k, k ∉ S → σ'[k]? = σ[k]?
  ln : σ'.length = σ.length
  pn : ∀ a, w'.HP a ≠ none → w.HP a ≠ none ∨ (∃ i, Fs i a) ∨ w.H a = none
section
variable {g : G} {w w' w'' w2 : Wd} {Fs Fs' Fs'' : Fps} {σ σ' σ'' : St} {env env' : Env} {T T' R S S' : List Nat} {d : D} {v : V} {F : Addr → Prop} {D' : L2.Ends}
theorem ExtS.refl : ExtS S w Fs σ w Fs σ := ⟨Le.refl _, Le.refl _, fun _ _ h _ => h, fun i _ h => .inl ⟨i, h⟩, fun _ h => .inl h, fun _ h => h, fun _ _ => rfl, rfl, fun _ h => .inl h⟩
theorem ExtS.trans (h : ExtS S w Fs σ w' Fs' σ') (k : ExtS S w' Fs' σ' w'' Fs'' σ'') : ExtS S w Fs σ w'' Fs'' σ'' where
  hp := h.hp.trans k.hp
  h0 := h.h0.trans k.h0
  off := fun a o e n => k.off a o (h.off a o e n) fun i q => by
    rcases h.fs i a q with ⟨j, z⟩ | z
    · exact n j z
    · rw [e] at z; cases z
  fs := fun i a q => by
    rcases k.fs i a q with ⟨j, z⟩ | z
    · exact h.fs j a z
    · refine .inr ?_
      by_cases y : w.H a = none
      · exact y
      · exact absurd z (h.dom a y)
  h0n := fun a q => by
    rcases k.h0n a q with z | ⟨i, z⟩ | z
    · exact h.h0n a z
    · rcases h.fs i a z with y | y
      · exact .inr (.inl y)
      · exact .inr (.inr y)
    · refine .inr (.inr ?_)
      by_cases y : w.H a = none
      · exact y
      · exact absurd z (h.dom a y)
  dom := fun a q => k.dom a (h.dom a q)
  st := fun i hi => (k.st i hi).trans (h.st i hi)
  ln := k.ln.trans h.ln
  pn := fun a q => by
    rcases k.pn a q with z | ⟨i, z⟩ | z
    · exact h.pn a z
    · rcases h.fs i a z with y | y
      · exact .inr (.inl y)
      · exact .inr (.inr y)
    · refine .inr (.inr ?_)
      by_cases y : w.H a = none
      · exact y
      · exact absurd z (h.dom a y)
theorem ExtS.weak (h : ExtS S w Fs σ w' Fs' σ') (hS : ∀ i ∈ S, i ∈ S') : ExtS S' w Fs σ w' Fs' σ' :=
  ⟨h.hp, h.h0, h.off, h.fs, h.h0n, h.dom, fun i hi => h.st i fun z => hi (hS i z), h.ln, h.pn⟩
theorem Ext.toS (h : Ext T w Fs w' Fs') : ExtS S w Fs σ w' Fs' σ :=
  ⟨h.hp, h.h0, h.off, fun i a q => by
    rcases h.fs i a q with z | z | ⟨j, _, z⟩
    · exact .inl ⟨i, z⟩
    · exact .inr z
    · exact .inl ⟨j, z⟩, h.h0n, h.dom, fun _ _ => rfl, rfl, h.pn⟩
/-- a temporary of an expression may go into a slot -/
theorem ExtS.put (h : Ext T w Fs w' Fs') {i : Nat} (hi : i ∈ S) (o : ∀ a, F a → w.H a = none ∨ ∃ j, Fs j a) (u : Option V) : ExtS S w Fs σ w' (fun k a => (k = i ∧ F a) ∨ (k ≠ i ∧ Fs' k a)) (σ.set i u) where
  hp := h.hp
  h0 := h.h0
  off := h.off
  fs := fun k a q => by
    rcases q with ⟨_, q⟩ | ⟨_, q⟩
    · exact (o a q).symm
    · rcases h.fs k a q with z | z | ⟨j, _, z⟩
      · exact .inl ⟨k, z⟩
      · exact .inr z
      · exact .inl ⟨j, z⟩
  h0n := h.h0n
  dom := h.dom
  st := fun k hk => by rw [List.getElem?_set_ne (fun z : i = k => hk (by rw [← z]; exact hi))]
  ln := by rw [List.length_set]
  pn := h.pn
/-- a slot is stored to -/
theorem Sr.store (s : Sr g w Fs σ env) (i : Nat) (hh : ∀ h, g.hd = some h → h.slot ≠ i) (o : Ow g.c g.X.K w.HP w.H0 w.H d v F) (n : ∀ a, F a → ∀ j, ¬ Fs j a) : Sr g w (fun k a => (k = i ∧ i < env.length ∧ F a) ∨ (k ≠ i ∧ Fs k a)) (σ.set i (some v)) (env.set i (some d)) := by
  refine ⟨s.lp, s.l0, by rw [List.length_set, List.length_set]; exact s.len, fun k d' e => ?_, fun k q a z => ?_, fun k m a y z => ?_, s.hx.σ fun h e => by rw [List.getElem?_set_ne (Ne.symm (hh h e))]⟩
  · by_cases h : k = i
    · subst h
      by_cases hl : k < env.length
      · rw [List.getElem?_set_self hl] at e
        cases e
        refine ⟨v, by rw [List.getElem?_set_self (s.len ▸ hl)], ?_⟩
        have : (fun a => (k = k ∧ k < env.length ∧ F a) ∨ (k ≠ k ∧ Fs k a)) = F := funext fun a => propext ⟨fun z => z.elim (fun y => y.2.2) fun y => absurd rfl y.1, fun z => .inl ⟨rfl, hl, z⟩⟩
        show Ow _ _ _ _ _ _ _ (fun a => (k = k ∧ k < env.length ∧ F a) ∨ (k ≠ k ∧ Fs k a))
        rw [this]; exact o
      · rw [List.getElem?_eq_none (by rw [List.length_set]; omega)] at e
        cases e
    · rw [List.getElem?_set_ne (Ne.symm h)] at e
      obtain ⟨v', e3, q⟩ := s.slot k d' e
      refine ⟨v', by rw [List.getElem?_set_ne (Ne.symm h)]; exact e3, ?_⟩
      have : (fun a => (k = i ∧ i < env.length ∧ F a) ∨ (k ≠ i ∧ Fs k a)) = Fs k := funext fun a => propext ⟨fun z => z.elim (fun y => absurd y.1 h) fun y => y.2, fun z => .inr ⟨h, z⟩⟩
      show Ow _ _ _ _ _ _ _ (fun a => (k = i ∧ i < env.length ∧ F a) ∨ (k ≠ i ∧ Fs k a))
      rw [this]; exact q
  · rcases z with ⟨h, hl, z⟩ | ⟨h, z⟩
    · subst h
      exact q d (by rw [List.getElem?_set_self hl])
    · exact s.non k (fun d' e => q d' (by rw [List.getElem?_set_ne (Ne.symm h)]; exact e)) a z
  · rcases y with ⟨h1, _, y⟩ | ⟨h1, y⟩ <;> rcases z with ⟨h2, _, z⟩ | ⟨h2, z⟩
    · rw [h1, h2]
    · exact absurd z (n a y m)
    · exact absurd y (n a z k)
    · exact s.dis k m a y z
theorem ExtS.store (h : Ext T w Fs w' Fs') {i l : Nat} (hi : i ∈ S) (o : ∀ a, F a → w.H a = none ∨ ∃ j, Fs j a) (u : Option V) : ExtS S w Fs σ w' (fun k a => (k = i ∧ i < l ∧ F a) ∨ (k ≠ i ∧ Fs' k a)) (σ.set i u) := by
  have := ExtS.put (S := S) (σ := σ) (F := F) h hi o u
  exact ⟨this.hp, this.h0, this.off, fun k a q => this.fs k a (q.imp (fun z => ⟨z.1, z.2.2⟩) id), this.h0n, this.dom, this.st, this.ln, this.pn⟩
def NPost (g : G) (S : List Nat) (w : Wd) (Fs : Fps) (σ : St) (N : St → Hp → Prop) (env' : Env) : Prop := ∀ w' Fs' σ', ExtS S w Fs σ w' Fs' σ' → Sr g w' Fs' σ' env' → N σ' w'.H
def SPost (g : G) (S : List Nat) (w : Wd) (Fs : Fps) (σ : St) (D' : L2.Ends) : SR → Prop
  | .nx e => NPost g S w Fs σ D'.nx e
  | .bk e => NPost g S w Fs σ D'.bk e
  | .ct e => NPost g S w Fs σ D'.ct e
  | .rt d e => ∀ w' Fs' σ' v F, ExtS S w Fs σ w' Fs' σ' → Sr g w' Fs' σ' e → Ow g.c g.X.K w'.HP w'.H0 w'.H d v F → (∀ a, F a → ∀ i, ¬ Fs' i a) → (∀ a, F a → w.H a = none ∨ ∃ j, Fs j a) → D'.rt v w'.H
  | .ex x p e => ∀ w' Fs' σ' dd, ExtS S w Fs σ w' Fs' σ' → Sr g w' Fs' σ' e → PayOk g w'.H x p dd → g.W (.ref (g.xc x)) dd σ' w'.H
  | .bad => False
theorem SPost.after {r : SR} (x : ExtS S w Fs σ w' Fs' σ') (h : SPost g S w Fs σ D' r) : SPost g S w' Fs' σ' D' r := by
  cases r with
  | nx e => exact fun w2 Fs2 σ2 y s => h w2 Fs2 σ2 (x.trans y) s
  | bk e => exact fun w2 Fs2 σ2 y s => h w2 Fs2 σ2 (x.trans y) s
  | ct e => exact fun w2 Fs2 σ2 y s => h w2 Fs2 σ2 (x.trans y) s
  | rt d e =>
    refine fun w2 Fs2 σ2 v F y s o n p => h w2 Fs2 σ2 v F (x.trans y) s o n fun a ha => ?_
    rcases p a ha with z | ⟨j, z⟩
    · refine .inl ?_
      by_cases t : w.H a = none
      · exact t
      · exact absurd z (x.dom a t)
    · exact (x.fs j a z).symm
  | ex x' p e => exact fun w2 Fs2 σ2 dd y s py => h w2 Fs2 σ2 dd (x.trans y) s py
  | bad => exact h
theorem SPost.weak {r : SR} (h : SPost g S' w Fs σ D' r) (hS : ∀ i ∈ S, i ∈ S') : SPost g S w Fs σ D' r := by
  cases r with
  | nx e => exact fun w2 Fs2 σ2 y s => h w2 Fs2 σ2 (y.weak hS) s
  | bk e => exact fun w2 Fs2 σ2 y s => h w2 Fs2 σ2 (y.weak hS) s
  | ct e => exact fun w2 Fs2 σ2 y s => h w2 Fs2 σ2 (y.weak hS) s
  | rt d e => exact fun w2 Fs2 σ2 v F y s o n p => h w2 Fs2 σ2 v F (y.weak hS) s o n p
  | ex x' p e => exact fun w2 Fs2 σ2 dd y s py => h w2 Fs2 σ2 dd (y.weak hS) s py
  | bad => exact h
def ER.toS : ER → (D → Env → SR) → SR
  | .ok d env, k => k d env
  | .ex x p env, _ => .ex x p env
  | .bad, _ => .bad
def PR.toS : PR → (List Nat → D → Env → SR) → SR
  | .ok q d env, k => k q d env
  | .ex x p env, _ => .ex x p env
  | .bad, _ => .bad
theorem XPost.ofS {x : Nat} {p : Option D} {e : Env} (h : SPost g S w Fs σ D' (.ex x p e)) : XPost g T w Fs σ x p e := fun w2 Fs2 dd y s py => h w2 Fs2 σ dd y.toS s py
theorem EPost.ofS {r : ER} {k : D → Env → SR} {Q : VK} (h : SPost g S w Fs σ D' (r.toS k)) (q : ∀ d e w' Fs' v F, Ext T w Fs w' Fs' → Sr g w' Fs' σ e → Ow g.c g.X.K w'.HP w'.H0 w'.H d v F → (∀ a, F a → ∀ i, ¬ Fs' i a) → (∀ a, F a → w.H a = none ∨ ∃ j ∈ T, Fs j a) → SPost g S w Fs σ D' (k d e) → Q v w'.H) : EPost g T w Fs σ Q r := by
  cases r with
  | ok d e => exact fun w' Fs' v F x s o n p => q d e w' Fs' v F x s o n p h
  | ex x p e => exact XPost.ofS h
  | bad => exact h
theorem OPost.ofS {r : ER} {k : D → Env → SR} {Q : VK} (h : SPost g S w Fs σ D' (r.toS k)) (q : ∀ d e w' Fs' v F, Ext T w Fs w' Fs' → Sr g w' Fs' σ e → Ow g.c g.X.K w'.HP w'.H0 w'.H d v F → (∀ a, F a → (∃ i ∈ R, Fs' i a) ∨ ∀ i, ¬ Fs' i a) → (∀ a, F a → w.H a = none ∨ ∃ j, Fs j a) → SPost g S w Fs σ D' (k d e) → Q v w'.H) : OPost g T R w Fs σ Q r := by
  cases r with
  | ok d e => exact fun w' Fs' v F x s o n p => q d e w' Fs' v F x s o n p h
  | ex x p e => exact XPost.ofS h
  | bad => exact h
theorem TPost.ofS {r : ER} {k : Bool → Env → SR} {Q : Bool → Hp → Prop} (h : SPost g S w Fs σ D' (r.toS fun d e => match d with | .bl b => k b e | _ => .bad)) (q : ∀ b e w' Fs', Ext T w Fs w' Fs' → Sr g w' Fs' σ e → SPost g S w Fs σ D' (k b e) → Q b w'.H) : TPost g T w Fs σ Q r := by
  cases r with
  | ok d e =>
    cases d with
    | bl b => exact fun w' Fs' x s => q b e w' Fs' x s h
    | _ => exact (show False from h).elim
  | ex x p e => exact XPost.ofS h
  | bad => exact h
end
structure PSx (g : G) (st : Stmt) (S : List Nat) (f : Env → SR) : Prop where
  ex : ∃ t, PS g.X st t ∧ ∀ w Fs σ env, Sr g w Fs σ env → ∀ D', SPost g S w Fs σ D' (f env) → t D' σ w.H
structure PBx (g : G) (st : List Stmt) (S : List Nat) (f : Env → SR) : Prop where
  ex : ∃ t, PSs g.X st t ∧ ∀ w Fs σ env, Sr g w Fs σ env → ∀ D', SPost g S w Fs σ D' (f env) → t D' σ w.H
def sNext (env : Env) : SR := .nx env
def sSeq (f h : Env → SR) (env : Env) : SR := match f env with
  | .nx e => h e
  | .rt d e => .rt d e
  | .bk e => .bk e
  | .ct e => .ct e
  | .ex x p e => .ex x p e
  | .bad => .bad
def sBreak (env : Env) : SR := .bk env
def sCont (env : Env) : SR := .ct env
def sDrop (f : Env → ER) (env : Env) : SR := (f env).toS fun _ e => .nx e
def sRet (f : Env → ER) (env : Env) : SR := (f env).toS fun d e => .rt d e
def sRetN (env : Env) : SR := .rt .non env
def sIf (c : Env → ER) (f h : Env → SR) (env : Env) : SR := (c env).toS fun d e => match d with
  | .bl b => if b = true then f e else h e
  | _ => .bad
def sSet (i : Nat) (f : Env → ER) (env : Env) : SR := (f env).toS fun d e => .nx (e.set i (some d))
/-- name op= e -/
def sAug (i : Nat) (h : D → D → Option D) (f : Env → ER) (env : Env) : SR := match env[i]? with
  | some (some dx) => (f env).toS fun dy e => match h dx dy with
    | some d => .nx (e.set i (some d))
    | none => .bad
  | _ => .bad
section
variable {g : G} {e a b c : Expr} {st : Stmt} {rest as bs : List Stmt} {i j cc : Nat} {T Ta Tb Tc R Ra Rb S S' : List Nat} {f fa fb fc : Env → ER} {fs : Env → LR} {fp : Env → PR} {h k : Env → SR} {p pos : Pos} {x : Str}
theorem PSx.weak (q : PSx g st S h) (hS : ∀ i ∈ S, i ∈ S') : PSx g st S' h := by
  obtain ⟨t, h1, h2⟩ := q.ex
  exact ⟨t, h1, fun w Fs σ env s D' z => h2 w Fs σ env s D' (z.weak hS)⟩
theorem PBx.weak (q : PBx g as S h) (hS : ∀ i ∈ S, i ∈ S') : PBx g as S' h := by
  obtain ⟨t, h1, h2⟩ := q.ex
  exact ⟨t, h1, fun w Fs σ env s D' z => h2 w Fs σ env s D' (z.weak hS)⟩
theorem pbx_nil : PBx g [] S sNext := ⟨_, pss_nil, fun w Fs σ env s D' z => z w Fs σ .refl s⟩
theorem pbx_one (q : PSx g st S h) : PBx g [st] S h := by
  obtain ⟨t, h1, h2⟩ := q.ex
  exact ⟨t, pss_one h1, h2⟩
theorem pbx_cons (q : PSx g st S h) (r : PBx g rest S k) : PBx g (st :: rest) S (sSeq h k) := by
  obtain ⟨t, h1, h2⟩ := q.ex
  obtain ⟨u, k1, k2⟩ := r.ex
  refine ⟨_, pss_cons h1 k1, fun w Fs σ env s D' z => h2 w Fs σ env s _ ?_⟩
  unfold sSeq at z
  cases er : h env with
  | nx e1 =>
    simp only [er] at z
    exact fun w1 Fs1 σ1 x1 s1 => k2 w1 Fs1 σ1 e1 s1 D' (z.after x1)
  | rt d e1 => simp only [er] at z; exact z
  | bk e1 => simp only [er] at z; exact z
  | ct e1 => simp only [er] at z; exact z
  | ex x p e1 => simp only [er] at z; exact z
  | bad => simp only [er] at z; exact z
theorem psx_pass : PSx g (.Pass pos) S sNext := ⟨_, ps_pass, fun w Fs σ env s D' z => z w Fs σ .refl s⟩
theorem psx_break : PSx g (.Break pos) S sBreak := ⟨_, ps_break, fun w Fs σ env s D' z => z w Fs σ .refl s⟩
theorem psx_cont : PSx g (.Continue pos) S sCont := ⟨_, ps_continue, fun w Fs σ env s D' z => z w Fs σ .refl s⟩
theorem psx_doc {y : Str} {n : Nat} : PSx g (.Expr (.Constant (.str y) n p) pos) S sNext := ⟨_, ps_doc, fun w Fs σ env s D' z => z w Fs σ .refl s⟩
theorem psx_expr (he : PEx g e T f) (hs : swapsWith e none pos.line g.X.env = pure false := by rfl) : PSx g (.Expr e pos) S (sDrop f) := by
  obtain ⟨t, h1, h2⟩ := he.ex
  exact ⟨_, ps_expr h1 hs, fun w Fs σ env s D' z => h2 w Fs σ env s _ (EPost.ofS z fun d e1 w1 Fs1 v F x1 s1 o n p q => q w1 Fs1 σ x1.toS s1)⟩
theorem psx_ret (he : PEx g e T f) : PSx g (.Return (some e) pos) S (sRet f) := by
  obtain ⟨t, h1, h2⟩ := he.ex
  exact ⟨_, ps_ret h1, fun w Fs σ env s D' z => h2 w Fs σ env s _ (EPost.ofS z fun d e1 w1 Fs1 v F x1 s1 o n p q => q w1 Fs1 σ v F x1.toS s1 o n fun a ha => (p a ha).imp id fun ⟨j, _, y⟩ => ⟨j, y⟩)⟩
theorem psx_retN : PSx g (.Return none pos) S sRetN := ⟨_, ps_retN, fun w Fs σ env s D' z => z w Fs σ .non (fun _ => False) .refl s ⟨rfl, fun _ => id⟩ (fun _ z => z.elim) fun _ z => z.elim⟩
theorem psx_if (hc : PTx g c Tc fc) (ha : PBx g as S h) (hb : PBx g bs S k) : PSx g (.If c as bs pos) S (sIf fc h k) := by
  obtain ⟨t, h1, h2⟩ := hc.ex
  obtain ⟨u, k1, k2⟩ := ha.ex
  obtain ⟨y, l1, l2⟩ := hb.ex
  refine ⟨_, ps_if h1 k1 l1, fun w Fs σ env s D' z => h2 w Fs σ env s _ (TPost.ofS (k := fun b e => if b = true then h e else k e) z fun b e1 w1 Fs1 x1 s1 q => ?_)⟩
  cases b with
  | true => exact k2 w1 Fs1 σ e1 s1 D' (q.after x1.toS)
  | false => exact l2 w1 Fs1 σ e1 s1 D' (q.after x1.toS)
theorem psx_set (hN : g.X.N.Nodup) (hi : g.X.N[i]? = some x) (hx : Loc g.X.env.scope x) (he : PEx g e T f) (hS : i ∈ S) (hh : ∀ h, g.hd = some h → h.slot ≠ i) (hs : swapsWith e (some (.Name x p)) pos.line g.X.env = pure false := by rfl)
    (hf : g.X.fn x = true ∨ g.X.env.scope.names.lookup x = some .local := by first | exact .inl rfl | exact .inr rfl | assumption) : PSx g (.Assign [.Name x p] e pos) S (sSet i f) := by
  obtain ⟨t, h1, h2⟩ := he.ex
  refine ⟨_, ps_set hN hi hx h1 hs hf, fun w Fs σ env s D' z => h2 w Fs σ env s _ (EPost.ofS z fun d e1 w1 Fs1 v F x1 s1 o n p q => ?_)⟩
  exact q w1 _ _ (ExtS.store x1 hS (fun a ha => (p a ha).imp id fun ⟨j, _, y⟩ => ⟨j, y⟩) _) (s1.store i hh o n)
theorem psx_aug {op : Operator} {r : V → V → Hp → VK → Prop} {hh : D → D → Option D} (hN : g.X.N.Nodup) (hi : g.X.N[i]? = some x) (hx : Loc g.X.env.scope x) (ho : PIp g.X op r) (hop : OpS g r hh) (he : POx g e T R f) (hT : i ∉ T) (hS : i ∈ S) (hh' : ∀ h, g.hd = some h → h.slot ≠ i)
    (hf : g.X.fn x = true ∨ g.X.env.scope.names.lookup x = some .local := by first | exact .inl rfl | exact .inr rfl | assumption) : PSx g (.AugAssign (.Name x p) op e pos) S (sAug i hh f) := by
  obtain ⟨t, h1, h2⟩ := he.ex
  refine ⟨_, ps_aug hN hi hx h1 ho hf, fun w Fs σ env s D' z => ?_⟩
  unfold sAug at z
  split at z
  · rename_i dx hdx
    obtain ⟨vx, e1, o1⟩ := s.slot i dx hdx
    refine ⟨vx, e1, h2 w Fs σ env s _ (OPost.ofS z fun dy e2 w1 Fs1 vy Fy x1 s1 oy ny py q => ?_)⟩
    cases eh : hh dx dy with
    | none => simp only [eh] at q; exact (show False from q).elim
    | some d =>
      simp only [eh] at q
      obtain ⟨o1', _⟩ := x1.hold (R := [i]) o1 (fun a ha => .inl ⟨i, by simp, ha⟩) fun k hk => by simp at hk; subst hk; exact hT
      refine hop dx dy d eh w1 vx vy (Fs i) Fy s1.lp s1.l0 o1' oy _ fun w2 v F gr o n => ?_
      obtain ⟨s2, x2⟩ := s1.grow gr
      refine q w2 _ _ (ExtS.store (x1.trans x2) hS (fun a ha => .inl ?_) _) (s2.store i hh' o fun a ha j y => ?_)
      · by_cases t : w.H a = none
        · exact t
        · exact absurd (n a ha) (x1.dom a t)
      · obtain ⟨⟨u, eu⟩, _⟩ := s1.held y
        rw [n a ha] at eu; cases eu
  · exact z.elim
end
end DL
set_option Elab.async false
set_option linter.all false
set_option maxRecDepth 100000
set_option maxHeartbeats 4000000
namespace DL
open PySem PySem.Spec PyProof.Rows L2

/-! ### writes -/
/-- only what stands at F may have been changed; nothing is frozen -/
structure Wr (w w2 : Wd) (F : Addr → Prop) : Prop where
  hp : Le w.HP w2.HP
  h0 : Le w.H0 w2.H0
  l : ∀ a o, w.H a = some o → ¬ F a → w2.H a = some o
  n : ∀ a, w2.H0 a ≠ none → w.H0 a ≠ none ∨ w.H a = none
  dom : ∀ a, w.H a ≠ none → w2.H a ≠ none
  lp : Le w2.HP w2.H0
  l0 : Le w2.H0 w2.H
  pn : ∀ a, w2.HP a ≠ none → w.HP a ≠ none ∨ w.H a = none
section
variable {g : G} {w w' w'' w2 w0 : Wd} {Fs Fs' Fs'' Fs0 : Fps} {σ σ' σ'' : St} {env env' : Env} {T T' R S S' : List Nat} {d d0 d2 dv : D} {v v0 vv : V} {F F1 F2 Fv : Addr → Prop} {D' : L2.Ends} {i j : Nat} {p : List Nat} {u : Bool} {xs ys : List D} {vs us : List V}
theorem Wr.upd (lp : Le w.HP w.H0) (l0 : Le w.H0 w.H) {a : Addr} (o : HO) (h0 : w.H0 a = none) : Wr w ⟨w.HP, w.H0, upd w.H a o⟩ (fun b => b = a) := by
  refine ⟨Le.refl _, Le.refl _, fun b u e n => ?_, fun b h => .inl h, fun b h => ?_, lp, fun b u e => ?_, fun b h => .inl h⟩
  · show L2.upd w.H a o b = _
    rw [upd_ne n]; exact e
  · show L2.upd w.H a o b ≠ none
    by_cases z : b = a
    · subst z; rw [upd_same]; simp
    · rw [upd_ne z]; exact h
  · obtain ⟨u', e', c⟩ := l0 b u e
    refine ⟨u', ?_, c⟩
    show L2.upd w.H a o b = _
    rw [upd_ne (fun z => by rw [z, h0] at e; cases e)]; exact e'
theorem Wr.weak (x : Wr w w2 F) (h : ∀ a, F a → F1 a) : Wr w w2 F1 := ⟨x.hp, x.h0, fun a o e n => x.l a o e fun z => n (h a z), x.n, x.dom, x.lp, x.l0, x.pn⟩
theorem Wr.at_ (x : Wr w w2 F) {a : Addr} (h : (∃ o, w.H a = some o) ∧ w.H0 a = none) (n : ¬ F a) : w2.H a = w.H a ∧ w2.H0 a = none := by
  obtain ⟨⟨o, e⟩, z⟩ := h
  refine ⟨by rw [e]; exact x.l a o e n, ?_⟩
  cases y : w2.H0 a with
  | none => rfl
  | some u =>
    rcases x.n a (by rw [y]; simp) with t | t
    · exact absurd z t
    · rw [e] at t; cases t
theorem Wr.ow (x : Wr w w2 F) (o : Ow g.c g.X.K w.HP w.H0 w.H d v F1) (n : ∀ a, F1 a → ¬ F a) : Ow g.c g.X.K w2.HP w2.H0 w2.H d v F1 :=
  Ow.keep x.hp x.h0 d (fun b hb => x.at_ (o.held d b hb) (n b hb)) o
theorem OwL.keep {HP HP' H0 H0' H H' : Hp} {c : Cs} {K : PySem.W.Frag} (lp : Le HP HP') (l0 : Le H0 H0') : ∀ {xs : List D} {vs : List V} {F : Addr → Prop}, (∀ b, F b → H' b = H b ∧ H0' b = none) → OwL c K HP H0 H xs vs F → OwL c K HP' H0' H' xs vs F
  | [], vs, F, _, h => h
  | d :: ds, vs, F, hF, h => by
    obtain ⟨v, r, F1, F2, e, q1, q2, q3, q4⟩ := h
    exact ⟨v, r, F1, F2, e, Ow.keep lp l0 d (fun b hb => hF b ((q4 b).mpr (.inl hb))) q1, OwL.keep lp l0 (fun b hb => hF b ((q4 b).mpr (.inr hb))) q2, q3, q4⟩
theorem Wr.owL (x : Wr w w2 F) (o : OwL g.c g.X.K w.HP w.H0 w.H xs vs F1) (n : ∀ a, F1 a → ¬ F a) : OwL g.c g.X.K w2.HP w2.H0 w2.H xs vs F1 :=
  OwL.keep x.hp x.h0 (fun b hb => x.at_ (OwL.held o b hb) (n b hb)) o
theorem OwL.set : ∀ {xs : List D} {vs : List V} {F : Addr → Prop} {j : Nat}, OwL g.c g.X.K w.HP w.H0 w.H xs vs F → Ow g.c g.X.K w.HP w.H0 w.H dv vv Fv → (∀ a, F a → ¬ Fv a) → j < xs.length →
    ∃ F3, OwL g.c g.X.K w.HP w.H0 w.H (xs.set j dv) (vs.set j vv) F3 ∧ ∀ a, F3 a → F a ∨ Fv a
  | [], vs, F, j, _, _, _, h => absurd h (by simp)
  | d :: ds, vs, F, 0, o, ov, dj, _ => by
    obtain ⟨v, r, F1, F2, e, q1, q2, q3, q4⟩ := o
    subst e
    exact ⟨fun a => Fv a ∨ F2 a, ⟨vv, r, Fv, F2, rfl, ov, q2, fun a ha hb => dj a ((q4 a).mpr (.inr hb)) ha, fun _ => Iff.rfl⟩, fun a ha => ha.elim .inr fun z => .inl ((q4 a).mpr (.inr z))⟩
  | d :: ds, vs, F, j + 1, o, ov, dj, hj => by
    obtain ⟨v, r, F1, F2, e, q1, q2, q3, q4⟩ := o
    subst e
    obtain ⟨F3, o3, f3⟩ := OwL.set (j := j) q2 ov (fun a ha => dj a ((q4 a).mpr (.inr ha))) (by simpa using hj)
    refine ⟨fun a => F1 a ∨ F3 a, ⟨v, r.set j vv, F1, F3, rfl, q1, o3, fun a ha hb => ?_, fun _ => Iff.rfl⟩, fun a ha => ?_⟩
    · rcases f3 a hb with z | z
      · exact q3 a ha z
      · exact dj a ((q4 a).mpr (.inl ha)) z
    · rcases ha with z | z
      · exact .inl ((q4 a).mpr (.inl z))
      · exact (f3 a z).imp (fun y => (q4 a).mpr (.inr y)) id
theorem OwL.append : ∀ {xs : List D} {vs : List V} {F : Addr → Prop}, OwL g.c g.X.K w.HP w.H0 w.H xs vs F → OwL g.c g.X.K w.HP w.H0 w.H ys us F2 → (∀ a, F a → ¬ F2 a) → OwL g.c g.X.K w.HP w.H0 w.H (xs ++ ys) (vs ++ us) (fun a => F a ∨ F2 a)
  | [], vs, F, o, o2, _ => by
    obtain ⟨e, n⟩ := o
    subst e
    have : (fun a => F a ∨ F2 a) = F2 := funext fun a => propext ⟨fun z => z.elim (fun y => absurd y (n a)) id, .inr⟩
    rw [this]; exact o2
  | d :: ds, vs, F, o, o2, dj => by
    obtain ⟨v, r, F1, F3, e, q1, q2, q3, q4⟩ := o
    subst e
    refine ⟨v, r ++ us, F1, fun a => F3 a ∨ F2 a, rfl, q1, OwL.append q2 o2 fun a ha => dj a ((q4 a).mpr (.inr ha)), fun a ha hb => hb.elim (q3 a ha) (dj a ((q4 a).mpr (.inl ha))), fun a => ?_⟩
    show F a ∨ F2 a ↔ F1 a ∨ F3 a ∨ F2 a
    rw [q4 a, or_assoc]
theorem OwL.one (o : Ow g.c g.X.K w.HP w.H0 w.H d v F) : OwL g.c g.X.K w.HP w.H0 w.H [d] [v] F := ⟨v, [], F, fun _ => False, rfl, o, ⟨rfl, fun _ => id⟩, fun _ _ z => z, fun a => by simp⟩
theorem OwL.erase : ∀ {xs : List D} {vs : List V} {F : Addr → Prop} {j : Nat} {x : D}, OwL g.c g.X.K w.HP w.H0 w.H xs vs F → xs[j]? = some x →
    ∃ v1 F1 F2, vs[j]? = some v1 ∧ Ow g.c g.X.K w.HP w.H0 w.H x v1 F1 ∧ OwL g.c g.X.K w.HP w.H0 w.H (xs.eraseIdx j) (vs.eraseIdx j) F2 ∧ (∀ a, F1 a → ¬ F2 a) ∧ (∀ a, F1 a ∨ F2 a → F a)
  | [], vs, F, j, x, _, h => absurd h (by simp)
  | d :: ds, vs, F, 0, x, o, h => by
    obtain ⟨v, r, F1, F2, e, q1, q2, q3, q4⟩ := o
    simp at h
    subst e h
    exact ⟨v, F1, F2, rfl, q1, q2, q3, fun a ha => (q4 a).mpr ha⟩
  | d :: ds, vs, F, j + 1, x, o, h => by
    obtain ⟨v, r, F1, F2, e, q1, q2, q3, q4⟩ := o
    subst e
    obtain ⟨v1, G1, G2, e1, o1, o2, dj, sb⟩ := OwL.erase (j := j) q2 (by simpa using h)
    refine ⟨v1, G1, fun a => F1 a ∨ G2 a, by simpa using e1, o1, ⟨v, r.eraseIdx j, F1, G2, rfl, q1, o2, fun a ha hb => q3 a ha (sb a (.inr hb)), fun _ => Iff.rfl⟩, fun a ha hb => ?_, fun a ha => ?_⟩
    · rcases hb with z | z
      · exact q3 a z (sb a (.inl ha))
      · exact dj a ha z
    · rcases ha with z | z | z
      · exact (q4 a).mpr (.inr (sb a (.inl z)))
      · exact (q4 a).mpr (.inl z)
      · exact (q4 a).mpr (.inr (sb a (.inr z)))
/-- behind a write at a place: the state, and all that happened since w0 -/
theorem Ext.wr (x0 : Ext T w0 Fs0 w Fs) (s : Sr g w Fs σ env) (e1 : env[i]? = some (some d0)) (e2 : σ[i]? = some (some v0)) (hf : ∀ a, F a → Fs i a) (r : Rep g w (Fs i) F v v0 p d0 u) (x : Wr w w2 F) (o2 : Ow g.c g.X.K w2.HP w2.H0 w2.H d2 v F2) (hu : isUns d2 = u)
    (n : ∀ a, F2 a → F a ∨ ∀ j, ¬ Fs j a) (t0 : ∀ a, F2 a → F a ∨ w0.H a = none ∨ ∃ j ∈ T, Fs0 j a) :
    ∃ Fs2, Sr g w2 Fs2 σ (env.set i (some (setP p d2 d0))) ∧ Ext (T ++ [i]) w0 Fs0 w2 Fs2 ∧ ∀ j a, Fs2 j a → Fs j a ∧ ¬ F a ∨ F2 a := by
  have ff : ∀ {a : Addr}, F a → Fs0 i a ∨ w0.H a = none ∨ ∃ j ∈ T, Fs0 j a := fun ha => x0.fs i _ (hf _ ha)
  obtain ⟨F3, o3, f3⟩ := r w2 d2 F2 x.hp x.h0 (fun a ha na => x.at_ (s.held ha) na) o2 hu fun a ha z => (n a ha).elim id fun y => absurd z (y i)
  have sx := s.re (w2 := w2) (d3 := setP p d2 d0) e1 e2 x.lp x.l0 x.hp x.h0 (fun j hj a ha => x.at_ (s.held ha) fun z => hj (s.dis j i a ha (hf a z))) o3 fun a ha j hj z => by
    rcases (f3 a).mp ha with ⟨y, _⟩ | y
    · exact hj (s.dis j i a z y)
    · rcases n a y with t | t
      · exact hj (s.dis j i a z (hf a t))
      · exact t j z
  refine ⟨_, sx, ⟨x0.hp.trans x.hp, x0.h0.trans x.h0, fun a o e na => ?_, fun j hj a ha => ?_, fun j hj a => ?_, fun j a z => ?_, fun a z => ?_, fun a z => x.dom a (x0.dom a z), fun a z => ?_⟩, fun j a z => ?_⟩
  · refine x.l a o (x0.off a o e na) fun z => ?_
    rcases ff z with y | y | ⟨k, _, y⟩
    · exact na i y
    · rw [e] at y; cases y
    · exact na k y
  · have h1 : j ∉ T := fun z => hj (List.mem_append_left _ z)
    have h2 : j ≠ i := fun z => hj (by simp [z])
    obtain ⟨q1, q2⟩ := x0.keep j h1 a ha
    have ha' := (x0.same j h1 a).mpr ha
    obtain ⟨q3, q4⟩ := x.at_ (s.held ha') fun z => h2 (s.dis j i a ha' (hf a z))
    exact ⟨q3.trans q1, q4⟩
  · have h1 : j ∉ T := fun z => hj (List.mem_append_left _ z)
    have h2 : j ≠ i := fun z => hj (by simp [z])
    exact ⟨fun z => (x0.same j h1 a).mp (z.elim (fun y => absurd y.1 h2) fun y => y.2), fun z => .inr ⟨h2, (x0.same j h1 a).mpr z⟩⟩
  · have up : Fs j a → Fs0 j a ∨ w0.H a = none ∨ ∃ k ∈ T ++ [i], Fs0 k a := fun y => (x0.fs j a y).imp id fun y => y.imp id fun ⟨k, hk, y⟩ => ⟨k, List.mem_append_left _ hk, y⟩
    rcases z with ⟨rfl, z⟩ | ⟨_, z⟩
    · rcases (f3 a).mp z with ⟨y, _⟩ | y
      · exact up y
      · rcases t0 a y with t | t | ⟨k, hk, t⟩
        · exact up (hf a t)
        · exact .inr (.inl t)
        · exact .inr (.inr ⟨k, List.mem_append_left _ hk, t⟩)
    · exact up z
  · rcases x.n a z with y | y
    · exact x0.h0n a y
    · refine .inr (.inr ?_)
      by_cases t : w0.H a = none
      · exact t
      · exact absurd y (x0.dom a t)
  · rcases x.pn a z with y | y
    · exact x0.pn a y
    · refine .inr (.inr ?_)
      by_cases t : w0.H a = none
      · exact t
      · exact absurd y (x0.dom a t)
  · rcases z with ⟨rfl, z⟩ | ⟨hj, z⟩
    · exact (f3 a).mp z
    · exact .inl ⟨z, fun y => hj (s.dis j i a z (hf a y))⟩
/-! ### stores, by data -/
/-- o[k] = v -/
def SetS (g : G) (ts : TSet) (h : D → D → D → Option D) : Prop := ∀ d dk dv d2, h d dk dv = some d2 → ∀ (w : Wd) v vk vv F Fk Fv, Le w.HP w.H0 → Le w.H0 w.H → Ow g.c g.X.K w.HP w.H0 w.H d v F → Ow g.c g.X.K w.HP w.H0 w.H dk vk Fk → Ow g.c g.X.K w.HP w.H0 w.H dv vv Fv → (∀ a, F a → ¬ Fv a) →
  ∀ Q : Hp → Prop, (∀ w2 F2, Wr w w2 F → Ow g.c g.X.K w2.HP w2.H0 w2.H d2 v F2 → isUns d2 = isUns d → (∀ a, F2 a → F a ∨ Fv a) → Q w2.H) → ts v vk vv w.H Q
def setL (d dk dv : D) : Option D := match d with
  | .nd k o xs => match k, o, dk with
    | .lst, .own, .int n => match ixN xs.length n with
      | some j => some (.nd .lst .own (xs.set j dv))
      | none => none
    | _, _, _ => none
  | _ => none
theorem setS_L : SetS g rSetL setL := by
  intro d dk dv d2 eh w v vk vv F Fk Fv lp l0 o ok ov dj Q q
  unfold setL at eh
  split at eh
  · rename_i k fl xs
    split at eh
    · rename_i n
      split at eh
      · rename_i j ej
        cases eh
        obtain ⟨a, vs, A, F', rfl, ⟨hH, rfl⟩, h0, hd, ol, hF⟩ := o
        have ek : vk = .int n := ok.1
        subst ek
        refine ⟨a, vs, n, j, rfl, rfl, hH, by rw [ol.len]; exact ej, ?_⟩
        have x := Wr.upd lp l0 (.lst (vs.set j vv)) (h0 a (by simp))
        have nF' : ∀ b, F' b → b ≠ a := fun b hb z => hd a (by simp) (z ▸ hb)
        have hFa : F a := (hF a).mpr (.inl (by simp))
        obtain ⟨F3, o3, f3⟩ := (x.owL ol nF').set (x.ow ov fun b hb z => dj a hFa (z ▸ hb)) (fun b hb => dj b ((hF b).mpr (.inr hb))) (ixN_lt ej)
        refine q _ (fun b => b ∈ [a] ∨ F3 b) (x.weak fun b hb => by rw [hb]; exact hFa) ⟨a, vs.set j vv, [a], F3, rfl, ⟨upd_same, rfl⟩, h0, fun b hb z => ?_, o3, fun _ => Iff.rfl⟩ rfl fun b hb => ?_
        · simp at hb; subst hb
          rcases f3 b z with y | y
          · exact hd b (by simp) y
          · exact dj b hFa y
        · rcases hb with hb | hb
          · simp at hb; subst hb; exact .inl hFa
          · exact (f3 b hb).imp (fun y => (hF b).mpr (.inr y)) id
      · cases eh
    · cases eh
  · cases eh
theorem putK_set {κ : Type} [DecidableEq κ] {kvs : List (κ × V)} {k : κ} {j : Nat} (y : V) (nd : (kvs.map (·.1)).Nodup) (h : (kvs.findIdx? fun p => decide (p.1 = k)) = some j) : (putK kvs k y).map (·.1) = kvs.map (·.1) ∧ (putK kvs k y).map (·.2) = (kvs.map (·.2)).set j y := by
  have hv := findIdx_valV h
  have hj : j < kvs.length := (List.findIdx?_eq_some_iff_getElem.mp h).1
  have ek : kvs[j].1 = k := by
    obtain ⟨_, q, _⟩ := List.findIdx?_eq_some_iff_getElem.mp h
    simpa using q
  have ha : (kvs.any fun kv => decide (kv.1 = k)) = true := by
    rw [List.any_eq_true]
    exact ⟨kvs[j], List.getElem_mem hj, by simpa using ek⟩
  unfold putK
  rw [if_pos ha, List.map_map, List.map_map]
  refine ⟨List.map_congr_left fun p _ => ?_, ?_⟩
  · show (if p.1 = k then (p.1, y) else p).1 = p.1
    split <;> rfl
  · refine List.ext_getElem (by simp) fun i h1 h2 => ?_
    simp only [List.length_map] at h1
    rw [List.getElem_map]
    show (if kvs[i].1 = k then (kvs[i].1, y) else kvs[i]).2 = _
    rw [List.getElem_set]
    by_cases e : j = i
    · subst e
      rw [if_pos ek, if_pos rfl]
    · rw [if_neg e, List.getElem_map, if_neg]
      intro z
      have z2 : (kvs.map (·.1))[i]'(by simpa using h1) = (kvs.map (·.1))[j]'(by simpa using hj) := by rw [List.getElem_map, List.getElem_map, z, ek]
      exact e (((List.getElem_inj nd).mp z2).symm)
theorem putK_snoc {κ : Type} [DecidableEq κ] {kvs : List (κ × V)} {k : κ} (y : V) (h : (kvs.findIdx? fun p => decide (p.1 = k)) = none) : putK kvs k y = kvs ++ [(k, y)] ∧ k ∉ kvs.map (·.1) := by
  have h' := List.findIdx?_eq_none_iff.mp h
  have : ¬ (kvs.any fun kv => decide (kv.1 = k)) = true := by
    rw [List.any_eq_true]
    rintro ⟨p, hp, e⟩
    rw [h' p hp] at e; cases e
  refine ⟨by unfold putK; rw [if_neg this], fun m => ?_⟩
  obtain ⟨p, hp, e⟩ := List.mem_map.mp m
  have := h' p hp
  simp [e] at this
theorem map_fst2 {κ α : Type} (f : κ → α) (l : List (κ × V)) : l.map (fun p => f p.1) = (l.map (·.1)).map f := by rw [List.map_map]; rfl
def putKs (ks : List KD) (k : KD) : List KD := match keyIx ks k with
  | some _ => ks
  | none => ks ++ [k]
def putXs (ks : List KD) (xs : List D) (k : KD) (dv : D) : List D := match keyIx ks k with
  | some j => xs.set j dv
  | none => xs ++ [dv]
def putVs (ks : List KD) (xs : List V) (k : KD) (dv : V) : List V := match keyIx ks k with
  | some j => xs.set j dv
  | none => xs ++ [dv]
def setDc (d dk dv : D) : Option D := match d with
  | .nd k o xs => match k, o, keyD dk with
    | .dct so ks, .own, some kk => if okKey so kk = true ∧ ks.length < sizeLine then some (.nd (.dct so (putKs ks kk)) .own (putXs ks xs kk dv)) else none
    | _, _, _ => none
  | _ => none
theorem DWr.put {H : Hp} {a : Addr} {so : KS} {ks : List KD} {vs : List V} {kk : KD} {vk vv : V} (h : DWr H a so ks vs) (hk : KeyV H kk vk) (hs : okKey so kk = true) (hl : ks.length < sizeLine) :
    ∃ o, DPut H a vk vv (upd H a o) ∧ DWr (upd H a o) a so (putKs ks kk) (putVs ks vs kk vv) := by
  rcases h with ⟨kvs, h, r1, r2, r3, r4⟩ | ⟨kvs, h, r1, r2, r3, r4⟩
  · subst r1 r2 r3
    cases kk with
    | k x =>
      have hk' : vk = kV x := hk
      subst hk'
      refine ⟨_, .inl ⟨kvs, x, h, rfl, by simpa using hl, rfl⟩, .inl ⟨_, upd_same, ?_, ?_, rfl, ?_⟩⟩
      all_goals
        cases e : kvs.findIdx? (fun p => decide (p.1 = x)) with
        | some j =>
          obtain ⟨q1, q2⟩ := putK_set vv r4 e
          first
            | (unfold putKs; rw [keyIx_k, e]; exact (map_fst2 KD.k _).trans ((congrArg (List.map KD.k) q1).trans (map_fst2 KD.k _).symm) |>.symm)
            | (unfold putVs; rw [keyIx_k, e]; exact q2.symm)
            | (rw [q1]; exact r4)
        | none =>
          obtain ⟨q1, q2⟩ := putK_snoc vv e
          first
            | (unfold putKs; rw [keyIx_k, e, q1]; simp)
            | (unfold putVs; rw [keyIx_k, e, q1]; simp)
            | (rw [q1, List.map_append]; exact List.nodup_append.mpr ⟨r4, by simp, fun y hy z hz => by simp at hz; subst hz; intro t; subst t; exact q2 hy⟩)
    | t l => cases hs
  · subst r1 r2 r3
    cases kk with
    | t x =>
      obtain ⟨b, hk', hb⟩ := hk
      subst hk'
      refine ⟨_, .inr ⟨kvs, x, b, h, rfl, hb, by simpa using hl, rfl⟩, .inr ⟨_, upd_same, ?_, ?_, rfl, ?_⟩⟩
      all_goals
        cases e : kvs.findIdx? (fun p => decide (p.1 = x)) with
        | some j =>
          obtain ⟨q1, q2⟩ := putK_set vv r4 e
          first
            | (unfold putKs; rw [keyIx_t, e]; exact (map_fst2 KD.t _).trans ((congrArg (List.map KD.t) q1).trans (map_fst2 KD.t _).symm) |>.symm)
            | (unfold putVs; rw [keyIx_t, e]; exact q2.symm)
            | (rw [q1]; exact r4)
        | none =>
          obtain ⟨q1, q2⟩ := putK_snoc vv e
          first
            | (unfold putKs; rw [keyIx_t, e, q1]; simp)
            | (unfold putVs; rw [keyIx_t, e, q1]; simp)
            | (rw [q1, List.map_append]; exact List.nodup_append.mpr ⟨r4, by simp, fun y hy z hz => by simp at hz; subst hz; intro t; subst t; exact q2 hy⟩)
    | k l => cases hs
theorem keyIx_lt {ks : List KD} {k : KD} {j : Nat} (h : keyIx ks k = some j) : j < ks.length := (List.findIdx?_eq_some_iff_getElem.mp h).1
theorem setS_D : SetS g rSetD setDc := by
  intro d dk dv d2 eh w v vk vv F Fk Fv lp l0 o ok ov dj Q q
  unfold setDc at eh
  split at eh
  · rename_i k fl xs
    split at eh
    · rename_i so ks kk ek
      split at eh
      · rename_i hc
        cases eh
        obtain ⟨a, vs, A, F', rfl, ⟨hH, rfl⟩, h0, hd, ol, hF⟩ := o
        have kv := keyD_v (lp.trans l0) (by rw [keyD_frz]; exact ek) (ok.view l0)
        obtain ⟨ob, g1, g2⟩ := hH.put (vv := vv) kv hc.1 hc.2
        refine ⟨a, _, rfl, g1, ?_⟩
        have x := Wr.upd lp l0 ob (h0 a (by simp))
        have nF' : ∀ b, F' b → b ≠ a := fun b hb z => hd a (by simp) (z ▸ hb)
        have hFa : F a := (hF a).mpr (.inl (by simp))
        have ol' := x.owL ol nF'
        have ov' := x.ow ov fun b hb z => dj a hFa (z ▸ hb)
        have dj' : ∀ b, F' b → ¬ Fv b := fun b hb => dj b ((hF b).mpr (.inr hb))
        have key : ∃ F3, OwL g.c g.X.K w.HP w.H0 (upd w.H a ob) (putXs ks xs kk dv) (putVs ks vs kk vv) F3 ∧ ∀ b, F3 b → F' b ∨ Fv b := by
          unfold putXs putVs
          cases e : keyIx ks kk with
          | some j => exact OwL.set (w := ⟨w.HP, w.H0, upd w.H a ob⟩) ol' ov' dj' (by rw [← ol.len, hH.rd.len]; exact keyIx_lt e)
          | none => exact ⟨_, OwL.append (w := ⟨w.HP, w.H0, upd w.H a ob⟩) ol' (OwL.one ov') dj', fun b hb => hb⟩
        obtain ⟨F3, o3, f3⟩ := key
        refine q _ (fun b => b ∈ [a] ∨ F3 b) (x.weak fun b hb => by rw [hb]; exact hFa) ⟨a, _, [a], F3, rfl, ⟨g2, rfl⟩, h0, fun b hb z => ?_, o3, fun _ => Iff.rfl⟩ rfl fun b hb => ?_
        · simp at hb; subst hb
          rcases f3 b z with y | y
          · exact hd b (by simp) y
          · exact dj b hFa y
        · rcases hb with hb | hb
          · simp at hb; subst hb; exact .inl hFa
          · exact (f3 b hb).imp (fun y => (hF b).mpr (.inr y)) id
      · cases eh
    · cases eh
  · cases eh
def setA (d dk dv : D) : Option D := match setL d dk dv with
  | some x => some x
  | none => setDc d dk dv
def rSetA : TSet := fun o i v H Q => rSetL o i v H Q ∨ rSetD o i v H Q
theorem setS_A : SetS g rSetA setA := by
  intro d dk dv d2 eh w v vk vv F Fk Fv lp l0 o ok ov dj Q q
  unfold setA at eh
  split at eh
  · rename_i x ex
    have e2 : x = d2 := by simpa using eh
    subst e2
    exact .inl (setS_L d dk dv x ex w v vk vv F Fk Fv lp l0 o ok ov dj Q q)
  · exact .inr (setS_D d dk dv d2 eh w v vk vv F Fk Fv lp l0 o ok ov dj Q q)
theorem set_A {X : Cx} (hu : X.A.units + 1 < cLine) : PSet X rSetA := by
  intro pins s σ H o i v ov iv u Q I ro ri rv h
  rcases h with h | h
  · exact set_list pins s σ H o i v ov iv u Q I ro ri rv h
  · exact set_dict hu pins s σ H o i v ov iv u Q I ro ri rv h
end
end DL
set_option Elab.async false
set_option linter.all false
set_option maxRecDepth 100000
set_option maxHeartbeats 4000000
namespace DL
open PySem PySem.Spec PyProof.Rows L2

/-! ### a place, found -/
structure PlaceAt (g : G) (w : Wd) (Fs : Fps) (σ : St) (env : Env) (i : Nat) (p : List Nat) (d d0 : D) (v v0 : V) (F : Addr → Prop) : Prop where
  e1 : env[i]? = some (some d0)
  e2 : σ[i]? = some (some v0)
  e3 : getP p d0 = some d
  o : Ow g.c g.X.K w.HP w.H0 w.H d v F
  f : ∀ a, F a → Fs i a
  r : ownP p d0 = true → Rep g w (Fs i) F v v0 p d0 (isUns d)
section
variable {g : G} {w w' w'' w1 w2 w0 : Wd} {Fs Fs' Fs'' Fs0 Fs1 : Fps} {σ σ' σ'' : St} {env env' : Env} {T T' R S S' : List Nat} {d d0 d2 dv : D} {v v0 vv : V} {F F1 F2 Fv : Addr → Prop} {D' : L2.Ends} {i j : Nat} {p : List Nat} {u : Bool} {xs ys : List D} {vs us : List V}
theorem PlaceAt.later (q : PlaceAt g w Fs σ env i p d d0 v v0 F) (x : Ext T w Fs w' Fs') (hi : i ∉ T) (fr : env'[i]? = env[i]?) : PlaceAt g w' Fs' σ env' i p d d0 v v0 F := by
  have eF : Fs' i = Fs i := funext fun a => propext (x.same i hi a)
  obtain ⟨o2, _⟩ := x.hold (R := [i]) q.o (fun a ha => .inl ⟨i, by simp, q.f a ha⟩) (fun k hk => by simp at hk; subst hk; exact hi)
  refine ⟨fr.trans q.e1, q.e2, q.e3, o2, by rw [eF]; exact q.f, fun hp => ?_⟩
  rw [eF]
  exact (q.r hp).later x.hp x.h0 fun a ha => (x.keep i hi a ha).1
theorem PPost.ofS {r : PR} {k : List Nat → D → Env → SR} {Q : VK} (x : ExtS S w Fs σ w1 Fs1 σ) (h : SPost g S w Fs σ D' (r.toS k)) (q : ∀ p d e w' Fs' v v0 d0 F, Ext T w1 Fs1 w' Fs' → Sr g w' Fs' σ e → PlaceAt g w' Fs' σ e i p d d0 v v0 F → SPost g S w Fs σ D' (k p d e) → Q v w'.H) : PPost g i T w1 Fs1 σ Q r := by
  cases r with
  | ok p d e => exact fun w' Fs' v v0 d0 F y s e1 e2 e3 o f r => q p d e w' Fs' v v0 d0 F y s ⟨e1, e2, e3, o, f, r⟩ h
  | ex x' p e => exact fun w2 Fs2 dd y s py => h w2 Fs2 σ dd (x.trans y.toS) s py
  | bad => exact h
theorem EPost.ofS' {r : ER} {k : D → Env → SR} {Q : VK} (x : ExtS S w Fs σ w1 Fs1 σ) (h : SPost g S w Fs σ D' (r.toS k)) (q : ∀ d e w' Fs' v F, Ext T w1 Fs1 w' Fs' → Sr g w' Fs' σ e → Ow g.c g.X.K w'.HP w'.H0 w'.H d v F → (∀ a, F a → ∀ i, ¬ Fs' i a) → (∀ a, F a → w1.H a = none ∨ ∃ j ∈ T, Fs1 j a) → SPost g S w Fs σ D' (k d e) → Q v w'.H) : EPost g T w1 Fs1 σ Q r := by
  cases r with
  | ok d e => exact fun w' Fs' v F x s o n p => q d e w' Fs' v F x s o n p h
  | ex x' p e => exact fun w2 Fs2 dd y s py => h w2 Fs2 σ dd (x.trans y.toS) s py
  | bad => exact h
theorem OPost.ofS' {r : ER} {k : D → Env → SR} {Q : VK} (x : ExtS S w Fs σ w1 Fs1 σ) (h : SPost g S w Fs σ D' (r.toS k)) (q : ∀ d e w' Fs' v F, Ext T w1 Fs1 w' Fs' → Sr g w' Fs' σ e → Ow g.c g.X.K w'.HP w'.H0 w'.H d v F → (∀ a, F a → (∃ i ∈ R, Fs' i a) ∨ ∀ i, ¬ Fs' i a) → (∀ a, F a → w1.H a = none ∨ ∃ j, Fs1 j a) → SPost g S w Fs σ D' (k d e) → Q v w'.H) : OPost g T R w1 Fs1 σ Q r := by
  cases r with
  | ok d e => exact fun w' Fs' v F x s o n p => q d e w' Fs' v F x s o n p h
  | ex x' p e => exact fun w2 Fs2 dd y s py => h w2 Fs2 σ dd (x.trans y.toS) s py
  | bad => exact h
end
/-- the datum at the place p of slot i is put anew -/
def putS (i : Nat) (p : List Nat) (d2 : Option D) (env : Env) : SR := match d2, env[i]? with
  | some d2, some (some d0) => if ownP p d0 = true then .nx (env.set i (some (setP p d2 d0))) else .bad
  | _, _ => .bad
def sPut (i : Nat) (fe : Env → ER) (fp : Env → PR) (fk : Env → ER) (env : Env) : SR := (fe env).toS fun dv e1 => (fp e1).toS fun p d e2 => (fk e2).toS fun dk e3 => putS i p (setA d dk dv) e3
/-- an item that is read for an augmented store -/
def getA (d dk : D) : Option D := match d with
  | .nd k _ xs => match k with
    | .lst => match ixOf d dk with
      | some j => xs[j]?
      | none => none
    | .dct _ _ => match ixOf d dk with
      | some j => xs[j]?
      | none => none
    | _ => none
  | _ => none
def sPutAug (i : Nat) (h : D → D → Option D) (fp : Env → PR) (fk fe : Env → ER) (env : Env) : SR := (fp env).toS fun p d e1 => (fk e1).toS fun dk e2 => match getA d dk with
  | some dx => (fe e2).toS fun dy e3 => match h dx dy with
    | some dz => putS i p (setA d dk dz) e3
    | none => .bad
  | none => .bad
def rGetA (K : PySem.W.Frag) : V → V → Hp → VK → Prop := fun x y H Q => rIxL K x y H Q ∨ ∃ a v, x = .ref a ∧ DGet H a y (some v) ∧ Q v H
theorem get_A {X : Cx} (hu : X.A.units + 1 < cLine) : PGet X (rGetA X.K) := by
  intro pins s σ H o i ov iv Q I ro ri h
  rcases h with ⟨p, xs, i, z, rfl, rfl, hq, he, q⟩ | ⟨a, v, rfl, gq, q⟩
  · cases ro
    obtain ⟨t, rfl⟩ := ri
    obtain ⟨its, r, pl, hz⟩ := I.list hq
    obtain ⟨j, h1, h2, h3, h4, h5⟩ := atI_get he
    obtain ⟨w, ew, rw'⟩ := r.get h2
    have hl := r.length
    have hn := line63
    have fin : EP X pins σ Q w s := ⟨z, H, I, rw', q⟩
    by_cases h0 : 0 ≤ i
    · have hj : i.toNat = j := by
        rw [seqIndex_of h0 h5] at h1
        exact Option.some.inj h1
      exact wpAny_getItem_list pl.isList h0 (by omega) (by rw [hj]; simpa using ew) fin
    · have hj : (i + (its.toArray.size : Int)).toNat = j := by
        rw [seqIndex_neg (by omega) h4] at h1
        rw [List.size_toArray, ← hl]
        exact Option.some.inj h1
      exact wpAny_getItem_list_neg pl.isList (by omega) (by rw [List.size_toArray] <;> omega) (by omega) (by rw [hj]; simpa using ew) fin
  · cases ro
    exact d_getItem hu I gq ri fun w' s' I' r' => ⟨v, H, I', r', q⟩
section
variable {g : G} {e a b c o : Expr} {st : Stmt} {rest as bs : List Stmt} {i j cc : Nat} {T Ta Tb Tc Tp Tk R Ra Rb Rk S S' : List Nat} {f fa fb fc fk : Env → ER} {fs : Env → LR} {fp : Env → PR} {h k : Env → SR} {pos pos' tpos : Pos} {x : Str}
theorem Ow.getA {w : Wd} {d dk dx : D} {v vk : V} {F Fk : Addr → Prop} (lp : Le w.HP w.H0) (l0 : Le w.H0 w.H) (h : getA d dk = some dx) (o : Ow g.c g.X.K w.HP w.H0 w.H d v F) (ok : Ow g.c g.X.K w.HP w.H0 w.H dk vk Fk) :
    ∃ vx Fx, (∀ a, Fx a → F a) ∧ Ow g.c g.X.K w.HP w.H0 w.H dx vx Fx ∧ ∀ Q : VK, Q vx w.H → rGetA g.X.K v vk w.H Q := by
  have key : ∃ k fl xs j, d = .nd k fl xs ∧ ixOf d dk = some j ∧ xs[j]? = some dx ∧ (k = .lst ∨ ∃ so ks, k = .dct so ks) := by
    unfold DL.getA at h
    split at h
    · rename_i k fl xs
      split at h
      · split at h
        · rename_i j ej
          exact ⟨.lst, fl, xs, j, rfl, ej, h, .inl rfl⟩
        · cases h
      · rename_i so ks
        split at h
        · rename_i j ej
          exact ⟨.dct so ks, fl, xs, j, rfl, ej, h, .inr ⟨so, ks, rfl⟩⟩
        · cases h
      · cases h
    · cases h
  obtain ⟨k, fl, xs, j, rfl, ej, ex, hk⟩ := key
  obtain ⟨a, vs, v1, F1, ev, ra, hl, e4, o3, s3, _⟩ := o.child lp l0 ex
  subst ev
  refine ⟨v1, F1, s3, o3, fun Q q => ?_⟩
  have rv := ok.view l0
  rcases hk with rfl | ⟨so, ks, rfl⟩
  · cases dk with
    | int n =>
      refine .inl ⟨a, vs, n, v1, rfl, rv, .inl (.inl ra), ?_, q⟩
      unfold atI
      rw [hl, show ixN xs.length n = some j from ej]
      exact e4
    | _ => cases ej
  · obtain ⟨kk, e5, e6⟩ := Option.bind_eq_some_iff.mp (show (keyD dk).bind (keyIx ks) = some j from ej)
    exact .inr ⟨a, v1, rfl, DRd.get ra (keyD_v (lp.trans l0) (by rw [keyD_frz]; exact e5) rv) e6 e4, q⟩
theorem putS_run {w w1 : Wd} {Fs Fs1 : Fps} {σ : St} {D' : L2.Ends} {e3 : Env} {p : List Nat} {d dk dv d0 : D} {v vk vv v0 : V} {F Fk Fv : Addr → Prop} (x : Ext T w Fs w1 Fs1) (s : Sr g w1 Fs1 σ e3) (pl : PlaceAt g w1 Fs1 σ e3 i p d d0 v v0 F) (ok : Ow g.c g.X.K w1.HP w1.H0 w1.H dk vk Fk)
    (ov : Ow g.c g.X.K w1.HP w1.H0 w1.H dv vv Fv) (nv : ∀ a, Fv a → ∀ j, ¬ Fs1 j a) (pv : ∀ a, Fv a → w.H a = none ∨ ∃ j ∈ T, Fs j a) (q : SPost g S w Fs σ D' (putS i p (setA d dk dv) e3)) : rSetA v vk vv w1.H (D'.nx σ) := by
  unfold putS at q
  cases ed : setA d dk dv with
  | none => rw [ed] at q; exact (show False from q).elim
  | some d2 =>
    rw [ed, pl.e1] at q
    dsimp only at q
    split at q
    · rename_i hp
      refine setS_A d dk dv d2 ed w1 v vk vv F Fk Fv s.lp s.l0 pl.o ok ov (fun a ha hb => nv a hb i (pl.f a ha)) _ fun w2 F2 x2 o2 hu h2 => ?_
      obtain ⟨Fs2, s3, x3, _⟩ := x.wr s pl.e1 pl.e2 pl.f (pl.r hp) x2 o2 hu (fun a ha => (h2 a ha).imp id (nv a)) fun a ha => (h2 a ha).imp id (pv a)
      exact q w2 Fs2 σ x3.toS s3
    · exact q.elim
theorem psx_put (hu : g.X.A.units + 1 < cLine) (he : PEx g e T f) (ho : PPx g o i Tp fp) (hk : POx g b Tk Rk fk) (hi : i ∉ Tk)
    (ha : ∀ v, assign (.Subscript o b pos') g.X.env v = (do
      let ov ← holding [v] (eval o g.X.env)
      let iv ← holding [v, ov] (eval b g.X.env)
      standAt pos'
      holding [v, ov, iv] (setItem ov iv v)
      release [v, ov, iv] []) := by intro _; rfl)
    (hs : swapsWithSole [.Subscript o b pos'] e pos.line g.X.env = pure false := by rfl) (hw : swappedStores [.Subscript o b pos'] e g.X.env = pure none := by rfl)
    (h1 : (assignEach [.Subscript o b pos'] g.X.env).map (·.2) = [assign (.Subscript o b pos') g.X.env] := by rfl) : PSx g (.Assign [.Subscript o b pos'] e pos) S (sPut i f fp fk) := by
  obtain ⟨t, t1, t2⟩ := he.ex
  obtain ⟨u, u1, u2⟩ := ho.ex
  obtain ⟨y, y1, y2⟩ := hk.ex
  refine ⟨_, ps_asg t1 (pg_sub u1 y1 (set_A hu) ha) hs hw h1, fun w Fs σ env s D' z => t2 w Fs σ env s _ (EPost.ofS z fun dv e1 w1 Fs1 vv Fv x1 s1 ov nv pv q => ?_)⟩
  refine u2 w1 Fs1 σ e1 s1 _ (PPost.ofS x1.toS q fun p d e2 w2 Fs2 v v0 d0 F x2 s2 pl q => ?_)
  refine y2 w2 Fs2 σ e2 s2 _ ?_
  cases er : fk e2 with
  | ex x' p' e3 => rw [er] at q; exact fun w3 Fs3 dd y3 s3 py => q w3 Fs3 σ dd (x1.toS.trans (x2.toS.trans y3.toS)) s3 py
  | bad => rw [er] at q; exact q
  | ok dk e3 =>
    rw [er] at q
    intro w3 Fs3 vk Fk x3 s3 ok nk pk
    obtain ⟨ov2, nv2⟩ := x2.tmp ov nv
    obtain ⟨ov3, nv3⟩ := x3.tmp ov2 nv2
    exact putS_run (S := S) (x1.trans (x2.trans x3)) s3 (pl.later x3 hi (hk.fr _ _ _ er i hi)) ok ov3 nv3 (fun a ha => (pv a ha).imp id fun ⟨j, hj, y⟩ => ⟨j, List.mem_append_left _ hj, y⟩) q
theorem psx_putAug {op : Operator} {r : V → V → Hp → VK → Prop} {hh : D → D → Option D} (hu : g.X.A.units + 1 < cLine) (hop : OpS g r hh) (hr : PIp g.X op r) (ho : PPx g o i Tp fp) (hk : POx g b Tk Rk fk) (he : POx g e T R f) (hi : i ∉ Tk) (hi2 : i ∉ T) (hR : ∀ j ∈ Rk, j ∉ T)
    (ha : ∀ ov iv new, augStore b ov iv new = (do holding [new, ov, iv] (setItem ov iv new); release [new, ov, iv] []; pure .next) := by intros; rfl) : PSx g (.AugAssign (.Subscript o b tpos) op e pos) S (sPutAug i hh fp fk f) := by
  obtain ⟨t, t1, t2⟩ := he.ex
  obtain ⟨u, u1, u2⟩ := ho.ex
  obtain ⟨y, y1, y2⟩ := hk.ex
  refine ⟨_, ps_augS u1 y1 (get_A hu) t1 hr (set_A hu) ha, fun w Fs σ env s D' z => u2 w Fs σ env s _ (PPost.ofS .refl z fun p d e1 w1 Fs1 v v0 d0 F x1 s1 pl q => ?_)⟩
  refine y2 w1 Fs1 σ e1 s1 _ ?_
  cases er : fk e1 with
  | ex x' p' e2 => rw [er] at q; exact fun w3 Fs3 dd y3 s3 py => q w3 Fs3 σ dd (x1.toS.trans y3.toS) s3 py
  | bad => rw [er] at q; exact q
  | ok dk e2 =>
    rw [er] at q
    intro w2 Fs2 vk Fk x2 s2 ok nk pk
    have pl2 := pl.later x2 hi (hk.fr _ _ _ er i hi)
    simp only [ER.toS] at q
    split at q
    · rename_i dx edx
      obtain ⟨vx, Fx, sx, ox, gx⟩ := pl2.o.getA s2.lp s2.l0 edx ok
      refine gx _ ?_
      refine t2 w2 Fs2 σ e2 s2 _ ?_
      cases ef : f e2 with
      | ex x' p' e3 => rw [ef] at q; exact fun w3 Fs3 dd y3 s3 py => q w3 Fs3 σ dd (x1.toS.trans (x2.toS.trans y3.toS)) s3 py
      | bad => rw [ef] at q; exact q
      | ok dy e3 =>
        rw [ef] at q
        intro w3 Fs3 vy Fy x3 s3 oy ny py
        simp only [ER.toS] at q
        have pl3 := pl2.later x3 hi2 (he.fr _ _ _ ef i hi2)
        obtain ⟨ok3, _⟩ := x3.hold ok nk hR
        obtain ⟨ox3, _⟩ := x3.hold (R := [i]) ox (fun a ha => .inl ⟨i, by simp, pl2.f a (sx a ha)⟩) (fun k hk => by simp at hk; subst hk; exact hi2)
        cases eh : hh dx dy with
        | none => simp only [eh] at q; exact (show False from q).elim
        | some dz =>
          simp only [eh] at q
          refine hop dx dy dz eh w3 vx vy Fx Fy s3.lp s3.l0 ox3 oy _ fun w4 vz Fz gr oz nz => ?_
          obtain ⟨s4, x4⟩ := s3.grow gr
          have x14 := x1.trans (x2.trans (x3.trans x4))
          refine putS_run (S := S) x14 s4 (pl3.later x4 (by simp) rfl) (gr.ow (g := g) ok3) oz (fun a ha j y => ?_) (fun a ha => .inl ?_) q
          · obtain ⟨⟨u, eu⟩, _⟩ := s3.held y
            rw [nz a ha] at eu; cases eu
          · by_cases t : w.H a = none
            · exact t
            · exact absurd (nz a ha) ((x1.trans (x2.trans x3)).dom a t)
    · exact q.elim
end
end DL
set_option Elab.async false
set_option linter.all false
set_option maxRecDepth 100000
set_option maxHeartbeats 4000000
namespace DL
open PySem PySem.Spec PyProof.Rows L2

/-! ### targets -/
theorem PG.or {X : Cx} {tg : Expr} {t u : TG} (h : PG X tg t) (k : PG X tg u) : PG X tg (fun v σ H Q => t v σ H Q ∨ u v σ H Q) :=
  ⟨fun pins s σ H v u Q I r q => q.elim (h.run pins s σ H v u Q I r) (k.run pins s σ H v u Q I r)⟩
def TgOk (g : G) (S : List Nat) (w : Wd) (Fs : Fps) (σ : St) (env' : Env) (Q : St → Hp → Prop) : Prop :=
  ∀ Fs' σ', Sr g w Fs' σ' env' → (∀ i a, Fs' i a → Fs i a) → (∀ i, i ∉ S → ∀ a, Fs i a → Fs' i a) → σ'.length = σ.length → (∀ k, k ∉ S → σ'[k]? = σ[k]?) → Q σ' w.H
structure PGx (g : G) (tg : Expr) (S : List Nat) (f : D → Env → Option Env) : Prop where
  fr : ∀ d env env', f d env = some env' → ∀ i, i ∉ S → env'[i]? = env[i]?
  ex : ∃ t, PG g.X tg t ∧ ∀ w Fs σ env d v, Sr g w Fs σ env → Ro g.c g.X.K w.HP w.H0 d v → ∀ env', f d env = some env' → ∀ Q, TgOk g S w Fs σ env' Q → t v σ w.H Q
structure PGsx (g : G) (tgs : List Expr) (S : List Nat) (f : List D → Env → Option Env) : Prop where
  fr : ∀ ds env env', f ds env = some env' → ∀ i, i ∉ S → env'[i]? = env[i]?
  ln : ∀ ds env env', f ds env = some env' → ds.length = tgs.length
  ex : ∃ t, PGs g.X tgs t ∧ ∀ w Fs σ env ds vs, Sr g w Fs σ env → RoL g.c g.X.K w.HP w.H0 ds vs → ∀ env', f ds env = some env' → ∀ Q, TgOk g S w Fs σ env' Q → t vs σ w.H Q
def tgName (i : Nat) (d : D) (env : Env) : Option Env := some (env.set i (some d))
def tgNil (ds : List D) (env : Env) : Option Env := match ds with
  | [] => some env
  | _ => none
def tgCons (f : D → Env → Option Env) (fs : List D → Env → Option Env) (ds : List D) (env : Env) : Option Env := match ds with
  | d :: r => match f d env with
    | some e => fs r e
    | none => none
  | [] => none
def tgTup (fs : List D → Env → Option Env) (d : D) (env : Env) : Option Env := match d with
  | .nd k _ xs => match k with
    | .tup => fs xs env
    | .lst => fs xs env
    | .scr => fs xs env
    | _ => none
  | _ => none
def sTg (tg : D → Env → Option Env) (fe : Env → ER) (env : Env) : SR := (fe env).toS fun d e => if isRo d = true then match tg d e with
  | some e' => .nx e'
  | none => .bad
  else .bad
section
variable {g : G} {e a b c o : Expr} {st : Stmt} {rest as bs : List Stmt} {i j cc : Nat} {T Ta Tb Tc Tp Tk R Ra Rb Rk S S' : List Nat} {f fa fb fc fk : Env → ER} {fs : Env → LR} {fp : Env → PR} {h k : Env → SR} {pos pos' tpos p : Pos} {x y z : Str} {tg tgh : D → Env → Option Env} {tgs : List D → Env → Option Env} {es : List Expr}
theorem pgx_name (hN : g.X.N.Nodup) (hi : g.X.N[i]? = some x) (hx : Loc g.X.env.scope x) (hS : i ∈ S) (hh : ∀ h, g.hd = some h → h.slot ≠ i) (hf : g.X.fn x = true ∨ g.X.env.scope.names.lookup x = some .local := by first | exact .inl rfl | exact .inr rfl | assumption) : PGx g (.Name x pos) S (tgName i) := by
  refine ⟨fun d env env' q k hk => ?_, _, pg_name hN hi hx hf, fun w Fs σ env d v s r env' q Q h => ?_⟩
  · cases q
    rw [List.getElem?_set_ne (fun z : i = k => hk (by rw [← z]; exact hS))]
  cases q
  have s2 := s.store i hh (Ow.of_ro (F := fun _ => False) r fun _ => id) (fun _ z => z.elim)
  exact h _ _ s2 (fun k a z => z.elim (fun y => y.2.2.elim) fun y => y.2) (fun k hk a z => .inr ⟨fun e => hk (by rw [e]; exact hS), z⟩) (by rw [List.length_set]) fun k hk => by rw [List.getElem?_set_ne (fun z : i = k => hk (by rw [← z]; exact hS))]
theorem tgNil_len {ds : List D} {env env' : Env} (q : tgNil ds env = some env') : ds.length = ([] : List Expr).length := by
  cases ds with
  | nil => rfl
  | cons _ _ => cases q
theorem tgNil_fr {ds : List D} {env env' : Env} (q : tgNil ds env = some env') : env' = env := by
  cases ds with
  | nil => cases q; rfl
  | cons _ _ => cases q
theorem pgsx_nil : PGsx g [] S tgNil := ⟨fun ds env env' q i _ => by rw [tgNil_fr q], fun ds env env' q => tgNil_len q, _, pgs_nil, fun w Fs σ env ds vs s r env' q Q h => by
  cases ds with
  | nil => cases q; exact ⟨r, h Fs σ s (fun _ _ z => z) (fun _ _ _ z => z) rfl fun _ _ => rfl⟩
  | cons _ _ => cases q⟩
theorem pgsx_cons (h1 : PGx g e S tg) (h2 : PGsx g es S tgs) (hs : (assignEach (e :: es) g.X.env).map (·.2) = assign e g.X.env :: (assignEach es g.X.env).map (·.2) := by rfl) : PGsx g (e :: es) S (tgCons tg tgs) := by
  obtain ⟨t, t1, t2⟩ := h1.ex
  obtain ⟨u, u1, u2⟩ := h2.ex
  have inv : ∀ {ds env env'}, tgCons tg tgs ds env = some env' → ∃ d r e1, ds = d :: r ∧ tg d env = some e1 ∧ tgs r e1 = some env' := by
    intro ds env env' q
    cases ds with
    | nil => cases q
    | cons d r =>
      replace q : (match tg d env with | some e => tgs r e | none => none) = some env' := q
      cases e1 : tg d env with
      | none => rw [e1] at q; cases q
      | some e2 => rw [e1] at q; exact ⟨d, r, e2, rfl, e1, q⟩
  refine ⟨fun ds env env' q i hi => ?_, fun ds env env' q => ?_, _, pgs_cons t1 u1 hs, fun w Fs σ env ds vs s r env' q Q h => ?_⟩
  · obtain ⟨d, r, e1, rfl, q1, q2⟩ := inv q
    exact (h2.fr _ _ _ q2 i hi).trans (h1.fr _ _ _ q1 i hi)
  · obtain ⟨d, r, e1, rfl, _, q2⟩ := inv q
    rw [List.length_cons, h2.ln _ _ _ q2, List.length_cons]
  · obtain ⟨d, ds', e1, rfl, q1, q2⟩ := inv q
    obtain ⟨v, r', rfl, r1, r2⟩ := r
    refine ⟨v, r', rfl, t2 w Fs σ env d v s r1 e1 q1 _ fun Fs1 σ1 s1 f1 m1 l1 k1 => ?_⟩
    refine u2 w Fs1 σ1 e1 ds' r' s1 r2 env' q2 Q fun Fs2 σ2 s2 f2 m2 l2 k2 => ?_
    exact h Fs2 σ2 s2 (fun i a z => f1 i a (f2 i a z)) (fun i hi a z => m2 i hi a (m1 i hi a z)) (l2.trans l1) fun k hk => (k2 k hk).trans (k1 k hk)
theorem pgx_tup {n : Nat} (hc : g.X.calm = true) (h : PGsx g es S tgs) (hn : (assignEach es g.X.env).length = es.length := by rfl) (hst : (assignEach es g.X.env).findIdx? (·.1) = none := by rfl) : PGx g (.Tuple es n pos) S (tgTup tgs) := by
  obtain ⟨t, t1, t2⟩ := h.ex
  refine ⟨fun d env env' q i hi => ?_, _, PG.or (pg_tup hc t1 hn hst) (pg_lst hc t1 hn hst), fun w Fs σ env d v s r env' q Q hq => ?_⟩
  · unfold tgTup at q
    split at q
    · split at q
      · exact h.fr _ _ _ q i hi
      · exact h.fr _ _ _ q i hi
      · exact h.fr _ _ _ q i hi
      · cases q
    · cases q
  unfold tgTup at q
  cases d with
  | nd k fl xs =>
    obtain ⟨hf, a, vs, rfl, ra, rl⟩ := r
    have hl : Le (hz fl w.HP w.H0) w.H0 := by cases fl <;> first | exact Le.refl _ | exact s.lp
    have rl' := RoL.mono (Le.refl _) hl rl
    have ra' := ra.mono (hl.trans s.l0)
    cases k with
    | tup => exact .inl ⟨a, vs, rfl, .inl (.inl ra'), by rw [rl.len, h.ln _ _ _ q], t2 w Fs σ env xs vs s rl' env' q Q hq⟩
    | lst => exact .inr ⟨a, vs, rfl, .inl (.inl ra'), by rw [rl.len, h.ln _ _ _ q], t2 w Fs σ env xs vs s rl' env' q Q hq⟩
    | scr => exact .inr ⟨a, vs, rfl, ra', by rw [rl.len, h.ln _ _ _ q], t2 w Fs σ env xs vs s rl' env' q Q hq⟩
    | _ => cases q
  | _ => cases q
theorem psx_tg {t : Expr} (he : PEx g e T f) (ht : PGx g t S tg) (hs : swapsWithSole [t] e pos.line g.X.env = pure false := by rfl) (hw : swappedStores [t] e g.X.env = pure none := by rfl)
    (h1 : (assignEach [t] g.X.env).map (·.2) = [assign t g.X.env] := by rfl) : PSx g (.Assign [t] e pos) S (sTg tg f) := by
  obtain ⟨u, u1, u2⟩ := he.ex
  obtain ⟨y, y1, y2⟩ := ht.ex
  refine ⟨_, ps_asg u1 y1 hs hw h1, fun w Fs σ env s D' z => u2 w Fs σ env s _ (EPost.ofS z fun d e1 w1 Fs1 v F x1 s1 o n p q => ?_)⟩
  split at q
  · rename_i hr
    split at q
    · rename_i env' he
      obtain ⟨r, _⟩ := o.ro hr
      refine y2 w1 Fs1 σ e1 d v s1 r env' he _ fun Fs2 σ2 s2 f2 _ l2 k2 => q w1 Fs2 σ2 ?_ s2
      have xs := x1.toS (S := S) (σ := σ)
      exact ⟨xs.hp, xs.h0, xs.off, fun i a z => xs.fs i a (f2 i a z), xs.h0n, xs.dom, k2, l2, xs.pn⟩
    · exact q.elim
  · exact q.elim
/-- a, b = x, y -/
def sPar (i j : Nat) (fs : Env → LR) (env : Env) : SR := match fs env with
  | .ok ds e => match ds with
    | [d1, d2] => .nx ((e.set i (some d1)).set j (some d2))
    | _ => .bad
  | .ex x p e => .ex x p e
  | .bad => .bad
theorem psx_par {px py pt : Pos} {kt k2 : Nat} {pt2 : Pos} (hc : g.X.calm = true) (hN : g.X.N.Nodup) (hi : g.X.N[i]? = some x) (hj : g.X.N[j]? = some y) (hij : i ≠ j) (hx : g.X.env.scope.names.lookup x = some .local) (hy : g.X.env.scope.names.lookup y = some .local) (ha : PVx g [a, b] T fs) (hS : i ∈ S) (hS2 : j ∈ S) (hh : ∀ h, g.hd = some h → h.slot ≠ i) (hh2 : ∀ h, g.hd = some h → h.slot ≠ j)
    (hw : swappedStores [.Tuple [.Name x px, .Name y py] kt pt] (.Tuple [a, b] k2 pt2) g.X.env = pure (some [x, y]) := by rfl)
    (hs : swapsWithSole [.Tuple [.Name x px, .Name y py] kt pt] (.Tuple [a, b] k2 pt2) pos.line g.X.env = pure false := by rfl) :
    PSx g (.Assign [.Tuple [.Name x px, .Name y py] kt pt] (.Tuple [a, b] k2 pt2) pos) S (sPar i j fs) := by
  obtain ⟨t, t1, t2⟩ := ha.ex
  refine ⟨_, ps_par hc hN hi hj hij hx hy t1 hw hs, fun w Fs σ env s D' z => t2 w Fs σ env s _ ?_⟩
  unfold sPar at z
  cases er : fs env with
  | ex x p e => rw [er] at z; exact XPost.ofS z
  | bad => rw [er] at z; exact z
  | ok ds e1 =>
    rw [er] at z
    dsimp only at z
    intro w1 Fs1 vs F x1 s1 o n p
    split at z
    · rename_i d1 d2
      obtain ⟨v1, r1, F1, G1, rfl, o1, ⟨v2, r2, F2, G2, rfl, o2, ⟨rfl, n3⟩, d3, f3⟩, dj, ff⟩ := o
      have f2 : ∀ a, F2 a → G1 a := fun a h => (f3 a).mpr (.inl h)
      refine ⟨v1, v2, rfl, ?_⟩
      have sa := s1.store i hh o1 fun a ha => n a ((ff a).mpr (.inl ha))
      have sb := sa.store j hh2 o2 fun a ha k hk => by
        rcases hk with ⟨_, _, hk⟩ | ⟨_, hk⟩
        · exact dj a hk (f2 a ha)
        · exact n a ((ff a).mpr (.inr (f2 a ha))) k hk
      refine z w1 _ _ ?_ sb
      refine ⟨x1.hp, x1.h0, x1.off, fun k a q => ?_, x1.h0n, x1.dom, fun k hk => ?_, by rw [List.length_set, List.length_set], x1.pn⟩
      · have t : ∀ a, F a → (∃ j, Fs j a) ∨ w.H a = none := fun a ha => (p a ha).elim .inr fun ⟨j, _, y⟩ => .inl ⟨j, y⟩
        rcases q with ⟨_, _, q⟩ | ⟨_, ⟨_, _, q⟩ | ⟨_, q⟩⟩
        · exact t a ((ff a).mpr (.inr (f2 a q)))
        · exact t a ((ff a).mpr (.inl q))
        · rcases x1.fs k a q with z | z | ⟨j, _, z⟩
          · exact .inl ⟨k, z⟩
          · exact .inr z
          · exact .inl ⟨j, z⟩
      · rw [List.getElem?_set_ne (fun z : j = k => hk (by rw [← z]; exact hS2)), List.getElem?_set_ne (fun z : i = k => hk (by rw [← z]; exact hS))]
    · exact z.elim
end
/-! ### fields -/
theorem putF_len {f : Str} {v : V} : ∀ {fs : List (Str × V)} {u : V}, fs.lookup f = some u → (putF f v fs).length = fs.length
  | [], u, h => by cases h
  | (k, x) :: r, u, h => by
    rw [show putF f v ((k, x) :: r) = (if k = f then (k, v) :: r else (k, x) :: putF f v r) from rfl]
    by_cases e : k = f
    · rw [if_pos e]; rfl
    · rw [if_neg e, List.length_cons, List.length_cons]
      rw [List.lookup_cons] at h
      have : (f == k) = false := beq_eq_false_iff_ne.mpr (Ne.symm e)
      rw [this] at h
      rw [putF_len h]
theorem putF_keys {f : Str} {v : V} : ∀ {fs : List (Str × V)} {p : Str × V}, p ∈ putF f v fs → p.1 = f ∨ ∃ q ∈ fs, q.1 = p.1
  | [], p, h => by
    have : p = (f, v) := by simpa [putF] using h
    exact .inl (by rw [this])
  | (k, x) :: r, p, h => by
    rw [show putF f v ((k, x) :: r) = (if k = f then (k, v) :: r else (k, x) :: putF f v r) from rfl] at h
    by_cases e : k = f
    · rw [if_pos e] at h
      rcases List.mem_cons.mp h with z | z
      · exact .inl (by rw [z]; exact e)
      · exact .inr ⟨p, List.mem_cons_of_mem _ z, rfl⟩
    · rw [if_neg e] at h
      rcases List.mem_cons.mp h with z | z
      · exact .inr ⟨(k, x), by simp, by rw [z]⟩
      · rcases putF_keys z with y | ⟨q, hq, y⟩
        · exact .inl y
        · exact .inr ⟨q, List.mem_cons_of_mem _ hq, y⟩
theorem FOk.put {nm : List Str} {fs : List (Str × V)} {us : List Bool} {vs : List V} (h : FOk nm fs us vs) {j : Nat} {n : Str} (hn : nm[j]? = some n) (v : V) : FOk nm (putF n v fs) (us.set j false) (vs.set j v) := by
  have hj : j < nm.length := (List.getElem?_eq_some_iff.mp hn).1
  have hju : j < us.length := by rw [h.lx]; exact hj
  have hjv : j < vs.length := by rw [h.lv]; exact hj
  have inj : ∀ {k : Nat}, nm[k]? = some n → k = j := fun {k} e => by
    obtain ⟨h1, e1⟩ := List.getElem?_eq_some_iff.mp e
    obtain ⟨h2, e2⟩ := List.getElem?_eq_some_iff.mp hn
    exact (List.getElem_inj h.nd).mp (e1.trans e2.symm)
  refine ⟨by rw [List.length_set]; exact h.lx, by rw [List.length_set]; exact h.lv, h.ln, h.nd, ?_, fun p hp => ?_, fun k m e1 e2 => ?_, fun k m e1 e2 => ?_⟩
  · have cnt : ∀ l : List Bool, (l.filter fun u => !u).length = l.countP fun u => !u := fun l => (List.countP_eq_length_filter).symm
    have lf := h.lf
    rw [cnt] at lf ⊢
    rw [List.countP_set hju]
    cases eu : us[j] with
    | false =>
      have : (putF n v fs).length = fs.length := by
        have hk := h.at_ j n hn (by rw [List.getElem?_eq_getElem hju, eu])
        rw [List.getElem?_eq_getElem hjv] at hk
        exact putF_len hk
      have pos : 0 < us.countP fun u => !u := List.countP_pos_iff.mpr ⟨us[j], List.getElem_mem hju, by rw [eu]; rfl⟩
      rw [this]
      simp
      omega
    | true =>
      have := length_putF n v fs
      simp
      omega
  · rcases putF_keys hp with z | ⟨q, hq, z⟩
    · rw [z]; exact List.mem_of_getElem? hn
    · rw [← z]; exact h.mem q hq
  · by_cases e : j = k
    · subst e
      rw [List.getElem?_set_self hju] at e2; cases e2
    · rw [List.getElem?_set_ne e] at e2
      rw [lookup_putF, if_neg (fun z : m = n => e (inj (z ▸ e1)).symm)]
      exact h.un k m e1 e2
  · by_cases e : j = k
    · subst e
      have : m = n := by rw [hn] at e1; exact (Option.some.inj e1).symm
      rw [lookup_putF, if_pos this, List.getElem?_set_self hjv]
    · rw [List.getElem?_set_ne e] at e2
      rw [lookup_putF, if_neg (fun z : m = n => e (inj (z ▸ e1)).symm), List.getElem?_set_ne e]
      exact h.at_ k m e1 e2
def setFd (cc j : Nat) (d dv : D) : Option D := match d with
  | .nd k o xs => match k, o with
    | .ins c', .own => if c' = cc ∧ j < xs.length ∧ isUns dv = false then some (.nd (.ins cc) .own (xs.set j dv)) else none
    | _, _ => none
  | _ => none
def getFd (cc j : Nat) (d : D) : Option D := match d with
  | .nd k _ xs => match k with
    | .ins c' => if c' = cc then match xs[j]? with
      | some x => if isUns x = true then none else some x
      | none => none
      else none
    | _ => none
  | _ => none
def sFldS (i cc j : Nat) (fe : Env → ER) (fp : Env → PR) (env : Env) : SR := (fe env).toS fun dv e1 => (fp e1).toS fun p d e2 => putS i p (setFd cc j d dv) e2
def sFldAugS (i cc j : Nat) (h : D → D → Option D) (fp : Env → PR) (fe : Env → ER) (env : Env) : SR := (fp env).toS fun p d e1 => match getFd cc j d with
  | some dx => (fe e1).toS fun dy e2 => match h dx dy with
    | some dz => putS i p (setFd cc j d dz) e2
    | none => .bad
  | none => .bad
section
variable {g : G} {e a b c o : Expr} {st : Stmt} {rest as bs : List Stmt} {i j cc : Nat} {T Ta Tb Tc Tp Tk R Ra Rb Rk S S' : List Nat} {f fa fb fc fk : Env → ER} {fs : Env → LR} {fp : Env → PR} {h k : Env → SR} {pos pos' tpos p : Pos} {x y z fld : Str}
theorem putF_run {w w1 : Wd} {Fs Fs1 : Fps} {σ : St} {D' : L2.Ends} {e3 : Env} {p : List Nat} {d dv d0 : D} {v vv v0 : V} {F Fv : Addr → Prop} (hc : Cls g.X.K (g.c cc).ad) (hn : NoAttr g.X.K (g.c cc).ad fld) (hj : (g.c cc).nm[j]? = some fld) (x : Ext T w Fs w1 Fs1) (s : Sr g w1 Fs1 σ e3) (pl : PlaceAt g w1 Fs1 σ e3 i p d d0 v v0 F)
    (ov : Ow g.c g.X.K w1.HP w1.H0 w1.H dv vv Fv) (nv : ∀ a, Fv a → ∀ j, ¬ Fs1 j a) (pv : ∀ a, Fv a → w.H a = none ∨ ∃ j ∈ T, Fs j a) (q : SPost g S w Fs σ D' (putS i p (setFd cc j d dv) e3)) :
    ∃ a dx fs, v = .ref a ∧ w1.H a = some (.ins (g.c cc).ad dx fs) ∧ fs.length < 1000 ∧ D'.nx σ (upd w1.H a (.ins (g.c cc).ad dx (putF fld vv fs))) := by
  unfold putS at q
  cases ed : setFd cc j d dv with
  | none => rw [ed] at q; exact (show False from q).elim
  | some d2 =>
    rw [ed, pl.e1] at q
    dsimp only at q
    split at q
    · rename_i hp
      unfold setFd at ed
      split at ed
      · rename_i k fl xs
        split at ed
        · rename_i c'
          split at ed
          · rename_i hcond
            obtain ⟨rfl, hjl, hun⟩ := hcond
            cases ed
            obtain ⟨a, vs, A, F', rfl, ⟨dx, fs, hH, hO, fo, rfl⟩, h0, hd, ol, hF⟩ := pl.o
            have hfs : fs.length ≤ (xs.map isUns).length := Nat.le_trans fo.lf (List.length_filter_le _ _)
            refine ⟨a, dx, fs, rfl, hH, by rw [fo.lx] at hfs; have := fo.ln; omega, ?_⟩
            have ne : dx ≠ a := fun z => by rw [z, hH] at hO; cases hO
            have x2 := Wr.upd s.lp s.l0 (.ins (g.c c').ad dx (putF fld vv fs)) (h0 a (by simp))
            have hFa : F a := (hF a).mpr (.inl (by simp))
            have nF' : ∀ b, F' b → b ≠ a := fun b hb z => hd a (by simp) (z ▸ hb)
            have djv : ∀ b, F b → ¬ Fv b := fun b hb hv => nv b hv i (pl.f b hb)
            obtain ⟨F3, o3, f3⟩ := (x2.owL ol nF').set (x2.ow ov fun b hb z => djv a hFa (z ▸ hb)) (fun b hb => djv b ((hF b).mpr (.inr hb))) hjl
            have eu : (xs.set j dv).map isUns = (xs.map isUns).set j false := by rw [List.map_set, hun]
            have o2 : Ow g.c g.X.K w1.HP w1.H0 (upd w1.H a (.ins (g.c c').ad dx (putF fld vv fs))) (.nd (.ins c') .own (xs.set j dv)) (.ref a) (fun b => b ∈ [a, dx] ∨ F3 b) := by
              refine ⟨a, vs.set j vv, [a, dx], F3, rfl, ⟨dx, _, upd_same, by rw [upd_ne ne]; exact hO, by rw [eu]; exact fo.put hj vv, rfl⟩, h0, fun b hb z => ?_, o3, fun _ => Iff.rfl⟩
              rcases f3 b z with y | y
              · exact hd b hb y
              · exact djv b ((hF b).mpr (.inl hb)) y
            have sub : ∀ b, (b ∈ [a, dx] ∨ F3 b) → F b ∨ Fv b := fun b hb => hb.elim (fun y => .inl ((hF b).mpr (.inl y))) fun y => (f3 b y).imp (fun t => (hF b).mpr (.inr t)) id
            obtain ⟨Fs2, s3, x3, _⟩ := x.wr s pl.e1 pl.e2 pl.f (pl.r hp) (x2.weak fun b hb => by rw [hb]; exact hFa) o2 rfl (fun b hb => (sub b hb).imp id (nv b)) fun b hb => (sub b hb).imp id (pv b)
            exact q _ Fs2 σ x3.toS s3
          · cases ed
        · cases ed
      · cases ed
    · exact q.elim
theorem psx_fld (he : PEx g e T f) (ho : PPx g o i Tp fp) (hc : Cls g.X.K (g.c cc).ad) (hn : NoAttr g.X.K (g.c cc).ad fld) (hj : (g.c cc).nm[j]? = some fld) (hs : swapsWith e (some (.Attribute o fld pos')) pos.line g.X.env = pure false := by rfl) :
    PSx g (.Assign [.Attribute o fld pos'] e pos) S (sFldS i cc j f fp) := by
  obtain ⟨t, t1, t2⟩ := he.ex
  obtain ⟨u, u1, u2⟩ := ho.ex
  refine ⟨_, L2.ps_fld u1 t1 hs, fun w Fs σ env s D' z => t2 w Fs σ env s _ (EPost.ofS z fun dv e1 w1 Fs1 vv Fv x1 s1 ov nv pv q => ?_)⟩
  refine u2 w1 Fs1 σ e1 s1 _ (PPost.ofS x1.toS q fun p d e2 w2 Fs2 v v0 d0 F x2 s2 pl q => ?_)
  obtain ⟨ov2, nv2⟩ := x2.tmp ov nv
  obtain ⟨a, dx, fs, ev, hH, hl, hq⟩ := putF_run (S := S) hc hn hj (x1.trans x2) s2 pl ov2 nv2 (fun a ha => (pv a ha).imp id fun ⟨j, hj, y⟩ => ⟨j, List.mem_append_left _ hj, y⟩) q
  exact ⟨a, _, dx, fs, ev, hH, hc, hn, hl, hq⟩
theorem Ow.getFd {w : Wd} {d dx : D} {v : V} {F : Addr → Prop} (lp : Le w.HP w.H0) (l0 : Le w.H0 w.H) (hj : (g.c cc).nm[j]? = some fld) (h : getFd cc j d = some dx) (o : Ow g.c g.X.K w.HP w.H0 w.H d v F) :
    ∃ a dd fs vx Fx, v = .ref a ∧ w.H a = some (.ins (g.c cc).ad dd fs) ∧ fs.lookup fld = some vx ∧ (∀ a, Fx a → F a) ∧ Ow g.c g.X.K w.HP w.H0 w.H dx vx Fx := by
  unfold DL.getFd at h
  split at h
  · rename_i k fl xs
    split at h
    · rename_i c'
      split at h
      · rename_i ec
        subst ec
        split at h
        · rename_i x' ex
          split at h
          · cases h
          · rename_i hu
            cases h
            obtain ⟨a, vs, v1, F1, ev, ra, hl, e4, o3, s3, _⟩ := o.child lp l0 ex
            obtain ⟨dd, fs, q1, q2⟩ := ra.fld hj ex (by simpa using hu) e4
            exact ⟨a, dd, fs, v1, F1, ev, q1, q2, s3, o3⟩
        · cases h
      · cases h
    · cases h
  · cases h
theorem psx_fldAug {op : Operator} {r : V → V → Hp → VK → Prop} {hh : D → D → Option D} (hop : OpS g r hh) (hr : PIp g.X op r) (ho : PPx g o i Tp fp) (he : POx g e T R f) (hi : i ∉ T) (hc : Cls g.X.K (g.c cc).ad) (hn : NoAttr g.X.K (g.c cc).ad fld) (hj : (g.c cc).nm[j]? = some fld) :
    PSx g (.AugAssign (.Attribute o fld tpos) op e pos) S (sFldAugS i cc j hh fp f) := by
  obtain ⟨t, t1, t2⟩ := he.ex
  obtain ⟨u, u1, u2⟩ := ho.ex
  refine ⟨_, L2.ps_fldaug u1 t1 (fun pins s σ H x y u v Q I rx ry h => hr pins s σ H x y u v Q I rx ry h), fun w Fs σ env s D' z => u2 w Fs σ env s _ (PPost.ofS .refl z fun p d e1 w1 Fs1 v v0 d0 F x1 s1 pl q => ?_)⟩
  split at q
  · rename_i dx edx
    obtain ⟨a, dd, fs, vx, Fx, ev, hH, hlk, sx, ox⟩ := pl.o.getFd s1.lp s1.l0 hj edx
    refine ⟨a, _, dd, fs, vx, ev, hH, hc, hn, hlk, ?_⟩
    refine t2 w1 Fs1 σ e1 s1 _ ?_
    cases ef : f e1 with
    | ex x' p' e3 => rw [ef] at q; exact fun w3 Fs3 dd y3 s3 py => q w3 Fs3 σ dd (x1.toS.trans y3.toS) s3 py
    | bad => rw [ef] at q; exact q
    | ok dy e3 =>
      rw [ef] at q
      intro w3 Fs3 vy Fy x3 s3 oy ny py
      simp only [ER.toS] at q
      have pl3 := pl.later x3 hi (he.fr _ _ _ ef i hi)
      obtain ⟨ox3, _⟩ := x3.hold (R := [i]) ox (fun a ha => .inl ⟨i, by simp, pl.f a (sx a ha)⟩) (fun k hk => by simp at hk; subst hk; exact hi)
      cases eh : hh dx dy with
      | none => simp only [eh] at q; exact (show False from q).elim
      | some dz =>
        simp only [eh] at q
        refine hop dx dy dz eh w3 vx vy Fx Fy s3.lp s3.l0 ox3 oy _ fun w4 vz Fz gr oz nz => ?_
        obtain ⟨s4, x4⟩ := s3.grow gr
        obtain ⟨a', dx', fs', ev', hH', hl', hq'⟩ := putF_run (S := S) hc hn hj (x1.trans (x3.trans x4)) s4 (pl3.later x4 (by simp) rfl) oz (fun a ha j y => by
          obtain ⟨⟨u, eu⟩, _⟩ := s3.held y
          rw [nz a ha] at eu; cases eu) (fun a ha => .inl (by
          by_cases t : w.H a = none
          · exact t
          · exact absurd (nz a ha) ((x1.trans x3).dom a t))) q
        rw [ev] at ev'
        cases ev'
        exact ⟨dx', fs', hH', hl', hq'⟩
  · exact q.elim
end
end DL
set_option Elab.async false
set_option linter.all false
set_option maxRecDepth 100000
set_option maxHeartbeats 4000000
namespace DL
open PySem PySem.Spec PyProof.Rows L2

/-! ### methods that change their object -/
def putE (i : Nat) (p : List Nat) (o : Option (D × D)) (env : Env) : ER := match o, env[i]? with
  | some x, some (some d0) => if ownP p d0 = true then .ok x.1 (env.set i (some (setP p x.2 d0))) else .bad
  | _, _ => .bad
def eMut (i : Nat) (ok : D → Bool) (h : D → List D → Option (D × D)) (fp : Env → PR) (fs : Env → LR) (env : Env) : ER := (fp env).toE fun p d e1 => if ok d = true then (fs e1).toE fun ds e2 => putE i p (h d ds) e2 else .bad
def MutS (g : G) (r : V → List V → Hp → VK → Prop) (h : D → List D → Option (D × D)) : Prop := ∀ d ds x d2, h d ds = some (x, d2) → ∀ (w : Wd) v vs F Fa, Le w.HP w.H0 → Le w.H0 w.H → Ow g.c g.X.K w.HP w.H0 w.H d v F → OwL g.c g.X.K w.HP w.H0 w.H ds vs Fa → (∀ a, F a → ¬ Fa a) →
  ∀ Q : VK, (∀ w2 vr Fr F2, Wr w w2 F → Ow g.c g.X.K w2.HP w2.H0 w2.H x vr Fr → Ow g.c g.X.K w2.HP w2.H0 w2.H d2 v F2 → isUns d2 = isUns d → (∀ a, Fr a → ¬ F2 a) → (∀ a, Fr a ∨ F2 a → F a ∨ Fa a) → Q vr w2.H) → r v vs w.H Q
theorem putE_ok {i : Nat} {p : List Nat} {o : Option (D × D)} {env env' : Env} {d : D} (h : putE i p o env = .ok d env') : ∃ x d0, o = some x ∧ env[i]? = some (some d0) ∧ ownP p d0 = true ∧ d = x.1 ∧ env' = env.set i (some (setP p x.2 d0)) := by
  unfold putE at h
  split at h
  · rename_i x d0 hx
    split at h
    · rename_i hp
      cases h
      exact ⟨x, d0, rfl, hx, hp, rfl, rfl⟩
    · cases h
  · cases h
theorem putE_no {i : Nat} {p : List Nat} {o : Option (D × D)} {env env' : Env} {x q} (h : putE i p o env = .ex x q env') : False := by
  unfold putE at h
  split at h
  · split at h <;> cases h
  · cases h
section
variable {g : G} {e a b c o : Expr} {st : Stmt} {rest as bs : List Stmt} {i j cc : Nat} {T Ta Tb Tc Tp Tk R Ra Rb Rk S S' : List Nat} {f fa fb fc fk : Env → ER} {fs : Env → LR} {fp : Env → PR} {pos pos' tpos p apos cpos : Pos} {x y z : Str} {es : List Expr} {name : Str} {TT id : String} {r : V → List V → Hp → VK → Prop} {h : D → List D → Option (D × D)} {okd : D → Bool}
theorem frm_mut (ho : PPx g o i Tp fp) (ha : FrmL Ta fs) : Frm (Tp ++ Ta ++ [i]) (eMut i okd h fp fs) := by
  intro env d env' q k hk
  have k1 : k ∉ Tp := fun z => hk (by simp [z])
  have k2 : k ∉ Ta := fun z => hk (by simp [z])
  have k3 : k ≠ i := fun z => hk (by simp [z])
  unfold eMut at q
  cases er : fp env with
  | ex x p e => simp only [er, PR.toE] at q; cases q
  | bad => simp only [er, PR.toE] at q; cases q
  | ok p d1 e1 =>
    simp only [er, PR.toE] at q
    split at q
    · cases ea : fs e1 with
      | ex x p e => simp only [ea, LR.toE] at q; cases q
      | bad => simp only [ea, LR.toE] at q; cases q
      | ok ds e2 =>
        simp only [ea, LR.toE] at q
        obtain ⟨_, _, _, _, _, _, rfl⟩ := putE_ok q
        rw [List.getElem?_set_ne (Ne.symm k3), ha _ _ _ ea k k2, ho.fr _ _ _ _ er k k1]
    · cases q
theorem mut_run (hr : MutS g r h) (ho : PPx g o i Tp fp) (hfr : FrmL Ta fs) {t : TA} (t2 : ∀ w Fs σ env, Sr g w Fs σ env → ∀ Q, VPost g Ta w Fs σ Q (fs env) → t σ w.H Q) (hi : i ∉ Ta) (hty : ∀ (w : Wd) d v F, okd d = true → Ow g.c g.X.K w.HP w.H0 w.H d v F → Le w.HP w.H0 → Le w.H0 w.H → tyV g.X.K TT v w.H) :
    ∃ to, PE g.X o to ∧ ∀ w Fs σ env, Sr g w Fs σ env → ∀ Q, EPost g (Tp ++ Ta ++ [i]) w Fs σ Q (eMut i okd h fp fs env) → to σ w.H fun x H1 => tyV g.X.K TT x H1 ∧ t σ H1 fun xs H2 => r x xs H2 Q := by
  obtain ⟨u, u1, u2⟩ := ho.ex
  refine ⟨u, u1, fun w Fs σ env s Q z => u2 w Fs σ env s _ ?_⟩
  unfold eMut at z
  cases er : fp env with
  | ex x p e => simp only [er, PR.toE] at z; exact XPost.weak z fun k hk => by simp [hk]
  | bad => simp only [er, PR.toE] at z; exact z
  | ok p d e1 =>
    simp only [er, PR.toE] at z
    intro w1 Fs1 v v0 d0 F x1 s1 q1 q2 q3 o1 f1 r1
    have pl : PlaceAt g w1 Fs1 σ e1 i p d d0 v v0 F := ⟨q1, q2, q3, o1, f1, r1⟩
    split at z
    · rename_i hok
      refine ⟨hty w1 d v F hok o1 s1.lp s1.l0, t2 w1 Fs1 σ e1 s1 _ ?_⟩
      cases ea : fs e1 with
      | ex x p e => simp only [ea, LR.toE] at z; exact fun w2 Fs2 dd x2 s2 py => z w2 Fs2 dd ((x1.trans x2).weak fun k hk => by simp at hk ⊢; rcases hk with hk | hk <;> simp [hk]) s2 py
      | bad => simp only [ea, LR.toE] at z; exact z
      | ok ds e2 =>
        simp only [ea, LR.toE] at z
        intro w2 Fs2 vs Fa x2 s2 oa na pa
        have pl2 := pl.later x2 hi (hfr _ _ _ ea i hi)
        cases ep : putE i p (h d ds) e2 with
        | ex x q e => exact (putE_no ep).elim
        | bad => rw [ep] at z; exact (show False from z).elim
        | ok d' e3 =>
          obtain ⟨xd, d0', eh, e0, hp, rfl, rfl⟩ := putE_ok ep
          rw [pl2.e1] at e0
          cases e0
          rw [ep] at z
          refine hr d ds xd.1 xd.2 eh w2 v vs F Fa s2.lp s2.l0 pl2.o oa (fun b hb hv => na b hv i (pl2.f b hb)) Q fun w3 vr Fr F2 xw o3 o4 hu dj sb => ?_
          have x12 := x1.trans x2
          have og : ∀ b, Fa b → w.H b = none ∨ ∃ j ∈ Tp ++ Ta, Fs j b := fun b hb => by
            rcases pa b hb with t | ⟨j, hj, t⟩
            · refine .inl ?_
              by_cases y : w.H b = none
              · exact y
              · exact absurd t (x1.dom b y)
            · rcases x1.fs j b t with y | y | ⟨k, hk, y⟩
              · exact .inr ⟨j, List.mem_append_right _ hj, y⟩
              · exact .inl y
              · exact .inr ⟨k, List.mem_append_left _ hk, y⟩
          obtain ⟨Fs3, s3, x3, k3⟩ := x12.wr s2 pl2.e1 pl2.e2 pl2.f (pl2.r hp) xw o4 hu (fun b hb => (sb b (.inr hb)).imp id (na b)) fun b hb => (sb b (.inr hb)).imp id (og b)
          refine z w3 Fs3 vr Fr x3 s3 o3 (fun b hb j hj => ?_) fun b hb => ?_
          · rcases k3 j b hj with ⟨y, ny⟩ | y
            · rcases sb b (.inl hb) with t | t
              · exact ny t
              · exact na b t j y
            · exact dj b hb y
          · rcases sb b (.inl hb) with t | t
            · rcases x12.fs i b (pl2.f b t) with y | y | ⟨k, hk, y⟩
              · exact .inr ⟨i, by simp, y⟩
              · exact .inl y
              · exact .inr ⟨k, List.mem_append_left _ hk, y⟩
            · exact (og b t).imp id fun ⟨j, hj, y⟩ => ⟨j, List.mem_append_left _ hj, y⟩
    · exact z.elim
theorem pex_mut (pa : PlainAttrs TT) (slot : Slot TT name id) (hty : typeOf (.builtin id) = pure (.type "method_descriptor")) (hm : MtR g.X id r) (hr : MutS g r h) (ho : PPx g o i Tp fp) (ha : PVx g (e :: es) Ta fs) (hi : i ∉ Ta)
    (htv : ∀ (w : Wd) d v F, okd d = true → Ow g.c g.X.K w.HP w.H0 w.H d v F → Le w.HP w.H0 → Le w.H0 w.H → tyV g.X.K TT v w.H)
    (hbase : attributeBase o name g.X.env (eval o g.X.env) = eval o g.X.env := by rfl)
    (hfew : ((backTo cpos (starEach (e :: es) g.X.env)).all (fun x => !x.1) && (backToKw cpos (keywordEach [] g.X.env)).all (fun x => x.1.isSome)
      && decide ((e :: es).length + ([] : List Keyword).length + (if ([] : List Keyword).isEmpty then 0 else 1) < 30)) = true := by rfl)
    (hline : (apos.endLine == cpos.line) = true := by rfl) (hs : starEach (e :: es) g.X.env = (false, eval e g.X.env) :: starEach es g.X.env := by rfl) (hplain : (backTo cpos (starEach es g.X.env)).any (·.1) = false := by rfl) :
    PEx g (.Call (.Attribute o name apos) (e :: es) [] cpos) (Tp ++ Ta ++ [i]) (eMut i okd h fp fs) := by
  obtain ⟨t, h2, t2⟩ := ha.ex
  obtain ⟨to, h1, k⟩ := mut_run hr ho ha.fr t2 hi htv
  exact ⟨frm_mut ho ha.fr, _, pe_bm pa slot hty hm h1 h2 hbase hfew hline hs hplain, k⟩
theorem pex_mut0 (pa : PlainAttrs TT) (slot : Slot TT name id) (hty : typeOf (.builtin id) = pure (.type "method_descriptor")) (hm : MtR g.X id r) (hr : MutS g r h) (ho : PPx g o i Tp fp)
    (htv : ∀ (w : Wd) d v F, okd d = true → Ow g.c g.X.K w.HP w.H0 w.H d v F → Le w.HP w.H0 → Le w.H0 w.H → tyV g.X.K TT v w.H)
    (hbase : attributeBase o name g.X.env (eval o g.X.env) = eval o g.X.env := by rfl) (hline : (apos.endLine == cpos.line) = true := by rfl) :
    PEx g (.Call (.Attribute o name apos) [] [] cpos) (Tp ++ [] ++ [i]) (eMut i okd h fp lNil) := by
  have fr : FrmL [] lNil := fun env ds env' q i _ => by cases q; rfl
  obtain ⟨to, h1, k⟩ := mut_run (t := fun _ H Q => Q [] H) hr ho fr (fun w Fs σ env s Q q => q w Fs [] (fun _ => False) (s.ext0 _) s ⟨rfl, fun _ z => z⟩ (fun _ z => z.elim) fun _ z => z.elim) (by simp) htv
  exact ⟨frm_mut ho fr, _, pe_bm0 pa slot hty hm h1 hbase hline, k⟩
/-! ### lists -/
def isOL (d : D) : Bool := match d with
  | .nd k o _ => match k, o with
    | .lst, .own => true
    | _, _ => false
  | _ => false
theorem isOL_ty (w : Wd) (d : D) (v : V) (F : Addr → Prop) (h : isOL d = true) (o : Ow g.c g.X.K w.HP w.H0 w.H d v F) (_ : Le w.HP w.H0) (_ : Le w.H0 w.H) : tyV g.X.K "list" v w.H := by
  unfold isOL at h
  split at h
  · split at h
    · obtain ⟨a, vs, A, F', rfl, ⟨hH, rfl⟩, _⟩ := o
      exact .inl ⟨rfl, vs, .inl (.inl hH)⟩
    · cases h
  · cases h

theorem OwL.of_ro {c : Cs} {K : PySem.W.Frag} {HP H0 H : Hp} : ∀ {xs : List D} {vs : List V}, RoL c K HP H0 xs vs → OwL c K HP H0 H xs vs (fun _ => False)
  | [], vs, h => ⟨h, fun _ z => z⟩
  | d :: ds, vs, h => by
    obtain ⟨v, r, e, h1, h2⟩ := h
    exact ⟨v, r, fun _ => False, fun _ => False, e, Ow.of_ro h1 fun _ z => z, OwL.of_ro h2, fun _ z => z.elim, fun _ => by simp⟩
theorem own_lst {w : Wd} {xs : List D} {v : V} {F : Addr → Prop} (o : Ow g.c g.X.K w.HP w.H0 w.H (.nd .lst .own xs) v F) : ∃ a vs F', v = .ref a ∧ w.H a = some (.lst vs) ∧ w.H0 a = none ∧ ¬ F' a ∧ OwL g.c g.X.K w.HP w.H0 w.H xs vs F' ∧ ∀ b, F b ↔ b = a ∨ F' b := by
  obtain ⟨a, vs, A, F', rfl, ⟨hH, rfl⟩, h0, hd, ol, hF⟩ := o
  exact ⟨a, vs, F', rfl, hH, h0 a (by simp), hd a (by simp), ol, fun b => by rw [hF b]; simp⟩
theorem mk_lst {w : Wd} {xs : List D} {vs : List V} {a : Addr} {F' : Addr → Prop} (hH : w.H a = some (.lst vs)) (h0 : w.H0 a = none) (n : ¬ F' a) (ol : OwL g.c g.X.K w.HP w.H0 w.H xs vs F') : Ow g.c g.X.K w.HP w.H0 w.H (.nd .lst .own xs) (.ref a) (fun b => b = a ∨ F' b) :=
  ⟨a, vs, [a], F', rfl, ⟨hH, rfl⟩, fun b hb => by simp at hb; rw [hb]; exact h0, fun b hb => by simp at hb; rw [hb]; exact n, ol, fun b => by simp⟩
def hAppend (d : D) (ds : List D) : Option (D × D) := match d with
  | .nd k o xs => match k, o, ds with
    | .lst, .own, [y] => if xs.length < sizeLine then some (.non, .nd .lst .own (xs ++ [y])) else none
    | _, _, _ => none
  | _ => none
theorem mutS_append : MutS g rAppend hAppend := by
  intro d ds x d2 eh w v vs F Fa lp l0 o oa dj Q q
  unfold hAppend at eh
  split at eh
  · rename_i k fl xs
    split at eh
    · rename_i y
      split at eh
      · rename_i hl
        cases eh
        obtain ⟨a, us, F', rfl, hH, h0, na, ol, hF⟩ := own_lst o
        obtain ⟨vy, r, Fy, F2, rfl, oy, ⟨rfl, _⟩, _, hFa⟩ := oa
        have hFa' : ∀ b, Fy b → Fa b := fun b hb => (hFa b).mpr (.inl hb)
        have hFaF : F a := (hF a).mpr (.inl rfl)
        have x := Wr.upd lp l0 (.lst (us ++ [vy])) h0
        refine ⟨a, us, vy, rfl, rfl, hH, by rw [ol.len]; exact hl, ?_⟩
        have nF' : ∀ b, F' b → ¬ b = a := fun b hb z => na (z ▸ hb)
        have nFy : ∀ b, Fy b → ¬ b = a := fun b hb z => dj a hFaF (hFa' a (z ▸ hb))
        have ol2 := OwL.append (x.owL ol nF') (OwL.one (x.ow oy nFy)) fun b hb hy => dj b ((hF b).mpr (.inr hb)) (hFa' b hy)
        refine q _ .non (fun _ => False) _ (x.weak fun b hb => by rw [hb]; exact hFaF) ⟨rfl, fun _ z => z⟩ (mk_lst (w := ⟨w.HP, w.H0, upd w.H a (.lst (us ++ [vy]))⟩) upd_same h0 (fun z => z.elim na fun y => dj a hFaF (hFa' a y)) ol2) rfl (fun _ z => z.elim) fun b hb => ?_
        rcases hb with hb | hb | hb | hb
        · exact hb.elim
        · rw [hb]; exact .inl hFaF
        · exact .inl ((hF b).mpr (.inr hb))
        · exact .inr (hFa' b hb)
      · cases eh
    · cases eh
  · cases eh
def hExtend (d : D) (ds : List D) : Option (D × D) := match d with
  | .nd k o xs => match k, o, ds with
    | .lst, .own, [.nd k2 o2 ys] => match k2 with
      | .lst => if xs.length + ys.length ≤ sizeLine ∧ (o2 = .own ∨ isRoL ys = true) then some (.non, .nd .lst .own (xs ++ ys)) else none
      | _ => none
    | _, _, _ => none
  | _ => none
theorem mutS_extend : MutS g rExtend hExtend := by
  intro d ds x d2 eh w v vs F Fa lp l0 o oa dj Q q
  unfold hExtend at eh
  split at eh
  · rename_i k fl xs
    split at eh
    · rename_i k2 o2 ys
      split at eh
      · split at eh
        · rename_i hc
          cases eh
          obtain ⟨a, us, F', rfl, hH, h0, na, ol, hF⟩ := own_lst o
          obtain ⟨vy, r, Fy, F2, rfl, oy, ⟨rfl, _⟩, _, hFa⟩ := oa
          have hFa' : ∀ b, Fy b → Fa b := fun b hb => (hFa b).mpr (.inl hb)
          have hFaF : F a := (hF a).mpr (.inl rfl)
          have key : ∃ b zs G, vy = .ref b ∧ w.H b = some (.lst zs) ∧ OwL g.c g.X.K w.HP w.H0 w.H ys zs G ∧ ∀ t, G t → Fy t := by
            cases o2 with
            | own =>
              obtain ⟨b, zs, G, rfl, hb, _, _, og, hG⟩ := own_lst oy
              exact ⟨b, zs, G, rfl, hb, og, fun t ht => (hG t).mpr (.inr ht)⟩
            | ro =>
              obtain ⟨_, b, zs, rfl, ra, rl⟩ := oy.1
              exact ⟨b, zs, fun _ => False, rfl, l0.lst ra, OwL.of_ro (RoL.mono (Le.refl _) (Le.refl _) rl), fun _ z => z.elim⟩
            | pm =>
              obtain ⟨_, b, zs, rfl, ra, rl⟩ := oy.1
              exact ⟨b, zs, fun _ => False, rfl, (lp.trans l0).lst ra, OwL.of_ro (RoL.mono (Le.refl _) lp rl), fun _ z => z.elim⟩
          obtain ⟨b, zs, G, rfl, hb, og, hG⟩ := key
          have x := Wr.upd lp l0 (.lst (us ++ zs)) h0
          refine ⟨a, b, us, zs, rfl, rfl, hH, hb, by rw [ol.len, og.len]; exact hc.1, ?_⟩
          have nF' : ∀ b, F' b → ¬ b = a := fun b hb z => na (z ▸ hb)
          have nG : ∀ b, G b → ¬ b = a := fun b hb z => dj a hFaF (hFa' a (hG a (z ▸ hb)))
          have ol2 := OwL.append (x.owL ol nF') (x.owL og nG) fun b hb hy => dj b ((hF b).mpr (.inr hb)) (hFa' b (hG b hy))
          refine q _ .non (fun _ => False) _ (x.weak fun b hb => by rw [hb]; exact hFaF) ⟨rfl, fun _ z => z⟩ (mk_lst (w := ⟨w.HP, w.H0, upd w.H a (.lst (us ++ zs))⟩) upd_same h0 (fun z => z.elim na fun y => dj a hFaF (hFa' a (hG a y))) ol2) rfl (fun _ z => z.elim) fun b hb => ?_
          rcases hb with hb | hb | hb | hb
          · exact hb.elim
          · rw [hb]; exact .inl hFaF
          · exact .inl ((hF b).mpr (.inr hb))
          · exact .inr (hFa' b (hG b hb))
        · cases eh
      · cases eh
    · cases eh
  · cases eh
def hPop (d : D) (ds : List D) : Option (D × D) := match d with
  | .nd k o xs => match k, o, ds with
    | .lst, .own, [] => match xs[xs.length - 1]? with
      | some y => some (y, .nd .lst .own (xs.eraseIdx (xs.length - 1)))
      | none => none
    | .lst, .own, [.int i] => match ixN xs.length i with
      | some j => match xs[j]? with
        | some y => if -(2 ^ 63) ≤ i ∧ i < 2 ^ 63 then some (y, .nd .lst .own (xs.eraseIdx j)) else none
        | none => none
      | none => none
    | _, _, _ => none
  | _ => none
theorem dropLast_erase {α : Type} (l : List α) : l.dropLast = l.eraseIdx (l.length - 1) := by
  rw [List.dropLast_eq_take, List.eraseIdx_eq_take_drop_succ]
  cases l with
  | nil => rfl
  | cons a r => simp
theorem mutS_pop : MutS g (fun x vs H Q => rPop x vs H Q ∨ rPopAt x vs H Q) hPop := by
  intro d ds x d2 eh w v vs F Fa lp l0 o oa dj Q q
  have key : ∀ {xs : List D} {j : Nat} {y : D}, xs[j]? = some y → Ow g.c g.X.K w.HP w.H0 w.H (.nd .lst .own xs) v F → ∃ a us vy, v = .ref a ∧ w.H a = some (.lst us) ∧ us.length = xs.length ∧ us[j]? = some vy ∧
      ((∀ w2 vr Fr F2, Wr w w2 F → Ow g.c g.X.K w2.HP w2.H0 w2.H y vr Fr → Ow g.c g.X.K w2.HP w2.H0 w2.H (.nd .lst .own (xs.eraseIdx j)) v F2 → isUns (.nd .lst .own (xs.eraseIdx j)) = false → (∀ a, Fr a → ¬ F2 a) → (∀ a, Fr a ∨ F2 a → F a ∨ Fa a) → Q vr w2.H) → Q vy (upd w.H a (.lst (us.eraseIdx j)))) := by
    intro xs j y ey o
    obtain ⟨a, us, F', rfl, hH, h0, na, ol, hF⟩ := own_lst o
    obtain ⟨vy, G1, G2, e1, o1, o2, dj2, sb⟩ := ol.erase ey
    refine ⟨a, us, vy, rfl, hH, ol.len, e1, fun q => ?_⟩
    have hFaF : F a := (hF a).mpr (.inl rfl)
    have x := Wr.upd lp l0 (.lst (us.eraseIdx j)) h0
    have n1 : ∀ b, G1 b → ¬ b = a := fun b hb z => na (sb a (.inl (z ▸ hb)))
    have n2 : ∀ b, G2 b → ¬ b = a := fun b hb z => na (sb a (.inr (z ▸ hb)))
    refine q _ vy G1 _ (x.weak fun b hb => by rw [hb]; exact hFaF) (x.ow o1 n1) (mk_lst (w := ⟨w.HP, w.H0, upd w.H a (.lst (us.eraseIdx j))⟩) upd_same h0 (fun z => n2 a z rfl) (x.owL o2 n2)) rfl (fun b hb z => z.elim (n1 b hb) (dj2 b hb)) fun b hb => .inl ?_
    rcases hb with hb | hb | hb
    · exact (hF b).mpr (.inr (sb b (.inl hb)))
    · rw [hb]; exact hFaF
    · exact (hF b).mpr (.inr (sb b (.inr hb)))
  unfold hPop at eh
  split at eh
  · rename_i k fl xs
    split at eh
    · split at eh
      · rename_i y ey
        cases eh
        obtain ⟨a, us, vy, rfl, hH, hl, e1, fin⟩ := key ey o
        have ev : vs = [] := oa.1
        subst ev
        refine .inl ⟨a, us, vy, rfl, rfl, hH, by rw [hl]; exact e1, ?_⟩
        rw [dropLast_erase, hl]
        exact fin q
      · cases eh
    · rename_i i
      split at eh
      · rename_i j ej
        split at eh
        · rename_i y ey
          split at eh
          · rename_i hb
            cases eh
            obtain ⟨a, us, vy, rfl, hH, hl, e1, fin⟩ := key ey o
            obtain ⟨v1, r, F1, F2, rfl, o1, ⟨rfl, _⟩, _⟩ := oa
            obtain rfl : v1 = .int i := o1.1
            obtain ⟨h1, h2, h3, h4⟩ := ixN_seq ej
            exact .inr ⟨a, us, i, j, vy, rfl, rfl, hH, hb.1, hb.2, by rw [hl]; exact h1, e1, fin q⟩
          · cases eh
        · cases eh
      · cases eh
    · cases eh
  · cases eh
end
end DL
set_option Elab.async false
set_option linter.all false
set_option maxRecDepth 100000
set_option maxHeartbeats 4000000
namespace DL
open PySem PySem.Spec PyProof.Rows L2

/-! ### what is walked -/
theorem PI.or {X : Cx} {tg it : Expr} {t u : TI} (h : PI X tg it t) (k : PI X tg it u) : PI X tg it (fun σ H R => t σ H R ∨ u σ H R) :=
  ⟨fun pins s σ H R I q => q.elim (h.run pins s σ H R I) (k.run pins s σ H R I)⟩
/-- a later world: what was frozen is there -/
structure Later (w w2 : Wd) : Prop where
  hp : Le w.HP w2.HP
  h0 : Le w.H0 w2.H0
  lp : Le w2.HP w2.H0
  l0 : Le w2.H0 w2.H
/-- an iterator over ds -/
def Walk (g : G) (w : Wd) (J : It) (ds : List D) : Prop := ∀ w2, Later w w2 → (∀ i, i < ds.length → J.go i w2.H ∧ ∀ x H', J.yld i w2.H x H' → ∃ w3 d, w3.H = H' ∧ Grow w2 w3 ∧ ds[i]? = some d ∧ Ro g.c g.X.K w3.HP w3.H0 d x) ∧ J.stop ds.length w2.H
def IPost (g : G) (T : List Nat) (w : Wd) (Fs : Fps) (σ : St) (R : It → Hp → Prop) : LR → Prop
  | .ok ds env' => ∀ w' Fs' J, Ext T w Fs w' Fs' → Sr g w' Fs' σ env' → Walk g w' J ds → R J w'.H
  | .ex x p env' => XPost g T w Fs σ x p env'
  | .bad => False
structure PIx (g : G) (tg iter : Expr) (T : List Nat) (f : Env → LR) : Prop where
  fr : FrmL T f
  ex : ∃ t, PI g.X tg iter t ∧ ∀ w Fs σ env, Sr g w Fs σ env → ∀ R, IPost g T w Fs σ R (f env) → t σ w.H R
section
variable {g : G} {w w' w'' w2 w0 : Wd} {Fs Fs' Fs'' Fs0 : Fps} {σ σ' σ'' : St} {env env' : Env} {T T' R S S' : List Nat} {d d0 d2 dv : D} {v v0 vv : V} {F F1 F2 Fv : Addr → Prop} {D' : L2.Ends} {i j : Nat} {p : List Nat} {u : Bool} {xs ys : List D} {vs us : List V}
theorem Sr.later (s : Sr g w Fs σ env) : Later w w := ⟨Le.refl _, Le.refl _, s.lp, s.l0⟩
theorem ExtS.later (x : ExtS S w Fs σ w' Fs' σ') (s : Sr g w' Fs' σ' env) : Later w w' := ⟨x.hp, x.h0, s.lp, s.l0⟩
theorem Later.trans (h : Later w w') (k : Later w' w'') : Later w w'' := ⟨h.hp.trans k.hp, h.h0.trans k.h0, k.lp, k.l0⟩
/-- a temporary is frozen -/
theorem frz_tmp (x : Ext T w0 Fs0 w Fs) (s : Sr g w Fs σ env) (o : Ow g.c g.X.K w.HP w.H0 w.H d v F) (n : ∀ a, F a → ∀ i, ¬ Fs i a) (p : ∀ a, F a → w0.H a = none ∨ ∃ j, Fs0 j a) :
    Ext T w0 Fs0 ⟨w.HP, frzH w.H w.H0 F, w.H⟩ Fs ∧ Sr g ⟨w.HP, frzH w.H w.H0 F, w.H⟩ Fs σ env ∧ Ro g.c g.X.K w.HP (frzH w.H w.H0 F) (frz d) v := by
  have l1 : Le w.H0 (frzH w.H w.H0 F) := fun a u eu => by
    have y : ¬ F a := fun y => by
      have := (o.held d a y).2
      rw [eu] at this; cases this
    exact ⟨u, by rw [frzH_out y]; exact eu, rfl⟩
  have l2 : Le (frzH w.H w.H0 F) w.H := fun a u eu => by
    by_cases y : F a
    · rw [frzH_in y] at eu; exact ⟨u, eu, rfl⟩
    · rw [frzH_out y] at eu; exact s.l0 a u eu
  have out : ∀ {i : Nat} {a : Addr}, Fs i a → frzH w.H w.H0 F a = none := fun {i a} z => by
    rw [frzH_out (fun y => n a y i z)]; exact (s.held z).2
  refine ⟨⟨x.hp, x.h0.trans l1, x.off, fun i hi a z => ⟨(x.keep i hi a z).1, out ((x.same i hi a).mpr z)⟩, x.same, x.fs, fun a z => ?_, x.dom, x.pn⟩, ⟨s.lp.trans l1, l2, s.len, fun i d e => ?_, s.non, s.dis, s.hx.w l1⟩, Ow.freeze (Le.refl _) l1 d (fun b hb => frzH_in hb) o⟩
  · by_cases y : F a
    · rcases p a y with t | ⟨j, t⟩
      · exact .inr (.inr t)
      · exact .inr (.inl ⟨j, t⟩)
    · rw [show (Wd.H0 ⟨w.HP, frzH w.H w.H0 F, w.H⟩ a) = w.H0 a from frzH_out y] at z
      exact x.h0n a z
  · obtain ⟨v, e1, q⟩ := s.slot i d e
    exact ⟨v, e1, Ow.keep (Le.refl _) l1 d (fun b hb => ⟨rfl, out hb⟩) q⟩
def itemsL (d : D) : Option (List D) := match d with
  | .nd k _ xs => match k with
    | .lst => some xs
    | .scr => some xs
    | _ => none
  | _ => none
def itemsT (d : D) : Option (List D) := match d with
  | .nd k _ xs => match k with
    | .tup => some xs
    | _ => none
  | _ => none
def itemsD (d : D) : Option (List D) := match itemsL d with
  | some xs => some xs
  | none => itemsT d
def LR.of (f : D → Option (List D)) : ER → LR
  | .ok d e => match f (frz d) with
    | some xs => .ok xs e
    | none => .bad
  | .ex x p e => .ex x p e
  | .bad => .bad
theorem ro_items {H : Hp} (h : itemsL d = some xs) (lp : Le w.HP w.H0) (r : Ro g.c g.X.K w.HP w.H0 d v) : ∃ a us, v = .ref a ∧ SqL g.X.K w.H0 a us ∧ RoL g.c g.X.K w.HP w.H0 xs us := by
  unfold itemsL at h
  split at h
  · rename_i k fl ys
    obtain ⟨_, a, us, rfl, ra, rl⟩ := r
    have hl : Le (hz fl w.HP w.H0) w.H0 := by cases fl <;> first | exact Le.refl _ | exact lp
    have rl' := RoL.mono (Le.refl _) hl rl
    have ra' := ra.mono hl
    split at h
    · cases h; exact ⟨a, us, rfl, .inl (.inl ra'), rl'⟩
    · cases h; exact ⟨a, us, rfl, ra', rl'⟩
    · cases h
  · cases h
theorem ro_itemsT {H : Hp} (h : itemsT d = some xs) (lp : Le w.HP w.H0) (r : Ro g.c g.X.K w.HP w.H0 d v) : ∃ a us, v = .ref a ∧ SqT g.X.K w.H0 a us ∧ RoL g.c g.X.K w.HP w.H0 xs us := by
  unfold itemsT at h
  split at h
  · rename_i k fl ys
    obtain ⟨_, a, us, rfl, ra, rl⟩ := r
    have hl : Le (hz fl w.HP w.H0) w.H0 := by cases fl <;> first | exact Le.refl _ | exact lp
    have rl' := RoL.mono (Le.refl _) hl rl
    have ra' := ra.mono hl
    split at h
    · cases h; exact ⟨a, us, rfl, .inl (.inl ra'), rl'⟩
    · cases h
  · cases h
theorem core_frzT {o : HO} {b : Obj} {xs : List V} (h : core o = .frz b (.tup xs)) : o = .frz b (.tup xs) := by
  unfold core at h
  split at h <;> first | exact h | cases h
theorem Le.sqt {K : PySem.W.Frag} {H H' : Hp} (l : Le H H') {a : Addr} {xs : List V} (h : SqT K H a xs) : SqT K H' a xs := by
  rcases h with h | h
  · refine .inl ?_
    rcases h with h | ⟨b, h⟩
    · exact .inl (l.tup h)
    · obtain ⟨o, e, c⟩ := l a _ h
      rw [core_frzT c] at e
      exact .inr ⟨b, e⟩
  · exact .inr h
theorem walk_list {a : Addr} (h : SqL g.X.K w.H0 a us) (r : RoL g.c g.X.K w.HP w.H0 xs us) : Walk g w (Itl g.X.K a) xs := by
  intro w2 l
  have h2 := (l.h0.trans l.l0).sql h
  refine ⟨fun i hi => ⟨?_, fun x H' y => ?_⟩, us, h2, by rw [r.len]; exact Nat.le_refl _⟩
  · exact ⟨us, us[i]'(by rw [r.len]; exact hi), h2, List.getElem?_eq_getElem _⟩
  · obtain ⟨rfl, y⟩ := y
    obtain ⟨v, e, q⟩ := r.get (List.getElem?_eq_getElem hi)
    rw [y us h2] at e
    cases e
    exact ⟨w2, xs[i], rfl, .refl l.lp l.l0, List.getElem?_eq_getElem hi, Ro.mono l.hp _ l.h0 q⟩
theorem walk_tup {a : Addr} (h : SqT g.X.K w.H0 a us) (r : RoL g.c g.X.K w.HP w.H0 xs us) : Walk g w (Itt g.X.K a) xs := by
  intro w2 l
  have h2 := (l.h0.trans l.l0).sqt h
  refine ⟨fun i hi => ⟨?_, fun x H' y => ?_⟩, us, h2, by rw [r.len]; exact Nat.le_refl _⟩
  · exact ⟨us, us[i]'(by rw [r.len]; exact hi), h2, List.getElem?_eq_getElem _⟩
  · obtain ⟨rfl, y⟩ := y
    obtain ⟨v, e, q⟩ := r.get (List.getElem?_eq_getElem hi)
    rw [y us h2] at e
    cases e
    exact ⟨w2, xs[i], rfl, .refl l.lp l.l0, List.getElem?_eq_getElem hi, Ro.mono l.hp _ l.h0 q⟩
end
def eIter (f : Env → ER) (env : Env) : LR := LR.of itemsD (f env)
/-- a pair of frozen values -/
def pairD (a b : D) : D := if isPm a = true ∧ isPm b = true then .nd .tup .pm [a, b] else .nd .tup .ro [a, b]
def enumD : Nat → List D → List D
  | _, [] => []
  | n, d :: ds => pairD (.int n) d :: enumD (n + 1) ds
def zipD : List D → List D → List D
  | a :: as, b :: bs => pairD a b :: zipD as bs
  | _, _ => []
def rngD (lo c : Int) (n : Nat) : List D := (List.range n).map fun i => .int (lo + (i : Nat) * c)
/-- the kernel can not run this on an open number -/
def isSm (i : Int) : Bool := Nat.ble i.natAbs 1000000
theorem isSm_s {i : Int} : isSm i = true ↔ (-(2 ^ 62) ≤ i ∧ i < 2 ^ 62) ∧ i.natAbs ≤ 1000000 := by unfold isSm; rw [Nat.ble_eq]; omega
def itRng (ds : List D) : Option (List D) := match ds with
  | [.int j] => if isSm j = true then some (rngD 0 1 j.toNat) else none
  | [.int i, .int j] => if isSm i = true ∧ isSm j = true then some (rngD i 1 (j - i).toNat) else none
  | [.int i, .int j, .int c] => if isSm i = true ∧ isSm j = true ∧ c = -1 then some (rngD i (-1) (i - j).toNat) else none
  | _ => none
def eRng (fs : Env → LR) (env : Env) : LR := match fs env with
  | .ok ds e => match itRng ds with
    | some xs => .ok xs e
    | none => .bad
  | .ex x p e => .ex x p e
  | .bad => .bad
def eEnum (f : Env → ER) (env : Env) : LR := match LR.of itemsL (f env) with
  | .ok xs e => .ok (enumD 0 xs) e
  | .ex x p e => .ex x p e
  | .bad => .bad
theorem enumD_len : ∀ (n : Nat) (xs : List D), (enumD n xs).length = xs.length
  | _, [] => rfl
  | n, d :: ds => by rw [enumD, List.length_cons, List.length_cons, enumD_len]
theorem enumD_get : ∀ {n i : Nat} {xs : List D} {d : D}, xs[i]? = some d → (enumD n xs)[i]? = some (pairD (.int ((n + i : Nat) : Int)) d)
  | n, i, [], d, h => by simp at h
  | n, 0, x :: xs, d, h => by
    simp at h; subst h; rfl
  | n, i + 1, x :: xs, d, h => by
    rw [enumD, List.getElem?_cons_succ]
    have := enumD_get (n := n + 1) (i := i) (xs := xs) (d := d) (by simpa using h)
    rw [this]
    have e : n + 1 + i = n + (i + 1) := by omega
    rw [e]
theorem zipD_len : ∀ (xs ys : List D), (zipD xs ys).length = min xs.length ys.length
  | [], _ => by simp [zipD]
  | _ :: _, [] => by simp [zipD]
  | a :: as, b :: bs => by simp [zipD, zipD_len as bs]
theorem zipD_get : ∀ {i : Nat} {xs ys : List D} {a b : D}, xs[i]? = some a → ys[i]? = some b → (zipD xs ys)[i]? = some (pairD a b)
  | i, [], ys, a, b, h, _ => by simp at h
  | i, _ :: _, [], a, b, _, h => by simp at h
  | 0, x :: xs, y :: ys, a, b, h, k => by
    simp at h k; subst h k; rfl
  | i + 1, x :: xs, y :: ys, a, b, h, k => by
    rw [zipD, List.getElem?_cons_succ]
    exact zipD_get (by simpa using h) (by simpa using k)
section
variable {g : G} {w w' w'' w2 w0 : Wd} {Fs Fs' Fs'' Fs0 : Fps} {σ σ' σ'' : St} {env env' : Env} {T T' Ta Tb R Ra S S' : List Nat} {d d0 d2 dv : D} {v v0 vv : V} {F F1 F2 Fv : Addr → Prop} {D' : L2.Ends} {i j : Nat} {u : Bool} {xs ys : List D} {vs us : List V} {tg e e2 iter a b c : Expr} {f fa fb : Env → ER} {fs : Env → LR} {p pos tpos : Pos} {elts es : List Expr} {kk : Nat}
/-- a new pair -/
theorem mkPair (lp : Le w.HP w.H0) (l0 : Le w.H0 w.H) {q : Addr} {da db : D} {va vb : V} (n : w.H q = none) (ra : Ro g.c g.X.K w.HP w.H0 da va) (rb : Ro g.c g.X.K w.HP w.H0 db vb) : ∃ w3, w3.H = upd w.H q (.tup [va, vb]) ∧ Grow w w3 ∧ Ro g.c g.X.K w3.HP w3.H0 (pairD da db) (.ref q) := by
  have n0 := l0.none n
  have nP := lp.none n0
  unfold pairD
  split
  · rename_i h
    have pa := (isPm_ro (g := g) h.1 (Ow.of_ro (F := fun _ => False) ra fun _ z => z)).1
    have pb := (isPm_ro (g := g) h.2 (Ow.of_ro (F := fun _ => False) rb fun _ z => z)).1
    have lP : Le w.HP (upd w.HP q (.tup [va, vb])) := (Le.refl _).put nP
    exact ⟨w.putP q (.tup [va, vb]), rfl, Grow.putP lp l0 n, by simp, q, [va, vb], rfl, upd_same, va, [vb], rfl, Ro.mono lP _ lP pa, vb, [], rfl, Ro.mono lP _ lP pb, rfl⟩
  · have l : Le w.H0 (upd w.H0 q (.tup [va, vb])) := (Le.refl _).put n0
    exact ⟨w.put0 q (.tup [va, vb]), rfl, Grow.put0 lp l0 n, by simp, q, [va, vb], rfl, upd_same, va, [vb], rfl, Ro.mono (Le.refl _) _ l ra, vb, [], rfl, Ro.mono (Le.refl _) _ l rb, rfl⟩
theorem walk_enum {a : Addr} (h : SqL g.X.K w.H0 a us) (r : RoL g.c g.X.K w.HP w.H0 xs us) : Walk g w (Ite g.X.K a) (enumD 0 xs) := by
  intro w2 l
  have h2 := (l.h0.trans l.l0).sql h
  refine ⟨fun i hi => ?_, us, h2, by rw [r.len, enumD_len]; exact Nat.le_refl _⟩
  rw [enumD_len] at hi
  refine ⟨⟨us, us[i]'(by rw [r.len]; exact hi), h2, List.getElem?_eq_getElem _⟩, fun x H' y => ?_⟩
  obtain ⟨q, z, rfl, nq, rfl, y⟩ := y
  obtain ⟨v, e, ro⟩ := r.get (List.getElem?_eq_getElem hi)
  rw [y us h2] at e
  cases e
  obtain ⟨w3, e3, gr, r3⟩ := mkPair (g := g) l.lp l.l0 (da := .int (i : Nat)) (va := .int (i : Nat)) nq rfl (Ro.mono l.hp _ l.h0 ro)
  refine ⟨w3, _, e3, gr, ?_, r3⟩
  have := enumD_get (n := 0) (List.getElem?_eq_getElem hi)
  rw [this, Nat.zero_add]
theorem walk_zip {a b : Addr} (h : SqL g.X.K w.H0 a us) (r : RoL g.c g.X.K w.HP w.H0 xs us) (h' : SqL g.X.K w.H0 b vs) (r' : RoL g.c g.X.K w.HP w.H0 ys vs) : Walk g w (Itz g.X.K a b) (zipD xs ys) := by
  intro w2 l
  have h2 := (l.h0.trans l.l0).sql h
  have h2' := (l.h0.trans l.l0).sql h'
  refine ⟨fun i hi => ?_, us, vs, h2, h2', by rw [r.len, r'.len, zipD_len]; omega⟩
  rw [zipD_len] at hi
  have hx : i < xs.length := by omega
  have hy : i < ys.length := by omega
  refine ⟨⟨us, vs, us[i]'(by rw [r.len]; exact hx), vs[i]'(by rw [r'.len]; exact hy), h2, h2', List.getElem?_eq_getElem _, List.getElem?_eq_getElem _⟩, fun x H' y => ?_⟩
  obtain ⟨q, z1, z2, rfl, nq, rfl, y1, y2⟩ := y
  obtain ⟨v1, e1, ro1⟩ := r.get (List.getElem?_eq_getElem hx)
  obtain ⟨v2, e2, ro2⟩ := r'.get (List.getElem?_eq_getElem hy)
  rw [y1 us h2] at e1
  rw [y2 vs h2'] at e2
  cases e1
  cases e2
  obtain ⟨w3, e3, gr, r3⟩ := mkPair (g := g) l.lp l.l0 nq (Ro.mono l.hp _ l.h0 ro1) (Ro.mono l.hp _ l.h0 ro2)
  exact ⟨w3, _, e3, gr, zipD_get (List.getElem?_eq_getElem hx) (List.getElem?_eq_getElem hy), r3⟩
theorem walk_rng {lo c : Int} {n : Nat} : Walk g w (Itc lo c n) (rngD lo c n) := by
  intro w2 l
  have hl : (rngD lo c n).length = n := by simp [rngD]
  rw [hl]
  refine ⟨fun i hi => ⟨hi, fun x H' y => ?_⟩, Nat.le_refl _⟩
  obtain ⟨rfl, rfl⟩ := y
  refine ⟨w2, .int (lo + (i : Nat) * c), rfl, .refl l.lp l.l0, ?_, rfl⟩
  unfold rngD
  rw [List.getElem?_map, List.getElem?_range hi]
  rfl
theorem walk_rng1 {lo : Int} {n : Nat} : Walk g w (Itr lo n) (rngD lo 1 n) := by
  intro w2 l
  have hl : (rngD lo 1 n).length = n := by simp [rngD]
  rw [hl]
  refine ⟨fun i hi => ⟨hi, fun x H' y => ?_⟩, Nat.le_refl _⟩
  obtain ⟨rfl, rfl⟩ := y
  refine ⟨w2, .int (lo + (i : Nat)), rfl, .refl l.lp l.l0, ?_, rfl⟩
  unfold rngD
  rw [List.getElem?_map, List.getElem?_range hi]
  show some (D.int (lo + (i : Int) * 1)) = some (D.int (lo + (i : Int)))
  rw [Int.mul_one]
theorem frm_of {k : D → Option (List D)} (h : Frm T f) : FrmL T (fun env => LR.of k (f env)) := by
  intro env ds env' q i hi
  dsimp only at q
  cases er : f env with
  | ex x p e => rw [er] at q; cases q
  | bad => rw [er] at q; cases q
  | ok d e1 =>
    rw [er] at q
    simp only [LR.of] at q
    split at q
    · cases q; exact h _ _ _ er i hi
    · cases q
theorem frm_rng (h : FrmL T fs) : FrmL T (eRng fs) := by
  intro env ds env' q i hi
  unfold eRng at q
  cases er : fs env with
  | ex x p e => rw [er] at q; cases q
  | bad => rw [er] at q; cases q
  | ok d e1 =>
    rw [er] at q
    dsimp only at q
    split at q
    · cases q; exact h _ _ _ er i hi
    · cases q
theorem frm_enum (h : Frm T f) : FrmL T (eEnum f) := by
  intro env ds env' q i hi
  unfold eEnum at q
  cases er : LR.of itemsL (f env) with
  | ex x p e => rw [er] at q; cases q
  | bad => rw [er] at q; cases q
  | ok d e1 =>
    rw [er] at q
    cases q
    exact frm_of h _ _ _ er i hi
theorem XPost.ofI {x : Nat} {q : Option D} {e : Env} {R : It → Hp → Prop} (h : IPost g T w Fs σ R (.ex x q e)) : XPost g T w Fs σ x q e := h
theorem pix_val (he : PEx g e T f) : PIx g tg e T (eIter f) := by
  obtain ⟨t, t1, t2⟩ := he.ex
  refine ⟨frm_of he.fr, _, PI.or (pi_list t1) (pi_tup t1), fun w Fs σ env s R z => ?_⟩
  unfold eIter at z
  cases er : f env with
  | ex x q e => rw [er] at z; exact .inl (t2 w Fs σ env s _ (by rw [er]; exact z))
  | bad => rw [er] at z; exact z.elim
  | ok d e1 =>
    rw [er] at z
    simp only [LR.of] at z
    cases ei : itemsD (frz d) with
    | none => rw [ei] at z; exact z.elim
    | some xs =>
      rw [ei] at z
      unfold itemsD at ei
      split at ei
      · rename_i ys e2
        cases ei
        refine .inl (t2 w Fs σ env s _ ?_)
        rw [er]
        intro w1 Fs1 v F x1 s1 o n p
        obtain ⟨x2, s2, ro⟩ := frz_tmp x1 s1 o n fun a ha => (p a ha).imp id fun ⟨j, _, y⟩ => ⟨j, y⟩
        obtain ⟨a, us, rfl, sq, rl⟩ := ro_items (w := ⟨w1.HP, frzH w1.H w1.H0 F, w1.H⟩) (H := w1.H) e2 s2.lp ro
        exact ⟨a, rfl, ⟨us, s2.l0.sql sq⟩, z ⟨w1.HP, frzH w1.H w1.H0 F, w1.H⟩ Fs1 _ x2 s2 (walk_list (w := ⟨w1.HP, frzH w1.H w1.H0 F, w1.H⟩) sq rl)⟩
      · refine .inr (t2 w Fs σ env s _ ?_)
        rw [er]
        intro w1 Fs1 v F x1 s1 o n p
        obtain ⟨x2, s2, ro⟩ := frz_tmp x1 s1 o n fun a ha => (p a ha).imp id fun ⟨j, _, y⟩ => ⟨j, y⟩
        obtain ⟨a, us, rfl, sq, rl⟩ := ro_itemsT (w := ⟨w1.HP, frzH w1.H w1.H0 F, w1.H⟩) (H := w1.H) ei s2.lp ro
        exact ⟨a, rfl, ⟨us, s2.l0.sqt sq⟩, z ⟨w1.HP, frzH w1.H w1.H0 F, w1.H⟩ Fs1 _ x2 s2 (walk_tup (w := ⟨w1.HP, frzH w1.H w1.H0 F, w1.H⟩) sq rl)⟩
theorem pix_rng1 (hg : Gl g.X "range") (hm : g.X.mg "range" = none) (ha : PAx g [a] T R fs) (hs : starEach [a] g.X.env = [(false, eval a g.X.env)] := by rfl) : PIx g tg (.Call (.Name "range" p) [a] [] pos) T (eRng fs) := by
  obtain ⟨t, t1, t2⟩ := ha.ex
  refine ⟨frm_rng ha.fr, _, pi_range1 hg hm t1 hs, fun w Fs σ env s R z => t2 w Fs σ env s _ ?_⟩
  unfold eRng at z
  cases er : fs env with
  | ex x q e => rw [er] at z; exact z
  | bad => rw [er] at z; exact z
  | ok ds e1 =>
    rw [er] at z
    dsimp only at z
    intro w1 Fs1 vs x1 s1 o
    cases ei : itRng ds with
    | none => rw [ei] at z; exact z.elim
    | some xs =>
      rw [ei] at z
      have hl := ha.ln _ _ _ er
      unfold itRng at ei
      split at ei
      · rename_i j
        split at ei
        · rename_i hj
          cases ei
          cases o with
          | cons q r =>
            cases r
            obtain ⟨F, q, _⟩ := q
            obtain rfl := q.1
            simp only [isSm_s] at hj
            exact ⟨j, rfl, hj.1.1, hj.1.2, z w1 Fs1 _ x1 s1 walk_rng1⟩
        · cases ei
      · simp at hl
      · simp at hl
      · cases ei
theorem pix_rng2 (hg : Gl g.X "range") (hm : g.X.mg "range" = none) (ha : PAx g [a, b] T R fs) (hs : starEach [a, b] g.X.env = [(false, eval a g.X.env), (false, eval b g.X.env)] := by rfl) (hs2 : starEach [b] g.X.env = [(false, eval b g.X.env)] := by rfl) : PIx g tg (.Call (.Name "range" p) [a, b] [] pos) T (eRng fs) := by
  obtain ⟨t, t1, t2⟩ := ha.ex
  refine ⟨frm_rng ha.fr, _, pi_range2 hg hm t1 hs hs2, fun w Fs σ env s R z => t2 w Fs σ env s _ ?_⟩
  unfold eRng at z
  cases er : fs env with
  | ex x q e => rw [er] at z; exact z
  | bad => rw [er] at z; exact z
  | ok ds e1 =>
    rw [er] at z
    dsimp only at z
    intro w1 Fs1 vs x1 s1 o
    cases ei : itRng ds with
    | none => rw [ei] at z; exact z.elim
    | some xs =>
      rw [ei] at z
      have hl := ha.ln _ _ _ er
      unfold itRng at ei
      split at ei
      · simp at hl
      · rename_i i j
        split at ei
        · rename_i hj
          cases ei
          cases o with
          | cons q r =>
            cases r with
            | cons q2 r =>
              cases r
              obtain ⟨F, q, _⟩ := q
              obtain ⟨F2, q2, _⟩ := q2
              obtain rfl := q.1
              obtain rfl := q2.1
              simp only [isSm_s] at hj
              exact ⟨i, j, rfl, ⟨hj.1.1.1, hj.1.1.2, hj.2.1.1, hj.2.1.2⟩, z w1 Fs1 _ x1 s1 walk_rng1⟩
        · cases ei
      · simp at hl
      · cases ei
theorem pix_rng3 (hg : Gl g.X "range") (hm : g.X.mg "range" = none) (ha : PAx g [a, b, c] T R fs) (hs : starEach [a, b, c] g.X.env = (false, eval a g.X.env) :: starEach [b, c] g.X.env := by rfl) (hpl : (backTo pos (starEach [b, c] g.X.env)).any (·.1) = false := by rfl) : PIx g tg (.Call (.Name "range" p) [a, b, c] [] pos) T (eRng fs) := by
  obtain ⟨t, t1, t2⟩ := ha.ex
  refine ⟨frm_rng ha.fr, _, pi_range3 hg hm t1 hs hpl, fun w Fs σ env s R z => t2 w Fs σ env s _ ?_⟩
  unfold eRng at z
  cases er : fs env with
  | ex x q e => rw [er] at z; exact z
  | bad => rw [er] at z; exact z
  | ok ds e1 =>
    rw [er] at z
    dsimp only at z
    intro w1 Fs1 vs x1 s1 o
    cases ei : itRng ds with
    | none => rw [ei] at z; exact z.elim
    | some xs =>
      rw [ei] at z
      have hl := ha.ln _ _ _ er
      unfold itRng at ei
      split at ei
      · simp at hl
      · simp at hl
      · rename_i i j c
        split at ei
        · rename_i hj
          cases ei
          cases o with
          | cons q r =>
            cases r with
            | cons q2 r =>
              cases r with
              | cons q3 r =>
                cases r
                obtain ⟨F, q, _⟩ := q
                obtain ⟨F2, q2, _⟩ := q2
                obtain ⟨F3, q3, _⟩ := q3
                obtain rfl := q.1
                obtain rfl := q2.1
                obtain rfl := q3.1
                obtain ⟨h1, h2, rfl⟩ := hj
                simp only [isSm_s] at h1 h2
                exact ⟨i, j, -1, (i - j).toNat, rfl, RgC.neg h1.1.1 h1.1.2 h2.1.1 h2.1.2, z w1 Fs1 _ x1 s1 walk_rng⟩
        · cases ei
      · cases ei
theorem pix_enum (hg : Gl g.X "enumerate") (hm : g.X.mg "enumerate" = none) (he : PEx g e T f) (hs : starEach [e] g.X.env = [(false, eval e g.X.env)] := by rfl) : PIx g (.Tuple elts kk tpos) (.Call (.Name "enumerate" p) [e] [] pos) T (eEnum f) := by
  obtain ⟨t, t1, t2⟩ := he.ex
  have hs' : starEach [e] g.X.env = (false, eval e g.X.env) :: starEach [] g.X.env := hs
  refine ⟨frm_enum he.fr, _, pi_enum hg hm (pa_cons t1 pa_nil hs') hs, fun w Fs σ env s R z => t2 w Fs σ env s _ ?_⟩
  unfold eEnum at z
  cases er : f env with
  | ex x q e => rw [er] at z; exact z
  | bad => rw [er] at z; exact z.elim
  | ok d e1 =>
    rw [er] at z
    simp only [LR.of] at z
    intro w1 Fs1 v F x1 s1 o n p
    cases ei : itemsL (frz d) with
    | none => rw [ei] at z; exact z.elim
    | some xs =>
      rw [ei] at z
      obtain ⟨x2, s2, ro⟩ := frz_tmp x1 s1 o n fun a ha => (p a ha).imp id fun ⟨j, _, y⟩ => ⟨j, y⟩
      obtain ⟨a, us, rfl, sq, rl⟩ := ro_items (w := ⟨w1.HP, frzH w1.H w1.H0 F, w1.H⟩) (H := w1.H) ei s2.lp ro
      exact ⟨a, us, rfl, s2.l0.sql sq, z ⟨w1.HP, frzH w1.H w1.H0 F, w1.H⟩ Fs1 _ x2 s2 (walk_enum (w := ⟨w1.HP, frzH w1.H w1.H0 F, w1.H⟩) sq rl)⟩
end
end DL
set_option Elab.async false
set_option linter.all false
set_option maxRecDepth 100000
set_option maxHeartbeats 4000000
namespace DL
open PySem PySem.Spec PyProof.Rows L2

/-! ### loops -/
/-- what is not needed any more -/
def killS : List Nat → Env → Env
  | [], e => e
  | k :: ks, e => killS ks (e.set k none)
def forL (tg : D → Env → Option Env) (body : Env → SR) (kl : List Nat) : List D → Env → SR
  | [], env => .nx env
  | d :: ds, env => match tg d env with
    | some e1 => match body e1 with
      | .nx e2 => forL tg body kl ds (killS kl e2)
      | .ct e2 => forL tg body kl ds (killS kl e2)
      | .bk e2 => .nx (killS kl e2)
      | .rt d e => .rt d e
      | .ex x p e => .ex x p e
      | .bad => .bad
    | none => .bad
def sFor (tg : D → Env → Option Env) (fi : Env → LR) (body : Env → SR) (kl : List Nat) (env : Env) : SR := match fi env with
  | .ok ds e => forL tg body kl ds (killS kl e)
  | .ex x p e => .ex x p e
  | .bad => .bad
def whL (c : Env → ER) (body : Env → SR) (kl : List Nat) : Nat → Env → SR
  | 0, _ => .bad
  | n + 1, env => (c env).toS fun d e => match d with
    | .bl b => if b = true then match body e with
      | .nx e2 => whL c body kl n (killS kl e2)
      | .ct e2 => whL c body kl n (killS kl e2)
      | .bk e2 => .nx (killS kl e2)
      | .rt d e => .rt d e
      | .ex x p e => .ex x p e
      | .bad => .bad
      else .nx e
    | _ => .bad
def sWhile (fu : Nat) (c : Env → ER) (body : Env → SR) (kl : List Nat) (env : Env) : SR := whL c body kl fu (killS kl env)
section
variable {g : G} {w w' w'' w2 w0 : Wd} {Fs Fs' Fs'' Fs0 : Fps} {σ σ' σ'' σ0 : St} {env env' : Env} {T T' Ta Tb Tc R Ra S S' kl : List Nat} {d d0 d2 dv : D} {v v0 vv : V} {F F1 F2 Fv : Addr → Prop} {D' : L2.Ends} {i j : Nat} {u : Bool} {xs ys ds : List D} {vs us : List V} {e e2 iter a b c t : Expr} {f fa fb fc : Env → ER} {fs fi : Env → LR} {p pos tpos : Pos} {elts es : List Expr} {kk : Nat} {tg : D → Env → Option Env} {body : Env → SR} {bs : List Stmt}
theorem Sr.killS : ∀ {kl : List Nat} {Fs : Fps} {env : Env}, Sr g w Fs σ env → ∃ Fs', Sr g w Fs' σ (DL.killS kl env) ∧ ∀ i a, Fs' i a → Fs i a
  | [], Fs, env, s => ⟨Fs, s, fun _ _ z => z⟩
  | k :: ks, Fs, env, s => by
    obtain ⟨Fs', s', h⟩ := Sr.killS (kl := ks) (s.kill k)
    exact ⟨Fs', s', fun i a z => (h i a z).2⟩
theorem ExtS.less (x : ExtS S w Fs σ w' Fs' σ') (h : ∀ i a, Fs'' i a → Fs' i a) : ExtS S w Fs σ w' Fs'' σ' :=
  ⟨x.hp, x.h0, x.off, fun i a z => x.fs i a (h i a z), x.h0n, x.dom, x.st, x.ln, x.pn⟩
/-- how a loop stands -/
def LoopAt (g : G) (S : List Nat) (w0 : Wd) (Fs0 : Fps) (σ0 : St) (D' : L2.Ends) (k : Env → SR) (σ : St) (H : Hp) : Prop :=
  ∃ w Fs env, w.H = H ∧ ExtS S w0 Fs0 σ0 w Fs σ ∧ Sr g w Fs σ env ∧ SPost g S w0 Fs0 σ0 D' (k env)
theorem psx_for (hp : PassesOwn (model g.X.prog g.X.w) g.X.A g.X.env g.X.xe) (hc : g.X.calm = true) (hi : PIx g t iter Ta fi) (hg : PGx g t S tg) (hb : PBx g bs S body) (hs : ∀ x, foldedSetIterable iter g.X.env x = pure x := by intro _; rfl) :
    PSx g (.For t iter bs [] pos) S (sFor tg fi body kl) := by
  obtain ⟨ti, i1, i2⟩ := hi.ex
  obtain ⟨tt, g1, g2⟩ := hg.ex
  obtain ⟨tb, b1, b2⟩ := hb.ex
  refine ⟨_, ps_for hp hc i1 g1 b1 hs, fun w0 Fs0 σ0 env0 s0 D' z => i2 w0 Fs0 σ0 env0 s0 _ ?_⟩
  unfold sFor at z
  cases er : fi env0 with
  | ex x q e => rw [er] at z; exact XPost.ofS z
  | bad => rw [er] at z; exact z
  | ok ds e1 =>
    rw [er] at z
    dsimp only at z
    intro w1 Fs1 J x1 s1 wk
    obtain ⟨Fs2, s2, h2⟩ := s1.killS (kl := kl)
    refine ⟨fun i m σ H => m = ds.length - i ∧ i ≤ ds.length ∧ ∃ w Fs env, w.H = H ∧ ExtS S w0 Fs0 σ0 w Fs σ ∧ Later w1 w ∧ Sr g w Fs σ env ∧ SPost g S w0 Fs0 σ0 D' (forL tg body kl (ds.drop i) env), ⟨ds.length, by simp, Nat.zero_le _, w1, Fs2, _, rfl, x1.toS.less h2, s1.later, s2, z⟩, ?_⟩
    rintro i m σ H ⟨rfl, hi, w, Fs, env, rfl, x, lt, s, q⟩
    obtain ⟨wk1, wk2⟩ := wk w lt
    by_cases hl : i < ds.length
    · obtain ⟨k1, k2⟩ := wk1 i hl
      refine .inr ⟨k1, fun σ' H' => ∃ m', m' = ds.length - (i + 1) ∧ i + 1 ≤ ds.length ∧ ∃ w Fs env, w.H = H' ∧ ExtS S w0 Fs0 σ0 w Fs σ' ∧ Later w1 w ∧ Sr g w Fs σ' env ∧ SPost g S w0 Fs0 σ0 D' (forL tg body kl (ds.drop (i + 1)) env), fun σ' H' n => ?_, fun y H' hy => ?_⟩
      · obtain ⟨m', rfl, n⟩ := n
        exact ⟨_, by omega, rfl, n⟩
      · obtain ⟨w3, d, rfl, gr, ed, ro⟩ := k2 y H' hy
        have e1 : ds.drop i = d :: ds.drop (i + 1) := by
          obtain ⟨_, e⟩ := List.getElem?_eq_some_iff.mp ed
          rw [← e]
          exact List.drop_eq_getElem_cons hl
        rw [e1] at q
        unfold forL at q
        cases et : tg d env with
        | none => rw [et] at q; exact q.elim
        | some e2 =>
          rw [et] at q
          dsimp only at q
          obtain ⟨s3, x3⟩ := s.grow gr
          refine g2 w3 Fs σ env d y s3 ro e2 et _ fun Fs4 σ4 s4 f4 _ l4 k4 => ?_
          have x4 : ExtS S w0 Fs0 σ0 w3 Fs4 σ4 := by
            have t := x.trans (x3.toS (S := S) (σ := σ))
            exact ⟨t.hp, t.h0, t.off, fun i a z => t.fs i a (f4 i a z), t.h0n, t.dom, fun k hk => (k4 k hk).trans (t.st k hk), l4.trans t.ln, t.pn⟩
          have lt4 : Later w1 w3 := lt.trans ⟨gr.hp, gr.h0, gr.lp, gr.l0⟩
          have again : ∀ {e5 : Env}, SPost g S w0 Fs0 σ0 D' (forL tg body kl (ds.drop (i + 1)) (DL.killS kl e5)) → NPost g S w3 Fs4 σ4 (fun σ' H' => ∃ m', m' = ds.length - (i + 1) ∧ i + 1 ≤ ds.length ∧ ∃ w Fs env, w.H = H' ∧ ExtS S w0 Fs0 σ0 w Fs σ' ∧ Later w1 w ∧ Sr g w Fs σ' env ∧ SPost g S w0 Fs0 σ0 D' (forL tg body kl (ds.drop (i + 1)) env)) e5 := by
            intro e5 q5 w5 Fs5 σ5 x5 s5
            obtain ⟨Fs6, s6, f6⟩ := s5.killS (kl := kl)
            exact ⟨_, rfl, hl, w5, Fs6, _, rfl, (x4.trans x5).less f6, lt4.trans (x5.later s5), s6, q5⟩
          refine b2 w3 Fs4 σ4 e2 s4 _ ?_
          cases eb : body e2 with
          | nx e5 => rw [eb] at q; exact again q
          | ct e5 => rw [eb] at q; exact again q
          | bk e5 =>
            rw [eb] at q
            intro w5 Fs5 σ5 x5 s5
            obtain ⟨Fs6, s6, f6⟩ := s5.killS (kl := kl)
            exact q w5 Fs6 σ5 ((x4.trans x5).less f6) s6
          | rt d e5 => rw [eb] at q; exact SPost.after (D' := D') (r := .rt d e5) x4 q
          | ex x' p' e5 => rw [eb] at q; exact SPost.after (D' := D') (r := .ex x' p' e5) x4 q
          | bad => rw [eb] at q; exact q
    · have e : i = ds.length := by omega
      subst e
      rw [List.drop_length] at q
      exact .inl ⟨wk2, q w Fs σ x s⟩
theorem psx_while {fu : Nat} (hp : PassesOwn (model g.X.prog g.X.w) g.X.A g.X.env g.X.xe) (hc : PTx g c Tc fc) (hb : PBx g bs S body) : PSx g (.While c bs [] pos) S (sWhile fu fc body kl) := by
  obtain ⟨tc, c1, c2⟩ := hc.ex
  obtain ⟨tb, b1, b2⟩ := hb.ex
  refine ⟨_, ps_while hp c1 b1, fun w0 Fs0 σ0 env0 s0 D' z => ?_⟩
  obtain ⟨Fs1, s1, h1⟩ := s0.killS (kl := kl)
  refine ⟨fun m σ H => LoopAt g S w0 Fs0 σ0 D' (whL fc body kl m) σ H, ⟨fu, w0, Fs1, _, rfl, ExtS.refl.less h1, s1, z⟩, ?_⟩
  rintro m σ H ⟨w, Fs, env, rfl, x, s, q⟩
  cases m with
  | zero => exact q.elim
  | succ m =>
    unfold whL at q
    refine c2 w Fs σ env s _ ?_
    cases ec : fc env with
    | ex x' p' e => rw [ec] at q; exact fun w2 Fs2 dd y s2 py => q w2 Fs2 σ dd (x.trans y.toS) s2 py
    | bad => rw [ec] at q; exact q
    | ok d e1 =>
      rw [ec] at q
      cases d with
      | bl b =>
        intro w2 Fs2 x2 s2
        simp only [ER.toS] at q
        cases b with
        | false =>
          rw [if_neg (by simp)]
          exact q w2 Fs2 σ (x.trans x2.toS) s2
        | true =>
          rw [if_pos rfl] at q ⊢
          have x3 : ExtS S w0 Fs0 σ0 w2 Fs2 σ := x.trans x2.toS
          have again : ∀ {e5 : Env}, SPost g S w0 Fs0 σ0 D' (whL fc body kl m (DL.killS kl e5)) → NPost g S w2 Fs2 σ (fun σ' H' => LoopAt g S w0 Fs0 σ0 D' (whL fc body kl m) σ' H') e5 := by
            intro e5 q5 w5 Fs5 σ5 x5 s5
            obtain ⟨Fs6, s6, f6⟩ := s5.killS (kl := kl)
            exact ⟨w5, Fs6, _, rfl, (x3.trans x5).less f6, s6, q5⟩
          refine ⟨fun σ' H' => LoopAt g S w0 Fs0 σ0 D' (whL fc body kl m) σ' H', fun σ' H' n => ⟨m, Nat.lt_succ_self _, n⟩, b2 w2 Fs2 σ e1 s2 _ ?_⟩
          cases eb : body e1 with
          | nx e5 => rw [eb] at q; exact again q
          | ct e5 => rw [eb] at q; exact again q
          | bk e5 =>
            rw [eb] at q
            intro w5 Fs5 σ5 x5 s5
            obtain ⟨Fs6, s6, f6⟩ := s5.killS (kl := kl)
            exact q w5 Fs6 σ5 ((x3.trans x5).less f6) s6
          | rt d e5 => rw [eb] at q; exact SPost.after (D' := D') (r := .rt d e5) x3 q
          | ex x' p' e5 => rw [eb] at q; exact SPost.after (D' := D') (r := .ex x' p' e5) x3 q
          | bad => rw [eb] at q; exact q
      | _ => exact (show False from q).elim
end
end DL
set_option Elab.async false
set_option linter.all false
set_option maxRecDepth 100000
set_option maxHeartbeats 4000000
namespace DL
open PySem PySem.Spec PyProof.Rows L2

/-! ### one reading for many contexts -/
def tE (g : G) (T : List Nat) (f : Env → ER) : TE := fun σ H Q => ∃ w Fs env, w.H = H ∧ Sr g w Fs σ env ∧ EPost g T w Fs σ Q (f env)
def tTs (g : G) (T : List Nat) (f : Env → ER) : TT := fun σ H Q => ∃ w Fs env, w.H = H ∧ Sr g w Fs σ env ∧ TPost g T w Fs σ Q (f env)
def tG (g : G) (S : List Nat) (f : D → Env → Option Env) : TG := fun v σ H Q => ∃ w Fs env d env', w.H = H ∧ Sr g w Fs σ env ∧ Ro g.c g.X.K w.HP w.H0 d v ∧ f d env = some env' ∧ TgOk g S w Fs σ env' Q
def tI (g : G) (T : List Nat) (f : Env → LR) : TI := fun σ H R => ∃ w Fs env, w.H = H ∧ Sr g w Fs σ env ∧ IPost g T w Fs σ R (f env)
section
variable {g : G} {e tg iter : Expr} {T S : List Nat} {f : Env → ER} {fi : Env → LR} {tgf : D → Env → Option Env} {ifs : List Expr}
theorem PEx.can (h : PEx g e T f) : PE g.X e (tE g T f) := by
  obtain ⟨t, h1, h2⟩ := h.ex
  refine ⟨fun pins s σ H Q I q => ?_⟩
  obtain ⟨w, Fs, env, rfl, sr, q⟩ := q
  exact h1.run pins s σ w.H Q I (h2 w Fs σ env sr Q q)
theorem PGx.can (h : PGx g e S tgf) : PG g.X e (tG g S tgf) := by
  obtain ⟨t, h1, h2⟩ := h.ex
  refine ⟨fun pins s σ H v u Q I r q => ?_⟩
  obtain ⟨w, Fs, env, d, env', rfl, sr, ro, e, q⟩ := q
  exact h1.run pins s σ w.H v u Q I r (h2 w Fs σ env d v sr ro env' e Q q)
theorem PIx.can (h : PIx g tg iter T fi) : PI g.X tg iter (tI g T fi) := by
  obtain ⟨t, h1, h2⟩ := h.ex
  refine ⟨fun pins s σ H R I q => ?_⟩
  obtain ⟨w, Fs, env, rfl, sr, q⟩ := q
  exact h1.run pins s σ w.H R I (h2 w Fs σ env sr R q)
end
structure PTsx (g : G) (ifs : List Expr) (T : List Nat) (f : Env → ER) : Prop where
  fr : Frm T f
  ex : ∃ t, PTs g.X ifs t ∧ ∀ w Fs σ env, Sr g w Fs σ env → ∀ Q, TPost g T w Fs σ Q (f env) → t σ w.H Q
def eYes (env : Env) : ER := .ok (.bl true) env
/-- in a block of its own -/
abbrev gB (g : G) (s : Shared) (H : Hp) (scope : Scope) (cenv : PySem.Env) (fp : List Addr) : G := { g with X := g.X.blk s H scope cenv fp, W := fun _ _ _ _ => False }
abbrev gN (g : G) : G := { g with W := fun _ _ _ _ => False }
section
variable {g : G} {e c tg iter : Expr} {T S : List Nat} {f : Env → ER} {fi : Env → LR} {tgf : D → Env → Option Env} {ifs : List Expr}
theorem ptsx_nil : PTsx g [] [] eYes := ⟨fun env d env' q i _ => by cases q; rfl, _, pts_nil, fun w Fs σ env s Q q => q w Fs (s.ext0 _) s⟩
theorem ptsx_one (h : PTx g c T f) : PTsx g [c] T f := ⟨h.fr, let ⟨t, h1, h2⟩ := h.ex; ⟨t, pts_one h1, h2⟩⟩
theorem PTsx.can (h : PTsx g ifs T f) : PTs g.X ifs (tTs g T f) := by
  obtain ⟨t, h1, h2⟩ := h.ex
  refine ⟨fun pins s σ H Q I q => ?_⟩
  obtain ⟨w, Fs, env, rfl, sr, q⟩ := q
  exact h1.run pins s σ w.H Q I (h2 w Fs σ env sr Q q)
end
/-! ### list comprehensions -/
def lcL (tg : D → Env → Option Env) (ct fe : Env → ER) (vs : List Nat) : List D → List D → Env → ER
  | acc, [], env => .ok (.nd .lst .own acc) env
  | acc, d :: ds, env => match tg d env with
    | some e1 => match ct e1 with
      | .ok t e2 => match t with
        | .bl b => if b = true then match fe e2 with
          | .ok y e3 => lcL tg ct fe vs (acc ++ [y]) ds (killS vs e3)
          | _ => .bad
          else lcL tg ct fe vs acc ds (killS vs e2)
        | _ => .bad
      | _ => .bad
    | none => .bad
def eLc (vs : List Nat) (tg : D → Env → Option Env) (fi : Env → LR) (ct fe : Env → ER) (env : Env) : ER := match fi env with
  | .ok ds e => if ds.length < sizeLine then lcL tg ct fe vs [] ds (killS vs e) else .bad
  | .ex x p e => .ex x p e
  | .bad => .bad
theorem killS_get : ∀ {vs : List Nat} {env : Env} {i : Nat}, i ∉ vs → (killS vs env)[i]? = env[i]?
  | [], env, i, _ => rfl
  | k :: ks, env, i, h => by
    rw [killS, killS_get (fun z => h (List.mem_cons_of_mem _ z)), List.getElem?_set_ne (fun z => h (by simp [z]))]
theorem killS_none : ∀ {vs : List Nat} {env : Env} {i : Nat} {d : D}, i ∈ vs → (killS vs env)[i]? ≠ some (some d)
  | [], env, i, d, h => absurd h (by simp)
  | k :: ks, env, i, d, h => by
    rw [killS]
    by_cases z : i ∈ ks
    · exact killS_none z
    · rw [killS_get z]
      have e : i = k := by
        rcases List.mem_cons.mp h with y | y
        · exact y
        · exact absurd y z
      subst e
      intro q
      rw [List.getElem?_set] at q
      simp at q
section
variable {g : G} {w w' w'' w2 w0 w1 : Wd} {Fs Fs' Fs'' Fs0 Fs1 : Fps} {σ σ' σ'' : St} {env env' : Env} {T T' Ta Tb Tc Te Ti Tt R Ra S S' vs kl : List Nat} {d d0 d2 dv : D} {v v0 vv : V} {F F1 F2 Fv : Addr → Prop} {i j : Nat} {u : Bool} {xs ys ds acc : List D} {us : List V} {e e2 iter a b c t tg elt : Expr} {f fa fb fc fe ct : Env → ER} {fs fi : Env → LR} {p pos tpos : Pos} {es ifs : List Expr} {tgf : D → Env → Option Env} {scope : Scope} {own : List (Str × Nat)}
theorem wipe_get : ∀ {vs : List Nat} {σ : St} {i : Nat}, i ∉ vs → (wipe σ vs)[i]? = σ[i]?
  | [], σ, i, _ => rfl
  | k :: ks, σ, i, h => by
    rw [wipe, List.getElem?_set_ne (fun z => h (by simp [z])), wipe_get (fun z => h (List.mem_cons_of_mem _ z))]
theorem wipe_in : ∀ {vs : List Nat} {σ : St} {i : Nat}, i ∈ vs → (wipe σ vs)[i]? = if i < σ.length then some none else none
  | [], σ, i, h => absurd h (by simp)
  | k :: ks, σ, i, h => by
    rw [wipe, List.getElem?_set, wipe_length]
    by_cases e : k = i
    · subst e
      simp only [if_true]
    · rw [if_neg e]
      rcases List.mem_cons.mp h with y | y
      · exact absurd y.symm e
      · exact wipe_in y
theorem wipe_eq {σ σ' : St} (hl : σ'.length = σ.length) (h : ∀ k, k ∉ vs → σ'[k]? = σ[k]?) : wipe σ' vs = wipe σ vs := by
  refine List.ext_getElem? fun i => ?_
  by_cases z : i ∈ vs
  · rw [wipe_in z, wipe_in z, hl]
  · rw [wipe_get z, wipe_get z, h i z]
theorem wipe_wipe : wipe (wipe σ vs) vs = wipe σ vs := wipe_eq (wipe_length σ vs) fun k hk => wipe_get hk
theorem Sr.congr (s : Sr g w Fs σ env) (hl : σ'.length = σ.length) (hh : ∀ h, g.hd = some h → σ'[h.slot]? = σ[h.slot]?) (h : ∀ (i : Nat) (d : D), env[i]? = some (some d) → σ'[i]? = σ[i]?) : Sr g w Fs σ' env :=
  ⟨s.lp, s.l0, s.len.trans hl.symm, fun i d e => by
    obtain ⟨v, e1, q⟩ := s.slot i d e
    exact ⟨v, (h i d e).trans e1, q⟩, s.non, s.dis, s.hx.σ hh⟩
/-- nothing of the slots is touched by a write elsewhere -/
theorem Sr.wr0 (s : Sr g w Fs σ env) (x : Wr w w2 F) (n : ∀ a, F a → ∀ i, ¬ Fs i a) : Sr g w2 Fs σ env :=
  ⟨x.lp, x.l0, s.len, fun i d e => by
    obtain ⟨v, e1, q⟩ := s.slot i d e
    exact ⟨v, e1, x.ow q fun a ha z => n a z i ha⟩, s.non, s.dis, s.hx.w x.h0⟩
theorem Ext.wr0 (x0 : Ext T w0 Fs0 w Fs) (s : Sr g w Fs σ env) (x : Wr w w2 F) (n : ∀ a, F a → ∀ i, ¬ Fs i a) (f0 : ∀ a, F a → w0.H a = none) : Ext T w0 Fs0 w2 Fs := by
  refine ⟨x0.hp.trans x.hp, x0.h0.trans x.h0, fun a o e na => ?_, fun i hi a z => ?_, x0.same, x0.fs, fun a z => ?_, fun a z => x.dom a (x0.dom a z), fun a z => ?_⟩
  · exact x.l a o (x0.off a o e na) fun z => by rw [f0 a z] at e; cases e
  · obtain ⟨e1, e2⟩ := x0.keep i hi a z
    have z' := (x0.same i hi a).mpr z
    obtain ⟨e3, e4⟩ := x.at_ (s.held z') fun y => n a y i z'
    exact ⟨e3.trans e1, e4⟩
  · rcases x.n a z with y | y
    · exact x0.h0n a y
    · refine .inr (.inr ?_)
      by_cases t : w0.H a = none
      · exact t
      · exact absurd y (x0.dom a t)
  · rcases x.pn a z with y | y
    · exact x0.pn a y
    · refine .inr (.inr ?_)
      by_cases t : w0.H a = none
      · exact t
      · exact absurd y (x0.dom a t)
/-- slots are let go -/
theorem Ext.kill (x : Ext T w Fs w' Fs') (h : ∀ i a, Fs'' i a → Fs' i a) (k : ∀ i, i ∉ T → ∀ a, Fs' i a → Fs'' i a) : Ext T w Fs w' Fs'' :=
  ⟨x.hp, x.h0, x.off, x.keep, fun i hi a => ⟨fun z => (x.same i hi a).mp (h i a z), fun z => k i hi a ((x.same i hi a).mpr z)⟩, fun i a z => x.fs i a (h i a z), x.h0n, x.dom, x.pn⟩
theorem Sr.killS2 : ∀ {kl : List Nat} {Fs : Fps} {env : Env}, Sr g w Fs σ env → ∃ Fs', Sr g w Fs' σ (DL.killS kl env) ∧ (∀ i a, Fs' i a → Fs i a) ∧ ∀ i, i ∉ kl → ∀ a, Fs i a → Fs' i a
  | [], Fs, env, s => ⟨Fs, s, fun _ _ z => z, fun _ _ _ z => z⟩
  | k :: ks, Fs, env, s => by
    obtain ⟨Fs', s', h, h2⟩ := Sr.killS2 (kl := ks) (s.kill k)
    exact ⟨Fs', s', fun i a z => (h i a z).2, fun i hi a z => h2 i (fun y => hi (List.mem_cons_of_mem _ y)) a ⟨fun y => hi (by simp [y]), z⟩⟩
theorem frm_lcL (h1 : ∀ d env env', tgf d env = some env' → ∀ i, i ∉ vs → env'[i]? = env[i]?) (h2 : Frm Tt ct) (h3 : Frm Te fe) : ∀ {ds acc : List D} {env : Env} {d : D} {env' : Env}, lcL tgf ct fe vs acc ds env = .ok d env' → ∀ i, i ∉ vs → i ∉ Tt → i ∉ Te → env'[i]? = env[i]?
  | [], acc, env, d, env', q, i, _, _, _ => by
    unfold lcL at q
    cases q; rfl
  | x :: ds, acc, env, d, env', q, i, k1, k2, k3 => by
    unfold lcL at q
    cases et : tgf x env with
    | none => rw [et] at q; cases q
    | some e1 =>
      rw [et] at q
      dsimp only at q
      have f1 := h1 _ _ _ et i k1
      cases ec : ct e1 with
      | ex _ _ _ => rw [ec] at q; cases q
      | bad => rw [ec] at q; cases q
      | ok t e2 =>
        rw [ec] at q
        dsimp only at q
        have f2 := h2 _ _ _ ec i k2
        cases t with
        | bl b =>
          dsimp only at q
          cases b with
          | true =>
            rw [if_pos rfl] at q
            cases ee : fe e2 with
            | ex _ _ _ => rw [ee] at q; cases q
            | bad => rw [ee] at q; cases q
            | ok y e3 =>
              rw [ee] at q
              have f3 := h3 _ _ _ ee i k3
              rw [frm_lcL h1 h2 h3 q i k1 k2 k3, killS_get k1, f3, f2, f1]
          | false =>
            rw [if_neg (by simp)] at q
            rw [frm_lcL h1 h2 h3 q i k1 k2 k3, killS_get k1, f2, f1]
        | _ => cases q
theorem mem3 {k : Nat} {a b c x : List Nat} (h : k ∈ (a ++ (b ++ c)) ++ x) (hx : ∀ k ∈ x, k ∈ a ++ (b ++ c)) : k ∈ a ++ (b ++ c) := (List.mem_append.mp h).elim id (hx k)
/-- how a comprehension stands -/
structure LcAt (g : G) (T : List Nat) (w1 : Wd) (Fs1 : Fps) (σ : St) (vs : List Nat) (P : Addr) (acc : List D) (env : Env) (w : Wd) (Fs : Fps) (F : Addr → Prop) : Prop where
  x : Ext T w1 Fs1 w Fs
  lt : Later w1 w
  s : Sr g w Fs σ env
  k : ∀ i ∈ vs, ∀ d, env[i]? ≠ some (some d)
  o : Ow g.c g.X.K w.HP w.H0 w.H (.nd .lst .own acc) (.ref P) F
  n : ∀ a, F a → ∀ i, ¬ Fs i a
  f : ∀ a, F a → w1.H a = none ∨ ∃ j ∈ T, Fs1 j a
  p : w1.H P = none
theorem lc_run {ti : TI} (i2 : ∀ w Fs σ env, Sr g w Fs σ env → ∀ R, IPost g Ti w Fs σ R (fi env) → ti σ w.H R) (hvh : ∀ h, g.hd = some h → h.slot ∉ vs)
    (hfr : (∀ d env env', tgf d env = some env' → ∀ i, i ∉ vs → env'[i]? = env[i]?) ∧ Frm Tt ct ∧ Frm Te fe) : ∀ w0 Fs0 σ env0, Sr g w0 Fs0 σ env0 → ∀ Q, EPost g (Ti ++ (vs ++ (Tt ++ Te))) w0 Fs0 σ Q (eLc vs tgf fi ct fe env0) →
    tLc ti (tG (gN g) vs tgf) (tTs (gN g) Tt ct) (tE (gN g) Te fe) vs σ w0.H Q := by
  intro w0 Fs0 σ env0 s0 Q z
  refine i2 w0 Fs0 σ env0 s0 _ ?_
  unfold eLc at z
  cases er : fi env0 with
  | ex x q e => rw [er] at z; exact XPost.weak (T := Ti) (T' := Ti ++ (vs ++ (Tt ++ Te))) z fun i hi => List.mem_append_left _ hi
  | bad => rw [er] at z; exact z
  | ok ds e1 =>
    rw [er] at z
    dsimp only at z
    split at z
    · rename_i hsz
      intro w1 Fs1 J x1 s1 wk P nP
      obtain ⟨Fs2, s2, l2, k2⟩ := s1.killS2 (kl := vs)
      have xk : Ext vs w1 Fs1 w1 Fs2 := ((s1.ext0 vs).kill l2 k2)
      have gr := Grow.put (o := .lst []) s1.lp s1.l0 nP
      obtain ⟨s3, x3⟩ := s2.grow gr
      have oP : Ow g.c g.X.K (w1.put P (.lst [])).HP (w1.put P (.lst [])).H0 (w1.put P (.lst [])).H (.nd .lst .own []) (.ref P) (fun b => b = P ∨ False) := mk_lst (w := w1.put P (.lst [])) upd_same (s1.l0.none nP) (fun z => z) ⟨rfl, fun _ z => z⟩
      have nPs : ∀ {i}, ¬ Fs2 i P := fun {i} y => by
        obtain ⟨⟨u, eu⟩, _⟩ := s2.held y
        rw [nP] at eu; cases eu
      refine ⟨fun i m H => m = ds.length - i ∧ i ≤ ds.length ∧ ∃ acc env w Fs F, w.H = H ∧ LcAt g (vs ++ (Tt ++ Te)) w1 Fs1 σ vs P acc env w Fs F ∧ acc.length ≤ i ∧ EPost g (Ti ++ (vs ++ (Tt ++ Te))) w0 Fs0 σ Q (lcL tgf ct fe vs acc (ds.drop i) env), ⟨ds.length, by simp, Nat.zero_le _, [], _, w1.put P (.lst []), Fs2, _, rfl, ⟨(xk.trans x3).weak fun i hi => by simp at hi; simp [hi], ⟨gr.hp, gr.h0, gr.lp, gr.l0⟩, s3, fun i hi d => killS_none hi, oP, fun a ha i y => ?_, fun a ha => ?_, nP⟩, Nat.le_refl _, z⟩, ?_⟩
      · rcases ha with rfl | ha
        · exact nPs y
        · exact ha
      · rcases ha with rfl | ha
        · exact .inl nP
        · exact ha.elim
      rintro i m H ⟨rfl, hil, acc, env, w, Fs, F, rfl, q, hacc, z⟩
      obtain ⟨wk1, wk2⟩ := wk w q.lt
      by_cases hl : i < ds.length
      · obtain ⟨g1, g2⟩ := wk1 i hl
        refine .inr ⟨g1, fun H' => ∃ m', m' = ds.length - (i + 1) ∧ i + 1 ≤ ds.length ∧ ∃ acc env w Fs F, w.H = H' ∧ LcAt g (vs ++ (Tt ++ Te)) w1 Fs1 σ vs P acc env w Fs F ∧ acc.length ≤ i + 1 ∧ EPost g (Ti ++ (vs ++ (Tt ++ Te))) w0 Fs0 σ Q (lcL tgf ct fe vs acc (ds.drop (i + 1)) env), fun H' n => ?_, fun y H' hy => ?_⟩
        · obtain ⟨m', rfl, n⟩ := n
          exact ⟨_, by omega, rfl, n⟩
        · obtain ⟨w3, d, rfl, gr3, ed, ro⟩ := g2 y H' hy
          have e1 : ds.drop i = d :: ds.drop (i + 1) := by
            obtain ⟨_, e⟩ := List.getElem?_eq_some_iff.mp ed
            rw [← e]
            exact List.drop_eq_getElem_cons hl
          rw [e1] at z
          unfold lcL at z
          obtain ⟨s4, x4⟩ := q.s.grow gr3
          have s4w : Sr g w3 Fs (wipe σ vs) env := s4.congr (wipe_length σ vs) (fun h e => wipe_get (hvh h e)) fun k d' ek => wipe_get fun hk => q.k k hk d' ek
          cases et : tgf d env with
          | none => rw [et] at z; exact z.elim
          | some e2 =>
            rw [et] at z
            dsimp only at z
            refine ⟨w3, Fs, env, d, e2, rfl, s4w, ro, et, fun Fs5 σ5 s5 f5 m5 l5 k5 => ?_⟩
            have ew : wipe σ5 vs = wipe σ vs := (wipe_eq l5 k5).trans wipe_wipe
            refine ⟨ew, ?_⟩
            have toσ : ∀ {w : Wd} {Fs : Fps} {e : Env}, Sr g w Fs σ5 e → ∃ Fs', Sr g w Fs' σ (DL.killS vs e) ∧ (∀ i a, Fs' i a → Fs i a) ∧ ∀ i, i ∉ vs → ∀ a, Fs i a → Fs' i a := fun {w Fs e} s => by
              obtain ⟨Fs', s', h1, h2⟩ := s.killS2 (kl := vs)
              refine ⟨Fs', Sr.congr s' (by rw [l5, wipe_length]) (fun h e => by rw [k5 _ (hvh h e), wipe_get (hvh h e)]) fun k d' ek => ?_, h1, h2⟩
              · have hk : k ∉ vs := fun hk => killS_none hk ek
                rw [k5 k hk, wipe_get hk]
            -- the frame of slots behind the target
            have fr5 : ∀ i, i ∉ vs → ∀ a, Fs i a → Fs5 i a := m5
            have x5 : Ext (vs ++ (Tt ++ Te)) w1 Fs1 w3 Fs5 := ((q.x.trans x4).weak (T' := vs ++ (Tt ++ Te)) fun k hk => by simpa using hk).kill f5 fun k hk a ha => fr5 k (fun y => hk (List.mem_append_left _ y)) a ha
            obtain ⟨o4, n4⟩ := x4.tmp q.o q.n
            have n5 : ∀ a, F a → ∀ k, ¬ Fs5 k a := fun a ha k y => q.n a ha k (f5 k a y)
            have lt5 : Later w1 w3 := q.lt.trans ⟨gr3.hp, gr3.h0, gr3.lp, gr3.l0⟩
            refine ⟨w3, Fs5, e2, rfl, s5, ?_⟩
            cases ec : ct e2 with
            | ex _ _ _ => rw [ec] at z; exact z.elim
            | bad => rw [ec] at z; exact z.elim
            | ok t e3 =>
              rw [ec] at z
              dsimp only at z
              cases t with
              | bl b =>
                dsimp only at z
                intro w6 Fs6 x6 s6
                obtain ⟨o6, n6⟩ := x6.tmp (g := g) o4 n5
                have x06 : Ext (vs ++ (Tt ++ Te)) w1 Fs1 w6 Fs6 := (x5.trans x6).weak fun k hk => mem3 hk fun k hk => by simp [hk]
                have lt6 : Later w1 w6 := lt5.trans ⟨x6.hp, x6.h0, s6.lp, s6.l0⟩
                cases b with
                | false =>
                  rw [if_neg (by simp)] at z ⊢
                  obtain ⟨Fs7, s7, h7, k7⟩ := toσ s6
                  exact ⟨_, rfl, hl, acc, _, w6, Fs7, F, rfl, ⟨x06.kill h7 fun k hk a ha => k7 k (fun y => hk (List.mem_append_left _ y)) a ha, lt6, s7, fun k hk d' => killS_none hk, o6, fun a ha k y => n6 a ha k (h7 k a y), q.f, q.p⟩, by omega, z⟩
                | true =>
                  rw [if_pos rfl] at z ⊢
                  refine ⟨w6, Fs6, e3, rfl, s6, ?_⟩
                  cases ee : fe e3 with
                  | ex _ _ _ => rw [ee] at z; exact z.elim
                  | bad => rw [ee] at z; exact z.elim
                  | ok y' e4 =>
                    rw [ee] at z
                    dsimp only at z
                    intro w7 Fs7 vy Fy x7 s7 oy ny py
                    obtain ⟨o7, n7⟩ := x7.tmp (g := g) o6 n6
                    obtain ⟨P', vacc, F', eP, hH, h0, nP', ol, hF⟩ := own_lst o7
                    cases eP
                    have hFP : F P := (hF P).mpr (.inl rfl)
                    have djF : ∀ a, F a → ¬ Fy a := fun a ha hb => by
                      obtain ⟨⟨u, eu⟩, _⟩ := o6.held _ a ha
                      rcases py a hb with t | ⟨j, _, t⟩
                      · rw [eu] at t; cases t
                      · exact n6 a ha j t
                    have xw := Wr.upd s7.lp s7.l0 (.lst (vacc ++ [vy])) h0
                    have nPs7 : ∀ k, ¬ Fs7 k P := n7 P hFP
                    have nF' : ∀ b, F' b → ¬ b = P := fun b hb z => nP' (z ▸ hb)
                    have nFy : ∀ b, Fy b → ¬ b = P := fun b hb z => djF P hFP (z ▸ hb)
                    have ol2 := OwL.append (xw.owL ol nF') (OwL.one (xw.ow oy nFy)) fun b hb hy => djF b ((hF b).mpr (.inr hb)) hy
                    have o8 := mk_lst (g := g) (w := ⟨w7.HP, w7.H0, upd w7.H P (.lst (vacc ++ [vy]))⟩) upd_same h0 (fun z => z.elim nP' fun y => djF P hFP y) ol2
                    have s8 := s7.wr0 xw (fun a ha k y => nPs7 k (ha ▸ y))
                    have x07 : Ext (vs ++ (Tt ++ Te)) w1 Fs1 w7 Fs7 := (x06.trans x7).weak fun k hk => mem3 hk fun k hk => by simp [hk]
                    have x08 := x07.wr0 s7 xw (fun a ha k y => nPs7 k (ha ▸ y)) fun a ha => ha ▸ q.p
                    obtain ⟨Fs9, s9, h9, k9⟩ := toσ s8
                    refine ⟨vacc, hH, by rw [ol.len]; omega, _, rfl, hl, acc ++ [y'], _, _, Fs9, _, rfl, ⟨x08.kill h9 fun k hk a ha => k9 k (fun y => hk (List.mem_append_left _ y)) a ha, lt6.trans ⟨x7.hp.trans xw.hp, x7.h0.trans xw.h0, xw.lp, xw.l0⟩, s9, fun k hk d' => killS_none hk, o8, fun a ha k y => ?_, fun a ha => ?_, q.p⟩, by rw [List.length_append, List.length_singleton]; omega, z⟩
                    · have y' := h9 k a y
                      rcases ha with rfl | ha | ha
                      · exact nPs7 k y'
                      · exact n7 a ((hF a).mpr (.inr ha)) k y'
                      · exact ny a ha k y'
                    · rcases ha with rfl | ha | ha
                      · exact .inl q.p
                      · exact q.f a ((hF a).mpr (.inr ha))
                      · rcases py a ha with t | ⟨j, hj, t⟩
                        · refine .inl ?_
                          by_cases y : w1.H a = none
                          · exact y
                          · exact absurd t (x06.dom a y)
                        · rcases x06.fs j a t with y | y | ⟨k, hk, y⟩
                          · exact .inr ⟨j, by simp [hj], y⟩
                          · exact .inl y
                          · exact .inr ⟨k, hk, y⟩
              | _ => exact z.elim
      · have e : i = ds.length := by omega
        subst e
        rw [List.drop_length] at z
        unfold lcL at z
        refine .inl ⟨wk2, z w Fs (.ref P) F (x1.trans q.x) q.s q.o q.n fun a ha => ?_⟩
        rcases q.f a ha with t | ⟨j, hj, t⟩
        · refine .inl ?_
          by_cases y : w0.H a = none
          · exact y
          · exact absurd t (x1.dom a y)
        · rcases x1.fs j a t with y | y | ⟨k, hk, y⟩
          · exact .inr ⟨j, List.mem_append_right _ hj, y⟩
          · exact .inl y
          · exact .inr ⟨k, List.mem_append_left _ hk, y⟩
    · exact z.elim
theorem pex_lc (hc : g.X.calm = true) (hN : g.X.N.Nodup) (hi : PIx g tg iter Ti fi) (ok : BlkOk g.X.N g.X.env.scope scope own)
    (hg : ∀ (s : Shared) (H : Hp) (C : Addr) (cl : List (Str × Addr)) (fp : List Addr), PGx (gB g s H scope (compEnvC scope cl C g.X.env) fp) tg (own.map (·.2)) tgf)
    (ht : ∀ (s : Shared) (H : Hp) (C : Addr) (cl : List (Str × Addr)) (fp : List Addr), PTsx (gB g s H scope (compEnvC scope cl C g.X.env) fp) ifs Tt ct)
    (he : ∀ (s : Shared) (H : Hp) (C : Addr) (cl : List (Str × Addr)) (fp : List Addr), PEx (gB g s H scope (compEnvC scope cl C g.X.env) fp) elt Te fe)
    (hvh : ∀ h, g.hd = some h → h.slot ∉ own.map (·.2)) (hfr : (∀ d env env', tgf d env = some env' → ∀ i, i ∉ own.map (·.2) → env'[i]? = env[i]?) ∧ Frm Tt ct ∧ Frm Te fe)
    (hs : ∀ x, foldedSetIterable iter g.X.env x = pure x := by intro _; rfl) :
    PEx g (.ListComp elt [⟨tg, iter, ifs, 0⟩] scope pos) (Ti ++ (own.map (·.2) ++ (Tt ++ Te))) (eLc (own.map (·.2)) tgf fi ct fe) := by
  obtain ⟨ti, i1, i2⟩ := hi.ex
  generalize hvs : own.map (·.2) = vs at *
  refine ⟨fun env d env' q i k => ?_, _, pe_lc (te := tE (gN g) Te fe) (tt := tTs (gN g) Tt ct) (g := tG (gN g) vs tgf) hc hN i1 ok (fun s H C cl fp => (hg s H C cl fp).can) (fun s H C cl fp => (ht s H C cl fp).can) (fun s H C cl fp => (he s H C cl fp).can) hs, fun w0 Fs0 σ env0 s0 Q z => ?_⟩
  · have k1 : i ∉ Ti := fun y => k (by simp [y])
    have k2 : i ∉ vs := fun y => k (by simp [y])
    have k3 : i ∉ Tt := fun y => k (by simp [y])
    have k4 : i ∉ Te := fun y => k (by simp [y])
    unfold eLc at q
    cases er : fi env with
    | ex _ _ _ => rw [er] at q; cases q
    | bad => rw [er] at q; cases q
    | ok ds e1 =>
      rw [er] at q
      dsimp only at q
      split at q
      · rw [frm_lcL hfr.1 hfr.2.1 hfr.2.2 q i k2 k3 k4, killS_get k2]
        exact hi.fr _ _ _ er i k1
      · cases q
  · rw [hvs]
    exact lc_run i2 hvh hfr w0 Fs0 σ env0 s0 Q z
theorem pex_lc2 (hc : g.X.calm = true) (hN : g.X.N.Nodup) (hi : PIx g tg iter Ti fi) (ok : BlkOk g.X.N g.X.env.scope scope own)
    (hg : ∀ (s : Shared) (H : Hp) (C : Addr) (cl : List (Str × Addr)) (fp : List Addr), PGx (gB g s H scope (compEnvC scope cl C g.X.env) fp) tg (own.map (·.2)) tgf)
    (ht : ∀ (s : Shared) (H : Hp) (C : Addr) (cl : List (Str × Addr)) (fp : List Addr), PTsx (gB g s H scope (compEnvC scope cl C g.X.env) fp) ifs Tt ct)
    (he : ∀ (s : Shared) (H : Hp) (C : Addr) (cl : List (Str × Addr)) (fp : List Addr), PEx (gB g s H scope (compEnvC scope cl C g.X.env) fp) elt Te fe)
    (hvh : ∀ h, g.hd = some h → h.slot ∉ own.map (·.2)) (hs : ∀ x, foldedSetIterable iter g.X.env x = pure x := by intro _; rfl) :
    PEx g (.ListComp elt [⟨tg, iter, ifs, 0⟩] scope pos) (Ti ++ (own.map (·.2) ++ (Tt ++ Te))) (eLc (own.map (·.2)) tgf fi ct fe) :=
  pex_lc hc hN hi ok hg ht he hvh ⟨(hg g.X.s_0 g.X.H_0 0 [] []).fr, (ht g.X.s_0 g.X.H_0 0 [] []).fr, (he g.X.s_0 g.X.H_0 0 [] []).fr⟩ hs
/-- name = [..] on one line -/
theorem psx_setLc {y : Str} {k : Nat} {spos py : Pos} (hc : g.X.calm = true) (hN : g.X.N.Nodup) (hy : g.X.N[k]? = some y) (hyl : g.X.env.scope.names.lookup y = some .local) (hi : PIx g tg iter Ti fi) (ok : BlkOk g.X.N g.X.env.scope scope own)
    (hg : ∀ (s : Shared) (H : Hp) (C : Addr) (cl : List (Str × Addr)) (fp : List Addr), PGx (gB g s H scope (compEnvC scope cl C g.X.env) fp) tg (own.map (·.2)) tgf)
    (ht : ∀ (s : Shared) (H : Hp) (C : Addr) (cl : List (Str × Addr)) (fp : List Addr), PTsx (gB g s H scope (compEnvC scope cl C g.X.env) fp) ifs Tt ct)
    (he : ∀ (s : Shared) (H : Hp) (C : Addr) (cl : List (Str × Addr)) (fp : List Addr), PEx (gB g s H scope (compEnvC scope cl C g.X.env) fp) elt Te fe)
    (hvh : ∀ h, g.hd = some h → h.slot ∉ own.map (·.2)) (hS : k ∈ S) (hh : ∀ h, g.hd = some h → h.slot ≠ k) (hsw : swapsWith (.ListComp elt [⟨tg, iter, ifs, 0⟩] scope pos) (some (.Name y py)) spos.line g.X.env = pure true := by rfl) (hs : ∀ x, foldedSetIterable iter g.X.env x = pure x := by intro _; rfl) :
    PSx g (.Assign [.Name y py] (.ListComp elt [⟨tg, iter, ifs, 0⟩] scope pos) spos) S (sSet k (eLc (own.map (·.2)) tgf fi ct fe)) := by
  obtain ⟨ti, i1, i2⟩ := hi.ex
  refine ⟨_, ps_setLc (te := tE (gN g) Te fe) (tt := tTs (gN g) Tt ct) (g := tG (gN g) (own.map (fun x : Str × Nat => x.2)) tgf) hc hN hy hyl hsw i1 ok (fun s H C cl fp => (hg s H C cl fp).can) (fun s H C cl fp => (ht s H C cl fp).can) (fun s H C cl fp => (he s H C cl fp).can) hs, fun w Fs σ env s D' z => ?_⟩
  refine lc_run i2 hvh ⟨(hg g.X.s_0 g.X.H_0 0 [] []).fr, (ht g.X.s_0 g.X.H_0 0 [] []).fr, (he g.X.s_0 g.X.H_0 0 [] []).fr⟩ w Fs σ env s _ (EPost.ofS z fun d e1 w1 Fs1 v F x1 s1 o n p q => ?_)
  exact q w1 _ _ (ExtS.store x1 hS (fun a ha => (p a ha).imp id fun ⟨j, _, y⟩ => ⟨j, y⟩) _) (s1.store k hh o n)
end
end DL
set_option Elab.async false
set_option linter.all false
set_option maxRecDepth 100000
set_option maxHeartbeats 4000000
namespace DL
open PySem PySem.Spec PyProof.Rows L2

/-! ### what a def promises -/
structure FrmW (w : Wd) (Fs : Fps) (w' : Wd) : Prop where
  hp : Le w.HP w'.HP
  h0 : Le w.H0 w'.H0
  off : ∀ a o, w.H a = some o → (∀ i, ¬ Fs i a) → w'.H a = some o
  h0n : ∀ a, w'.H0 a ≠ none → w.H0 a ≠ none ∨ (∃ i, Fs i a) ∨ w.H a = none
  dom : ∀ a, w.H a ≠ none → w'.H a ≠ none
  pn : ∀ a, w'.HP a ≠ none → w.HP a ≠ none ∨ (∃ i, Fs i a) ∨ w.H a = none
  lp : Le w'.HP w'.H0
  l0 : Le w'.H0 w'.H
/-- a result, what the parameters bk hold behind it -/
inductive FR where
  | ok (d : D) (bs : List D)
  | ex (x : Nat) (p : Option D) (bs : List D)
  | bad
structure Backs (c : Cs) (K : PySem.W.Frag) (w' : Wd) (vs : List V) (bk : List Nat) (bs : List D) (Gs : Fps) : Prop where
  ln : bs.length = bk.length
  at_ : ∀ (j k : Nat) (b : D), bk[j]? = some k → bs[j]? = some b → ∃ u, vs[k]? = some u ∧ Ow c K w'.HP w'.H0 w'.H b u (Gs j)
  dis : ∀ i j a, Gs i a → Gs j a → i = j
def FPost (c : Cs) (K : PySem.W.Frag) (xc : Nat → Addr) (xf : Nat → Str) (w : Wd) (Fs : Fps) (vs : List V) (bk : List Nat) (Q : VK) (E : XK) : FR → Prop
  | .ok d bs => ∀ w' v F Gs, FrmW w Fs w' → Ow c K w'.HP w'.H0 w'.H d v F → Backs c K w' vs bk bs Gs → (∀ j a, F a → ¬ Gs j a) → (∀ a, (F a ∨ ∃ j, Gs j a) → w.H a = none ∨ ∃ j, Fs j a) → Q v w'.H
  | .ex x p bs => ∀ w' dd Gs, FrmW w Fs w' → PayF xf w'.H x p dd → Backs c K w' vs bk bs Gs → (∀ a, (∃ j, Gs j a) → w.H a = none ∨ ∃ j, Fs j a) → E (.ref (xc x)) dd w'.H
  | .bad => False
def spG (c : Cs) (K : PySem.W.Frag) (xc : Nat → Addr) (xf : Nat → Str) (n : Nat) (bk : List Nat) (m : List D → FR) : Sp := fun vs H Q E => ∃ w Fs ds, w.H = H ∧ vs.length = n ∧ SrC c K none w Fs (vs.map some) (ds.map some) ∧ FPost c K xc xf w Fs vs bk Q E (m ds)
def startE (n : Nat) (ds : List D) : Env := ds.map some ++ List.replicate (n - ds.length) none
def backs : List Nat → Env → Option (List D)
  | [], _ => some []
  | k :: ks, e => match e[k]? with
    | some (some d) => match backs ks e with
      | some r => some (d :: r)
      | none => none
    | _ => none
def FR.of (bk : List Nat) : SR → FR
  | .rt d e => match backs bk e with
    | some bs => .ok d bs
    | none => .bad
  | .nx e => match backs bk e with
    | some bs => .ok .non bs
    | none => .bad
  | .ex x p e => match backs bk e with
    | some bs => .ex x p bs
    | none => .bad
  | _ => .bad
theorem backs_get : ∀ {bk : List Nat} {e : Env} {bs : List D}, backs bk e = some bs → bs.length = bk.length ∧ ∀ (j k : Nat) (b : D), bk[j]? = some k → bs[j]? = some b → e[k]? = some (some b)
  | [], e, bs, h => by
    cases h
    exact ⟨rfl, fun j k b h => by simp at h⟩
  | k :: ks, e, bs, h => by
    unfold backs at h
    split at h
    · rename_i d hd
      split at h
      · rename_i r hr
        cases h
        obtain ⟨h1, h2⟩ := backs_get hr
        refine ⟨by rw [List.length_cons, List.length_cons, h1], fun j k' b e1 e2 => ?_⟩
        cases j with
        | zero => simp at e1 e2; subst e1 e2; exact hd
        | succ j => exact h2 j k' b (by simpa using e1) (by simpa using e2)
      · cases h
    · cases h
/-- the context of a body -/
abbrev bodyG (c : Cs) (xc : Nat → Addr) (xf : Nat → Str) (P : Program) (w : World) (K : PySem.W.Frag) (mg : Str → Option Value) (base : Heap) (N : List Str) (qual : Str) (scope : Scope) (f : Addr) (cd : Value) (A : Around) (outer : List PySem.Env) (s : Shared) (H : Hp) (E : XK) : G :=
  ⟨cxOf (L2.CX P w) P w K mg base N qual scope f cd A outer s H E, c, xc, xf, fun cls d _ H => E cls d H, none⟩
section
variable {c : Cs} {xc : Nat → Addr} {xf : Nat → Str} {P : Program} {w : World} {K : PySem.W.Frag} {mg : Str → Option Value} {base : Heap} {N ps : List Str} {qual x : Str} {scope : Scope} {f : Addr} {cd : Value} {A : Around} {outer : List PySem.Env} {s : Shared} {H : Hp} {E : XK} {body : List Stmt} {S bk : List Nat} {bf : Env → SR} {params : Arguments} {dvs : List V} {kws : List (Str × V)} {fd : FuncData} {k n : Nat} {W : Wd} {Fs : Fps} {ds : List D} {vs : List V} {Q : VK}
theorem bodyG_takes : Takes (bodyG c xc xf P w K mg base N qual scope f cd A outer s H E).X (bodyG c xc xf P w K mg base N qual scope f cd A outer s H E).W := takes_of rfl rfl rfl rfl
theorem bodyG_passes : PassesOwn (model P w) (bodyG c xc xf P w K mg base N qual scope f cd A outer s H E).X.A (bodyG c xc xf P w K mg base N qual scope f cd A outer s H E).X.env (bodyG c xc xf P w K mg base N qual scope f cd A outer s H E).X.xe := passes_of (X := (bodyG c xc xf P w K mg base N qual scope f cd A outer s H E).X) rfl
theorem start_sr (s : SrC c K none W Fs (vs.map some) (ds.map some)) (hl : vs.length ≤ N.length) : SrC c K none W Fs (start N vs) (startE N.length ds) := by
  have hd : ds.length = vs.length := by have := s.len; simpa using this
  refine ⟨s.lp, s.l0, by simp [L2.start, startE, hd], fun i d e => ?_, fun i n a z => ?_, s.dis, .none⟩
  · have e' : (ds.map some)[i]? = some (some d) := by
      unfold startE at e
      by_cases hi : i < ds.length
      · rw [List.getElem?_append_left (by simpa using hi)] at e; exact e
      · rw [List.getElem?_append_right (by simpa using hi), List.getElem?_replicate] at e
        split at e <;> cases e
    obtain ⟨v, e1, q⟩ := s.slot i d e'
    refine ⟨v, ?_, q⟩
    have hi : i < (vs.map some).length := (List.getElem?_eq_some_iff.mp e1).1
    unfold L2.start
    rw [List.getElem?_append_left hi]; exact e1
  · refine s.non i (fun d e => n d ?_) a z
    have hi : i < (ds.map some).length := (List.getElem?_eq_some_iff.mp e).1
    unfold startE
    rw [List.getElem?_append_left hi]; exact e
theorem ExtS.frm {g : G} {W' : Wd} {Fs' : Fps} {σ σ' : St} {env : Env} (x : ExtS S W Fs σ W' Fs' σ') (s : Sr g W' Fs' σ' env) : FrmW W Fs W' := ⟨x.hp, x.h0, x.off, x.h0n, x.dom, x.pn, s.lp, s.l0⟩
theorem body_post {g : G} (hc : g.c = c) (hK : g.X.K = K) (hxc : g.xc = xc) (hxf : g.xf = xf) (hW : ∀ cls d σ H, E cls d H → g.W cls d σ H) (hS : ∀ k ∈ bk, k ∉ S) (hn : bk.Nodup) {σ : St} (hσ : ∀ k ∈ bk, ∃ u, vs[k]? = some u ∧ σ[k]? = some (some u)) {r : SR}
    (h : FPost c K xc xf W Fs vs bk Q E (FR.of bk r)) : SPost g S W Fs σ { nx := fun _ H' => Q .non H', rt := Q } r := by
  subst hc hK hxc hxf
  have bks : ∀ {e : Env} {bs : List D} {W' Fs' σ'}, backs bk e = some bs → ExtS S W Fs σ W' Fs' σ' → Sr g W' Fs' σ' e → Backs g.c g.X.K W' vs bk bs (fun j a => ∃ k, bk[j]? = some k ∧ Fs' k a) := by
    intro e bs W' Fs' σ' hb x s
    obtain ⟨h1, h2⟩ := backs_get hb
    refine ⟨h1, fun j k b e1 e2 => ?_, fun i j a ⟨k, e1, z1⟩ ⟨k', e2, z2⟩ => ?_⟩
    · have km : k ∈ bk := List.mem_of_getElem? e1
      obtain ⟨v, e3, o⟩ := s.slot k b (h2 j k b e1 e2)
      obtain ⟨u, e4, e5⟩ := hσ k km
      rw [x.st k (hS k km), e5] at e3
      cases e3
      refine ⟨v, e4, ?_⟩
      have : (fun a => ∃ k, bk[j]? = some k ∧ Fs' k a) = Fs' k := funext fun a => propext ⟨fun ⟨k', e, z⟩ => by rw [e1] at e; cases e; exact z, fun z => ⟨k, e1, z⟩⟩
      show Ow _ _ _ _ _ _ _ (fun a => ∃ k, bk[j]? = some k ∧ Fs' k a)
      rw [this]; exact o
    · have := s.dis k k' a z1 z2
      subst this
      obtain ⟨l1, q1⟩ := List.getElem?_eq_some_iff.mp e1
      obtain ⟨l2, q2⟩ := List.getElem?_eq_some_iff.mp e2
      exact (List.getElem_inj hn).mp (q1.trans q2.symm)
  cases r with
  | bad => exact h
  | bk e => exact (show False from h).elim
  | ct e => exact (show False from h).elim
  | nx e =>
    replace h : FPost g.c g.X.K g.xc g.xf W Fs vs bk Q E (match backs bk e with | some bs => .ok .non bs | none => .bad) := h
    cases hb : backs bk e with
    | none => rw [hb] at h; exact h.elim
    | some bs =>
      rw [hb] at h
      exact fun W' Fs' σ' x s => h W' .non (fun _ => False) _ (x.frm s) ⟨rfl, fun _ z => z⟩ (bks hb x s) (fun _ _ z => z.elim) fun a z => z.elim (fun y => y.elim) fun ⟨j, k, _, y⟩ => (x.fs k a y).symm
  | rt d e =>
    replace h : FPost g.c g.X.K g.xc g.xf W Fs vs bk Q E (match backs bk e with | some bs => .ok d bs | none => .bad) := h
    cases hb : backs bk e with
    | none => rw [hb] at h; exact h.elim
    | some bs =>
      rw [hb] at h
      exact fun W' Fs' σ' v F x s o n p => h W' v F _ (x.frm s) o (bks hb x s) (fun j a ha ⟨k, _, y⟩ => n a ha k y) fun a z => z.elim (p a) fun ⟨j, k, _, y⟩ => (x.fs k a y).symm
  | ex x' p e =>
    replace h : FPost g.c g.X.K g.xc g.xf W Fs vs bk Q E (match backs bk e with | some bs => .ex x' p bs | none => .bad) := h
    cases hb : backs bk e with
    | none => rw [hb] at h; exact h.elim
    | some bs =>
      rw [hb] at h
      exact fun W' Fs' σ' dd x s py => hW _ _ _ _ (h W' dd _ (x.frm s) py (bks hb x s) fun a ⟨j, k, _, y⟩ => (x.fs k a y).symm)
/-- THE RULE for a def -/
theorem fnD_ok (F : FunD K x qual params body scope dvs kws f fd) (Sc : FnScope N ps scope) (hps : ps.length = n) (hbk : ∀ k ∈ bk, k ∉ S ∧ k < n) (hnd : bk.Nodup)
    (hb : ∀ (cd : Value) (A : Around) (outer : List PySem.Env) (s : Shared) (H : Hp) (E : XK), Room k (A.deeper (envOfC qual scope s.heap.objs.size f cd)) → PBx (bodyG c xc xf P w K mg base N qual scope f cd A outer s H E) body S bf) :
    FnOk P w K mg base (L2.CX P w) (k + 1) f fd ps (spG c K xc xf n bk fun ds => FR.of bk (bf (startE N.length ds))) := by
  refine F.ok Sc (fun vs H Q E h => ?_) fun cd A outer s H vs Q E hr h => ?_
  · obtain ⟨_, _, _, _, h, _⟩ := h
    rw [h, hps]
  · obtain ⟨W, Fs, ds, rfl, hl, sr, h⟩ := h
    obtain ⟨t, t1, t2⟩ := (hb cd A outer s W.H E hr).ex
    have hN : vs.length ≤ N.length := by
      have := congrArg List.length Sc.pre
      rw [List.length_take, hps] at this
      omega
    refine ⟨t, t1, t2 W Fs (start N vs) (startE N.length ds) (start_sr sr hN) _ ?_⟩
    refine body_post (g := bodyG c xc xf P w K mg base N qual scope f cd A outer s W.H E) rfl rfl rfl rfl (fun _ _ _ _ z => z) (fun k hk => (hbk k hk).1) hnd (fun k hk => ?_) h
    have hk' : k < vs.length := by rw [hl]; exact (hbk k hk).2
    refine ⟨vs[k], List.getElem?_eq_getElem hk', ?_⟩
    unfold L2.start
    rw [List.getElem?_append_left (by simpa using hk'), List.getElem?_map, List.getElem?_eq_getElem hk']
    rfl
end
end DL
set_option Elab.async false
set_option linter.all false
set_option maxRecDepth 100000
set_option maxHeartbeats 4000000
namespace DL
open PySem PySem.Spec PyProof.Rows L2

/-! ### o.m(..), C(..): what is raised is wished for at the caller's slots -/
section
variable {X : Cx} {CX : CXT} {k : Nat} {f C : Addr} {fd : FuncData} {ps : List Str} {sp : Sp} {dvs : List V} {ds : List Value} {E : St → XK} {x m : Str} {p pos apos : Pos} {e o : Expr} {es : List Expr} {ta : TE} {t : TA}
def tMethSD (C : Addr) (m : Str) (sp : Sp) (dvs : List V) (E : St → XK) (ta : TE) (t : TA) : TE := fun σ H Q => ta σ H fun x H1 => ∃ a dx fs, x = .ref a ∧ H1 a = some (.ins C dx fs) ∧ fs.lookup m = none ∧ t σ H1 fun vs H2 => sp (.ref a :: (vs ++ dvs)) H2 Q (E σ)
theorem pe_methSD {pl : Sem Bool} (he : PE X o ta) (c : Cls X.K C) (hm : Meth X.K C m f) (F : FnOk X.prog X.w X.K X.mg X.base CX k f fd ps sp) (hr : Room k X.A) (hb : Binds X.K fd ps ds) (hd : Vals dvs ds) (hx : ∀ σ, PassesAt CX X σ (E σ)) (ha : PA X (e :: es) t)
    (hst : starEach (e :: es) X.env = (false, eval e X.env) :: starEach es X.env := by rfl) (hpl : (backTo pos (starEach es X.env)).any (·.1) = false := by rfl)
    (ht : eval (.Call (.Attribute o m apos) (e :: es) [] pos) X.env = (do
      let ov ← eval o X.env
      standAt apos.atName
      let (f, first) ← holding [ov] (getMethod ov m pl)
      callWith pos f first (backTo pos (starEach (e :: es) X.env)) (backToKw pos (keywordEach [] X.env))) := by rfl) :
    PE X (.Call (.Attribute o m apos) (e :: es) [] pos) (tMethSD C m sp dvs E ta t) := by
  refine ⟨fun pins s σ H Q I h => ?_⟩
  refine PySem.W.methodCall_KW (pl := pl) (thn (he.run pins s σ H _ I h) fun u s1 ⟨x, H1, I1, rx, a, dx, fs, ex, ea, l, q⟩ => ?_) ht
  subst ex
  obtain rfl : u = Value.ref a := rx
  refine getmeth_ok I1 ea c hm l ?_
  refine PySem.W.callWith_K (first := [.ref a]) (h₀ := X.base) I.ok.mod.kin hm.kp (thn (ha.run pos pins s1 σ H1 _ I1 q) fun us s2 ⟨vs, H2, I2, r, q2⟩ => ⟨I2.kIn, ?_⟩) hst hpl
  exact run_fnSD (us := .ref a :: us) (vs := .ref a :: vs) F hr hb hd (hx σ) I2 (.cons rfl r) q2
theorem pe_methSD0 {pl : Sem Bool} (he : PE X o ta) (c : Cls X.K C) (hm : Meth X.K C m f) (F : FnOk X.prog X.w X.K X.mg X.base CX k f fd ps sp) (hr : Room k X.A) (hb : Binds X.K fd ps ds) (hd : Vals dvs ds) (hx : ∀ σ, PassesAt CX X σ (E σ))
    (ht : eval (.Call (.Attribute o m apos) [] [] pos) X.env = (do
      let ov ← eval o X.env
      standAt apos.atName
      let (f, first) ← holding [ov] (getMethod ov m pl)
      callWith pos f first (backTo pos (starEach [] X.env)) (backToKw pos (keywordEach [] X.env))) := by rfl) :
    PE X (.Call (.Attribute o m apos) [] [] pos) (tMethSD C m sp dvs E ta tNil) := by
  refine ⟨fun pins s σ H Q I h => ?_⟩
  refine PySem.W.methodCall_KW (pl := pl) (thn (he.run pins s σ H _ I h) fun u s1 ⟨x, H1, I1, rx, a, dx, fs, ex, ea, l, q⟩ => ?_) ht
  subst ex
  obtain rfl : u = Value.ref a := rx
  refine getmeth_ok I1 ea c hm l ?_
  exact PySem.W.callWith_K0 (first := [.ref a]) I1.kIn hm.kp (run_fnSD (us := [.ref a]) (vs := [.ref a]) F hr hb hd (hx σ) I1 (.cons rfl .nil) q)
theorem pe_callSD0 (F : FnOk X.prog X.w X.K X.mg X.base CX k f fd ps sp) (hr : Room k X.A) (hg : Gl X x) (hm : X.mg x = some (.ref f)) (hk : PySem.W.keepIn X.K (.ref f) = true) (hb : Binds X.K fd ps ds) (hd : Vals dvs ds) (hx : ∀ σ, PassesAt CX X σ (E σ))
    (hdb : (x == ("__debug__" : Str)) = false := by decide) : PE X (.Call (.Name x p) [] [] pos) (tCallSD sp dvs E tNil) := by
  refine ⟨fun pins s σ H Q I h => ?_⟩
  refine wpAny_Call_Name_kw (ld_glob I hg hm ?_ hdb)
  exact PySem.W.callWith_K0 I.kIn hk (run_fnSD (us := []) F hr hb hd (hx σ) I .nil h)
theorem run_makeSD {pins : List (Addr × Obj)} {σ : St} {H : Hp} {s : Shared} {Q : VK} {us : List Value} {vs : List V} (M : Mk X.K C f) (F : FnOk X.prog X.w X.K X.mg X.base CX k f fd ps sp) (hr : Room (k + 1) X.A) (hb : Binds X.K fd ps ds) (hd : Vals dvs ds)
    (hx : PassesAt CX X σ (E σ)) (I : Inv X pins σ H s) (r : Vals vs us)
    (h : ∀ x dx, H x = none → H dx = none → dx ≠ x → sp (.ref x :: (vs ++ dvs)) (upd (upd H dx (.own x)) x (.ins C dx [])) (fun v H2 => v = .non ∧ Q (.ref x) H2) (E σ)) :
    wpAny (model X.prog X.w) X.A (call (.ref C) us) (EP X pins σ Q) X.xe s := by
  have hq := h (s.heap.objs.size + 1) s.heap.objs.size (I.hok.fresh (Nat.le_succ _)) (I.hok.fresh (Nat.le_refl _)) (Nat.ne_of_lt (Nat.lt_succ_self _))
  have I2 := Inv.made (C := C) I
  have r2 : Vals (V.ref (s.heap.objs.size + 1) :: (vs ++ dvs)) (Value.ref (s.heap.objs.size + 1) :: (us ++ ds)) := .cons rfl (r.append hd)
  have hl : (Value.ref (s.heap.objs.size + 1) :: us ++ ds).length = ps.length := by
    have e := r2.length
    rw [F.len _ _ _ _ hq] at e
    exact e.symm
  refine wpAny_call (make_map (f := f) I.kIn M.makes M.init (beq_iff_eq.mp M.fn) (codeAny_mono (F.run _ X.stack _ _ ⟨Value.ref (s.heap.objs.size + 1) :: us, []⟩ (Value.ref (s.heap.objs.size + 1) :: (us ++ ds)) _ _ (E σ) (hr.make C us [])
    (I2.env0.make C us []) (hb _ (Value.ref (s.heap.objs.size + 1) :: us) I2.kIn hl) r2 hq) fun r s' hq' => ?_))
  cases r with
  | error e => exact hx pins _ _ e s' I2 hq'
  | ok fl =>
    cases fl with
    | ret u =>
      obtain ⟨v, H', I3, rv, ev, q3⟩ := I2.after hq'
      subst ev
      exact ⟨rv, ⟨V.ref (s.heap.objs.size + 1), H', I3, rfl, q3⟩⟩
    | next => exact False.elim hq'
    | brk => exact False.elim hq'
    | cont => exact False.elim hq'
def tMakeSD (C : Addr) (sp : Sp) (dvs : List V) (E : St → XK) (t : TA) : TE := fun σ H Q => t σ H fun vs H1 => ∀ x dx, H1 x = none → H1 dx = none → dx ≠ x →
  sp (.ref x :: (vs ++ dvs)) (upd (upd H1 dx (.own x)) x (.ins C dx [])) (fun v H2 => v = .non ∧ Q (.ref x) H2) (E σ)
theorem pe_makeSD (M : Mk X.K C f) (F : FnOk X.prog X.w X.K X.mg X.base CX k f fd ps sp) (hr : Room (k + 1) X.A) (hg : Gl X x) (hm : X.mg x = some (.ref C)) (hb : Binds X.K fd ps ds) (hd : Vals dvs ds) (hx : ∀ σ, PassesAt CX X σ (E σ))
    (ha : PA X (e :: es) t) (hdb : (x == ("__debug__" : Str)) = false := by decide) (he : starEach (e :: es) X.env = (false, eval e X.env) :: starEach es X.env := by rfl) (hpl : (backTo pos (starEach es X.env)).any (·.1) = false := by rfl) :
    PE X (.Call (.Name x p) (e :: es) [] pos) (tMakeSD C sp dvs E t) := by
  refine ⟨fun pins s σ H Q I h => ?_⟩
  refine wpAny_Call_Name_kw (ld_glob I hg hm ?_ hdb)
  refine PySem.W.callWith_K (h₀ := X.base) I.ok.mod.kin M.kp (thn (ha.run pos pins s σ H _ I h) fun us s1 ⟨vs, H1, I1, r, q⟩ => ⟨I1.kIn, ?_⟩) he hpl
  exact run_makeSD M F hr hb hd (hx σ) I1 r q
theorem pe_makeSD0 (M : Mk X.K C f) (F : FnOk X.prog X.w X.K X.mg X.base CX k f fd ps sp) (hr : Room (k + 1) X.A) (hg : Gl X x) (hm : X.mg x = some (.ref C)) (hb : Binds X.K fd ps ds) (hd : Vals dvs ds) (hx : ∀ σ, PassesAt CX X σ (E σ))
    (hdb : (x == ("__debug__" : Str)) = false := by decide) : PE X (.Call (.Name x p) [] [] pos) (tMakeSD C sp dvs E tNil) := by
  refine ⟨fun pins s σ H Q I h => ?_⟩
  refine wpAny_Call_Name_kw (ld_glob I hg hm ?_ hdb)
  exact PySem.W.callWith_K0 I.kIn M.kp (run_makeSD (us := []) M F hr hb hd (hx σ) I .nil h)
end

/-! ### calls whose arguments are only looked at -/
def FR.toE (ok : D → List D → Option D) (e : Env) : FR → ER
  | .ok d bs => match ok d bs with
    | some d => .ok d e
    | none => .bad
  | .ex x p _ => .ex x p e
  | .bad => .bad
/-- a result that may be handed on: the arguments were frozen, or nothing of them is in it -/
def okRes (ds : List D) (d : D) (_ : List D) : Option D := if ds.all isRo = true ∨ clean d = true then some d else none
def eCall (m : List D → FR) (dds : List D) (fs : Env → LR) (env : Env) : ER := (fs env).toE fun ds e => (m (ds.map frz ++ dds)).toE (okRes ds) e
def isIns (cc : Nat) : D → Bool
  | .nd k _ _ => match k with
    | .ins c' => decide (c' = cc)
    | _ => false
  | _ => false
def eMeth (cc : Nat) (m : List D → FR) (dds : List D) (fo : Env → ER) (fs : Env → LR) (env : Env) : ER := (fo env).bind fun d e1 => if isIns cc d = true then (fs e1).toE fun ds e => (m ((d :: ds).map frz ++ dds)).toE (okRes (d :: ds)) e else .bad
section
variable {g : G} {w w' w1 w2 w0 : Wd} {Fs Fs' Fs1 : Fps} {σ σ' : St} {env env' : Env} {T T' Ta Tb R Ra Rb S bk : List Nat} {d : D} {v : V} {F : Addr → Prop} {m : List D → FR} {ds dds : List D} {vs dvs : List V} {Q : VK} {n k cc : Nat} {x fld : Str} {f : Addr} {fd : FuncData} {ps : List Str} {bvs : List Value} {p pos apos : Pos} {e o : Expr} {es : List Expr} {fs : Env → LR} {fo : Env → ER}
/-- a def's default values, by data -/
def Dfl (dds : List D) (dvs : List V) : Prop := Paired AV dds dvs
theorem Dfl.nil : Dfl [] [] := Paired.nil
theorem sr_frozen {c : Cs} {K : PySem.W.Frag} (lp : Le w.HP w.H0) (l0 : Le w.H0 w.H) (h : RoL c K w.HP w.H0 ds vs) : SrC c K none w (fun _ _ => False) (vs.map some) (ds.map some) := by
  refine ⟨lp, l0, by simp [h.len], fun i d e => ?_, fun _ _ _ z => z, fun _ _ _ z => z.elim, .none⟩
  rw [List.getElem?_map] at e
  obtain ⟨d', e1, e2⟩ := Option.map_eq_some_iff.mp e
  cases e2
  obtain ⟨v, e3, q⟩ := h.get e1
  exact ⟨v, by rw [List.getElem?_map, e3]; rfl, Ow.of_ro q fun _ z => z⟩
theorem dfl_ro {c : Cs} {K : PySem.W.Frag} {HP H : Hp} {dds : List D} {dvs : List V} (h : Dfl dds dvs) : RoL c K HP H dds dvs := by
  have h' : Paired AV dds dvs := h
  induction h' with
  | nil => exact rfl
  | cons a r ih => exact ⟨_, _, rfl, AV.ro a, ih r⟩
theorem roL_app {c : Cs} {K : PySem.W.Frag} {HP H : Hp} : ∀ {xs ys : List D} {vs us : List V}, RoL c K HP H xs vs → RoL c K HP H ys us → RoL c K HP H (xs ++ ys) (vs ++ us) := fun h k => RoL.append h k
/-- arguments that are frozen as they are -/
theorem args_ro (h : ArgsO g w Fs R ds vs) (hr : ds.all isRo = true) : RoL g.c g.X.K w.HP w.H0 (ds.map frz) vs := by
  induction h with
  | nil => exact rfl
  | cons a r ih =>
    simp only [List.all_cons, Bool.and_eq_true] at hr
    obtain ⟨F, o, _⟩ := a
    obtain ⟨q, _⟩ := o.ro hr.1
    refine ⟨_, _, rfl, ?_, ih hr.2⟩
    rw [isRo_frz _ hr.1]; exact q
/-- .. seen in the whole heap -/
theorem args_view (l0 : Le w.H0 w.H) (h : ArgsO g w Fs R ds vs) : RoL g.c g.X.K w.HP w.H (ds.map frz) vs := by
  induction h with
  | nil => exact rfl
  | cons a r ih =>
    obtain ⟨F, o, _⟩ := a
    exact ⟨_, _, rfl, o.view l0, ih⟩
/-- nothing read-only is in it -/
theorem Ow.clean_of {c : Cs} {K : PySem.W.Frag} {HP H0 H0' H : Hp} (d : D) : ∀ {v : V} {F : Addr → Prop}, clean d = true → (∀ b, F b → H0' b = none) → Ow c K HP H0 H d v F → Ow c K HP H0' H d v F := by
  induction d using D.ind with
  | h6 k o xs ih =>
    intro v F hc hF h
    cases o with
    | ro => rw [clean] at hc; simp at hc
    | pm => exact ⟨Ro.pm (Le.refl _) h.1, h.2⟩
    | own =>
      obtain ⟨a, vs, A, F', e, h1, h2, h3, h4, h5⟩ := h
      rw [clean, cleanL_all, List.all_eq_true] at hc
      refine ⟨a, vs, A, F', e, h1, fun b hb => hF b ((h5 b).mpr (.inl hb)), h3, ?_, h5⟩
      have go : ∀ {l : List D} {ws : List V} {E : Addr → Prop}, (∀ d ∈ l, d ∈ xs) → (∀ b, E b → F b) → OwL c K HP H0 H l ws E → OwL c K HP H0' H l ws E := by
        intro l
        induction l with
        | nil => intro ws E _ _ q; exact q
        | cons y l ihl =>
          intro ws E hl hE q
          obtain ⟨v, r, E1, E2, e, q1, q2, q3, q4⟩ := q
          exact ⟨v, r, E1, E2, e, ih y (hl y (by simp)) (hc y (hl y (by simp))) (fun b hb => hF b (hE b ((q4 b).mpr (.inl hb)))) q1, ihl (fun d hd => hl d (by simp [hd])) (fun b hb => hE b ((q4 b).mpr (.inr hb))) q2, q3, q4⟩
      exact go (fun _ h => h) (fun b hb => (h5 b).mpr (.inr hb)) h4
  | h5 => intro v F _ _ h; exact h
  | _ => intro v F _ _ h; exact h
/-- after a call to which all was frozen: what was ours is ours again -/
noncomputable def resW (w w' : Wd) : Wd := ⟨w'.HP, open Classical in fun a => if w.H a = none then w'.H0 a else w.H0 a, w'.H⟩
theorem restore (lp : Le w.HP w.H0) (l0 : Le w.H0 w.H) (fr : FrmW ⟨w.HP, w.H, w.H⟩ (fun _ _ => False) w') : Grow w (resW w w') := by
  have off : ∀ a o, w.H a = some o → w'.H a = some o := fun a o e => fr.off a o e fun _ z => z
  refine ⟨fr.hp, fun a o e => ?_, off, fun a q => ?_, fun a q => ?_, fun a o e => ?_, fun a o e => ?_⟩
  · obtain ⟨o', e', _⟩ := l0 a o e
    refine ⟨o, ?_, rfl⟩
    show (if w.H a = none then w'.H0 a else w.H0 a) = _
    rw [if_neg (by rw [e']; simp)]; exact e
  · by_cases z : w.H a = none
    · exact .inr z
    · refine .inl ?_
      have q' : (if w.H a = none then w'.H0 a else w.H0 a) ≠ none := q
      rw [if_neg z] at q'; exact q'
  · rcases fr.pn a q with z | ⟨_, z⟩ | z
    · exact .inl z
    · exact z.elim
    · exact .inr z
  · replace e : w'.HP a = some o := e
    show ∃ o', (if w.H a = none then w'.H0 a else w.H0 a) = some o' ∧ _
    by_cases z : w.H a = none
    · rw [if_pos z]; exact fr.lp a o e
    · rw [if_neg z]
      rcases fr.pn a (by rw [e]; simp) with y | ⟨_, y⟩ | y
      · cases q : w.HP a with
        | none => exact absurd q y
        | some o1 =>
          obtain ⟨o2, e2, c2⟩ := fr.hp a o1 q
          rw [e] at e2; cases e2
          obtain ⟨o3, e3, c3⟩ := lp a o1 q
          exact ⟨o3, e3, c3.trans c2.symm⟩
      · exact y.elim
      · exact absurd y z
  · have e' : (if w.H a = none then w'.H0 a else w.H0 a) = some o := e
    by_cases z : w.H a = none
    · rw [if_pos z] at e'
      exact fr.l0 a o e'
    · rw [if_neg z] at e'
      obtain ⟨o1, e1, c1⟩ := l0 a o e'
      exact ⟨o1, off a o1 e1, c1⟩
/-- a call by data -/
theorem call_run {R : List Nat} {dd : List D} {dv : List V} {E : XK} (hd : Dfl dd dv) (lp : Le w.HP w.H0) (l0 : Le w.H0 w.H) (ha : ArgsO g w Fs R ds vs) (hn : (vs ++ dv).length = n)
    (hok : ∀ d bs, m (ds.map frz ++ dd) = .ok d bs → ds.all isRo = true ∨ clean d = true → ∀ w' v F, Grow w w' → Ow g.c g.X.K w'.HP w'.H0 w'.H d v F → (∀ a, F a → w.H a = none) → Q v w'.H)
    (hno : ∀ d bs, m (ds.map frz ++ dd) = .ok d bs → ds.all isRo = true ∨ clean d = true)
    (hex : ∀ x p bs, m (ds.map frz ++ dd) = .ex x p bs → ∀ w' pd, Grow w w' → PayF g.xf w'.H x p pd → E (.ref (g.xc x)) pd w'.H) (hbad : m (ds.map frz ++ dd) ≠ .bad) : spG g.c g.X.K g.xc g.xf n [] m (vs ++ dv) w.H Q E := by
  by_cases hr : ds.all isRo = true
  · refine ⟨w, fun _ _ => False, ds.map frz ++ dd, rfl, hn, sr_frozen lp l0 (roL_app (args_ro ha hr) (dfl_ro hd)), ?_⟩
    have gr : ∀ {w'}, FrmW w (fun _ _ => False) w' → Grow w w' := fun {w'} fr => ⟨fr.hp, fr.h0, fun a o e => fr.off a o e fun _ z => z, fun a q => (fr.h0n a q).imp id fun z => z.elim (fun ⟨_, y⟩ => y.elim) id, fun a q => (fr.pn a q).imp id fun z => z.elim (fun ⟨_, y⟩ => y.elim) id, fr.lp, fr.l0⟩
    cases em : m (ds.map frz ++ dd) with
    | ok d bs => exact fun w' v F Gs fr o _ _ og => hok d bs em (.inl hr) w' v F (gr fr) o fun a ha => (og a (.inl ha)).elim id fun ⟨_, y⟩ => y.elim
    | ex x p bs => exact fun w' pd Gs fr py _ _ => hex x p bs em w' pd (gr fr) py
    | bad => exact absurd em hbad
  · refine ⟨⟨w.HP, w.H, w.H⟩, fun _ _ => False, ds.map frz ++ dd, rfl, hn, sr_frozen (w := ⟨w.HP, w.H, w.H⟩) (lp.trans l0) (Le.refl _) (roL_app (args_view (w := w) l0 ha) (dfl_ro hd)), ?_⟩
    cases em : m (ds.map frz ++ dd) with
    | ok d bs =>
      intro w' v F Gs fr o _ _ og
      have hc : clean d = true := (hno d bs em).elim (fun z => absurd z hr) id
      have nF : ∀ a, F a → w.H a = none := fun a ha => (og a (.inl ha)).elim id fun ⟨_, y⟩ => y.elim
      refine hok d bs em (.inr hc) (resW w w') v F (restore lp l0 fr) (Ow.clean_of d hc (fun b hb => ?_) o) nF
      show (if w.H b = none then w'.H0 b else w.H0 b) = none
      rw [if_pos (nF b hb)]
      exact (o.held d b hb).2
    | ex x p bs => exact fun w' pd Gs fr py _ _ => hex x p bs em (resW w w') pd (restore lp l0 fr) py
    | bad => exact absurd em hbad
theorem FR.toE_ok {ok : D → List D → Option D} {e e' : Env} {r : FR} (h : r.toE ok e = .ok d e') : e' = e := by
  cases r with
  | ok d bs =>
    simp only [FR.toE] at h
    split at h
    · cases h; rfl
    · cases h
  | ex x p bs => cases h
  | bad => cases h
theorem call_fin {w0 : Wd} {Fs0 : Fps} (x1 : Ext T w0 Fs0 w1 Fs1) (s1 : Sr g w1 Fs1 σ env) (hd : Dfl dds dvs) (ha : ArgsO g w1 Fs1 R ds vs) (hn : (vs ++ dvs).length = n) (q : EPost g T w0 Fs0 σ Q ((m (ds.map frz ++ dds)).toE (okRes ds) env)) : spG g.c g.X.K g.xc g.xf n [] m (vs ++ dvs) w1.H Q (WE g.W σ) := by
  refine call_run hd s1.lp s1.l0 ha hn (fun d bs em hc w' v F gr o nF => ?_) (fun d bs em => ?_) (fun x p bs em w' pd gr py => ?_) fun em => ?_
  · rw [em] at q
    simp only [FR.toE, okRes] at q
    rw [if_pos hc] at q
    exact fin_new x1 s1 gr o nF q
  · rw [em] at q
    simp only [FR.toE, okRes] at q
    split at q
    · rename_i h
      split at h
      · assumption
      · cases h
    · exact q.elim
  · rw [em] at q
    obtain ⟨s2, x2⟩ := s1.grow gr
    exact q w' Fs1 pd ((x1.trans x2).weak fun i hi => by simpa using hi) s2 py
  · rw [em] at q
    exact q.elim
/-- f(..) -/
theorem pex_call (Fo : FnOk g.X.prog g.X.w g.X.K g.X.mg g.X.base (L2.CX g.X.prog g.X.w) k f fd ps (spG g.c g.X.K g.xc g.xf n [] m)) (hr : Room k g.X.A) (hg : Gl g.X x) (hm : g.X.mg x = some (.ref f)) (hk : PySem.W.keepIn g.X.K (.ref f) = true) (hb : Binds g.X.K fd ps bvs) (hv : Vals dvs bvs) (hd : Dfl dds dvs) (tk : Takes g.X g.W)
    (ha : PAx g (e :: es) T R fs) (hn : (e :: es).length + dds.length = n) (hdb : (x == ("__debug__" : Str)) = false := by decide) (he : starEach (e :: es) g.X.env = (false, eval e g.X.env) :: starEach es g.X.env := by rfl) (hpl : (backTo pos (starEach es g.X.env)).any (·.1) = false := by rfl) :
    PEx g (.Call (.Name x p) (e :: es) [] pos) T (eCall m dds fs) := by
  obtain ⟨t, t1, t2⟩ := ha.ex
  refine ⟨frm_toE ha.fr fun _ _ _ _ q => FR.toE_ok q, _, pe_callSD Fo hr hg hm hk hb hv (passAt tk) t1 hdb he hpl, fun w Fs σ env s Q q => t2 w Fs σ env s _ ?_⟩
  unfold eCall at q
  cases er : fs env with
  | ex x p e => rw [er] at q; exact q
  | bad => rw [er] at q; exact q
  | ok ds e1 =>
    rw [er] at q
    intro w1 Fs1 vs x1 s1 o
    refine call_fin x1 s1 hd o ?_ q
    rw [List.length_append, ← o.length, ha.ln _ _ _ er, ← hd.length]
    exact hn
theorem pex_call0 (Fo : FnOk g.X.prog g.X.w g.X.K g.X.mg g.X.base (L2.CX g.X.prog g.X.w) k f fd ps (spG g.c g.X.K g.xc g.xf n [] m)) (hr : Room k g.X.A) (hg : Gl g.X x) (hm : g.X.mg x = some (.ref f)) (hk : PySem.W.keepIn g.X.K (.ref f) = true) (hb : Binds g.X.K fd ps bvs) (hv : Vals dvs bvs) (hd : Dfl dds dvs) (tk : Takes g.X g.W)
    (hn : dds.length = n) (hdb : (x == ("__debug__" : Str)) = false := by decide) : PEx g (.Call (.Name x p) [] [] pos) [] (eCall m dds lNil) := by
  refine ⟨fun env d env' q i _ => ?_, _, pe_callSD0 Fo hr hg hm hk hb hv (passAt tk) hdb, fun w Fs σ env s Q q => ?_⟩
  · simp only [eCall, lNil, LR.toE] at q
    rw [FR.toE_ok q]
  · exact call_fin (R := []) (vs := []) (s.ext0 _) s hd .nil (by rw [List.nil_append, ← hd.length]; exact hn) q
theorem ins_at (lp : Le w.HP w.H0) (l0 : Le w.H0 w.H) (hi : isIns cc d = true) (hm : fld ∉ (g.c cc).nm) (o : Ow g.c g.X.K w.HP w.H0 w.H d v F) : ∃ a dx fs, v = .ref a ∧ w.H a = some (.ins (g.c cc).ad dx fs) ∧ fs.lookup fld = none := by
  unfold isIns at hi
  split at hi
  · rename_i k fl xs
    split at hi
    · rename_i c'
      have : c' = cc := by simpa using hi
      subst this
      obtain ⟨a, vs, ev, ra, hl⟩ := o.node lp l0
      obtain ⟨A, dx, fs, h1, h2, fo, _⟩ := ra
      refine ⟨a, dx, fs, ev, h1, ?_⟩
      cases q : fs.lookup fld with
      | none => rfl
      | some u =>
        have hmem := PySem.mem_of_lookup q
        exact absurd (fo.mem _ hmem) hm
    · cases hi
  · cases hi
/-- o.m(..) -/
theorem pex_meth {pl : Sem Bool} (Fo : FnOk g.X.prog g.X.w g.X.K g.X.mg g.X.base (L2.CX g.X.prog g.X.w) k f fd ps (spG g.c g.X.K g.xc g.xf n [] m)) (hr : Room k g.X.A) (hc : Cls g.X.K (g.c cc).ad) (hm : Meth g.X.K (g.c cc).ad x f) (hnm : x ∉ (g.c cc).nm) (hb : Binds g.X.K fd ps bvs) (hv : Vals dvs bvs) (hd : Dfl dds dvs) (tk : Takes g.X g.W)
    (ho : POx g o Ta Ra fo) (ha : PAx g (e :: es) Tb Rb fs) (hR : ∀ i ∈ Ra, i ∉ Tb) (hn : (e :: es).length + 1 + dds.length = n)
    (hst : starEach (e :: es) g.X.env = (false, eval e g.X.env) :: starEach es g.X.env := by rfl) (hpl : (backTo pos (starEach es g.X.env)).any (·.1) = false := by rfl)
    (ht : eval (.Call (.Attribute o x apos) (e :: es) [] pos) g.X.env = (do
      let ov ← eval o g.X.env
      standAt apos.atName
      let (f, first) ← holding [ov] (getMethod ov x pl)
      callWith pos f first (backTo pos (starEach (e :: es) g.X.env)) (backToKw pos (keywordEach [] g.X.env))) := by rfl) :
    PEx g (.Call (.Attribute o x apos) (e :: es) [] pos) (Ta ++ Tb) (eMeth cc m dds fo fs) := by
  obtain ⟨t, t1, t2⟩ := ha.ex
  obtain ⟨u, u1, u2⟩ := ho.ex
  refine ⟨fun env d env' q i hi => ?_, _, pe_methSD (pl := pl) u1 hc hm Fo hr hb hv (passAt tk) t1 hst hpl ht, fun w Fs σ env s Q q => u2 w Fs σ env s _ ?_⟩
  · unfold eMeth at q
    cases er : fo env with
    | ex x p e => rw [er] at q; cases q
    | bad => rw [er] at q; cases q
    | ok d0 e1 =>
      rw [er] at q
      simp only [ER.bind] at q
      split at q
      · cases ea : fs e1 with
        | ex x p e => rw [ea] at q; cases q
        | bad => rw [ea] at q; cases q
        | ok ds e2 =>
          rw [ea] at q
          rw [FR.toE_ok q, ha.fr _ _ _ ea i fun z => hi (List.mem_append_right _ z), ho.fr _ _ _ er i fun z => hi (List.mem_append_left _ z)]
      · cases q
  · unfold eMeth at q
    cases er : fo env with
    | ex x p e => rw [er] at q; exact XPost.weak (T := Ta) (T' := Ta ++ Tb) q fun i hi => List.mem_append_left _ hi
    | bad => rw [er] at q; exact q
    | ok d0 e1 =>
      rw [er] at q
      simp only [ER.bind] at q
      intro w1 Fs1 v1 F1 x1 s1 o1 n1 p1
      split at q
      · rename_i hi
        obtain ⟨a, dx, fsx, rfl, hH, hlk⟩ := ins_at s1.lp s1.l0 hi hnm o1
        refine ⟨a, dx, fsx, rfl, hH, hlk, t2 w1 Fs1 σ e1 s1 _ ?_⟩
        cases ea : fs e1 with
        | ex x p e => rw [ea] at q; exact fun w2 Fs2 dd x2 s2 py => q w2 Fs2 dd (x1.trans x2) s2 py
        | bad => rw [ea] at q; exact q
        | ok ds e2 =>
          rw [ea] at q
          intro w2 Fs2 vs x2 s2 o2
          obtain ⟨o1', n1'⟩ := x2.hold o1 n1 hR
          have oall : ArgsO g w2 Fs2 (Ra ++ Rb) (d0 :: ds) (.ref a :: vs) := .cons ⟨F1, o1', fun a ha => (n1' a ha).imp (fun ⟨i, hi, z⟩ => ⟨i, List.mem_append_left _ hi, z⟩) id⟩ (Paired.mapP o2 fun d v ⟨F, h, n⟩ => ⟨F, h, fun a ha => (n a ha).imp (fun ⟨i, hi, z⟩ => ⟨i, List.mem_append_right _ hi, z⟩) id⟩)
          refine call_fin (x1.trans x2) s2 hd oall ?_ q
          rw [List.length_append, ← oall.length, List.length_cons, ha.ln _ _ _ ea, ← hd.length]
          exact hn
      · exact q.elim
theorem pex_meth0 {pl : Sem Bool} (Fo : FnOk g.X.prog g.X.w g.X.K g.X.mg g.X.base (L2.CX g.X.prog g.X.w) k f fd ps (spG g.c g.X.K g.xc g.xf n [] m)) (hr : Room k g.X.A) (hc : Cls g.X.K (g.c cc).ad) (hm : Meth g.X.K (g.c cc).ad x f) (hnm : x ∉ (g.c cc).nm) (hb : Binds g.X.K fd ps bvs) (hv : Vals dvs bvs) (hd : Dfl dds dvs) (tk : Takes g.X g.W)
    (ho : POx g o Ta Ra fo) (hn : 1 + dds.length = n)
    (ht : eval (.Call (.Attribute o x apos) [] [] pos) g.X.env = (do
      let ov ← eval o g.X.env
      standAt apos.atName
      let (f, first) ← holding [ov] (getMethod ov x pl)
      callWith pos f first (backTo pos (starEach [] g.X.env)) (backToKw pos (keywordEach [] g.X.env))) := by rfl) :
    PEx g (.Call (.Attribute o x apos) [] [] pos) Ta (eMeth cc m dds fo lNil) := by
  obtain ⟨u, u1, u2⟩ := ho.ex
  refine ⟨fun env d env' q i hi => ?_, _, pe_methSD0 (pl := pl) u1 hc hm Fo hr hb hv (passAt tk) ht, fun w Fs σ env s Q q => u2 w Fs σ env s _ ?_⟩
  · unfold eMeth at q
    cases er : fo env with
    | ex x p e => rw [er] at q; cases q
    | bad => rw [er] at q; cases q
    | ok d0 e1 =>
      rw [er] at q
      simp only [ER.bind] at q
      split at q
      · simp only [lNil, LR.toE] at q
        rw [FR.toE_ok q, ho.fr _ _ _ er i hi]
      · cases q
  · unfold eMeth at q
    cases er : fo env with
    | ex x p e => rw [er] at q; exact q
    | bad => rw [er] at q; exact q
    | ok d0 e1 =>
      rw [er] at q
      simp only [ER.bind] at q
      intro w1 Fs1 v1 F1 x1 s1 o1 n1 p1
      split at q
      · rename_i hi
        obtain ⟨a, dx, fsx, rfl, hH, hlk⟩ := ins_at s1.lp s1.l0 hi hnm o1
        refine ⟨a, dx, fsx, rfl, hH, hlk, ?_⟩
        have oall : ArgsO g w1 Fs1 Ra [d0] [.ref a] := .cons ⟨F1, o1, n1⟩ .nil
        refine call_fin x1 s1 hd oall ?_ q
        rw [List.length_append, ← hd.length]
        exact hn
      · exact q.elim
end
end DL
set_option Elab.async false
set_option linter.all false
set_option maxRecDepth 100000
set_option maxHeartbeats 4000000
namespace DL
open PySem PySem.Spec PyProof.Rows L2

/-! ### a temporary, frozen or sealed -/
def eFrz (f : Env → ER) (env : Env) : ER := (f env).bind fun d e => .ok (frz d) e
def eSeal (f : Env → ER) (env : Env) : ER := (f env).bind fun d e => if clean d = true then .ok (pmz d) e else .bad
section
variable {g : G} {w w' w1 w2 w0 : Wd} {Fs Fs' Fs0 Fs1 : Fps} {σ σ' : St} {env env' : Env} {T T' Ta Tb R Ra Rb S bk : List Nat} {d : D} {v : V} {F : Addr → Prop} {m : List D → FR} {ds dds : List D} {vs dvs : List V} {Q : VK} {n k cc nf : Nat} {x fld : Str} {f : Addr} {fd : FuncData} {ps : List Str} {bvs : List Value} {p pos apos : Pos} {e o : Expr} {es : List Expr} {fs : Env → LR} {fo fe : Env → ER}
theorem pex_frz (h : PEx g e T fe) : PEx g e T (eFrz fe) := by
  obtain ⟨t, h1, h2⟩ := h.ex
  refine ⟨fun env d env' q i hi => ?_, t, h1, fun w Fs σ env s Q q => h2 w Fs σ env s Q ?_⟩
  · unfold eFrz at q
    cases er : fe env with
    | ex x p e => rw [er] at q; cases q
    | bad => rw [er] at q; cases q
    | ok d0 e1 => rw [er] at q; cases q; exact h.fr _ _ _ er i hi
  · unfold eFrz at q
    cases er : fe env with
    | ex x p e => rw [er] at q; exact q
    | bad => rw [er] at q; exact q
    | ok d0 e1 =>
      rw [er] at q
      intro w1 Fs1 v F x1 s1 o n p
      obtain ⟨x2, s2, ro⟩ := frz_tmp x1 s1 o n fun a ha => (p a ha).imp id fun ⟨j, _, y⟩ => ⟨j, y⟩
      exact q ⟨w1.HP, frzH w1.H w1.H0 F, w1.H⟩ Fs1 v (fun _ => False) x2 s2 (Ow.of_ro ro fun _ z => z) (fun _ z => z.elim) fun _ z => z.elim
theorem seal_tmp (x : Ext T w0 Fs0 w Fs) (s : Sr g w Fs σ env) (o : Ow g.c g.X.K w.HP w.H0 w.H d v F) (n : ∀ a, F a → ∀ i, ¬ Fs i a) (p : ∀ a, F a → w0.H a = none ∨ ∃ j, Fs0 j a) (hc : clean d = true) :
    Ext T w0 Fs0 ⟨frzH w.H w.HP F, frzH w.H w.H0 F, w.H⟩ Fs ∧ Sr g ⟨frzH w.H w.HP F, frzH w.H w.H0 F, w.H⟩ Fs σ env ∧ Ro g.c g.X.K (frzH w.H w.HP F) (frzH w.H w.HP F) (pmz d) v := by
  obtain ⟨x2, s2, ro⟩ := frz_tmp x s o n p
  have f0 : ∀ a, F a → w.H0 a = none := fun a ha => (o.held d a ha).2
  have fP : ∀ a, F a → w.HP a = none := fun a ha => s.lp.none (f0 a ha)
  have lPF : Le w.HP (frzH w.H w.HP F) := fun a u eu => by
    have y : ¬ F a := fun y => by rw [fP a y] at eu; cases eu
    exact ⟨u, by rw [frzH_out y]; exact eu, rfl⟩
  have both : Le (frzH w.H w.HP F) (frzH w.H w.H0 F) := fun a u eu => by
    by_cases y : F a
    · rw [frzH_in y] at eu
      exact ⟨u, by rw [frzH_in y]; exact eu, rfl⟩
    · rw [frzH_out y] at eu
      obtain ⟨u', e', c'⟩ := s.lp a u eu
      exact ⟨u', by rw [frzH_out y]; exact e', c'⟩
  refine ⟨⟨x2.hp.trans lPF, x2.h0, x2.off, x2.keep, x2.same, x2.fs, x2.h0n, x2.dom, fun a z => ?_⟩, ⟨both, s2.l0, s2.len, fun i d' e => ?_, s2.non, s2.dis, s2.hx⟩, Ow.seal lPF d hc (fun b hb => frzH_in hb) o⟩
  · by_cases y : F a
    · rcases p a y with t | ⟨j, t⟩
      · exact .inr (.inr t)
      · exact .inr (.inl ⟨j, t⟩)
    · rw [show (Wd.HP ⟨frzH w.H w.HP F, frzH w.H w.H0 F, w.H⟩ a) = w.HP a from frzH_out y] at z
      exact x.pn a z
  · obtain ⟨v, e1, q⟩ := s2.slot i d' e
    exact ⟨v, e1, Ow.keep (H0' := frzH w.H w.H0 F) (H' := w.H) lPF (Le.refl _) d' (fun b hb => ⟨rfl, (q.held d' b hb).2⟩) q⟩
theorem pm_ro {c : Cs} {K : PySem.W.Frag} {HP : Hp} (d : D) : ∀ {v : V} {H0 : Hp}, Le HP H0 → Ro c K HP HP d v → Ro c K HP H0 d v := fun l r => Ro.mono (Le.refl _) d l r
theorem pex_seal (h : PEx g e T fe) : PEx g e T (eSeal fe) := by
  obtain ⟨t, h1, h2⟩ := h.ex
  refine ⟨fun env d env' q i hi => ?_, t, h1, fun w Fs σ env s Q q => h2 w Fs σ env s Q ?_⟩
  · unfold eSeal at q
    cases er : fe env with
    | ex x p e => rw [er] at q; cases q
    | bad => rw [er] at q; cases q
    | ok d0 e1 =>
      rw [er] at q
      simp only [ER.bind] at q
      split at q
      · cases q; exact h.fr _ _ _ er i hi
      · cases q
  · unfold eSeal at q
    cases er : fe env with
    | ex x p e => rw [er] at q; exact q
    | bad => rw [er] at q; exact q
    | ok d0 e1 =>
      rw [er] at q
      simp only [ER.bind] at q
      intro w1 Fs1 v F x1 s1 o n p
      split at q
      · rename_i hc
        obtain ⟨x2, s2, ro⟩ := seal_tmp x1 s1 o n (fun a ha => (p a ha).imp id fun ⟨j, _, y⟩ => ⟨j, y⟩) hc
        exact q ⟨frzH w1.H w1.HP F, frzH w1.H w1.H0 F, w1.H⟩ Fs1 v (fun _ => False) x2 s2 (Ow.of_ro (pm_ro _ s2.lp ro) fun _ z => z) (fun _ z => z.elim) fun _ z => z.elim
      · exact q.elim
/-! ### C(..) -/
def newI (cc nf : Nat) : D := .nd (.ins cc) .own (List.replicate nf .uns)
def okSelf (ds : List D) (d : D) (bs : List D) : Option D := match d, bs with
  | .non, [b] => if ds.all isRo = true ∨ clean b = true then some b else none
  | _, _ => none
def eMake (cc nf : Nat) (m : List D → FR) (dds : List D) (fs : Env → LR) (env : Env) : ER := (fs env).toE fun ds e => (m (newI cc nf :: (ds.map frz ++ dds))).toE (okSelf ds) e
theorem owL_uns {c : Cs} {K : PySem.W.Frag} {HP H0 H : Hp} : ∀ n : Nat, OwL c K HP H0 H (List.replicate n .uns) (List.replicate n .non) (fun _ => False)
  | 0 => ⟨rfl, fun _ z => z⟩
  | n + 1 => ⟨.non, List.replicate n .non, fun _ => False, fun _ => False, rfl, fun _ z => z, owL_uns n, fun _ z => z.elim, fun _ => by simp⟩
theorem count_uns : ∀ n : Nat, (((List.replicate n D.uns).map isUns).filter fun u => !u).length = 0 := by
  intro n
  rw [List.map_replicate]
  rw [List.filter_replicate]
  simp [isUns]
theorem newI_ow {c : Cs} {K : PySem.W.Frag} {HP H0 H : Hp} {a dx : Addr} (hH : H a = some (.ins (c cc).ad dx [])) (hO : H dx = some (.own a)) (h0 : H0 a = none) (h1 : H0 dx = none) (hl : (c cc).nm.length = nf) (h9 : nf ≤ 900) (hn : (c cc).nm.Nodup) : Ow c K HP H0 H (newI cc nf) (.ref a) (fun b => b ∈ [a, dx] ∨ False) := by
  refine ⟨a, List.replicate nf .non, [a, dx], fun _ => False, rfl, ⟨dx, [], hH, hO, ⟨by simp [hl], by simp [hl], by omega, hn, Nat.zero_le _, fun p hp => by simp at hp, fun _ _ _ _ => rfl, fun i m e1 e2 => ?_⟩, rfl⟩, fun b hb => ?_, fun _ _ z => z, owL_uns nf, fun _ => Iff.rfl⟩
  · rw [List.getElem?_map, List.getElem?_replicate] at e2
    split at e2 <;> cases e2
  · simp at hb
    rcases hb with rfl | rfl
    · exact h0
    · exact h1
theorem restore2 {Hn : Hp} {Fs2 : Fps} (lp : Le w.HP w.H0) (l0 : Le w.H0 w.H) (hN : ∀ a o, w.H a = some o → Hn a = some o) (hF : ∀ i a, Fs2 i a → w.H a = none) (fr : FrmW ⟨w.HP, w.H, Hn⟩ Fs2 w') : Grow w (resW w w') := by
  have off : ∀ a o, w.H a = some o → w'.H a = some o := fun a o e => fr.off a o (hN a o e) fun i z => by rw [hF i a z] at e; cases e
  have nn : ∀ a, Hn a = none → w.H a = none := fun a h => by
    cases q : w.H a with
    | none => rfl
    | some o => rw [hN a o q] at h; cases h
  refine ⟨fr.hp, fun a o e => ?_, off, fun a q => ?_, fun a q => ?_, fun a o e => ?_, fun a o e => ?_⟩
  · obtain ⟨o', e', _⟩ := l0 a o e
    refine ⟨o, ?_, rfl⟩
    show (if w.H a = none then w'.H0 a else w.H0 a) = _
    rw [if_neg (by rw [e']; simp)]; exact e
  · by_cases z : w.H a = none
    · exact .inr z
    · refine .inl ?_
      have q' : (if w.H a = none then w'.H0 a else w.H0 a) ≠ none := q
      rw [if_neg z] at q'; exact q'
  · rcases fr.pn a q with z | ⟨i, z⟩ | z
    · exact .inl z
    · exact .inr (hF i a z)
    · exact .inr (nn a z)
  · replace e : w'.HP a = some o := e
    show ∃ o', (if w.H a = none then w'.H0 a else w.H0 a) = some o' ∧ _
    by_cases z : w.H a = none
    · rw [if_pos z]; exact fr.lp a o e
    · rw [if_neg z]
      rcases fr.pn a (by rw [e]; simp) with y | ⟨i, y⟩ | y
      · cases q : w.HP a with
        | none => exact absurd q y
        | some o1 =>
          obtain ⟨o2, e2, c2⟩ := fr.hp a o1 q
          rw [e] at e2; cases e2
          obtain ⟨o3, e3, c3⟩ := lp a o1 q
          exact ⟨o3, e3, c3.trans c2.symm⟩
      · exact absurd (hF i a y) z
      · exact absurd (nn a y) z
  · have e' : (if w.H a = none then w'.H0 a else w.H0 a) = some o := e
    by_cases z : w.H a = none
    · rw [if_pos z] at e'
      exact fr.l0 a o e'
    · rw [if_neg z] at e'
      obtain ⟨o1, e1, c1⟩ := l0 a o e'
      exact ⟨o1, off a o1 e1, c1⟩
theorem sr_make {c : Cs} {K : PySem.W.Frag} {self : V} {ds : D} (lp : Le w.HP w.H0) (l0 : Le w.H0 w.H) {dr : List D} (o : Ow c K w.HP w.H0 w.H ds self F) (h : RoL c K w.HP w.H0 dr vs) : SrC c K none w (fun i a => i = 0 ∧ F a) ((self :: vs).map some) ((ds :: dr).map some) := by
  refine ⟨lp, l0, by simp [h.len], fun i d e => ?_, fun i q a z => ?_, fun i j a y z => y.1.trans z.1.symm, .none⟩
  · cases i with
    | zero =>
      simp at e; subst e
      refine ⟨self, by simp, ?_⟩
      have : (fun a => (0 : Nat) = 0 ∧ F a) = F := funext fun a => propext ⟨fun z => z.2, fun z => ⟨rfl, z⟩⟩
      show Ow _ _ _ _ _ _ _ (fun a => (0 : Nat) = 0 ∧ F a)
      rw [this]; exact o
    | succ i =>
      rw [List.map_cons, List.getElem?_cons_succ, List.getElem?_map] at e
      obtain ⟨d', e1, e2⟩ := Option.map_eq_some_iff.mp e
      cases e2
      obtain ⟨v, e3, q⟩ := h.get e1
      exact ⟨v, by rw [List.map_cons, List.getElem?_cons_succ, List.getElem?_map, e3]; rfl, Ow.of_ro q fun _ z => by simp at z⟩
  · obtain ⟨rfl, z⟩ := z
    exact q ds (by simp)
theorem pex_make (Fo : FnOk g.X.prog g.X.w g.X.K g.X.mg g.X.base (L2.CX g.X.prog g.X.w) k f fd ps (spG g.c g.X.K g.xc g.xf n [0] m)) (hr : Room (k + 1) g.X.A) (hg : Gl g.X x) (hM : Mk g.X.K (g.c cc).ad f) (hm : g.X.mg x = some (.ref (g.c cc).ad)) (hl : (g.c cc).nm.length = nf) (h9 : nf ≤ 900) (hnn : (g.c cc).nm.Nodup) (hb : Binds g.X.K fd ps bvs) (hv : Vals dvs bvs) (hd : Dfl dds dvs) (tk : Takes g.X g.W)
    (ha : PAx g (e :: es) T R fs) (hn : (e :: es).length + 1 + dds.length = n) (hdb : (x == ("__debug__" : Str)) = false := by decide) (he : starEach (e :: es) g.X.env = (false, eval e g.X.env) :: starEach es g.X.env := by rfl) (hpl : (backTo pos (starEach es g.X.env)).any (·.1) = false := by rfl) :
    PEx g (.Call (.Name x p) (e :: es) [] pos) T (eMake cc nf m dds fs) := by
  obtain ⟨t, t1, t2⟩ := ha.ex
  refine ⟨frm_toE ha.fr fun _ _ _ _ q => FR.toE_ok q, _, pe_makeSD hM Fo hr hg hm hb hv (passAt tk) t1 hdb he hpl, fun w Fs σ env s Q q => t2 w Fs σ env s _ ?_⟩
  unfold eMake at q
  cases er : fs env with
  | ex x p e => rw [er] at q; exact q
  | bad => rw [er] at q; exact q
  | ok ds e1 =>
    rw [er] at q
    simp only [LR.toE] at q
    intro w1 Fs1 vs x1 s1 o a dx na nd ne
    have hN : ∀ b u, w1.H b = some u → upd (upd w1.H dx (.own a)) a (.ins (g.c cc).ad dx []) b = some u := fun b u e => by
      rw [upd_ne (ne_of_none e na), upd_ne (ne_of_none e nd)]; exact e
    have hH : upd (upd w1.H dx (.own a)) a (.ins (g.c cc).ad dx []) a = some (.ins (g.c cc).ad dx []) := upd_same
    have hO : upd (upd w1.H dx (.own a)) a (.ins (g.c cc).ad dx []) dx = some (.own a) := by rw [upd_ne ne, upd_same]
    have hlen : (V.ref a :: (vs ++ dvs)).length = n := by
      rw [List.length_cons, List.length_append, ← o.length, ha.ln _ _ _ er, ← hd.length]
      rw [← hn]; simp; omega
    have l0n : ∀ {X : Hp}, Le X w1.H → Le X (upd (upd w1.H dx (.own a)) a (.ins (g.c cc).ad dx [])) := fun {X} l b u e => by
      obtain ⟨u', e', c⟩ := l b u e
      exact ⟨u', hN b u' e', c⟩
    have fin : ∀ {W : Wd} {Fs2 : Fps}, (∀ w', FrmW W Fs2 w' → ∃ w2, w2.HP = w'.HP ∧ w2.H = w'.H ∧ Grow w1 w2 ∧ ∀ d v F, clean d = true ∨ ds.all isRo = true → Ow g.c g.X.K w'.HP w'.H0 w'.H d v F → (∀ b, F b → w1.H b = none) → Ow g.c g.X.K w2.HP w2.H0 w2.H d v F) → W.H = upd (upd w1.H dx (.own a)) a (.ins (g.c cc).ad dx []) → (∀ j b, Fs2 j b → w1.H b = none) →
        FPost g.c g.X.K g.xc g.xf W Fs2 (.ref a :: (vs ++ dvs)) [0] (fun v H2 => v = .non ∧ Q (.ref a) H2) (WE g.W σ) (m (newI cc nf :: (ds.map frz ++ dds))) := by
      intro W Fs2 back eW hF
      cases em : m (newI cc nf :: (ds.map frz ++ dds)) with
      | bad => rw [em] at q; exact q.elim
      | ex x' p' bs =>
        rw [em] at q
        intro w' pd Gs fr py _ _
        obtain ⟨w2, eP, eH, gr, _⟩ := back w' fr
        obtain ⟨s2, x2⟩ := s1.grow gr
        have := q w2 Fs1 pd ((x1.trans x2).weak fun i hi => by simpa using hi) s2 (by rw [eH]; exact py)
        rw [eH] at this
        exact this
      | ok d bs =>
        rw [em] at q
        simp only [FR.toE] at q
        intro w' v F Gs fr ov bks _ og
        obtain ⟨w2, eP, eH, gr, tr⟩ := back w' fr
        split at q
        · rename_i d' hs
          unfold okSelf at hs
          split at hs
          · rename_i b
            split at hs
            · rename_i hc
              have e2 : b = d' := by simpa using hs
              subst e2
              obtain ⟨u, e3, ou⟩ := bks.at_ 0 0 b rfl rfl
              simp at e3; subst e3
              have nG : ∀ c, Gs 0 c → w1.H c = none := fun c hc => by
                rcases og c (.inr ⟨0, hc⟩) with z | ⟨j, z⟩
                · rw [eW] at z
                  cases y : w1.H c with
                  | none => rfl
                  | some u => rw [hN c u y] at z; cases z
                · exact hF j c z
              refine ⟨ov.1, ?_⟩
              have := fin_new x1 s1 gr (tr b _ _ hc.symm ou nG) nG q
              rw [eH] at this
              exact this
            · cases hs
          · cases hs
        · exact q.elim
    by_cases hr : ds.all isRo = true
    · refine ⟨⟨w1.HP, w1.H0, upd (upd w1.H dx (.own a)) a (.ins (g.c cc).ad dx [])⟩, _, _, rfl, hlen, sr_make (w := ⟨w1.HP, w1.H0, upd (upd w1.H dx (.own a)) a (.ins (g.c cc).ad dx [])⟩) s1.lp (l0n s1.l0) (newI_ow (nf := nf) hH hO (s1.l0.none na) (s1.l0.none nd) hl h9 hnn) (roL_app (args_ro (w := w1) (Fs := Fs1) o hr) (dfl_ro hd)), fin (fun w' fr => ⟨w', rfl, rfl, ⟨fr.hp, fr.h0, fun b u e => fr.off b u (hN b u e) fun i z => ?_, fun b z => ?_, fun b z => ?_, fr.lp, fr.l0⟩, fun _ _ _ _ z _ => z⟩) rfl fun j b z => ?_⟩
      · obtain ⟨_, z⟩ := z
        simp at z
        rcases z with rfl | rfl
        · rw [na] at e; cases e
        · rw [nd] at e; cases e
      · rcases fr.h0n b z with y | ⟨i, _, y⟩ | y
        · exact .inl y
        · simp at y
          rcases y with rfl | rfl
          · exact .inr na
          · exact .inr nd
        · refine .inr ?_
          cases t : w1.H b with
          | none => rfl
          | some u => exact absurd (hN b u t) (by rw [show upd (upd w1.H dx (.own a)) a (.ins (g.c cc).ad dx []) b = none from y]; simp)
      · rcases fr.pn b z with y | ⟨i, _, y⟩ | y
        · exact .inl y
        · simp at y
          rcases y with rfl | rfl
          · exact .inr na
          · exact .inr nd
        · refine .inr ?_
          cases t : w1.H b with
          | none => rfl
          | some u => exact absurd (hN b u t) (by rw [show upd (upd w1.H dx (.own a)) a (.ins (g.c cc).ad dx []) b = none from y]; simp)
      · obtain ⟨_, z⟩ := z
        simp at z
        rcases z with rfl | rfl
        · exact na
        · exact nd
    · refine ⟨⟨w1.HP, w1.H, upd (upd w1.H dx (.own a)) a (.ins (g.c cc).ad dx [])⟩, _, _, rfl, hlen, sr_make (w := ⟨w1.HP, w1.H, upd (upd w1.H dx (.own a)) a (.ins (g.c cc).ad dx [])⟩) (s1.lp.trans s1.l0) (l0n (Le.refl _)) (newI_ow (nf := nf) hH hO na nd hl h9 hnn) (roL_app (args_view s1.l0 o) (dfl_ro hd)), fin (fun w' fr => ⟨resW w1 w', rfl, rfl, restore2 s1.lp s1.l0 hN (fun i b z => ?_) fr, fun d v F hc ov nF => ?_⟩) rfl fun j b z => ?_⟩
      · obtain ⟨_, z⟩ := z
        simp at z
        rcases z with rfl | rfl
        · exact na
        · exact nd
      · refine Ow.clean_of d (hc.elim id fun z => absurd z hr) (fun b hb => ?_) ov
        show (if w1.H b = none then w'.H0 b else w1.H0 b) = none
        rw [if_pos (nF b hb)]
        exact (ov.held d b hb).2
      · obtain ⟨_, z⟩ := z
        simp at z
        rcases z with rfl | rfl
        · exact na
        · exact nd
end
end DL
set_option Elab.async false
set_option linter.all false
set_option maxRecDepth 100000
set_option maxHeartbeats 4000000
namespace DL
open PySem PySem.Spec PyProof.Rows L2

/-! ### raise -/
def sRaise (x : Nat) (fs : Env → LR) (env : Env) : SR := match fs env with
  | .ok _ e => .ex x none e
  | .ex x p e => .ex x p e
  | .bad => .bad
section
variable {g : G} {w w' w1 w2 w0 : Wd} {Fs Fs' Fs0 Fs1 : Fps} {σ σ' : St} {env env' : Env} {T T' Ta Tb R Ra Rb S S' bk : List Nat} {d : D} {v : V} {F : Addr → Prop} {ds dds : List D} {vs dvs : List V} {n k cc nf xi i : Nat} {x fld nm : Str} {p pos pos' np apos : Pos} {e o c : Expr} {es : List Expr} {fs : Env → LR} {fo fe : Env → ER} {D' : L2.Ends} {body suite : List Stmt} {b₀ : Stmt} {bf : Env → SR}
/-- raise X('..', ..), X an own class without own __init__ -/
theorem psx_raise {bmB : List Value} {B newId initId : String} (hc : g.X.calm = true) (tk : Takes g.X g.W) (Fx : ExcBaseFacts B newId initId bmB) (q : PySem.W.excIn g.X.K (g.xc xi) bmB newId = true) (gC : g.X.mg x = some (.ref (g.xc xi))) (kC : PySem.W.keepIn g.X.K (.ref (g.xc xi)) = true) (r : Raises g.X (.ref (g.xc xi))) (hg : Gl g.X x)
    (ha : PAx g (e :: es) T R fs) (hl : (e :: es).length ≤ 1000 := by decide) (hdb : (x == ("__debug__" : Str)) = false := by decide) (he : starEach (e :: es) g.X.env = (false, eval e g.X.env) :: starEach es g.X.env := by rfl) (hpl : (backTo pos (starEach es g.X.env)).any (·.1) = false := by rfl) :
    PSx g (.Raise (some (.Call (.Name x p) (e :: es) [] pos)) none pos') S (sRaise xi fs) := by
  obtain ⟨t, t1, t2⟩ := ha.ex
  refine ⟨_, L2.ps_raise hc tk (pmk_ownA Fx q gC kC r hg t1 hdb he hpl), fun w Fs σ env s D' z => t2 w Fs σ env s _ ?_⟩
  unfold sRaise at z
  cases er : fs env with
  | ex x' p' e => rw [er] at z; exact XPost.ofS z
  | bad => rw [er] at z; exact z
  | ok ds e1 =>
    rw [er] at z
    intro w1 Fs1 vs x1 s1 o
    refine ⟨?_, z w1 Fs1 σ none x1.toS s1 rfl⟩
    rw [← o.length, ha.ln _ _ _ er]
    exact small_line hl
end
/-! ### try -/
def tSB (g : G) (S : List Nat) (f : Env → SR) : TS := fun D' σ H => ∃ w Fs env, w.H = H ∧ Sr g w Fs σ env ∧ SPost g S w Fs σ D' (f env)
theorem PBx.can {g : G} {as : List Stmt} {S : List Nat} {f : Env → SR} (h : PBx g as S f) : PSs g.X as (tSB g S f) := by
  obtain ⟨t, h1, h2⟩ := h.ex
  refine ⟨fun pins s σ H D' I q => ?_⟩
  obtain ⟨w, Fs, env, rfl, sr, q⟩ := q
  exact h1.run pins s σ w.H D' I (h2 w Fs σ env sr D' q)
/-- the body of a try -/
abbrev gT (g : G) (W : WX) (pn : List (Addr × Obj)) (xe : Value → Shared → Prop) : G := { g with X := g.X.tr pn xe, W := W }
/-- an except suite -/
abbrev gS (g : G) (i : Nat) (pay : Option (Addr × HO)) (a : Addr) (oe : Obj) (pn : List (Addr × Obj)) : G := { g with X := g.X.suite a ((a, oe) :: pn), W := fun _ _ _ _ => False, hd := some ⟨i, a, pay⟩ }
abbrev gSN (g : G) (i : Nat) (pay : Option (Addr × HO)) (a : Addr) : G := { g with W := fun _ _ _ _ => False, hd := some ⟨i, a, pay⟩ }
def SR.fin (i : Nat) : SR → SR
  | .nx e => .nx (e.set i none)
  | .bk e => .bk (e.set i none)
  | .ct e => .ct (e.set i none)
  | .rt d e => .rt d (e.set i none)
  | _ => .bad
/-- mt: which exceptions the clause takes -/
def sTry (mt : Nat → Bool) (i : Nat) (bf : Env → SR) (sf : Nat → Env → SR) (env : Env) : SR := match bf env with
  | .ex x p e => if mt x = true then (match p with
    | none => if i < e.length then (sf x (e.set i none)).fin i else .bad
    | some _ => .bad) else .ex x p e
  | .nx e => .nx e
  | .bk e => .bk e
  | .ct e => .ct e
  | .rt d e => .rt d e
  | .bad => .bad
def isXd : HO → Bool
  | .xd _ => true
  | _ => false
theorem Ow.noXd {c : Cs} {K : PySem.W.Frag} {HP H0 H : Hp} (d : D) : ∀ {v : V} {F : Addr → Prop}, Ow c K HP H0 H d v F → ∀ b, F b → ∃ o, H b = some o ∧ isXd o = false := by
  induction d using D.ind with
  | h6 k o xs ih =>
    intro v F h b hb
    cases o with
    | ro => exact absurd hb (h.2 b)
    | pm => exact absurd hb (h.2 b)
    | own =>
      obtain ⟨a, vs, A, F', e, h1, h2, h3, h4, h5⟩ := h
      rcases (h5 b).mp hb with hb | hb
      · cases k with
        | lst => rw [h1.2] at hb; simp at hb; subst hb; exact ⟨_, h1.1, rfl⟩
        | tup => exact h1.elim
        | scr => exact h1.elim
        | dct s ks =>
          rw [h1.2] at hb; simp at hb; subst hb
          rcases h1.1 with ⟨kvs, h, r⟩ | ⟨kvs, h, r⟩
          · exact ⟨_, h, rfl⟩
          · exact ⟨_, h, rfl⟩
        | ins i =>
          obtain ⟨dx, fs, q1, q2, _, eA⟩ := h1
          rw [eA] at hb; simp at hb
          rcases hb with rfl | rfl
          · exact ⟨_, q1, rfl⟩
          · exact ⟨_, q2, rfl⟩
      · have go : ∀ {l : List D} {ws : List V} {E : Addr → Prop}, (∀ d ∈ l, d ∈ xs) → OwL c K HP H0 H l ws E → E b → ∃ o, H b = some o ∧ isXd o = false := by
          intro l
          induction l with
          | nil => intro ws E _ q hb; exact absurd hb (q.2 b)
          | cons y l ihl =>
            intro ws E hl q hb
            obtain ⟨v, r, E1, E2, e, q1, q2, q3, q4⟩ := q
            rcases (q4 b).mp hb with z | z
            · exact ih y (hl y (by simp)) q1 b z
            · exact ihl (fun d hd => hl d (by simp [hd])) q2 z
        exact go (fun _ h => h) h4 hb
  | h5 => intro v F h b hb; exact absurd hb (h b)
  | _ => intro v F h b hb; exact absurd hb (h.2 b)
section
variable {g : G} {w w' w1 w2 w0 : Wd} {Fs Fs' Fs0 Fs1 : Fps} {σ σ' : St} {env env' : Env} {T T' Ta Tb R Ra Rb S S' bk : List Nat} {d : D} {v : V} {F : Addr → Prop} {ds dds : List D} {vs dvs : List V} {n k cc nf xi i : Nat} {x fld nm : Str} {p pos pos' np apos : Pos} {e o c : Expr} {es : List Expr} {fs : Env → LR} {fo fe : Env → ER} {D' : L2.Ends} {body suite : List Stmt} {b₀ : Stmt} {bf : Env → SR} {cv : Value} {mt : Nat → Bool} {sf : Nat → Env → SR}
/-- into the suite -/
theorem into_suite {a : Addr} (s : Sr g w Fs σ env) (hi : i < env.length) : Sr (gSN g i none a) w (fun k b => k ≠ i ∧ Fs k b) (σ.set i (some (.ref a))) (env.set i none) := by
  have sk := s.kill i
  refine ⟨s.lp, s.l0, by rw [List.length_set, List.length_set]; exact s.len, fun k d e => ?_, sk.non, sk.dis, fun h eh => ?_⟩
  · obtain ⟨v, e1, q⟩ := sk.slot k d e
    have hk : k ≠ i := by
      rintro rfl
      rw [List.getElem?_set] at e
      simp at e
    exact ⟨v, by rw [List.getElem?_set_ne (Ne.symm hk)]; exact e1, q⟩
  · have e2 : (⟨i, a, none⟩ : HX) = h := by simpa using eh
    subst e2
    exact ⟨by rw [List.getElem?_set_self (by rw [← s.len]; exact hi)], fun q h => by cases h⟩
/-- out of it -/
theorem out_suite {hd : Option HX} (s : SrC g.c g.X.K hd w Fs σ env) (hn : g.hd = none) : Sr g w (fun k b => k ≠ i ∧ Fs k b) (σ.set i none) (env.set i none) := by
  have s0 : SrC g.c g.X.K none w Fs σ env := ⟨s.lp, s.l0, s.len, s.slot, s.non, s.dis, .none⟩
  have sk := Sr.kill (g := { g with hd := none }) s0 i
  refine ⟨s.lp, s.l0, by rw [List.length_set, List.length_set]; exact s.len, fun k d e => ?_, sk.non, sk.dis, by rw [hn]; exact .none⟩
  obtain ⟨v, e1, q⟩ := sk.slot k d e
  have hk : k ≠ i := by
    rintro rfl
    rw [List.getElem?_set] at e
    simp at e
  exact ⟨v, by rw [List.getElem?_set_ne (Ne.symm hk)]; exact e1, q⟩
theorem ExtS.setN (x : ExtS S w Fs σ w' Fs' σ') (hi : i ∈ S) (u : Option V) : ExtS S w Fs σ w' (fun k b => k ≠ i ∧ Fs' k b) (σ'.set i u) :=
  ⟨x.hp, x.h0, x.off, fun j a z => x.fs j a z.2, x.h0n, x.dom, fun k hk => by rw [List.getElem?_set_ne (fun z : i = k => hk (by rw [← z]; exact hi))]; exact x.st k hk, by rw [List.length_set]; exact x.ln, x.pn⟩
theorem SPost.inS {a : Addr} (hn : g.hd = none) (hi : i ∈ S) (x : ExtS S w Fs σ w1 Fs1 σ') {r : SR} (h : SPost g S w Fs σ D' (r.fin i)) :
    SPost (gSN g i none a) S w1 (fun k b => k ≠ i ∧ Fs1 k b) (σ'.set i (some (.ref a))) { nx := fun σ' H' => D'.nx (σ'.set i none) H', rt := D'.rt, bk := fun σ' H' => D'.bk (σ'.set i none) H', ct := fun σ' H' => D'.ct (σ'.set i none) H' } r := by
  have x1 := x.setN hi (some (.ref a))
  cases r with
  | nx e => exact fun w2 Fs2 σ2 x2 s2 => h w2 _ _ ((x1.trans x2).setN hi none) (out_suite s2 hn)
  | bk e => exact fun w2 Fs2 σ2 x2 s2 => h w2 _ _ ((x1.trans x2).setN hi none) (out_suite s2 hn)
  | ct e => exact fun w2 Fs2 σ2 x2 s2 => h w2 _ _ ((x1.trans x2).setN hi none) (out_suite s2 hn)
  | rt d e =>
    intro w2 Fs2 σ2 v F x2 s2 o n p
    refine h w2 _ _ v F ((x1.trans x2).setN hi none) (out_suite s2 hn) o (fun a ha j z => n a ha j z.2) fun a ha => ?_
    rcases p a ha with z | ⟨j, _, z⟩
    · refine .inl ?_
      by_cases t : w.H a = none
      · exact t
      · exact absurd z (x.dom a t)
    · exact (x.fs j a z).symm
  | ex y p e => exact (show False from h).elim
  | bad => exact h
theorem psx_try_as (hs : g.X.stack = g.X.env :: g.X.outer) (hf : g.X.env.frame = some g.X.env.locals) (hN : g.X.N.Nodup) (hi : g.X.N[i]? = some nm) (hln : g.X.env.kindOf nm = some .local) (hc : Names g.X x cv) (tk : Takes g.X g.W) (hn : g.hd = none) (hiS : i ∈ S)
    (hmt : ∀ y, PySem.W.exmOne g.X.K (.ref (g.xc y)) cv = some (mt y))
    (hb : ∀ (W : WX) (pn : List (Addr × Obj)) (xe : Value → Shared → Prop), Takes (g.X.tr pn xe) W → PassesOwn (model g.X.prog g.X.w) g.X.A g.X.env xe → PBx (gT g W pn xe) body S bf)
    (hsu : ∀ (a : Addr) (oe : Obj) (pn : List (Addr × Obj)) (y : Nat), Zc (.ref (g.xc y)) none oe → (∃ vs, oe.data = .fields vs) → mt y = true → PBx (gS g i none a oe pn) (b₀ :: suite) S (sf y)) :
    PSx g (.Try body [.ExceptHandler (some (.Name x np)) (some nm) (b₀ :: suite) pos'] [] [] pos) S (sTry mt i bf sf) := by
  refine ⟨_, L2.ps_try_as (tb := fun W => tSB { g with W := W } S bf) (ts := fun a cls d => fun D' σ H => ∃ y, cls = .ref (g.xc y) ∧ mt y = true ∧ d = none ∧ tSB (gSN g i none a) S (sf y) D' σ H) hs hf hN hi hln hc tk (fun W pn xe t1 t2 => (hb W pn xe t1 t2).can) (fun a oe cls d pn hz hv => ⟨fun pins s σ H D' I q => ?_⟩), fun w Fs σ env s D' z => ?_⟩
  · obtain ⟨y, rfl, hy, rfl, q⟩ := q
    exact (hsu a oe pn y hz hv hy).can.run pins s σ H D' I q
  · refine ⟨w, Fs, env, rfl, s, ?_⟩
    unfold sTry at z
    cases er : bf env with
    | nx e => rw [er] at z; exact z
    | bk e => rw [er] at z; exact z
    | ct e => rw [er] at z; exact z
    | rt d e => rw [er] at z; exact z
    | bad => rw [er] at z; exact z
    | ex y p e =>
      rw [er] at z
      dsimp only at z
      intro w1 Fs1 σ1 dd x1 s1 py
      refine ⟨mt y, hmt y, fun hy a na => ?_, fun hy => ?_⟩
      · rw [if_pos hy] at z
        cases p with
        | some pd => exact z.elim
        | none =>
          dsimp only at z
          split at z
          · rename_i hlen
            exact ⟨y, rfl, hy, py, w1, _, _, rfl, into_suite s1 hlen, SPost.inS hn hiS x1 z⟩
          · exact z.elim
      · rw [if_neg (by rw [hy]; simp)] at z
        exact z w1 Fs1 σ1 dd x1 s1 py
/-- without a name -/
def sTry0 (mt : Nat → Bool) (bf : Env → SR) (sf : Nat → Env → SR) (env : Env) : SR := match bf env with
  | .ex x p e => if mt x = true then (match sf x e with | .ex _ _ _ => .bad | r => r) else .ex x p e
  | .nx e => .nx e
  | .bk e => .bk e
  | .ct e => .ct e
  | .rt d e => .rt d e
  | .bad => .bad
abbrev gS0 (g : G) (a : Addr) (oe : Obj) (pn : List (Addr × Obj)) : G := { g with X := g.X.suite a ((a, oe) :: pn), W := fun _ _ _ _ => False }
theorem psx_try_only (hs : g.X.stack = g.X.env :: g.X.outer) (hf : g.X.env.frame = some g.X.env.locals) (hc : Names g.X x cv) (tk : Takes g.X g.W)
    (hmt : ∀ y, PySem.W.exmOne g.X.K (.ref (g.xc y)) cv = some (mt y))
    (hb : ∀ (W : WX) (pn : List (Addr × Obj)) (xe : Value → Shared → Prop), Takes (g.X.tr pn xe) W → PassesOwn (model g.X.prog g.X.w) g.X.A g.X.env xe → PBx (gT g W pn xe) body S bf)
    (hsu : ∀ (a : Addr) (oe : Obj) (d : Option Addr) (pn : List (Addr × Obj)) (y : Nat), Zc (.ref (g.xc y)) d oe → (∃ vs, oe.data = .fields vs) → mt y = true → PBx (gS0 g a oe pn) (b₀ :: suite) S (sf y)) :
    PSx g (.Try body [.ExceptHandler (some (.Name x np)) none (b₀ :: suite) pos'] [] [] pos) S (sTry0 mt bf sf) := by
  refine ⟨_, L2.ps_try_only (tb := fun W => tSB { g with W := W } S bf) (ts := fun a cls d => fun D' σ H => ∃ y, cls = .ref (g.xc y) ∧ mt y = true ∧ tSB (gN g) S (sf y) D' σ H) hs hf hc tk (fun W pn xe t1 t2 => (hb W pn xe t1 t2).can) (fun a oe cls d pn hz hv => ⟨fun pins s σ H D' I q => ?_⟩), fun w Fs σ env s D' z => ?_⟩
  · obtain ⟨y, rfl, hy, q⟩ := q
    exact (hsu a oe d pn y hz hv hy).can.run pins s σ H D' I q
  · refine ⟨w, Fs, env, rfl, s, ?_⟩
    unfold sTry0 at z
    cases er : bf env with
    | nx e => rw [er] at z; exact z
    | bk e => rw [er] at z; exact z
    | ct e => rw [er] at z; exact z
    | rt d e => rw [er] at z; exact z
    | bad => rw [er] at z; exact z
    | ex y p e =>
      rw [er] at z
      dsimp only at z
      intro w1 Fs1 σ1 dd x1 s1 py
      refine ⟨mt y, hmt y, fun hy a na => ?_, fun hy => ?_⟩
      · rw [if_pos hy] at z
        refine ⟨y, rfl, hy, w1, Fs1, e, rfl, s1, ?_⟩
        cases es : sf y e with
        | ex _ _ _ => rw [es] at z; exact z.elim
        | nx e2 => rw [es] at z; exact SPost.after (r := .nx e2) x1 z
        | bk e2 => rw [es] at z; exact SPost.after (r := .bk e2) x1 z
        | ct e2 => rw [es] at z; exact SPost.after (r := .ct e2) x1 z
        | rt d e2 => rw [es] at z; exact SPost.after (r := .rt d e2) x1 z
        | bad => rw [es] at z; exact z
      · rw [if_neg (by rw [hy]; simp)] at z
        exact z w1 Fs1 σ1 dd x1 s1 py
/-! ### isinstance -/
/-- a datum's built-in type -/
def tyD : D → Option String
  | .non => some "NoneType"
  | .bl _ => some "bool"
  | .int _ => some "int"
  | .str _ => some "str"
  | .uns => none
  | .nd k _ _ => match k with
    | .lst => some "list"
    | .tup => some "tuple"
    | .dct .k _ => some "dict"
    | _ => none
def eIsi (tn : String) (fo : Env → ER) (env : Env) : ER := (fo env).bind fun d e => match tyD d with
  | some t => match kitB t tn with
    | some b => .ok (.bl b) e
    | none => .bad
  | none => .bad
theorem ty_of (lp : Le w.HP w.H0) (l0 : Le w.H0 w.H) {t : String} (h : tyD d = some t) (o : Ow g.c g.X.K w.HP w.H0 w.H d v F) : TyX g.X.K w.H v (.type t) := by
  cases d with
  | non => cases h; obtain rfl := o.1; exact .base .non
  | bl b => cases h; obtain rfl := o.1; exact .base (.bl b)
  | int b => cases h; obtain rfl := o.1; exact .base (.int b)
  | str b => cases h; obtain rfl := o.1; exact .base (.str b)
  | uns => cases h
  | nd k fl xs =>
    obtain ⟨a, vs, rfl, ra, _⟩ := o.node lp l0
    cases k with
    | lst => cases h; exact .base (.lst ra)
    | tup => cases h; exact .base (.tup ra)
    | scr => cases h
    | ins c => cases h
    | dct s ks =>
      cases s with
      | t => cases h
      | k =>
        cases h
        rcases ra with ⟨kvs, h, _⟩ | ⟨kvs, h, _, _, r3, _⟩
        · rcases h with h | ⟨b, h⟩
          · exact .base (.dK h)
          · exact .fDict h
        · cases r3
theorem pex_isi {tn : String} {y : Str} {np2 : Pos} (hg : Gl g.X "isinstance") (hm : g.X.mg "isinstance" = none) (hg2 : Gl g.X y) (hm2 : g.X.mg y = none) (hv2 : bootBuiltins y = some (.type tn)) (ho : POx g o T R fo) (hn : y ≠ "__name__" := by decide) (hdb : (y == ("__debug__" : Str)) = false := by decide)
    (he : starEach [o, .Name y np2] g.X.env = (false, eval o g.X.env) :: starEach [.Name y np2] g.X.env := by rfl) (he2 : starEach [.Name y np2] g.X.env = (false, eval (.Name y np2) g.X.env) :: starEach [] g.X.env := by rfl) (hpl : (backTo pos (starEach [.Name y np2] g.X.env)).any (·.1) = false := by rfl) :
    PEx g (.Call (.Name "isinstance" p) [o, .Name y np2] [] pos) T (eIsi tn fo) := by
  obtain ⟨t, t1, t2⟩ := ho.ex
  have hc : PE g.X (.Name y np2) (tC (.ty tn)) := pe_bltn hg2 hm2 hv2 rfl hn hdb
  refine ⟨fun env d env' q i hi => ?_, _, pe_callB call_isi hg hm (by first | rfl | decide +kernel) (pa_cons t1 (pa_cons hc pa_nil he2) he) (by decide) (by decide) he hpl, fun w Fs σ env s Q q => t2 w Fs σ env s _ ?_⟩
  · unfold eIsi at q
    cases er : fo env with
    | ex x p e => rw [er] at q; cases q
    | bad => rw [er] at q; cases q
    | ok d0 e1 =>
      rw [er] at q
      simp only [ER.bind] at q
      split at q
      · split at q
        · cases q; exact ho.fr _ _ _ er i hi
        · cases q
      · cases q
  · unfold eIsi at q
    cases er : fo env with
    | ex x p e => rw [er] at q; exact q
    | bad => rw [er] at q; exact q
    | ok d0 e1 =>
      rw [er] at q
      simp only [ER.bind] at q
      intro w1 Fs1 v1 F1 x1 s1 o1 n1 p1
      split at q
      · rename_i t ht
        split at q
        · rename_i b hb
          exact ⟨v1, .ty tn, .type t, .type tn, b, rfl, .ty tn, ty_of s1.lp s1.l0 ht o1, kit_ty hb, q w1 Fs1 (.bl b) (fun _ => False) x1 s1 ⟨rfl, fun _ z => z⟩ (fun _ z => z.elim) fun _ z => z.elim⟩
        · exact q.elim
      · exact q.elim
/-- isinstance(e, C) of the exception that the suite handles -/
theorem pex_isE {a : Addr} {oe : Obj} {pn : List (Addr × Obj)} {yi : Nat} {C : Addr} {b : Bool} {y : Str} {np2 np3 : Pos} {pay : Option (Addr × HO)} (hg : Gl (gS g i pay a oe pn).X "isinstance") (hm : g.X.mg "isinstance" = none) (hN : (gS g i pay a oe pn).X.N[i]? = some nm) (hvv : Vis (gS g i pay a oe pn).X.env.scope nm) (hg2 : Gl (gS g i pay a oe pn).X y) (hm2 : g.X.mg y = some (.ref C))
    (ex : ExcC g.X.K (g.xc yi)) (hz : Zc (.ref (g.xc yi)) none oe) (hf : ∃ vs, oe.data = .fields vs) (hk : PySem.W.kitOne g.X.K (.ref (g.xc yi)) (.ref C) = some b) (hdb : (y == ("__debug__" : Str)) = false := by decide) (hdb2 : (nm == ("__debug__" : Str)) = false := by decide) (hcd : (nm == ("__classdict__" : Str)) = false := by decide)
    (he : starEach [.Name nm np3, .Name y np2] g.X.env = (false, eval (.Name nm np3) g.X.env) :: starEach [.Name y np2] g.X.env := by rfl) (he2 : starEach [.Name y np2] g.X.env = (false, eval (.Name y np2) g.X.env) :: starEach [] g.X.env := by rfl) (hpl : (backTo pos (starEach [.Name y np2] g.X.env)).any (·.1) = false := by rfl) :
    PEx (gS g i pay a oe pn) (.Call (.Name "isinstance" p) [.Name nm np3, .Name y np2] [] pos) [] (eConst (.bl b)) := by
  have hc : PE (gS g i pay a oe pn).X (.Name y np2) (tC (.ref C)) := pe_glob hg2 hm2 rfl hdb
  refine ⟨fun env d env' q i hi => by cases q; rfl, _, pe_callB (call_isE ex hz hf) hg hm (by first | rfl | decide +kernel) (pa_cons (pe_var hN hvv hdb2 hcd) (pa_cons hc pa_nil he2) he) (by decide) (by decide) he hpl, fun w Fs σ env s Q q => ?_⟩
  have hσ := (s.hx ⟨i, a, pay⟩ rfl).1
  exact ⟨.ref a, hσ, .ref C, .ref C, b, rfl, fun u h => h, hk, q w Fs (.bl b) (fun _ => False) (s.ext0 _) s ⟨rfl, fun _ z => z⟩ (fun _ z => z.elim) fun _ z => z.elim⟩
end
end DL
set_option Elab.async false
set_option linter.all false
set_option maxRecDepth 100000
set_option maxHeartbeats 4000000
namespace DL
open PySem PySem.Spec PyProof.Rows L2

/-! ### slices -/
def partD : D → Option (Option Int)
  | .non => some none
  | .int i => some (some i)
  | _ => none
def RPost (g : G) (T : List Nat) (w : Wd) (Fs : Fps) (σ : St) (Q : Option Int → Hp → Prop) : ER → Prop
  | .ok d env' => match partD d with
    | some o => ∀ w' Fs', Ext T w Fs w' Fs' → Sr g w' Fs' σ env' → Q o w'.H
    | none => False
  | .ex x p env' => XPost g T w Fs σ x p env'
  | .bad => False
structure PRx (g : G) (e : Option Expr) (T : List Nat) (f : Env → ER) : Prop where
  fr : Frm T f
  ex : ∃ t, PO g.X e t ∧ ∀ w Fs σ env, Sr g w Fs σ env → ∀ Q, RPost g T w Fs σ Q (f env) → t σ w.H Q
/-- a part that is given must be an int -/
def eInt (f : Env → ER) (env : Env) : ER := (f env).bind fun d e => match d with
  | .int i => .ok (.int i) e
  | _ => .bad
def cutL (xs : List D) (lo hi : Option Int) : List D := (xs.drop (HT.sIx xs.length 0 lo)).take (HT.sIx xs.length xs.length hi - HT.sIx xs.length 0 lo)
def hSl (d : D) (lo hi : Option Int) : Option D := match d with
  | .nd k _ xs => match k with
    | .lst => if isRoL xs = true then some (.nd .lst .own (cutL xs lo hi)) else none
    | .scr => if isRoL xs = true then some (.nd .lst .own (cutL xs lo hi)) else none
    | .tup => if isRoL xs = true ∧ ¬ (HT.sIx xs.length 0 lo = 0 ∧ HT.sIx xs.length xs.length hi = xs.length) then some (mkTup (cutL xs lo hi)) else none
    | _ => none
  | .str z => if z.length ≤ sizeLine then some (.str (cutS z lo hi)) else none
  | _ => none
def eSl (fa fl fh : Env → ER) (env : Env) : ER := (fa env).bind fun d e1 => (fl e1).bind fun l e2 => match partD l with
  | some lo => (fh e2).bind fun h e3 => match partD h with
    | some hi => ER.of (hSl d lo hi) e3
    | none => .bad
  | none => .bad
def rSlAny (K : PySem.W.Frag) : V → Option Int → Option Int → Hp → VK → Prop := fun x lo hi H Q => rSlL K x lo hi H Q ∨ (rSlA K x lo hi H Q ∨ rSlS x lo hi H Q)
section
variable {g : G} {w w' w1 w2 w0 : Wd} {Fs Fs' Fs0 Fs1 : Fps} {σ σ' : St} {env env' : Env} {T T' Ta Tb Tl Th R Ra Rb S : List Nat} {d : D} {v : V} {F : Addr → Prop} {xs : List D} {vs : List V} {Q : VK} {p2 pos : Pos} {a e : Expr} {lo hi : Option Expr} {fa fl fh f : Env → ER}
theorem sl_any {X : Cx} : SlR X (rSlAny X.K) := sl_list.or (sl_tupA.or sl_str)
theorem prx_none : PRx g none [] (eConst .non) := ⟨fun env d env' q i _ => by cases q; rfl, _, po_none, fun w Fs σ env s Q q => q w Fs (s.ext0 _) s⟩
theorem prx_some (h : POx g e T R f) : PRx g (some e) T (eInt f) := by
  obtain ⟨t, h1, h2⟩ := h.ex
  refine ⟨fun env d env' q i hi => ?_, _, po_some h1, fun w Fs σ env s Q q => h2 w Fs σ env s _ ?_⟩
  · unfold eInt at q
    cases er : f env with
    | ex x p e => rw [er] at q; cases q
    | bad => rw [er] at q; cases q
    | ok d0 e1 =>
      rw [er] at q
      simp only [ER.bind] at q
      split at q
      · cases q; exact h.fr _ _ _ er i hi
      · cases q
  · unfold eInt at q
    cases er : f env with
    | ex x p e => rw [er] at q; exact q
    | bad => rw [er] at q; exact q
    | ok d0 e1 =>
      rw [er] at q
      simp only [ER.bind] at q
      intro w1 Fs1 v F x1 s1 o n p
      split at q
      · rename_i i
        exact ⟨i, o.1, q w1 Fs1 x1 s1⟩
      · exact q.elim
theorem RoL.cut {c : Cs} {K : PySem.W.Frag} {HP H : Hp} (h : RoL c K HP H xs vs) (lo hi : Option Int) : RoL c K HP H (cutL xs lo hi) (cutV vs lo hi) := by
  have hl := h.len
  refine RoL.of ?_ fun i d v e1 e2 => ?_
  · unfold cutL cutV
    rw [List.length_take, List.length_drop, List.length_take, List.length_drop, hl]
  · unfold cutL at e1
    unfold cutV at e2
    rw [List.getElem?_take] at e1 e2
    split at e1
    · rename_i hi'
      rw [List.getElem?_drop] at e1
      obtain ⟨v', e3, q⟩ := h.get e1
      rw [hl] at e2
      rw [if_pos hi', List.getElem?_drop, e3] at e2
      cases e2
      exact q
    · cases e1
theorem slS_any {dl dh : Option Int} {dr : D} (e : hSl d dl dh = some dr) (lp : Le w.HP w.H0) (l0 : Le w.H0 w.H) (o : Ow g.c g.X.K w.HP w.H0 w.H d v F) (hq : ∀ w' v F, Le w.HP w'.HP → Grow w w' → Ow g.c g.X.K w'.HP w'.H0 w'.H dr v F → (∀ a, F a → w.H a = none) → Q v w'.H) : rSlAny g.X.K v dl dh w.H Q := by
  unfold hSl at e
  split at e
  · rename_i k fl xs
    have lst : (SqL g.X.K w.H = SqL g.X.K w.H) → isRoL xs = true → dr = .nd .lst .own (cutL xs dl dh) → (∀ {a : Addr} {vs : List V}, RAt g.c g.X.K w.H a k xs vs → SqL g.X.K w.H a vs) → rSlAny g.X.K v dl dh w.H Q := by
      intro _ hr ed hk
      obtain ⟨a, vs, rfl, ra, rl⟩ := o.items lp l0 hr
      refine .inl ⟨a, vs, rfl, hk ra, fun p np => ?_⟩
      subst ed
      exact fin_newlst (g := g) lp l0 np (rl.cut dl dh) fun w' v F gr => hq w' v F gr.hp gr
    split at e
    · split at e
      · rename_i hr
        exact lst rfl hr (by cases e; rfl) fun ra => .inl (.inl ra)
      · cases e
    · split at e
      · rename_i hr
        exact lst rfl hr (by cases e; rfl) fun ra => ra
      · cases e
    · split at e
      · rename_i hr
        obtain ⟨a, vs, rfl, ra, rl⟩ := o.items lp l0 hr.1
        refine .inr (.inl ⟨a, vs, rfl, .inl (.inl ra), fun z => ?_, fun _ p np => ?_⟩)
        · rw [rl.len] at z; exact absurd z hr.2
        · cases e
          obtain ⟨w2, eH, lpp, l00, lp2, l02, hn, hpn, ro⟩ := mkTup_ok (g := g) lp l0 np (OwL.of_ro (rl.cut dl dh))
          rw [← eH]
          refine hq w2 (.ref p) (fun _ => False) lpp ⟨lpp, l00, fun b u eu => ?_, fun b z => ?_, fun b z => ?_, lp2, l02⟩ (Ow.of_ro ro fun _ z => z) fun _ z => z.elim
          · rw [eH, upd_ne (ne_of_none eu np)]; exact eu
          · rcases hn b z with y | y | y
            · exact .inl y
            · exact .inr y
            · exact y.elim
          · rcases hpn b z with y | y | y
            · exact .inl y
            · exact .inr y
            · exact y.elim
      · cases e
    · cases e
  · rename_i z
    split at e
    · rename_i hz
      cases e
      obtain rfl := o.1
      exact .inr (.inr ⟨z, rfl, hz, hq w (.str (cutS z dl dh)) (fun _ => False) (Le.refl _) (.refl lp l0) ⟨rfl, fun _ z => z⟩ fun _ z => z.elim⟩)
    · cases e
  · cases e
theorem pex_slice (ha : POx g a Ta Ra fa) (hl : PRx g lo Tl fl) (hh : PRx g hi Th fh) (hR : ∀ i ∈ Ra, i ∉ Tl) (hR2 : ∀ i ∈ Ra, i ∉ Th) : PEx g (.Subscript a (.Slice lo hi none p2) pos) (Ta ++ (Tl ++ Th)) (eSl fa fl fh) := by
  obtain ⟨t, t1, t2⟩ := ha.ex
  obtain ⟨u, u1, u2⟩ := hl.ex
  obtain ⟨y, y1, y2⟩ := hh.ex
  refine ⟨fun env d env' q i hi => ?_, _, pe_slice sl_any t1 u1 y1, fun w Fs σ env s Q q => t2 w Fs σ env s _ ?_⟩
  · have k1 : i ∉ Ta := fun z => hi (by simp [z])
    have k2 : i ∉ Tl := fun z => hi (by simp [z])
    have k3 : i ∉ Th := fun z => hi (by simp [z])
    unfold eSl at q
    cases e1 : fa env with
    | ex x p e => rw [e1] at q; cases q
    | bad => rw [e1] at q; cases q
    | ok d1 n1 =>
      rw [e1] at q
      simp only [ER.bind] at q
      cases e2 : fl n1 with
      | ex x p e => rw [e2] at q; cases q
      | bad => rw [e2] at q; cases q
      | ok d2 n2 =>
        rw [e2] at q
        simp only [ER.bind] at q
        split at q
        · cases e3 : fh n2 with
          | ex x p e => rw [e3] at q; cases q
          | bad => rw [e3] at q; cases q
          | ok d3 n3 =>
            rw [e3] at q
            simp only [ER.bind] at q
            split at q
            · rw [(ER.of_ok q).2, hh.fr _ _ _ e3 i k3, hl.fr _ _ _ e2 i k2, ha.fr _ _ _ e1 i k1]
            · cases q
        · cases q
  · unfold eSl at q
    cases e1 : fa env with
    | ex x p e => rw [e1] at q; exact XPost.weak (T := Ta) (T' := Ta ++ (Tl ++ Th)) q fun i hi => List.mem_append_left _ hi
    | bad => rw [e1] at q; exact q
    | ok d1 n1 =>
      rw [e1] at q
      simp only [ER.bind] at q
      intro w1 Fs1 v F x1 s1 o n p
      refine u2 w1 Fs1 σ n1 s1 _ ?_
      cases e2 : fl n1 with
      | ex x p e => rw [e2] at q; exact fun w2 Fs2 dd z2 s2 py => q w2 Fs2 dd ((x1.trans z2).weak fun i hi => by simp at hi ⊢; rcases hi with hi | hi <;> simp [hi]) s2 py
      | bad => rw [e2] at q; exact q
      | ok d2 n2 =>
        rw [e2] at q
        simp only [ER.bind] at q
        unfold RPost
        dsimp only
        cases ep : partD d2 with
        | none => rw [ep] at q; exact q
        | some ol =>
          rw [ep] at q
          dsimp only at q ⊢
          intro w2 Fs2 x2 s2
          refine y2 w2 Fs2 σ n2 s2 _ ?_
          cases e3 : fh n2 with
          | ex x p e => rw [e3] at q; exact fun w3 Fs3 dd z3 s3 py => q w3 Fs3 dd ((x1.trans (x2.trans z3)).weak fun i hi => by simpa using hi) s3 py
          | bad => rw [e3] at q; exact q
          | ok d3 n3 =>
            rw [e3] at q
            simp only [ER.bind] at q
            unfold RPost
            dsimp only
            cases ep3 : partD d3 with
            | none => rw [ep3] at q; exact q
            | some oh =>
              rw [ep3] at q
              dsimp only at q ⊢
              intro w3 Fs3 x3 s3
              obtain ⟨o2, n2'⟩ := x2.hold o n hR
              obtain ⟨o3, n3'⟩ := x3.hold o2 n2' hR2
              cases eh : hSl d1 ol oh with
              | none => rw [eh] at q; exact q.elim
              | some dr =>
                rw [eh] at q
                exact slS_any eh s3.lp s3.l0 o3 fun w4 v4 F4 _ gr o4 nf => fin_new (x1.trans (x2.trans x3)) s3 gr o4 nf q
end
end DL
set_option Elab.async false
set_option linter.all false
set_option maxRecDepth 100000
set_option maxHeartbeats 4000000
namespace DL
open PySem PySem.Spec PyProof.Rows L2
/-! ### small things that the walks name -/
theorem takes_false {X : Cx} : Takes X (fun _ _ _ _ => False) := fun u s' ⟨_, _, _, _, _, _, _, _, _, _, _, _, _, _, _, _, w⟩ => w.elim
theorem hh_none {g : G} {i : Nat} (e : g.hd = none) : ∀ h, g.hd = some h → h.slot ≠ i := fun h eh => by rw [e] at eh; cases eh
theorem hh_some {g : G} {i j : Nat} {a : Addr} {p : Option (Addr × HO)} (e : g.hd = some ⟨j, a, p⟩) (n : j ≠ i) : ∀ h, g.hd = some h → h.slot ≠ i := fun h eh => by
  rw [e] at eh
  cases eh
  exact n
theorem hu1 {k : Nat} {A : Around} (r : Room k A) : A.units + 1 < cLine := by have := r.un; omega
theorem hu64 {k : Nat} {A : Around} (r : Room k A) : A.units + 64 < cLine := by have := r.un; omega
theorem hu65 {k : Nat} {A : Around} (r : Room k A) : A.units + 65 < cLine := by have := r.un; omega
theorem bt_len : bootBuiltins "len" = some (.builtin "len") := by decide +kernel
theorem bt_abs : bootBuiltins "abs" = some (.builtin "abs") := by decide +kernel
theorem bt_sum : bootBuiltins "sum" = some (.builtin "sum") := by decide +kernel
theorem bt_sorted : bootBuiltins "sorted" = some (.builtin "sorted") := by decide +kernel
theorem bt_max : bootBuiltins "max" = some (.builtin "max") := by decide +kernel
theorem bt_min : bootBuiltins "min" = some (.builtin "min") := by decide +kernel
theorem bt_int : bootBuiltins "int" = some (.type "int") := by decide +kernel
theorem bt_bool : bootBuiltins "bool" = some (.type "bool") := by decide +kernel
theorem bt_str : bootBuiltins "str" = some (.type "str") := by decide +kernel
theorem bt_list : bootBuiltins "list" = some (.type "list") := by decide +kernel
theorem bt_tuple : bootBuiltins "tuple" = some (.type "tuple") := by decide +kernel
theorem bt_dict : bootBuiltins "dict" = some (.type "dict") := by decide +kernel
/-! ### the same functions, without their argument -/
def eLk (fp : Env → PR) (env : Env) : ER := eLook (fp env)
def eSh (i : Nat) (fp : Env → PR) (env : Env) : ER := eShr i (fp env)
def pF (cc j : Nat) (fp : Env → PR) (env : Env) : PR := (fp env).bind (fFld cc j)
def pI (fp : Env → PR) (fi : Env → ER) (env : Env) : PR := (fp env).bind fun p d e1 => (fi e1).toP fun di e2 => fIx p d di e2
section
variable {g : G} {e a b : Expr} {i j cc : Nat} {T Ta Tb R Ra Rb : List Nat} {f fa fb : Env → ER} {fp : Env → PR} {pos : Pos}
theorem pox_p (h : PPx g e i T fp) : POx g e T [i] (eLk fp) := pox_path h
theorem pex_sh (h : PPx g e i T fp) : PEx g e (T ++ [i]) (eSh i fp) := pex_shr h
theorem ppx_f {fld : Str} (hb : PPx g b i T fp) (hc : Cls g.X.K (g.c cc).ad) (hn : NoAttr g.X.K (g.c cc).ad fld) (hj : (g.c cc).nm[j]? = some fld) (hbase : attributeBase b fld g.X.env (eval b g.X.env) = eval b g.X.env := by rfl) :
    PPx g (.Attribute b fld pos) i T (pF cc j fp) := ppx_fld hb hc hn hj hbase
theorem ppx_i (hu : g.X.A.units + 1 < cLine) (ha : PPx g a i Ta fp) (hb : POx g b Tb Rb fb) (hi : i ∉ Tb) (hs : PlainIx b) : PPx g (.Subscript a b pos) i (Ta ++ Tb) (pI fp fb) := ppx_ix hu ha hb hi hs
end
/-- a def that keeps its promise -/
structure PrD (cs : Cs) (xc : Nat → Addr) (xf : Nat → Str) (P : Program) (w : World) (K : PySem.W.Frag) (mg : Str → Option Value) (base : Heap) (k : Nat) (f : Addr) (ps : List Str) (n : Nat) (bk : List Nat) (m : List D → FR) (fd : FuncData) : Prop where
  fn : FnOk P w K mg base (L2.CX P w) k f fd ps (spG cs K xc xf n bk m)
  bd : Binds K fd ps []
end DL
set_option Elab.async false
set_option linter.all false
set_option maxRecDepth 100000
set_option maxHeartbeats 4000000
namespace DL
open PySem PySem.Spec PyProof.Rows L2
/-! ### the end of a law -/
theorem FnOk.exi {P : Program} {w : World} {K : PySem.W.Frag} {mg : Str → Option Value} {base : Heap} {CX : CXT} {k : Nat} {f : Addr} {fd : FuncData} {ps : List Str} {sp : Nat → Sp} (h : ∀ n, FnOk P w K mg base CX k f fd ps (sp n)) :
    FnOk P w K mg base CX k f fd ps (fun vs H Q E => ∃ n, sp n vs H Q E) :=
  ⟨fun vs H Q E ⟨n, q⟩ => (h n).len vs H Q E q, fun A outer s H args us vs Q E hr he hb hv ⟨n, q⟩ => (h n).run A outer s H args us vs Q E hr he hb hv q⟩
/-- the script, as it comes -/
def scrD (ns : List Int) : D := .nd .scr .pm (ns.map .int)
theorem roL_int {c : Cs} {K : PySem.W.Frag} {HP H : Hp} : ∀ ns : List Int, RoL c K HP H (ns.map .int) (ns.map V.int)
  | [] => rfl
  | n :: ns => ⟨.int n, ns.map V.int, rfl, rfl, roL_int ns⟩
theorem spG_law {c : Cs} {K : PySem.W.Frag} {xc : Nat → Addr} {xf : Nat → Str} {m : List D → FR} {H : Hp} {a : Addr} {ns : List Int} (hS : SqL K H a (ns.map V.int)) (hm : m [scrD ns] = .ok (.bl true) []) :
    spG c K xc xf 1 [] m [.ref a] H (fun v _ => v = .bl true) (fun _ _ _ => False) := by
  refine ⟨⟨H, H, H⟩, fun _ _ => False, [scrD ns], rfl, rfl, sr_frozen (Le.refl _) (Le.refl _) ⟨.ref a, [], rfl, ⟨by simp, a, ns.map V.int, rfl, hS, roL_int ns⟩, rfl⟩, ?_⟩
  rw [hm]
  exact fun w' v F Gs _ o _ _ _ => o.1
/-- a law: F gives the written part, the function object, the promise over every base; the script's bits are told -/
theorem walk_ofX {l : PySem.W.OpenLaw} {n k : Nat} {q : Program} {loose : List Str} {XP : (Str → Option Value) → Heap → Prop} {YP : World → Heap → Prop} {d : DefRec} {x : Str}
    (hn : l.most = some n) (hn2 : n ≤ sizeLine) (hdf : d.params.defaults = []) (hr : Room k callerA)
    (F : ∀ (w : World) (mg : Str → Option Value) (fa : Addr) (h : Heap), YP w h → h.Ns mainGlobals mg → mg d.name = some (.ref fa) →
      ∃ (K : PySem.W.Frag) (fd : FuncData) (sp : Sp), K.In h ∧ (∀ (s : Shared) (u : Value), BindsTo s fd ⟨[u], []⟩ [(x, u)]) ∧
        (∀ (H : Hp) (a : Addr) (ns : List Int), ns.length ≤ n → (∀ z ∈ ns, Builtin.Int.intBits z ≤ 1048576) → SqL K H a (ns.map V.int) → sp [.ref a] H (fun v _ => v = .bl true) fun _ _ _ => False) ∧
        ∀ base : Heap, K.In base → base.Ns mainGlobals mg → FnOk l.prog w K mg base (L2.CX l.prog w) k fa fd [x] sp) : PySem.W.WalkO q loose XP YP l.row.toRowW d [] (fun f vs => PySem.call f vs) := by
  refine Att.attach_callB hn hdf ?_
  intro w s₀ s₁ mg mb fa o pm cd doc a vs ns G Y ho hd hcd hmg hobj hints hlen hbits hg
  obtain ⟨K, fd, sp, KX, hb, hsp, hF⟩ := F w mg fa _ Y G.T.g hmg
  refine law_call KX G.T.g G.T.b G.T.builtins G.T.nolimit hg hobj hints (Nat.le_trans hlen hn2) hr hF hb (fun H _ hS => hsp H a ns hlen hbits hS) fun H e s' hc => ?_
  obtain ⟨_, _, _, _, _, _, _, _, _, _, _, _, z⟩ := hc
  exact z
end DL
set_option Elab.async false
set_option linter.all false
set_option maxRecDepth 100000
set_option maxHeartbeats 1000000
namespace DL
open PySem PySem.Spec PyProof.Rows L2
/-! ### the combinators, for plain reckoning -/
theorem eAnd_s (fa fb : Env → ER) (env : Env) : eAnd fa fb env = (fa env).bind fun d e1 => match d with
    | .bl b => if b = true then fb e1 else .ok (.bl false) e1
    | _ => .bad := by
  unfold eAnd
  congr 1
  funext d e1
  cases d with
  | bl b => cases b <;> rfl
  | _ => rfl
theorem eOr_s (fa fb : Env → ER) (env : Env) : eOr fa fb env = (fa env).bind fun d e1 => match d with
    | .bl b => if b = true then .ok (.bl true) e1 else fb e1
    | _ => .bad := by
  unfold eOr
  congr 1
  funext d e1
  cases d with
  | bl b => cases b <;> rfl
  | _ => rfl
theorem eChain_s (h h' : D → D → Option D) (fa fb fc : Env → ER) (env : Env) : eChain h h' fa fb fc env = (fa env).bind fun dx e1 => (fb e1).bind fun dy e2 => match h dx dy with
    | some d => (match d with
      | .bl b => if b = true then (fc e2).bind fun dz e3 => ER.of (h' dy dz) e3 else .ok (.bl false) e2
      | _ => .bad)
    | none => .bad := by
  unfold eChain
  congr 1
  funext dx e1
  congr 1
  funext dy e2
  cases h dx dy with
  | none => rfl
  | some d =>
    cases d with
    | bl b => cases b <;> rfl
    | _ => rfl
/-- one turn of a for loop -/
def turn (tg : D → Env → Option Env) (body : Env → SR) (kl : List Nat) (d : D) (env : Env) : SR := match tg d env with
  | some e1 => match body e1 with
    | .nx e2 => .nx (killS kl e2)
    | .ct e2 => .nx (killS kl e2)
    | .bk e2 => .bk (killS kl e2)
    | .rt d e => .rt d e
    | .ex x p e => .ex x p e
    | .bad => .bad
  | none => .bad
theorem forL_nil (tg : D → Env → Option Env) (body : Env → SR) (kl : List Nat) (env : Env) : forL tg body kl [] env = .nx env := rfl
theorem forL_cons (tg : D → Env → Option Env) (body : Env → SR) (kl : List Nat) (d : D) (ds : List D) (env : Env) : forL tg body kl (d :: ds) env = match turn tg body kl d env with
    | .nx e => forL tg body kl ds e
    | .bk e => .nx e
    | .ct _ => .bad
    | .rt d e => .rt d e
    | .ex x p e => .ex x p e
    | .bad => .bad := by
  unfold turn
  rw [forL]
  cases tg d env with
  | none => rfl
  | some e1 =>
    dsimp only
    cases body e1 <;> rfl
/-- a loop over encoded items, its state encoded in the environment: each turn goes on -/
theorem forL_fold {α σ : Type} {tg : D → Env → Option Env} {body : Env → SR} {kl : List Nat} (enc : α → D) (E : σ → Env) (step : σ → α → σ) (I : σ → Prop) : ∀ (xs : List α) (s : σ), I s → (∀ s, I s → ∀ x ∈ xs, turn tg body kl (enc x) (E s) = .nx (E (step s x)) ∧ I (step s x)) →
    forL tg body kl (xs.map enc) (E s) = .nx (E (xs.foldl step s)) ∧ I (xs.foldl step s)
  | [], s, hi, _ => ⟨rfl, hi⟩
  | x :: xs, s, hi, h => by
    obtain ⟨h1, h2⟩ := h s hi x (by simp)
    rw [List.map_cons, forL_cons, h1]
    exact forL_fold enc E step I xs (step s x) h2 fun s hs y hy => h s hs y (by simp [hy])
/-- .. a loop that may return: f tells whether to stop -/
theorem forL_ret {α σ : Type} {tg : D → Env → Option Env} {body : Env → SR} {kl : List Nat} (enc : α → D) (E : σ → Env) (step : σ → α → Option σ) (out : D) (I : σ → Prop) : ∀ (xs : List α) (s : σ), I s → (∀ s, I s → ∀ x ∈ xs, match step s x with
      | some s' => turn tg body kl (enc x) (E s) = .nx (E s') ∧ I s'
      | none => ∃ e, turn tg body kl (enc x) (E s) = .rt out e) →
    match xs.foldlM step s with
      | some s' => forL tg body kl (xs.map enc) (E s) = .nx (E s') ∧ I s'
      | none => ∃ e, forL tg body kl (xs.map enc) (E s) = .rt out e
  | [], s, hi, _ => ⟨rfl, hi⟩
  | x :: xs, s, hi, h => by
    have h1 := h s hi x (by simp)
    rw [List.map_cons, forL_cons, List.foldlM_cons]
    cases e : step s x with
    | none =>
      rw [e] at h1
      obtain ⟨env, h1⟩ := h1
      rw [h1]
      exact ⟨env, rfl⟩
    | some s' =>
      rw [e] at h1
      rw [h1.1]
      exact forL_ret enc E step out I xs s' h1.2 fun s hs y hy => h s hs y (by simp [hy])
theorem eRng_of {fs : Env → LR} {env e : Env} {ds xs : List D} (h : fs env = .ok ds e) (h2 : itRng ds = some xs) : eRng fs env = .ok xs e := by
  unfold eRng
  rw [h]
  dsimp only
  rw [h2]
/-! ### questions about one datum -/
theorem isUns_i {i : Int} : isUns (.int i) = false := rfl
theorem isUns_b {i : Bool} : isUns (.bl i) = false := rfl
theorem isUns_t {i : Str} : isUns (.str i) = false := rfl
theorem isUns_n : isUns .non = false := rfl
theorem isUns_u : isUns .uns = true := rfl
theorem isOL_own {xs : List D} : isOL (.nd .lst .own xs) = true := rfl
theorem isIns_nd {cc c' : Nat} {fl : Fl} {xs : List D} : isIns cc (.nd (.ins c') fl xs) = decide (c' = cc) := rfl
theorem isPm_i {i : Int} : isPm (.int i) = true := rfl
theorem isPm_b {i : Bool} : isPm (.bl i) = true := rfl
theorem isPm_t {i : Str} : isPm (.str i) = true := rfl
theorem isPm_n : isPm .non = true := rfl
theorem isPm_pm {k : Kd} {xs : List D} : isPm (.nd k .pm xs) = true := rfl
theorem isPm_ro' {k : Kd} {xs : List D} : isPm (.nd k .ro xs) = false := rfl
theorem isPm_own {k : Kd} {xs : List D} : isPm (.nd k .own xs) = false := rfl
theorem roF_own : roF .own = false := rfl
theorem roF_ro : roF .ro = true := rfl
theorem roF_pm : roF .pm = true := rfl
theorem frF_own : frF .own = .ro := rfl
theorem frF_ro : frF .ro = .ro := rfl
theorem frF_pm : frF .pm = .pm := rfl
theorem ownF_own : ownF .own = true := rfl
theorem ownF_ro : ownF .ro = false := rfl
theorem ownF_pm : ownF .pm = false := rfl
/-! ### lists of ints, items -/
def dI (ms : List Int) : List D := ms.map .int
theorem dI_nil : dI [] = [] := rfl
theorem dI_app (a b : List Int) : dI (a ++ b) = dI a ++ dI b := by simp [dI]
theorem dI_len (ms : List Int) : (dI ms).length = ms.length := by simp [dI]
theorem dI_get (ms : List Int) (i : Nat) : (dI ms)[i]? = (ms[i]?).map .int := by simp [dI]
theorem dI_set (ms : List Int) (i : Nat) (x : Int) : (dI ms).set i (.int x) = dI (ms.set i x) := by simp [dI, List.map_set]
theorem frzL_dI : ∀ ms : List Int, frzL (dI ms) = dI ms
  | [] => rfl
  | a :: r => by
    show frzL (.int a :: dI r) = _
    rw [frzL, frzL_dI r]; rfl
theorem isRoL_dI : ∀ ms : List Int, isRoL (dI ms) = true
  | [] => rfl
  | a :: r => by
    show isRoL (.int a :: dI r) = _
    rw [isRoL, isRoL_dI r]; rfl
theorem cleanL_dI : ∀ ms : List Int, cleanL (dI ms) = true
  | [] => rfl
  | a :: r => by
    show cleanL (.int a :: dI r) = _
    rw [cleanL, cleanL_dI r]; rfl
theorem pmzL_dI : ∀ ms : List Int, pmzL (dI ms) = dI ms
  | [] => rfl
  | a :: r => by
    show pmzL (.int a :: dI r) = _
    rw [pmzL, pmzL_dI r]; rfl
theorem dokL_dI (k : Nat) : ∀ ms : List Int, dokL (k + 1) (dI ms) = true
  | [] => rfl
  | a :: r => by
    show dokL (k + 1) (.int a :: dI r) = _
    rw [dokL, dokL_dI k r]; simp [dok]
theorem any_eqd_dI (x : Int) : ∀ ms : List Int, ((dI ms).any fun z => eqd z (.int x)) = ms.contains x
  | [] => rfl
  | a :: r => by
    show (List.any (.int a :: dI r) fun z => eqd z (.int x)) = _
    rw [List.any_cons, any_eqd_dI x r, List.contains_cons]
    congr 1
    show (a == x) = (x == a)
    rw [Bool.eq_iff_iff, beq_iff_eq, beq_iff_eq]
    exact eq_comm
theorem inD_dI (x : Int) (fl : Fl) (ms : List Int) : inD (.int x) (.nd .lst fl (dI ms)) = some (ms.contains x) := by
  have h1 : dok 40 (.int x) = true := by simp [dok]
  simp only [inD, h1, dokL_dI 38 ms, and_self, if_true, any_eqd_dI]
theorem eqdL_dI : ∀ a b : List Int, eqdL (dI a) (dI b) = decide (a = b)
  | [], [] => by simp [dI, eqdL]
  | [], b :: bs => by simp [dI, eqdL]
  | a :: as, [] => by simp [dI, eqdL]
  | a :: as, b :: bs => by
    show eqdL (.int a :: dI as) (.int b :: dI bs) = _
    rw [eqdL, eqdL_dI as bs]
    simp only [eqd]
    by_cases h : a = b
    · subst h; simp
    · simp [h]
theorem ixN_nat {n i : Nat} (h : i < n) : ixN n (i : Int) = some i := by
  unfold ixN
  rw [if_pos (Int.natCast_nonneg i), if_pos (by omega)]
  simp
theorem ixN_of {n : Nat} {i : Int} (h0 : 0 ≤ i) (h : i < n) : ixN n i = some i.toNat := by
  unfold ixN
  rw [if_pos h0, if_pos h]
theorem ixN_z (n : Nat) : ixN (n + 1) 0 = some 0 := by
  unfold ixN
  simp
end DL
set_option Elab.async false
set_option linter.all false
set_option maxRecDepth 100000
set_option maxHeartbeats 1000000
namespace DL
open PySem PySem.Spec PyProof.Rows L2
/-! ### more loops, for plain reckoning -/
section
variable {tg : D → Env → Option Env} {body : Env → SR} {kl : List Nat}
/-- a loop, told by what stays true -/
theorem forL_I {α σ : Type} (enc : α → D) (E : σ → Env) (I : σ → Prop) : ∀ (xs : List α) (s : σ), I s → (∀ s, I s → ∀ x ∈ xs, ∃ s', turn tg body kl (enc x) (E s) = .nx (E s') ∧ I s') →
    ∃ s', forL tg body kl (xs.map enc) (E s) = .nx (E s') ∧ I s'
  | [], s, hi, _ => ⟨s, rfl, hi⟩
  | x :: xs, s, hi, h => by
    obtain ⟨s1, h1, h2⟩ := h s hi x (by simp)
    rw [List.map_cons, forL_cons, h1]
    exact forL_I enc E I xs s1 h2 fun s hs y hy => h s hs y (by simp [hy])
/-- .. by the count of its turns -/
theorem forL_K {σ : Type} (enc : Nat → D) (E : σ → Env) (I : Nat → σ → Prop) : ∀ (n k : Nat) (s : σ), I k s → (∀ j s, k ≤ j → j < k + n → I j s → ∃ s', turn tg body kl (enc j) (E s) = .nx (E s') ∧ I (j + 1) s') →
    ∃ s', forL tg body kl ((List.range' k n).map enc) (E s) = .nx (E s') ∧ I (k + n) s'
  | 0, k, s, hi, _ => ⟨s, rfl, hi⟩
  | n + 1, k, s, hi, h => by
    obtain ⟨s1, h1, h2⟩ := h k s (Nat.le_refl _) (by omega) hi
    obtain ⟨s2, h3, h4⟩ := forL_K enc E I n (k + 1) s1 h2 fun j s a b => h j s (by omega) (by omega)
    refine ⟨s2, ?_, by rw [show k + (n + 1) = k + 1 + n by omega]; exact h4⟩
    rw [List.range'_succ, List.map_cons, forL_cons, h1]
    exact h3
theorem forL_N {σ : Type} (lo c : Int) (E : σ → Env) (I : Nat → σ → Prop) (n : Nat) (s : σ) (h0 : I 0 s) (h : ∀ k s, k < n → I k s → ∃ s', turn tg body kl (.int (lo + (k : Nat) * c)) (E s) = .nx (E s') ∧ I (k + 1) s') :
    ∃ s', forL tg body kl (rngD lo c n) (E s) = .nx (E s') ∧ I n s' := by
  unfold rngD
  rw [List.range_eq_range']
  obtain ⟨s', h1, h2⟩ := forL_K (tg := tg) (body := body) (kl := kl) (fun i => .int (lo + (i : Nat) * c)) E I n 0 s h0 fun j s _ hj hi => h j s (by omega) hi
  exact ⟨s', h1, by rw [Nat.zero_add] at h2; exact h2⟩
theorem forL_N0 {σ : Type} (E : σ → Env) (I : Nat → σ → Prop) (n : Nat) (s : σ) (h0 : I 0 s) (h : ∀ k s, k < n → I k s → ∃ s', turn tg body kl (.int (k : Nat)) (E s) = .nx (E s') ∧ I (k + 1) s') :
    ∃ s', forL tg body kl (rngD 0 1 n) (E s) = .nx (E s') ∧ I n s' := by
  refine forL_N 0 1 E I n s h0 fun k s hk hi => ?_
  rw [show (0 : Int) + (k : Nat) * 1 = (k : Nat) by omega]
  exact h k s hk hi
/-- a loop that an exception may end: P tells what is known then -/
theorem forL_exc {α σ : Type} (enc : α → D) (E : σ → Env) (step : σ → α → Option σ) (x : Nat) (P : Env → Prop) (I : σ → Prop) : ∀ (xs : List α) (s : σ), I s → (∀ s, I s → ∀ x1 ∈ xs, match step s x1 with
      | some s' => turn tg body kl (enc x1) (E s) = .nx (E s') ∧ I s'
      | none => ∃ e, turn tg body kl (enc x1) (E s) = .ex x none e ∧ P e) →
    match xs.foldlM step s with
      | some s' => forL tg body kl (xs.map enc) (E s) = .nx (E s') ∧ I s'
      | none => ∃ e, forL tg body kl (xs.map enc) (E s) = .ex x none e ∧ P e
  | [], s, hi, _ => ⟨rfl, hi⟩
  | y :: xs, s, hi, h => by
    have h1 := h s hi y (by simp)
    rw [List.map_cons, forL_cons, List.foldlM_cons]
    cases e : step s y with
    | none =>
      rw [e] at h1
      obtain ⟨env, h1, h2⟩ := h1
      rw [h1]
      exact ⟨env, rfl, h2⟩
    | some s' =>
      rw [e] at h1
      rw [h1.1]
      exact forL_exc enc E step x P I xs s' h1.2 fun s hs z hz => h s hs z (by simp [hz])
end
/-! ### comprehensions -/
/-- one turn: what is put in, and how it stands then -/
def lcT (tg : D → Env → Option Env) (ct fe : Env → ER) (vs : List Nat) (d : D) (env : Env) : Option (List D × Env) := match tg d env with
  | some e1 => match ct e1 with
    | .ok t e2 => match t with
      | .bl b => if b = true then match fe e2 with
        | .ok y e3 => some ([y], killS vs e3)
        | _ => none
        else some ([], killS vs e2)
      | _ => none
    | _ => none
  | none => none
theorem lcL_cons (tg : D → Env → Option Env) (ct fe : Env → ER) (vs : List Nat) (acc : List D) (d : D) (ds : List D) (env : Env) : lcL tg ct fe vs acc (d :: ds) env = match lcT tg ct fe vs d env with
    | some (ys, e) => lcL tg ct fe vs (acc ++ ys) ds e
    | none => .bad := by
  unfold lcT
  rw [lcL]
  cases tg d env with
  | none => rfl
  | some e1 =>
    dsimp only
    cases ct e1 with
    | ok t e2 =>
      cases t with
      | bl b =>
        cases b with
        | true =>
          simp only [if_true]
          cases fe e2 <;> rfl
        | false => simp only [Bool.false_eq_true, if_false, List.append_nil]
      | _ => rfl
    | _ => rfl
theorem lcL_flt {α : Type} {tg : D → Env → Option Env} {ct fe : Env → ER} {vs : List Nat} (enc f : α → D) (q : α → Bool) (env : Env) : ∀ (xs : List α) (acc : List D), (∀ x ∈ xs, lcT tg ct fe vs (enc x) env = some (if q x = true then [f x] else [], env)) →
    lcL tg ct fe vs acc (xs.map enc) env = .ok (.nd .lst .own (acc ++ (xs.filter q).map f)) env
  | [], acc, _ => by simp [lcL]
  | x :: xs, acc, h => by
    rw [List.map_cons, lcL_cons, h x (by simp)]
    dsimp only
    rw [lcL_flt enc f q env xs _ fun y hy => h y (by simp [hy])]
    cases e : q x <;> simp [e]
theorem lcL_map {α : Type} {tg : D → Env → Option Env} {ct fe : Env → ER} {vs : List Nat} (enc f : α → D) (env : Env) (xs : List α) (acc : List D) (h : ∀ x ∈ xs, lcT tg ct fe vs (enc x) env = some ([f x], env)) :
    lcL tg ct fe vs acc (xs.map enc) env = .ok (.nd .lst .own (acc ++ xs.map f)) env := by
  rw [lcL_flt enc f (fun _ => true) env xs acc fun x hx => by rw [h x hx]; rfl]
  rw [List.filter_eq_self.mpr fun _ _ => rfl]
/-! ### ranges -/
theorem rng1 {m : Nat} (h : m ≤ 1000) : itRng [.int (m : Int)] = some (rngD 0 1 m) := by
  have e : isSm (m : Int) = true := isSm_s.mpr ⟨by omega, by omega⟩
  simp only [itRng, e, if_true, Int.toNat_natCast]
theorem rng1i {m : Int} (h0 : 0 ≤ m) (h : m ≤ 1000) : itRng [.int m] = some (rngD 0 1 m.toNat) := by
  have e : isSm m = true := isSm_s.mpr ⟨by omega, by omega⟩
  simp only [itRng, e, if_true]
theorem rng2 {a b : Int} (ha : a.natAbs ≤ 1000) (hb : b.natAbs ≤ 1000) : itRng [.int a, .int b] = some (rngD a 1 (b - a).toNat) := by
  have e : isSm a = true := isSm_s.mpr ⟨by omega, by omega⟩
  have e2 : isSm b = true := isSm_s.mpr ⟨by omega, by omega⟩
  simp only [itRng, e, e2, and_self, if_true]
theorem rng_dI (m : Nat) : rngD 0 1 m = dI ((List.range m).map fun i : Nat => (i : Int)) := by
  unfold rngD dI
  rw [List.map_map]
  exact List.map_congr_left fun i _ => by simp
/-! ### small data compared -/
theorem hNe_i (x y : Int) : hNe (.int x) (.int y) = some (.bl (decide (x ≠ y))) := by
  have h1 : dok 40 (.int x) = true := by simp [dok]
  have h2 : dok 40 (.int y) = true := by simp [dok]
  simp only [hNe, h1, h2, and_self, if_true, eqd]
  congr 2
  by_cases h : x = y <;> simp [h]
theorem hEq_i (x y : Int) : hEq (.int x) (.int y) = some (.bl (decide (x = y))) := by
  have h1 : dok 40 (.int x) = true := by simp [dok]
  have h2 : dok 40 (.int y) = true := by simp [dok]
  simp only [hEq, h1, h2, and_self, if_true, eqd]
  congr 2
theorem hNe_b (x y : Bool) : hNe (.bl x) (.bl y) = some (.bl (!(x == y))) := by
  have h1 : dok 40 (.bl x) = true := by simp [dok]
  have h2 : dok 40 (.bl y) = true := by simp [dok]
  simp only [hNe, h1, h2, and_self, if_true, eqd]
theorem hEq_b (x y : Bool) : hEq (.bl x) (.bl y) = some (.bl (x == y)) := by
  have h1 : dok 40 (.bl x) = true := by simp [dok]
  have h2 : dok 40 (.bl y) = true := by simp [dok]
  simp only [hEq, h1, h2, and_self, if_true, eqd]
theorem hNe_b2 (f f' : Fl) (a b c d : Bool) : hNe (.nd .lst f [.bl a, .bl b]) (.nd .lst f' [.bl c, .bl d]) = some (.bl (!(a == c && b == d))) := by
  simp [hNe, dok, dokL, eqd, eqdL, seqK]
theorem ne_non (x : D) (h : x ≠ .non) (hd : dok 40 x = true) : hNe x .non = some (.bl true) := by
  have h2 : dok 40 D.non = true := by simp [dok]
  simp only [hNe, hd, h2, and_self, if_true]
  cases x <;> first | rfl | exact absurd rfl h
theorem mulL {i j : Int} (h : -(2 ^ 64) < i ∧ i < 2 ^ 64) : hMul (.int i) (.int j) = some (.int (i * j)) := by
  have e : mulOk i j = true := by
    unfold mulOk
    simp only [Bool.or_eq_true, Bool.and_eq_true, decide_eq_true_eq]
    first | exact .inl h | exact .inr h
  simp only [hMul, hOr, hMulI, hI, e, if_true, Option.map_some]
theorem mulR {i j : Int} (h : -(2 ^ 64) < j ∧ j < 2 ^ 64) : hMul (.int i) (.int j) = some (.int (i * j)) := by
  have e : mulOk i j = true := by
    unfold mulOk
    simp only [Bool.or_eq_true, Bool.and_eq_true, decide_eq_true_eq]
    first | exact .inl h | exact .inr h
  simp only [hMul, hOr, hMulI, hI, e, if_true, Option.map_some]
/-! ### encoded lists -/
theorem roL_map {α : Type} (f : α → D) (h : ∀ a, isRo (f a) = true) : ∀ as : List α, isRoL (as.map f) = true
  | [] => rfl
  | a :: r => by rw [List.map_cons, isRoL, h, roL_map f h r]; rfl
theorem frzL_mapE {α : Type} (f g : α → D) (h : ∀ a, frz (f a) = g a) : ∀ as : List α, frzL (as.map f) = as.map g
  | [] => rfl
  | a :: r => by rw [List.map_cons, frzL, h, frzL_mapE f g h r]; rfl
theorem clL_map {α : Type} (f : α → D) (h : ∀ a, clean (f a) = true) : ∀ as : List α, cleanL (as.map f) = true
  | [] => rfl
  | a :: r => by rw [List.map_cons, cleanL, h, clL_map f h r]; rfl
theorem pmzL_mapE {α : Type} (f g : α → D) (h : ∀ a, pmz (f a) = g a) : ∀ as : List α, pmzL (as.map f) = as.map g
  | [] => rfl
  | a :: r => by rw [List.map_cons, pmzL, h, pmzL_mapE f g h r]; rfl
theorem dI_at {f : List Int} {i : Int} (h0 : 0 ≤ i) (h1 : i < f.length) : L2.ixN (dI f).length i = some i.toNat ∧ L2.ixN f.length i = some i.toNat ∧ (dI f)[i.toNat]? = some (.int (f.getD i.toNat 0)) := by
  have hl : i.toNat < f.length := by omega
  refine ⟨by rw [dI_len]; exact ixN_of h0 h1, ixN_of h0 h1, ?_⟩
  rw [dI_get, List.getElem?_eq_getElem hl, List.getD_eq_getElem?_getD, List.getElem?_eq_getElem hl]
  rfl
/-! ### stages -/
theorem sSeq_nx {f h : Env → SR} {env e : Env} (q : f env = .nx e) : sSeq f h env = h e := by unfold sSeq; rw [q]
theorem sSeq_rt {f h : Env → SR} {env e : Env} {d : D} (q : f env = .rt d e) : sSeq f h env = .rt d e := by unfold sSeq; rw [q]
theorem rt_seq {f h : Env → SR} {env e : Env} {d : D} (q : f env = .nx e) (r : ∃ e', h e = .rt d e') : ∃ e', sSeq f h env = .rt d e' := by rw [sSeq_nx q]; exact r
theorem rt_now {f h : Env → SR} {env e : Env} {d : D} (q : f env = .rt d e) : ∃ e', sSeq f h env = .rt d e' := ⟨e, sSeq_rt q⟩
theorem FR.of_rt {r : SR} {d : D} (h : ∃ e, r = .rt d e) : FR.of [] r = .ok d [] := by
  obtain ⟨e, rfl⟩ := h; rfl
theorem cutL_dI (ns : List Int) (lo hi : Option Int) : cutL (dI ns) lo hi = dI ((ns.drop (HT.sIx ns.length 0 lo)).take (HT.sIx ns.length ns.length hi - HT.sIx ns.length 0 lo)) := by
  unfold cutL
  rw [dI_len]
  unfold dI
  rw [List.map_take, List.map_drop]
theorem frz_scrD (ns : List Int) : frz (scrD ns) = scrD ns := by
  show D.nd .scr (frF .pm) (frzL (dI ns)) = _
  rw [frzL_dI]; rfl
theorem isRo_scrD (ns : List Int) : isRo (scrD ns) = true := by
  show (roF .pm && isRoL (dI ns)) = true
  rw [isRoL_dI]; rfl
mutual
theorem eqd_refl : ∀ (d : D) (n : Nat), dok n d = true → eqd d d = true
  | .non, _, _ => rfl
  | .bl b, _, _ => by simp [eqd]
  | .int b, _, _ => by simp [eqd]
  | .str b, _, _ => by simp [eqd]
  | .uns, _, h => by simp [dok] at h
  | .nd k fl xs, 0, h => by simp [dok] at h
  | .nd k fl xs, n + 1, h => by
    simp only [dok, Bool.and_eq_true] at h
    have z := eqdL_refl xs n h.2
    cases k <;> simp_all [eqd, seqK]
theorem eqdL_refl : ∀ (ds : List D) (n : Nat), dokL n ds = true → eqdL ds ds = true
  | [], _, _ => rfl
  | d :: ds, n, h => by
    simp only [dokL, Bool.and_eq_true] at h
    rw [eqdL, eqd_refl d n h.1, eqdL_refl ds n h.2]; rfl
end
end DL
set_option linter.all false
namespace Mn
/-! ### networks, by plain lists -/
/-- an arc -/
abbrev Arc := Int × Int × Int × Int
def ent (a : Arc) (ms : List Int) : Bool := !ms.contains a.1 && ms.contains a.2.1
def lea (a : Arc) (ms : List Int) : Bool := ms.contains a.1 && !ms.contains a.2.1
/-- what one arc adds to the bound -/
def ubStep (arc : Int) (ms : List Int) (b : Int) (p : Arc × Nat) : Int :=
  if lea p.1 ms = true then b + p.1.2.2.2 else if (p.2 : Int) ≠ arc ∧ ent p.1 ms = true then b - p.1.2.2.1 else b
def lbStep (arc : Int) (ms : List Int) (b : Int) (p : Arc × Nat) : Int :=
  if ent p.1 ms = true then b + p.1.2.2.1 else if (p.2 : Int) ≠ arc ∧ lea p.1 ms = true then b - p.1.2.2.2 else b
def inc (f : List Int) (i : Nat) (x : Int) : List Int := f.set i (f.getD i 0 + x)
theorem inc_len (f : List Int) (i : Nat) (x : Int) : (inc f i x).length = f.length := by simp [inc]
def okN (n : Int) (a : Arc) : Prop := 0 ≤ a.1 ∧ a.1 < n ∧ 0 ≤ a.2.1 ∧ a.2.1 < n
def surStep (vs : List Int) (f : List Int) (p : Arc × Nat) : List Int := inc (inc f p.1.1.toNat (-(vs.getD p.2 0))) p.1.2.1.toNat (vs.getD p.2 0)
def sur (n : Int) (as : List Arc) (vs : List Int) : List Int := (as.zipIdx 0).foldl (surStep vs) (List.replicate n.toNat 0)
def capOk (vs : List Int) (p : Arc × Nat) : Bool := decide (p.1.2.2.1 ≤ vs.getD p.2 0) && decide (vs.getD p.2 0 ≤ p.1.2.2.2)
def isf (n : Int) (as : List Arc) (vs : List Int) : Bool := decide (vs.length = as.length) && ((as.zipIdx 0).all (capOk vs) && decide (sur n as vs = List.replicate n.toNat 0))
theorem zip_mem {as : List Arc} {p : Arc × Nat} (h : p ∈ as.zipIdx 0) : p.1 ∈ as ∧ p.2 < as.length := by
  obtain ⟨h1, h2, h3⟩ := List.mem_zipIdx h
  exact ⟨by rw [h3]; exact List.getElem_mem _, by omega⟩
/-- is the arc one of a network -/
def val (n : Int) (a : Arc) : Bool := decide (0 ≤ a.1) && decide (a.1 < n) && decide (0 ≤ a.2.1) && decide (a.2.1 < n) && decide (a.1 ≠ a.2.1) && decide (0 ≤ a.2.2.1) && decide (a.2.2.1 ≤ a.2.2.2)
theorem val_okN {n : Int} {a : Arc} (h : val n a = true) : okN n a := by
  simp only [val, Bool.and_eq_true, decide_eq_true_eq] at h
  exact ⟨h.1.1.1.1.1.1, h.1.1.1.1.1.2, h.1.1.1.1.2, h.1.1.1.2⟩
/-! ### weighted sums -/
def dot (w : Nat → Int) : Nat → List Int → Int
  | _, [] => 0
  | k, x :: r => w k * x + dot w (k + 1) r
theorem dot_inc (w : Nat → Int) (x : Int) : ∀ (f : List Int) (k i : Nat), i < f.length → dot w k (inc f i x) = dot w k f + w (k + i) * x
  | [], k, i, h => absurd h (by simp)
  | y :: r, k, 0, h => by
    show w k * (y + x) + dot w (k + 1) r = w k * y + dot w (k + 1) r + w (k + 0) * x
    simp only [Int.mul_add, Nat.add_zero]; omega
  | y :: r, k, i + 1, h => by
    have e : inc (y :: r) (i + 1) x = y :: inc r i x := by simp [inc]
    rw [e]
    show w k * y + dot w (k + 1) (inc r i x) = w k * y + dot w (k + 1) r + w (k + (i + 1)) * x
    rw [dot_inc w x r (k + 1) i (by simpa using h), show k + 1 + i = k + (i + 1) by omega]; omega
theorem dot_zero (w : Nat → Int) : ∀ (n k : Nat), dot w k (List.replicate n 0) = 0
  | 0, k => rfl
  | n + 1, k => by
    rw [List.replicate_succ]
    show w k * 0 + dot w (k + 1) (List.replicate n 0) = 0
    rw [dot_zero w n (k + 1), Int.mul_zero]; rfl
theorem dot_off : ∀ (f : List Int) (w : Nat → Int) (k : Nat), (∀ j, k ≤ j → w j = 0) → dot w k f = 0
  | [], w, k, _ => rfl
  | x :: r, w, k, h => by
    show w k * x + dot w (k + 1) r = 0
    rw [h k (Nat.le_refl _), dot_off r w (k + 1) fun j hj => h j (by omega), Int.zero_mul]; rfl
theorem dot_cong : ∀ (f : List Int) (w w' : Nat → Int) (k : Nat), (∀ j, k ≤ j → w j = w' j) → dot w k f = dot w' k f
  | [], w, w', k, _ => rfl
  | x :: r, w, w', k, h => by
    show w k * x + dot w (k + 1) r = w' k * x + dot w' (k + 1) r
    rw [h k (Nat.le_refl _), dot_cong r w w' (k + 1) fun j hj => h j (by omega)]
theorem dot_all : ∀ (f : List Int) (k : Nat), (∀ w : Nat → Int, dot w k f = 0) → f = List.replicate f.length 0
  | [], k, _ => rfl
  | x :: r, k, h => by
    have h1 : (if k = k then (1 : Int) else 0) * x + dot (fun j => if j = k then 1 else 0) (k + 1) r = 0 := h fun j => if j = k then 1 else 0
    rw [dot_off r _ (k + 1) fun j hj => by rw [if_neg (by omega)]] at h1
    have hx : x = 0 := by simpa using h1
    have hr := dot_all r (k + 1) fun w => by
      have h2 : (if k ≤ k then (0 : Int) else w k) * x + dot (fun j => if j ≤ k then 0 else w j) (k + 1) r = 0 := h fun j => if j ≤ k then 0 else w j
      rw [if_pos (Nat.le_refl _), Int.zero_mul, Int.zero_add] at h2
      rw [← h2]
      exact dot_cong r _ _ (k + 1) fun j hj => by rw [if_neg (by omega)]
    rw [List.length_cons, List.replicate_succ, ← hr, hx]
/-- what the arcs carry, by weights of the nodes -/
def fD (w : Int → Int) : List Arc → List Int → Int
  | a :: as, v :: vs => v * (w a.2.1 - w a.1) + fD w as vs
  | _, _ => 0
theorem fD_cons (w : Int → Int) (a : Arc) (as : List Arc) (v : Int) (vs : List Int) : fD w (a :: as) (v :: vs) = v * (w a.2.1 - w a.1) + fD w as vs := rfl
theorem fD_zero (w : Int → Int) : ∀ (as : List Arc) (n : Nat), fD w as (List.replicate n 0) = 0
  | [], n => by cases n <;> rfl
  | a :: as, 0 => rfl
  | a :: as, n + 1 => by
    rw [List.replicate_succ]
    show 0 * (w a.2.1 - w a.1) + fD w as (List.replicate n 0) = 0
    rw [fD_zero w as n, Int.zero_mul]; rfl
theorem fD_inc (w : Int → Int) (x : Int) : ∀ (as : List Arc) (vs : List Int) (j : Nat) (a : Arc), vs.length = as.length → as[j]? = some a → fD w as (inc vs j x) = fD w as vs + x * (w a.2.1 - w a.1)
  | [], vs, j, a, _, h => by simp at h
  | b :: as, [], j, a, hl, _ => by simp at hl
  | b :: as, v :: vs, 0, a, hl, h => by
    simp at h; subst h
    show (v + x) * (w b.2.1 - w b.1) + fD w as vs = v * (w b.2.1 - w b.1) + fD w as vs + x * (w b.2.1 - w b.1)
    rw [Int.add_mul]; omega
  | b :: as, v :: vs, j + 1, a, hl, h => by
    have e : inc (v :: vs) (j + 1) x = v :: inc vs j x := by simp [inc]
    rw [e]
    show v * (w b.2.1 - w b.1) + fD w as (inc vs j x) = v * (w b.2.1 - w b.1) + fD w as vs + x * (w a.2.1 - w a.1)
    rw [fD_inc w x as vs j a (by simpa using hl) (by simpa using h)]; omega
theorem drop_get {vs : List Int} {k : Nat} (h : k < vs.length) : vs.drop k = vs.getD k 0 :: vs.drop (k + 1) := by
  rw [List.drop_eq_getElem_cons h, List.getD_eq_getElem?_getD, List.getElem?_eq_getElem h]; rfl
theorem dot_sur (w : Int → Int) (n : Int) (vs : List Int) : ∀ (as : List Arc) (k : Nat) (f : List Int), (∀ a ∈ as, okN n a) → (f.length : Int) = n → k + as.length = vs.length →
    dot (fun i => w i) 0 ((as.zipIdx k).foldl (surStep vs) f) = dot (fun i => w i) 0 f + fD w as (vs.drop k)
  | [], k, f, _, _, _ => by
    simp only [List.zipIdx_nil, List.foldl_nil, fD, Int.add_zero]
  | a :: as, k, f, ho, hf, hl => by
    obtain ⟨h1, h2, h3, h4⟩ := ho a (by simp)
    rw [List.zipIdx_cons, List.foldl_cons, dot_sur w n vs as (k + 1) _ (fun b hb => ho b (by simp [hb])) (by unfold surStep; rw [inc_len, inc_len]; exact hf) (by simp at hl; omega)]
    unfold surStep
    rw [dot_inc _ _ _ _ _ (by rw [inc_len]; dsimp only; omega), dot_inc _ _ _ _ _ (by dsimp only; omega), drop_get (vs := vs) (k := k) (by simp at hl; omega)]
    dsimp only [fD]
    rw [Nat.zero_add, Nat.zero_add, Int.toNat_of_nonneg h1, Int.toNat_of_nonneg h3]
    generalize vs.getD k 0 = v
    generalize fD w as (vs.drop (k + 1)) = r
    generalize dot (fun i => w i) 0 f = d
    rw [Int.mul_sub, Int.mul_neg, Int.mul_comm v, Int.mul_comm v]
    omega
theorem sur_len (n : Int) (as : List Arc) (vs : List Int) : (sur n as vs).length = n.toNat := by
  unfold sur
  suffices ∀ (ps : List (Arc × Nat)) (f : List Int), (ps.foldl (surStep vs) f).length = f.length by rw [this, List.length_replicate]
  intro ps
  induction ps with
  | nil => intro f; rfl
  | cons p ps ih => intro f; rw [List.foldl_cons, ih]; unfold surStep; rw [inc_len, inc_len]
theorem dot_surs (w : Int → Int) {n : Int} {as : List Arc} {vs : List Int} (h0 : 0 ≤ n) (ho : ∀ a ∈ as, okN n a) (hl : vs.length = as.length) : dot (fun i => w i) 0 (sur n as vs) = fD w as vs := by
  unfold sur
  rw [dot_sur w n vs as 0 _ ho (by rw [List.length_replicate]; omega) (by omega), dot_zero, Int.zero_add, List.drop_zero]
/-- nothing is left over anywhere -/
theorem sur_zero {n : Int} {as : List Arc} {vs : List Int} (h0 : 0 ≤ n) (ho : ∀ a ∈ as, okN n a) (hl : vs.length = as.length) : sur n as vs = List.replicate n.toNat 0 ↔ ∀ w, fD w as vs = 0 := by
  constructor
  · intro h w
    rw [← dot_surs w h0 ho hl, h, dot_zero]
  · intro h
    have z := dot_all (sur n as vs) 0 fun w => by
      have := dot_surs (fun i => w i.toNat) h0 ho hl
      simp only [Int.toNat_natCast] at this
      rw [this]; exact h _
    rw [sur_len] at z; exact z
/-! ### bounds by sets -/
def ind (ms : List Int) (v : Int) : Int := if ms.contains v = true then 1 else 0
/-- the values at the place -/
def atA (arc : Int) : Nat → List Int → Int
  | _, [] => 0
  | k, v :: vs => (if (k : Int) = arc then v else 0) + atA arc (k + 1) vs
theorem atA_cons (arc : Int) (k : Nat) (v : Int) (vs : List Int) : atA arc k (v :: vs) = (if (k : Int) = arc then v else 0) + atA arc (k + 1) vs := rfl
theorem atA_get (arc : Nat) : ∀ (vs : List Int) (k : Nat), k ≤ arc → atA arc k vs = vs.getD (arc - k) 0
  | [], k, _ => by simp [atA]
  | v :: vs, k, h => by
    unfold atA
    by_cases e : k = arc
    · subst e
      have : ∀ (vs : List Int) (j : Nat), k < j → atA k j vs = 0 := by
        intro vs
        induction vs with
        | nil => intro j _; rfl
        | cons v vs ih =>
          intro j hj
          unfold atA
          rw [if_neg (by omega), ih (j + 1) (by omega)]; rfl
      rw [if_pos rfl, this vs (k + 1) (by omega)]
      simp
    · rw [if_neg (by omega), atA_get arc vs (k + 1) (by omega), show arc - k = (arc - (k + 1)) + 1 by omega]
      simp
theorem ub_ge (arc : Int) (ms : List Int) : ∀ (as : List Arc) (vs : List Int) (k : Nat) (b : Int), vs.length = as.length → (∀ i a, as[i]? = some a → a.2.2.1 ≤ vs.getD i 0 ∧ vs.getD i 0 ≤ a.2.2.2) → (∀ i a, as[i]? = some a → ((k + i : Nat) : Int) = arc → ent a ms = true) →
    b - fD (ind ms) as vs + atA arc k vs ≤ (as.zipIdx k).foldl (ubStep arc ms) b
  | [], [], k, b, _, _, _ => by simp [fD, atA]
  | [], v :: vs, k, b, h, _, _ => by simp at h
  | a :: as, [], k, b, h, _, _ => by simp at h
  | a :: as, v :: vs, k, b, hl, hc, he => by
    rw [List.zipIdx_cons, List.foldl_cons]
    refine Int.le_trans ?_ (ub_ge arc ms as vs (k + 1) _ (by simpa using hl) (fun i a' h => by have := hc (i + 1) a' (by simpa using h); simpa using this) fun i a' h e => he (i + 1) a' (by simpa using h) (by omega))
    have c := hc 0 a (by simp)
    have e0 := he 0 a (by simp)
    simp only [List.getD_cons_zero] at c
    rw [Nat.add_zero] at e0
    rw [fD_cons, atA_cons]
    unfold ubStep
    dsimp only
    unfold ent at e0
    unfold ent lea
    generalize fD (ind ms) as vs = F
    generalize atA arc (k + 1) vs = G
    unfold ind
    cases h1 : ms.contains a.1 <;> cases h2 : ms.contains a.2.1 <;> by_cases h3 : (k : Int) = arc <;> simp_all <;> omega
theorem lb_le (arc : Int) (ms : List Int) : ∀ (as : List Arc) (vs : List Int) (k : Nat) (b : Int), vs.length = as.length → (∀ i a, as[i]? = some a → a.2.2.1 ≤ vs.getD i 0 ∧ vs.getD i 0 ≤ a.2.2.2) → (∀ i a, as[i]? = some a → ((k + i : Nat) : Int) = arc → lea a ms = true) →
    (as.zipIdx k).foldl (lbStep arc ms) b ≤ b + fD (ind ms) as vs + atA arc k vs
  | [], [], k, b, _, _, _ => by simp [fD, atA]
  | [], v :: vs, k, b, h, _, _ => by simp at h
  | a :: as, [], k, b, h, _, _ => by simp at h
  | a :: as, v :: vs, k, b, hl, hc, he => by
    rw [List.zipIdx_cons, List.foldl_cons]
    refine Int.le_trans (lb_le arc ms as vs (k + 1) _ (by simpa using hl) (fun i a' h => by have := hc (i + 1) a' (by simpa using h); simpa using this) fun i a' h e => he (i + 1) a' (by simpa using h) (by omega)) ?_
    have c := hc 0 a (by simp)
    have e0 := he 0 a (by simp)
    simp only [List.getD_cons_zero] at c
    rw [Nat.add_zero] at e0
    rw [fD_cons, atA_cons]
    unfold lbStep
    dsimp only
    unfold lea at e0
    unfold ent lea
    generalize fD (ind ms) as vs = F
    generalize atA arc (k + 1) vs = G
    unfold ind
    cases h1 : ms.contains a.1 <;> cases h2 : ms.contains a.2.1 <;> by_cases h3 : (k : Int) = arc <;> simp_all <;> omega
/-! ### values changed along paths -/
/-- what a path carries, by weights of the nodes -/
def pS (w : Int → Int) (as : List Arc) : List Int → Int
  | [] => 0
  | j :: js => (w (as.getD j.toNat (0, 0, 0, 0)).2.1 - w (as.getD j.toNat (0, 0, 0, 0)).1) + pS w as js
theorem pS_snoc (w : Int → Int) (as : List Arc) (j : Int) : ∀ js : List Int, pS w as (js ++ [j]) = pS w as js + (w (as.getD j.toNat (0, 0, 0, 0)).2.1 - w (as.getD j.toNat (0, 0, 0, 0)).1)
  | [] => by simp [pS]
  | i :: js => by
    rw [List.cons_append]
    show (w (as.getD i.toNat (0, 0, 0, 0)).2.1 - w (as.getD i.toNat (0, 0, 0, 0)).1) + pS w as (js ++ [j]) = (w (as.getD i.toNat (0, 0, 0, 0)).2.1 - w (as.getD i.toNat (0, 0, 0, 0)).1) + pS w as js + _
    rw [pS_snoc w as j js]; omega
def adds (c : Int) (f : List Int) (js : List Int) : List Int := js.foldl (fun f j => inc f j.toNat c) f
theorem adds_len (c : Int) : ∀ (js f : List Int), (adds c f js).length = f.length
  | [], f => rfl
  | j :: js, f => by
    show (adds c (inc f j.toNat c) js).length = _
    rw [adds_len c js, inc_len]
theorem getD_some {as : List Arc} {j : Nat} (h : j < as.length) : as[j]? = some (as.getD j (0, 0, 0, 0)) := by
  rw [List.getD_eq_getElem?_getD, List.getElem?_eq_getElem h]; rfl
theorem fD_adds (w : Int → Int) (c : Int) (as : List Arc) : ∀ (js f : List Int), f.length = as.length → (∀ j ∈ js, 0 ≤ j ∧ j < as.length) → fD w as (adds c f js) = fD w as f + c * pS w as js
  | [], f, _, _ => by simp [adds, pS]
  | j :: js, f, hl, h => by
    have hj := h j (by simp)
    show fD w as (adds c (inc f j.toNat c) js) = _
    rw [fD_adds w c as js _ (by rw [inc_len]; exact hl) fun i hi => h i (by simp [hi]), fD_inc w c as f j.toNat _ hl (getD_some (by omega))]
    rw [show pS w as (j :: js) = (w (as.getD j.toNat (0, 0, 0, 0)).2.1 - w (as.getD j.toNat (0, 0, 0, 0)).1) + pS w as js from rfl, Int.mul_add]; omega
theorem inc_nn {f : List Int} {i : Nat} {c : Int} (h : ∀ x ∈ f, 0 ≤ x) (hc : 0 ≤ c) : ∀ x ∈ inc f i c, 0 ≤ x := by
  intro x hx
  unfold inc at hx
  rcases List.mem_or_eq_of_mem_set hx with hx | rfl
  · exact h x hx
  · have : 0 ≤ f.getD i 0 := by
      by_cases hi : i < f.length
      · rw [List.getD_eq_getElem?_getD, List.getElem?_eq_getElem hi]
        exact h _ (List.getElem_mem hi)
      · rw [List.getD_eq_getElem?_getD, List.getElem?_eq_none (by omega)]; exact Int.le_refl _
    omega
theorem adds_nn {c : Int} (hc : 0 ≤ c) : ∀ (js f : List Int), (∀ x ∈ f, 0 ≤ x) → ∀ x ∈ adds c f js, 0 ≤ x
  | [], f, h => h
  | j :: js, f, h => adds_nn hc js _ (inc_nn h hc)
theorem fD_cong (w : Int → Int) : ∀ (as bs : List Arc) (vs : List Int), as.map (fun a => (a.1, a.2.1)) = bs.map (fun a => (a.1, a.2.1)) → fD w as vs = fD w bs vs
  | [], [], vs, _ => rfl
  | [], b :: bs, vs, h => by simp at h
  | a :: as, [], vs, h => by simp at h
  | a :: as, b :: bs, [], h => rfl
  | a :: as, b :: bs, v :: vs, h => by
    simp only [List.map_cons, List.cons.injEq, Prod.mk.injEq] at h
    rw [fD_cons, fD_cons, fD_cong w as bs vs h.2, h.1.1, h.1.2]
end Mn
set_option Elab.async false
set_option linter.all false
set_option maxRecDepth 100000
set_option maxHeartbeats 0
namespace Hd
open PySem PySem.Spec PyProof.Rows L2
def top (i : Nat) : Stmt := PySem.Challenge.pw_cellguard_k06_bounds_of_sets.main.body.getD i (.Pass ⟨0, 0, 0, 0⟩)
abbrev s_Network_init : Stmt := inClass (top 4) 0
abbrev s_Network_arcs : Stmt := inClass (top 4) 1
abbrev s_surpluses : Stmt := top 5
abbrev s_is_flow : Stmt := top 6
abbrev s_enters : Stmt := top 7
abbrev s_leaves : Stmt := top 8
abbrev s_upper_bound : Stmt := top 9
abbrev s_lower_bound : Stmt := top 10
abbrev s_law_is_integer : Stmt := top 12
abbrev s_law_cell : Stmt := top 13
abbrev s_law_numbers : Stmt := top 14
abbrev s_law_any_network : Stmt := top 15
abbrev s_law_is_flow : Stmt := top 16
abbrev s_law_bound : Stmt := top 17
abbrev s_law_paper_right : Stmt := top 18
abbrev s_law : Stmt := top 19
end Hd
set_option Elab.async false
set_option linter.all false
set_option maxRecDepth 100000
set_option maxHeartbeats 0
namespace Wk
open PySem PySem.Spec PyProof.Rows L2
open DL
def cs (K : PySem.W.Frag) : Cs := fun i => match i with
  | 0 => ⟨He.ga K "Network", ["nodes", "_arcs"]⟩
  | _ => ⟨0, []⟩
def xcs (K : PySem.W.Frag) : Nat → Addr := fun i => match i with
  | 0 => He.ga K "CellguardError"
  | 1 => He.ga K "InvalidFlow"
  | _ => He.ga K "CellguardError"
def xfs : Nat → Str := fun _ => ""
def mt_CellguardError : Nat → Bool := fun i => match i with
  | 0 => true
  | 1 => true
  | _ => true
def isx_InvalidFlow : Nat → Bool := fun i => match i with
  | 0 => false
  | 1 => true
  | _ => false
structure Kf (K : PySem.W.Frag) (mg : Str → Option Value) : Prop where
  m_CellguardError : mg "CellguardError" = some (.ref (He.ga K "CellguardError"))
  m_InvalidFlow : mg "InvalidFlow" = some (.ref (He.ga K "InvalidFlow"))
  m_Network : mg "Network" = some (.ref (He.ga K "Network"))
  m_surpluses : mg "surpluses" = some (.ref (He.ga K "surpluses"))
  m_is_flow : mg "is_flow" = some (.ref (He.ga K "is_flow"))
  m_enters : mg "enters" = some (.ref (He.ga K "enters"))
  m_leaves : mg "leaves" = some (.ref (He.ga K "leaves"))
  m_upper_bound : mg "upper_bound" = some (.ref (He.ga K "upper_bound"))
  m_lower_bound : mg "lower_bound" = some (.ref (He.ga K "lower_bound"))
  m_law_is_integer : mg "_law_is_integer" = some (.ref (He.ga K "_law_is_integer"))
  m_law_cell : mg "_law_cell" = some (.ref (He.ga K "_law_cell"))
  m_law_numbers : mg "_law_numbers" = some (.ref (He.ga K "_law_numbers"))
  m_law_any_network : mg "_law_any_network" = some (.ref (He.ga K "_law_any_network"))
  m_law_is_flow : mg "_law_is_flow" = some (.ref (He.ga K "_law_is_flow"))
  m_law_bound : mg "_law_bound" = some (.ref (He.ga K "_law_bound"))
  m_law_paper_right : mg "_law_paper_right" = some (.ref (He.ga K "_law_paper_right"))
  m_law : mg "law" = some (.ref (He.ga K "law"))
  k_Network_init : PySem.W.keepIn K (.ref (He.fAd K ("Network", some "__init__"))) = true
  k_Network_arcs : PySem.W.keepIn K (.ref (He.fAd K ("Network", some "arcs"))) = true
  k_surpluses : PySem.W.keepIn K (.ref (He.fAd K ("surpluses", none))) = true
  k_is_flow : PySem.W.keepIn K (.ref (He.fAd K ("is_flow", none))) = true
  k_enters : PySem.W.keepIn K (.ref (He.fAd K ("enters", none))) = true
  k_leaves : PySem.W.keepIn K (.ref (He.fAd K ("leaves", none))) = true
  k_upper_bound : PySem.W.keepIn K (.ref (He.fAd K ("upper_bound", none))) = true
  k_lower_bound : PySem.W.keepIn K (.ref (He.fAd K ("lower_bound", none))) = true
  k_law_is_integer : PySem.W.keepIn K (.ref (He.fAd K ("_law_is_integer", none))) = true
  k_law_cell : PySem.W.keepIn K (.ref (He.fAd K ("_law_cell", none))) = true
  k_law_numbers : PySem.W.keepIn K (.ref (He.fAd K ("_law_numbers", none))) = true
  k_law_any_network : PySem.W.keepIn K (.ref (He.fAd K ("_law_any_network", none))) = true
  k_law_is_flow : PySem.W.keepIn K (.ref (He.fAd K ("_law_is_flow", none))) = true
  k_law_bound : PySem.W.keepIn K (.ref (He.fAd K ("_law_bound", none))) = true
  k_law_paper_right : PySem.W.keepIn K (.ref (He.fAd K ("_law_paper_right", none))) = true
  k_law : PySem.W.keepIn K (.ref (He.fAd K ("law", none))) = true
  z_abs : mg "abs" = none
  z_bool : mg "bool" = none
  z_enumerate : mg "enumerate" = none
  z_int : mg "int" = none
  z_isinstance : mg "isinstance" = none
  z_len : mg "len" = none
  z_list : mg "list" = none
  z_max : mg "max" = none
  z_range : mg "range" = none
  z_sorted : mg "sorted" = none
  z_sum : mg "sum" = none
  c_Network : Cls K (He.ga K "Network")
  mk_Network : Mk K (He.ga K "Network") (He.fAd K ("Network", some "__init__"))
  na_Network_nodes : NoAttr K (He.ga K "Network") "nodes"
  na_Network__arcs : NoAttr K (He.ga K "Network") "_arcs"
  me_Network_arcs : Meth K (He.ga K "Network") "arcs" (He.fAd K ("Network", some "arcs"))
  e_CellguardError : PySem.W.excIn K (He.ga K "CellguardError") He.veBase "ValueError.__new__" = true
  ke_CellguardError : PySem.W.keepIn K (.ref (He.ga K "CellguardError")) = true
  su_CellguardError : PySem.W.subIn K (.ref (He.ga K "CellguardError")) (.type "BaseException") = some true
  ty_CellguardError : PySem.W.typeIn K (.ref (He.ga K "CellguardError")) = some (.type "type")
  e_InvalidFlow : PySem.W.excIn K (He.ga K "InvalidFlow") He.veBase "ValueError.__new__" = true
  ke_InvalidFlow : PySem.W.keepIn K (.ref (He.ga K "InvalidFlow")) = true
  su_InvalidFlow : PySem.W.subIn K (.ref (He.ga K "InvalidFlow")) (.type "BaseException") = some true
  ty_InvalidFlow : PySem.W.typeIn K (.ref (He.ga K "InvalidFlow")) = some (.type "type")
  exm_CellguardError : ∀ y, PySem.W.exmOne K (.ref (xcs K y)) (.ref (He.ga K "CellguardError")) = some (mt_CellguardError y)
  exC : ∀ y, ExcC K (xcs K y)
  kit_InvalidFlow : ∀ y, PySem.W.kitOne K (.ref (xcs K y)) (.ref (He.ga K "InvalidFlow")) = some (isx_InvalidFlow y)
theorem sc_Network_init : FnScope ["self", "nodes", "arcs", "tail", "head", "least", "most"] ["self", "nodes", "arcs"] (defScope Hd.s_Network_init) := ⟨rfl, rfl, rfl, by decide +kernel, rfl, by decide +kernel, by decide +kernel⟩
def l_Network_init_1 (fu : Nat) : DL.Env → SR := (sIf (eOr (eNot (eChain hLe hLt (eConst (.int 0)) (eLk (fName 3)) (eLk (fName 1)))) (eOr (eNot (eChain hLe hLt (eConst (.int 0)) (eLk (fName 4)) (eLk (fName 1)))) (eOr (eOp2 hEq (eLk (fName 3)) (eLk (fName 4))) (eNot (eChain hLe hLe (eConst (.int 0)) (eLk (fName 5)) (eLk (fName 6))))))) (sRaise 1 (lCons (eConst (.str "an arc is not valid")) lNil)) sNext)
def v_Network_init_2 (fu : Nat) : DL.Env → ER := (eTup (lCons (eSh 3 (fName 3)) (lCons (eSh 4 (fName 4)) (lCons (eSh 5 (fName 5)) (lCons (eSh 6 (fName 6)) lNil)))))
def b_Network_init (fu : Nat) : DL.Env → SR := (sSeq
 (sFor (tgTup (tgCons (tgName 3) (tgCons (tgName 4) (tgCons (tgName 5) (tgCons (tgName 6) tgNil))))) (eIter (eSh 2 (fName 2))) (l_Network_init_1 fu) [])
 (sSeq
 (sFldS 0 0 0 (eMove 1) ((fName 0)))
 (sFldS 0 0 1 (eLc [3, 4, 5, 6] (tgTup (tgCons (tgName 3) (tgCons (tgName 4) (tgCons (tgName 5) (tgCons (tgName 6) tgNil))))) (eIter (eMove 2)) eYes (v_Network_init_2 fu)) ((fName 0)))))
def m_Network_init (fu : Nat) (ds : List D) : FR := FR.of [0] (b_Network_init fu (startE 7 ds))
theorem ok_Network_init {P : Program} {w : World} {K : PySem.W.Frag} {mg : Str → Option Value} {base : Heap} (kf : Kf K mg) (fu : Nat) {fd : FuncData} (F : FunD K "__init__" "Network.__init__" (defArgs Hd.s_Network_init) (defBody Hd.s_Network_init) (defScope Hd.s_Network_init) [] [] (He.fAd K ("Network", some "__init__")) fd)  :
    PrD (cs K) (xcs K) xfs P w K mg base 1 (He.fAd K ("Network", some "__init__")) ["self", "nodes", "arcs"] 3 [0] (m_Network_init fu) fd := by
  refine ⟨fnD_ok (N := ["self", "nodes", "arcs", "tail", "head", "least", "most"]) (S := [3, 4, 5, 6]) (bf := b_Network_init fu) F sc_Network_init rfl (by decide) (by decide) fun cd A outer s H E hr => ?_, F.bindsN fun _ _ _ _ _ _ us hl => match us, hl with | [_, _, _], _ => rfl⟩
  unfold b_Network_init v_Network_init_2 l_Network_init_1
  exact (pbx_cons
 (psx_for (kl := []) bodyG_passes rfl (pix_val (pex_sh (ppx_name (i := 2) rfl (by first | exact .inl rfl | exact .inr (.inl rfl) | exact .inr (.inr rfl))))) (pgx_tup rfl (pgsx_cons (pgx_name (i := 3) sc_Network_init.nd rfl (by first | exact .inl rfl | exact .inr rfl) (by decide) (hh_none rfl)) (pgsx_cons (pgx_name (i := 4) sc_Network_init.nd rfl (by first | exact .inl rfl | exact .inr rfl) (by decide) (hh_none rfl)) (pgsx_cons (pgx_name (i := 5) sc_Network_init.nd rfl (by first | exact .inl rfl | exact .inr rfl) (by decide) (hh_none rfl)) (pgsx_cons (pgx_name (i := 6) sc_Network_init.nd rfl (by first | exact .inl rfl | exact .inr rfl) (by decide) (hh_none rfl)) pgsx_nil)))))
 (pbx_one (psx_if (PWx.pt (pwx_or (ptx_not (ptx_chain op_le op_lt blS_le blS_lt (PEx.op pex_int) (pox_p (ppx_name (i := 3) rfl (by first | exact .inl rfl | exact .inr (.inl rfl) | exact .inr (.inr rfl)))) (pox_p (ppx_name (i := 1) rfl (by first | exact .inl rfl | exact .inr (.inl rfl) | exact .inr (.inr rfl)))) (by decide) (by decide))) (pwx_or (ptx_not (ptx_chain op_le op_lt blS_le blS_lt (PEx.op pex_int) (pox_p (ppx_name (i := 4) rfl (by first | exact .inl rfl | exact .inr (.inl rfl) | exact .inr (.inr rfl)))) (pox_p (ppx_name (i := 1) rfl (by first | exact .inl rfl | exact .inr (.inl rfl) | exact .inr (.inr rfl)))) (by decide) (by decide))) (pwx_or (ptx_cmp (op_eqD (hu64 hr)) blS_eq.op (pox_p (ppx_name (i := 3) rfl (by first | exact .inl rfl | exact .inr (.inl rfl) | exact .inr (.inr rfl)))) (pox_p (ppx_name (i := 4) rfl (by first | exact .inl rfl | exact .inr (.inl rfl) | exact .inr (.inr rfl)))) (by decide) (nomark _)) (pwx_or1 (ptx_not (ptx_chain op_le op_le blS_le blS_le (PEx.op pex_int) (pox_p (ppx_name (i := 5) rfl (by first | exact .inl rfl | exact .inr (.inl rfl) | exact .inr (.inr rfl)))) (pox_p (ppx_name (i := 6) rfl (by first | exact .inl rfl | exact .inr (.inl rfl) | exact .inr (.inr rfl)))) (by decide) (by decide)))))))) (pbx_one (psx_raise (xi := 1) rfl bodyG_takes PySem.F.excBase_ValueError kf.e_InvalidFlow kf.m_InvalidFlow kf.ke_InvalidFlow (raises_own kf.su_InvalidFlow kf.ty_InvalidFlow) rfl (pax_cons (PEx.op pex_str) pax_nil (by decide)))) pbx_nil)))
 (pbx_cons
 (psx_fld (cc := 0) (j := 0) (pex_move (i := 1) rfl (by first | exact .inl rfl | exact .inr (.inl rfl) | exact .inr (.inr rfl))) (ppx_name (i := 0) rfl (by first | exact .inl rfl | exact .inr (.inl rfl) | exact .inr (.inr rfl))) kf.c_Network kf.na_Network_nodes rfl)
 (pbx_one (psx_fld (cc := 0) (j := 1) (pex_lc2 (own := [("tail", 3), ("head", 4), ("least", 5), ("most", 6)]) rfl sc_Network_init.nd (pix_val (pex_move (i := 2) rfl (by first | exact .inl rfl | exact .inr (.inl rfl) | exact .inr (.inr rfl)))) (blkOk_by (by show blkC ["self", "nodes", "arcs", "tail", "head", "least", "most"] (defScope Hd.s_Network_init) _ _ = true; decide +kernel)) (fun _ _ _ _ _ => (pgx_tup rfl (pgsx_cons (pgx_name (i := 3) sc_Network_init.nd rfl (by first | exact .inl rfl | exact .inr rfl) (by decide) (hh_none rfl)) (pgsx_cons (pgx_name (i := 4) sc_Network_init.nd rfl (by first | exact .inl rfl | exact .inr rfl) (by decide) (hh_none rfl)) (pgsx_cons (pgx_name (i := 5) sc_Network_init.nd rfl (by first | exact .inl rfl | exact .inr rfl) (by decide) (hh_none rfl)) (pgsx_cons (pgx_name (i := 6) sc_Network_init.nd rfl (by first | exact .inl rfl | exact .inr rfl) (by decide) (hh_none rfl)) pgsx_nil)))))) (fun _ _ _ _ _ => ptsx_nil) (fun _ _ _ _ _ => (pex_tup (pvx_cons (pex_sh (ppx_name (i := 3) rfl (by first | exact .inl rfl | exact .inr (.inl rfl) | exact .inr (.inr rfl)))) (pvx_cons (pex_sh (ppx_name (i := 4) rfl (by first | exact .inl rfl | exact .inr (.inl rfl) | exact .inr (.inr rfl)))) (pvx_cons (pex_sh (ppx_name (i := 5) rfl (by first | exact .inl rfl | exact .inr (.inl rfl) | exact .inr (.inr rfl)))) (pvx_cons (pex_sh (ppx_name (i := 6) rfl (by first | exact .inl rfl | exact .inr (.inl rfl) | exact .inr (.inr rfl)))) pvx_nil)))))) (by first | (intro h e; cases e) | (intro h e; cases e; decide))) (ppx_name (i := 0) rfl (by first | exact .inl rfl | exact .inr (.inl rfl) | exact .inr (.inr rfl))) kf.c_Network kf.na_Network__arcs rfl))))
theorem sc_Network_arcs : FnScope ["self"] ["self"] (defScope Hd.s_Network_arcs) := ⟨rfl, rfl, rfl, by decide +kernel, rfl, by decide +kernel, by decide +kernel⟩
def b_Network_arcs (fu : Nat) : DL.Env → SR := (sRet (eCallV hList (lCons (eLk (pF 0 1 (fName 0))) lNil)))
def m_Network_arcs (fu : Nat) (ds : List D) : FR := FR.of [] (b_Network_arcs fu (startE 1 ds))
theorem ok_Network_arcs {P : Program} {w : World} {K : PySem.W.Frag} {mg : Str → Option Value} {base : Heap} (kf : Kf K mg) (fu : Nat) {fd : FuncData} (F : FunD K "arcs" "Network.arcs" (defArgs Hd.s_Network_arcs) (defBody Hd.s_Network_arcs) (defScope Hd.s_Network_arcs) [] [] (He.fAd K ("Network", some "arcs")) fd)  :
    PrD (cs K) (xcs K) xfs P w K mg base 1 (He.fAd K ("Network", some "arcs")) ["self"] 1 [] (m_Network_arcs fu) fd := by
  refine ⟨fnD_ok (N := ["self"]) (S := []) (bf := b_Network_arcs fu) F sc_Network_arcs rfl (by decide) (by decide) fun cd A outer s H E hr => ?_, F.bindsN fun _ _ _ _ _ _ us hl => match us, hl with | [_], _ => rfl⟩
  unfold b_Network_arcs
  exact (pbx_one (psx_ret (pex_callTy call_list_of callS_list rfl kf.z_list bt_list (pax_cons (pox_p (ppx_f (cc := 0) (j := 1) (ppx_name (i := 0) rfl (by first | exact .inl rfl | exact .inr (.inl rfl) | exact .inr (.inr rfl))) kf.c_Network kf.na_Network__arcs rfl)) pax_nil (by decide)))))
theorem sc_surpluses : FnScope ["network", "values", "found", "at", "tail", "head", "_"] ["network", "values"] (defScope Hd.s_surpluses) := ⟨rfl, rfl, rfl, by decide +kernel, rfl, by decide +kernel, by decide +kernel⟩
def l_surpluses_1 (fu : Nat) : DL.Env → SR := (sSeq
 (sPutAug 2 hSubI (fName 2) (eLk (fName 4)) (eLk (pI (fName 1) (eLk (fName 3)))))
 (sPutAug 2 hAddI (fName 2) (eLk (fName 5)) (eLk (pI (fName 1) (eLk (fName 3))))))
def b_surpluses (fu : Nat) : DL.Env → SR := (sSeq
 (sSet 2 (eOp2 hMul (eLst (lCons (eConst (.int 0)) lNil)) (eLk (pF 0 0 (fName 0)))))
 (sSeq
 (sFor (tgTup (tgCons (tgName 3) (tgCons (tgTup (tgCons (tgName 4) (tgCons (tgName 5) (tgCons (tgName 6) (tgCons (tgName 6) tgNil))))) tgNil))) (eEnum (eMeth 0 (m_Network_arcs fu) [] (eLk (fName 0)) lNil)) (l_surpluses_1 fu) [3, 4, 5, 6])
 (sRet (eMove 2))))
def m_surpluses (fu : Nat) (ds : List D) : FR := FR.of [] (b_surpluses fu (startE 7 ds))
theorem ok_surpluses {P : Program} {w : World} {K : PySem.W.Frag} {mg : Str → Option Value} {base : Heap} (kf : Kf K mg) (fu : Nat) {fd : FuncData} (F : FunD K "surpluses" "surpluses" (defArgs Hd.s_surpluses) (defBody Hd.s_surpluses) (defScope Hd.s_surpluses) [] [] (He.fAd K ("surpluses", none)) fd) {fd_Network_arcs : FuncData} (p_Network_arcs : PrD (cs K) (xcs K) xfs P w K mg base 1 (He.fAd K ("Network", some "arcs")) ["self"] 1 [] (m_Network_arcs fu) fd_Network_arcs) :
    PrD (cs K) (xcs K) xfs P w K mg base 2 (He.fAd K ("surpluses", none)) ["network", "values"] 2 [] (m_surpluses fu) fd := by
  obtain ⟨F_Network_arcs, B_Network_arcs⟩ := p_Network_arcs
  refine ⟨fnD_ok (N := ["network", "values", "found", "at", "tail", "head", "_"]) (S := [2, 3, 4, 5, 6]) (bf := b_surpluses fu) F sc_surpluses rfl (by decide) (by decide) fun cd A outer s H E hr => ?_, F.bindsN fun _ _ _ _ _ _ us hl => match us, hl with | [_, _], _ => rfl⟩
  unfold b_surpluses l_surpluses_1
  exact (pbx_cons
 (psx_set (i := 2) sc_surpluses.nd rfl (by first | exact .inl rfl | exact .inr rfl) (pex_bin op_mulA opS_mulA (PEx.op (pex_lst (pvx_cons pex_int pvx_nil))) (pox_p (ppx_f (cc := 0) (j := 0) (ppx_name (i := 0) rfl (by first | exact .inl rfl | exact .inr (.inl rfl) | exact .inr (.inr rfl))) kf.c_Network kf.na_Network_nodes rfl)) (by decide)) (by decide) (hh_none rfl))
 (pbx_cons
 (psx_for (kl := [3, 4, 5, 6]) bodyG_passes rfl (pix_enum rfl kf.z_enumerate (pex_meth0 (cc := 0) F_Network_arcs (hr.mono (by decide)) kf.c_Network kf.me_Network_arcs (by show ¬ ("arcs" : Str) ∈ (["nodes", "_arcs"] : List Str); decide +kernel) B_Network_arcs .nil Dfl.nil bodyG_takes (pox_p (ppx_name (i := 0) rfl (by first | exact .inl rfl | exact .inr (.inl rfl) | exact .inr (.inr rfl)))) rfl)) (pgx_tup rfl (pgsx_cons (pgx_name (i := 3) sc_surpluses.nd rfl (by first | exact .inl rfl | exact .inr rfl) (by decide) (hh_none rfl)) (pgsx_cons (pgx_tup rfl (pgsx_cons (pgx_name (i := 4) sc_surpluses.nd rfl (by first | exact .inl rfl | exact .inr rfl) (by decide) (hh_none rfl)) (pgsx_cons (pgx_name (i := 5) sc_surpluses.nd rfl (by first | exact .inl rfl | exact .inr rfl) (by decide) (hh_none rfl)) (pgsx_cons (pgx_name (i := 6) sc_surpluses.nd rfl (by first | exact .inl rfl | exact .inr rfl) (by decide) (hh_none rfl)) (pgsx_cons (pgx_name (i := 6) sc_surpluses.nd rfl (by first | exact .inl rfl | exact .inr rfl) (by decide) (hh_none rfl)) pgsx_nil))))) pgsx_nil)))
 (pbx_cons
 (psx_putAug (hu1 hr) opS_subI iop_sub (ppx_name (i := 2) rfl (by first | exact .inl rfl | exact .inr (.inl rfl) | exact .inr (.inr rfl))) (pox_p (ppx_name (i := 4) rfl (by first | exact .inl rfl | exact .inr (.inl rfl) | exact .inr (.inr rfl)))) (pox_p (ppx_i (hu1 hr) (ppx_name (i := 1) rfl (by first | exact .inl rfl | exact .inr (.inl rfl) | exact .inr (.inr rfl))) (pox_p (ppx_name (i := 3) rfl (by first | exact .inl rfl | exact .inr (.inl rfl) | exact .inr (.inr rfl)))) (by decide) (fun _ _ => rfl))) (by decide) (by decide) (by decide))
 (pbx_one (psx_putAug (hu1 hr) opS_addI iop_add (ppx_name (i := 2) rfl (by first | exact .inl rfl | exact .inr (.inl rfl) | exact .inr (.inr rfl))) (pox_p (ppx_name (i := 5) rfl (by first | exact .inl rfl | exact .inr (.inl rfl) | exact .inr (.inr rfl)))) (pox_p (ppx_i (hu1 hr) (ppx_name (i := 1) rfl (by first | exact .inl rfl | exact .inr (.inl rfl) | exact .inr (.inr rfl))) (pox_p (ppx_name (i := 3) rfl (by first | exact .inl rfl | exact .inr (.inl rfl) | exact .inr (.inr rfl)))) (by decide) (fun _ _ => rfl))) (by decide) (by decide) (by decide)))))
 (pbx_one (psx_ret (pex_move (i := 2) rfl (by first | exact .inl rfl | exact .inr (.inl rfl) | exact .inr (.inr rfl)))))))
theorem sc_is_flow : FnScope ["network", "values", "arcs", "at", "_", "least", "most"] ["network", "values"] (defScope Hd.s_is_flow) := ⟨rfl, rfl, rfl, by decide +kernel, rfl, by decide +kernel, by decide +kernel⟩
def l_is_flow_1 (fu : Nat) : DL.Env → SR := (sIf (eNot (eChain hLe hLe (eLk (fName 5)) (eLk (pI (fName 1) (eLk (fName 3)))) (eLk (fName 6)))) (sRet (eConst (.bl false))) sNext)
def b_is_flow (fu : Nat) : DL.Env → SR := (sSeq
 (sSet 2 (eMeth 0 (m_Network_arcs fu) [] (eLk (fName 0)) lNil))
 (sSeq
 (sIf (eOp2 hNe (eCallV hLen (lCons (eLk (fName 1)) lNil)) (eCallV hLen (lCons (eLk (fName 2)) lNil))) (sRet (eConst (.bl false))) sNext)
 (sSeq
 (sFor (tgTup (tgCons (tgName 3) (tgCons (tgTup (tgCons (tgName 4) (tgCons (tgName 4) (tgCons (tgName 5) (tgCons (tgName 6) tgNil))))) tgNil))) (eEnum (eMove 2)) (l_is_flow_1 fu) [3, 4, 5, 6])
 (sRet (eOp2 hEq (eCall (m_surpluses fu) [] (lCons (eLk (fName 0)) (lCons (eLk (fName 1)) lNil))) (eOp2 hMul (eLst (lCons (eConst (.int 0)) lNil)) (eLk (pF 0 0 (fName 0)))))))))
def m_is_flow (fu : Nat) (ds : List D) : FR := FR.of [] (b_is_flow fu (startE 7 ds))
theorem ok_is_flow {P : Program} {w : World} {K : PySem.W.Frag} {mg : Str → Option Value} {base : Heap} (kf : Kf K mg) (fu : Nat) {fd : FuncData} (F : FunD K "is_flow" "is_flow" (defArgs Hd.s_is_flow) (defBody Hd.s_is_flow) (defScope Hd.s_is_flow) [] [] (He.fAd K ("is_flow", none)) fd) {fd_Network_arcs : FuncData} (p_Network_arcs : PrD (cs K) (xcs K) xfs P w K mg base 1 (He.fAd K ("Network", some "arcs")) ["self"] 1 [] (m_Network_arcs fu) fd_Network_arcs) {fd_surpluses : FuncData} (p_surpluses : PrD (cs K) (xcs K) xfs P w K mg base 2 (He.fAd K ("surpluses", none)) ["network", "values"] 2 [] (m_surpluses fu) fd_surpluses) :
    PrD (cs K) (xcs K) xfs P w K mg base 3 (He.fAd K ("is_flow", none)) ["network", "values"] 2 [] (m_is_flow fu) fd := by
  obtain ⟨F_Network_arcs, B_Network_arcs⟩ := p_Network_arcs
  obtain ⟨F_surpluses, B_surpluses⟩ := p_surpluses
  refine ⟨fnD_ok (N := ["network", "values", "arcs", "at", "_", "least", "most"]) (S := [2, 3, 4, 5, 6]) (bf := b_is_flow fu) F sc_is_flow rfl (by decide) (by decide) fun cd A outer s H E hr => ?_, F.bindsN fun _ _ _ _ _ _ us hl => match us, hl with | [_, _], _ => rfl⟩
  unfold b_is_flow l_is_flow_1
  exact (pbx_cons
 (psx_set (i := 2) sc_is_flow.nd rfl (by first | exact .inl rfl | exact .inr rfl) (pex_meth0 (cc := 0) F_Network_arcs (hr.mono (by decide)) kf.c_Network kf.me_Network_arcs (by show ¬ ("arcs" : Str) ∈ (["nodes", "_arcs"] : List Str); decide +kernel) B_Network_arcs .nil Dfl.nil bodyG_takes (pox_p (ppx_name (i := 0) rfl (by first | exact .inl rfl | exact .inr (.inl rfl) | exact .inr (.inr rfl)))) rfl) (by decide) (hh_none rfl))
 (pbx_cons
 (psx_if (ptx_cmp (op_neD (hu64 hr)) blS_ne.op (PEx.op (pex_callB call_lenAny callS_len rfl kf.z_len bt_len (pax_cons (pox_p (ppx_name (i := 1) rfl (by first | exact .inl rfl | exact .inr (.inl rfl) | exact .inr (.inr rfl)))) pax_nil (by decide)))) (PEx.op (pex_callB call_lenAny callS_len rfl kf.z_len bt_len (pax_cons (pox_p (ppx_name (i := 2) rfl (by first | exact .inl rfl | exact .inr (.inl rfl) | exact .inr (.inr rfl)))) pax_nil (by decide)))) (by decide) (nomark _)) (pbx_one (psx_ret pex_bl)) pbx_nil)
 (pbx_cons
 (psx_for (kl := [3, 4, 5, 6]) bodyG_passes rfl (pix_enum rfl kf.z_enumerate (pex_move (i := 2) rfl (by first | exact .inl rfl | exact .inr (.inl rfl) | exact .inr (.inr rfl)))) (pgx_tup rfl (pgsx_cons (pgx_name (i := 3) sc_is_flow.nd rfl (by first | exact .inl rfl | exact .inr rfl) (by decide) (hh_none rfl)) (pgsx_cons (pgx_tup rfl (pgsx_cons (pgx_name (i := 4) sc_is_flow.nd rfl (by first | exact .inl rfl | exact .inr rfl) (by decide) (hh_none rfl)) (pgsx_cons (pgx_name (i := 4) sc_is_flow.nd rfl (by first | exact .inl rfl | exact .inr rfl) (by decide) (hh_none rfl)) (pgsx_cons (pgx_name (i := 5) sc_is_flow.nd rfl (by first | exact .inl rfl | exact .inr rfl) (by decide) (hh_none rfl)) (pgsx_cons (pgx_name (i := 6) sc_is_flow.nd rfl (by first | exact .inl rfl | exact .inr rfl) (by decide) (hh_none rfl)) pgsx_nil))))) pgsx_nil)))
 (pbx_one (psx_if (ptx_not (ptx_chain op_le op_le blS_le blS_le (pox_p (ppx_name (i := 5) rfl (by first | exact .inl rfl | exact .inr (.inl rfl) | exact .inr (.inr rfl)))) (pox_p (ppx_i (hu1 hr) (ppx_name (i := 1) rfl (by first | exact .inl rfl | exact .inr (.inl rfl) | exact .inr (.inr rfl))) (pox_p (ppx_name (i := 3) rfl (by first | exact .inl rfl | exact .inr (.inl rfl) | exact .inr (.inr rfl)))) (by decide) (fun _ _ => rfl))) (pox_p (ppx_name (i := 6) rfl (by first | exact .inl rfl | exact .inr (.inl rfl) | exact .inr (.inr rfl)))) (by decide) (by decide))) (pbx_one (psx_ret pex_bl)) pbx_nil)))
 (pbx_one (psx_ret (pex_cmp (op_eqD (hu64 hr)) blS_eq.op (PEx.op (pex_call F_surpluses (hr.mono (by decide)) rfl kf.m_surpluses kf.k_surpluses B_surpluses .nil Dfl.nil bodyG_takes (pax_cons (pox_p (ppx_name (i := 0) rfl (by first | exact .inl rfl | exact .inr (.inl rfl) | exact .inr (.inr rfl)))) (pax_cons (pox_p (ppx_name (i := 1) rfl (by first | exact .inl rfl | exact .inr (.inl rfl) | exact .inr (.inr rfl)))) pax_nil (by decide)) (by decide)) rfl)) (PEx.op (pex_bin op_mulA opS_mulA (PEx.op (pex_lst (pvx_cons pex_int pvx_nil))) (pox_p (ppx_f (cc := 0) (j := 0) (ppx_name (i := 0) rfl (by first | exact .inl rfl | exact .inr (.inl rfl) | exact .inr (.inr rfl))) kf.c_Network kf.na_Network_nodes rfl)) (by decide))) (by decide) (nomark _)))))))
theorem sc_enters : FnScope ["arc", "members"] ["arc", "members"] (defScope Hd.s_enters) := ⟨rfl, rfl, rfl, by decide +kernel, rfl, by decide +kernel, by decide +kernel⟩
def b_enters (fu : Nat) : DL.Env → SR := (sRet (eAnd (eOp2 hNin (eLk (pI (fName 0) (eConst (.int 0)))) (eLk (fName 1))) (eOp2 hIn (eLk (pI (fName 0) (eConst (.int 1)))) (eLk (fName 1)))))
def m_enters (fu : Nat) (ds : List D) : FR := FR.of [] (b_enters fu (startE 2 ds))
theorem ok_enters {P : Program} {w : World} {K : PySem.W.Frag} {mg : Str → Option Value} {base : Heap} (kf : Kf K mg) (fu : Nat) {fd : FuncData} (F : FunD K "enters" "enters" (defArgs Hd.s_enters) (defBody Hd.s_enters) (defScope Hd.s_enters) [] [] (He.fAd K ("enters", none)) fd)  :
    PrD (cs K) (xcs K) xfs P w K mg base 1 (He.fAd K ("enters", none)) ["arc", "members"] 2 [] (m_enters fu) fd := by
  refine ⟨fnD_ok (N := ["arc", "members"]) (S := []) (bf := b_enters fu) F sc_enters rfl (by decide) (by decide) fun cd A outer s H E hr => ?_, F.bindsN fun _ _ _ _ _ _ us hl => match us, hl with | [_, _], _ => rfl⟩
  unfold b_enters
  exact (pbx_one (psx_ret (pex_and (pex_cmp (op_ninA (hu65 hr)) blS_nin.op (pox_p (ppx_i (hu1 hr) (ppx_name (i := 0) rfl (by first | exact .inl rfl | exact .inr (.inl rfl) | exact .inr (.inr rfl))) (PEx.op pex_int) (by decide) (fun _ _ => rfl))) (pox_p (ppx_name (i := 1) rfl (by first | exact .inl rfl | exact .inr (.inl rfl) | exact .inr (.inr rfl)))) (by decide) rfl) (pex_one (pex_cmp (op_inA (hu65 hr)) blS_in.op (pox_p (ppx_i (hu1 hr) (ppx_name (i := 0) rfl (by first | exact .inl rfl | exact .inr (.inl rfl) | exact .inr (.inr rfl))) (PEx.op pex_int) (by decide) (fun _ _ => rfl))) (pox_p (ppx_name (i := 1) rfl (by first | exact .inl rfl | exact .inr (.inl rfl) | exact .inr (.inr rfl)))) (by decide) rfl)))))
theorem sc_leaves : FnScope ["arc", "members"] ["arc", "members"] (defScope Hd.s_leaves) := ⟨rfl, rfl, rfl, by decide +kernel, rfl, by decide +kernel, by decide +kernel⟩
def b_leaves (fu : Nat) : DL.Env → SR := (sRet (eAnd (eOp2 hIn (eLk (pI (fName 0) (eConst (.int 0)))) (eLk (fName 1))) (eOp2 hNin (eLk (pI (fName 0) (eConst (.int 1)))) (eLk (fName 1)))))
def m_leaves (fu : Nat) (ds : List D) : FR := FR.of [] (b_leaves fu (startE 2 ds))
theorem ok_leaves {P : Program} {w : World} {K : PySem.W.Frag} {mg : Str → Option Value} {base : Heap} (kf : Kf K mg) (fu : Nat) {fd : FuncData} (F : FunD K "leaves" "leaves" (defArgs Hd.s_leaves) (defBody Hd.s_leaves) (defScope Hd.s_leaves) [] [] (He.fAd K ("leaves", none)) fd)  :
    PrD (cs K) (xcs K) xfs P w K mg base 1 (He.fAd K ("leaves", none)) ["arc", "members"] 2 [] (m_leaves fu) fd := by
  refine ⟨fnD_ok (N := ["arc", "members"]) (S := []) (bf := b_leaves fu) F sc_leaves rfl (by decide) (by decide) fun cd A outer s H E hr => ?_, F.bindsN fun _ _ _ _ _ _ us hl => match us, hl with | [_, _], _ => rfl⟩
  unfold b_leaves
  exact (pbx_one (psx_ret (pex_and (pex_cmp (op_inA (hu65 hr)) blS_in.op (pox_p (ppx_i (hu1 hr) (ppx_name (i := 0) rfl (by first | exact .inl rfl | exact .inr (.inl rfl) | exact .inr (.inr rfl))) (PEx.op pex_int) (by decide) (fun _ _ => rfl))) (pox_p (ppx_name (i := 1) rfl (by first | exact .inl rfl | exact .inr (.inl rfl) | exact .inr (.inr rfl)))) (by decide) rfl) (pex_one (pex_cmp (op_ninA (hu65 hr)) blS_nin.op (pox_p (ppx_i (hu1 hr) (ppx_name (i := 0) rfl (by first | exact .inl rfl | exact .inr (.inl rfl) | exact .inr (.inr rfl))) (PEx.op pex_int) (by decide) (fun _ _ => rfl))) (pox_p (ppx_name (i := 1) rfl (by first | exact .inl rfl | exact .inr (.inl rfl) | exact .inr (.inr rfl)))) (by decide) rfl)))))
theorem sc_upper_bound : FnScope ["network", "arc", "members", "arcs", "bound", "at", "other"] ["network", "arc", "members"] (defScope Hd.s_upper_bound) := ⟨rfl, rfl, rfl, by decide +kernel, rfl, by decide +kernel, by decide +kernel⟩
def l_upper_bound_1 (fu : Nat) : DL.Env → SR := (sIf (eCall (m_leaves fu) [] (lCons (eLk (fName 6)) (lCons (eLk (fName 2)) lNil))) (sAug 4 hAddI (eLk (pI (fName 6) (eConst (.int 3))))) (sIf (eAnd (eOp2 hNe (eLk (fName 5)) (eLk (fName 1))) (eCall (m_enters fu) [] (lCons (eLk (fName 6)) (lCons (eLk (fName 2)) lNil)))) (sAug 4 hSubI (eLk (pI (fName 6) (eConst (.int 2))))) sNext))
def b_upper_bound (fu : Nat) : DL.Env → SR := (sSeq
 (sSet 3 (eMeth 0 (m_Network_arcs fu) [] (eLk (fName 0)) lNil))
 (sSeq
 (sIf (eNot (eCall (m_enters fu) [] (lCons (eLk (pI (fName 3) (eLk (fName 1)))) (lCons (eLk (fName 2)) lNil)))) (sRaise 1 (lCons (eConst (.str "the arc does not enter the set")) lNil)) sNext)
 (sSeq
 (sSet 4 (eConst (.int 0)))
 (sSeq
 (sFor (tgTup (tgCons (tgName 5) (tgCons (tgName 6) tgNil))) (eEnum (eMove 3)) (l_upper_bound_1 fu) [5, 6])
 (sRet (eMove 4))))))
def m_upper_bound (fu : Nat) (ds : List D) : FR := FR.of [] (b_upper_bound fu (startE 7 ds))
theorem ok_upper_bound {P : Program} {w : World} {K : PySem.W.Frag} {mg : Str → Option Value} {base : Heap} (kf : Kf K mg) (fu : Nat) {fd : FuncData} (F : FunD K "upper_bound" "upper_bound" (defArgs Hd.s_upper_bound) (defBody Hd.s_upper_bound) (defScope Hd.s_upper_bound) [] [] (He.fAd K ("upper_bound", none)) fd) {fd_Network_arcs : FuncData} (p_Network_arcs : PrD (cs K) (xcs K) xfs P w K mg base 1 (He.fAd K ("Network", some "arcs")) ["self"] 1 [] (m_Network_arcs fu) fd_Network_arcs) {fd_enters : FuncData} (p_enters : PrD (cs K) (xcs K) xfs P w K mg base 1 (He.fAd K ("enters", none)) ["arc", "members"] 2 [] (m_enters fu) fd_enters) {fd_leaves : FuncData} (p_leaves : PrD (cs K) (xcs K) xfs P w K mg base 1 (He.fAd K ("leaves", none)) ["arc", "members"] 2 [] (m_leaves fu) fd_leaves) :
    PrD (cs K) (xcs K) xfs P w K mg base 2 (He.fAd K ("upper_bound", none)) ["network", "arc", "members"] 3 [] (m_upper_bound fu) fd := by
  obtain ⟨F_Network_arcs, B_Network_arcs⟩ := p_Network_arcs
  obtain ⟨F_enters, B_enters⟩ := p_enters
  obtain ⟨F_leaves, B_leaves⟩ := p_leaves
  refine ⟨fnD_ok (N := ["network", "arc", "members", "arcs", "bound", "at", "other"]) (S := [3, 4, 5, 6]) (bf := b_upper_bound fu) F sc_upper_bound rfl (by decide) (by decide) fun cd A outer s H E hr => ?_, F.bindsN fun _ _ _ _ _ _ us hl => match us, hl with | [_, _, _], _ => rfl⟩
  unfold b_upper_bound l_upper_bound_1
  exact (pbx_cons
 (psx_set (i := 3) sc_upper_bound.nd rfl (by first | exact .inl rfl | exact .inr rfl) (pex_meth0 (cc := 0) F_Network_arcs (hr.mono (by decide)) kf.c_Network kf.me_Network_arcs (by show ¬ ("arcs" : Str) ∈ (["nodes", "_arcs"] : List Str); decide +kernel) B_Network_arcs .nil Dfl.nil bodyG_takes (pox_p (ppx_name (i := 0) rfl (by first | exact .inl rfl | exact .inr (.inl rfl) | exact .inr (.inr rfl)))) rfl) (by decide) (hh_none rfl))
 (pbx_cons
 (psx_if (ptx_not (ptx_val (pex_call F_enters (hr.mono (by decide)) rfl kf.m_enters kf.k_enters B_enters .nil Dfl.nil bodyG_takes (pax_cons (pox_p (ppx_i (hu1 hr) (ppx_name (i := 3) rfl (by first | exact .inl rfl | exact .inr (.inl rfl) | exact .inr (.inr rfl))) (pox_p (ppx_name (i := 1) rfl (by first | exact .inl rfl | exact .inr (.inl rfl) | exact .inr (.inr rfl)))) (by decide) (fun _ _ => rfl))) (pax_cons (pox_p (ppx_name (i := 2) rfl (by first | exact .inl rfl | exact .inr (.inl rfl) | exact .inr (.inr rfl)))) pax_nil (by decide)) (by decide)) rfl))) (pbx_one (psx_raise (xi := 1) rfl bodyG_takes PySem.F.excBase_ValueError kf.e_InvalidFlow kf.m_InvalidFlow kf.ke_InvalidFlow (raises_own kf.su_InvalidFlow kf.ty_InvalidFlow) rfl (pax_cons (PEx.op pex_str) pax_nil (by decide)))) pbx_nil)
 (pbx_cons
 (psx_set (i := 4) sc_upper_bound.nd rfl (by first | exact .inl rfl | exact .inr rfl) pex_int (by decide) (hh_none rfl))
 (pbx_cons
 (psx_for (kl := [5, 6]) bodyG_passes rfl (pix_enum rfl kf.z_enumerate (pex_move (i := 3) rfl (by first | exact .inl rfl | exact .inr (.inl rfl) | exact .inr (.inr rfl)))) (pgx_tup rfl (pgsx_cons (pgx_name (i := 5) sc_upper_bound.nd rfl (by first | exact .inl rfl | exact .inr rfl) (by decide) (hh_none rfl)) (pgsx_cons (pgx_name (i := 6) sc_upper_bound.nd rfl (by first | exact .inl rfl | exact .inr rfl) (by decide) (hh_none rfl)) pgsx_nil)))
 (pbx_one (psx_if (ptx_val (pex_call F_leaves (hr.mono (by decide)) rfl kf.m_leaves kf.k_leaves B_leaves .nil Dfl.nil bodyG_takes (pax_cons (pox_p (ppx_name (i := 6) rfl (by first | exact .inl rfl | exact .inr (.inl rfl) | exact .inr (.inr rfl)))) (pax_cons (pox_p (ppx_name (i := 2) rfl (by first | exact .inl rfl | exact .inr (.inl rfl) | exact .inr (.inr rfl)))) pax_nil (by decide)) (by decide)) rfl)) (pbx_one (psx_aug (i := 4) sc_upper_bound.nd rfl (by first | exact .inl rfl | exact .inr rfl) iop_add opS_addI (pox_p (ppx_i (hu1 hr) (ppx_name (i := 6) rfl (by first | exact .inl rfl | exact .inr (.inl rfl) | exact .inr (.inr rfl))) (PEx.op pex_int) (by decide) (fun _ _ => rfl))) (by decide) (by decide) (hh_none rfl))) (pbx_one (psx_if (PWx.pt (pwx_and (ptx_cmp (op_neD (hu64 hr)) blS_ne.op (pox_p (ppx_name (i := 5) rfl (by first | exact .inl rfl | exact .inr (.inl rfl) | exact .inr (.inr rfl)))) (pox_p (ppx_name (i := 1) rfl (by first | exact .inl rfl | exact .inr (.inl rfl) | exact .inr (.inr rfl)))) (by decide) (nomark _)) (pwx_and1 (ptx_val (pex_call F_enters (hr.mono (by decide)) rfl kf.m_enters kf.k_enters B_enters .nil Dfl.nil bodyG_takes (pax_cons (pox_p (ppx_name (i := 6) rfl (by first | exact .inl rfl | exact .inr (.inl rfl) | exact .inr (.inr rfl)))) (pax_cons (pox_p (ppx_name (i := 2) rfl (by first | exact .inl rfl | exact .inr (.inl rfl) | exact .inr (.inr rfl)))) pax_nil (by decide)) (by decide)) rfl))))) (pbx_one (psx_aug (i := 4) sc_upper_bound.nd rfl (by first | exact .inl rfl | exact .inr rfl) iop_sub opS_subI (pox_p (ppx_i (hu1 hr) (ppx_name (i := 6) rfl (by first | exact .inl rfl | exact .inr (.inl rfl) | exact .inr (.inr rfl))) (PEx.op pex_int) (by decide) (fun _ _ => rfl))) (by decide) (by decide) (hh_none rfl))) pbx_nil)))))
 (pbx_one (psx_ret (pex_move (i := 4) rfl (by first | exact .inl rfl | exact .inr (.inl rfl) | exact .inr (.inr rfl)))))))))
theorem sc_lower_bound : FnScope ["network", "arc", "members", "arcs", "bound", "at", "other"] ["network", "arc", "members"] (defScope Hd.s_lower_bound) := ⟨rfl, rfl, rfl, by decide +kernel, rfl, by decide +kernel, by decide +kernel⟩
def l_lower_bound_1 (fu : Nat) : DL.Env → SR := (sIf (eCall (m_enters fu) [] (lCons (eLk (fName 6)) (lCons (eLk (fName 2)) lNil))) (sAug 4 hAddI (eLk (pI (fName 6) (eConst (.int 2))))) (sIf (eAnd (eOp2 hNe (eLk (fName 5)) (eLk (fName 1))) (eCall (m_leaves fu) [] (lCons (eLk (fName 6)) (lCons (eLk (fName 2)) lNil)))) (sAug 4 hSubI (eLk (pI (fName 6) (eConst (.int 3))))) sNext))
def b_lower_bound (fu : Nat) : DL.Env → SR := (sSeq
 (sSet 3 (eMeth 0 (m_Network_arcs fu) [] (eLk (fName 0)) lNil))
 (sSeq
 (sIf (eNot (eCall (m_leaves fu) [] (lCons (eLk (pI (fName 3) (eLk (fName 1)))) (lCons (eLk (fName 2)) lNil)))) (sRaise 1 (lCons (eConst (.str "the arc does not leave the set")) lNil)) sNext)
 (sSeq
 (sSet 4 (eConst (.int 0)))
 (sSeq
 (sFor (tgTup (tgCons (tgName 5) (tgCons (tgName 6) tgNil))) (eEnum (eMove 3)) (l_lower_bound_1 fu) [5, 6])
 (sRet (eMove 4))))))
def m_lower_bound (fu : Nat) (ds : List D) : FR := FR.of [] (b_lower_bound fu (startE 7 ds))
theorem ok_lower_bound {P : Program} {w : World} {K : PySem.W.Frag} {mg : Str → Option Value} {base : Heap} (kf : Kf K mg) (fu : Nat) {fd : FuncData} (F : FunD K "lower_bound" "lower_bound" (defArgs Hd.s_lower_bound) (defBody Hd.s_lower_bound) (defScope Hd.s_lower_bound) [] [] (He.fAd K ("lower_bound", none)) fd) {fd_Network_arcs : FuncData} (p_Network_arcs : PrD (cs K) (xcs K) xfs P w K mg base 1 (He.fAd K ("Network", some "arcs")) ["self"] 1 [] (m_Network_arcs fu) fd_Network_arcs) {fd_enters : FuncData} (p_enters : PrD (cs K) (xcs K) xfs P w K mg base 1 (He.fAd K ("enters", none)) ["arc", "members"] 2 [] (m_enters fu) fd_enters) {fd_leaves : FuncData} (p_leaves : PrD (cs K) (xcs K) xfs P w K mg base 1 (He.fAd K ("leaves", none)) ["arc", "members"] 2 [] (m_leaves fu) fd_leaves) :
    PrD (cs K) (xcs K) xfs P w K mg base 2 (He.fAd K ("lower_bound", none)) ["network", "arc", "members"] 3 [] (m_lower_bound fu) fd := by
  obtain ⟨F_Network_arcs, B_Network_arcs⟩ := p_Network_arcs
  obtain ⟨F_enters, B_enters⟩ := p_enters
  obtain ⟨F_leaves, B_leaves⟩ := p_leaves
  refine ⟨fnD_ok (N := ["network", "arc", "members", "arcs", "bound", "at", "other"]) (S := [3, 4, 5, 6]) (bf := b_lower_bound fu) F sc_lower_bound rfl (by decide) (by decide) fun cd A outer s H E hr => ?_, F.bindsN fun _ _ _ _ _ _ us hl => match us, hl with | [_, _, _], _ => rfl⟩
  unfold b_lower_bound l_lower_bound_1
  exact (pbx_cons
 (psx_set (i := 3) sc_lower_bound.nd rfl (by first | exact .inl rfl | exact .inr rfl) (pex_meth0 (cc := 0) F_Network_arcs (hr.mono (by decide)) kf.c_Network kf.me_Network_arcs (by show ¬ ("arcs" : Str) ∈ (["nodes", "_arcs"] : List Str); decide +kernel) B_Network_arcs .nil Dfl.nil bodyG_takes (pox_p (ppx_name (i := 0) rfl (by first | exact .inl rfl | exact .inr (.inl rfl) | exact .inr (.inr rfl)))) rfl) (by decide) (hh_none rfl))
 (pbx_cons
 (psx_if (ptx_not (ptx_val (pex_call F_leaves (hr.mono (by decide)) rfl kf.m_leaves kf.k_leaves B_leaves .nil Dfl.nil bodyG_takes (pax_cons (pox_p (ppx_i (hu1 hr) (ppx_name (i := 3) rfl (by first | exact .inl rfl | exact .inr (.inl rfl) | exact .inr (.inr rfl))) (pox_p (ppx_name (i := 1) rfl (by first | exact .inl rfl | exact .inr (.inl rfl) | exact .inr (.inr rfl)))) (by decide) (fun _ _ => rfl))) (pax_cons (pox_p (ppx_name (i := 2) rfl (by first | exact .inl rfl | exact .inr (.inl rfl) | exact .inr (.inr rfl)))) pax_nil (by decide)) (by decide)) rfl))) (pbx_one (psx_raise (xi := 1) rfl bodyG_takes PySem.F.excBase_ValueError kf.e_InvalidFlow kf.m_InvalidFlow kf.ke_InvalidFlow (raises_own kf.su_InvalidFlow kf.ty_InvalidFlow) rfl (pax_cons (PEx.op pex_str) pax_nil (by decide)))) pbx_nil)
 (pbx_cons
 (psx_set (i := 4) sc_lower_bound.nd rfl (by first | exact .inl rfl | exact .inr rfl) pex_int (by decide) (hh_none rfl))
 (pbx_cons
 (psx_for (kl := [5, 6]) bodyG_passes rfl (pix_enum rfl kf.z_enumerate (pex_move (i := 3) rfl (by first | exact .inl rfl | exact .inr (.inl rfl) | exact .inr (.inr rfl)))) (pgx_tup rfl (pgsx_cons (pgx_name (i := 5) sc_lower_bound.nd rfl (by first | exact .inl rfl | exact .inr rfl) (by decide) (hh_none rfl)) (pgsx_cons (pgx_name (i := 6) sc_lower_bound.nd rfl (by first | exact .inl rfl | exact .inr rfl) (by decide) (hh_none rfl)) pgsx_nil)))
 (pbx_one (psx_if (ptx_val (pex_call F_enters (hr.mono (by decide)) rfl kf.m_enters kf.k_enters B_enters .nil Dfl.nil bodyG_takes (pax_cons (pox_p (ppx_name (i := 6) rfl (by first | exact .inl rfl | exact .inr (.inl rfl) | exact .inr (.inr rfl)))) (pax_cons (pox_p (ppx_name (i := 2) rfl (by first | exact .inl rfl | exact .inr (.inl rfl) | exact .inr (.inr rfl)))) pax_nil (by decide)) (by decide)) rfl)) (pbx_one (psx_aug (i := 4) sc_lower_bound.nd rfl (by first | exact .inl rfl | exact .inr rfl) iop_add opS_addI (pox_p (ppx_i (hu1 hr) (ppx_name (i := 6) rfl (by first | exact .inl rfl | exact .inr (.inl rfl) | exact .inr (.inr rfl))) (PEx.op pex_int) (by decide) (fun _ _ => rfl))) (by decide) (by decide) (hh_none rfl))) (pbx_one (psx_if (PWx.pt (pwx_and (ptx_cmp (op_neD (hu64 hr)) blS_ne.op (pox_p (ppx_name (i := 5) rfl (by first | exact .inl rfl | exact .inr (.inl rfl) | exact .inr (.inr rfl)))) (pox_p (ppx_name (i := 1) rfl (by first | exact .inl rfl | exact .inr (.inl rfl) | exact .inr (.inr rfl)))) (by decide) (nomark _)) (pwx_and1 (ptx_val (pex_call F_leaves (hr.mono (by decide)) rfl kf.m_leaves kf.k_leaves B_leaves .nil Dfl.nil bodyG_takes (pax_cons (pox_p (ppx_name (i := 6) rfl (by first | exact .inl rfl | exact .inr (.inl rfl) | exact .inr (.inr rfl)))) (pax_cons (pox_p (ppx_name (i := 2) rfl (by first | exact .inl rfl | exact .inr (.inl rfl) | exact .inr (.inr rfl)))) pax_nil (by decide)) (by decide)) rfl))))) (pbx_one (psx_aug (i := 4) sc_lower_bound.nd rfl (by first | exact .inl rfl | exact .inr rfl) iop_sub opS_subI (pox_p (ppx_i (hu1 hr) (ppx_name (i := 6) rfl (by first | exact .inl rfl | exact .inr (.inl rfl) | exact .inr (.inr rfl))) (PEx.op pex_int) (by decide) (fun _ _ => rfl))) (by decide) (by decide) (hh_none rfl))) pbx_nil)))))
 (pbx_one (psx_ret (pex_move (i := 4) rfl (by first | exact .inl rfl | exact .inr (.inl rfl) | exact .inr (.inr rfl)))))))))
theorem sc_law_is_integer : FnScope ["_law_actual"] ["_law_actual"] (defScope Hd.s_law_is_integer) := ⟨rfl, rfl, rfl, by decide +kernel, rfl, by decide +kernel, by decide +kernel⟩
def b_law_is_integer (fu : Nat) : DL.Env → SR := (sRet (eAnd (eIsi "int" (eLk (fName 0))) (eNot (eIsi "bool" (eLk (fName 0))))))
def m_law_is_integer (fu : Nat) (ds : List D) : FR := FR.of [] (b_law_is_integer fu (startE 1 ds))
theorem ok_law_is_integer {P : Program} {w : World} {K : PySem.W.Frag} {mg : Str → Option Value} {base : Heap} (kf : Kf K mg) (fu : Nat) {fd : FuncData} (F : FunD K "_law_is_integer" "_law_is_integer" (defArgs Hd.s_law_is_integer) (defBody Hd.s_law_is_integer) (defScope Hd.s_law_is_integer) [] [] (He.fAd K ("_law_is_integer", none)) fd)  :
    PrD (cs K) (xcs K) xfs P w K mg base 1 (He.fAd K ("_law_is_integer", none)) ["_law_actual"] 1 [] (m_law_is_integer fu) fd := by
  refine ⟨fnD_ok (N := ["_law_actual"]) (S := []) (bf := b_law_is_integer fu) F sc_law_is_integer rfl (by decide) (by decide) fun cd A outer s H E hr => ?_, F.bindsN fun _ _ _ _ _ _ us hl => match us, hl with | [_], _ => rfl⟩
  unfold b_law_is_integer
  exact (pbx_one (psx_ret (pex_and (pex_isi (tn := "int") rfl kf.z_isinstance rfl kf.z_int bt_int (pox_p (ppx_name (i := 0) rfl (by first | exact .inl rfl | exact .inr (.inl rfl) | exact .inr (.inr rfl))))) (pex_one (pex_not (pex_isi (tn := "bool") rfl kf.z_isinstance rfl kf.z_bool bt_bool (pox_p (ppx_name (i := 0) rfl (by first | exact .inl rfl | exact .inr (.inl rfl) | exact .inr (.inr rfl))))))))))
theorem sc_law_cell : FnScope ["_law_script", "_law_k"] ["_law_script", "_law_k"] (defScope Hd.s_law_cell) := ⟨rfl, rfl, rfl, by decide +kernel, rfl, by decide +kernel, by decide +kernel⟩
def b_law_cell (fu : Nat) : DL.Env → SR := (sSeq
 (sIf (eOp2 hLt (eLk (fName 1)) (eCallV hLen (lCons (eLk (fName 0)) lNil))) (sRet (eSh 0 (pI (fName 0) (eLk (fName 1))))) sNext)
 (sRet (eConst (.int 0))))
def m_law_cell (fu : Nat) (ds : List D) : FR := FR.of [] (b_law_cell fu (startE 2 ds))
theorem ok_law_cell {P : Program} {w : World} {K : PySem.W.Frag} {mg : Str → Option Value} {base : Heap} (kf : Kf K mg) (fu : Nat) {fd : FuncData} (F : FunD K "_law_cell" "_law_cell" (defArgs Hd.s_law_cell) (defBody Hd.s_law_cell) (defScope Hd.s_law_cell) [] [] (He.fAd K ("_law_cell", none)) fd)  :
    PrD (cs K) (xcs K) xfs P w K mg base 1 (He.fAd K ("_law_cell", none)) ["_law_script", "_law_k"] 2 [] (m_law_cell fu) fd := by
  refine ⟨fnD_ok (N := ["_law_script", "_law_k"]) (S := []) (bf := b_law_cell fu) F sc_law_cell rfl (by decide) (by decide) fun cd A outer s H E hr => ?_, F.bindsN fun _ _ _ _ _ _ us hl => match us, hl with | [_, _], _ => rfl⟩
  unfold b_law_cell
  exact (pbx_cons
 (psx_if (ptx_cmp op_lt blS_lt.op (pox_p (ppx_name (i := 1) rfl (by first | exact .inl rfl | exact .inr (.inl rfl) | exact .inr (.inr rfl)))) (PEx.op (pex_callB call_lenAny callS_len rfl kf.z_len bt_len (pax_cons (pox_p (ppx_name (i := 0) rfl (by first | exact .inl rfl | exact .inr (.inl rfl) | exact .inr (.inr rfl)))) pax_nil (by decide)))) (by decide) (nomark _)) (pbx_one (psx_ret (pex_sh (ppx_i (hu1 hr) (ppx_name (i := 0) rfl (by first | exact .inl rfl | exact .inr (.inl rfl) | exact .inr (.inr rfl))) (pox_p (ppx_name (i := 1) rfl (by first | exact .inl rfl | exact .inr (.inl rfl) | exact .inr (.inr rfl)))) (by decide) (fun _ _ => rfl))))) pbx_nil)
 (pbx_one (psx_ret pex_int)))
theorem sc_law_numbers : FnScope ["_law_script", "_law_first", "_law_most", "_law_found", "_law_at", "_law_cell_here", "_law_k", "_law_mixed"] ["_law_script", "_law_first", "_law_most"] (defScope Hd.s_law_numbers) := ⟨rfl, rfl, rfl, by decide +kernel, rfl, by decide +kernel, by decide +kernel⟩
def l_law_numbers_1 (fu : Nat) : DL.Env → SR := (sIf (eAnd (eOp2 hGt (eLk (fName 5)) (eConst (.int 0))) (eOp2 hLt (eCallV hLen (lCons (eLk (fName 3)) lNil)) (eLk (fName 2)))) (sSeq
 (sDrop (eMut 3 isOL hAppend (fName 3) (lCons (eOp2 hModI (eCallV hInt (lCons (eLk (fName 5)) lNil)) (eConst (.int 4096))) lNil)))
 (sSet 5 (eOp2 hDivI (eLk (fName 5)) (eConst (.int 4096))))) sNext)
def l_law_numbers_2 (fu : Nat) : DL.Env → SR := (sSeq
 (sSet 5 (eCallV hAbs (lCons (eLk (pI (fName 0) (eLk (fName 4)))) lNil)))
 (sIf (eOp2 hGe (eLk (fName 5)) (eConst (.int 1000000000000000000))) (sFor (tgName 6) (eRng (lCons (eConst (.int 60)) lNil)) (l_law_numbers_1 fu) [6]) (sIf (eOp2 hLt (eCallV hLen (lCons (eLk (fName 3)) lNil)) (eLk (fName 2))) (sSeq
 (sSet 7 (eOp2 hModI (eCallV hInt (lCons (eOp2 hAdd (eOp2 hAdd (eOp2 hMul (eLk (fName 5)) (eConst (.int 48271))) (eOp2 hMul (eLk (fName 4)) (eConst (.int 69621)))) (eConst (.int 12345))) lNil)) (eConst (.int 2147483647))))
 (sSeq
 (sSet 7 (eOp2 hModI (eCallV hInt (lCons (eOp2 hAdd (eOp2 hMul (eLk (fName 7)) (eConst (.int 69621))) (eOp2 hDivI (eLk (fName 7)) (eConst (.int 1009)))) lNil)) (eConst (.int 1000003))))
 (sDrop (eMut 3 isOL hAppend (fName 3) (lCons (eOp2 hModI (eCallV hInt (lCons (eLk (fName 7)) lNil)) (eConst (.int 4096))) lNil))))) sNext)))
def b_law_numbers (fu : Nat) : DL.Env → SR := (sSeq
 (sSet 3 (eLst lNil))
 (sSeq
 (sFor (tgName 4) (eRng (lCons (eLk (fName 1)) (lCons (eCallV hLen (lCons (eLk (fName 0)) lNil)) lNil))) (l_law_numbers_2 fu) [4, 5, 6, 7])
 (sRet (eMove 3))))
def m_law_numbers (fu : Nat) (ds : List D) : FR := FR.of [] (b_law_numbers fu (startE 8 ds))
theorem ok_law_numbers {P : Program} {w : World} {K : PySem.W.Frag} {mg : Str → Option Value} {base : Heap} (kf : Kf K mg) (fu : Nat) {fd : FuncData} (F : FunD K "_law_numbers" "_law_numbers" (defArgs Hd.s_law_numbers) (defBody Hd.s_law_numbers) (defScope Hd.s_law_numbers) [] [] (He.fAd K ("_law_numbers", none)) fd)  :
    PrD (cs K) (xcs K) xfs P w K mg base 1 (He.fAd K ("_law_numbers", none)) ["_law_script", "_law_first", "_law_most"] 3 [] (m_law_numbers fu) fd := by
  refine ⟨fnD_ok (N := ["_law_script", "_law_first", "_law_most", "_law_found", "_law_at", "_law_cell_here", "_law_k", "_law_mixed"]) (S := [3, 4, 5, 6, 7]) (bf := b_law_numbers fu) F sc_law_numbers rfl (by decide) (by decide) fun cd A outer s H E hr => ?_, F.bindsN fun _ _ _ _ _ _ us hl => match us, hl with | [_, _, _], _ => rfl⟩
  unfold b_law_numbers l_law_numbers_2 l_law_numbers_1
  exact (pbx_cons
 (psx_set (i := 3) sc_law_numbers.nd rfl (by first | exact .inl rfl | exact .inr rfl) (pex_lst pvx_nil) (by decide) (hh_none rfl))
 (pbx_cons
 (psx_for (kl := [4, 5, 6, 7]) bodyG_passes rfl (pix_rng2 rfl kf.z_range (pax_cons (pox_p (ppx_name (i := 1) rfl (by first | exact .inl rfl | exact .inr (.inl rfl) | exact .inr (.inr rfl)))) (pax_cons (PEx.op (pex_callB call_lenAny callS_len rfl kf.z_len bt_len (pax_cons (pox_p (ppx_name (i := 0) rfl (by first | exact .inl rfl | exact .inr (.inl rfl) | exact .inr (.inr rfl)))) pax_nil (by decide)))) pax_nil (by decide)) (by decide))) (pgx_name (i := 4) sc_law_numbers.nd rfl (by first | exact .inl rfl | exact .inr rfl) (by decide) (hh_none rfl))
 (pbx_cons
 (psx_set (i := 5) sc_law_numbers.nd rfl (by first | exact .inl rfl | exact .inr rfl) (pex_callB call_abs callS_abs rfl kf.z_abs bt_abs (pax_cons (pox_p (ppx_i (hu1 hr) (ppx_name (i := 0) rfl (by first | exact .inl rfl | exact .inr (.inl rfl) | exact .inr (.inr rfl))) (pox_p (ppx_name (i := 4) rfl (by first | exact .inl rfl | exact .inr (.inl rfl) | exact .inr (.inr rfl)))) (by decide) (fun _ _ => rfl))) pax_nil (by decide))) (by decide) (hh_none rfl))
 (pbx_one (psx_if (ptx_cmp op_ge blS_ge.op (pox_p (ppx_name (i := 5) rfl (by first | exact .inl rfl | exact .inr (.inl rfl) | exact .inr (.inr rfl)))) (PEx.op pex_int) (by decide) (nomark _)) (pbx_one (psx_for (kl := [6]) bodyG_passes rfl (pix_rng1 rfl kf.z_range (pax_cons (PEx.op pex_int) pax_nil (by decide))) (pgx_name (i := 6) sc_law_numbers.nd rfl (by first | exact .inl rfl | exact .inr rfl) (by decide) (hh_none rfl))
 (pbx_one (psx_if (PWx.pt (pwx_and (ptx_cmp op_gt blS_gt.op (pox_p (ppx_name (i := 5) rfl (by first | exact .inl rfl | exact .inr (.inl rfl) | exact .inr (.inr rfl)))) (PEx.op pex_int) (by decide) (nomark _)) (pwx_and1 (ptx_cmp op_lt blS_lt.op (PEx.op (pex_callB call_lenAny callS_len rfl kf.z_len bt_len (pax_cons (pox_p (ppx_name (i := 3) rfl (by first | exact .inl rfl | exact .inr (.inl rfl) | exact .inr (.inr rfl)))) pax_nil (by decide)))) (pox_p (ppx_name (i := 2) rfl (by first | exact .inl rfl | exact .inr (.inl rfl) | exact .inr (.inr rfl)))) (by decide) (nomark _))))) (pbx_cons
 (psx_expr (pex_mut PySem.F.plainAttrs_list PySem.F.slot_list_append PySem.F.type_list_append mt_append mutS_append (ppx_name (i := 3) rfl (by first | exact .inl rfl | exact .inr (.inl rfl) | exact .inr (.inr rfl))) (pvx_cons (pex_bin op_mod opS_modI (PEx.op (pex_callTy call_int1 callS_int rfl kf.z_int bt_int (pax_cons (pox_p (ppx_name (i := 5) rfl (by first | exact .inl rfl | exact .inr (.inl rfl) | exact .inr (.inr rfl)))) pax_nil (by decide)))) (PEx.op pex_int) (by decide)) pvx_nil) (by decide) isOL_ty))
 (pbx_one (psx_set (i := 5) sc_law_numbers.nd rfl (by first | exact .inl rfl | exact .inr rfl) (pex_bin op_fdiv opS_divI (pox_p (ppx_name (i := 5) rfl (by first | exact .inl rfl | exact .inr (.inl rfl) | exact .inr (.inr rfl)))) (PEx.op pex_int) (by decide)) (by decide) (hh_none rfl)))) pbx_nil)))) (pbx_one (psx_if (ptx_cmp op_lt blS_lt.op (PEx.op (pex_callB call_lenAny callS_len rfl kf.z_len bt_len (pax_cons (pox_p (ppx_name (i := 3) rfl (by first | exact .inl rfl | exact .inr (.inl rfl) | exact .inr (.inr rfl)))) pax_nil (by decide)))) (pox_p (ppx_name (i := 2) rfl (by first | exact .inl rfl | exact .inr (.inl rfl) | exact .inr (.inr rfl)))) (by decide) (nomark _)) (pbx_cons
 (psx_set (i := 7) sc_law_numbers.nd rfl (by first | exact .inl rfl | exact .inr rfl) (pex_bin op_mod opS_modI (PEx.op (pex_callTy call_int1 callS_int rfl kf.z_int bt_int (pax_cons (PEx.op (pex_bin op_addA opS_addA (PEx.op (pex_bin op_addA opS_addA (PEx.op (pex_bin op_mulA opS_mulA (pox_p (ppx_name (i := 5) rfl (by first | exact .inl rfl | exact .inr (.inl rfl) | exact .inr (.inr rfl)))) (PEx.op pex_int) (by decide))) (PEx.op (pex_bin op_mulA opS_mulA (pox_p (ppx_name (i := 4) rfl (by first | exact .inl rfl | exact .inr (.inl rfl) | exact .inr (.inr rfl)))) (PEx.op pex_int) (by decide))) (by decide))) (PEx.op pex_int) (by decide))) pax_nil (by decide)))) (PEx.op pex_int) (by decide)) (by decide) (hh_none rfl))
 (pbx_cons
 (psx_set (i := 7) sc_law_numbers.nd rfl (by first | exact .inl rfl | exact .inr rfl) (pex_bin op_mod opS_modI (PEx.op (pex_callTy call_int1 callS_int rfl kf.z_int bt_int (pax_cons (PEx.op (pex_bin op_addA opS_addA (PEx.op (pex_bin op_mulA opS_mulA (pox_p (ppx_name (i := 7) rfl (by first | exact .inl rfl | exact .inr (.inl rfl) | exact .inr (.inr rfl)))) (PEx.op pex_int) (by decide))) (PEx.op (pex_bin op_fdiv opS_divI (pox_p (ppx_name (i := 7) rfl (by first | exact .inl rfl | exact .inr (.inl rfl) | exact .inr (.inr rfl)))) (PEx.op pex_int) (by decide))) (by decide))) pax_nil (by decide)))) (PEx.op pex_int) (by decide)) (by decide) (hh_none rfl))
 (pbx_one (psx_expr (pex_mut PySem.F.plainAttrs_list PySem.F.slot_list_append PySem.F.type_list_append mt_append mutS_append (ppx_name (i := 3) rfl (by first | exact .inl rfl | exact .inr (.inl rfl) | exact .inr (.inr rfl))) (pvx_cons (pex_bin op_mod opS_modI (PEx.op (pex_callTy call_int1 callS_int rfl kf.z_int bt_int (pax_cons (pox_p (ppx_name (i := 7) rfl (by first | exact .inl rfl | exact .inr (.inl rfl) | exact .inr (.inr rfl)))) pax_nil (by decide)))) (PEx.op pex_int) (by decide)) pvx_nil) (by decide) isOL_ty))))) pbx_nil))))))
 (pbx_one (psx_ret (pex_move (i := 3) rfl (by first | exact .inl rfl | exact .inr (.inl rfl) | exact .inr (.inr rfl)))))))
theorem sc_law_any_network : FnScope ["_law_numbers_here", "_law_loose", "_law_nodes", "_law_arcs", "_law_flow", "_law_number", "_law_tail", "_law_head", "_law_k", "_law_start", "_law_node", "_law_path", "_law_step", "_law_ways", "_law_j", "_law_least", "_law_most"] ["_law_numbers_here", "_law_loose"] (defScope Hd.s_law_any_network) := ⟨rfl, rfl, rfl, by decide +kernel, rfl, by decide +kernel, by decide +kernel⟩
def l_law_any_network_1 (fu : Nat) : DL.Env → SR := (sSeq
 (sSet 6 (eOp2 hModI (eCallV hInt (lCons (eLk (fName 5)) lNil)) (eLk (fName 2))))
 (sSeq
 (sSet 7 (eOp2 hModI (eCallV hInt (lCons (eOp2 hAdd (eOp2 hAdd (eLk (fName 6)) (eConst (.int 1))) (eOp2 hModI (eCallV hInt (lCons (eOp2 hDivI (eLk (fName 5)) (eConst (.int 5))) lNil)) (eOp2 hSubI (eLk (fName 2)) (eConst (.int 1))))) lNil)) (eLk (fName 2))))
 (sSeq
 (sDrop (eMut 3 isOL hAppend (fName 3) (lCons (eLst (lCons (eMove 6) (lCons (eMove 7) (lCons (eConst (.int 0)) (lCons (eConst (.int 0)) lNil))))) lNil)))
 (sDrop (eMut 4 isOL hAppend (fName 4) (lCons (eConst (.int 0)) lNil))))))
def q_law_any_network_2 (fu : Nat) : DL.Env → ER := (eAnd (eOp2 hEq (eLk (pI (pI (fName 3) (eLk (fName 14))) (eConst (.int 0)))) (eLk (fName 10))) (eOp2 hNin (eLk (fName 14)) (eLk (fName 11))))
def v_law_any_network_3 (fu : Nat) : DL.Env → ER := (eSh 14 (fName 14))
def l_law_any_network_4 (fu : Nat) : DL.Env → SR := (sIf (eOp2 hNe (eLk (fName 10)) (eLk (fName 9))) (sSeq
 (sSet 13 (eLc [14] (tgName 14) (eRng (lCons (eCallV hLen (lCons (eLk (fName 3)) lNil)) lNil)) (q_law_any_network_2 fu) (v_law_any_network_3 fu)))
 (sIf (eOp2 hNe (eLk (fName 13)) (eLst lNil)) (sSeq
 (sDrop (eMut 11 isOL hAppend (fName 11) (lCons (eSh 13 (pI (fName 13) (eOp2 hModI (eCallV hInt (lCons (eOp2 hDivI (eLk (pI (fName 0) (eLk (fName 8)))) (eConst (.int 20))) lNil)) (eCallV hLen (lCons (eLk (fName 13)) lNil))))) lNil)))
 (sSet 10 (eSh 3 (pI (pI (fName 3) (eLk (pI (fName 11) (eNeg (eConst (.int 1)))))) (eConst (.int 1)))))) sNext)) sNext)
def l_law_any_network_5 (fu : Nat) : DL.Env → SR := (sPut 4 (eOp2 hAdd (eLk (pI (fName 4) (eLk (fName 14)))) (eOp2 hModI (eCallV hInt (lCons (eOp2 hDivI (eLk (pI (fName 0) (eLk (fName 8)))) (eConst (.int 100))) lNil)) (eConst (.int 4)))) (fName 4) (eLk (fName 14)))
def l_law_any_network_6 (fu : Nat) : DL.Env → SR := (sSeq
 (sSet 9 (eSh 3 (pI (pI (fName 3) (eLk (fName 8))) (eConst (.int 0)))))
 (sSeq
 (sSet 10 (eSh 3 (pI (pI (fName 3) (eLk (fName 8))) (eConst (.int 1)))))
 (sSeq
 (sSet 11 (eLst (lCons (eSh 8 (fName 8)) lNil)))
 (sSeq
 (sFor (tgName 12) (eRng (lCons (eLk (fName 2)) lNil)) (l_law_any_network_4 fu) [12, 13])
 (sIf (eOp2 hEq (eLk (fName 10)) (eLk (fName 9))) (sFor (tgName 14) (eIter (eMove 11)) (l_law_any_network_5 fu) []) sNext)))))
def l_law_any_network_7 (fu : Nat) : DL.Env → SR := (sSeq
 (sSet 15 (eCallV hMax2 (lCons (eConst (.int 0)) (lCons (eOp2 hAdd (eOp2 hSubI (eLk (pI (fName 4) (eLk (fName 8)))) (eOp2 hModI (eCallV hInt (lCons (eOp2 hDivI (eLk (pI (fName 0) (eLk (fName 8)))) (eConst (.int 400))) lNil)) (eConst (.int 4)))) (eOp2 hMul (eLk (fName 1)) (eOp2 hModI (eCallV hInt (lCons (eLk (pI (fName 0) (eLk (fName 8)))) lNil)) (eConst (.int 3))))) lNil))))
 (sSeq
 (sSet 16 (eCallV hMax2 (lCons (eLk (fName 15)) (lCons (eOp2 hAdd (eLk (pI (fName 4) (eLk (fName 8)))) (eOp2 hModI (eCallV hInt (lCons (eOp2 hDivI (eLk (pI (fName 0) (eLk (fName 8)))) (eConst (.int 1600))) lNil)) (eConst (.int 3)))) lNil))))
 (sPut 3 (eTup (lCons (eSh 3 (pI (pI (fName 3) (eLk (fName 8))) (eConst (.int 0)))) (lCons (eSh 3 (pI (pI (fName 3) (eLk (fName 8))) (eConst (.int 1)))) (lCons (eMove 15) (lCons (eMove 16) lNil))))) (fName 3) (eLk (fName 8)))))
def b_law_any_network (fu : Nat) : DL.Env → SR := (sSeq
 (sSet 2 (eOp2 hAdd (eConst (.int 2)) (eOp2 hModI (eCallV hInt (lCons (eCallV hSum (lCons (eLk (fName 0)) lNil)) lNil)) (eConst (.int 4)))))
 (sSeq
 (sSet 3 (eLst lNil))
 (sSeq
 (sSet 4 (eLst lNil))
 (sSeq
 (sFor (tgName 5) (eIter (eSh 0 (fName 0))) (l_law_any_network_1 fu) [5, 6, 7])
 (sSeq
 (sFor (tgName 8) (eRng (lCons (eCallV hLen (lCons (eLk (fName 0)) lNil)) lNil)) (l_law_any_network_6 fu) [8, 9, 10, 11, 12, 13])
 (sSeq
 (sFor (tgName 8) (eRng (lCons (eCallV hLen (lCons (eLk (fName 3)) lNil)) lNil)) (l_law_any_network_7 fu) [8, 15, 16])
 (sRet (eTup (lCons (eMove 2) (lCons (eMove 3) (lCons (eMove 4) lNil)))))))))))
def m_law_any_network (fu : Nat) (ds : List D) : FR := FR.of [] (b_law_any_network fu (startE 17 ds))
theorem ok_law_any_network {P : Program} {w : World} {K : PySem.W.Frag} {mg : Str → Option Value} {base : Heap} (kf : Kf K mg) (fu : Nat) {fd : FuncData} (F : FunD K "_law_any_network" "_law_any_network" (defArgs Hd.s_law_any_network) (defBody Hd.s_law_any_network) (defScope Hd.s_law_any_network) [] [] (He.fAd K ("_law_any_network", none)) fd)  :
    PrD (cs K) (xcs K) xfs P w K mg base 1 (He.fAd K ("_law_any_network", none)) ["_law_numbers_here", "_law_loose"] 2 [] (m_law_any_network fu) fd := by
  refine ⟨fnD_ok (N := ["_law_numbers_here", "_law_loose", "_law_nodes", "_law_arcs", "_law_flow", "_law_number", "_law_tail", "_law_head", "_law_k", "_law_start", "_law_node", "_law_path", "_law_step", "_law_ways", "_law_j", "_law_least", "_law_most"]) (S := [2, 3, 4, 5, 6, 7, 8, 9, 10, 11, 12, 13, 14, 15, 16]) (bf := b_law_any_network fu) F sc_law_any_network rfl (by decide) (by decide) fun cd A outer s H E hr => ?_, F.bindsN fun _ _ _ _ _ _ us hl => match us, hl with | [_, _], _ => rfl⟩
  unfold b_law_any_network l_law_any_network_7 l_law_any_network_6 l_law_any_network_5 l_law_any_network_4 v_law_any_network_3 q_law_any_network_2 l_law_any_network_1
  exact (pbx_cons
 (psx_set (i := 2) sc_law_any_network.nd rfl (by first | exact .inl rfl | exact .inr rfl) (pex_bin op_addA opS_addA (PEx.op pex_int) (PEx.op (pex_bin op_mod opS_modI (PEx.op (pex_callTy call_int1 callS_int rfl kf.z_int bt_int (pax_cons (PEx.op (pex_callB (cr_sum rfl) callS_sum rfl kf.z_sum bt_sum (pax_cons (pox_p (ppx_name (i := 0) rfl (by first | exact .inl rfl | exact .inr (.inl rfl) | exact .inr (.inr rfl)))) pax_nil (by decide)))) pax_nil (by decide)))) (PEx.op pex_int) (by decide))) (by decide)) (by decide) (hh_none rfl))
 (pbx_cons
 (psx_set (i := 3) sc_law_any_network.nd rfl (by first | exact .inl rfl | exact .inr rfl) (pex_lst pvx_nil) (by decide) (hh_none rfl))
 (pbx_cons
 (psx_set (i := 4) sc_law_any_network.nd rfl (by first | exact .inl rfl | exact .inr rfl) (pex_lst pvx_nil) (by decide) (hh_none rfl))
 (pbx_cons
 (psx_for (kl := [5, 6, 7]) bodyG_passes rfl (pix_val (pex_sh (ppx_name (i := 0) rfl (by first | exact .inl rfl | exact .inr (.inl rfl) | exact .inr (.inr rfl))))) (pgx_name (i := 5) sc_law_any_network.nd rfl (by first | exact .inl rfl | exact .inr rfl) (by decide) (hh_none rfl))
 (pbx_cons
 (psx_set (i := 6) sc_law_any_network.nd rfl (by first | exact .inl rfl | exact .inr rfl) (pex_bin op_mod opS_modI (PEx.op (pex_callTy call_int1 callS_int rfl kf.z_int bt_int (pax_cons (pox_p (ppx_name (i := 5) rfl (by first | exact .inl rfl | exact .inr (.inl rfl) | exact .inr (.inr rfl)))) pax_nil (by decide)))) (pox_p (ppx_name (i := 2) rfl (by first | exact .inl rfl | exact .inr (.inl rfl) | exact .inr (.inr rfl)))) (by decide)) (by decide) (hh_none rfl))
 (pbx_cons
 (psx_set (i := 7) sc_law_any_network.nd rfl (by first | exact .inl rfl | exact .inr rfl) (pex_bin op_mod opS_modI (PEx.op (pex_callTy call_int1 callS_int rfl kf.z_int bt_int (pax_cons (PEx.op (pex_bin op_addA opS_addA (PEx.op (pex_bin op_addA opS_addA (pox_p (ppx_name (i := 6) rfl (by first | exact .inl rfl | exact .inr (.inl rfl) | exact .inr (.inr rfl)))) (PEx.op pex_int) (by decide))) (PEx.op (pex_bin op_mod opS_modI (PEx.op (pex_callTy call_int1 callS_int rfl kf.z_int bt_int (pax_cons (PEx.op (pex_bin op_fdiv opS_divI (pox_p (ppx_name (i := 5) rfl (by first | exact .inl rfl | exact .inr (.inl rfl) | exact .inr (.inr rfl)))) (PEx.op pex_int) (by decide))) pax_nil (by decide)))) (PEx.op (pex_bin op_sub opS_subI (pox_p (ppx_name (i := 2) rfl (by first | exact .inl rfl | exact .inr (.inl rfl) | exact .inr (.inr rfl)))) (PEx.op pex_int) (by decide))) (by decide))) (by decide))) pax_nil (by decide)))) (pox_p (ppx_name (i := 2) rfl (by first | exact .inl rfl | exact .inr (.inl rfl) | exact .inr (.inr rfl)))) (by decide)) (by decide) (hh_none rfl))
 (pbx_cons
 (psx_expr (pex_mut PySem.F.plainAttrs_list PySem.F.slot_list_append PySem.F.type_list_append mt_append mutS_append (ppx_name (i := 3) rfl (by first | exact .inl rfl | exact .inr (.inl rfl) | exact .inr (.inr rfl))) (pvx_cons (pex_lst (pvx_cons (pex_move (i := 6) rfl (by first | exact .inl rfl | exact .inr (.inl rfl) | exact .inr (.inr rfl))) (pvx_cons (pex_move (i := 7) rfl (by first | exact .inl rfl | exact .inr (.inl rfl) | exact .inr (.inr rfl))) (pvx_cons pex_int (pvx_cons pex_int pvx_nil))))) pvx_nil) (by decide) isOL_ty))
 (pbx_one (psx_expr (pex_mut PySem.F.plainAttrs_list PySem.F.slot_list_append PySem.F.type_list_append mt_append mutS_append (ppx_name (i := 4) rfl (by first | exact .inl rfl | exact .inr (.inl rfl) | exact .inr (.inr rfl))) (pvx_cons pex_int pvx_nil) (by decide) isOL_ty)))))))
 (pbx_cons
 (psx_for (kl := [8, 9, 10, 11, 12, 13]) bodyG_passes rfl (pix_rng1 rfl kf.z_range (pax_cons (PEx.op (pex_callB call_lenAny callS_len rfl kf.z_len bt_len (pax_cons (pox_p (ppx_name (i := 0) rfl (by first | exact .inl rfl | exact .inr (.inl rfl) | exact .inr (.inr rfl)))) pax_nil (by decide)))) pax_nil (by decide))) (pgx_name (i := 8) sc_law_any_network.nd rfl (by first | exact .inl rfl | exact .inr rfl) (by decide) (hh_none rfl))
 (pbx_cons
 (psx_set (i := 9) sc_law_any_network.nd rfl (by first | exact .inl rfl | exact .inr rfl) (pex_sh (ppx_i (hu1 hr) (ppx_i (hu1 hr) (ppx_name (i := 3) rfl (by first | exact .inl rfl | exact .inr (.inl rfl) | exact .inr (.inr rfl))) (pox_p (ppx_name (i := 8) rfl (by first | exact .inl rfl | exact .inr (.inl rfl) | exact .inr (.inr rfl)))) (by decide) (fun _ _ => rfl)) (PEx.op pex_int) (by decide) (fun _ _ => rfl))) (by decide) (hh_none rfl))
 (pbx_cons
 (psx_set (i := 10) sc_law_any_network.nd rfl (by first | exact .inl rfl | exact .inr rfl) (pex_sh (ppx_i (hu1 hr) (ppx_i (hu1 hr) (ppx_name (i := 3) rfl (by first | exact .inl rfl | exact .inr (.inl rfl) | exact .inr (.inr rfl))) (pox_p (ppx_name (i := 8) rfl (by first | exact .inl rfl | exact .inr (.inl rfl) | exact .inr (.inr rfl)))) (by decide) (fun _ _ => rfl)) (PEx.op pex_int) (by decide) (fun _ _ => rfl))) (by decide) (hh_none rfl))
 (pbx_cons
 (psx_set (i := 11) sc_law_any_network.nd rfl (by first | exact .inl rfl | exact .inr rfl) (pex_lst (pvx_cons (pex_sh (ppx_name (i := 8) rfl (by first | exact .inl rfl | exact .inr (.inl rfl) | exact .inr (.inr rfl)))) pvx_nil)) (by decide) (hh_none rfl))
 (pbx_cons
 (psx_for (kl := [12, 13]) bodyG_passes rfl (pix_rng1 rfl kf.z_range (pax_cons (pox_p (ppx_name (i := 2) rfl (by first | exact .inl rfl | exact .inr (.inl rfl) | exact .inr (.inr rfl)))) pax_nil (by decide))) (pgx_name (i := 12) sc_law_any_network.nd rfl (by first | exact .inl rfl | exact .inr rfl) (by decide) (hh_none rfl))
 (pbx_one (psx_if (ptx_cmp (op_neD (hu64 hr)) blS_ne.op (pox_p (ppx_name (i := 10) rfl (by first | exact .inl rfl | exact .inr (.inl rfl) | exact .inr (.inr rfl)))) (pox_p (ppx_name (i := 9) rfl (by first | exact .inl rfl | exact .inr (.inl rfl) | exact .inr (.inr rfl)))) (by decide) (nomark _)) (pbx_cons
 (psx_setLc (k := 13) (own := [("_law_j", 14)]) rfl sc_law_any_network.nd rfl rfl (pix_rng1 rfl kf.z_range (pax_cons (PEx.op (pex_callB call_lenAny callS_len rfl kf.z_len bt_len (pax_cons (pox_p (ppx_name (i := 3) rfl (by first | exact .inl rfl | exact .inr (.inl rfl) | exact .inr (.inr rfl)))) pax_nil (by decide)))) pax_nil (by decide))) (blkOk_by (by show blkC ["_law_numbers_here", "_law_loose", "_law_nodes", "_law_arcs", "_law_flow", "_law_number", "_law_tail", "_law_head", "_law_k", "_law_start", "_law_node", "_law_path", "_law_step", "_law_ways", "_law_j", "_law_least", "_law_most"] (defScope Hd.s_law_any_network) _ _ = true; decide +kernel)) (fun _ _ _ _ _ => (pgx_name (i := 14) sc_law_any_network.nd rfl (by first | exact .inl rfl | exact .inr rfl) (by decide) (hh_none rfl))) (fun _ _ _ _ _ => (ptsx_one (PWx.pt (pwx_and (ptx_cmp (op_eqD (hu64 hr)) blS_eq.op (pox_p (ppx_i (hu1 hr) (ppx_i (hu1 hr) (ppx_name (i := 3) rfl (by first | exact .inl rfl | exact .inr (.inl rfl) | exact .inr (.inr rfl))) (pox_p (ppx_name (i := 14) rfl (by first | exact .inl rfl | exact .inr (.inl rfl) | exact .inr (.inr rfl)))) (by decide) (fun _ _ => rfl)) (PEx.op pex_int) (by decide) (fun _ _ => rfl))) (pox_p (ppx_name (i := 10) rfl (by first | exact .inl rfl | exact .inr (.inl rfl) | exact .inr (.inr rfl)))) (by decide) (nomark _)) (pwx_and1 (ptx_cmp (op_ninA (hu65 hr)) blS_nin.op (pox_p (ppx_name (i := 14) rfl (by first | exact .inl rfl | exact .inr (.inl rfl) | exact .inr (.inr rfl)))) (pox_p (ppx_name (i := 11) rfl (by first | exact .inl rfl | exact .inr (.inl rfl) | exact .inr (.inr rfl)))) (by decide) rfl)))))) (fun _ _ _ _ _ => (pex_sh (ppx_name (i := 14) rfl (by first | exact .inl rfl | exact .inr (.inl rfl) | exact .inr (.inr rfl))))) (by first | (intro h e; cases e) | (intro h e; cases e; decide)) (by decide) (hh_none rfl))
 (pbx_one (psx_if (ptx_cmp (op_neD (hu64 hr)) blS_ne.op (pox_p (ppx_name (i := 13) rfl (by first | exact .inl rfl | exact .inr (.inl rfl) | exact .inr (.inr rfl)))) (PEx.op (pex_lst pvx_nil)) (by decide) (nomark _)) (pbx_cons
 (psx_expr (pex_mut PySem.F.plainAttrs_list PySem.F.slot_list_append PySem.F.type_list_append mt_append mutS_append (ppx_name (i := 11) rfl (by first | exact .inl rfl | exact .inr (.inl rfl) | exact .inr (.inr rfl))) (pvx_cons (pex_sh (ppx_i (hu1 hr) (ppx_name (i := 13) rfl (by first | exact .inl rfl | exact .inr (.inl rfl) | exact .inr (.inr rfl))) (PEx.op (pex_bin op_mod opS_modI (PEx.op (pex_callTy call_int1 callS_int rfl kf.z_int bt_int (pax_cons (PEx.op (pex_bin op_fdiv opS_divI (pox_p (ppx_i (hu1 hr) (ppx_name (i := 0) rfl (by first | exact .inl rfl | exact .inr (.inl rfl) | exact .inr (.inr rfl))) (pox_p (ppx_name (i := 8) rfl (by first | exact .inl rfl | exact .inr (.inl rfl) | exact .inr (.inr rfl)))) (by decide) (fun _ _ => rfl))) (PEx.op pex_int) (by decide))) pax_nil (by decide)))) (PEx.op (pex_callB call_lenAny callS_len rfl kf.z_len bt_len (pax_cons (pox_p (ppx_name (i := 13) rfl (by first | exact .inl rfl | exact .inr (.inl rfl) | exact .inr (.inr rfl)))) pax_nil (by decide)))) (by decide))) (by decide) (fun _ _ => rfl))) pvx_nil) (by decide) isOL_ty))
 (pbx_one (psx_set (i := 10) sc_law_any_network.nd rfl (by first | exact .inl rfl | exact .inr rfl) (pex_sh (ppx_i (hu1 hr) (ppx_i (hu1 hr) (ppx_name (i := 3) rfl (by first | exact .inl rfl | exact .inr (.inl rfl) | exact .inr (.inr rfl))) (pox_p (ppx_i (hu1 hr) (ppx_name (i := 11) rfl (by first | exact .inl rfl | exact .inr (.inl rfl) | exact .inr (.inr rfl))) (PEx.op (pex_neg (PEx.op pex_int))) (by decide) (fun _ _ => rfl))) (by decide) (fun _ _ => rfl)) (PEx.op pex_int) (by decide) (fun _ _ => rfl))) (by decide) (hh_none rfl)))) pbx_nil))) pbx_nil)))
 (pbx_one (psx_if (ptx_cmp (op_eqD (hu64 hr)) blS_eq.op (pox_p (ppx_name (i := 10) rfl (by first | exact .inl rfl | exact .inr (.inl rfl) | exact .inr (.inr rfl)))) (pox_p (ppx_name (i := 9) rfl (by first | exact .inl rfl | exact .inr (.inl rfl) | exact .inr (.inr rfl)))) (by decide) (nomark _)) (pbx_one (psx_for (kl := []) bodyG_passes rfl (pix_val (pex_move (i := 11) rfl (by first | exact .inl rfl | exact .inr (.inl rfl) | exact .inr (.inr rfl)))) (pgx_name (i := 14) sc_law_any_network.nd rfl (by first | exact .inl rfl | exact .inr rfl) (by decide) (hh_none rfl))
 (pbx_one (psx_put (hu1 hr) (pex_bin op_addA opS_addA (pox_p (ppx_i (hu1 hr) (ppx_name (i := 4) rfl (by first | exact .inl rfl | exact .inr (.inl rfl) | exact .inr (.inr rfl))) (pox_p (ppx_name (i := 14) rfl (by first | exact .inl rfl | exact .inr (.inl rfl) | exact .inr (.inr rfl)))) (by decide) (fun _ _ => rfl))) (PEx.op (pex_bin op_mod opS_modI (PEx.op (pex_callTy call_int1 callS_int rfl kf.z_int bt_int (pax_cons (PEx.op (pex_bin op_fdiv opS_divI (pox_p (ppx_i (hu1 hr) (ppx_name (i := 0) rfl (by first | exact .inl rfl | exact .inr (.inl rfl) | exact .inr (.inr rfl))) (pox_p (ppx_name (i := 8) rfl (by first | exact .inl rfl | exact .inr (.inl rfl) | exact .inr (.inr rfl)))) (by decide) (fun _ _ => rfl))) (PEx.op pex_int) (by decide))) pax_nil (by decide)))) (PEx.op pex_int) (by decide))) (by decide)) (ppx_name (i := 4) rfl (by first | exact .inl rfl | exact .inr (.inl rfl) | exact .inr (.inr rfl))) (pox_p (ppx_name (i := 14) rfl (by first | exact .inl rfl | exact .inr (.inl rfl) | exact .inr (.inr rfl)))) (by decide))))) pbx_nil)))))))
 (pbx_cons
 (psx_for (kl := [8, 15, 16]) bodyG_passes rfl (pix_rng1 rfl kf.z_range (pax_cons (PEx.op (pex_callB call_lenAny callS_len rfl kf.z_len bt_len (pax_cons (pox_p (ppx_name (i := 3) rfl (by first | exact .inl rfl | exact .inr (.inl rfl) | exact .inr (.inr rfl)))) pax_nil (by decide)))) pax_nil (by decide))) (pgx_name (i := 8) sc_law_any_network.nd rfl (by first | exact .inl rfl | exact .inr rfl) (by decide) (hh_none rfl))
 (pbx_cons
 (psx_set (i := 15) sc_law_any_network.nd rfl (by first | exact .inl rfl | exact .inr rfl) (pex_callB (call_max2 rfl) callS_max2 rfl kf.z_max bt_max (pax_cons (PEx.op pex_int) (pax_cons (PEx.op (pex_bin op_addA opS_addA (PEx.op (pex_bin op_sub opS_subI (pox_p (ppx_i (hu1 hr) (ppx_name (i := 4) rfl (by first | exact .inl rfl | exact .inr (.inl rfl) | exact .inr (.inr rfl))) (pox_p (ppx_name (i := 8) rfl (by first | exact .inl rfl | exact .inr (.inl rfl) | exact .inr (.inr rfl)))) (by decide) (fun _ _ => rfl))) (PEx.op (pex_bin op_mod opS_modI (PEx.op (pex_callTy call_int1 callS_int rfl kf.z_int bt_int (pax_cons (PEx.op (pex_bin op_fdiv opS_divI (pox_p (ppx_i (hu1 hr) (ppx_name (i := 0) rfl (by first | exact .inl rfl | exact .inr (.inl rfl) | exact .inr (.inr rfl))) (pox_p (ppx_name (i := 8) rfl (by first | exact .inl rfl | exact .inr (.inl rfl) | exact .inr (.inr rfl)))) (by decide) (fun _ _ => rfl))) (PEx.op pex_int) (by decide))) pax_nil (by decide)))) (PEx.op pex_int) (by decide))) (by decide))) (PEx.op (pex_bin op_mulA opS_mulA (pox_p (ppx_name (i := 1) rfl (by first | exact .inl rfl | exact .inr (.inl rfl) | exact .inr (.inr rfl)))) (PEx.op (pex_bin op_mod opS_modI (PEx.op (pex_callTy call_int1 callS_int rfl kf.z_int bt_int (pax_cons (pox_p (ppx_i (hu1 hr) (ppx_name (i := 0) rfl (by first | exact .inl rfl | exact .inr (.inl rfl) | exact .inr (.inr rfl))) (pox_p (ppx_name (i := 8) rfl (by first | exact .inl rfl | exact .inr (.inl rfl) | exact .inr (.inr rfl)))) (by decide) (fun _ _ => rfl))) pax_nil (by decide)))) (PEx.op pex_int) (by decide))) (by decide))) (by decide))) pax_nil (by decide)) (by decide))) (by decide) (hh_none rfl))
 (pbx_cons
 (psx_set (i := 16) sc_law_any_network.nd rfl (by first | exact .inl rfl | exact .inr rfl) (pex_callB (call_max2 rfl) callS_max2 rfl kf.z_max bt_max (pax_cons (pox_p (ppx_name (i := 15) rfl (by first | exact .inl rfl | exact .inr (.inl rfl) | exact .inr (.inr rfl)))) (pax_cons (PEx.op (pex_bin op_addA opS_addA (pox_p (ppx_i (hu1 hr) (ppx_name (i := 4) rfl (by first | exact .inl rfl | exact .inr (.inl rfl) | exact .inr (.inr rfl))) (pox_p (ppx_name (i := 8) rfl (by first | exact .inl rfl | exact .inr (.inl rfl) | exact .inr (.inr rfl)))) (by decide) (fun _ _ => rfl))) (PEx.op (pex_bin op_mod opS_modI (PEx.op (pex_callTy call_int1 callS_int rfl kf.z_int bt_int (pax_cons (PEx.op (pex_bin op_fdiv opS_divI (pox_p (ppx_i (hu1 hr) (ppx_name (i := 0) rfl (by first | exact .inl rfl | exact .inr (.inl rfl) | exact .inr (.inr rfl))) (pox_p (ppx_name (i := 8) rfl (by first | exact .inl rfl | exact .inr (.inl rfl) | exact .inr (.inr rfl)))) (by decide) (fun _ _ => rfl))) (PEx.op pex_int) (by decide))) pax_nil (by decide)))) (PEx.op pex_int) (by decide))) (by decide))) pax_nil (by decide)) (by decide))) (by decide) (hh_none rfl))
 (pbx_one (psx_put (hu1 hr) (pex_tup (pvx_cons (pex_sh (ppx_i (hu1 hr) (ppx_i (hu1 hr) (ppx_name (i := 3) rfl (by first | exact .inl rfl | exact .inr (.inl rfl) | exact .inr (.inr rfl))) (pox_p (ppx_name (i := 8) rfl (by first | exact .inl rfl | exact .inr (.inl rfl) | exact .inr (.inr rfl)))) (by decide) (fun _ _ => rfl)) (PEx.op pex_int) (by decide) (fun _ _ => rfl))) (pvx_cons (pex_sh (ppx_i (hu1 hr) (ppx_i (hu1 hr) (ppx_name (i := 3) rfl (by first | exact .inl rfl | exact .inr (.inl rfl) | exact .inr (.inr rfl))) (pox_p (ppx_name (i := 8) rfl (by first | exact .inl rfl | exact .inr (.inl rfl) | exact .inr (.inr rfl)))) (by decide) (fun _ _ => rfl)) (PEx.op pex_int) (by decide) (fun _ _ => rfl))) (pvx_cons (pex_move (i := 15) rfl (by first | exact .inl rfl | exact .inr (.inl rfl) | exact .inr (.inr rfl))) (pvx_cons (pex_move (i := 16) rfl (by first | exact .inl rfl | exact .inr (.inl rfl) | exact .inr (.inr rfl))) pvx_nil))))) (ppx_name (i := 3) rfl (by first | exact .inl rfl | exact .inr (.inl rfl) | exact .inr (.inr rfl))) (pox_p (ppx_name (i := 8) rfl (by first | exact .inl rfl | exact .inr (.inl rfl) | exact .inr (.inr rfl)))) (by decide))))))
 (pbx_one (psx_ret (pex_tup (pvx_cons (pex_move (i := 2) rfl (by first | exact .inl rfl | exact .inr (.inl rfl) | exact .inr (.inr rfl))) (pvx_cons (pex_move (i := 3) rfl (by first | exact .inl rfl | exact .inr (.inl rfl) | exact .inr (.inr rfl))) (pvx_cons (pex_move (i := 4) rfl (by first | exact .inl rfl | exact .inr (.inl rfl) | exact .inr (.inr rfl))) pvx_nil))))))))))))
theorem sc_law_is_flow : FnScope ["_law_nodes", "_law_arcs", "_law_values", "_law_rest", "_law_k"] ["_law_nodes", "_law_arcs", "_law_values"] (defScope Hd.s_law_is_flow) := ⟨rfl, rfl, rfl, by decide +kernel, rfl, by decide +kernel, by decide +kernel⟩
def l_law_is_flow_1 (fu : Nat) : DL.Env → SR := (sSeq
 (sIf (eNot (eChain hLe hLe (eLk (pI (pI (fName 1) (eLk (fName 4))) (eConst (.int 2)))) (eLk (pI (fName 2) (eLk (fName 4)))) (eLk (pI (pI (fName 1) (eLk (fName 4))) (eConst (.int 3)))))) (sRet (eConst (.bl false))) sNext)
 (sSeq
 (sPut 3 (eOp2 hSubI (eLk (pI (fName 3) (eLk (pI (pI (fName 1) (eLk (fName 4))) (eConst (.int 0)))))) (eLk (pI (fName 2) (eLk (fName 4))))) (fName 3) (eLk (pI (pI (fName 1) (eLk (fName 4))) (eConst (.int 0)))))
 (sPut 3 (eOp2 hAdd (eLk (pI (fName 3) (eLk (pI (pI (fName 1) (eLk (fName 4))) (eConst (.int 1)))))) (eLk (pI (fName 2) (eLk (fName 4))))) (fName 3) (eLk (pI (pI (fName 1) (eLk (fName 4))) (eConst (.int 1)))))))
def b_law_is_flow (fu : Nat) : DL.Env → SR := (sSeq
 (sIf (eOp2 hNe (eCallV hLen (lCons (eLk (fName 2)) lNil)) (eCallV hLen (lCons (eLk (fName 1)) lNil))) (sRet (eConst (.bl false))) sNext)
 (sSeq
 (sSet 3 (eOp2 hMul (eLst (lCons (eConst (.int 0)) lNil)) (eLk (fName 0))))
 (sSeq
 (sFor (tgName 4) (eRng (lCons (eCallV hLen (lCons (eLk (fName 1)) lNil)) lNil)) (l_law_is_flow_1 fu) [4])
 (sRet (eOp2 hEq (eLk (fName 3)) (eOp2 hMul (eLst (lCons (eConst (.int 0)) lNil)) (eLk (fName 0))))))))
def m_law_is_flow (fu : Nat) (ds : List D) : FR := FR.of [] (b_law_is_flow fu (startE 5 ds))
theorem ok_law_is_flow {P : Program} {w : World} {K : PySem.W.Frag} {mg : Str → Option Value} {base : Heap} (kf : Kf K mg) (fu : Nat) {fd : FuncData} (F : FunD K "_law_is_flow" "_law_is_flow" (defArgs Hd.s_law_is_flow) (defBody Hd.s_law_is_flow) (defScope Hd.s_law_is_flow) [] [] (He.fAd K ("_law_is_flow", none)) fd)  :
    PrD (cs K) (xcs K) xfs P w K mg base 1 (He.fAd K ("_law_is_flow", none)) ["_law_nodes", "_law_arcs", "_law_values"] 3 [] (m_law_is_flow fu) fd := by
  refine ⟨fnD_ok (N := ["_law_nodes", "_law_arcs", "_law_values", "_law_rest", "_law_k"]) (S := [3, 4]) (bf := b_law_is_flow fu) F sc_law_is_flow rfl (by decide) (by decide) fun cd A outer s H E hr => ?_, F.bindsN fun _ _ _ _ _ _ us hl => match us, hl with | [_, _, _], _ => rfl⟩
  unfold b_law_is_flow l_law_is_flow_1
  exact (pbx_cons
 (psx_if (ptx_cmp (op_neD (hu64 hr)) blS_ne.op (PEx.op (pex_callB call_lenAny callS_len rfl kf.z_len bt_len (pax_cons (pox_p (ppx_name (i := 2) rfl (by first | exact .inl rfl | exact .inr (.inl rfl) | exact .inr (.inr rfl)))) pax_nil (by decide)))) (PEx.op (pex_callB call_lenAny callS_len rfl kf.z_len bt_len (pax_cons (pox_p (ppx_name (i := 1) rfl (by first | exact .inl rfl | exact .inr (.inl rfl) | exact .inr (.inr rfl)))) pax_nil (by decide)))) (by decide) (nomark _)) (pbx_one (psx_ret pex_bl)) pbx_nil)
 (pbx_cons
 (psx_set (i := 3) sc_law_is_flow.nd rfl (by first | exact .inl rfl | exact .inr rfl) (pex_bin op_mulA opS_mulA (PEx.op (pex_lst (pvx_cons pex_int pvx_nil))) (pox_p (ppx_name (i := 0) rfl (by first | exact .inl rfl | exact .inr (.inl rfl) | exact .inr (.inr rfl)))) (by decide)) (by decide) (hh_none rfl))
 (pbx_cons
 (psx_for (kl := [4]) bodyG_passes rfl (pix_rng1 rfl kf.z_range (pax_cons (PEx.op (pex_callB call_lenAny callS_len rfl kf.z_len bt_len (pax_cons (pox_p (ppx_name (i := 1) rfl (by first | exact .inl rfl | exact .inr (.inl rfl) | exact .inr (.inr rfl)))) pax_nil (by decide)))) pax_nil (by decide))) (pgx_name (i := 4) sc_law_is_flow.nd rfl (by first | exact .inl rfl | exact .inr rfl) (by decide) (hh_none rfl))
 (pbx_cons
 (psx_if (ptx_not (ptx_chain op_le op_le blS_le blS_le (pox_p (ppx_i (hu1 hr) (ppx_i (hu1 hr) (ppx_name (i := 1) rfl (by first | exact .inl rfl | exact .inr (.inl rfl) | exact .inr (.inr rfl))) (pox_p (ppx_name (i := 4) rfl (by first | exact .inl rfl | exact .inr (.inl rfl) | exact .inr (.inr rfl)))) (by decide) (fun _ _ => rfl)) (PEx.op pex_int) (by decide) (fun _ _ => rfl))) (pox_p (ppx_i (hu1 hr) (ppx_name (i := 2) rfl (by first | exact .inl rfl | exact .inr (.inl rfl) | exact .inr (.inr rfl))) (pox_p (ppx_name (i := 4) rfl (by first | exact .inl rfl | exact .inr (.inl rfl) | exact .inr (.inr rfl)))) (by decide) (fun _ _ => rfl))) (pox_p (ppx_i (hu1 hr) (ppx_i (hu1 hr) (ppx_name (i := 1) rfl (by first | exact .inl rfl | exact .inr (.inl rfl) | exact .inr (.inr rfl))) (pox_p (ppx_name (i := 4) rfl (by first | exact .inl rfl | exact .inr (.inl rfl) | exact .inr (.inr rfl)))) (by decide) (fun _ _ => rfl)) (PEx.op pex_int) (by decide) (fun _ _ => rfl))) (by decide) (by decide))) (pbx_one (psx_ret pex_bl)) pbx_nil)
 (pbx_cons
 (psx_put (hu1 hr) (pex_bin op_sub opS_subI (pox_p (ppx_i (hu1 hr) (ppx_name (i := 3) rfl (by first | exact .inl rfl | exact .inr (.inl rfl) | exact .inr (.inr rfl))) (pox_p (ppx_i (hu1 hr) (ppx_i (hu1 hr) (ppx_name (i := 1) rfl (by first | exact .inl rfl | exact .inr (.inl rfl) | exact .inr (.inr rfl))) (pox_p (ppx_name (i := 4) rfl (by first | exact .inl rfl | exact .inr (.inl rfl) | exact .inr (.inr rfl)))) (by decide) (fun _ _ => rfl)) (PEx.op pex_int) (by decide) (fun _ _ => rfl))) (by decide) (fun _ _ => rfl))) (pox_p (ppx_i (hu1 hr) (ppx_name (i := 2) rfl (by first | exact .inl rfl | exact .inr (.inl rfl) | exact .inr (.inr rfl))) (pox_p (ppx_name (i := 4) rfl (by first | exact .inl rfl | exact .inr (.inl rfl) | exact .inr (.inr rfl)))) (by decide) (fun _ _ => rfl))) (by decide)) (ppx_name (i := 3) rfl (by first | exact .inl rfl | exact .inr (.inl rfl) | exact .inr (.inr rfl))) (pox_p (ppx_i (hu1 hr) (ppx_i (hu1 hr) (ppx_name (i := 1) rfl (by first | exact .inl rfl | exact .inr (.inl rfl) | exact .inr (.inr rfl))) (pox_p (ppx_name (i := 4) rfl (by first | exact .inl rfl | exact .inr (.inl rfl) | exact .inr (.inr rfl)))) (by decide) (fun _ _ => rfl)) (PEx.op pex_int) (by decide) (fun _ _ => rfl))) (by decide))
 (pbx_one (psx_put (hu1 hr) (pex_bin op_addA opS_addA (pox_p (ppx_i (hu1 hr) (ppx_name (i := 3) rfl (by first | exact .inl rfl | exact .inr (.inl rfl) | exact .inr (.inr rfl))) (pox_p (ppx_i (hu1 hr) (ppx_i (hu1 hr) (ppx_name (i := 1) rfl (by first | exact .inl rfl | exact .inr (.inl rfl) | exact .inr (.inr rfl))) (pox_p (ppx_name (i := 4) rfl (by first | exact .inl rfl | exact .inr (.inl rfl) | exact .inr (.inr rfl)))) (by decide) (fun _ _ => rfl)) (PEx.op pex_int) (by decide) (fun _ _ => rfl))) (by decide) (fun _ _ => rfl))) (pox_p (ppx_i (hu1 hr) (ppx_name (i := 2) rfl (by first | exact .inl rfl | exact .inr (.inl rfl) | exact .inr (.inr rfl))) (pox_p (ppx_name (i := 4) rfl (by first | exact .inl rfl | exact .inr (.inl rfl) | exact .inr (.inr rfl)))) (by decide) (fun _ _ => rfl))) (by decide)) (ppx_name (i := 3) rfl (by first | exact .inl rfl | exact .inr (.inl rfl) | exact .inr (.inr rfl))) (pox_p (ppx_i (hu1 hr) (ppx_i (hu1 hr) (ppx_name (i := 1) rfl (by first | exact .inl rfl | exact .inr (.inl rfl) | exact .inr (.inr rfl))) (pox_p (ppx_name (i := 4) rfl (by first | exact .inl rfl | exact .inr (.inl rfl) | exact .inr (.inr rfl)))) (by decide) (fun _ _ => rfl)) (PEx.op pex_int) (by decide) (fun _ _ => rfl))) (by decide))))))
 (pbx_one (psx_ret (pex_cmp (op_eqD (hu64 hr)) blS_eq.op (pox_p (ppx_name (i := 3) rfl (by first | exact .inl rfl | exact .inr (.inl rfl) | exact .inr (.inr rfl)))) (PEx.op (pex_bin op_mulA opS_mulA (PEx.op (pex_lst (pvx_cons pex_int pvx_nil))) (pox_p (ppx_name (i := 0) rfl (by first | exact .inl rfl | exact .inr (.inl rfl) | exact .inr (.inr rfl)))) (by decide))) (by decide) (nomark _)))))))
theorem sc_law_bound : FnScope ["_law_arcs", "_law_arc", "_law_way", "_law_members", "_law_inside", "_law_bound_here", "_law_k", "_law_into", "_law_out"] ["_law_arcs", "_law_arc", "_law_way", "_law_members"] (defScope Hd.s_law_bound) := ⟨rfl, rfl, rfl, by decide +kernel, rfl, by decide +kernel, by decide +kernel⟩
def l_law_bound_1 (fu : Nat) : DL.Env → SR := (sSeq
 (sSet 7 (eAnd (eOp2 hIn (eLk (pI (pI (fName 0) (eLk (fName 6))) (eConst (.int 1)))) (eLk (fName 3))) (eOp2 hNin (eLk (pI (pI (fName 0) (eLk (fName 6))) (eConst (.int 0)))) (eLk (fName 3)))))
 (sSeq
 (sSet 8 (eAnd (eOp2 hIn (eLk (pI (pI (fName 0) (eLk (fName 6))) (eConst (.int 0)))) (eLk (fName 3))) (eOp2 hNin (eLk (pI (pI (fName 0) (eLk (fName 6))) (eConst (.int 1)))) (eLk (fName 3)))))
 (sSeq
 (sIf (eAnd (eOp2 hEq (eLk (fName 2)) (eConst (.int 1))) (eSh 8 (fName 8))) (sSet 5 (eOp2 hAdd (eLk (fName 5)) (eLk (pI (pI (fName 0) (eLk (fName 6))) (eConst (.int 3)))))) sNext)
 (sSeq
 (sIf (eAnd (eOp2 hEq (eLk (fName 2)) (eConst (.int 1))) (eAnd (eSh 7 (fName 7)) (eOp2 hNe (eLk (fName 6)) (eLk (fName 1))))) (sSet 5 (eOp2 hSubI (eLk (fName 5)) (eLk (pI (pI (fName 0) (eLk (fName 6))) (eConst (.int 2)))))) sNext)
 (sSeq
 (sIf (eAnd (eOp2 hEq (eLk (fName 2)) (eNeg (eConst (.int 1)))) (eSh 7 (fName 7))) (sSet 5 (eOp2 hAdd (eLk (fName 5)) (eLk (pI (pI (fName 0) (eLk (fName 6))) (eConst (.int 2)))))) sNext)
 (sIf (eAnd (eOp2 hEq (eLk (fName 2)) (eNeg (eConst (.int 1)))) (eAnd (eSh 8 (fName 8)) (eOp2 hNe (eLk (fName 6)) (eLk (fName 1))))) (sSet 5 (eOp2 hSubI (eLk (fName 5)) (eLk (pI (pI (fName 0) (eLk (fName 6))) (eConst (.int 3)))))) sNext))))))
def b_law_bound (fu : Nat) : DL.Env → SR := (sSeq
 (sSet 4 (eLst (lCons (eOp2 hIn (eLk (pI (pI (fName 0) (eLk (fName 1))) (eConst (.int 0)))) (eLk (fName 3))) (lCons (eOp2 hIn (eLk (pI (pI (fName 0) (eLk (fName 1))) (eConst (.int 1)))) (eLk (fName 3))) lNil))))
 (sSeq
 (sIf (eOp2 hNe (eLk (fName 4)) (eLst (lCons (eOp2 hEq (eLk (fName 2)) (eNeg (eConst (.int 1)))) (lCons (eOp2 hEq (eLk (fName 2)) (eConst (.int 1))) lNil)))) (sRet (eConst .non)) sNext)
 (sSeq
 (sSet 5 (eConst (.int 0)))
 (sSeq
 (sFor (tgName 6) (eRng (lCons (eCallV hLen (lCons (eLk (fName 0)) lNil)) lNil)) (l_law_bound_1 fu) [6, 7, 8])
 (sRet (eMove 5))))))
def m_law_bound (fu : Nat) (ds : List D) : FR := FR.of [] (b_law_bound fu (startE 9 ds))
theorem ok_law_bound {P : Program} {w : World} {K : PySem.W.Frag} {mg : Str → Option Value} {base : Heap} (kf : Kf K mg) (fu : Nat) {fd : FuncData} (F : FunD K "_law_bound" "_law_bound" (defArgs Hd.s_law_bound) (defBody Hd.s_law_bound) (defScope Hd.s_law_bound) [] [] (He.fAd K ("_law_bound", none)) fd)  :
    PrD (cs K) (xcs K) xfs P w K mg base 1 (He.fAd K ("_law_bound", none)) ["_law_arcs", "_law_arc", "_law_way", "_law_members"] 4 [] (m_law_bound fu) fd := by
  refine ⟨fnD_ok (N := ["_law_arcs", "_law_arc", "_law_way", "_law_members", "_law_inside", "_law_bound_here", "_law_k", "_law_into", "_law_out"]) (S := [4, 5, 6, 7, 8]) (bf := b_law_bound fu) F sc_law_bound rfl (by decide) (by decide) fun cd A outer s H E hr => ?_, F.bindsN fun _ _ _ _ _ _ us hl => match us, hl with | [_, _, _, _], _ => rfl⟩
  unfold b_law_bound l_law_bound_1
  exact (pbx_cons
 (psx_set (i := 4) sc_law_bound.nd rfl (by first | exact .inl rfl | exact .inr rfl) (pex_lst (pvx_cons (pex_cmp (op_inA (hu65 hr)) blS_in.op (pox_p (ppx_i (hu1 hr) (ppx_i (hu1 hr) (ppx_name (i := 0) rfl (by first | exact .inl rfl | exact .inr (.inl rfl) | exact .inr (.inr rfl))) (pox_p (ppx_name (i := 1) rfl (by first | exact .inl rfl | exact .inr (.inl rfl) | exact .inr (.inr rfl)))) (by decide) (fun _ _ => rfl)) (PEx.op pex_int) (by decide) (fun _ _ => rfl))) (pox_p (ppx_name (i := 3) rfl (by first | exact .inl rfl | exact .inr (.inl rfl) | exact .inr (.inr rfl)))) (by decide) rfl) (pvx_cons (pex_cmp (op_inA (hu65 hr)) blS_in.op (pox_p (ppx_i (hu1 hr) (ppx_i (hu1 hr) (ppx_name (i := 0) rfl (by first | exact .inl rfl | exact .inr (.inl rfl) | exact .inr (.inr rfl))) (pox_p (ppx_name (i := 1) rfl (by first | exact .inl rfl | exact .inr (.inl rfl) | exact .inr (.inr rfl)))) (by decide) (fun _ _ => rfl)) (PEx.op pex_int) (by decide) (fun _ _ => rfl))) (pox_p (ppx_name (i := 3) rfl (by first | exact .inl rfl | exact .inr (.inl rfl) | exact .inr (.inr rfl)))) (by decide) rfl) pvx_nil))) (by decide) (hh_none rfl))
 (pbx_cons
 (psx_if (ptx_cmp (op_neD (hu64 hr)) blS_ne.op (pox_p (ppx_name (i := 4) rfl (by first | exact .inl rfl | exact .inr (.inl rfl) | exact .inr (.inr rfl)))) (PEx.op (pex_lst (pvx_cons (pex_cmp (op_eqD (hu64 hr)) blS_eq.op (pox_p (ppx_name (i := 2) rfl (by first | exact .inl rfl | exact .inr (.inl rfl) | exact .inr (.inr rfl)))) (PEx.op (pex_neg (PEx.op pex_int))) (by decide) (nomark _)) (pvx_cons (pex_cmp (op_eqD (hu64 hr)) blS_eq.op (pox_p (ppx_name (i := 2) rfl (by first | exact .inl rfl | exact .inr (.inl rfl) | exact .inr (.inr rfl)))) (PEx.op pex_int) (by decide) (nomark _)) pvx_nil)))) (by decide) (nomark _)) (pbx_one (psx_ret pex_non)) pbx_nil)
 (pbx_cons
 (psx_set (i := 5) sc_law_bound.nd rfl (by first | exact .inl rfl | exact .inr rfl) pex_int (by decide) (hh_none rfl))
 (pbx_cons
 (psx_for (kl := [6, 7, 8]) bodyG_passes rfl (pix_rng1 rfl kf.z_range (pax_cons (PEx.op (pex_callB call_lenAny callS_len rfl kf.z_len bt_len (pax_cons (pox_p (ppx_name (i := 0) rfl (by first | exact .inl rfl | exact .inr (.inl rfl) | exact .inr (.inr rfl)))) pax_nil (by decide)))) pax_nil (by decide))) (pgx_name (i := 6) sc_law_bound.nd rfl (by first | exact .inl rfl | exact .inr rfl) (by decide) (hh_none rfl))
 (pbx_cons
 (psx_set (i := 7) sc_law_bound.nd rfl (by first | exact .inl rfl | exact .inr rfl) (pex_and (pex_cmp (op_inA (hu65 hr)) blS_in.op (pox_p (ppx_i (hu1 hr) (ppx_i (hu1 hr) (ppx_name (i := 0) rfl (by first | exact .inl rfl | exact .inr (.inl rfl) | exact .inr (.inr rfl))) (pox_p (ppx_name (i := 6) rfl (by first | exact .inl rfl | exact .inr (.inl rfl) | exact .inr (.inr rfl)))) (by decide) (fun _ _ => rfl)) (PEx.op pex_int) (by decide) (fun _ _ => rfl))) (pox_p (ppx_name (i := 3) rfl (by first | exact .inl rfl | exact .inr (.inl rfl) | exact .inr (.inr rfl)))) (by decide) rfl) (pex_one (pex_cmp (op_ninA (hu65 hr)) blS_nin.op (pox_p (ppx_i (hu1 hr) (ppx_i (hu1 hr) (ppx_name (i := 0) rfl (by first | exact .inl rfl | exact .inr (.inl rfl) | exact .inr (.inr rfl))) (pox_p (ppx_name (i := 6) rfl (by first | exact .inl rfl | exact .inr (.inl rfl) | exact .inr (.inr rfl)))) (by decide) (fun _ _ => rfl)) (PEx.op pex_int) (by decide) (fun _ _ => rfl))) (pox_p (ppx_name (i := 3) rfl (by first | exact .inl rfl | exact .inr (.inl rfl) | exact .inr (.inr rfl)))) (by decide) rfl))) (by decide) (hh_none rfl))
 (pbx_cons
 (psx_set (i := 8) sc_law_bound.nd rfl (by first | exact .inl rfl | exact .inr rfl) (pex_and (pex_cmp (op_inA (hu65 hr)) blS_in.op (pox_p (ppx_i (hu1 hr) (ppx_i (hu1 hr) (ppx_name (i := 0) rfl (by first | exact .inl rfl | exact .inr (.inl rfl) | exact .inr (.inr rfl))) (pox_p (ppx_name (i := 6) rfl (by first | exact .inl rfl | exact .inr (.inl rfl) | exact .inr (.inr rfl)))) (by decide) (fun _ _ => rfl)) (PEx.op pex_int) (by decide) (fun _ _ => rfl))) (pox_p (ppx_name (i := 3) rfl (by first | exact .inl rfl | exact .inr (.inl rfl) | exact .inr (.inr rfl)))) (by decide) rfl) (pex_one (pex_cmp (op_ninA (hu65 hr)) blS_nin.op (pox_p (ppx_i (hu1 hr) (ppx_i (hu1 hr) (ppx_name (i := 0) rfl (by first | exact .inl rfl | exact .inr (.inl rfl) | exact .inr (.inr rfl))) (pox_p (ppx_name (i := 6) rfl (by first | exact .inl rfl | exact .inr (.inl rfl) | exact .inr (.inr rfl)))) (by decide) (fun _ _ => rfl)) (PEx.op pex_int) (by decide) (fun _ _ => rfl))) (pox_p (ppx_name (i := 3) rfl (by first | exact .inl rfl | exact .inr (.inl rfl) | exact .inr (.inr rfl)))) (by decide) rfl))) (by decide) (hh_none rfl))
 (pbx_cons
 (psx_if (PWx.pt (pwx_and (ptx_cmp (op_eqD (hu64 hr)) blS_eq.op (pox_p (ppx_name (i := 2) rfl (by first | exact .inl rfl | exact .inr (.inl rfl) | exact .inr (.inr rfl)))) (PEx.op pex_int) (by decide) (nomark _)) (pwx_and1 (ptx_val (pex_sh (ppx_name (i := 8) rfl (by first | exact .inl rfl | exact .inr (.inl rfl) | exact .inr (.inr rfl)))))))) (pbx_one (psx_set (i := 5) sc_law_bound.nd rfl (by first | exact .inl rfl | exact .inr rfl) (pex_bin op_addA opS_addA (pox_p (ppx_name (i := 5) rfl (by first | exact .inl rfl | exact .inr (.inl rfl) | exact .inr (.inr rfl)))) (pox_p (ppx_i (hu1 hr) (ppx_i (hu1 hr) (ppx_name (i := 0) rfl (by first | exact .inl rfl | exact .inr (.inl rfl) | exact .inr (.inr rfl))) (pox_p (ppx_name (i := 6) rfl (by first | exact .inl rfl | exact .inr (.inl rfl) | exact .inr (.inr rfl)))) (by decide) (fun _ _ => rfl)) (PEx.op pex_int) (by decide) (fun _ _ => rfl))) (by decide)) (by decide) (hh_none rfl))) pbx_nil)
 (pbx_cons
 (psx_if (PWx.pt (pwx_and (ptx_cmp (op_eqD (hu64 hr)) blS_eq.op (pox_p (ppx_name (i := 2) rfl (by first | exact .inl rfl | exact .inr (.inl rfl) | exact .inr (.inr rfl)))) (PEx.op pex_int) (by decide) (nomark _)) (pwx_and (ptx_val (pex_sh (ppx_name (i := 7) rfl (by first | exact .inl rfl | exact .inr (.inl rfl) | exact .inr (.inr rfl))))) (pwx_and1 (ptx_cmp (op_neD (hu64 hr)) blS_ne.op (pox_p (ppx_name (i := 6) rfl (by first | exact .inl rfl | exact .inr (.inl rfl) | exact .inr (.inr rfl)))) (pox_p (ppx_name (i := 1) rfl (by first | exact .inl rfl | exact .inr (.inl rfl) | exact .inr (.inr rfl)))) (by decide) (nomark _)))))) (pbx_one (psx_set (i := 5) sc_law_bound.nd rfl (by first | exact .inl rfl | exact .inr rfl) (pex_bin op_sub opS_subI (pox_p (ppx_name (i := 5) rfl (by first | exact .inl rfl | exact .inr (.inl rfl) | exact .inr (.inr rfl)))) (pox_p (ppx_i (hu1 hr) (ppx_i (hu1 hr) (ppx_name (i := 0) rfl (by first | exact .inl rfl | exact .inr (.inl rfl) | exact .inr (.inr rfl))) (pox_p (ppx_name (i := 6) rfl (by first | exact .inl rfl | exact .inr (.inl rfl) | exact .inr (.inr rfl)))) (by decide) (fun _ _ => rfl)) (PEx.op pex_int) (by decide) (fun _ _ => rfl))) (by decide)) (by decide) (hh_none rfl))) pbx_nil)
 (pbx_cons
 (psx_if (PWx.pt (pwx_and (ptx_cmp (op_eqD (hu64 hr)) blS_eq.op (pox_p (ppx_name (i := 2) rfl (by first | exact .inl rfl | exact .inr (.inl rfl) | exact .inr (.inr rfl)))) (PEx.op (pex_neg (PEx.op pex_int))) (by decide) (nomark _)) (pwx_and1 (ptx_val (pex_sh (ppx_name (i := 7) rfl (by first | exact .inl rfl | exact .inr (.inl rfl) | exact .inr (.inr rfl)))))))) (pbx_one (psx_set (i := 5) sc_law_bound.nd rfl (by first | exact .inl rfl | exact .inr rfl) (pex_bin op_addA opS_addA (pox_p (ppx_name (i := 5) rfl (by first | exact .inl rfl | exact .inr (.inl rfl) | exact .inr (.inr rfl)))) (pox_p (ppx_i (hu1 hr) (ppx_i (hu1 hr) (ppx_name (i := 0) rfl (by first | exact .inl rfl | exact .inr (.inl rfl) | exact .inr (.inr rfl))) (pox_p (ppx_name (i := 6) rfl (by first | exact .inl rfl | exact .inr (.inl rfl) | exact .inr (.inr rfl)))) (by decide) (fun _ _ => rfl)) (PEx.op pex_int) (by decide) (fun _ _ => rfl))) (by decide)) (by decide) (hh_none rfl))) pbx_nil)
 (pbx_one (psx_if (PWx.pt (pwx_and (ptx_cmp (op_eqD (hu64 hr)) blS_eq.op (pox_p (ppx_name (i := 2) rfl (by first | exact .inl rfl | exact .inr (.inl rfl) | exact .inr (.inr rfl)))) (PEx.op (pex_neg (PEx.op pex_int))) (by decide) (nomark _)) (pwx_and (ptx_val (pex_sh (ppx_name (i := 8) rfl (by first | exact .inl rfl | exact .inr (.inl rfl) | exact .inr (.inr rfl))))) (pwx_and1 (ptx_cmp (op_neD (hu64 hr)) blS_ne.op (pox_p (ppx_name (i := 6) rfl (by first | exact .inl rfl | exact .inr (.inl rfl) | exact .inr (.inr rfl)))) (pox_p (ppx_name (i := 1) rfl (by first | exact .inl rfl | exact .inr (.inl rfl) | exact .inr (.inr rfl)))) (by decide) (nomark _)))))) (pbx_one (psx_set (i := 5) sc_law_bound.nd rfl (by first | exact .inl rfl | exact .inr rfl) (pex_bin op_sub opS_subI (pox_p (ppx_name (i := 5) rfl (by first | exact .inl rfl | exact .inr (.inl rfl) | exact .inr (.inr rfl)))) (pox_p (ppx_i (hu1 hr) (ppx_i (hu1 hr) (ppx_name (i := 0) rfl (by first | exact .inl rfl | exact .inr (.inl rfl) | exact .inr (.inr rfl))) (pox_p (ppx_name (i := 6) rfl (by first | exact .inl rfl | exact .inr (.inl rfl) | exact .inr (.inr rfl)))) (by decide) (fun _ _ => rfl)) (PEx.op pex_int) (by decide) (fun _ _ => rfl))) (by decide)) (by decide) (hh_none rfl))) pbx_nil))))))))
 (pbx_one (psx_ret (pex_move (i := 5) rfl (by first | exact .inl rfl | exact .inr (.inl rfl) | exact .inr (.inr rfl)))))))))
theorem sc_law_paper_right : FnScope ["_law_arcs", "_law_arc", "_law_paper", "_law_bound_here"] ["_law_arcs", "_law_arc", "_law_paper"] (defScope Hd.s_law_paper_right) := ⟨rfl, rfl, rfl, by decide +kernel, rfl, by decide +kernel, by decide +kernel⟩
def b_law_paper_right (fu : Nat) : DL.Env → SR := (sSeq
 (sIf (eOp2 hIs (eLk (pI (fName 2) (eConst (.int 2)))) (eConst .non)) (sRet (eIf (eOp2 hEq (eLk (pI (fName 2) (eConst (.int 0)))) (eConst (.int 1))) (eOp2 hLe (eLk (pI (pI (fName 0) (eLk (fName 1))) (eConst (.int 3)))) (eLk (pI (fName 2) (eConst (.int 1))))) (eOp2 hGe (eLk (pI (pI (fName 0) (eLk (fName 1))) (eConst (.int 2)))) (eLk (pI (fName 2) (eConst (.int 1))))))) sNext)
 (sSeq
 (sIf (eOp2 hNe (eCallV hSorted (lCons (eLk (pI (fName 2) (eConst (.int 2)))) lNil)) (eLk (pI (fName 2) (eConst (.int 2))))) (sRet (eConst (.bl false))) sNext)
 (sSeq
 (sSet 3 (eCall (m_law_bound fu) [] (lCons (eLk (fName 0)) (lCons (eLk (fName 1)) (lCons (eLk (pI (fName 2) (eConst (.int 0)))) (lCons (eLk (pI (fName 2) (eConst (.int 2)))) lNil))))))
 (sSeq
 (sIf (eOp2 hIs (eLk (fName 3)) (eConst .non)) (sRet (eConst (.bl false))) sNext)
 (sRet (eIf (eOp2 hEq (eLk (pI (fName 2) (eConst (.int 0)))) (eConst (.int 1))) (eOp2 hLe (eLk (fName 3)) (eLk (pI (fName 2) (eConst (.int 1))))) (eOp2 hGe (eLk (fName 3)) (eLk (pI (fName 2) (eConst (.int 1)))))))))))
def m_law_paper_right (fu : Nat) (ds : List D) : FR := FR.of [] (b_law_paper_right fu (startE 4 ds))
theorem ok_law_paper_right {P : Program} {w : World} {K : PySem.W.Frag} {mg : Str → Option Value} {base : Heap} (kf : Kf K mg) (fu : Nat) {fd : FuncData} (F : FunD K "_law_paper_right" "_law_paper_right" (defArgs Hd.s_law_paper_right) (defBody Hd.s_law_paper_right) (defScope Hd.s_law_paper_right) [] [] (He.fAd K ("_law_paper_right", none)) fd) {fd_law_bound : FuncData} (p_law_bound : PrD (cs K) (xcs K) xfs P w K mg base 1 (He.fAd K ("_law_bound", none)) ["_law_arcs", "_law_arc", "_law_way", "_law_members"] 4 [] (m_law_bound fu) fd_law_bound) :
    PrD (cs K) (xcs K) xfs P w K mg base 2 (He.fAd K ("_law_paper_right", none)) ["_law_arcs", "_law_arc", "_law_paper"] 3 [] (m_law_paper_right fu) fd := by
  obtain ⟨F_law_bound, B_law_bound⟩ := p_law_bound
  refine ⟨fnD_ok (N := ["_law_arcs", "_law_arc", "_law_paper", "_law_bound_here"]) (S := [3]) (bf := b_law_paper_right fu) F sc_law_paper_right rfl (by decide) (by decide) fun cd A outer s H E hr => ?_, F.bindsN fun _ _ _ _ _ _ us hl => match us, hl with | [_, _, _], _ => rfl⟩
  unfold b_law_paper_right
  exact (pbx_cons
 (psx_if (ptx_cmp op_isA blS_is.op (pox_p (ppx_i (hu1 hr) (ppx_name (i := 2) rfl (by first | exact .inl rfl | exact .inr (.inl rfl) | exact .inr (.inr rfl))) (PEx.op pex_int) (by decide) (fun _ _ => rfl))) (PEx.op pex_non) (by decide) (nomark _)) (pbx_one (psx_ret (pex_if (ptx_cmp (op_eqD (hu64 hr)) blS_eq.op (pox_p (ppx_i (hu1 hr) (ppx_name (i := 2) rfl (by first | exact .inl rfl | exact .inr (.inl rfl) | exact .inr (.inr rfl))) (PEx.op pex_int) (by decide) (fun _ _ => rfl))) (PEx.op pex_int) (by decide) (nomark _)) (pex_cmp op_le blS_le.op (pox_p (ppx_i (hu1 hr) (ppx_i (hu1 hr) (ppx_name (i := 0) rfl (by first | exact .inl rfl | exact .inr (.inl rfl) | exact .inr (.inr rfl))) (pox_p (ppx_name (i := 1) rfl (by first | exact .inl rfl | exact .inr (.inl rfl) | exact .inr (.inr rfl)))) (by decide) (fun _ _ => rfl)) (PEx.op pex_int) (by decide) (fun _ _ => rfl))) (pox_p (ppx_i (hu1 hr) (ppx_name (i := 2) rfl (by first | exact .inl rfl | exact .inr (.inl rfl) | exact .inr (.inr rfl))) (PEx.op pex_int) (by decide) (fun _ _ => rfl))) (by decide) (nomark _)) (pex_cmp op_ge blS_ge.op (pox_p (ppx_i (hu1 hr) (ppx_i (hu1 hr) (ppx_name (i := 0) rfl (by first | exact .inl rfl | exact .inr (.inl rfl) | exact .inr (.inr rfl))) (pox_p (ppx_name (i := 1) rfl (by first | exact .inl rfl | exact .inr (.inl rfl) | exact .inr (.inr rfl)))) (by decide) (fun _ _ => rfl)) (PEx.op pex_int) (by decide) (fun _ _ => rfl))) (pox_p (ppx_i (hu1 hr) (ppx_name (i := 2) rfl (by first | exact .inl rfl | exact .inr (.inl rfl) | exact .inr (.inr rfl))) (PEx.op pex_int) (by decide) (fun _ _ => rfl))) (by decide) (nomark _))))) pbx_nil)
 (pbx_cons
 (psx_if (ptx_cmp (op_neD (hu64 hr)) blS_ne.op (PEx.op (pex_callB cr_sortedI callS_sorted rfl kf.z_sorted bt_sorted (pax_cons (pox_p (ppx_i (hu1 hr) (ppx_name (i := 2) rfl (by first | exact .inl rfl | exact .inr (.inl rfl) | exact .inr (.inr rfl))) (PEx.op pex_int) (by decide) (fun _ _ => rfl))) pax_nil (by decide)))) (pox_p (ppx_i (hu1 hr) (ppx_name (i := 2) rfl (by first | exact .inl rfl | exact .inr (.inl rfl) | exact .inr (.inr rfl))) (PEx.op pex_int) (by decide) (fun _ _ => rfl))) (by decide) (nomark _)) (pbx_one (psx_ret pex_bl)) pbx_nil)
 (pbx_cons
 (psx_set (i := 3) sc_law_paper_right.nd rfl (by first | exact .inl rfl | exact .inr rfl) (pex_call F_law_bound (hr.mono (by decide)) rfl kf.m_law_bound kf.k_law_bound B_law_bound .nil Dfl.nil bodyG_takes (pax_cons (pox_p (ppx_name (i := 0) rfl (by first | exact .inl rfl | exact .inr (.inl rfl) | exact .inr (.inr rfl)))) (pax_cons (pox_p (ppx_name (i := 1) rfl (by first | exact .inl rfl | exact .inr (.inl rfl) | exact .inr (.inr rfl)))) (pax_cons (pox_p (ppx_i (hu1 hr) (ppx_name (i := 2) rfl (by first | exact .inl rfl | exact .inr (.inl rfl) | exact .inr (.inr rfl))) (PEx.op pex_int) (by decide) (fun _ _ => rfl))) (pax_cons (pox_p (ppx_i (hu1 hr) (ppx_name (i := 2) rfl (by first | exact .inl rfl | exact .inr (.inl rfl) | exact .inr (.inr rfl))) (PEx.op pex_int) (by decide) (fun _ _ => rfl))) pax_nil (by decide)) (by decide)) (by decide)) (by decide)) rfl) (by decide) (hh_none rfl))
 (pbx_cons
 (psx_if (ptx_cmp op_isA blS_is.op (pox_p (ppx_name (i := 3) rfl (by first | exact .inl rfl | exact .inr (.inl rfl) | exact .inr (.inr rfl)))) (PEx.op pex_non) (by decide) (nomark _)) (pbx_one (psx_ret pex_bl)) pbx_nil)
 (pbx_one (psx_ret (pex_if (ptx_cmp (op_eqD (hu64 hr)) blS_eq.op (pox_p (ppx_i (hu1 hr) (ppx_name (i := 2) rfl (by first | exact .inl rfl | exact .inr (.inl rfl) | exact .inr (.inr rfl))) (PEx.op pex_int) (by decide) (fun _ _ => rfl))) (PEx.op pex_int) (by decide) (nomark _)) (pex_cmp op_le blS_le.op (pox_p (ppx_name (i := 3) rfl (by first | exact .inl rfl | exact .inr (.inl rfl) | exact .inr (.inr rfl)))) (pox_p (ppx_i (hu1 hr) (ppx_name (i := 2) rfl (by first | exact .inl rfl | exact .inr (.inl rfl) | exact .inr (.inr rfl))) (PEx.op pex_int) (by decide) (fun _ _ => rfl))) (by decide) (nomark _)) (pex_cmp op_ge blS_ge.op (pox_p (ppx_name (i := 3) rfl (by first | exact .inl rfl | exact .inr (.inl rfl) | exact .inr (.inr rfl)))) (pox_p (ppx_i (hu1 hr) (ppx_name (i := 2) rfl (by first | exact .inl rfl | exact .inr (.inl rfl) | exact .inr (.inr rfl))) (PEx.op pex_int) (by decide) (fun _ _ => rfl))) (by decide) (nomark _)))))))))
theorem sc_law : FnScope ["_law_script", "_law_drawn", "_law_nodes", "_law_arcs", "_law_flow", "_law_digit", "_law_wrong", "e", "_law_network", "_law_arc", "_law_other", "_law_values", "_law_members", "_law_way", "_law_due", "_law_found", "_law_node"] ["_law_script"] (defScope Hd.s_law) := ⟨rfl, rfl, rfl, by decide +kernel, rfl, by decide +kernel, by decide +kernel⟩
def l_law_1 (fu : Nat) : DL.Env → SR := (sIf (eOp2 hNe (eCall (m_is_flow fu) [] (lCons (eLk (fName 8)) (lCons (eLk (fName 11)) lNil))) (eCall (m_law_is_flow fu) [] (lCons (eLk (fName 2)) (lCons (eLk (fName 3)) (lCons (eLk (fName 11)) lNil))))) (sRet (eConst (.bl false))) sNext)
def q_law_2 (fu : Nat) : DL.Env → ER := (eOp2 hEq (eOp2 hAndI (eOp2 hShrI (eOp2 hDivI (eLk (fName 5)) (eConst (.int 1000))) (eLk (fName 16))) (eConst (.int 1))) (eConst (.int 1)))
def v_law_3 (fu : Nat) : DL.Env → ER := (eSh 16 (fName 16))
def l_law_4 (fu : Nat) : DL.Env → SR := (sSeq
 (sSet 14 (eCall (m_law_bound fu) [] (lCons (eLk (fName 3)) (lCons (eLk (fName 9)) (lCons (eLk (fName 13)) (lCons (eLk (fName 12)) lNil))))))
 (sSeq
 (sTry mt_CellguardError 7
 (sIf (eOp2 hEq (eLk (fName 13)) (eConst (.int 1))) (sSet 15 (eCall (m_upper_bound fu) [] (lCons (eLk (fName 8)) (lCons (eLk (fName 9)) (lCons (eFrz (eCallV hList (lCons (eLk (fName 12)) lNil))) lNil))))) (sSet 15 (eCall (m_lower_bound fu) [] (lCons (eLk (fName 8)) (lCons (eLk (fName 9)) (lCons (eFrz (eCallV hList (lCons (eLk (fName 12)) lNil))) lNil)))))) (fun y =>
 (sSeq
 (sIf (eOr (eNot (eConst (.bl (isx_InvalidFlow y)))) (eOp2 hIsnt (eLk (fName 14)) (eConst .non))) (sRet (eConst (.bl false))) sNext)
 (sSet 15 (eConst .non)))))
 (sIf (eOr (eOp2 hNe (eLk (fName 15)) (eLk (fName 14))) (eAnd (eOp2 hIsnt (eLk (fName 14)) (eConst .non)) (eOp2 hGt (eOp2 hMul (eLk (fName 13)) (eLk (pI (fName 4) (eLk (fName 9))))) (eOp2 hMul (eLk (fName 13)) (eLk (fName 14)))))) (sRet (eConst (.bl false))) sNext)))
def b_law (fu : Nat) : DL.Env → SR := (sSeq
 (sSet 1 (eCall (m_law_any_network fu) [] (lCons (eFrz (eCall (m_law_numbers fu) [] (lCons (eLk (fName 0)) (lCons (eConst (.int 2)) (lCons (eConst (.int 10)) lNil))))) (lCons (eConst (.int 0)) lNil))))
 (sSeq
 (sSet 2 (eSh 1 (pI (fName 1) (eConst (.int 0)))))
 (sSeq
 (sSet 3 (eSh 1 (pI (fName 1) (eConst (.int 1)))))
 (sSeq
 (sSet 4 (eSh 1 (pI (fName 1) (eConst (.int 2)))))
 (sSeq
 (sSet 5 (eCallV hAbs (lCons (eCall (m_law_cell fu) [] (lCons (eLk (fName 0)) (lCons (eConst (.int 0)) lNil))) lNil)))
 (sSeq
 (sSet 6 (eIxT (eLst (lCons (eTup (lCons (eConst (.int 0)) (lCons (eSh 2 (fName 2)) (lCons (eConst (.int 0)) (lCons (eConst (.int 1)) lNil))))) (lCons (eTup (lCons (eConst (.int 1)) (lCons (eConst (.int 1)) (lCons (eConst (.int 0)) (lCons (eConst (.int 0)) lNil))))) (lCons (eTup (lCons (eConst (.int 0)) (lCons (eConst (.int 1)) (lCons (eNeg (eConst (.int 1))) (lCons (eConst (.int 2)) lNil))))) (lCons (eTup (lCons (eConst (.int 0)) (lCons (eConst (.int 1)) (lCons (eConst (.int 3)) (lCons (eConst (.int 2)) lNil))))) (lCons (eTup (lCons (eNeg (eConst (.int 1))) (lCons (eConst (.int 0)) (lCons (eConst (.int 0)) (lCons (eConst (.int 0)) lNil))))) lNil)))))) (eOp2 hModI (eLk (fName 5)) (eConst (.int 5)))))
 (sSeq
 (sTry mt_CellguardError 7
 (sSeq
 (sDrop (eSeal (eMake 0 2 (m_Network_init fu) [] (lCons (eLk (fName 2)) (lCons (eFrz (eOp2 hAdd (eLk (fName 3)) (eLst (lCons (eMove 6) lNil)))) lNil)))))
 (sRet (eConst (.bl false)))) (fun y =>
 (sIf (eNot (eConst (.bl (isx_InvalidFlow y)))) (sRet (eConst (.bl false))) sNext)))
 (sSeq
 (sSet 8 (eSeal (eMake 0 2 (m_Network_init fu) [] (lCons (eLk (fName 2)) (lCons (eFrz (eCallV hList (lCons (eLk (fName 3)) lNil))) lNil)))))
 (sSeq
 (sIf (eOr (eOp2 hNe (eLk (pF 0 0 (fName 8))) (eLk (fName 2))) (eOr (eOp2 hNe (eMeth 0 (m_Network_arcs fu) [] (eLk (fName 8)) lNil) (eLk (fName 3))) (eOp2 hIsnt (eCall (m_is_flow fu) [] (lCons (eLk (fName 8)) (lCons (eFrz (eCallV hList (lCons (eLk (fName 4)) lNil))) lNil))) (eConst (.bl true))))) (sRet (eConst (.bl false))) sNext)
 (sSeq
 (sIf (eOp2 hEq (eLk (fName 3)) (eLst lNil)) (sRet (eConst (.bl true))) sNext)
 (sSeq
 (sSet 9 (eOp2 hModI (eOp2 hDivI (eLk (fName 5)) (eConst (.int 5))) (eCallV hLen (lCons (eLk (fName 3)) lNil))))
 (sSeq
 (sSet 10 (eCallV hList (lCons (eLk (fName 4)) lNil)))
 (sSeq
 (sPut 10 (eOp2 hAdd (eLk (pI (fName 10) (eLk (fName 9)))) (eIxT (eLst (lCons (eConst (.int 1)) (lCons (eNeg (eConst (.int 1))) (lCons (eConst (.int 2)) lNil)))) (eOp2 hModI (eOp2 hDivI (eLk (fName 5)) (eConst (.int 100))) (eConst (.int 3))))) (fName 10) (eLk (fName 9)))
 (sSeq
 (sFor (tgName 11) (eIter (eLst (lCons (eMove 10) (lCons (eSl (eLk (fName 4)) (eInt (eConst (.int 1))) (eConst .non)) (lCons (eOp2 hAdd (eLk (fName 4)) (eLst (lCons (eConst (.int 0)) lNil))) lNil))))) (l_law_1 fu) [11])
 (sSeq
 (sSet 12 (eLc [16] (tgName 16) (eRng (lCons (eLk (fName 2)) lNil)) (q_law_2 fu) (v_law_3 fu)))
 (sSeq
 (sFor (tgName 13) (eIter (eTup (lCons (eNeg (eConst (.int 1))) (lCons (eConst (.int 1)) lNil)))) (l_law_4 fu) [13, 14, 15])
 (sRet (eConst (.bl true)))))))))))))))))))
def m_law (fu : Nat) (ds : List D) : FR := FR.of [] (b_law fu (startE 17 ds))
theorem ok_law {P : Program} {w : World} {K : PySem.W.Frag} {mg : Str → Option Value} {base : Heap} (kf : Kf K mg) (fu : Nat) {fd : FuncData} (F : FunD K "law" "law" (defArgs Hd.s_law) (defBody Hd.s_law) (defScope Hd.s_law) [] [] (He.fAd K ("law", none)) fd) {fd_Network_init : FuncData} (p_Network_init : PrD (cs K) (xcs K) xfs P w K mg base 1 (He.fAd K ("Network", some "__init__")) ["self", "nodes", "arcs"] 3 [0] (m_Network_init fu) fd_Network_init) {fd_Network_arcs : FuncData} (p_Network_arcs : PrD (cs K) (xcs K) xfs P w K mg base 1 (He.fAd K ("Network", some "arcs")) ["self"] 1 [] (m_Network_arcs fu) fd_Network_arcs) {fd_law_any_network : FuncData} (p_law_any_network : PrD (cs K) (xcs K) xfs P w K mg base 1 (He.fAd K ("_law_any_network", none)) ["_law_numbers_here", "_law_loose"] 2 [] (m_law_any_network fu) fd_law_any_network) {fd_law_bound : FuncData} (p_law_bound : PrD (cs K) (xcs K) xfs P w K mg base 1 (He.fAd K ("_law_bound", none)) ["_law_arcs", "_law_arc", "_law_way", "_law_members"] 4 [] (m_law_bound fu) fd_law_bound) {fd_law_cell : FuncData} (p_law_cell : PrD (cs K) (xcs K) xfs P w K mg base 1 (He.fAd K ("_law_cell", none)) ["_law_script", "_law_k"] 2 [] (m_law_cell fu) fd_law_cell) {fd_law_is_flow : FuncData} (p_law_is_flow : PrD (cs K) (xcs K) xfs P w K mg base 1 (He.fAd K ("_law_is_flow", none)) ["_law_nodes", "_law_arcs", "_law_values"] 3 [] (m_law_is_flow fu) fd_law_is_flow) {fd_law_numbers : FuncData} (p_law_numbers : PrD (cs K) (xcs K) xfs P w K mg base 1 (He.fAd K ("_law_numbers", none)) ["_law_script", "_law_first", "_law_most"] 3 [] (m_law_numbers fu) fd_law_numbers) {fd_is_flow : FuncData} (p_is_flow : PrD (cs K) (xcs K) xfs P w K mg base 3 (He.fAd K ("is_flow", none)) ["network", "values"] 2 [] (m_is_flow fu) fd_is_flow) {fd_lower_bound : FuncData} (p_lower_bound : PrD (cs K) (xcs K) xfs P w K mg base 2 (He.fAd K ("lower_bound", none)) ["network", "arc", "members"] 3 [] (m_lower_bound fu) fd_lower_bound) {fd_upper_bound : FuncData} (p_upper_bound : PrD (cs K) (xcs K) xfs P w K mg base 2 (He.fAd K ("upper_bound", none)) ["network", "arc", "members"] 3 [] (m_upper_bound fu) fd_upper_bound) :
    PrD (cs K) (xcs K) xfs P w K mg base 4 (He.fAd K ("law", none)) ["_law_script"] 1 [] (m_law fu) fd := by
  obtain ⟨F_Network_init, B_Network_init⟩ := p_Network_init
  obtain ⟨F_Network_arcs, B_Network_arcs⟩ := p_Network_arcs
  obtain ⟨F_law_any_network, B_law_any_network⟩ := p_law_any_network
  obtain ⟨F_law_bound, B_law_bound⟩ := p_law_bound
  obtain ⟨F_law_cell, B_law_cell⟩ := p_law_cell
  obtain ⟨F_law_is_flow, B_law_is_flow⟩ := p_law_is_flow
  obtain ⟨F_law_numbers, B_law_numbers⟩ := p_law_numbers
  obtain ⟨F_is_flow, B_is_flow⟩ := p_is_flow
  obtain ⟨F_lower_bound, B_lower_bound⟩ := p_lower_bound
  obtain ⟨F_upper_bound, B_upper_bound⟩ := p_upper_bound
  refine ⟨fnD_ok (N := ["_law_script", "_law_drawn", "_law_nodes", "_law_arcs", "_law_flow", "_law_digit", "_law_wrong", "e", "_law_network", "_law_arc", "_law_other", "_law_values", "_law_members", "_law_way", "_law_due", "_law_found", "_law_node"]) (S := [1, 2, 3, 4, 5, 6, 7, 8, 9, 10, 11, 12, 13, 14, 15]) (bf := b_law fu) F sc_law rfl (by decide) (by decide) fun cd A outer s H E hr => ?_, F.bindsN fun _ _ _ _ _ _ us hl => match us, hl with | [_], _ => rfl⟩
  unfold b_law l_law_4 v_law_3 q_law_2 l_law_1
  exact (pbx_cons
 (psx_set (i := 1) sc_law.nd rfl (by first | exact .inl rfl | exact .inr rfl) (pex_call F_law_any_network (hr.mono (by decide)) rfl kf.m_law_any_network kf.k_law_any_network B_law_any_network .nil Dfl.nil bodyG_takes (pax_cons (PEx.op (pex_frz (pex_call F_law_numbers (hr.mono (by decide)) rfl kf.m_law_numbers kf.k_law_numbers B_law_numbers .nil Dfl.nil bodyG_takes (pax_cons (pox_p (ppx_name (i := 0) rfl (by first | exact .inl rfl | exact .inr (.inl rfl) | exact .inr (.inr rfl)))) (pax_cons (PEx.op pex_int) (pax_cons (PEx.op pex_int) pax_nil (by decide)) (by decide)) (by decide)) rfl))) (pax_cons (PEx.op pex_int) pax_nil (by decide)) (by decide)) rfl) (by decide) (hh_none rfl))
 (pbx_cons
 (psx_set (i := 2) sc_law.nd rfl (by first | exact .inl rfl | exact .inr rfl) (pex_sh (ppx_i (hu1 hr) (ppx_name (i := 1) rfl (by first | exact .inl rfl | exact .inr (.inl rfl) | exact .inr (.inr rfl))) (PEx.op pex_int) (by decide) (fun _ _ => rfl))) (by decide) (hh_none rfl))
 (pbx_cons
 (psx_set (i := 3) sc_law.nd rfl (by first | exact .inl rfl | exact .inr rfl) (pex_sh (ppx_i (hu1 hr) (ppx_name (i := 1) rfl (by first | exact .inl rfl | exact .inr (.inl rfl) | exact .inr (.inr rfl))) (PEx.op pex_int) (by decide) (fun _ _ => rfl))) (by decide) (hh_none rfl))
 (pbx_cons
 (psx_set (i := 4) sc_law.nd rfl (by first | exact .inl rfl | exact .inr rfl) (pex_sh (ppx_i (hu1 hr) (ppx_name (i := 1) rfl (by first | exact .inl rfl | exact .inr (.inl rfl) | exact .inr (.inr rfl))) (PEx.op pex_int) (by decide) (fun _ _ => rfl))) (by decide) (hh_none rfl))
 (pbx_cons
 (psx_set (i := 5) sc_law.nd rfl (by first | exact .inl rfl | exact .inr rfl) (pex_callB call_abs callS_abs rfl kf.z_abs bt_abs (pax_cons (PEx.op (pex_call F_law_cell (hr.mono (by decide)) rfl kf.m_law_cell kf.k_law_cell B_law_cell .nil Dfl.nil bodyG_takes (pax_cons (pox_p (ppx_name (i := 0) rfl (by first | exact .inl rfl | exact .inr (.inl rfl) | exact .inr (.inr rfl)))) (pax_cons (PEx.op pex_int) pax_nil (by decide)) (by decide)) rfl)) pax_nil (by decide))) (by decide) (hh_none rfl))
 (pbx_cons
 (psx_set (i := 6) sc_law.nd rfl (by first | exact .inl rfl | exact .inr rfl) (pex_ixt (hu1 hr) (pex_lst (pvx_cons (pex_tup (pvx_cons pex_int (pvx_cons (pex_sh (ppx_name (i := 2) rfl (by first | exact .inl rfl | exact .inr (.inl rfl) | exact .inr (.inr rfl)))) (pvx_cons pex_int (pvx_cons pex_int pvx_nil))))) (pvx_cons (pex_tup (pvx_cons pex_int (pvx_cons pex_int (pvx_cons pex_int (pvx_cons pex_int pvx_nil))))) (pvx_cons (pex_tup (pvx_cons pex_int (pvx_cons pex_int (pvx_cons (pex_neg (PEx.op pex_int)) (pvx_cons pex_int pvx_nil))))) (pvx_cons (pex_tup (pvx_cons pex_int (pvx_cons pex_int (pvx_cons pex_int (pvx_cons pex_int pvx_nil))))) (pvx_cons (pex_tup (pvx_cons (pex_neg (PEx.op pex_int)) (pvx_cons pex_int (pvx_cons pex_int (pvx_cons pex_int pvx_nil))))) pvx_nil)))))) (PEx.op (pex_bin op_mod opS_modI (pox_p (ppx_name (i := 5) rfl (by first | exact .inl rfl | exact .inr (.inl rfl) | exact .inr (.inr rfl)))) (PEx.op pex_int) (by decide))) (fun _ _ => rfl)) (by decide) (hh_none rfl))
 (pbx_cons
 (psx_try_as (i := 7) (mt := mt_CellguardError) rfl rfl sc_law.nd rfl rfl ⟨rfl, by decide, .inl kf.m_CellguardError⟩ bodyG_takes rfl (by decide) kf.exm_CellguardError (fun W pn xe tk hp =>
 (pbx_cons
 (psx_expr (pex_seal (pex_make (cc := 0) (nf := 2) F_Network_init (hr.mono (by decide)) rfl kf.mk_Network kf.m_Network rfl (by decide) (by show (["nodes", "_arcs"] : List Str).Nodup; decide +kernel) B_Network_init .nil Dfl.nil tk (pax_cons (pox_p (ppx_name (i := 2) rfl (by first | exact .inl rfl | exact .inr (.inl rfl) | exact .inr (.inr rfl)))) (pax_cons (PEx.op (pex_frz (pex_bin op_addA opS_addA (pox_p (ppx_name (i := 3) rfl (by first | exact .inl rfl | exact .inr (.inl rfl) | exact .inr (.inr rfl)))) (PEx.op (pex_lst (pvx_cons (pex_move (i := 6) rfl (by first | exact .inl rfl | exact .inr (.inl rfl) | exact .inr (.inr rfl))) pvx_nil))) (by decide)))) pax_nil (by decide)) (by decide)) rfl)))
 (pbx_one (psx_ret pex_bl)))) (fun a oe pn y hz hv hy =>
 (pbx_one (psx_if (ptx_not (ptx_val (pex_isE (b := isx_InvalidFlow y) rfl kf.z_isinstance rfl (by first | exact .inl rfl | exact .inr (.inl rfl) | exact .inr (.inr rfl)) rfl kf.m_InvalidFlow (kf.exC y) hz hv (kf.kit_InvalidFlow y)))) (pbx_one (psx_ret pex_bl)) pbx_nil))))
 (pbx_cons
 (psx_set (i := 8) sc_law.nd rfl (by first | exact .inl rfl | exact .inr rfl) (pex_seal (pex_make (cc := 0) (nf := 2) F_Network_init (hr.mono (by decide)) rfl kf.mk_Network kf.m_Network rfl (by decide) (by show (["nodes", "_arcs"] : List Str).Nodup; decide +kernel) B_Network_init .nil Dfl.nil bodyG_takes (pax_cons (pox_p (ppx_name (i := 2) rfl (by first | exact .inl rfl | exact .inr (.inl rfl) | exact .inr (.inr rfl)))) (pax_cons (PEx.op (pex_frz (pex_callTy call_list_of callS_list rfl kf.z_list bt_list (pax_cons (pox_p (ppx_name (i := 3) rfl (by first | exact .inl rfl | exact .inr (.inl rfl) | exact .inr (.inr rfl)))) pax_nil (by decide))))) pax_nil (by decide)) (by decide)) rfl)) (by decide) (hh_none rfl))
 (pbx_cons
 (psx_if (PWx.pt (pwx_or (ptx_cmp (op_neD (hu64 hr)) blS_ne.op (pox_p (ppx_f (cc := 0) (j := 0) (ppx_name (i := 8) rfl (by first | exact .inl rfl | exact .inr (.inl rfl) | exact .inr (.inr rfl))) kf.c_Network kf.na_Network_nodes rfl)) (pox_p (ppx_name (i := 2) rfl (by first | exact .inl rfl | exact .inr (.inl rfl) | exact .inr (.inr rfl)))) (by decide) (nomark _)) (pwx_or (ptx_cmp (op_neD (hu64 hr)) blS_ne.op (PEx.op (pex_meth0 (cc := 0) F_Network_arcs (hr.mono (by decide)) kf.c_Network kf.me_Network_arcs (by show ¬ ("arcs" : Str) ∈ (["nodes", "_arcs"] : List Str); decide +kernel) B_Network_arcs .nil Dfl.nil bodyG_takes (pox_p (ppx_name (i := 8) rfl (by first | exact .inl rfl | exact .inr (.inl rfl) | exact .inr (.inr rfl)))) rfl)) (pox_p (ppx_name (i := 3) rfl (by first | exact .inl rfl | exact .inr (.inl rfl) | exact .inr (.inr rfl)))) (by decide) (nomark _)) (pwx_or1 (ptx_cmp op_isntA blS_isnt.op (PEx.op (pex_call F_is_flow (hr.mono (by decide)) rfl kf.m_is_flow kf.k_is_flow B_is_flow .nil Dfl.nil bodyG_takes (pax_cons (pox_p (ppx_name (i := 8) rfl (by first | exact .inl rfl | exact .inr (.inl rfl) | exact .inr (.inr rfl)))) (pax_cons (PEx.op (pex_frz (pex_callTy call_list_of callS_list rfl kf.z_list bt_list (pax_cons (pox_p (ppx_name (i := 4) rfl (by first | exact .inl rfl | exact .inr (.inl rfl) | exact .inr (.inr rfl)))) pax_nil (by decide))))) pax_nil (by decide)) (by decide)) rfl)) (PEx.op pex_bl) (by decide) (nomark _)))))) (pbx_one (psx_ret pex_bl)) pbx_nil)
 (pbx_cons
 (psx_if (ptx_cmp (op_eqD (hu64 hr)) blS_eq.op (pox_p (ppx_name (i := 3) rfl (by first | exact .inl rfl | exact .inr (.inl rfl) | exact .inr (.inr rfl)))) (PEx.op (pex_lst pvx_nil)) (by decide) (nomark _)) (pbx_one (psx_ret pex_bl)) pbx_nil)
 (pbx_cons
 (psx_set (i := 9) sc_law.nd rfl (by first | exact .inl rfl | exact .inr rfl) (pex_bin op_mod opS_modI (PEx.op (pex_bin op_fdiv opS_divI (pox_p (ppx_name (i := 5) rfl (by first | exact .inl rfl | exact .inr (.inl rfl) | exact .inr (.inr rfl)))) (PEx.op pex_int) (by decide))) (PEx.op (pex_callB call_lenAny callS_len rfl kf.z_len bt_len (pax_cons (pox_p (ppx_name (i := 3) rfl (by first | exact .inl rfl | exact .inr (.inl rfl) | exact .inr (.inr rfl)))) pax_nil (by decide)))) (by decide)) (by decide) (hh_none rfl))
 (pbx_cons
 (psx_set (i := 10) sc_law.nd rfl (by first | exact .inl rfl | exact .inr rfl) (pex_callTy call_list_of callS_list rfl kf.z_list bt_list (pax_cons (pox_p (ppx_name (i := 4) rfl (by first | exact .inl rfl | exact .inr (.inl rfl) | exact .inr (.inr rfl)))) pax_nil (by decide))) (by decide) (hh_none rfl))
 (pbx_cons
 (psx_put (hu1 hr) (pex_bin op_addA opS_addA (pox_p (ppx_i (hu1 hr) (ppx_name (i := 10) rfl (by first | exact .inl rfl | exact .inr (.inl rfl) | exact .inr (.inr rfl))) (pox_p (ppx_name (i := 9) rfl (by first | exact .inl rfl | exact .inr (.inl rfl) | exact .inr (.inr rfl)))) (by decide) (fun _ _ => rfl))) (PEx.op (pex_ixt (hu1 hr) (pex_lst (pvx_cons pex_int (pvx_cons (pex_neg (PEx.op pex_int)) (pvx_cons pex_int pvx_nil)))) (PEx.op (pex_bin op_mod opS_modI (PEx.op (pex_bin op_fdiv opS_divI (pox_p (ppx_name (i := 5) rfl (by first | exact .inl rfl | exact .inr (.inl rfl) | exact .inr (.inr rfl)))) (PEx.op pex_int) (by decide))) (PEx.op pex_int) (by decide))) (fun _ _ => rfl))) (by decide)) (ppx_name (i := 10) rfl (by first | exact .inl rfl | exact .inr (.inl rfl) | exact .inr (.inr rfl))) (pox_p (ppx_name (i := 9) rfl (by first | exact .inl rfl | exact .inr (.inl rfl) | exact .inr (.inr rfl)))) (by decide))
 (pbx_cons
 (psx_for (kl := [11]) bodyG_passes rfl (pix_val (pex_lst (pvx_cons (pex_move (i := 10) rfl (by first | exact .inl rfl | exact .inr (.inl rfl) | exact .inr (.inr rfl))) (pvx_cons (pex_slice (pox_p (ppx_name (i := 4) rfl (by first | exact .inl rfl | exact .inr (.inl rfl) | exact .inr (.inr rfl)))) (prx_some (PEx.op pex_int)) prx_none (by decide) (by decide)) (pvx_cons (pex_bin op_addA opS_addA (pox_p (ppx_name (i := 4) rfl (by first | exact .inl rfl | exact .inr (.inl rfl) | exact .inr (.inr rfl)))) (PEx.op (pex_lst (pvx_cons pex_int pvx_nil))) (by decide)) pvx_nil))))) (pgx_name (i := 11) sc_law.nd rfl (by first | exact .inl rfl | exact .inr rfl) (by decide) (hh_none rfl))
 (pbx_one (psx_if (ptx_cmp (op_neD (hu64 hr)) blS_ne.op (PEx.op (pex_call F_is_flow (hr.mono (by decide)) rfl kf.m_is_flow kf.k_is_flow B_is_flow .nil Dfl.nil bodyG_takes (pax_cons (pox_p (ppx_name (i := 8) rfl (by first | exact .inl rfl | exact .inr (.inl rfl) | exact .inr (.inr rfl)))) (pax_cons (pox_p (ppx_name (i := 11) rfl (by first | exact .inl rfl | exact .inr (.inl rfl) | exact .inr (.inr rfl)))) pax_nil (by decide)) (by decide)) rfl)) (PEx.op (pex_call F_law_is_flow (hr.mono (by decide)) rfl kf.m_law_is_flow kf.k_law_is_flow B_law_is_flow .nil Dfl.nil bodyG_takes (pax_cons (pox_p (ppx_name (i := 2) rfl (by first | exact .inl rfl | exact .inr (.inl rfl) | exact .inr (.inr rfl)))) (pax_cons (pox_p (ppx_name (i := 3) rfl (by first | exact .inl rfl | exact .inr (.inl rfl) | exact .inr (.inr rfl)))) (pax_cons (pox_p (ppx_name (i := 11) rfl (by first | exact .inl rfl | exact .inr (.inl rfl) | exact .inr (.inr rfl)))) pax_nil (by decide)) (by decide)) (by decide)) rfl)) (by decide) (nomark _)) (pbx_one (psx_ret pex_bl)) pbx_nil)))
 (pbx_cons
 (psx_setLc (k := 12) (own := [("_law_node", 16)]) rfl sc_law.nd rfl rfl (pix_rng1 rfl kf.z_range (pax_cons (pox_p (ppx_name (i := 2) rfl (by first | exact .inl rfl | exact .inr (.inl rfl) | exact .inr (.inr rfl)))) pax_nil (by decide))) (blkOk_by (by show blkC ["_law_script", "_law_drawn", "_law_nodes", "_law_arcs", "_law_flow", "_law_digit", "_law_wrong", "e", "_law_network", "_law_arc", "_law_other", "_law_values", "_law_members", "_law_way", "_law_due", "_law_found", "_law_node"] (defScope Hd.s_law) _ _ = true; decide +kernel)) (fun _ _ _ _ _ => (pgx_name (i := 16) sc_law.nd rfl (by first | exact .inl rfl | exact .inr rfl) (by decide) (hh_none rfl))) (fun _ _ _ _ _ => (ptsx_one (ptx_cmp (op_eqD (hu64 hr)) blS_eq.op (PEx.op (pex_bin op_and opS_andI (PEx.op (pex_bin op_shr opS_shrI (PEx.op (pex_bin op_fdiv opS_divI (pox_p (ppx_name (i := 5) rfl (by first | exact .inl rfl | exact .inr (.inl rfl) | exact .inr (.inr rfl)))) (PEx.op pex_int) (by decide))) (pox_p (ppx_name (i := 16) rfl (by first | exact .inl rfl | exact .inr (.inl rfl) | exact .inr (.inr rfl)))) (by decide))) (PEx.op pex_int) (by decide))) (PEx.op pex_int) (by decide) (nomark _)))) (fun _ _ _ _ _ => (pex_sh (ppx_name (i := 16) rfl (by first | exact .inl rfl | exact .inr (.inl rfl) | exact .inr (.inr rfl))))) (by first | (intro h e; cases e) | (intro h e; cases e; decide)) (by decide) (hh_none rfl))
 (pbx_cons
 (psx_for (kl := [13, 14, 15]) bodyG_passes rfl (pix_val (pex_tup (pvx_cons (pex_neg (PEx.op pex_int)) (pvx_cons pex_int pvx_nil)))) (pgx_name (i := 13) sc_law.nd rfl (by first | exact .inl rfl | exact .inr rfl) (by decide) (hh_none rfl))
 (pbx_cons
 (psx_set (i := 14) sc_law.nd rfl (by first | exact .inl rfl | exact .inr rfl) (pex_call F_law_bound (hr.mono (by decide)) rfl kf.m_law_bound kf.k_law_bound B_law_bound .nil Dfl.nil bodyG_takes (pax_cons (pox_p (ppx_name (i := 3) rfl (by first | exact .inl rfl | exact .inr (.inl rfl) | exact .inr (.inr rfl)))) (pax_cons (pox_p (ppx_name (i := 9) rfl (by first | exact .inl rfl | exact .inr (.inl rfl) | exact .inr (.inr rfl)))) (pax_cons (pox_p (ppx_name (i := 13) rfl (by first | exact .inl rfl | exact .inr (.inl rfl) | exact .inr (.inr rfl)))) (pax_cons (pox_p (ppx_name (i := 12) rfl (by first | exact .inl rfl | exact .inr (.inl rfl) | exact .inr (.inr rfl)))) pax_nil (by decide)) (by decide)) (by decide)) (by decide)) rfl) (by decide) (hh_none rfl))
 (pbx_cons
 (psx_try_as (i := 7) (mt := mt_CellguardError) rfl rfl sc_law.nd rfl rfl ⟨rfl, by decide, .inl kf.m_CellguardError⟩ bodyG_takes rfl (by decide) kf.exm_CellguardError (fun W pn xe tk hp =>
 (pbx_one (psx_if (ptx_cmp (op_eqD (hu64 hr)) blS_eq.op (pox_p (ppx_name (i := 13) rfl (by first | exact .inl rfl | exact .inr (.inl rfl) | exact .inr (.inr rfl)))) (PEx.op pex_int) (by decide) (nomark _)) (pbx_one (psx_set (i := 15) sc_law.nd rfl (by first | exact .inl rfl | exact .inr rfl) (pex_call F_upper_bound (hr.mono (by decide)) rfl kf.m_upper_bound kf.k_upper_bound B_upper_bound .nil Dfl.nil tk (pax_cons (pox_p (ppx_name (i := 8) rfl (by first | exact .inl rfl | exact .inr (.inl rfl) | exact .inr (.inr rfl)))) (pax_cons (pox_p (ppx_name (i := 9) rfl (by first | exact .inl rfl | exact .inr (.inl rfl) | exact .inr (.inr rfl)))) (pax_cons (PEx.op (pex_frz (pex_callTy call_list_of callS_list rfl kf.z_list bt_list (pax_cons (pox_p (ppx_name (i := 12) rfl (by first | exact .inl rfl | exact .inr (.inl rfl) | exact .inr (.inr rfl)))) pax_nil (by decide))))) pax_nil (by decide)) (by decide)) (by decide)) rfl) (by decide) (hh_none rfl))) (pbx_one (psx_set (i := 15) sc_law.nd rfl (by first | exact .inl rfl | exact .inr rfl) (pex_call F_lower_bound (hr.mono (by decide)) rfl kf.m_lower_bound kf.k_lower_bound B_lower_bound .nil Dfl.nil tk (pax_cons (pox_p (ppx_name (i := 8) rfl (by first | exact .inl rfl | exact .inr (.inl rfl) | exact .inr (.inr rfl)))) (pax_cons (pox_p (ppx_name (i := 9) rfl (by first | exact .inl rfl | exact .inr (.inl rfl) | exact .inr (.inr rfl)))) (pax_cons (PEx.op (pex_frz (pex_callTy call_list_of callS_list rfl kf.z_list bt_list (pax_cons (pox_p (ppx_name (i := 12) rfl (by first | exact .inl rfl | exact .inr (.inl rfl) | exact .inr (.inr rfl)))) pax_nil (by decide))))) pax_nil (by decide)) (by decide)) (by decide)) rfl) (by decide) (hh_none rfl)))))) (fun a oe pn y hz hv hy =>
 (pbx_cons
 (psx_if (PWx.pt (pwx_or (ptx_not (ptx_val (pex_isE (b := isx_InvalidFlow y) rfl kf.z_isinstance rfl (by first | exact .inl rfl | exact .inr (.inl rfl) | exact .inr (.inr rfl)) rfl kf.m_InvalidFlow (kf.exC y) hz hv (kf.kit_InvalidFlow y)))) (pwx_or1 (ptx_cmp op_isntA blS_isnt.op (pox_p (ppx_name (i := 14) rfl (by first | exact .inl rfl | exact .inr (.inl rfl) | exact .inr (.inr rfl)))) (PEx.op pex_non) (by decide) (nomark _))))) (pbx_one (psx_ret pex_bl)) pbx_nil)
 (pbx_one (psx_set (i := 15) sc_law.nd rfl (by first | exact .inl rfl | exact .inr rfl) pex_non (by decide) (hh_some rfl (by decide)))))))
 (pbx_one (psx_if (PWx.pt (pwx_or (ptx_cmp (op_neD (hu64 hr)) blS_ne.op (pox_p (ppx_name (i := 15) rfl (by first | exact .inl rfl | exact .inr (.inl rfl) | exact .inr (.inr rfl)))) (pox_p (ppx_name (i := 14) rfl (by first | exact .inl rfl | exact .inr (.inl rfl) | exact .inr (.inr rfl)))) (by decide) (nomark _)) (pwx_or1 (PWx.pt (pwx_and (ptx_cmp op_isntA blS_isnt.op (pox_p (ppx_name (i := 14) rfl (by first | exact .inl rfl | exact .inr (.inl rfl) | exact .inr (.inr rfl)))) (PEx.op pex_non) (by decide) (nomark _)) (pwx_and1 (ptx_cmp op_gt blS_gt.op (PEx.op (pex_bin op_mulA opS_mulA (pox_p (ppx_name (i := 13) rfl (by first | exact .inl rfl | exact .inr (.inl rfl) | exact .inr (.inr rfl)))) (pox_p (ppx_i (hu1 hr) (ppx_name (i := 4) rfl (by first | exact .inl rfl | exact .inr (.inl rfl) | exact .inr (.inr rfl))) (pox_p (ppx_name (i := 9) rfl (by first | exact .inl rfl | exact .inr (.inl rfl) | exact .inr (.inr rfl)))) (by decide) (fun _ _ => rfl))) (by decide))) (PEx.op (pex_bin op_mulA opS_mulA (pox_p (ppx_name (i := 13) rfl (by first | exact .inl rfl | exact .inr (.inl rfl) | exact .inr (.inr rfl)))) (pox_p (ppx_name (i := 14) rfl (by first | exact .inl rfl | exact .inr (.inl rfl) | exact .inr (.inr rfl)))) (by decide))) (by decide) (nomark _)))))))) (pbx_one (psx_ret pex_bl)) pbx_nil)))))
 (pbx_one (psx_ret pex_bl))))))))))))))))))
end Wk
set_option Elab.async false
set_option linter.all false
set_option maxRecDepth 100000
set_option maxHeartbeats 0
namespace Hd
open PySem PySem.Spec PyProof.Rows L2
def d_Network_init : He.DefD := ⟨("Network", some "__init__"), "__init__", "Network.__init__", defArgs s_Network_init, defBody s_Network_init, defScope s_Network_init, [], []⟩
def d_Network_arcs : He.DefD := ⟨("Network", some "arcs"), "arcs", "Network.arcs", defArgs s_Network_arcs, defBody s_Network_arcs, defScope s_Network_arcs, [], []⟩
def d_surpluses : He.DefD := ⟨("surpluses", none), "surpluses", "surpluses", defArgs s_surpluses, defBody s_surpluses, defScope s_surpluses, [], []⟩
def d_is_flow : He.DefD := ⟨("is_flow", none), "is_flow", "is_flow", defArgs s_is_flow, defBody s_is_flow, defScope s_is_flow, [], []⟩
def d_enters : He.DefD := ⟨("enters", none), "enters", "enters", defArgs s_enters, defBody s_enters, defScope s_enters, [], []⟩
def d_leaves : He.DefD := ⟨("leaves", none), "leaves", "leaves", defArgs s_leaves, defBody s_leaves, defScope s_leaves, [], []⟩
def d_upper_bound : He.DefD := ⟨("upper_bound", none), "upper_bound", "upper_bound", defArgs s_upper_bound, defBody s_upper_bound, defScope s_upper_bound, [], []⟩
def d_lower_bound : He.DefD := ⟨("lower_bound", none), "lower_bound", "lower_bound", defArgs s_lower_bound, defBody s_lower_bound, defScope s_lower_bound, [], []⟩
def d_law_is_integer : He.DefD := ⟨("_law_is_integer", none), "_law_is_integer", "_law_is_integer", defArgs s_law_is_integer, defBody s_law_is_integer, defScope s_law_is_integer, [], []⟩
def d_law_cell : He.DefD := ⟨("_law_cell", none), "_law_cell", "_law_cell", defArgs s_law_cell, defBody s_law_cell, defScope s_law_cell, [], []⟩
def d_law_numbers : He.DefD := ⟨("_law_numbers", none), "_law_numbers", "_law_numbers", defArgs s_law_numbers, defBody s_law_numbers, defScope s_law_numbers, [], []⟩
def d_law_any_network : He.DefD := ⟨("_law_any_network", none), "_law_any_network", "_law_any_network", defArgs s_law_any_network, defBody s_law_any_network, defScope s_law_any_network, [], []⟩
def d_law_is_flow : He.DefD := ⟨("_law_is_flow", none), "_law_is_flow", "_law_is_flow", defArgs s_law_is_flow, defBody s_law_is_flow, defScope s_law_is_flow, [], []⟩
def d_law_bound : He.DefD := ⟨("_law_bound", none), "_law_bound", "_law_bound", defArgs s_law_bound, defBody s_law_bound, defScope s_law_bound, [], []⟩
def d_law_paper_right : He.DefD := ⟨("_law_paper_right", none), "_law_paper_right", "_law_paper_right", defArgs s_law_paper_right, defBody s_law_paper_right, defScope s_law_paper_right, [], []⟩
def d_law : He.DefD := ⟨("law", none), "law", "law", defArgs s_law, defBody s_law, defScope s_law, [], []⟩
def fn_0 : List He.DefD := [d_Network_init, d_Network_arcs, d_surpluses, d_is_flow, d_enters, d_leaves, d_upper_bound, d_lower_bound, d_law_is_integer, d_law_cell, d_law_numbers, d_law_any_network, d_law_is_flow, d_law_bound, d_law_paper_right, d_law]
def fn : List He.DefD := fn_0
def fa_0 : List He.Fa := [.glo "CellguardError", .glo "InvalidFlow", .glo "Network", .glo "surpluses", .glo "is_flow", .glo "enters", .glo "leaves", .glo "upper_bound", .glo "lower_bound", .glo "_law_is_integer", .glo "_law_cell", .glo "_law_numbers", .glo "_law_any_network", .glo "_law_is_flow", .glo "_law_bound", .glo "_law_paper_right", .glo "law", .free "abs", .free "bool", .free "enumerate", .free "int", .free "isinstance", .free "len", .free "list", .free "max", .free "range", .free "sorted", .free "sum", .exc "CellguardError", .exc "InvalidFlow"]
def fa_1 : List He.Fa := [.cls "Network", .mkr "Network", .noat "Network" "nodes", .noat "Network" "_arcs", .meth "Network" "arcs", .exm "CellguardError" "CellguardError" true, .exm "InvalidFlow" "CellguardError" true]
def fa : List He.Fa := fa_0 ++ fa_1
def ex_0 (K : PySem.W.Frag) : List Bool := [He.eqO (PySem.W.findIn K (.ref (He.ga K "CellguardError")) "__getattribute__") (some (some (.builtin "BaseException.__getattribute__"))), He.eqO (PySem.W.findIn K (.ref (He.ga K "CellguardError")) "__getattr__") (some none), decide (PySem.W.subIn K (.ref (He.ga K "CellguardError")) (.type "BaseException") = some true), PySem.W.hasDictIn K (He.ga K "CellguardError"), He.eqO (PySem.W.findIn K (.ref (He.ga K "CellguardError")) "__class__") (some (some (.builtin "object.__class__"))), He.eqO (PySem.W.specialIn K (.builtin "object.__class__") "__get__") (some (some (.builtin "getset_descriptor.__get__"))), decide (PySem.W.takesIn K (.builtin "object.__class__") = some true), decide (PySem.W.mroIn K (He.ga K "CellguardError") (.type "object") = some true), He.eqO (PySem.W.findIn K (.ref (He.ga K "InvalidFlow")) "__getattribute__") (some (some (.builtin "BaseException.__getattribute__"))), He.eqO (PySem.W.findIn K (.ref (He.ga K "InvalidFlow")) "__getattr__") (some none), decide (PySem.W.subIn K (.ref (He.ga K "InvalidFlow")) (.type "BaseException") = some true), PySem.W.hasDictIn K (He.ga K "InvalidFlow"), He.eqO (PySem.W.findIn K (.ref (He.ga K "InvalidFlow")) "__class__") (some (some (.builtin "object.__class__"))), He.eqO (PySem.W.specialIn K (.builtin "object.__class__") "__get__") (some (some (.builtin "getset_descriptor.__get__"))), decide (PySem.W.takesIn K (.builtin "object.__class__") = some true), decide (PySem.W.mroIn K (He.ga K "InvalidFlow") (.type "object") = some true), decide (PySem.W.kitOne K (.ref (He.ga K "CellguardError")) (.ref (He.ga K "InvalidFlow")) = some false), decide (PySem.W.kitOne K (.ref (He.ga K "InvalidFlow")) (.ref (He.ga K "InvalidFlow")) = some true)]
def exL (K : PySem.W.Frag) : List Bool := ex_0 K
def ex (K : PySem.W.Frag) : Bool := (exL K).all id
def loose_0 : List Str := ["CellguardError", "InvalidFlow", "Network", "surpluses", "is_flow", "enters", "leaves", "upper_bound", "lower_bound", "_law_is_integer", "_law_cell", "_law_numbers", "_law_any_network", "_law_is_flow", "_law_bound", "_law_paper_right"]
def loose : List Str := loose_0
abbrev R : PySem.W.OpenRow := PySem.W.OpenLaw.row PySem.Challenge.rw_cellguard_k06_bounds_of_sets
abbrev hk : PySem.W.Hook := He.hookX 5 fa fn [] [] ex
def ob (s : PySem.W.SharedT) : He.AlX := He.obsX 5 fa fn [] [] ex (HandSHeadRun.getT s)
theorem ob_eq (s : PySem.W.SharedT) : ob s = hk.obs s.abs := He.obsX_eq (HandSHeadRun.getT_eq s)
theorem run (w : World) : HandSHeadRun.RunEq R (PySem.W.view R.prog [19]) hk ob 4000 loose w := by
  intro os
  kernel_rfl
end Hd
set_option Elab.async false
set_option linter.all false
set_option maxRecDepth 100000
set_option maxHeartbeats 0
namespace Fi
open PySem PySem.Spec PyProof.Rows L2 DL PySem.W PySem.Calls
theorem ex_at {l : List Bool} (h : l.all id = true) (i : Nat) {b : Bool} (e : l[i]? = some b) : b = true := List.all_eq_true.mp h b (List.mem_of_getElem? e)
theorem kf_of {w : World} {K : PySem.W.Frag} {h h2 : Heap} {mg : Str → Option Value} (X : K.In h) (G : h.Ns mainGlobals mg) (s : He.SaysX Hd.fa Hd.fn [] [] Hd.ex w h2 K) : Wk.Kf K mg := by
  have c := s.t.d
  have x_CellguardError := He.exc_ok (c.fact 28 (f := .exc "CellguardError") rfl)
  have xc_CellguardError : ExcC K (He.ga K "CellguardError") := ⟨He.eqO_ok (ex_at s.more 0 rfl), He.eqO_ok (ex_at s.more 1 rfl), of_decide_eq_true (ex_at s.more 2 rfl), (ex_at s.more 3 rfl), He.eqO_ok (ex_at s.more 4 rfl), He.eqO_ok (ex_at s.more 5 rfl), of_decide_eq_true (ex_at s.more 6 rfl), of_decide_eq_true (ex_at s.more 7 rfl)⟩
  have x_InvalidFlow := He.exc_ok (c.fact 29 (f := .exc "InvalidFlow") rfl)
  have xc_InvalidFlow : ExcC K (He.ga K "InvalidFlow") := ⟨He.eqO_ok (ex_at s.more 8 rfl), He.eqO_ok (ex_at s.more 9 rfl), of_decide_eq_true (ex_at s.more 10 rfl), (ex_at s.more 11 rfl), He.eqO_ok (ex_at s.more 12 rfl), He.eqO_ok (ex_at s.more 13 rfl), of_decide_eq_true (ex_at s.more 14 rfl), of_decide_eq_true (ex_at s.more 15 rfl)⟩
  exact {
    m_CellguardError := He.glo_ok X G (c.fact 0 (f := .glo "CellguardError") rfl)
    m_InvalidFlow := He.glo_ok X G (c.fact 1 (f := .glo "InvalidFlow") rfl)
    m_Network := He.glo_ok X G (c.fact 2 (f := .glo "Network") rfl)
    m_surpluses := He.glo_ok X G (c.fact 3 (f := .glo "surpluses") rfl)
    m_is_flow := He.glo_ok X G (c.fact 4 (f := .glo "is_flow") rfl)
    m_enters := He.glo_ok X G (c.fact 5 (f := .glo "enters") rfl)
    m_leaves := He.glo_ok X G (c.fact 6 (f := .glo "leaves") rfl)
    m_upper_bound := He.glo_ok X G (c.fact 7 (f := .glo "upper_bound") rfl)
    m_lower_bound := He.glo_ok X G (c.fact 8 (f := .glo "lower_bound") rfl)
    m_law_is_integer := He.glo_ok X G (c.fact 9 (f := .glo "_law_is_integer") rfl)
    m_law_cell := He.glo_ok X G (c.fact 10 (f := .glo "_law_cell") rfl)
    m_law_numbers := He.glo_ok X G (c.fact 11 (f := .glo "_law_numbers") rfl)
    m_law_any_network := He.glo_ok X G (c.fact 12 (f := .glo "_law_any_network") rfl)
    m_law_is_flow := He.glo_ok X G (c.fact 13 (f := .glo "_law_is_flow") rfl)
    m_law_bound := He.glo_ok X G (c.fact 14 (f := .glo "_law_bound") rfl)
    m_law_paper_right := He.glo_ok X G (c.fact 15 (f := .glo "_law_paper_right") rfl)
    m_law := He.glo_ok X G (c.fact 16 (f := .glo "law") rfl)
    k_Network_init := (c.def_ 0 (d := Hd.d_Network_init) rfl).elim fun _ F => F.kp
    k_Network_arcs := (c.def_ 1 (d := Hd.d_Network_arcs) rfl).elim fun _ F => F.kp
    k_surpluses := (c.def_ 2 (d := Hd.d_surpluses) rfl).elim fun _ F => F.kp
    k_is_flow := (c.def_ 3 (d := Hd.d_is_flow) rfl).elim fun _ F => F.kp
    k_enters := (c.def_ 4 (d := Hd.d_enters) rfl).elim fun _ F => F.kp
    k_leaves := (c.def_ 5 (d := Hd.d_leaves) rfl).elim fun _ F => F.kp
    k_upper_bound := (c.def_ 6 (d := Hd.d_upper_bound) rfl).elim fun _ F => F.kp
    k_lower_bound := (c.def_ 7 (d := Hd.d_lower_bound) rfl).elim fun _ F => F.kp
    k_law_is_integer := (c.def_ 8 (d := Hd.d_law_is_integer) rfl).elim fun _ F => F.kp
    k_law_cell := (c.def_ 9 (d := Hd.d_law_cell) rfl).elim fun _ F => F.kp
    k_law_numbers := (c.def_ 10 (d := Hd.d_law_numbers) rfl).elim fun _ F => F.kp
    k_law_any_network := (c.def_ 11 (d := Hd.d_law_any_network) rfl).elim fun _ F => F.kp
    k_law_is_flow := (c.def_ 12 (d := Hd.d_law_is_flow) rfl).elim fun _ F => F.kp
    k_law_bound := (c.def_ 13 (d := Hd.d_law_bound) rfl).elim fun _ F => F.kp
    k_law_paper_right := (c.def_ 14 (d := Hd.d_law_paper_right) rfl).elim fun _ F => F.kp
    k_law := (c.def_ 15 (d := Hd.d_law) rfl).elim fun _ F => F.kp
    z_abs := He.free_ok X G (c.fact 17 (f := .free "abs") rfl)
    z_bool := He.free_ok X G (c.fact 18 (f := .free "bool") rfl)
    z_enumerate := He.free_ok X G (c.fact 19 (f := .free "enumerate") rfl)
    z_int := He.free_ok X G (c.fact 20 (f := .free "int") rfl)
    z_isinstance := He.free_ok X G (c.fact 21 (f := .free "isinstance") rfl)
    z_len := He.free_ok X G (c.fact 22 (f := .free "len") rfl)
    z_list := He.free_ok X G (c.fact 23 (f := .free "list") rfl)
    z_max := He.free_ok X G (c.fact 24 (f := .free "max") rfl)
    z_range := He.free_ok X G (c.fact 25 (f := .free "range") rfl)
    z_sorted := He.free_ok X G (c.fact 26 (f := .free "sorted") rfl)
    z_sum := He.free_ok X G (c.fact 27 (f := .free "sum") rfl)
    c_Network := He.cls_ok (c.fact 30 (f := .cls "Network") rfl)
    mk_Network := He.mkr_ok (c.fact 31 (f := .mkr "Network") rfl)
    na_Network_nodes := He.noat_ok (c.fact 32 (f := .noat "Network" "nodes") rfl)
    na_Network__arcs := He.noat_ok (c.fact 33 (f := .noat "Network" "_arcs") rfl)
    me_Network_arcs := He.meth_ok (c.fact 34 (f := .meth "Network" "arcs") rfl)
    e_CellguardError := x_CellguardError.1
    ke_CellguardError := x_CellguardError.2.1
    su_CellguardError := x_CellguardError.2.2.1
    ty_CellguardError := x_CellguardError.2.2.2
    e_InvalidFlow := x_InvalidFlow.1
    ke_InvalidFlow := x_InvalidFlow.2.1
    su_InvalidFlow := x_InvalidFlow.2.2.1
    ty_InvalidFlow := x_InvalidFlow.2.2.2
    exm_CellguardError := fun
      | 0 => He.exm_ok (c.fact 35 (f := .exm "CellguardError" "CellguardError" true) rfl)
      | 1 => He.exm_ok (c.fact 36 (f := .exm "InvalidFlow" "CellguardError" true) rfl)
      | _ + 2 => He.exm_ok (c.fact 35 (f := .exm "CellguardError" "CellguardError" true) rfl)
    exC := fun
      | 0 => xc_CellguardError
      | 1 => xc_InvalidFlow
      | _ + 2 => xc_CellguardError
    kit_InvalidFlow := fun
      | 0 => of_decide_eq_true (ex_at s.more 16 rfl)
      | 1 => of_decide_eq_true (ex_at s.more 17 rfl)
      | _ + 2 => of_decide_eq_true (ex_at s.more 16 rfl)
  }
theorem law_fn {w : World} {K : PySem.W.Frag} {h h2 : Heap} {mg : Str → Option Value} {f : Addr} (X : K.In h) (G : h.Ns mainGlobals mg) (hfa : mg ("law" : Str) = some (.ref f)) (s : He.SaysX Hd.fa Hd.fn [] [] Hd.ex w h2 K) :
    ∃ fd : FuncData, (∀ (s : Shared) (v : Value), BindsTo s fd ⟨[v], []⟩ [("_law_script", v)]) ∧ ∀ base : Heap, K.In base → base.Ns mainGlobals mg → ∀ n, FnOk PySem.Challenge.pw_cellguard_k06_bounds_of_sets w K mg base (L2.CX PySem.Challenge.pw_cellguard_k06_bounds_of_sets w) 4 f fd ["_law_script"] (spG (Wk.cs K) K (Wk.xcs K) Wk.xfs 1 [] (Wk.m_law n)) := by
  have kf := kf_of X G s
  have c := s.t.d
  obtain ⟨fd_Network_init, F_Network_init⟩ := c.def_ 0 (d := Hd.d_Network_init) rfl
  obtain ⟨fd_Network_arcs, F_Network_arcs⟩ := c.def_ 1 (d := Hd.d_Network_arcs) rfl
  obtain ⟨fd_surpluses, F_surpluses⟩ := c.def_ 2 (d := Hd.d_surpluses) rfl
  obtain ⟨fd_is_flow, F_is_flow⟩ := c.def_ 3 (d := Hd.d_is_flow) rfl
  obtain ⟨fd_enters, F_enters⟩ := c.def_ 4 (d := Hd.d_enters) rfl
  obtain ⟨fd_leaves, F_leaves⟩ := c.def_ 5 (d := Hd.d_leaves) rfl
  obtain ⟨fd_upper_bound, F_upper_bound⟩ := c.def_ 6 (d := Hd.d_upper_bound) rfl
  obtain ⟨fd_lower_bound, F_lower_bound⟩ := c.def_ 7 (d := Hd.d_lower_bound) rfl
  obtain ⟨fd_law_is_integer, F_law_is_integer⟩ := c.def_ 8 (d := Hd.d_law_is_integer) rfl
  obtain ⟨fd_law_cell, F_law_cell⟩ := c.def_ 9 (d := Hd.d_law_cell) rfl
  obtain ⟨fd_law_numbers, F_law_numbers⟩ := c.def_ 10 (d := Hd.d_law_numbers) rfl
  obtain ⟨fd_law_any_network, F_law_any_network⟩ := c.def_ 11 (d := Hd.d_law_any_network) rfl
  obtain ⟨fd_law_is_flow, F_law_is_flow⟩ := c.def_ 12 (d := Hd.d_law_is_flow) rfl
  obtain ⟨fd_law_bound, F_law_bound⟩ := c.def_ 13 (d := Hd.d_law_bound) rfl
  obtain ⟨fd_law_paper_right, F_law_paper_right⟩ := c.def_ 14 (d := Hd.d_law_paper_right) rfl
  obtain ⟨fd_law, F_law⟩ := c.def_ 15 (d := Hd.d_law) rfl
  have e := hfa.symm.trans kf.m_law
  cases e
  refine ⟨fd_law, fun s v => FunD.bindsA (ps := ["_law_script"]) F_law (fun _ _ _ _ _ _ us hl => match us, hl with | [_], _ => rfl) s [v] rfl, fun base _ _ n => ?_⟩
  have P_Network_init := Wk.ok_Network_init (P := PySem.Challenge.pw_cellguard_k06_bounds_of_sets) (w := w) (base := base) kf n F_Network_init 
  have P_Network_arcs := Wk.ok_Network_arcs (P := PySem.Challenge.pw_cellguard_k06_bounds_of_sets) (w := w) (base := base) kf n F_Network_arcs 
  have P_surpluses := Wk.ok_surpluses (P := PySem.Challenge.pw_cellguard_k06_bounds_of_sets) (w := w) (base := base) kf n F_surpluses P_Network_arcs
  have P_is_flow := Wk.ok_is_flow (P := PySem.Challenge.pw_cellguard_k06_bounds_of_sets) (w := w) (base := base) kf n F_is_flow P_Network_arcs P_surpluses
  have P_enters := Wk.ok_enters (P := PySem.Challenge.pw_cellguard_k06_bounds_of_sets) (w := w) (base := base) kf n F_enters 
  have P_leaves := Wk.ok_leaves (P := PySem.Challenge.pw_cellguard_k06_bounds_of_sets) (w := w) (base := base) kf n F_leaves 
  have P_upper_bound := Wk.ok_upper_bound (P := PySem.Challenge.pw_cellguard_k06_bounds_of_sets) (w := w) (base := base) kf n F_upper_bound P_Network_arcs P_enters P_leaves
  have P_lower_bound := Wk.ok_lower_bound (P := PySem.Challenge.pw_cellguard_k06_bounds_of_sets) (w := w) (base := base) kf n F_lower_bound P_Network_arcs P_enters P_leaves
  have P_law_is_integer := Wk.ok_law_is_integer (P := PySem.Challenge.pw_cellguard_k06_bounds_of_sets) (w := w) (base := base) kf n F_law_is_integer 
  have P_law_cell := Wk.ok_law_cell (P := PySem.Challenge.pw_cellguard_k06_bounds_of_sets) (w := w) (base := base) kf n F_law_cell 
  have P_law_numbers := Wk.ok_law_numbers (P := PySem.Challenge.pw_cellguard_k06_bounds_of_sets) (w := w) (base := base) kf n F_law_numbers 
  have P_law_any_network := Wk.ok_law_any_network (P := PySem.Challenge.pw_cellguard_k06_bounds_of_sets) (w := w) (base := base) kf n F_law_any_network 
  have P_law_is_flow := Wk.ok_law_is_flow (P := PySem.Challenge.pw_cellguard_k06_bounds_of_sets) (w := w) (base := base) kf n F_law_is_flow 
  have P_law_bound := Wk.ok_law_bound (P := PySem.Challenge.pw_cellguard_k06_bounds_of_sets) (w := w) (base := base) kf n F_law_bound 
  have P_law_paper_right := Wk.ok_law_paper_right (P := PySem.Challenge.pw_cellguard_k06_bounds_of_sets) (w := w) (base := base) kf n F_law_paper_right P_law_bound
  have P_law := Wk.ok_law (P := PySem.Challenge.pw_cellguard_k06_bounds_of_sets) (w := w) (base := base) kf n F_law P_Network_init P_Network_arcs P_law_any_network P_law_bound P_law_cell P_law_is_flow P_law_numbers P_is_flow P_lower_bound P_upper_bound
  exact P_law.fn
theorem law_holds (plain : ∀ ns : List Int, ns.length ≤ 63 → (∀ z ∈ ns, Builtin.Int.intBits z ≤ 1048576) → ∃ n, Wk.m_law n [scrD ns] = .ok (.bl true) []) : PySem.Challenge.rw_cellguard_k06_bounds_of_sets.Holds := by
  w_on; o_law
  refine HandSHeadRun.head_any (r := PySem.W.OpenLaw.row PySem.Challenge.rw_cellguard_k06_bounds_of_sets) (q := PySem.W.view (PySem.W.OpenLaw.row PySem.Challenge.rw_cellguard_k06_bounds_of_sets).prog [19]) (H := Hd.hk) (ob := Hd.ob) (M := 4000) (loose := Hd.loose) (d := HandSHeadRun.topDef (PySem.W.OpenLaw.row PySem.Challenge.rw_cellguard_k06_bounds_of_sets).prog 19) (kwd := []) Hd.ob_eq
    (by kernel_rfl) (fun s => by kernel_rfl) Hd.run (by kernel_rfl) (by kernel_rfl) (by kernel_rfl) (by rfl) (by first | assumption | decide +kernel) (by decide +kernel) ⟨rfl, rfl, rfl, rfl, rfl, by decide +kernel⟩ ?hw ?hc
  case hw => w_witness2
  case hc =>
    refine DL.walk_ofX (l := PySem.Challenge.rw_cellguard_k06_bounds_of_sets) (n := 63) (k := 4) (x := "_law_script") rfl (by decide) (by kernel_rfl) ⟨rfl, by decide, by decide⟩ ?F
    intro w mg fa h Y G hmg0
    obtain ⟨K, KX, c⟩ := Y
    have hmg : mg ("law" : PySem.Str) = some (.ref fa) := by
      have e : (HandSHeadRun.topDef (PySem.W.OpenLaw.row PySem.Challenge.rw_cellguard_k06_bounds_of_sets).prog 19).name = ("law" : PySem.Str) := by kernel_rfl
      rw [← e]
      exact hmg0
    obtain ⟨fd, hb, hF⟩ := law_fn KX G hmg c
    refine ⟨K, fd, _, KX, hb, fun H a ns hl hz hS => ?_, fun base h1 h2 => DL.FnOk.exi (hF base h1 h2)⟩
    obtain ⟨n, hn⟩ := plain ns hl hz
    exact ⟨n, spG_law hS hn⟩
end Fi
set_option linter.all false
set_option maxRecDepth 100000
set_option maxHeartbeats 1000000
namespace Pl
open PySem PySem.Spec PyProof.Rows L2 DL Mn Wk
def dA (fl : Fl) (a : Arc) : D := .nd .tup fl [.int a.1, .int a.2.1, .int a.2.2.1, .int a.2.2.2]
def dAs (fl : Fl) (as : List Arc) : List D := as.map (dA fl)
theorem enters_eq (fu : Nat) (fl fl2 : Fl) (a : Arc) (ms : List Int) : m_enters fu [dA fl a, .nd .lst fl2 (dI ms)] = .ok (.bl (ent a ms)) [] := by
  simp only [m_enters, b_enters, dA, ER.bind, ER.of, PR.toE, PR.bind, ER.toP, ER.toS, PR.toS, LR.toE, LR.of, FR.toE, fName, fIx, ixOf, eConst, eMove, eLk, eSh, pF, pI, eLook, eRo, eShr, eOp2, eChain_s, eAnd_s, eOr_s, eNot, eIf, lNil, lCons, eLst, eTup, eCallV, hAbs, hMax2, hMin2, hInt, hLen, hList, hAddI, hSubI, hDivI, hModI, hShrI, hAndI, hMulI, hAdd, hAddS, hOr, hI, hIB, hCat, hIn, hNin, hIs, hIsnt, isN, hLt, hLe, hGt, hGe, eNeg, fIxV, eIxT, sNext, sSeq, sBreak, sCont, sDrop, sRet, sRetN, sIf, sSet, sAug, setA, setL, putS, sPut, getA, sPutAug, tgName, tgNil, tgCons, tgTup, sTg, sPar, setFd, getFd, sFldS, sFldAugS, putE, eMut, isOL_own, hAppend, hExtend, hPop, eIter, eEnum, eRng, sFor, eYes, eLc, startE, backs, FR.of, okRes, eCall, isIns_nd, eMeth, eFrz, eSeal, newI, okSelf, eMake, sRaise, SR.fin, sTry, eIsi, partD, eInt, hSl, eSl, getP, setP, ownP, ownF_own, ownF_ro, ownF_pm, frz, frzL, frF_own, frF_ro, frF_pm, isRo, isRoL, roF_own, roF_ro, roF_pm, pmz, pmzL, clean, cleanL, isUns_nd, isUns_i, isUns_b, isUns_t, isUns_n, isUns_u, isPm_i, isPm_b, isPm_t, isPm_n, isPm_pm, isPm_ro', isPm_own, mkTup, killS, setS, List.getElem?_cons_zero, List.getElem?_cons_succ, List.set_cons_zero, List.set_cons_succ, List.map_cons, List.map_nil, List.length_cons, List.length_nil, List.cons_append, List.nil_append, List.append_nil, List.replicate_succ, List.replicate_zero, List.all_cons, List.all_nil, Bool.and_true, Bool.true_and, Bool.and_self, Bool.false_eq_true, Option.map_some, Option.map_none, Nat.reduceAdd, Nat.reduceSub, Nat.reduceBEq, beq_self_eq_true, Nat.reduceLT, Nat.sub_self, if_true, if_false, reduceIte, decide_true, decide_false, decide_eq_true_eq, true_and, and_true, and_self, or_true, true_or, or_self, false_or, or_false, false_and, and_false, Int.reduceLT, Int.reduceNeg, Int.reduceLE, Int.reduceAdd, Int.reduceSub, Int.reduceMul, Int.reduceEq, Int.reduceNe]
  simp only [ixN_z, ixN_nat, show L2.ixN 4 1 = some 1 from rfl, show L2.ixN 4 0 = some 0 from rfl, inD_dI, ER.bind, ER.of, PR.toE, PR.bind, ER.toP, ER.toS, PR.toS, LR.toE, LR.of, FR.toE, fName, fIx, ixOf, eConst, eMove, eLk, eSh, pF, pI, eLook, eRo, eShr, eOp2, eChain_s, eAnd_s, eOr_s, eNot, eIf, lNil, lCons, eLst, eTup, eCallV, hAbs, hMax2, hMin2, hInt, hLen, hList, hAddI, hSubI, hDivI, hModI, hShrI, hAndI, hMulI, hAdd, hAddS, hOr, hI, hIB, hCat, hIn, hNin, hIs, hIsnt, isN, hLt, hLe, hGt, hGe, eNeg, fIxV, eIxT, sNext, sSeq, sBreak, sCont, sDrop, sRet, sRetN, sIf, sSet, sAug, setA, setL, putS, sPut, getA, sPutAug, tgName, tgNil, tgCons, tgTup, sTg, sPar, setFd, getFd, sFldS, sFldAugS, putE, eMut, isOL_own, hAppend, hExtend, hPop, eIter, eEnum, eRng, sFor, eYes, eLc, startE, backs, FR.of, okRes, eCall, isIns_nd, eMeth, eFrz, eSeal, newI, okSelf, eMake, sRaise, SR.fin, sTry, eIsi, partD, eInt, hSl, eSl, getP, setP, ownP, ownF_own, ownF_ro, ownF_pm, frz, frzL, frF_own, frF_ro, frF_pm, isRo, isRoL, roF_own, roF_ro, roF_pm, pmz, pmzL, clean, cleanL, isUns_nd, isUns_i, isUns_b, isUns_t, isUns_n, isUns_u, isPm_i, isPm_b, isPm_t, isPm_n, isPm_pm, isPm_ro', isPm_own, mkTup, killS, setS, List.getElem?_cons_zero, List.getElem?_cons_succ, List.set_cons_zero, List.set_cons_succ, List.map_cons, List.map_nil, List.length_cons, List.length_nil, List.cons_append, List.nil_append, List.append_nil, List.replicate_succ, List.replicate_zero, List.all_cons, List.all_nil, Bool.and_true, Bool.true_and, Bool.and_self, Bool.false_eq_true, Option.map_some, Option.map_none, Nat.reduceAdd, Nat.reduceSub, Nat.reduceBEq, beq_self_eq_true, Nat.reduceLT, Nat.sub_self, if_true, if_false, reduceIte, decide_true, decide_false, decide_eq_true_eq, true_and, and_true, and_self, or_true, true_or, or_self, false_or, or_false, false_and, and_false, Int.reduceLT, Int.reduceNeg, Int.reduceLE, Int.reduceAdd, Int.reduceSub, Int.reduceMul, Int.reduceEq, Int.reduceNe]
  unfold ent
  cases ms.contains a.1 <;> simp [inD_dI, ER.bind, ER.of, PR.toE, PR.bind, ER.toP, ER.toS, PR.toS, LR.toE, LR.of, FR.toE, fName, fIx, ixOf, eConst, eMove, eLk, eSh, pF, pI, eLook, eRo, eShr, eOp2, eChain_s, eAnd_s, eOr_s, eNot, eIf, lNil, lCons, eLst, eTup, eCallV, hAbs, hMax2, hMin2, hInt, hLen, hList, hAddI, hSubI, hDivI, hModI, hShrI, hAndI, hMulI, hAdd, hAddS, hOr, hI, hIB, hCat, hIn, hNin, hIs, hIsnt, isN, hLt, hLe, hGt, hGe, eNeg, fIxV, eIxT, sNext, sSeq, sBreak, sCont, sDrop, sRet, sRetN, sIf, sSet, sAug, setA, setL, putS, sPut, getA, sPutAug, tgName, tgNil, tgCons, tgTup, sTg, sPar, setFd, getFd, sFldS, sFldAugS, putE, eMut, isOL_own, hAppend, hExtend, hPop, eIter, eEnum, eRng, sFor, eYes, eLc, startE, backs, FR.of, okRes, eCall, isIns_nd, eMeth, eFrz, eSeal, newI, okSelf, eMake, sRaise, SR.fin, sTry, eIsi, partD, eInt, hSl, eSl, getP, setP, ownP, ownF_own, ownF_ro, ownF_pm, frz, frzL, frF_own, frF_ro, frF_pm, isRo, isRoL, roF_own, roF_ro, roF_pm, pmz, pmzL, clean, cleanL, isUns_nd, isUns_i, isUns_b, isUns_t, isUns_n, isUns_u, isPm_i, isPm_b, isPm_t, isPm_n, isPm_pm, isPm_ro', isPm_own, mkTup, killS, setS, List.getElem?_cons_zero, List.getElem?_cons_succ, List.set_cons_zero, List.set_cons_succ, List.map_cons, List.map_nil, List.length_cons, List.length_nil, List.cons_append, List.nil_append, List.append_nil, List.replicate_succ, List.replicate_zero, List.all_cons, List.all_nil, Bool.and_true, Bool.true_and, Bool.and_self, Bool.false_eq_true, Option.map_some, Option.map_none, Nat.reduceAdd, Nat.reduceSub, Nat.reduceBEq, beq_self_eq_true, Nat.reduceLT, Nat.sub_self, if_true, if_false, reduceIte, decide_true, decide_false, decide_eq_true_eq, true_and, and_true, and_self, or_true, true_or, or_self, false_or, or_false, false_and, and_false, Int.reduceLT, Int.reduceNeg, Int.reduceLE, Int.reduceAdd, Int.reduceSub, Int.reduceMul, Int.reduceEq, Int.reduceNe]
theorem leaves_eq (fu : Nat) (fl fl2 : Fl) (a : Arc) (ms : List Int) : m_leaves fu [dA fl a, .nd .lst fl2 (dI ms)] = .ok (.bl (lea a ms)) [] := by
  simp only [m_leaves, b_leaves, dA, ER.bind, ER.of, PR.toE, PR.bind, ER.toP, ER.toS, PR.toS, LR.toE, LR.of, FR.toE, fName, fIx, ixOf, eConst, eMove, eLk, eSh, pF, pI, eLook, eRo, eShr, eOp2, eChain_s, eAnd_s, eOr_s, eNot, eIf, lNil, lCons, eLst, eTup, eCallV, hAbs, hMax2, hMin2, hInt, hLen, hList, hAddI, hSubI, hDivI, hModI, hShrI, hAndI, hMulI, hAdd, hAddS, hOr, hI, hIB, hCat, hIn, hNin, hIs, hIsnt, isN, hLt, hLe, hGt, hGe, eNeg, fIxV, eIxT, sNext, sSeq, sBreak, sCont, sDrop, sRet, sRetN, sIf, sSet, sAug, setA, setL, putS, sPut, getA, sPutAug, tgName, tgNil, tgCons, tgTup, sTg, sPar, setFd, getFd, sFldS, sFldAugS, putE, eMut, isOL_own, hAppend, hExtend, hPop, eIter, eEnum, eRng, sFor, eYes, eLc, startE, backs, FR.of, okRes, eCall, isIns_nd, eMeth, eFrz, eSeal, newI, okSelf, eMake, sRaise, SR.fin, sTry, eIsi, partD, eInt, hSl, eSl, getP, setP, ownP, ownF_own, ownF_ro, ownF_pm, frz, frzL, frF_own, frF_ro, frF_pm, isRo, isRoL, roF_own, roF_ro, roF_pm, pmz, pmzL, clean, cleanL, isUns_nd, isUns_i, isUns_b, isUns_t, isUns_n, isUns_u, isPm_i, isPm_b, isPm_t, isPm_n, isPm_pm, isPm_ro', isPm_own, mkTup, killS, setS, List.getElem?_cons_zero, List.getElem?_cons_succ, List.set_cons_zero, List.set_cons_succ, List.map_cons, List.map_nil, List.length_cons, List.length_nil, List.cons_append, List.nil_append, List.append_nil, List.replicate_succ, List.replicate_zero, List.all_cons, List.all_nil, Bool.and_true, Bool.true_and, Bool.and_self, Bool.false_eq_true, Option.map_some, Option.map_none, Nat.reduceAdd, Nat.reduceSub, Nat.reduceBEq, beq_self_eq_true, Nat.reduceLT, Nat.sub_self, if_true, if_false, reduceIte, decide_true, decide_false, decide_eq_true_eq, true_and, and_true, and_self, or_true, true_or, or_self, false_or, or_false, false_and, and_false, Int.reduceLT, Int.reduceNeg, Int.reduceLE, Int.reduceAdd, Int.reduceSub, Int.reduceMul, Int.reduceEq, Int.reduceNe]
  simp only [ixN_z, ixN_nat, show L2.ixN 4 1 = some 1 from rfl, show L2.ixN 4 0 = some 0 from rfl, inD_dI, ER.bind, ER.of, PR.toE, PR.bind, ER.toP, ER.toS, PR.toS, LR.toE, LR.of, FR.toE, fName, fIx, ixOf, eConst, eMove, eLk, eSh, pF, pI, eLook, eRo, eShr, eOp2, eChain_s, eAnd_s, eOr_s, eNot, eIf, lNil, lCons, eLst, eTup, eCallV, hAbs, hMax2, hMin2, hInt, hLen, hList, hAddI, hSubI, hDivI, hModI, hShrI, hAndI, hMulI, hAdd, hAddS, hOr, hI, hIB, hCat, hIn, hNin, hIs, hIsnt, isN, hLt, hLe, hGt, hGe, eNeg, fIxV, eIxT, sNext, sSeq, sBreak, sCont, sDrop, sRet, sRetN, sIf, sSet, sAug, setA, setL, putS, sPut, getA, sPutAug, tgName, tgNil, tgCons, tgTup, sTg, sPar, setFd, getFd, sFldS, sFldAugS, putE, eMut, isOL_own, hAppend, hExtend, hPop, eIter, eEnum, eRng, sFor, eYes, eLc, startE, backs, FR.of, okRes, eCall, isIns_nd, eMeth, eFrz, eSeal, newI, okSelf, eMake, sRaise, SR.fin, sTry, eIsi, partD, eInt, hSl, eSl, getP, setP, ownP, ownF_own, ownF_ro, ownF_pm, frz, frzL, frF_own, frF_ro, frF_pm, isRo, isRoL, roF_own, roF_ro, roF_pm, pmz, pmzL, clean, cleanL, isUns_nd, isUns_i, isUns_b, isUns_t, isUns_n, isUns_u, isPm_i, isPm_b, isPm_t, isPm_n, isPm_pm, isPm_ro', isPm_own, mkTup, killS, setS, List.getElem?_cons_zero, List.getElem?_cons_succ, List.set_cons_zero, List.set_cons_succ, List.map_cons, List.map_nil, List.length_cons, List.length_nil, List.cons_append, List.nil_append, List.append_nil, List.replicate_succ, List.replicate_zero, List.all_cons, List.all_nil, Bool.and_true, Bool.true_and, Bool.and_self, Bool.false_eq_true, Option.map_some, Option.map_none, Nat.reduceAdd, Nat.reduceSub, Nat.reduceBEq, beq_self_eq_true, Nat.reduceLT, Nat.sub_self, if_true, if_false, reduceIte, decide_true, decide_false, decide_eq_true_eq, true_and, and_true, and_self, or_true, true_or, or_self, false_or, or_false, false_and, and_false, Int.reduceLT, Int.reduceNeg, Int.reduceLE, Int.reduceAdd, Int.reduceSub, Int.reduceMul, Int.reduceEq, Int.reduceNe]
  unfold lea
  cases ms.contains a.1 <;> simp [inD_dI, ER.bind, ER.of, PR.toE, PR.bind, ER.toP, ER.toS, PR.toS, LR.toE, LR.of, FR.toE, fName, fIx, ixOf, eConst, eMove, eLk, eSh, pF, pI, eLook, eRo, eShr, eOp2, eChain_s, eAnd_s, eOr_s, eNot, eIf, lNil, lCons, eLst, eTup, eCallV, hAbs, hMax2, hMin2, hInt, hLen, hList, hAddI, hSubI, hDivI, hModI, hShrI, hAndI, hMulI, hAdd, hAddS, hOr, hI, hIB, hCat, hIn, hNin, hIs, hIsnt, isN, hLt, hLe, hGt, hGe, eNeg, fIxV, eIxT, sNext, sSeq, sBreak, sCont, sDrop, sRet, sRetN, sIf, sSet, sAug, setA, setL, putS, sPut, getA, sPutAug, tgName, tgNil, tgCons, tgTup, sTg, sPar, setFd, getFd, sFldS, sFldAugS, putE, eMut, isOL_own, hAppend, hExtend, hPop, eIter, eEnum, eRng, sFor, eYes, eLc, startE, backs, FR.of, okRes, eCall, isIns_nd, eMeth, eFrz, eSeal, newI, okSelf, eMake, sRaise, SR.fin, sTry, eIsi, partD, eInt, hSl, eSl, getP, setP, ownP, ownF_own, ownF_ro, ownF_pm, frz, frzL, frF_own, frF_ro, frF_pm, isRo, isRoL, roF_own, roF_ro, roF_pm, pmz, pmzL, clean, cleanL, isUns_nd, isUns_i, isUns_b, isUns_t, isUns_n, isUns_u, isPm_i, isPm_b, isPm_t, isPm_n, isPm_pm, isPm_ro', isPm_own, mkTup, killS, setS, List.getElem?_cons_zero, List.getElem?_cons_succ, List.set_cons_zero, List.set_cons_succ, List.map_cons, List.map_nil, List.length_cons, List.length_nil, List.cons_append, List.nil_append, List.append_nil, List.replicate_succ, List.replicate_zero, List.all_cons, List.all_nil, Bool.and_true, Bool.true_and, Bool.and_self, Bool.false_eq_true, Option.map_some, Option.map_none, Nat.reduceAdd, Nat.reduceSub, Nat.reduceBEq, beq_self_eq_true, Nat.reduceLT, Nat.sub_self, if_true, if_false, reduceIte, decide_true, decide_false, decide_eq_true_eq, true_and, and_true, and_self, or_true, true_or, or_self, false_or, or_false, false_and, and_false, Int.reduceLT, Int.reduceNeg, Int.reduceLE, Int.reduceAdd, Int.reduceSub, Int.reduceMul, Int.reduceEq, Int.reduceNe]
def dN (nodes : Int) (as : List Arc) : D := .nd (.ins 0) .pm [.int nodes, .nd .lst .pm (dAs .pm as)]
theorem frz_pm (k : Kd) (xs : List D) (h : isRoL xs = true) : frz (.nd k .pm xs) = .nd k .pm xs := isRo_frz _ (by simp [isRo, roF, h])
theorem isRoL_dAs (fl : Fl) (h : roF fl = true) : ∀ as : List Arc, isRoL (dAs fl as) = true
  | [] => rfl
  | a :: r => by
    show isRoL (dA fl a :: dAs fl r) = true
    rw [isRoL, isRoL_dAs fl h r]
    simp [dA, isRo, isRoL, h]
theorem isRo_dN (n : Int) (as : List Arc) : isRo (dN n as) = true := by
  simp [dN, isRo, isRoL, roF, isRoL_dAs .pm rfl as]
theorem arcs_dN (n : Int) (as : List Arc) (p : List Nat) (env : DL.Env) : fFld 0 1 p (dN n as) env = .ok (p ++ [1]) (.nd .lst .pm (dAs .pm as)) env := rfl
theorem arcs_eq (fu : Nat) (n : Int) (as : List Arc) : m_Network_arcs fu [dN n as] = .ok (.nd .lst .own (dAs .pm as)) [] := by
  simp only [m_Network_arcs, b_Network_arcs, arcs_dN, isRoL_dAs .pm rfl, ER.bind, ER.of, PR.toE, PR.bind, ER.toP, ER.toS, PR.toS, LR.toE, LR.of, FR.toE, fName, fIx, ixOf, eConst, eMove, eLk, eSh, pF, pI, eLook, eRo, eShr, eOp2, eChain_s, eAnd_s, eOr_s, eNot, eIf, lNil, lCons, eLst, eTup, eCallV, hAbs, hMax2, hMin2, hInt, hLen, hList, hAddI, hSubI, hDivI, hModI, hShrI, hAndI, hMulI, hAdd, hAddS, hOr, hI, hIB, hCat, hIn, hNin, hIs, hIsnt, isN, hLt, hLe, hGt, hGe, eNeg, fIxV, eIxT, sNext, sSeq, sBreak, sCont, sDrop, sRet, sRetN, sIf, sSet, sAug, setA, setL, putS, sPut, getA, sPutAug, tgName, tgNil, tgCons, tgTup, sTg, sPar, setFd, getFd, sFldS, sFldAugS, putE, eMut, isOL_own, hAppend, hExtend, hPop, eIter, eEnum, eRng, sFor, eYes, eLc, startE, backs, FR.of, okRes, eCall, isIns_nd, eMeth, eFrz, eSeal, newI, okSelf, eMake, sRaise, SR.fin, sTry, eIsi, partD, eInt, hSl, eSl, getP, setP, ownP, ownF_own, ownF_ro, ownF_pm, frz, frzL, frF_own, frF_ro, frF_pm, isRo, isRoL, roF_own, roF_ro, roF_pm, pmz, pmzL, clean, cleanL, isUns_nd, isUns_i, isUns_b, isUns_t, isUns_n, isUns_u, isPm_i, isPm_b, isPm_t, isPm_n, isPm_pm, isPm_ro', isPm_own, mkTup, killS, setS, List.getElem?_cons_zero, List.getElem?_cons_succ, List.set_cons_zero, List.set_cons_succ, List.map_cons, List.map_nil, List.length_cons, List.length_nil, List.cons_append, List.nil_append, List.append_nil, List.replicate_succ, List.replicate_zero, List.all_cons, List.all_nil, Bool.and_true, Bool.true_and, Bool.and_self, Bool.false_eq_true, Option.map_some, Option.map_none, Nat.reduceAdd, Nat.reduceSub, Nat.reduceBEq, beq_self_eq_true, Nat.reduceLT, Nat.sub_self, if_true, if_false, reduceIte, decide_true, decide_false, decide_eq_true_eq, true_and, and_true, and_self, or_true, true_or, or_self, false_or, or_false, false_and, and_false, Int.reduceLT, Int.reduceNeg, Int.reduceLE, Int.reduceAdd, Int.reduceSub, Int.reduceMul, Int.reduceEq, Int.reduceNe]
theorem frz_dN (n : Int) (as : List Arc) : frz (dN n as) = dN n as := isRo_frz _ (isRo_dN n as)
theorem frzL_dAs : ∀ as : List Arc, frzL (dAs .pm as) = dAs .pm as
  | [] => rfl
  | a :: r => by
    show frzL (dA .pm a :: dAs .pm r) = _
    rw [frzL, frzL_dAs r]
    rfl
theorem dA_uns (fl : Fl) (a : Arc) : isUns (dA fl a) = false := rfl
theorem dAs_get (fl : Fl) (as : List Arc) (i : Nat) : (dAs fl as)[i]? = (as[i]?).map (dA fl) := by simp [dAs]
theorem dAs_len (fl : Fl) (as : List Arc) : (dAs fl as).length = as.length := by simp [dAs]
/-- the enumerated arcs -/
theorem enum_dAs : ∀ (as : List Arc) (k : Nat), enumD k (dAs .pm as) = (as.zipIdx k).map fun p => .nd .tup .pm [.int (p.2 : Nat), dA .pm p.1]
  | [], k => rfl
  | a :: r, k => by
    show pairD (.int k) (dA .pm a) :: enumD (k + 1) (dAs .pm r) = _
    rw [enum_dAs r (k + 1), List.zipIdx_cons, List.map_cons]
    rfl
theorem nodes_dN (n : Int) (as : List Arc) (p : List Nat) (env : DL.Env) : fFld 0 0 p (dN n as) env = .ok (p ++ [0]) (.int n) env := rfl
theorem isIns_dN (n : Int) (as : List Arc) : isIns 0 (dN n as) = true := rfl
theorem frz_dA (a : Arc) : frz (dA .pm a) = dA .pm a := rfl
theorem isRo_dA (a : Arc) : isRo (dA .pm a) = true := rfl
theorem dAs_i {as : List Arc} {i : Int} {a : Arc} (h0 : 0 ≤ i) (h : as[i.toNat]? = some a) : L2.ixN as.length i = some i.toNat ∧ (dAs .pm as)[i.toNat]? = some (dA .pm a) := by
  have hl : i.toNat < as.length := (List.getElem?_eq_some_iff.mp h).1
  exact ⟨ixN_of h0 (by omega), by rw [dAs_get, h]; rfl⟩
/-- what one arc adds to the bound -/
theorem ub_turn (fu : Nat) (arc : Int) (ms : List Int) (b : Int) (p : Arc × Nat) (n : D) :
    turn (tgTup (tgCons (tgName 5) (tgCons (tgName 6) tgNil))) (l_upper_bound_1 fu) [5, 6] (.nd .tup .pm [.int (p.2 : Nat), dA .pm p.1]) [some n, some (.int arc), some (.nd .lst .ro (dI ms)), none, some (.int b), none, none] =
      .nx [some n, some (.int arc), some (.nd .lst .ro (dI ms)), none, some (.int (ubStep arc ms b p)), none, none] := by
  unfold ubStep
  cases h1 : lea p.1 ms with
  | true =>
    simp only [turn, l_upper_bound_1, frz_dA, isRo_dA, frzL_dI, isRoL_dI, leaves_eq, h1, ER.bind, ER.of, PR.toE, PR.bind, ER.toP, ER.toS, PR.toS, LR.toE, LR.of, FR.toE, fName, fIx, ixOf, eConst, eMove, eLk, eSh, pF, pI, eLook, eRo, eShr, eOp2, eChain_s, eAnd_s, eOr_s, eNot, eIf, lNil, lCons, eLst, eTup, eCallV, hAbs, hMax2, hMin2, hInt, hLen, hList, hAddI, hSubI, hDivI, hModI, hShrI, hAndI, hMulI, hAdd, hAddS, hOr, hI, hIB, hCat, hIn, hNin, hIs, hIsnt, isN, hLt, hLe, hGt, hGe, eNeg, fIxV, eIxT, sNext, sSeq, sBreak, sCont, sDrop, sRet, sRetN, sIf, sSet, sAug, setA, setL, putS, sPut, getA, sPutAug, tgName, tgNil, tgCons, tgTup, sTg, sPar, setFd, getFd, sFldS, sFldAugS, putE, eMut, isOL_own, hAppend, hExtend, hPop, eIter, eEnum, eRng, sFor, eYes, eLc, startE, backs, FR.of, okRes, eCall, isIns_nd, eMeth, eFrz, eSeal, newI, okSelf, eMake, sRaise, SR.fin, sTry, eIsi, partD, eInt, hSl, eSl, getP, setP, ownP, ownF_own, ownF_ro, ownF_pm, frz, frzL, frF_own, frF_ro, frF_pm, isRo, isRoL, roF_own, roF_ro, roF_pm, pmz, pmzL, clean, cleanL, isUns_nd, isUns_i, isUns_b, isUns_t, isUns_n, isUns_u, isPm_i, isPm_b, isPm_t, isPm_n, isPm_pm, isPm_ro', isPm_own, mkTup, killS, setS, List.getElem?_cons_zero, List.getElem?_cons_succ, List.set_cons_zero, List.set_cons_succ, List.map_cons, List.map_nil, List.length_cons, List.length_nil, List.cons_append, List.nil_append, List.append_nil, List.replicate_succ, List.replicate_zero, List.all_cons, List.all_nil, Bool.and_true, Bool.true_and, Bool.and_self, Bool.false_eq_true, Option.map_some, Option.map_none, Nat.reduceAdd, Nat.reduceSub, Nat.reduceBEq, beq_self_eq_true, Nat.reduceLT, Nat.sub_self, if_true, if_false, reduceIte, decide_true, decide_false, decide_eq_true_eq, true_and, and_true, and_self, or_true, true_or, or_self, false_or, or_false, false_and, and_false, Int.reduceLT, Int.reduceNeg, Int.reduceLE, Int.reduceAdd, Int.reduceSub, Int.reduceMul, Int.reduceEq, Int.reduceNe]
    simp only [dA, show L2.ixN 4 3 = some 3 from rfl, ER.bind, ER.of, PR.toE, PR.bind, ER.toP, ER.toS, PR.toS, LR.toE, LR.of, FR.toE, fName, fIx, ixOf, eConst, eMove, eLk, eSh, pF, pI, eLook, eRo, eShr, eOp2, eChain_s, eAnd_s, eOr_s, eNot, eIf, lNil, lCons, eLst, eTup, eCallV, hAbs, hMax2, hMin2, hInt, hLen, hList, hAddI, hSubI, hDivI, hModI, hShrI, hAndI, hMulI, hAdd, hAddS, hOr, hI, hIB, hCat, hIn, hNin, hIs, hIsnt, isN, hLt, hLe, hGt, hGe, eNeg, fIxV, eIxT, sNext, sSeq, sBreak, sCont, sDrop, sRet, sRetN, sIf, sSet, sAug, setA, setL, putS, sPut, getA, sPutAug, tgName, tgNil, tgCons, tgTup, sTg, sPar, setFd, getFd, sFldS, sFldAugS, putE, eMut, isOL_own, hAppend, hExtend, hPop, eIter, eEnum, eRng, sFor, eYes, eLc, startE, backs, FR.of, okRes, eCall, isIns_nd, eMeth, eFrz, eSeal, newI, okSelf, eMake, sRaise, SR.fin, sTry, eIsi, partD, eInt, hSl, eSl, getP, setP, ownP, ownF_own, ownF_ro, ownF_pm, frz, frzL, frF_own, frF_ro, frF_pm, isRo, isRoL, roF_own, roF_ro, roF_pm, pmz, pmzL, clean, cleanL, isUns_nd, isUns_i, isUns_b, isUns_t, isUns_n, isUns_u, isPm_i, isPm_b, isPm_t, isPm_n, isPm_pm, isPm_ro', isPm_own, mkTup, killS, setS, List.getElem?_cons_zero, List.getElem?_cons_succ, List.set_cons_zero, List.set_cons_succ, List.map_cons, List.map_nil, List.length_cons, List.length_nil, List.cons_append, List.nil_append, List.append_nil, List.replicate_succ, List.replicate_zero, List.all_cons, List.all_nil, Bool.and_true, Bool.true_and, Bool.and_self, Bool.false_eq_true, Option.map_some, Option.map_none, Nat.reduceAdd, Nat.reduceSub, Nat.reduceBEq, beq_self_eq_true, Nat.reduceLT, Nat.sub_self, if_true, if_false, reduceIte, decide_true, decide_false, decide_eq_true_eq, true_and, and_true, and_self, or_true, true_or, or_self, false_or, or_false, false_and, and_false, Int.reduceLT, Int.reduceNeg, Int.reduceLE, Int.reduceAdd, Int.reduceSub, Int.reduceMul, Int.reduceEq, Int.reduceNe]
  | false =>
    simp only [turn, l_upper_bound_1, frz_dA, isRo_dA, frzL_dI, isRoL_dI, leaves_eq, h1, hNe_i, ER.bind, ER.of, PR.toE, PR.bind, ER.toP, ER.toS, PR.toS, LR.toE, LR.of, FR.toE, fName, fIx, ixOf, eConst, eMove, eLk, eSh, pF, pI, eLook, eRo, eShr, eOp2, eChain_s, eAnd_s, eOr_s, eNot, eIf, lNil, lCons, eLst, eTup, eCallV, hAbs, hMax2, hMin2, hInt, hLen, hList, hAddI, hSubI, hDivI, hModI, hShrI, hAndI, hMulI, hAdd, hAddS, hOr, hI, hIB, hCat, hIn, hNin, hIs, hIsnt, isN, hLt, hLe, hGt, hGe, eNeg, fIxV, eIxT, sNext, sSeq, sBreak, sCont, sDrop, sRet, sRetN, sIf, sSet, sAug, setA, setL, putS, sPut, getA, sPutAug, tgName, tgNil, tgCons, tgTup, sTg, sPar, setFd, getFd, sFldS, sFldAugS, putE, eMut, isOL_own, hAppend, hExtend, hPop, eIter, eEnum, eRng, sFor, eYes, eLc, startE, backs, FR.of, okRes, eCall, isIns_nd, eMeth, eFrz, eSeal, newI, okSelf, eMake, sRaise, SR.fin, sTry, eIsi, partD, eInt, hSl, eSl, getP, setP, ownP, ownF_own, ownF_ro, ownF_pm, frz, frzL, frF_own, frF_ro, frF_pm, isRo, isRoL, roF_own, roF_ro, roF_pm, pmz, pmzL, clean, cleanL, isUns_nd, isUns_i, isUns_b, isUns_t, isUns_n, isUns_u, isPm_i, isPm_b, isPm_t, isPm_n, isPm_pm, isPm_ro', isPm_own, mkTup, killS, setS, List.getElem?_cons_zero, List.getElem?_cons_succ, List.set_cons_zero, List.set_cons_succ, List.map_cons, List.map_nil, List.length_cons, List.length_nil, List.cons_append, List.nil_append, List.append_nil, List.replicate_succ, List.replicate_zero, List.all_cons, List.all_nil, Bool.and_true, Bool.true_and, Bool.and_self, Bool.false_eq_true, Option.map_some, Option.map_none, Nat.reduceAdd, Nat.reduceSub, Nat.reduceBEq, beq_self_eq_true, Nat.reduceLT, Nat.sub_self, if_true, if_false, reduceIte, decide_true, decide_false, decide_eq_true_eq, true_and, and_true, and_self, or_true, true_or, or_self, false_or, or_false, false_and, and_false, Int.reduceLT, Int.reduceNeg, Int.reduceLE, Int.reduceAdd, Int.reduceSub, Int.reduceMul, Int.reduceEq, Int.reduceNe]
    by_cases h2 : (p.2 : Int) = arc
    · simp only [h2, ne_eq, not_true_eq_false, ER.bind, ER.of, PR.toE, PR.bind, ER.toP, ER.toS, PR.toS, LR.toE, LR.of, FR.toE, fName, fIx, ixOf, eConst, eMove, eLk, eSh, pF, pI, eLook, eRo, eShr, eOp2, eChain_s, eAnd_s, eOr_s, eNot, eIf, lNil, lCons, eLst, eTup, eCallV, hAbs, hMax2, hMin2, hInt, hLen, hList, hAddI, hSubI, hDivI, hModI, hShrI, hAndI, hMulI, hAdd, hAddS, hOr, hI, hIB, hCat, hIn, hNin, hIs, hIsnt, isN, hLt, hLe, hGt, hGe, eNeg, fIxV, eIxT, sNext, sSeq, sBreak, sCont, sDrop, sRet, sRetN, sIf, sSet, sAug, setA, setL, putS, sPut, getA, sPutAug, tgName, tgNil, tgCons, tgTup, sTg, sPar, setFd, getFd, sFldS, sFldAugS, putE, eMut, isOL_own, hAppend, hExtend, hPop, eIter, eEnum, eRng, sFor, eYes, eLc, startE, backs, FR.of, okRes, eCall, isIns_nd, eMeth, eFrz, eSeal, newI, okSelf, eMake, sRaise, SR.fin, sTry, eIsi, partD, eInt, hSl, eSl, getP, setP, ownP, ownF_own, ownF_ro, ownF_pm, frz, frzL, frF_own, frF_ro, frF_pm, isRo, isRoL, roF_own, roF_ro, roF_pm, pmz, pmzL, clean, cleanL, isUns_nd, isUns_i, isUns_b, isUns_t, isUns_n, isUns_u, isPm_i, isPm_b, isPm_t, isPm_n, isPm_pm, isPm_ro', isPm_own, mkTup, killS, setS, List.getElem?_cons_zero, List.getElem?_cons_succ, List.set_cons_zero, List.set_cons_succ, List.map_cons, List.map_nil, List.length_cons, List.length_nil, List.cons_append, List.nil_append, List.append_nil, List.replicate_succ, List.replicate_zero, List.all_cons, List.all_nil, Bool.and_true, Bool.true_and, Bool.and_self, Bool.false_eq_true, Option.map_some, Option.map_none, Nat.reduceAdd, Nat.reduceSub, Nat.reduceBEq, beq_self_eq_true, Nat.reduceLT, Nat.sub_self, if_true, if_false, reduceIte, decide_true, decide_false, decide_eq_true_eq, true_and, and_true, and_self, or_true, true_or, or_self, false_or, or_false, false_and, and_false, Int.reduceLT, Int.reduceNeg, Int.reduceLE, Int.reduceAdd, Int.reduceSub, Int.reduceMul, Int.reduceEq, Int.reduceNe]
    · cases h3 : ent p.1 ms with
      | true =>
        simp only [h2, h3, ne_eq, not_false_eq_true, frz_dA, isRo_dA, frzL_dI, isRoL_dI, enters_eq, ER.bind, ER.of, PR.toE, PR.bind, ER.toP, ER.toS, PR.toS, LR.toE, LR.of, FR.toE, fName, fIx, ixOf, eConst, eMove, eLk, eSh, pF, pI, eLook, eRo, eShr, eOp2, eChain_s, eAnd_s, eOr_s, eNot, eIf, lNil, lCons, eLst, eTup, eCallV, hAbs, hMax2, hMin2, hInt, hLen, hList, hAddI, hSubI, hDivI, hModI, hShrI, hAndI, hMulI, hAdd, hAddS, hOr, hI, hIB, hCat, hIn, hNin, hIs, hIsnt, isN, hLt, hLe, hGt, hGe, eNeg, fIxV, eIxT, sNext, sSeq, sBreak, sCont, sDrop, sRet, sRetN, sIf, sSet, sAug, setA, setL, putS, sPut, getA, sPutAug, tgName, tgNil, tgCons, tgTup, sTg, sPar, setFd, getFd, sFldS, sFldAugS, putE, eMut, isOL_own, hAppend, hExtend, hPop, eIter, eEnum, eRng, sFor, eYes, eLc, startE, backs, FR.of, okRes, eCall, isIns_nd, eMeth, eFrz, eSeal, newI, okSelf, eMake, sRaise, SR.fin, sTry, eIsi, partD, eInt, hSl, eSl, getP, setP, ownP, ownF_own, ownF_ro, ownF_pm, frz, frzL, frF_own, frF_ro, frF_pm, isRo, isRoL, roF_own, roF_ro, roF_pm, pmz, pmzL, clean, cleanL, isUns_nd, isUns_i, isUns_b, isUns_t, isUns_n, isUns_u, isPm_i, isPm_b, isPm_t, isPm_n, isPm_pm, isPm_ro', isPm_own, mkTup, killS, setS, List.getElem?_cons_zero, List.getElem?_cons_succ, List.set_cons_zero, List.set_cons_succ, List.map_cons, List.map_nil, List.length_cons, List.length_nil, List.cons_append, List.nil_append, List.append_nil, List.replicate_succ, List.replicate_zero, List.all_cons, List.all_nil, Bool.and_true, Bool.true_and, Bool.and_self, Bool.false_eq_true, Option.map_some, Option.map_none, Nat.reduceAdd, Nat.reduceSub, Nat.reduceBEq, beq_self_eq_true, Nat.reduceLT, Nat.sub_self, if_true, if_false, reduceIte, decide_true, decide_false, decide_eq_true_eq, true_and, and_true, and_self, or_true, true_or, or_self, false_or, or_false, false_and, and_false, Int.reduceLT, Int.reduceNeg, Int.reduceLE, Int.reduceAdd, Int.reduceSub, Int.reduceMul, Int.reduceEq, Int.reduceNe]
        simp only [dA, show L2.ixN 4 2 = some 2 from rfl, ER.bind, ER.of, PR.toE, PR.bind, ER.toP, ER.toS, PR.toS, LR.toE, LR.of, FR.toE, fName, fIx, ixOf, eConst, eMove, eLk, eSh, pF, pI, eLook, eRo, eShr, eOp2, eChain_s, eAnd_s, eOr_s, eNot, eIf, lNil, lCons, eLst, eTup, eCallV, hAbs, hMax2, hMin2, hInt, hLen, hList, hAddI, hSubI, hDivI, hModI, hShrI, hAndI, hMulI, hAdd, hAddS, hOr, hI, hIB, hCat, hIn, hNin, hIs, hIsnt, isN, hLt, hLe, hGt, hGe, eNeg, fIxV, eIxT, sNext, sSeq, sBreak, sCont, sDrop, sRet, sRetN, sIf, sSet, sAug, setA, setL, putS, sPut, getA, sPutAug, tgName, tgNil, tgCons, tgTup, sTg, sPar, setFd, getFd, sFldS, sFldAugS, putE, eMut, isOL_own, hAppend, hExtend, hPop, eIter, eEnum, eRng, sFor, eYes, eLc, startE, backs, FR.of, okRes, eCall, isIns_nd, eMeth, eFrz, eSeal, newI, okSelf, eMake, sRaise, SR.fin, sTry, eIsi, partD, eInt, hSl, eSl, getP, setP, ownP, ownF_own, ownF_ro, ownF_pm, frz, frzL, frF_own, frF_ro, frF_pm, isRo, isRoL, roF_own, roF_ro, roF_pm, pmz, pmzL, clean, cleanL, isUns_nd, isUns_i, isUns_b, isUns_t, isUns_n, isUns_u, isPm_i, isPm_b, isPm_t, isPm_n, isPm_pm, isPm_ro', isPm_own, mkTup, killS, setS, List.getElem?_cons_zero, List.getElem?_cons_succ, List.set_cons_zero, List.set_cons_succ, List.map_cons, List.map_nil, List.length_cons, List.length_nil, List.cons_append, List.nil_append, List.append_nil, List.replicate_succ, List.replicate_zero, List.all_cons, List.all_nil, Bool.and_true, Bool.true_and, Bool.and_self, Bool.false_eq_true, Option.map_some, Option.map_none, Nat.reduceAdd, Nat.reduceSub, Nat.reduceBEq, beq_self_eq_true, Nat.reduceLT, Nat.sub_self, if_true, if_false, reduceIte, decide_true, decide_false, decide_eq_true_eq, true_and, and_true, and_self, or_true, true_or, or_self, false_or, or_false, false_and, and_false, Int.reduceLT, Int.reduceNeg, Int.reduceLE, Int.reduceAdd, Int.reduceSub, Int.reduceMul, Int.reduceEq, Int.reduceNe]
      | false =>
        simp only [h2, h3, ne_eq, not_false_eq_true, frz_dA, isRo_dA, frzL_dI, isRoL_dI, enters_eq, ER.bind, ER.of, PR.toE, PR.bind, ER.toP, ER.toS, PR.toS, LR.toE, LR.of, FR.toE, fName, fIx, ixOf, eConst, eMove, eLk, eSh, pF, pI, eLook, eRo, eShr, eOp2, eChain_s, eAnd_s, eOr_s, eNot, eIf, lNil, lCons, eLst, eTup, eCallV, hAbs, hMax2, hMin2, hInt, hLen, hList, hAddI, hSubI, hDivI, hModI, hShrI, hAndI, hMulI, hAdd, hAddS, hOr, hI, hIB, hCat, hIn, hNin, hIs, hIsnt, isN, hLt, hLe, hGt, hGe, eNeg, fIxV, eIxT, sNext, sSeq, sBreak, sCont, sDrop, sRet, sRetN, sIf, sSet, sAug, setA, setL, putS, sPut, getA, sPutAug, tgName, tgNil, tgCons, tgTup, sTg, sPar, setFd, getFd, sFldS, sFldAugS, putE, eMut, isOL_own, hAppend, hExtend, hPop, eIter, eEnum, eRng, sFor, eYes, eLc, startE, backs, FR.of, okRes, eCall, isIns_nd, eMeth, eFrz, eSeal, newI, okSelf, eMake, sRaise, SR.fin, sTry, eIsi, partD, eInt, hSl, eSl, getP, setP, ownP, ownF_own, ownF_ro, ownF_pm, frz, frzL, frF_own, frF_ro, frF_pm, isRo, isRoL, roF_own, roF_ro, roF_pm, pmz, pmzL, clean, cleanL, isUns_nd, isUns_i, isUns_b, isUns_t, isUns_n, isUns_u, isPm_i, isPm_b, isPm_t, isPm_n, isPm_pm, isPm_ro', isPm_own, mkTup, killS, setS, List.getElem?_cons_zero, List.getElem?_cons_succ, List.set_cons_zero, List.set_cons_succ, List.map_cons, List.map_nil, List.length_cons, List.length_nil, List.cons_append, List.nil_append, List.append_nil, List.replicate_succ, List.replicate_zero, List.all_cons, List.all_nil, Bool.and_true, Bool.true_and, Bool.and_self, Bool.false_eq_true, Option.map_some, Option.map_none, Nat.reduceAdd, Nat.reduceSub, Nat.reduceBEq, beq_self_eq_true, Nat.reduceLT, Nat.sub_self, if_true, if_false, reduceIte, decide_true, decide_false, decide_eq_true_eq, true_and, and_true, and_self, or_true, true_or, or_self, false_or, or_false, false_and, and_false, Int.reduceLT, Int.reduceNeg, Int.reduceLE, Int.reduceAdd, Int.reduceSub, Int.reduceMul, Int.reduceEq, Int.reduceNe]
theorem upper_eq (fu : Nat) (n : Int) (as : List Arc) (arc : Int) (ms : List Int) (a0 : Arc) (h0 : 0 ≤ arc) (h : as[arc.toNat]? = some a0) : m_upper_bound fu [dN n as, .int arc, .nd .lst .ro (dI ms)] =
    if ent a0 ms = true then .ok (.int ((as.zipIdx 0).foldl (ubStep arc ms) 0)) [] else .ex 1 none [] := by
  obtain ⟨i1, i2⟩ := dAs_i h0 h
  cases he : ent a0 ms with
  | false =>
    simp only [m_upper_bound, b_upper_bound, arcs_eq, frz_dN, isRo_dN, isIns_dN, frzL_dI, isRoL_dI, dAs_len, i1, i2, dA_uns, frz_dA, isRo_dA, enters_eq, he, Bool.not_false, Bool.not_true, ER.bind, ER.of, PR.toE, PR.bind, ER.toP, ER.toS, PR.toS, LR.toE, LR.of, FR.toE, fName, fIx, ixOf, eConst, eMove, eLk, eSh, pF, pI, eLook, eRo, eShr, eOp2, eChain_s, eAnd_s, eOr_s, eNot, eIf, lNil, lCons, eLst, eTup, eCallV, hAbs, hMax2, hMin2, hInt, hLen, hList, hAddI, hSubI, hDivI, hModI, hShrI, hAndI, hMulI, hAdd, hAddS, hOr, hI, hIB, hCat, hIn, hNin, hIs, hIsnt, isN, hLt, hLe, hGt, hGe, eNeg, fIxV, eIxT, sNext, sSeq, sBreak, sCont, sDrop, sRet, sRetN, sIf, sSet, sAug, setA, setL, putS, sPut, getA, sPutAug, tgName, tgNil, tgCons, tgTup, sTg, sPar, setFd, getFd, sFldS, sFldAugS, putE, eMut, isOL_own, hAppend, hExtend, hPop, eIter, eEnum, eRng, sFor, eYes, eLc, startE, backs, FR.of, okRes, eCall, isIns_nd, eMeth, eFrz, eSeal, newI, okSelf, eMake, sRaise, SR.fin, sTry, eIsi, partD, eInt, hSl, eSl, getP, setP, ownP, ownF_own, ownF_ro, ownF_pm, frz, frzL, frF_own, frF_ro, frF_pm, isRo, isRoL, roF_own, roF_ro, roF_pm, pmz, pmzL, clean, cleanL, isUns_nd, isUns_i, isUns_b, isUns_t, isUns_n, isUns_u, isPm_i, isPm_b, isPm_t, isPm_n, isPm_pm, isPm_ro', isPm_own, mkTup, killS, setS, List.getElem?_cons_zero, List.getElem?_cons_succ, List.set_cons_zero, List.set_cons_succ, List.map_cons, List.map_nil, List.length_cons, List.length_nil, List.cons_append, List.nil_append, List.append_nil, List.replicate_succ, List.replicate_zero, List.all_cons, List.all_nil, Bool.and_true, Bool.true_and, Bool.and_self, Bool.false_eq_true, Option.map_some, Option.map_none, Nat.reduceAdd, Nat.reduceSub, Nat.reduceBEq, beq_self_eq_true, Nat.reduceLT, Nat.sub_self, if_true, if_false, reduceIte, decide_true, decide_false, decide_eq_true_eq, true_and, and_true, and_self, or_true, true_or, or_self, false_or, or_false, false_and, and_false, Int.reduceLT, Int.reduceNeg, Int.reduceLE, Int.reduceAdd, Int.reduceSub, Int.reduceMul, Int.reduceEq, Int.reduceNe]
  | true =>
    have lp := (forL_fold (tg := tgTup (tgCons (tgName 5) (tgCons (tgName 6) tgNil))) (body := l_upper_bound_1 fu) (kl := [5, 6]) (fun p : Arc × Nat => .nd .tup .pm [.int (p.2 : Nat), dA .pm p.1])
      (fun b : Int => [some (dN n as), some (.int arc), some (.nd .lst .ro (dI ms)), none, some (.int b), none, none]) (ubStep arc ms) (fun _ => True) (as.zipIdx 0) 0 trivial fun b _ p _ => ⟨ub_turn fu arc ms b p (dN n as), trivial⟩).1
    simp only [m_upper_bound, b_upper_bound, arcs_eq, frz_dN, isRo_dN, isIns_dN, frzL_dI, isRoL_dI, dAs_len, i1, i2, dA_uns, frz_dA, isRo_dA, enters_eq, he, Bool.not_false, Bool.not_true, frzL_dAs, itemsL, enum_dAs, lp, ER.bind, ER.of, PR.toE, PR.bind, ER.toP, ER.toS, PR.toS, LR.toE, LR.of, FR.toE, fName, fIx, ixOf, eConst, eMove, eLk, eSh, pF, pI, eLook, eRo, eShr, eOp2, eChain_s, eAnd_s, eOr_s, eNot, eIf, lNil, lCons, eLst, eTup, eCallV, hAbs, hMax2, hMin2, hInt, hLen, hList, hAddI, hSubI, hDivI, hModI, hShrI, hAndI, hMulI, hAdd, hAddS, hOr, hI, hIB, hCat, hIn, hNin, hIs, hIsnt, isN, hLt, hLe, hGt, hGe, eNeg, fIxV, eIxT, sNext, sSeq, sBreak, sCont, sDrop, sRet, sRetN, sIf, sSet, sAug, setA, setL, putS, sPut, getA, sPutAug, tgName, tgNil, tgCons, tgTup, sTg, sPar, setFd, getFd, sFldS, sFldAugS, putE, eMut, isOL_own, hAppend, hExtend, hPop, eIter, eEnum, eRng, sFor, eYes, eLc, startE, backs, FR.of, okRes, eCall, isIns_nd, eMeth, eFrz, eSeal, newI, okSelf, eMake, sRaise, SR.fin, sTry, eIsi, partD, eInt, hSl, eSl, getP, setP, ownP, ownF_own, ownF_ro, ownF_pm, frz, frzL, frF_own, frF_ro, frF_pm, isRo, isRoL, roF_own, roF_ro, roF_pm, pmz, pmzL, clean, cleanL, isUns_nd, isUns_i, isUns_b, isUns_t, isUns_n, isUns_u, isPm_i, isPm_b, isPm_t, isPm_n, isPm_pm, isPm_ro', isPm_own, mkTup, killS, setS, List.getElem?_cons_zero, List.getElem?_cons_succ, List.set_cons_zero, List.set_cons_succ, List.map_cons, List.map_nil, List.length_cons, List.length_nil, List.cons_append, List.nil_append, List.append_nil, List.replicate_succ, List.replicate_zero, List.all_cons, List.all_nil, Bool.and_true, Bool.true_and, Bool.and_self, Bool.false_eq_true, Option.map_some, Option.map_none, Nat.reduceAdd, Nat.reduceSub, Nat.reduceBEq, beq_self_eq_true, Nat.reduceLT, Nat.sub_self, if_true, if_false, reduceIte, decide_true, decide_false, decide_eq_true_eq, true_and, and_true, and_self, or_true, true_or, or_self, false_or, or_false, false_and, and_false, Int.reduceLT, Int.reduceNeg, Int.reduceLE, Int.reduceAdd, Int.reduceSub, Int.reduceMul, Int.reduceEq, Int.reduceNe]

/-! ### lists of ints that are written -/
theorem dI_i {f : List Int} {i : Int} (h0 : 0 ≤ i) (h1 : i < f.length) : L2.ixN (dI f).length i = some i.toNat ∧ (dI f)[i.toNat]? = some (.int (f.getD i.toNat 0)) := by
  have hl : i.toNat < f.length := by omega
  refine ⟨by rw [dI_len]; exact ixN_of h0 h1, ?_⟩
  rw [dI_get, List.getElem?_eq_getElem hl, List.getD_eq_getElem?_getD, List.getElem?_eq_getElem hl]
  rfl
theorem rep0 {k : Int} (h0 : 0 ≤ k) (h : k ≤ 1000) : hMul (.nd .lst .own [.int 0]) (.int k) = some (.nd .lst .own (dI (List.replicate k.toNat 0))) := by
  have e1 : isRoL [D.int 0] = true := rfl
  have e2 : 1 * k.toNat ≤ sizeLine := Nat.le_trans (m := 1000) (by omega) (small_line (Nat.le_refl _))
  have e3 : (List.replicate k.toNat [D.int 0]).flatten = dI (List.replicate k.toNat 0) := by
    generalize k.toNat = m
    induction m with
    | zero => rfl
    | succ m ih => rw [List.replicate_succ, List.flatten_cons, ih, List.replicate_succ]; rfl
  simp only [hMul, hOr, hMulI, hI, hRep, e1, List.length_cons, List.length_nil, Nat.zero_add, e2, e3, and_true, true_and]
  rw [if_pos ⟨by omega, by omega⟩]
theorem sur_turn (fu : Nat) (n : Int) (net : D) (fl : Fl) (vs f : List Int) (p : Arc × Nat) (hf : (f.length : Int) = n) (ho : okN n p.1) (hp : p.2 < vs.length) :
    turn (tgTup (tgCons (tgName 3) (tgCons (tgTup (tgCons (tgName 4) (tgCons (tgName 5) (tgCons (tgName 6) (tgCons (tgName 6) tgNil))))) tgNil))) (l_surpluses_1 fu) [3, 4, 5, 6] (.nd .tup .pm [.int (p.2 : Nat), dA .pm p.1])
      [some net, some (.nd .lst fl (dI vs)), some (.nd .lst .own (dI f)), none, none, none, none] = .nx [some net, some (.nd .lst fl (dI vs)), some (.nd .lst .own (dI (surStep vs f p))), none, none, none, none] := by
  obtain ⟨h1, h2, h3, h4⟩ := ho
  have k1 : 0 ≤ ((p.2 : Nat) : Int) := by omega
  have k2 : ((p.2 : Nat) : Int) < vs.length := by omega
  have k3 : p.1.1 < (f.length : Int) := by omega
  have k4 : p.1.2.1 < ((f.set p.1.1.toNat (f.getD p.1.1.toNat 0 - vs.getD p.2 0)).length : Int) := by rw [List.length_set]; omega
  obtain ⟨a1, a2⟩ := dI_i h1 k3
  obtain ⟨b1, b2⟩ := dI_i (f := vs) k1 k2
  obtain ⟨c1, c2⟩ := dI_i (f := f.set p.1.1.toNat (f.getD p.1.1.toNat 0 - vs.getD p.2 0)) h3 k4
  rw [Int.toNat_natCast] at b1 b2
  simp only [turn, l_surpluses_1, dA, a1, a2, b1, b2, dI_set, c1, c2, Int.toNat_natCast, ER.bind, ER.of, PR.toE, PR.bind, ER.toP, ER.toS, PR.toS, LR.toE, LR.of, FR.toE, fName, fIx, ixOf, eConst, eMove, eLk, eSh, pF, pI, eLook, eRo, eShr, eOp2, eChain_s, eAnd_s, eOr_s, eNot, eIf, lNil, lCons, eLst, eTup, eCallV, hAbs, hMax2, hMin2, hInt, hLen, hList, hAddI, hSubI, hDivI, hModI, hShrI, hAndI, hMulI, hAdd, hAddS, hOr, hI, hIB, hCat, hIn, hNin, hIs, hIsnt, isN, hLt, hLe, hGt, hGe, eNeg, fIxV, eIxT, sNext, sSeq, sBreak, sCont, sDrop, sRet, sRetN, sIf, sSet, sAug, setA, setL, putS, sPut, getA, sPutAug, tgName, tgNil, tgCons, tgTup, sTg, sPar, setFd, getFd, sFldS, sFldAugS, putE, eMut, isOL_own, hAppend, hExtend, hPop, eIter, eEnum, eRng, sFor, eYes, eLc, startE, backs, FR.of, okRes, eCall, isIns_nd, eMeth, eFrz, eSeal, newI, okSelf, eMake, sRaise, SR.fin, sTry, eIsi, partD, eInt, hSl, eSl, getP, setP, ownP, ownF_own, ownF_ro, ownF_pm, frz, frzL, frF_own, frF_ro, frF_pm, isRo, isRoL, roF_own, roF_ro, roF_pm, pmz, pmzL, clean, cleanL, isUns_nd, isUns_i, isUns_b, isUns_t, isUns_n, isUns_u, isPm_i, isPm_b, isPm_t, isPm_n, isPm_pm, isPm_ro', isPm_own, mkTup, killS, setS, List.getElem?_cons_zero, List.getElem?_cons_succ, List.set_cons_zero, List.set_cons_succ, List.map_cons, List.map_nil, List.length_cons, List.length_nil, List.cons_append, List.nil_append, List.append_nil, List.replicate_succ, List.replicate_zero, List.all_cons, List.all_nil, Bool.and_true, Bool.true_and, Bool.and_self, Bool.false_eq_true, Option.map_some, Option.map_none, Nat.reduceAdd, Nat.reduceSub, Nat.reduceBEq, beq_self_eq_true, Nat.reduceLT, Nat.sub_self, if_true, if_false, reduceIte, decide_true, decide_false, decide_eq_true_eq, true_and, and_true, and_self, or_true, true_or, or_self, false_or, or_false, false_and, and_false, Int.reduceLT, Int.reduceNeg, Int.reduceLE, Int.reduceAdd, Int.reduceSub, Int.reduceMul, Int.reduceEq, Int.reduceNe]
  rfl
theorem sur_eq (fu : Nat) (n : Int) (fl : Fl) (as : List Arc) (vs : List Int) (h0 : 0 ≤ n) (hn : n ≤ 1000) (ho : ∀ a ∈ as, okN n a) (hv : vs.length = as.length) : m_surpluses fu [dN n as, .nd .lst fl (dI vs)] = .ok (.nd .lst .own (dI (sur n as vs))) [] := by
  have lp := (forL_fold (tg := tgTup (tgCons (tgName 3) (tgCons (tgTup (tgCons (tgName 4) (tgCons (tgName 5) (tgCons (tgName 6) (tgCons (tgName 6) tgNil))))) tgNil))) (body := l_surpluses_1 fu) (kl := [3, 4, 5, 6]) (fun p : Arc × Nat => .nd .tup .pm [.int (p.2 : Nat), dA .pm p.1])
    (fun f : List Int => [some (dN n as), some (.nd .lst fl (dI vs)), some (.nd .lst .own (dI f)), none, none, none, none]) (surStep vs) (fun f => (f.length : Int) = n) (as.zipIdx 0) (List.replicate n.toNat 0) (by rw [List.length_replicate]; omega)
    fun f hf p hp => ⟨sur_turn fu n (dN n as) fl vs f p hf (ho p.1 (zip_mem hp).1) (by rw [hv]; exact (zip_mem hp).2), by unfold surStep; rw [inc_len, inc_len]; exact hf⟩).1
  simp only [m_surpluses, b_surpluses, arcs_eq, frz_dN, isRo_dN, isIns_dN, frzL_dI, isRoL_dI, frzL_dAs, itemsL, enum_dAs, nodes_dN, rep0 h0 hn, lp, sur, ER.bind, ER.of, PR.toE, PR.bind, ER.toP, ER.toS, PR.toS, LR.toE, LR.of, FR.toE, fName, fIx, ixOf, eConst, eMove, eLk, eSh, pF, pI, eLook, eRo, eShr, eOp2, eChain_s, eAnd_s, eOr_s, eNot, eIf, lNil, lCons, eLst, eTup, eCallV, hAbs, hMax2, hMin2, hInt, hLen, hList, hAddI, hSubI, hDivI, hModI, hShrI, hAndI, hMulI, hAdd, hAddS, hOr, hI, hIB, hCat, hIn, hNin, hIs, hIsnt, isN, hLt, hLe, hGt, hGe, eNeg, fIxV, eIxT, sNext, sSeq, sBreak, sCont, sDrop, sRet, sRetN, sIf, sSet, sAug, setA, setL, putS, sPut, getA, sPutAug, tgName, tgNil, tgCons, tgTup, sTg, sPar, setFd, getFd, sFldS, sFldAugS, putE, eMut, isOL_own, hAppend, hExtend, hPop, eIter, eEnum, eRng, sFor, eYes, eLc, startE, backs, FR.of, okRes, eCall, isIns_nd, eMeth, eFrz, eSeal, newI, okSelf, eMake, sRaise, SR.fin, sTry, eIsi, partD, eInt, hSl, eSl, getP, setP, ownP, ownF_own, ownF_ro, ownF_pm, frz, frzL, frF_own, frF_ro, frF_pm, isRo, isRoL, roF_own, roF_ro, roF_pm, pmz, pmzL, clean, cleanL, isUns_nd, isUns_i, isUns_b, isUns_t, isUns_n, isUns_u, isPm_i, isPm_b, isPm_t, isPm_n, isPm_pm, isPm_ro', isPm_own, mkTup, killS, setS, List.getElem?_cons_zero, List.getElem?_cons_succ, List.set_cons_zero, List.set_cons_succ, List.map_cons, List.map_nil, List.length_cons, List.length_nil, List.cons_append, List.nil_append, List.append_nil, List.replicate_succ, List.replicate_zero, List.all_cons, List.all_nil, Bool.and_true, Bool.true_and, Bool.and_self, Bool.false_eq_true, Option.map_some, Option.map_none, Nat.reduceAdd, Nat.reduceSub, Nat.reduceBEq, beq_self_eq_true, Nat.reduceLT, Nat.sub_self, if_true, if_false, reduceIte, decide_true, decide_false, decide_eq_true_eq, true_and, and_true, and_self, or_true, true_or, or_self, false_or, or_false, false_and, and_false, Int.reduceLT, Int.reduceNeg, Int.reduceLE, Int.reduceAdd, Int.reduceSub, Int.reduceMul, Int.reduceEq, Int.reduceNe]

/-! ### is_flow -/
theorem eq_dI (fl fl' : Fl) (a b : List Int) : hEq (.nd .lst fl (dI a)) (.nd .lst fl' (dI b)) = some (.bl (decide (a = b))) := by
  have h1 : ∀ (fl : Fl) (a : List Int), dok 40 (.nd .lst fl (dI a)) = true := fun fl a => by
    show (seqK .lst && dokL 39 (dI a)) = true
    rw [dokL_dI 38 a]; rfl
  simp only [hEq, h1, and_self, if_true, eqd, eqdL_dI, Bool.true_and]
theorem ne_dI (fl fl' : Fl) (a b : List Int) : hNe (.nd .lst fl (dI a)) (.nd .lst fl' (dI b)) = some (.bl (!decide (a = b))) := by
  have h1 : ∀ (fl : Fl) (a : List Int), dok 40 (.nd .lst fl (dI a)) = true := fun fl a => by
    show (seqK .lst && dokL 39 (dI a)) = true
    rw [dokL_dI 38 a]; rfl
  simp only [hNe, h1, and_self, if_true, eqd, eqdL_dI, Bool.true_and]
theorem all_foldlM {α : Type} (f : α → Bool) : ∀ xs : List α, xs.foldlM (fun (_ : Unit) x => if f x = true then some () else none) () = if xs.all f = true then some () else none
  | [] => rfl
  | x :: xs => by
    rw [List.foldlM_cons, List.all_cons]
    cases h : f x with
    | true => simp only [if_true, Bool.true_and]; exact all_foldlM f xs
    | false => rfl
theorem isf_turn (fu : Nat) (net : D) (fl : Fl) (vs : List Int) (p : Arc × Nat) (hp : p.2 < vs.length) :
    turn (tgTup (tgCons (tgName 3) (tgCons (tgTup (tgCons (tgName 4) (tgCons (tgName 4) (tgCons (tgName 5) (tgCons (tgName 6) tgNil))))) tgNil))) (l_is_flow_1 fu) [3, 4, 5, 6] (.nd .tup .pm [.int (p.2 : Nat), dA .pm p.1])
      [some net, some (.nd .lst fl (dI vs)), none, none, none, none, none] = if capOk vs p = true then .nx [some net, some (.nd .lst fl (dI vs)), none, none, none, none, none] else
        .rt (.bl false) [some net, some (.nd .lst fl (dI vs)), none, some (.int (p.2 : Nat)), some (.int p.1.2.1), some (.int p.1.2.2.1), some (.int p.1.2.2.2)] := by
  have k1 : 0 ≤ ((p.2 : Nat) : Int) := by omega
  have k2 : ((p.2 : Nat) : Int) < vs.length := by omega
  obtain ⟨b1, b2⟩ := dI_i (f := vs) k1 k2
  rw [Int.toNat_natCast] at b1 b2
  unfold capOk
  by_cases h1 : p.1.2.2.1 ≤ vs.getD p.2 0
  · by_cases h2 : vs.getD p.2 0 ≤ p.1.2.2.2
    · simp only [turn, l_is_flow_1, dA, b1, b2, h1, h2, Bool.not_true, ER.bind, ER.of, PR.toE, PR.bind, ER.toP, ER.toS, PR.toS, LR.toE, LR.of, FR.toE, fName, fIx, ixOf, eConst, eMove, eLk, eSh, pF, pI, eLook, eRo, eShr, eOp2, eChain_s, eAnd_s, eOr_s, eNot, eIf, lNil, lCons, eLst, eTup, eCallV, hAbs, hMax2, hMin2, hInt, hLen, hList, hAddI, hSubI, hDivI, hModI, hShrI, hAndI, hMulI, hAdd, hAddS, hOr, hI, hIB, hCat, hIn, hNin, hIs, hIsnt, isN, hLt, hLe, hGt, hGe, eNeg, fIxV, eIxT, sNext, sSeq, sBreak, sCont, sDrop, sRet, sRetN, sIf, sSet, sAug, setA, setL, putS, sPut, getA, sPutAug, tgName, tgNil, tgCons, tgTup, sTg, sPar, setFd, getFd, sFldS, sFldAugS, putE, eMut, isOL_own, hAppend, hExtend, hPop, eIter, eEnum, eRng, sFor, eYes, eLc, startE, backs, FR.of, okRes, eCall, isIns_nd, eMeth, eFrz, eSeal, newI, okSelf, eMake, sRaise, SR.fin, sTry, eIsi, partD, eInt, hSl, eSl, getP, setP, ownP, ownF_own, ownF_ro, ownF_pm, frz, frzL, frF_own, frF_ro, frF_pm, isRo, isRoL, roF_own, roF_ro, roF_pm, pmz, pmzL, clean, cleanL, isUns_nd, isUns_i, isUns_b, isUns_t, isUns_n, isUns_u, isPm_i, isPm_b, isPm_t, isPm_n, isPm_pm, isPm_ro', isPm_own, mkTup, killS, setS, List.getElem?_cons_zero, List.getElem?_cons_succ, List.set_cons_zero, List.set_cons_succ, List.map_cons, List.map_nil, List.length_cons, List.length_nil, List.cons_append, List.nil_append, List.append_nil, List.replicate_succ, List.replicate_zero, List.all_cons, List.all_nil, Bool.and_true, Bool.true_and, Bool.and_self, Bool.false_eq_true, Option.map_some, Option.map_none, Nat.reduceAdd, Nat.reduceSub, Nat.reduceBEq, beq_self_eq_true, Nat.reduceLT, Nat.sub_self, if_true, if_false, reduceIte, decide_true, decide_false, decide_eq_true_eq, true_and, and_true, and_self, or_true, true_or, or_self, false_or, or_false, false_and, and_false, Int.reduceLT, Int.reduceNeg, Int.reduceLE, Int.reduceAdd, Int.reduceSub, Int.reduceMul, Int.reduceEq, Int.reduceNe]
    · simp only [turn, l_is_flow_1, dA, b1, b2, h1, h2, Bool.not_false, ER.bind, ER.of, PR.toE, PR.bind, ER.toP, ER.toS, PR.toS, LR.toE, LR.of, FR.toE, fName, fIx, ixOf, eConst, eMove, eLk, eSh, pF, pI, eLook, eRo, eShr, eOp2, eChain_s, eAnd_s, eOr_s, eNot, eIf, lNil, lCons, eLst, eTup, eCallV, hAbs, hMax2, hMin2, hInt, hLen, hList, hAddI, hSubI, hDivI, hModI, hShrI, hAndI, hMulI, hAdd, hAddS, hOr, hI, hIB, hCat, hIn, hNin, hIs, hIsnt, isN, hLt, hLe, hGt, hGe, eNeg, fIxV, eIxT, sNext, sSeq, sBreak, sCont, sDrop, sRet, sRetN, sIf, sSet, sAug, setA, setL, putS, sPut, getA, sPutAug, tgName, tgNil, tgCons, tgTup, sTg, sPar, setFd, getFd, sFldS, sFldAugS, putE, eMut, isOL_own, hAppend, hExtend, hPop, eIter, eEnum, eRng, sFor, eYes, eLc, startE, backs, FR.of, okRes, eCall, isIns_nd, eMeth, eFrz, eSeal, newI, okSelf, eMake, sRaise, SR.fin, sTry, eIsi, partD, eInt, hSl, eSl, getP, setP, ownP, ownF_own, ownF_ro, ownF_pm, frz, frzL, frF_own, frF_ro, frF_pm, isRo, isRoL, roF_own, roF_ro, roF_pm, pmz, pmzL, clean, cleanL, isUns_nd, isUns_i, isUns_b, isUns_t, isUns_n, isUns_u, isPm_i, isPm_b, isPm_t, isPm_n, isPm_pm, isPm_ro', isPm_own, mkTup, killS, setS, List.getElem?_cons_zero, List.getElem?_cons_succ, List.set_cons_zero, List.set_cons_succ, List.map_cons, List.map_nil, List.length_cons, List.length_nil, List.cons_append, List.nil_append, List.append_nil, List.replicate_succ, List.replicate_zero, List.all_cons, List.all_nil, Bool.and_true, Bool.true_and, Bool.and_self, Bool.false_eq_true, Option.map_some, Option.map_none, Nat.reduceAdd, Nat.reduceSub, Nat.reduceBEq, beq_self_eq_true, Nat.reduceLT, Nat.sub_self, if_true, if_false, reduceIte, decide_true, decide_false, decide_eq_true_eq, true_and, and_true, and_self, or_true, true_or, or_self, false_or, or_false, false_and, and_false, Int.reduceLT, Int.reduceNeg, Int.reduceLE, Int.reduceAdd, Int.reduceSub, Int.reduceMul, Int.reduceEq, Int.reduceNe]
  · simp only [turn, l_is_flow_1, dA, b1, b2, h1, Bool.not_false, Bool.false_and, ER.bind, ER.of, PR.toE, PR.bind, ER.toP, ER.toS, PR.toS, LR.toE, LR.of, FR.toE, fName, fIx, ixOf, eConst, eMove, eLk, eSh, pF, pI, eLook, eRo, eShr, eOp2, eChain_s, eAnd_s, eOr_s, eNot, eIf, lNil, lCons, eLst, eTup, eCallV, hAbs, hMax2, hMin2, hInt, hLen, hList, hAddI, hSubI, hDivI, hModI, hShrI, hAndI, hMulI, hAdd, hAddS, hOr, hI, hIB, hCat, hIn, hNin, hIs, hIsnt, isN, hLt, hLe, hGt, hGe, eNeg, fIxV, eIxT, sNext, sSeq, sBreak, sCont, sDrop, sRet, sRetN, sIf, sSet, sAug, setA, setL, putS, sPut, getA, sPutAug, tgName, tgNil, tgCons, tgTup, sTg, sPar, setFd, getFd, sFldS, sFldAugS, putE, eMut, isOL_own, hAppend, hExtend, hPop, eIter, eEnum, eRng, sFor, eYes, eLc, startE, backs, FR.of, okRes, eCall, isIns_nd, eMeth, eFrz, eSeal, newI, okSelf, eMake, sRaise, SR.fin, sTry, eIsi, partD, eInt, hSl, eSl, getP, setP, ownP, ownF_own, ownF_ro, ownF_pm, frz, frzL, frF_own, frF_ro, frF_pm, isRo, isRoL, roF_own, roF_ro, roF_pm, pmz, pmzL, clean, cleanL, isUns_nd, isUns_i, isUns_b, isUns_t, isUns_n, isUns_u, isPm_i, isPm_b, isPm_t, isPm_n, isPm_pm, isPm_ro', isPm_own, mkTup, killS, setS, List.getElem?_cons_zero, List.getElem?_cons_succ, List.set_cons_zero, List.set_cons_succ, List.map_cons, List.map_nil, List.length_cons, List.length_nil, List.cons_append, List.nil_append, List.append_nil, List.replicate_succ, List.replicate_zero, List.all_cons, List.all_nil, Bool.and_true, Bool.true_and, Bool.and_self, Bool.false_eq_true, Option.map_some, Option.map_none, Nat.reduceAdd, Nat.reduceSub, Nat.reduceBEq, beq_self_eq_true, Nat.reduceLT, Nat.sub_self, if_true, if_false, reduceIte, decide_true, decide_false, decide_eq_true_eq, true_and, and_true, and_self, or_true, true_or, or_self, false_or, or_false, false_and, and_false, Int.reduceLT, Int.reduceNeg, Int.reduceLE, Int.reduceAdd, Int.reduceSub, Int.reduceMul, Int.reduceEq, Int.reduceNe]
theorem lenA (fl : Fl) (as : List Arc) : hLen [.nd .lst fl (dAs .pm as)] = some (.int as.length) := by
  simp only [hLen, dAs_len]
theorem isf_eq (fu : Nat) (n : Int) (fl : Fl) (as : List Arc) (vs : List Int) (h0 : 0 ≤ n) (hn : n ≤ 1000) (ho : ∀ a ∈ as, okN n a) : m_is_flow fu [dN n as, .nd .lst fl (dI vs)] = .ok (.bl (isf n as vs)) [] := by
  unfold isf
  by_cases hv : vs.length = as.length
  · have lp := forL_ret (tg := tgTup (tgCons (tgName 3) (tgCons (tgTup (tgCons (tgName 4) (tgCons (tgName 4) (tgCons (tgName 5) (tgCons (tgName 6) tgNil))))) tgNil))) (body := l_is_flow_1 fu) (kl := [3, 4, 5, 6]) (fun p : Arc × Nat => .nd .tup .pm [.int (p.2 : Nat), dA .pm p.1])
      (fun _ : Unit => [some (dN n as), some (.nd .lst fl (dI vs)), none, none, none, none, none]) (fun _ p => if capOk vs p = true then some () else none) (.bl false) (fun _ => True) (as.zipIdx 0) () trivial fun _ _ p hp => by
        have t := isf_turn fu (dN n as) fl vs p (by rw [hv]; exact (zip_mem hp).2)
        cases hc : capOk vs p with
        | true => rw [hc] at t; exact ⟨t, trivial⟩
        | false => rw [hc] at t; exact ⟨_, t⟩
    rw [all_foldlM] at lp
    cases ha : (as.zipIdx 0).all (capOk vs) with
    | true =>
      rw [ha] at lp
      have lp := lp.1
      simp only [m_is_flow, b_is_flow, arcs_eq, frz_dN, isRo_dN, isIns_dN, frzL_dI, isRoL_dI, cleanL_dI, frzL_dAs, itemsL, enum_dAs, nodes_dN, rep0 h0 hn, hLen, dAs_len, dI_len, hv, hNe_i, ne_eq, not_true_eq_false, lp, sur_eq fu n _ as vs h0 hn ho hv, eq_dI, Bool.true_and, ER.bind, ER.of, PR.toE, PR.bind, ER.toP, ER.toS, PR.toS, LR.toE, LR.of, FR.toE, fName, fIx, ixOf, eConst, eMove, eLk, eSh, pF, pI, eLook, eRo, eShr, eOp2, eChain_s, eAnd_s, eOr_s, eNot, eIf, lNil, lCons, eLst, eTup, eCallV, hAbs, hMax2, hMin2, hInt, hLen, hList, hAddI, hSubI, hDivI, hModI, hShrI, hAndI, hMulI, hAdd, hAddS, hOr, hI, hIB, hCat, hIn, hNin, hIs, hIsnt, isN, hLt, hLe, hGt, hGe, eNeg, fIxV, eIxT, sNext, sSeq, sBreak, sCont, sDrop, sRet, sRetN, sIf, sSet, sAug, setA, setL, putS, sPut, getA, sPutAug, tgName, tgNil, tgCons, tgTup, sTg, sPar, setFd, getFd, sFldS, sFldAugS, putE, eMut, isOL_own, hAppend, hExtend, hPop, eIter, eEnum, eRng, sFor, eYes, eLc, startE, backs, FR.of, okRes, eCall, isIns_nd, eMeth, eFrz, eSeal, newI, okSelf, eMake, sRaise, SR.fin, sTry, eIsi, partD, eInt, hSl, eSl, getP, setP, ownP, ownF_own, ownF_ro, ownF_pm, frz, frzL, frF_own, frF_ro, frF_pm, isRo, isRoL, roF_own, roF_ro, roF_pm, pmz, pmzL, clean, cleanL, isUns_nd, isUns_i, isUns_b, isUns_t, isUns_n, isUns_u, isPm_i, isPm_b, isPm_t, isPm_n, isPm_pm, isPm_ro', isPm_own, mkTup, killS, setS, List.getElem?_cons_zero, List.getElem?_cons_succ, List.set_cons_zero, List.set_cons_succ, List.map_cons, List.map_nil, List.length_cons, List.length_nil, List.cons_append, List.nil_append, List.append_nil, List.replicate_succ, List.replicate_zero, List.all_cons, List.all_nil, Bool.and_true, Bool.true_and, Bool.and_self, Bool.false_eq_true, Option.map_some, Option.map_none, Nat.reduceAdd, Nat.reduceSub, Nat.reduceBEq, beq_self_eq_true, Nat.reduceLT, Nat.sub_self, if_true, if_false, reduceIte, decide_true, decide_false, decide_eq_true_eq, true_and, and_true, and_self, or_true, true_or, or_self, false_or, or_false, false_and, and_false, Int.reduceLT, Int.reduceNeg, Int.reduceLE, Int.reduceAdd, Int.reduceSub, Int.reduceMul, Int.reduceEq, Int.reduceNe]
    | false =>
      rw [ha] at lp
      obtain ⟨e, lp⟩ := lp
      simp only [m_is_flow, b_is_flow, arcs_eq, frz_dN, isRo_dN, isIns_dN, frzL_dI, isRoL_dI, frzL_dAs, itemsL, enum_dAs, hLen, dAs_len, dI_len, hv, hNe_i, ne_eq, not_true_eq_false, lp, Bool.false_and, ER.bind, ER.of, PR.toE, PR.bind, ER.toP, ER.toS, PR.toS, LR.toE, LR.of, FR.toE, fName, fIx, ixOf, eConst, eMove, eLk, eSh, pF, pI, eLook, eRo, eShr, eOp2, eChain_s, eAnd_s, eOr_s, eNot, eIf, lNil, lCons, eLst, eTup, eCallV, hAbs, hMax2, hMin2, hInt, hLen, hList, hAddI, hSubI, hDivI, hModI, hShrI, hAndI, hMulI, hAdd, hAddS, hOr, hI, hIB, hCat, hIn, hNin, hIs, hIsnt, isN, hLt, hLe, hGt, hGe, eNeg, fIxV, eIxT, sNext, sSeq, sBreak, sCont, sDrop, sRet, sRetN, sIf, sSet, sAug, setA, setL, putS, sPut, getA, sPutAug, tgName, tgNil, tgCons, tgTup, sTg, sPar, setFd, getFd, sFldS, sFldAugS, putE, eMut, isOL_own, hAppend, hExtend, hPop, eIter, eEnum, eRng, sFor, eYes, eLc, startE, backs, FR.of, okRes, eCall, isIns_nd, eMeth, eFrz, eSeal, newI, okSelf, eMake, sRaise, SR.fin, sTry, eIsi, partD, eInt, hSl, eSl, getP, setP, ownP, ownF_own, ownF_ro, ownF_pm, frz, frzL, frF_own, frF_ro, frF_pm, isRo, isRoL, roF_own, roF_ro, roF_pm, pmz, pmzL, clean, cleanL, isUns_nd, isUns_i, isUns_b, isUns_t, isUns_n, isUns_u, isPm_i, isPm_b, isPm_t, isPm_n, isPm_pm, isPm_ro', isPm_own, mkTup, killS, setS, List.getElem?_cons_zero, List.getElem?_cons_succ, List.set_cons_zero, List.set_cons_succ, List.map_cons, List.map_nil, List.length_cons, List.length_nil, List.cons_append, List.nil_append, List.append_nil, List.replicate_succ, List.replicate_zero, List.all_cons, List.all_nil, Bool.and_true, Bool.true_and, Bool.and_self, Bool.false_eq_true, Option.map_some, Option.map_none, Nat.reduceAdd, Nat.reduceSub, Nat.reduceBEq, beq_self_eq_true, Nat.reduceLT, Nat.sub_self, if_true, if_false, reduceIte, decide_true, decide_false, decide_eq_true_eq, true_and, and_true, and_self, or_true, true_or, or_self, false_or, or_false, false_and, and_false, Int.reduceLT, Int.reduceNeg, Int.reduceLE, Int.reduceAdd, Int.reduceSub, Int.reduceMul, Int.reduceEq, Int.reduceNe]
  · have hv' : ¬ (vs.length : Int) = (as.length : Int) := by omega
    simp only [m_is_flow, b_is_flow, arcs_eq, frz_dN, isRo_dN, isIns_dN, hLen, dAs_len, dI_len, hv, hv', hNe_i, ne_eq, not_false_eq_true, Bool.false_and, ER.bind, ER.of, PR.toE, PR.bind, ER.toP, ER.toS, PR.toS, LR.toE, LR.of, FR.toE, fName, fIx, ixOf, eConst, eMove, eLk, eSh, pF, pI, eLook, eRo, eShr, eOp2, eChain_s, eAnd_s, eOr_s, eNot, eIf, lNil, lCons, eLst, eTup, eCallV, hAbs, hMax2, hMin2, hInt, hLen, hList, hAddI, hSubI, hDivI, hModI, hShrI, hAndI, hMulI, hAdd, hAddS, hOr, hI, hIB, hCat, hIn, hNin, hIs, hIsnt, isN, hLt, hLe, hGt, hGe, eNeg, fIxV, eIxT, sNext, sSeq, sBreak, sCont, sDrop, sRet, sRetN, sIf, sSet, sAug, setA, setL, putS, sPut, getA, sPutAug, tgName, tgNil, tgCons, tgTup, sTg, sPar, setFd, getFd, sFldS, sFldAugS, putE, eMut, isOL_own, hAppend, hExtend, hPop, eIter, eEnum, eRng, sFor, eYes, eLc, startE, backs, FR.of, okRes, eCall, isIns_nd, eMeth, eFrz, eSeal, newI, okSelf, eMake, sRaise, SR.fin, sTry, eIsi, partD, eInt, hSl, eSl, getP, setP, ownP, ownF_own, ownF_ro, ownF_pm, frz, frzL, frF_own, frF_ro, frF_pm, isRo, isRoL, roF_own, roF_ro, roF_pm, pmz, pmzL, clean, cleanL, isUns_nd, isUns_i, isUns_b, isUns_t, isUns_n, isUns_u, isPm_i, isPm_b, isPm_t, isPm_n, isPm_pm, isPm_ro', isPm_own, mkTup, killS, setS, List.getElem?_cons_zero, List.getElem?_cons_succ, List.set_cons_zero, List.set_cons_succ, List.map_cons, List.map_nil, List.length_cons, List.length_nil, List.cons_append, List.nil_append, List.append_nil, List.replicate_succ, List.replicate_zero, List.all_cons, List.all_nil, Bool.and_true, Bool.true_and, Bool.and_self, Bool.false_eq_true, Option.map_some, Option.map_none, Nat.reduceAdd, Nat.reduceSub, Nat.reduceBEq, beq_self_eq_true, Nat.reduceLT, Nat.sub_self, if_true, if_false, reduceIte, decide_true, decide_false, decide_eq_true_eq, true_and, and_true, and_self, or_true, true_or, or_self, false_or, or_false, false_and, and_false, Int.reduceLT, Int.reduceNeg, Int.reduceLE, Int.reduceAdd, Int.reduceSub, Int.reduceMul, Int.reduceEq, Int.reduceNe]

/-! ### lower_bound -/
theorem lb_turn (fu : Nat) (arc : Int) (ms : List Int) (b : Int) (p : Arc × Nat) (n : D) :
    turn (tgTup (tgCons (tgName 5) (tgCons (tgName 6) tgNil))) (l_lower_bound_1 fu) [5, 6] (.nd .tup .pm [.int (p.2 : Nat), dA .pm p.1]) [some n, some (.int arc), some (.nd .lst .ro (dI ms)), none, some (.int b), none, none] =
      .nx [some n, some (.int arc), some (.nd .lst .ro (dI ms)), none, some (.int (lbStep arc ms b p)), none, none] := by
  unfold lbStep
  cases h1 : ent p.1 ms with
  | true =>
    simp only [turn, l_lower_bound_1, frz_dA, isRo_dA, frzL_dI, isRoL_dI, enters_eq, h1, ER.bind, ER.of, PR.toE, PR.bind, ER.toP, ER.toS, PR.toS, LR.toE, LR.of, FR.toE, fName, fIx, ixOf, eConst, eMove, eLk, eSh, pF, pI, eLook, eRo, eShr, eOp2, eChain_s, eAnd_s, eOr_s, eNot, eIf, lNil, lCons, eLst, eTup, eCallV, hAbs, hMax2, hMin2, hInt, hLen, hList, hAddI, hSubI, hDivI, hModI, hShrI, hAndI, hMulI, hAdd, hAddS, hOr, hI, hIB, hCat, hIn, hNin, hIs, hIsnt, isN, hLt, hLe, hGt, hGe, eNeg, fIxV, eIxT, sNext, sSeq, sBreak, sCont, sDrop, sRet, sRetN, sIf, sSet, sAug, setA, setL, putS, sPut, getA, sPutAug, tgName, tgNil, tgCons, tgTup, sTg, sPar, setFd, getFd, sFldS, sFldAugS, putE, eMut, isOL_own, hAppend, hExtend, hPop, eIter, eEnum, eRng, sFor, eYes, eLc, startE, backs, FR.of, okRes, eCall, isIns_nd, eMeth, eFrz, eSeal, newI, okSelf, eMake, sRaise, SR.fin, sTry, eIsi, partD, eInt, hSl, eSl, getP, setP, ownP, ownF_own, ownF_ro, ownF_pm, frz, frzL, frF_own, frF_ro, frF_pm, isRo, isRoL, roF_own, roF_ro, roF_pm, pmz, pmzL, clean, cleanL, isUns_nd, isUns_i, isUns_b, isUns_t, isUns_n, isUns_u, isPm_i, isPm_b, isPm_t, isPm_n, isPm_pm, isPm_ro', isPm_own, mkTup, killS, setS, List.getElem?_cons_zero, List.getElem?_cons_succ, List.set_cons_zero, List.set_cons_succ, List.map_cons, List.map_nil, List.length_cons, List.length_nil, List.cons_append, List.nil_append, List.append_nil, List.replicate_succ, List.replicate_zero, List.all_cons, List.all_nil, Bool.and_true, Bool.true_and, Bool.and_self, Bool.false_eq_true, Option.map_some, Option.map_none, Nat.reduceAdd, Nat.reduceSub, Nat.reduceBEq, beq_self_eq_true, Nat.reduceLT, Nat.sub_self, if_true, if_false, reduceIte, decide_true, decide_false, decide_eq_true_eq, true_and, and_true, and_self, or_true, true_or, or_self, false_or, or_false, false_and, and_false, Int.reduceLT, Int.reduceNeg, Int.reduceLE, Int.reduceAdd, Int.reduceSub, Int.reduceMul, Int.reduceEq, Int.reduceNe]
    simp only [dA, show L2.ixN 4 2 = some 2 from rfl, ER.bind, ER.of, PR.toE, PR.bind, ER.toP, ER.toS, PR.toS, LR.toE, LR.of, FR.toE, fName, fIx, ixOf, eConst, eMove, eLk, eSh, pF, pI, eLook, eRo, eShr, eOp2, eChain_s, eAnd_s, eOr_s, eNot, eIf, lNil, lCons, eLst, eTup, eCallV, hAbs, hMax2, hMin2, hInt, hLen, hList, hAddI, hSubI, hDivI, hModI, hShrI, hAndI, hMulI, hAdd, hAddS, hOr, hI, hIB, hCat, hIn, hNin, hIs, hIsnt, isN, hLt, hLe, hGt, hGe, eNeg, fIxV, eIxT, sNext, sSeq, sBreak, sCont, sDrop, sRet, sRetN, sIf, sSet, sAug, setA, setL, putS, sPut, getA, sPutAug, tgName, tgNil, tgCons, tgTup, sTg, sPar, setFd, getFd, sFldS, sFldAugS, putE, eMut, isOL_own, hAppend, hExtend, hPop, eIter, eEnum, eRng, sFor, eYes, eLc, startE, backs, FR.of, okRes, eCall, isIns_nd, eMeth, eFrz, eSeal, newI, okSelf, eMake, sRaise, SR.fin, sTry, eIsi, partD, eInt, hSl, eSl, getP, setP, ownP, ownF_own, ownF_ro, ownF_pm, frz, frzL, frF_own, frF_ro, frF_pm, isRo, isRoL, roF_own, roF_ro, roF_pm, pmz, pmzL, clean, cleanL, isUns_nd, isUns_i, isUns_b, isUns_t, isUns_n, isUns_u, isPm_i, isPm_b, isPm_t, isPm_n, isPm_pm, isPm_ro', isPm_own, mkTup, killS, setS, List.getElem?_cons_zero, List.getElem?_cons_succ, List.set_cons_zero, List.set_cons_succ, List.map_cons, List.map_nil, List.length_cons, List.length_nil, List.cons_append, List.nil_append, List.append_nil, List.replicate_succ, List.replicate_zero, List.all_cons, List.all_nil, Bool.and_true, Bool.true_and, Bool.and_self, Bool.false_eq_true, Option.map_some, Option.map_none, Nat.reduceAdd, Nat.reduceSub, Nat.reduceBEq, beq_self_eq_true, Nat.reduceLT, Nat.sub_self, if_true, if_false, reduceIte, decide_true, decide_false, decide_eq_true_eq, true_and, and_true, and_self, or_true, true_or, or_self, false_or, or_false, false_and, and_false, Int.reduceLT, Int.reduceNeg, Int.reduceLE, Int.reduceAdd, Int.reduceSub, Int.reduceMul, Int.reduceEq, Int.reduceNe]
  | false =>
    simp only [turn, l_lower_bound_1, frz_dA, isRo_dA, frzL_dI, isRoL_dI, enters_eq, h1, hNe_i, ER.bind, ER.of, PR.toE, PR.bind, ER.toP, ER.toS, PR.toS, LR.toE, LR.of, FR.toE, fName, fIx, ixOf, eConst, eMove, eLk, eSh, pF, pI, eLook, eRo, eShr, eOp2, eChain_s, eAnd_s, eOr_s, eNot, eIf, lNil, lCons, eLst, eTup, eCallV, hAbs, hMax2, hMin2, hInt, hLen, hList, hAddI, hSubI, hDivI, hModI, hShrI, hAndI, hMulI, hAdd, hAddS, hOr, hI, hIB, hCat, hIn, hNin, hIs, hIsnt, isN, hLt, hLe, hGt, hGe, eNeg, fIxV, eIxT, sNext, sSeq, sBreak, sCont, sDrop, sRet, sRetN, sIf, sSet, sAug, setA, setL, putS, sPut, getA, sPutAug, tgName, tgNil, tgCons, tgTup, sTg, sPar, setFd, getFd, sFldS, sFldAugS, putE, eMut, isOL_own, hAppend, hExtend, hPop, eIter, eEnum, eRng, sFor, eYes, eLc, startE, backs, FR.of, okRes, eCall, isIns_nd, eMeth, eFrz, eSeal, newI, okSelf, eMake, sRaise, SR.fin, sTry, eIsi, partD, eInt, hSl, eSl, getP, setP, ownP, ownF_own, ownF_ro, ownF_pm, frz, frzL, frF_own, frF_ro, frF_pm, isRo, isRoL, roF_own, roF_ro, roF_pm, pmz, pmzL, clean, cleanL, isUns_nd, isUns_i, isUns_b, isUns_t, isUns_n, isUns_u, isPm_i, isPm_b, isPm_t, isPm_n, isPm_pm, isPm_ro', isPm_own, mkTup, killS, setS, List.getElem?_cons_zero, List.getElem?_cons_succ, List.set_cons_zero, List.set_cons_succ, List.map_cons, List.map_nil, List.length_cons, List.length_nil, List.cons_append, List.nil_append, List.append_nil, List.replicate_succ, List.replicate_zero, List.all_cons, List.all_nil, Bool.and_true, Bool.true_and, Bool.and_self, Bool.false_eq_true, Option.map_some, Option.map_none, Nat.reduceAdd, Nat.reduceSub, Nat.reduceBEq, beq_self_eq_true, Nat.reduceLT, Nat.sub_self, if_true, if_false, reduceIte, decide_true, decide_false, decide_eq_true_eq, true_and, and_true, and_self, or_true, true_or, or_self, false_or, or_false, false_and, and_false, Int.reduceLT, Int.reduceNeg, Int.reduceLE, Int.reduceAdd, Int.reduceSub, Int.reduceMul, Int.reduceEq, Int.reduceNe]
    by_cases h2 : (p.2 : Int) = arc
    · simp only [h2, ne_eq, not_true_eq_false, ER.bind, ER.of, PR.toE, PR.bind, ER.toP, ER.toS, PR.toS, LR.toE, LR.of, FR.toE, fName, fIx, ixOf, eConst, eMove, eLk, eSh, pF, pI, eLook, eRo, eShr, eOp2, eChain_s, eAnd_s, eOr_s, eNot, eIf, lNil, lCons, eLst, eTup, eCallV, hAbs, hMax2, hMin2, hInt, hLen, hList, hAddI, hSubI, hDivI, hModI, hShrI, hAndI, hMulI, hAdd, hAddS, hOr, hI, hIB, hCat, hIn, hNin, hIs, hIsnt, isN, hLt, hLe, hGt, hGe, eNeg, fIxV, eIxT, sNext, sSeq, sBreak, sCont, sDrop, sRet, sRetN, sIf, sSet, sAug, setA, setL, putS, sPut, getA, sPutAug, tgName, tgNil, tgCons, tgTup, sTg, sPar, setFd, getFd, sFldS, sFldAugS, putE, eMut, isOL_own, hAppend, hExtend, hPop, eIter, eEnum, eRng, sFor, eYes, eLc, startE, backs, FR.of, okRes, eCall, isIns_nd, eMeth, eFrz, eSeal, newI, okSelf, eMake, sRaise, SR.fin, sTry, eIsi, partD, eInt, hSl, eSl, getP, setP, ownP, ownF_own, ownF_ro, ownF_pm, frz, frzL, frF_own, frF_ro, frF_pm, isRo, isRoL, roF_own, roF_ro, roF_pm, pmz, pmzL, clean, cleanL, isUns_nd, isUns_i, isUns_b, isUns_t, isUns_n, isUns_u, isPm_i, isPm_b, isPm_t, isPm_n, isPm_pm, isPm_ro', isPm_own, mkTup, killS, setS, List.getElem?_cons_zero, List.getElem?_cons_succ, List.set_cons_zero, List.set_cons_succ, List.map_cons, List.map_nil, List.length_cons, List.length_nil, List.cons_append, List.nil_append, List.append_nil, List.replicate_succ, List.replicate_zero, List.all_cons, List.all_nil, Bool.and_true, Bool.true_and, Bool.and_self, Bool.false_eq_true, Option.map_some, Option.map_none, Nat.reduceAdd, Nat.reduceSub, Nat.reduceBEq, beq_self_eq_true, Nat.reduceLT, Nat.sub_self, if_true, if_false, reduceIte, decide_true, decide_false, decide_eq_true_eq, true_and, and_true, and_self, or_true, true_or, or_self, false_or, or_false, false_and, and_false, Int.reduceLT, Int.reduceNeg, Int.reduceLE, Int.reduceAdd, Int.reduceSub, Int.reduceMul, Int.reduceEq, Int.reduceNe]
    · cases h3 : lea p.1 ms with
      | true =>
        simp only [h2, h3, ne_eq, not_false_eq_true, frz_dA, isRo_dA, frzL_dI, isRoL_dI, leaves_eq, ER.bind, ER.of, PR.toE, PR.bind, ER.toP, ER.toS, PR.toS, LR.toE, LR.of, FR.toE, fName, fIx, ixOf, eConst, eMove, eLk, eSh, pF, pI, eLook, eRo, eShr, eOp2, eChain_s, eAnd_s, eOr_s, eNot, eIf, lNil, lCons, eLst, eTup, eCallV, hAbs, hMax2, hMin2, hInt, hLen, hList, hAddI, hSubI, hDivI, hModI, hShrI, hAndI, hMulI, hAdd, hAddS, hOr, hI, hIB, hCat, hIn, hNin, hIs, hIsnt, isN, hLt, hLe, hGt, hGe, eNeg, fIxV, eIxT, sNext, sSeq, sBreak, sCont, sDrop, sRet, sRetN, sIf, sSet, sAug, setA, setL, putS, sPut, getA, sPutAug, tgName, tgNil, tgCons, tgTup, sTg, sPar, setFd, getFd, sFldS, sFldAugS, putE, eMut, isOL_own, hAppend, hExtend, hPop, eIter, eEnum, eRng, sFor, eYes, eLc, startE, backs, FR.of, okRes, eCall, isIns_nd, eMeth, eFrz, eSeal, newI, okSelf, eMake, sRaise, SR.fin, sTry, eIsi, partD, eInt, hSl, eSl, getP, setP, ownP, ownF_own, ownF_ro, ownF_pm, frz, frzL, frF_own, frF_ro, frF_pm, isRo, isRoL, roF_own, roF_ro, roF_pm, pmz, pmzL, clean, cleanL, isUns_nd, isUns_i, isUns_b, isUns_t, isUns_n, isUns_u, isPm_i, isPm_b, isPm_t, isPm_n, isPm_pm, isPm_ro', isPm_own, mkTup, killS, setS, List.getElem?_cons_zero, List.getElem?_cons_succ, List.set_cons_zero, List.set_cons_succ, List.map_cons, List.map_nil, List.length_cons, List.length_nil, List.cons_append, List.nil_append, List.append_nil, List.replicate_succ, List.replicate_zero, List.all_cons, List.all_nil, Bool.and_true, Bool.true_and, Bool.and_self, Bool.false_eq_true, Option.map_some, Option.map_none, Nat.reduceAdd, Nat.reduceSub, Nat.reduceBEq, beq_self_eq_true, Nat.reduceLT, Nat.sub_self, if_true, if_false, reduceIte, decide_true, decide_false, decide_eq_true_eq, true_and, and_true, and_self, or_true, true_or, or_self, false_or, or_false, false_and, and_false, Int.reduceLT, Int.reduceNeg, Int.reduceLE, Int.reduceAdd, Int.reduceSub, Int.reduceMul, Int.reduceEq, Int.reduceNe]
        simp only [dA, show L2.ixN 4 3 = some 3 from rfl, ER.bind, ER.of, PR.toE, PR.bind, ER.toP, ER.toS, PR.toS, LR.toE, LR.of, FR.toE, fName, fIx, ixOf, eConst, eMove, eLk, eSh, pF, pI, eLook, eRo, eShr, eOp2, eChain_s, eAnd_s, eOr_s, eNot, eIf, lNil, lCons, eLst, eTup, eCallV, hAbs, hMax2, hMin2, hInt, hLen, hList, hAddI, hSubI, hDivI, hModI, hShrI, hAndI, hMulI, hAdd, hAddS, hOr, hI, hIB, hCat, hIn, hNin, hIs, hIsnt, isN, hLt, hLe, hGt, hGe, eNeg, fIxV, eIxT, sNext, sSeq, sBreak, sCont, sDrop, sRet, sRetN, sIf, sSet, sAug, setA, setL, putS, sPut, getA, sPutAug, tgName, tgNil, tgCons, tgTup, sTg, sPar, setFd, getFd, sFldS, sFldAugS, putE, eMut, isOL_own, hAppend, hExtend, hPop, eIter, eEnum, eRng, sFor, eYes, eLc, startE, backs, FR.of, okRes, eCall, isIns_nd, eMeth, eFrz, eSeal, newI, okSelf, eMake, sRaise, SR.fin, sTry, eIsi, partD, eInt, hSl, eSl, getP, setP, ownP, ownF_own, ownF_ro, ownF_pm, frz, frzL, frF_own, frF_ro, frF_pm, isRo, isRoL, roF_own, roF_ro, roF_pm, pmz, pmzL, clean, cleanL, isUns_nd, isUns_i, isUns_b, isUns_t, isUns_n, isUns_u, isPm_i, isPm_b, isPm_t, isPm_n, isPm_pm, isPm_ro', isPm_own, mkTup, killS, setS, List.getElem?_cons_zero, List.getElem?_cons_succ, List.set_cons_zero, List.set_cons_succ, List.map_cons, List.map_nil, List.length_cons, List.length_nil, List.cons_append, List.nil_append, List.append_nil, List.replicate_succ, List.replicate_zero, List.all_cons, List.all_nil, Bool.and_true, Bool.true_and, Bool.and_self, Bool.false_eq_true, Option.map_some, Option.map_none, Nat.reduceAdd, Nat.reduceSub, Nat.reduceBEq, beq_self_eq_true, Nat.reduceLT, Nat.sub_self, if_true, if_false, reduceIte, decide_true, decide_false, decide_eq_true_eq, true_and, and_true, and_self, or_true, true_or, or_self, false_or, or_false, false_and, and_false, Int.reduceLT, Int.reduceNeg, Int.reduceLE, Int.reduceAdd, Int.reduceSub, Int.reduceMul, Int.reduceEq, Int.reduceNe]
      | false =>
        simp only [h2, h3, ne_eq, not_false_eq_true, frz_dA, isRo_dA, frzL_dI, isRoL_dI, leaves_eq, ER.bind, ER.of, PR.toE, PR.bind, ER.toP, ER.toS, PR.toS, LR.toE, LR.of, FR.toE, fName, fIx, ixOf, eConst, eMove, eLk, eSh, pF, pI, eLook, eRo, eShr, eOp2, eChain_s, eAnd_s, eOr_s, eNot, eIf, lNil, lCons, eLst, eTup, eCallV, hAbs, hMax2, hMin2, hInt, hLen, hList, hAddI, hSubI, hDivI, hModI, hShrI, hAndI, hMulI, hAdd, hAddS, hOr, hI, hIB, hCat, hIn, hNin, hIs, hIsnt, isN, hLt, hLe, hGt, hGe, eNeg, fIxV, eIxT, sNext, sSeq, sBreak, sCont, sDrop, sRet, sRetN, sIf, sSet, sAug, setA, setL, putS, sPut, getA, sPutAug, tgName, tgNil, tgCons, tgTup, sTg, sPar, setFd, getFd, sFldS, sFldAugS, putE, eMut, isOL_own, hAppend, hExtend, hPop, eIter, eEnum, eRng, sFor, eYes, eLc, startE, backs, FR.of, okRes, eCall, isIns_nd, eMeth, eFrz, eSeal, newI, okSelf, eMake, sRaise, SR.fin, sTry, eIsi, partD, eInt, hSl, eSl, getP, setP, ownP, ownF_own, ownF_ro, ownF_pm, frz, frzL, frF_own, frF_ro, frF_pm, isRo, isRoL, roF_own, roF_ro, roF_pm, pmz, pmzL, clean, cleanL, isUns_nd, isUns_i, isUns_b, isUns_t, isUns_n, isUns_u, isPm_i, isPm_b, isPm_t, isPm_n, isPm_pm, isPm_ro', isPm_own, mkTup, killS, setS, List.getElem?_cons_zero, List.getElem?_cons_succ, List.set_cons_zero, List.set_cons_succ, List.map_cons, List.map_nil, List.length_cons, List.length_nil, List.cons_append, List.nil_append, List.append_nil, List.replicate_succ, List.replicate_zero, List.all_cons, List.all_nil, Bool.and_true, Bool.true_and, Bool.and_self, Bool.false_eq_true, Option.map_some, Option.map_none, Nat.reduceAdd, Nat.reduceSub, Nat.reduceBEq, beq_self_eq_true, Nat.reduceLT, Nat.sub_self, if_true, if_false, reduceIte, decide_true, decide_false, decide_eq_true_eq, true_and, and_true, and_self, or_true, true_or, or_self, false_or, or_false, false_and, and_false, Int.reduceLT, Int.reduceNeg, Int.reduceLE, Int.reduceAdd, Int.reduceSub, Int.reduceMul, Int.reduceEq, Int.reduceNe]
theorem lower_eq (fu : Nat) (n : Int) (as : List Arc) (arc : Int) (ms : List Int) (a0 : Arc) (h0 : 0 ≤ arc) (h : as[arc.toNat]? = some a0) : m_lower_bound fu [dN n as, .int arc, .nd .lst .ro (dI ms)] =
    if lea a0 ms = true then .ok (.int ((as.zipIdx 0).foldl (lbStep arc ms) 0)) [] else .ex 1 none [] := by
  obtain ⟨i1, i2⟩ := dAs_i h0 h
  cases he : lea a0 ms with
  | false =>
    simp only [m_lower_bound, b_lower_bound, arcs_eq, frz_dN, isRo_dN, isIns_dN, frzL_dI, isRoL_dI, dAs_len, i1, i2, dA_uns, frz_dA, isRo_dA, leaves_eq, he, Bool.not_false, Bool.not_true, ER.bind, ER.of, PR.toE, PR.bind, ER.toP, ER.toS, PR.toS, LR.toE, LR.of, FR.toE, fName, fIx, ixOf, eConst, eMove, eLk, eSh, pF, pI, eLook, eRo, eShr, eOp2, eChain_s, eAnd_s, eOr_s, eNot, eIf, lNil, lCons, eLst, eTup, eCallV, hAbs, hMax2, hMin2, hInt, hLen, hList, hAddI, hSubI, hDivI, hModI, hShrI, hAndI, hMulI, hAdd, hAddS, hOr, hI, hIB, hCat, hIn, hNin, hIs, hIsnt, isN, hLt, hLe, hGt, hGe, eNeg, fIxV, eIxT, sNext, sSeq, sBreak, sCont, sDrop, sRet, sRetN, sIf, sSet, sAug, setA, setL, putS, sPut, getA, sPutAug, tgName, tgNil, tgCons, tgTup, sTg, sPar, setFd, getFd, sFldS, sFldAugS, putE, eMut, isOL_own, hAppend, hExtend, hPop, eIter, eEnum, eRng, sFor, eYes, eLc, startE, backs, FR.of, okRes, eCall, isIns_nd, eMeth, eFrz, eSeal, newI, okSelf, eMake, sRaise, SR.fin, sTry, eIsi, partD, eInt, hSl, eSl, getP, setP, ownP, ownF_own, ownF_ro, ownF_pm, frz, frzL, frF_own, frF_ro, frF_pm, isRo, isRoL, roF_own, roF_ro, roF_pm, pmz, pmzL, clean, cleanL, isUns_nd, isUns_i, isUns_b, isUns_t, isUns_n, isUns_u, isPm_i, isPm_b, isPm_t, isPm_n, isPm_pm, isPm_ro', isPm_own, mkTup, killS, setS, List.getElem?_cons_zero, List.getElem?_cons_succ, List.set_cons_zero, List.set_cons_succ, List.map_cons, List.map_nil, List.length_cons, List.length_nil, List.cons_append, List.nil_append, List.append_nil, List.replicate_succ, List.replicate_zero, List.all_cons, List.all_nil, Bool.and_true, Bool.true_and, Bool.and_self, Bool.false_eq_true, Option.map_some, Option.map_none, Nat.reduceAdd, Nat.reduceSub, Nat.reduceBEq, beq_self_eq_true, Nat.reduceLT, Nat.sub_self, if_true, if_false, reduceIte, decide_true, decide_false, decide_eq_true_eq, true_and, and_true, and_self, or_true, true_or, or_self, false_or, or_false, false_and, and_false, Int.reduceLT, Int.reduceNeg, Int.reduceLE, Int.reduceAdd, Int.reduceSub, Int.reduceMul, Int.reduceEq, Int.reduceNe]
  | true =>
    have lp := (forL_fold (tg := tgTup (tgCons (tgName 5) (tgCons (tgName 6) tgNil))) (body := l_lower_bound_1 fu) (kl := [5, 6]) (fun p : Arc × Nat => .nd .tup .pm [.int (p.2 : Nat), dA .pm p.1])
      (fun b : Int => [some (dN n as), some (.int arc), some (.nd .lst .ro (dI ms)), none, some (.int b), none, none]) (lbStep arc ms) (fun _ => True) (as.zipIdx 0) 0 trivial fun b _ p _ => ⟨lb_turn fu arc ms b p (dN n as), trivial⟩).1
    simp only [m_lower_bound, b_lower_bound, arcs_eq, frz_dN, isRo_dN, isIns_dN, frzL_dI, isRoL_dI, dAs_len, i1, i2, dA_uns, frz_dA, isRo_dA, leaves_eq, he, Bool.not_false, Bool.not_true, frzL_dAs, itemsL, enum_dAs, lp, ER.bind, ER.of, PR.toE, PR.bind, ER.toP, ER.toS, PR.toS, LR.toE, LR.of, FR.toE, fName, fIx, ixOf, eConst, eMove, eLk, eSh, pF, pI, eLook, eRo, eShr, eOp2, eChain_s, eAnd_s, eOr_s, eNot, eIf, lNil, lCons, eLst, eTup, eCallV, hAbs, hMax2, hMin2, hInt, hLen, hList, hAddI, hSubI, hDivI, hModI, hShrI, hAndI, hMulI, hAdd, hAddS, hOr, hI, hIB, hCat, hIn, hNin, hIs, hIsnt, isN, hLt, hLe, hGt, hGe, eNeg, fIxV, eIxT, sNext, sSeq, sBreak, sCont, sDrop, sRet, sRetN, sIf, sSet, sAug, setA, setL, putS, sPut, getA, sPutAug, tgName, tgNil, tgCons, tgTup, sTg, sPar, setFd, getFd, sFldS, sFldAugS, putE, eMut, isOL_own, hAppend, hExtend, hPop, eIter, eEnum, eRng, sFor, eYes, eLc, startE, backs, FR.of, okRes, eCall, isIns_nd, eMeth, eFrz, eSeal, newI, okSelf, eMake, sRaise, SR.fin, sTry, eIsi, partD, eInt, hSl, eSl, getP, setP, ownP, ownF_own, ownF_ro, ownF_pm, frz, frzL, frF_own, frF_ro, frF_pm, isRo, isRoL, roF_own, roF_ro, roF_pm, pmz, pmzL, clean, cleanL, isUns_nd, isUns_i, isUns_b, isUns_t, isUns_n, isUns_u, isPm_i, isPm_b, isPm_t, isPm_n, isPm_pm, isPm_ro', isPm_own, mkTup, killS, setS, List.getElem?_cons_zero, List.getElem?_cons_succ, List.set_cons_zero, List.set_cons_succ, List.map_cons, List.map_nil, List.length_cons, List.length_nil, List.cons_append, List.nil_append, List.append_nil, List.replicate_succ, List.replicate_zero, List.all_cons, List.all_nil, Bool.and_true, Bool.true_and, Bool.and_self, Bool.false_eq_true, Option.map_some, Option.map_none, Nat.reduceAdd, Nat.reduceSub, Nat.reduceBEq, beq_self_eq_true, Nat.reduceLT, Nat.sub_self, if_true, if_false, reduceIte, decide_true, decide_false, decide_eq_true_eq, true_and, and_true, and_self, or_true, true_or, or_self, false_or, or_false, false_and, and_false, Int.reduceLT, Int.reduceNeg, Int.reduceLE, Int.reduceAdd, Int.reduceSub, Int.reduceMul, Int.reduceEq, Int.reduceNe]

/-! ### Network(..) -/
def inE (self : D) (n : Int) (as : List Arc) (o : Option Arc) : DL.Env := [some self, some (.int n), some (.nd .lst .ro (dAs .pm as)), o.map fun a => .int a.1, o.map fun a => .int a.2.1, o.map fun a => .int a.2.2.1, o.map fun a => .int a.2.2.2]
theorem in_turn (fu : Nat) (self : D) (n : Int) (as : List Arc) (o : Option Arc) (a : Arc) :
    turn (tgTup (tgCons (tgName 3) (tgCons (tgName 4) (tgCons (tgName 5) (tgCons (tgName 6) tgNil))))) (l_Network_init_1 fu) [] (dA .pm a) (inE self n as o) = if val n a = true then .nx (inE self n as (some a)) else .ex 1 none (inE self n as (some a)) := by
  unfold val inE
  by_cases h1 : 0 ≤ a.1
  · by_cases h2 : a.1 < n
    · by_cases h3 : 0 ≤ a.2.1
      · by_cases h4 : a.2.1 < n
        · by_cases h5 : a.1 = a.2.1
          · simp only [turn, l_Network_init_1, dA, h1, h2, h3, h4, h5, hEq_i, Bool.not_true, Bool.not_false, Bool.and_false, Bool.false_and, ne_eq, not_true_eq_false, not_false_eq_true, ER.bind, ER.of, PR.toE, PR.bind, ER.toP, ER.toS, PR.toS, LR.toE, LR.of, FR.toE, fName, fIx, ixOf, eConst, eMove, eLk, eSh, pF, pI, eLook, eRo, eShr, eOp2, eChain_s, eAnd_s, eOr_s, eNot, eIf, lNil, lCons, eLst, eTup, eCallV, hAbs, hMax2, hMin2, hInt, hLen, hList, hAddI, hSubI, hDivI, hModI, hShrI, hAndI, hMulI, hAdd, hAddS, hOr, hI, hIB, hCat, hIn, hNin, hIs, hIsnt, isN, hLt, hLe, hGt, hGe, eNeg, fIxV, eIxT, sNext, sSeq, sBreak, sCont, sDrop, sRet, sRetN, sIf, sSet, sAug, setA, setL, putS, sPut, getA, sPutAug, tgName, tgNil, tgCons, tgTup, sTg, sPar, setFd, getFd, sFldS, sFldAugS, putE, eMut, isOL_own, hAppend, hExtend, hPop, eIter, eEnum, eRng, sFor, eYes, eLc, startE, backs, FR.of, okRes, eCall, isIns_nd, eMeth, eFrz, eSeal, newI, okSelf, eMake, sRaise, SR.fin, sTry, eIsi, partD, eInt, hSl, eSl, getP, setP, ownP, ownF_own, ownF_ro, ownF_pm, frz, frzL, frF_own, frF_ro, frF_pm, isRo, isRoL, roF_own, roF_ro, roF_pm, pmz, pmzL, clean, cleanL, isUns_nd, isUns_i, isUns_b, isUns_t, isUns_n, isUns_u, isPm_i, isPm_b, isPm_t, isPm_n, isPm_pm, isPm_ro', isPm_own, mkTup, killS, setS, List.getElem?_cons_zero, List.getElem?_cons_succ, List.set_cons_zero, List.set_cons_succ, List.map_cons, List.map_nil, List.length_cons, List.length_nil, List.cons_append, List.nil_append, List.append_nil, List.replicate_succ, List.replicate_zero, List.all_cons, List.all_nil, Bool.and_true, Bool.true_and, Bool.and_self, Bool.false_eq_true, Option.map_some, Option.map_none, Nat.reduceAdd, Nat.reduceSub, Nat.reduceBEq, beq_self_eq_true, Nat.reduceLT, Nat.sub_self, if_true, if_false, reduceIte, decide_true, decide_false, decide_eq_true_eq, true_and, and_true, and_self, or_true, true_or, or_self, false_or, or_false, false_and, and_false, Int.reduceLT, Int.reduceNeg, Int.reduceLE, Int.reduceAdd, Int.reduceSub, Int.reduceMul, Int.reduceEq, Int.reduceNe]
          · by_cases h6 : 0 ≤ a.2.2.1
            · by_cases h7 : a.2.2.1 ≤ a.2.2.2
              · simp only [turn, l_Network_init_1, dA, h1, h2, h3, h4, h5, h6, h7, hEq_i, Bool.not_true, Bool.not_false, Bool.and_false, Bool.false_and, ne_eq, not_true_eq_false, not_false_eq_true, ER.bind, ER.of, PR.toE, PR.bind, ER.toP, ER.toS, PR.toS, LR.toE, LR.of, FR.toE, fName, fIx, ixOf, eConst, eMove, eLk, eSh, pF, pI, eLook, eRo, eShr, eOp2, eChain_s, eAnd_s, eOr_s, eNot, eIf, lNil, lCons, eLst, eTup, eCallV, hAbs, hMax2, hMin2, hInt, hLen, hList, hAddI, hSubI, hDivI, hModI, hShrI, hAndI, hMulI, hAdd, hAddS, hOr, hI, hIB, hCat, hIn, hNin, hIs, hIsnt, isN, hLt, hLe, hGt, hGe, eNeg, fIxV, eIxT, sNext, sSeq, sBreak, sCont, sDrop, sRet, sRetN, sIf, sSet, sAug, setA, setL, putS, sPut, getA, sPutAug, tgName, tgNil, tgCons, tgTup, sTg, sPar, setFd, getFd, sFldS, sFldAugS, putE, eMut, isOL_own, hAppend, hExtend, hPop, eIter, eEnum, eRng, sFor, eYes, eLc, startE, backs, FR.of, okRes, eCall, isIns_nd, eMeth, eFrz, eSeal, newI, okSelf, eMake, sRaise, SR.fin, sTry, eIsi, partD, eInt, hSl, eSl, getP, setP, ownP, ownF_own, ownF_ro, ownF_pm, frz, frzL, frF_own, frF_ro, frF_pm, isRo, isRoL, roF_own, roF_ro, roF_pm, pmz, pmzL, clean, cleanL, isUns_nd, isUns_i, isUns_b, isUns_t, isUns_n, isUns_u, isPm_i, isPm_b, isPm_t, isPm_n, isPm_pm, isPm_ro', isPm_own, mkTup, killS, setS, List.getElem?_cons_zero, List.getElem?_cons_succ, List.set_cons_zero, List.set_cons_succ, List.map_cons, List.map_nil, List.length_cons, List.length_nil, List.cons_append, List.nil_append, List.append_nil, List.replicate_succ, List.replicate_zero, List.all_cons, List.all_nil, Bool.and_true, Bool.true_and, Bool.and_self, Bool.false_eq_true, Option.map_some, Option.map_none, Nat.reduceAdd, Nat.reduceSub, Nat.reduceBEq, beq_self_eq_true, Nat.reduceLT, Nat.sub_self, if_true, if_false, reduceIte, decide_true, decide_false, decide_eq_true_eq, true_and, and_true, and_self, or_true, true_or, or_self, false_or, or_false, false_and, and_false, Int.reduceLT, Int.reduceNeg, Int.reduceLE, Int.reduceAdd, Int.reduceSub, Int.reduceMul, Int.reduceEq, Int.reduceNe]
              · simp only [turn, l_Network_init_1, dA, h1, h2, h3, h4, h5, h6, h7, hEq_i, Bool.not_true, Bool.not_false, Bool.and_false, Bool.false_and, ne_eq, not_true_eq_false, not_false_eq_true, ER.bind, ER.of, PR.toE, PR.bind, ER.toP, ER.toS, PR.toS, LR.toE, LR.of, FR.toE, fName, fIx, ixOf, eConst, eMove, eLk, eSh, pF, pI, eLook, eRo, eShr, eOp2, eChain_s, eAnd_s, eOr_s, eNot, eIf, lNil, lCons, eLst, eTup, eCallV, hAbs, hMax2, hMin2, hInt, hLen, hList, hAddI, hSubI, hDivI, hModI, hShrI, hAndI, hMulI, hAdd, hAddS, hOr, hI, hIB, hCat, hIn, hNin, hIs, hIsnt, isN, hLt, hLe, hGt, hGe, eNeg, fIxV, eIxT, sNext, sSeq, sBreak, sCont, sDrop, sRet, sRetN, sIf, sSet, sAug, setA, setL, putS, sPut, getA, sPutAug, tgName, tgNil, tgCons, tgTup, sTg, sPar, setFd, getFd, sFldS, sFldAugS, putE, eMut, isOL_own, hAppend, hExtend, hPop, eIter, eEnum, eRng, sFor, eYes, eLc, startE, backs, FR.of, okRes, eCall, isIns_nd, eMeth, eFrz, eSeal, newI, okSelf, eMake, sRaise, SR.fin, sTry, eIsi, partD, eInt, hSl, eSl, getP, setP, ownP, ownF_own, ownF_ro, ownF_pm, frz, frzL, frF_own, frF_ro, frF_pm, isRo, isRoL, roF_own, roF_ro, roF_pm, pmz, pmzL, clean, cleanL, isUns_nd, isUns_i, isUns_b, isUns_t, isUns_n, isUns_u, isPm_i, isPm_b, isPm_t, isPm_n, isPm_pm, isPm_ro', isPm_own, mkTup, killS, setS, List.getElem?_cons_zero, List.getElem?_cons_succ, List.set_cons_zero, List.set_cons_succ, List.map_cons, List.map_nil, List.length_cons, List.length_nil, List.cons_append, List.nil_append, List.append_nil, List.replicate_succ, List.replicate_zero, List.all_cons, List.all_nil, Bool.and_true, Bool.true_and, Bool.and_self, Bool.false_eq_true, Option.map_some, Option.map_none, Nat.reduceAdd, Nat.reduceSub, Nat.reduceBEq, beq_self_eq_true, Nat.reduceLT, Nat.sub_self, if_true, if_false, reduceIte, decide_true, decide_false, decide_eq_true_eq, true_and, and_true, and_self, or_true, true_or, or_self, false_or, or_false, false_and, and_false, Int.reduceLT, Int.reduceNeg, Int.reduceLE, Int.reduceAdd, Int.reduceSub, Int.reduceMul, Int.reduceEq, Int.reduceNe]
            · simp only [turn, l_Network_init_1, dA, h1, h2, h3, h4, h5, h6, hEq_i, Bool.not_true, Bool.not_false, Bool.and_false, Bool.false_and, ne_eq, not_true_eq_false, not_false_eq_true, ER.bind, ER.of, PR.toE, PR.bind, ER.toP, ER.toS, PR.toS, LR.toE, LR.of, FR.toE, fName, fIx, ixOf, eConst, eMove, eLk, eSh, pF, pI, eLook, eRo, eShr, eOp2, eChain_s, eAnd_s, eOr_s, eNot, eIf, lNil, lCons, eLst, eTup, eCallV, hAbs, hMax2, hMin2, hInt, hLen, hList, hAddI, hSubI, hDivI, hModI, hShrI, hAndI, hMulI, hAdd, hAddS, hOr, hI, hIB, hCat, hIn, hNin, hIs, hIsnt, isN, hLt, hLe, hGt, hGe, eNeg, fIxV, eIxT, sNext, sSeq, sBreak, sCont, sDrop, sRet, sRetN, sIf, sSet, sAug, setA, setL, putS, sPut, getA, sPutAug, tgName, tgNil, tgCons, tgTup, sTg, sPar, setFd, getFd, sFldS, sFldAugS, putE, eMut, isOL_own, hAppend, hExtend, hPop, eIter, eEnum, eRng, sFor, eYes, eLc, startE, backs, FR.of, okRes, eCall, isIns_nd, eMeth, eFrz, eSeal, newI, okSelf, eMake, sRaise, SR.fin, sTry, eIsi, partD, eInt, hSl, eSl, getP, setP, ownP, ownF_own, ownF_ro, ownF_pm, frz, frzL, frF_own, frF_ro, frF_pm, isRo, isRoL, roF_own, roF_ro, roF_pm, pmz, pmzL, clean, cleanL, isUns_nd, isUns_i, isUns_b, isUns_t, isUns_n, isUns_u, isPm_i, isPm_b, isPm_t, isPm_n, isPm_pm, isPm_ro', isPm_own, mkTup, killS, setS, List.getElem?_cons_zero, List.getElem?_cons_succ, List.set_cons_zero, List.set_cons_succ, List.map_cons, List.map_nil, List.length_cons, List.length_nil, List.cons_append, List.nil_append, List.append_nil, List.replicate_succ, List.replicate_zero, List.all_cons, List.all_nil, Bool.and_true, Bool.true_and, Bool.and_self, Bool.false_eq_true, Option.map_some, Option.map_none, Nat.reduceAdd, Nat.reduceSub, Nat.reduceBEq, beq_self_eq_true, Nat.reduceLT, Nat.sub_self, if_true, if_false, reduceIte, decide_true, decide_false, decide_eq_true_eq, true_and, and_true, and_self, or_true, true_or, or_self, false_or, or_false, false_and, and_false, Int.reduceLT, Int.reduceNeg, Int.reduceLE, Int.reduceAdd, Int.reduceSub, Int.reduceMul, Int.reduceEq, Int.reduceNe]
        · simp only [turn, l_Network_init_1, dA, h1, h2, h3, h4, hEq_i, Bool.not_true, Bool.not_false, Bool.and_false, Bool.false_and, ne_eq, not_true_eq_false, not_false_eq_true, ER.bind, ER.of, PR.toE, PR.bind, ER.toP, ER.toS, PR.toS, LR.toE, LR.of, FR.toE, fName, fIx, ixOf, eConst, eMove, eLk, eSh, pF, pI, eLook, eRo, eShr, eOp2, eChain_s, eAnd_s, eOr_s, eNot, eIf, lNil, lCons, eLst, eTup, eCallV, hAbs, hMax2, hMin2, hInt, hLen, hList, hAddI, hSubI, hDivI, hModI, hShrI, hAndI, hMulI, hAdd, hAddS, hOr, hI, hIB, hCat, hIn, hNin, hIs, hIsnt, isN, hLt, hLe, hGt, hGe, eNeg, fIxV, eIxT, sNext, sSeq, sBreak, sCont, sDrop, sRet, sRetN, sIf, sSet, sAug, setA, setL, putS, sPut, getA, sPutAug, tgName, tgNil, tgCons, tgTup, sTg, sPar, setFd, getFd, sFldS, sFldAugS, putE, eMut, isOL_own, hAppend, hExtend, hPop, eIter, eEnum, eRng, sFor, eYes, eLc, startE, backs, FR.of, okRes, eCall, isIns_nd, eMeth, eFrz, eSeal, newI, okSelf, eMake, sRaise, SR.fin, sTry, eIsi, partD, eInt, hSl, eSl, getP, setP, ownP, ownF_own, ownF_ro, ownF_pm, frz, frzL, frF_own, frF_ro, frF_pm, isRo, isRoL, roF_own, roF_ro, roF_pm, pmz, pmzL, clean, cleanL, isUns_nd, isUns_i, isUns_b, isUns_t, isUns_n, isUns_u, isPm_i, isPm_b, isPm_t, isPm_n, isPm_pm, isPm_ro', isPm_own, mkTup, killS, setS, List.getElem?_cons_zero, List.getElem?_cons_succ, List.set_cons_zero, List.set_cons_succ, List.map_cons, List.map_nil, List.length_cons, List.length_nil, List.cons_append, List.nil_append, List.append_nil, List.replicate_succ, List.replicate_zero, List.all_cons, List.all_nil, Bool.and_true, Bool.true_and, Bool.and_self, Bool.false_eq_true, Option.map_some, Option.map_none, Nat.reduceAdd, Nat.reduceSub, Nat.reduceBEq, beq_self_eq_true, Nat.reduceLT, Nat.sub_self, if_true, if_false, reduceIte, decide_true, decide_false, decide_eq_true_eq, true_and, and_true, and_self, or_true, true_or, or_self, false_or, or_false, false_and, and_false, Int.reduceLT, Int.reduceNeg, Int.reduceLE, Int.reduceAdd, Int.reduceSub, Int.reduceMul, Int.reduceEq, Int.reduceNe]
      · simp only [turn, l_Network_init_1, dA, h1, h2, h3, hEq_i, Bool.not_true, Bool.not_false, Bool.and_false, Bool.false_and, ne_eq, not_true_eq_false, not_false_eq_true, ER.bind, ER.of, PR.toE, PR.bind, ER.toP, ER.toS, PR.toS, LR.toE, LR.of, FR.toE, fName, fIx, ixOf, eConst, eMove, eLk, eSh, pF, pI, eLook, eRo, eShr, eOp2, eChain_s, eAnd_s, eOr_s, eNot, eIf, lNil, lCons, eLst, eTup, eCallV, hAbs, hMax2, hMin2, hInt, hLen, hList, hAddI, hSubI, hDivI, hModI, hShrI, hAndI, hMulI, hAdd, hAddS, hOr, hI, hIB, hCat, hIn, hNin, hIs, hIsnt, isN, hLt, hLe, hGt, hGe, eNeg, fIxV, eIxT, sNext, sSeq, sBreak, sCont, sDrop, sRet, sRetN, sIf, sSet, sAug, setA, setL, putS, sPut, getA, sPutAug, tgName, tgNil, tgCons, tgTup, sTg, sPar, setFd, getFd, sFldS, sFldAugS, putE, eMut, isOL_own, hAppend, hExtend, hPop, eIter, eEnum, eRng, sFor, eYes, eLc, startE, backs, FR.of, okRes, eCall, isIns_nd, eMeth, eFrz, eSeal, newI, okSelf, eMake, sRaise, SR.fin, sTry, eIsi, partD, eInt, hSl, eSl, getP, setP, ownP, ownF_own, ownF_ro, ownF_pm, frz, frzL, frF_own, frF_ro, frF_pm, isRo, isRoL, roF_own, roF_ro, roF_pm, pmz, pmzL, clean, cleanL, isUns_nd, isUns_i, isUns_b, isUns_t, isUns_n, isUns_u, isPm_i, isPm_b, isPm_t, isPm_n, isPm_pm, isPm_ro', isPm_own, mkTup, killS, setS, List.getElem?_cons_zero, List.getElem?_cons_succ, List.set_cons_zero, List.set_cons_succ, List.map_cons, List.map_nil, List.length_cons, List.length_nil, List.cons_append, List.nil_append, List.append_nil, List.replicate_succ, List.replicate_zero, List.all_cons, List.all_nil, Bool.and_true, Bool.true_and, Bool.and_self, Bool.false_eq_true, Option.map_some, Option.map_none, Nat.reduceAdd, Nat.reduceSub, Nat.reduceBEq, beq_self_eq_true, Nat.reduceLT, Nat.sub_self, if_true, if_false, reduceIte, decide_true, decide_false, decide_eq_true_eq, true_and, and_true, and_self, or_true, true_or, or_self, false_or, or_false, false_and, and_false, Int.reduceLT, Int.reduceNeg, Int.reduceLE, Int.reduceAdd, Int.reduceSub, Int.reduceMul, Int.reduceEq, Int.reduceNe]
    · simp only [turn, l_Network_init_1, dA, h1, h2, hEq_i, Bool.not_true, Bool.not_false, Bool.and_false, Bool.false_and, ne_eq, not_true_eq_false, not_false_eq_true, ER.bind, ER.of, PR.toE, PR.bind, ER.toP, ER.toS, PR.toS, LR.toE, LR.of, FR.toE, fName, fIx, ixOf, eConst, eMove, eLk, eSh, pF, pI, eLook, eRo, eShr, eOp2, eChain_s, eAnd_s, eOr_s, eNot, eIf, lNil, lCons, eLst, eTup, eCallV, hAbs, hMax2, hMin2, hInt, hLen, hList, hAddI, hSubI, hDivI, hModI, hShrI, hAndI, hMulI, hAdd, hAddS, hOr, hI, hIB, hCat, hIn, hNin, hIs, hIsnt, isN, hLt, hLe, hGt, hGe, eNeg, fIxV, eIxT, sNext, sSeq, sBreak, sCont, sDrop, sRet, sRetN, sIf, sSet, sAug, setA, setL, putS, sPut, getA, sPutAug, tgName, tgNil, tgCons, tgTup, sTg, sPar, setFd, getFd, sFldS, sFldAugS, putE, eMut, isOL_own, hAppend, hExtend, hPop, eIter, eEnum, eRng, sFor, eYes, eLc, startE, backs, FR.of, okRes, eCall, isIns_nd, eMeth, eFrz, eSeal, newI, okSelf, eMake, sRaise, SR.fin, sTry, eIsi, partD, eInt, hSl, eSl, getP, setP, ownP, ownF_own, ownF_ro, ownF_pm, frz, frzL, frF_own, frF_ro, frF_pm, isRo, isRoL, roF_own, roF_ro, roF_pm, pmz, pmzL, clean, cleanL, isUns_nd, isUns_i, isUns_b, isUns_t, isUns_n, isUns_u, isPm_i, isPm_b, isPm_t, isPm_n, isPm_pm, isPm_ro', isPm_own, mkTup, killS, setS, List.getElem?_cons_zero, List.getElem?_cons_succ, List.set_cons_zero, List.set_cons_succ, List.map_cons, List.map_nil, List.length_cons, List.length_nil, List.cons_append, List.nil_append, List.append_nil, List.replicate_succ, List.replicate_zero, List.all_cons, List.all_nil, Bool.and_true, Bool.true_and, Bool.and_self, Bool.false_eq_true, Option.map_some, Option.map_none, Nat.reduceAdd, Nat.reduceSub, Nat.reduceBEq, beq_self_eq_true, Nat.reduceLT, Nat.sub_self, if_true, if_false, reduceIte, decide_true, decide_false, decide_eq_true_eq, true_and, and_true, and_self, or_true, true_or, or_self, false_or, or_false, false_and, and_false, Int.reduceLT, Int.reduceNeg, Int.reduceLE, Int.reduceAdd, Int.reduceSub, Int.reduceMul, Int.reduceEq, Int.reduceNe]
  · simp only [turn, l_Network_init_1, dA, h1, hEq_i, Bool.not_true, Bool.not_false, Bool.and_false, Bool.false_and, ne_eq, not_true_eq_false, not_false_eq_true, ER.bind, ER.of, PR.toE, PR.bind, ER.toP, ER.toS, PR.toS, LR.toE, LR.of, FR.toE, fName, fIx, ixOf, eConst, eMove, eLk, eSh, pF, pI, eLook, eRo, eShr, eOp2, eChain_s, eAnd_s, eOr_s, eNot, eIf, lNil, lCons, eLst, eTup, eCallV, hAbs, hMax2, hMin2, hInt, hLen, hList, hAddI, hSubI, hDivI, hModI, hShrI, hAndI, hMulI, hAdd, hAddS, hOr, hI, hIB, hCat, hIn, hNin, hIs, hIsnt, isN, hLt, hLe, hGt, hGe, eNeg, fIxV, eIxT, sNext, sSeq, sBreak, sCont, sDrop, sRet, sRetN, sIf, sSet, sAug, setA, setL, putS, sPut, getA, sPutAug, tgName, tgNil, tgCons, tgTup, sTg, sPar, setFd, getFd, sFldS, sFldAugS, putE, eMut, isOL_own, hAppend, hExtend, hPop, eIter, eEnum, eRng, sFor, eYes, eLc, startE, backs, FR.of, okRes, eCall, isIns_nd, eMeth, eFrz, eSeal, newI, okSelf, eMake, sRaise, SR.fin, sTry, eIsi, partD, eInt, hSl, eSl, getP, setP, ownP, ownF_own, ownF_ro, ownF_pm, frz, frzL, frF_own, frF_ro, frF_pm, isRo, isRoL, roF_own, roF_ro, roF_pm, pmz, pmzL, clean, cleanL, isUns_nd, isUns_i, isUns_b, isUns_t, isUns_n, isUns_u, isPm_i, isPm_b, isPm_t, isPm_n, isPm_pm, isPm_ro', isPm_own, mkTup, killS, setS, List.getElem?_cons_zero, List.getElem?_cons_succ, List.set_cons_zero, List.set_cons_succ, List.map_cons, List.map_nil, List.length_cons, List.length_nil, List.cons_append, List.nil_append, List.append_nil, List.replicate_succ, List.replicate_zero, List.all_cons, List.all_nil, Bool.and_true, Bool.true_and, Bool.and_self, Bool.false_eq_true, Option.map_some, Option.map_none, Nat.reduceAdd, Nat.reduceSub, Nat.reduceBEq, beq_self_eq_true, Nat.reduceLT, Nat.sub_self, if_true, if_false, reduceIte, decide_true, decide_false, decide_eq_true_eq, true_and, and_true, and_self, or_true, true_or, or_self, false_or, or_false, false_and, and_false, Int.reduceLT, Int.reduceNeg, Int.reduceLE, Int.reduceAdd, Int.reduceSub, Int.reduceMul, Int.reduceEq, Int.reduceNe]
theorem last_foldlM {α : Type} (f : α → Bool) : ∀ (xs : List α) (s : Option α), (xs.all f = true → ∃ s', xs.foldlM (fun (_ : Option α) x => if f x = true then some (some x) else none) s = some s') ∧ (xs.all f = false → xs.foldlM (fun (_ : Option α) x => if f x = true then some (some x) else none) s = none)
  | [], s => ⟨fun _ => ⟨s, rfl⟩, fun h => by simp at h⟩
  | x :: xs, s => by
    rw [List.foldlM_cons, List.all_cons]
    cases h : f x with
    | true => simp only [if_true, Bool.true_and]; exact last_foldlM f xs (some x)
    | false => exact ⟨fun h => by simp at h, fun _ => rfl⟩
theorem in_loop (fu : Nat) (self : D) (n : Int) (as bs : List Arc) (o : Option Arc) : (bs.all (val n) = true → ∃ o', forL (tgTup (tgCons (tgName 3) (tgCons (tgName 4) (tgCons (tgName 5) (tgCons (tgName 6) tgNil))))) (l_Network_init_1 fu) [] (dAs .pm bs) (inE self n as o) = .nx (inE self n as o')) ∧
    (bs.all (val n) = false → ∃ o', forL (tgTup (tgCons (tgName 3) (tgCons (tgName 4) (tgCons (tgName 5) (tgCons (tgName 6) tgNil))))) (l_Network_init_1 fu) [] (dAs .pm bs) (inE self n as o) = .ex 1 none (inE self n as o')) := by
  have lp := forL_exc (tg := tgTup (tgCons (tgName 3) (tgCons (tgName 4) (tgCons (tgName 5) (tgCons (tgName 6) tgNil))))) (body := l_Network_init_1 fu) (kl := []) (dA .pm) (inE self n as) (fun (_ : Option Arc) x => if val n x = true then some (some x) else none) 1
    (fun e => ∃ o', e = inE self n as o') (fun _ => True) bs o trivial fun o _ a ha => by
      have t := in_turn fu self n as o a
      cases h : val n a with
      | true => rw [h] at t; exact ⟨t, trivial⟩
      | false => rw [h] at t; exact ⟨_, t, _, rfl⟩
  obtain ⟨f1, f2⟩ := last_foldlM (val n) bs o
  constructor
  · intro h
    obtain ⟨s', e⟩ := f1 h
    rw [e] at lp
    exact ⟨s', lp.1⟩
  · intro h
    rw [f2 h] at lp
    obtain ⟨e, l1, o', rfl⟩ := lp
    exact ⟨o', l1⟩
theorem init_bad (fu : Nat) (self : D) (n : Int) (as : List Arc) (h : as.all (val n) = false) : m_Network_init fu [self, .int n, .nd .lst .ro (dAs .pm as)] = .ex 1 none [self] := by
  obtain ⟨o', lp⟩ := (in_loop fu self n as as none).2 h
  have e : inE self n as none = [some self, some (.int n), some (.nd .lst .ro (dAs .pm as)), none, none, none, none] := rfl
  rw [e] at lp
  simp only [m_Network_init, b_Network_init, isRoL_dAs .ro rfl, isRoL_dAs .pm rfl, itemsD, itemsL, frzL_dAs, lp, ER.bind, ER.of, PR.toE, PR.bind, ER.toP, ER.toS, PR.toS, LR.toE, LR.of, FR.toE, fName, fIx, ixOf, eConst, eMove, eLk, eSh, pF, pI, eLook, eRo, eShr, eOp2, eChain_s, eAnd_s, eOr_s, eNot, eIf, lNil, lCons, eLst, eTup, eCallV, hAbs, hMax2, hMin2, hInt, hLen, hList, hAddI, hSubI, hDivI, hModI, hShrI, hAndI, hMulI, hAdd, hAddS, hOr, hI, hIB, hCat, hIn, hNin, hIs, hIsnt, isN, hLt, hLe, hGt, hGe, eNeg, fIxV, eIxT, sNext, sSeq, sBreak, sCont, sDrop, sRet, sRetN, sIf, sSet, sAug, setA, setL, putS, sPut, getA, sPutAug, tgName, tgNil, tgCons, tgTup, sTg, sPar, setFd, getFd, sFldS, sFldAugS, putE, eMut, isOL_own, hAppend, hExtend, hPop, eIter, eEnum, eRng, sFor, eYes, eLc, startE, backs, FR.of, okRes, eCall, isIns_nd, eMeth, eFrz, eSeal, newI, okSelf, eMake, sRaise, SR.fin, sTry, eIsi, partD, eInt, hSl, eSl, getP, setP, ownP, ownF_own, ownF_ro, ownF_pm, frz, frzL, frF_own, frF_ro, frF_pm, isRo, isRoL, roF_own, roF_ro, roF_pm, pmz, pmzL, clean, cleanL, isUns_nd, isUns_i, isUns_b, isUns_t, isUns_n, isUns_u, isPm_i, isPm_b, isPm_t, isPm_n, isPm_pm, isPm_ro', isPm_own, mkTup, killS, setS, List.getElem?_cons_zero, List.getElem?_cons_succ, List.set_cons_zero, List.set_cons_succ, List.map_cons, List.map_nil, List.length_cons, List.length_nil, List.cons_append, List.nil_append, List.append_nil, List.replicate_succ, List.replicate_zero, List.all_cons, List.all_nil, Bool.and_true, Bool.true_and, Bool.and_self, Bool.false_eq_true, Option.map_some, Option.map_none, Nat.reduceAdd, Nat.reduceSub, Nat.reduceBEq, beq_self_eq_true, Nat.reduceLT, Nat.sub_self, if_true, if_false, reduceIte, decide_true, decide_false, decide_eq_true_eq, true_and, and_true, and_self, or_true, true_or, or_self, false_or, or_false, false_and, and_false, Int.reduceLT, Int.reduceNeg, Int.reduceLE, Int.reduceAdd, Int.reduceSub, Int.reduceMul, Int.reduceEq, Int.reduceNe]
  rfl
theorem init_ok (fu : Nat) (n : Int) (as : List Arc) (hl : as.length ≤ 900) (h : as.all (val n) = true) : m_Network_init fu [newI 0 2, .int n, .nd .lst .ro (dAs .pm as)] = .ok .non [.nd (.ins 0) .own [.int n, .nd .lst .own (dAs .pm as)]] := by
  obtain ⟨o', lp⟩ := (in_loop fu (newI 0 2) n as as none).1 h
  have e : inE (newI 0 2) n as none = [some (newI 0 2), some (.int n), some (.nd .lst .ro (dAs .pm as)), none, none, none, none] := rfl
  have e2 : inE (newI 0 2) n as o' = [some (newI 0 2), some (.int n), some (.nd .lst .ro (dAs .pm as)), o'.map fun a => .int a.1, o'.map fun a => .int a.2.1, o'.map fun a => .int a.2.2.1, o'.map fun a => .int a.2.2.2] := rfl
  rw [e, e2] at lp
  have hb : as.length < sizeLine := Nat.lt_of_lt_of_le (m := 1000) (by omega) (small_line (Nat.le_refl _))
  have lc := lcL_map (tg := tgTup (tgCons (tgName 3) (tgCons (tgName 4) (tgCons (tgName 5) (tgCons (tgName 6) tgNil))))) (ct := eYes) (fe := v_Network_init_2 fu) (vs := [3, 4, 5, 6]) (dA .pm) (dA .pm)
    [some (.nd (.ins 0) .own [.int n, .uns]), none, none, none, none, none, none] as [] fun a _ => by
      simp only [lcT, v_Network_init_2, dA, ER.bind, ER.of, PR.toE, PR.bind, ER.toP, ER.toS, PR.toS, LR.toE, LR.of, FR.toE, fName, fIx, ixOf, eConst, eMove, eLk, eSh, pF, pI, eLook, eRo, eShr, eOp2, eChain_s, eAnd_s, eOr_s, eNot, eIf, lNil, lCons, eLst, eTup, eCallV, hAbs, hMax2, hMin2, hInt, hLen, hList, hAddI, hSubI, hDivI, hModI, hShrI, hAndI, hMulI, hAdd, hAddS, hOr, hI, hIB, hCat, hIn, hNin, hIs, hIsnt, isN, hLt, hLe, hGt, hGe, eNeg, fIxV, eIxT, sNext, sSeq, sBreak, sCont, sDrop, sRet, sRetN, sIf, sSet, sAug, setA, setL, putS, sPut, getA, sPutAug, tgName, tgNil, tgCons, tgTup, sTg, sPar, setFd, getFd, sFldS, sFldAugS, putE, eMut, isOL_own, hAppend, hExtend, hPop, eIter, eEnum, eRng, sFor, eYes, eLc, startE, backs, FR.of, okRes, eCall, isIns_nd, eMeth, eFrz, eSeal, newI, okSelf, eMake, sRaise, SR.fin, sTry, eIsi, partD, eInt, hSl, eSl, getP, setP, ownP, ownF_own, ownF_ro, ownF_pm, frz, frzL, frF_own, frF_ro, frF_pm, isRo, isRoL, roF_own, roF_ro, roF_pm, pmz, pmzL, clean, cleanL, isUns_nd, isUns_i, isUns_b, isUns_t, isUns_n, isUns_u, isPm_i, isPm_b, isPm_t, isPm_n, isPm_pm, isPm_ro', isPm_own, mkTup, killS, setS, List.getElem?_cons_zero, List.getElem?_cons_succ, List.set_cons_zero, List.set_cons_succ, List.map_cons, List.map_nil, List.length_cons, List.length_nil, List.cons_append, List.nil_append, List.append_nil, List.replicate_succ, List.replicate_zero, List.all_cons, List.all_nil, Bool.and_true, Bool.true_and, Bool.and_self, Bool.false_eq_true, Option.map_some, Option.map_none, Nat.reduceAdd, Nat.reduceSub, Nat.reduceBEq, beq_self_eq_true, Nat.reduceLT, Nat.sub_self, if_true, if_false, reduceIte, decide_true, decide_false, decide_eq_true_eq, true_and, and_true, and_self, or_true, true_or, or_self, false_or, or_false, false_and, and_false, Int.reduceLT, Int.reduceNeg, Int.reduceLE, Int.reduceAdd, Int.reduceSub, Int.reduceMul, Int.reduceEq, Int.reduceNe]
  have e3 : as.map (dA .pm) = dAs .pm as := rfl
  rw [e3, List.nil_append] at lc
  simp only [newI, List.replicate_succ, List.replicate_zero] at lp
  simp only [m_Network_init, b_Network_init, newI, isRoL_dAs .ro rfl, isRoL_dAs .pm rfl, itemsD, itemsL, frzL_dAs, dAs_len, hb, lp, eLc, lc, ER.bind, ER.of, PR.toE, PR.bind, ER.toP, ER.toS, PR.toS, LR.toE, LR.of, FR.toE, fName, fIx, ixOf, eConst, eMove, eLk, eSh, pF, pI, eLook, eRo, eShr, eOp2, eChain_s, eAnd_s, eOr_s, eNot, eIf, lNil, lCons, eLst, eTup, eCallV, hAbs, hMax2, hMin2, hInt, hLen, hList, hAddI, hSubI, hDivI, hModI, hShrI, hAndI, hMulI, hAdd, hAddS, hOr, hI, hIB, hCat, hIn, hNin, hIs, hIsnt, isN, hLt, hLe, hGt, hGe, eNeg, fIxV, eIxT, sNext, sSeq, sBreak, sCont, sDrop, sRet, sRetN, sIf, sSet, sAug, setA, setL, putS, sPut, getA, sPutAug, tgName, tgNil, tgCons, tgTup, sTg, sPar, setFd, getFd, sFldS, sFldAugS, putE, eMut, isOL_own, hAppend, hExtend, hPop, eIter, eEnum, eRng, sFor, eYes, eLc, startE, backs, FR.of, okRes, eCall, isIns_nd, eMeth, eFrz, eSeal, newI, okSelf, eMake, sRaise, SR.fin, sTry, eIsi, partD, eInt, hSl, eSl, getP, setP, ownP, ownF_own, ownF_ro, ownF_pm, frz, frzL, frF_own, frF_ro, frF_pm, isRo, isRoL, roF_own, roF_ro, roF_pm, pmz, pmzL, clean, cleanL, isUns_nd, isUns_i, isUns_b, isUns_t, isUns_n, isUns_u, isPm_i, isPm_b, isPm_t, isPm_n, isPm_pm, isPm_ro', isPm_own, mkTup, killS, setS, List.getElem?_cons_zero, List.getElem?_cons_succ, List.set_cons_zero, List.set_cons_succ, List.map_cons, List.map_nil, List.length_cons, List.length_nil, List.cons_append, List.nil_append, List.append_nil, List.replicate_succ, List.replicate_zero, List.all_cons, List.all_nil, Bool.and_true, Bool.true_and, Bool.and_self, Bool.false_eq_true, Option.map_some, Option.map_none, Nat.reduceAdd, Nat.reduceSub, Nat.reduceBEq, beq_self_eq_true, Nat.reduceLT, Nat.sub_self, if_true, if_false, reduceIte, decide_true, decide_false, decide_eq_true_eq, true_and, and_true, and_self, or_true, true_or, or_self, false_or, or_false, false_and, and_false, Int.reduceLT, Int.reduceNeg, Int.reduceLE, Int.reduceAdd, Int.reduceSub, Int.reduceMul, Int.reduceEq, Int.reduceNe]
end Pl
set_option linter.all false
set_option maxRecDepth 100000
set_option maxHeartbeats 1000000
namespace Pl
open PySem PySem.Spec PyProof.Rows L2 DL Mn Wk
/-! ### the law's own is_flow -/
theorem rng_zip (as : List Arc) : rngD 0 1 as.length = (as.zipIdx 0).map fun p => .int (p.2 : Nat) := by
  refine List.ext_getElem (by simp [rngD]) fun i h1 h2 => ?_
  simp [rngD]
theorem dAs_k {as : List Arc} {p : Arc × Nat} (h : p ∈ as.zipIdx 0) : L2.ixN as.length (p.2 : Nat) = some p.2 ∧ (dAs .pm as)[p.2]? = some (dA .pm p.1) := by
  obtain ⟨h1, h2, h3⟩ := List.mem_zipIdx h
  have hl : p.2 < as.length := by omega
  refine ⟨ixN_nat hl, ?_⟩
  rw [dAs_get, List.getElem?_eq_getElem hl]
  have : as[p.2] = p.1 := by rw [h3]; simp
  rw [this]; rfl
def lisStep (vs : List Int) (f : List Int) (p : Arc × Nat) : Option (List Int) := if capOk vs p = true then some (surStep vs f p) else none
theorem lis_turn (fu : Nat) (n : Int) (fl fl2 : Fl) (as : List Arc) (vs f : List Int) (p : Arc × Nat) (hm : p ∈ as.zipIdx 0) (hf : (f.length : Int) = n) (ho : okN n p.1) (hp : p.2 < vs.length) :
    ∃ e, turn (tgName 4) (l_law_is_flow_1 fu) [4] (.int (p.2 : Nat)) [some (.int n), some (.nd .lst fl (dAs .pm as)), some (.nd .lst fl2 (dI vs)), some (.nd .lst .own (dI f)), none] =
      match lisStep vs f p with
      | some f' => .nx [some (.int n), some (.nd .lst fl (dAs .pm as)), some (.nd .lst fl2 (dI vs)), some (.nd .lst .own (dI f')), none]
      | none => .rt (.bl false) e := by
  obtain ⟨h1, h2, h3, h4⟩ := ho
  obtain ⟨q1, q2⟩ := dAs_k hm
  have k1 : 0 ≤ ((p.2 : Nat) : Int) := by omega
  have k2 : ((p.2 : Nat) : Int) < vs.length := by omega
  have k3 : p.1.1 < (f.length : Int) := by omega
  have k4 : p.1.2.1 < ((f.set p.1.1.toNat (f.getD p.1.1.toNat 0 - vs.getD p.2 0)).length : Int) := by rw [List.length_set]; omega
  obtain ⟨a1, a2⟩ := dI_i h1 k3
  obtain ⟨b1, b2⟩ := dI_i (f := vs) k1 k2
  obtain ⟨c1, c2⟩ := dI_i (f := f.set p.1.1.toNat (f.getD p.1.1.toNat 0 - vs.getD p.2 0)) h3 k4
  rw [Int.toNat_natCast] at b1 b2
  refine ⟨[some (.int n), some (.nd .lst fl (dAs .pm as)), some (.nd .lst fl2 (dI vs)), some (.nd .lst .own (dI f)), some (.int (p.2 : Nat))], ?_⟩
  have cap : (decide (p.1.2.2.1 ≤ vs.getD p.2 0) && decide (vs.getD p.2 0 ≤ p.1.2.2.2)) = capOk vs p := rfl
  have z0 : L2.ixN 4 0 = some 0 := rfl
  have z1 : L2.ixN 4 1 = some 1 := rfl
  have z2 : L2.ixN 4 2 = some 2 := rfl
  have z3 : L2.ixN 4 3 = some 3 := rfl
  unfold lisStep
  by_cases g1 : p.1.2.2.1 ≤ vs.getD p.2 0
  · by_cases g2 : vs.getD p.2 0 ≤ p.1.2.2.2
    · have g : capOk vs p = true := by rw [← cap, decide_eq_true g1, decide_eq_true g2]; rfl
      rw [g]
      simp only [turn, l_law_is_flow_1, dAs_len, q1, q2, dA, z0, z1, z2, z3, a1, a2, b1, b2, dI_set, c1, c2, g1, g2, Int.toNat_natCast, Bool.not_true, ER.bind, ER.of, PR.toE, PR.bind, ER.toP, ER.toS, PR.toS, LR.toE, LR.of, FR.toE, fName, fIx, ixOf, eConst, eMove, eLk, eSh, pF, pI, eLook, eRo, eShr, eOp2, eChain_s, eAnd_s, eOr_s, eNot, eIf, lNil, lCons, eLst, eTup, eCallV, hAbs, hMax2, hMin2, hInt, hLen, hList, hAddI, hSubI, hDivI, hModI, hShrI, hAndI, hMulI, hAdd, hAddS, hOr, hI, hIB, hCat, hIn, hNin, hIs, hIsnt, isN, hLt, hLe, hGt, hGe, eNeg, fIxV, eIxT, sNext, sSeq, sBreak, sCont, sDrop, sRet, sRetN, sIf, sSet, sAug, setA, setL, putS, sPut, getA, sPutAug, tgName, tgNil, tgCons, tgTup, sTg, sPar, setFd, getFd, sFldS, sFldAugS, putE, eMut, isOL_own, hAppend, hExtend, hPop, eIter, eEnum, eRng, sFor, eYes, eLc, startE, backs, FR.of, okRes, eCall, isIns_nd, eMeth, eFrz, eSeal, newI, okSelf, eMake, sRaise, SR.fin, sTry, eIsi, partD, eInt, hSl, eSl, getP, setP, ownP, ownF_own, ownF_ro, ownF_pm, frz, frzL, frF_own, frF_ro, frF_pm, isRo, isRoL, roF_own, roF_ro, roF_pm, pmz, pmzL, clean, cleanL, isUns_nd, isUns_i, isUns_b, isUns_t, isUns_n, isUns_u, isPm_i, isPm_b, isPm_t, isPm_n, isPm_pm, isPm_ro', isPm_own, mkTup, killS, setS, List.getElem?_cons_zero, List.getElem?_cons_succ, List.set_cons_zero, List.set_cons_succ, List.map_cons, List.map_nil, List.length_cons, List.length_nil, List.cons_append, List.nil_append, List.append_nil, List.replicate_succ, List.replicate_zero, List.all_cons, List.all_nil, Bool.and_true, Bool.true_and, Bool.and_self, Bool.false_eq_true, Option.map_some, Option.map_none, Nat.reduceAdd, Nat.reduceSub, Nat.reduceBEq, beq_self_eq_true, Nat.reduceLT, Nat.sub_self, if_true, if_false, reduceIte, decide_true, decide_false, decide_eq_true_eq, true_and, and_true, and_self, or_true, true_or, or_self, false_or, or_false, false_and, and_false, Int.reduceLT, Int.reduceNeg, Int.reduceLE, Int.reduceAdd, Int.reduceSub, Int.reduceMul, Int.reduceEq, Int.reduceNe]
      rfl
    · have g : capOk vs p = false := by rw [← cap, decide_eq_false g2, Bool.and_false]
      rw [g]
      simp only [turn, l_law_is_flow_1, dAs_len, q1, q2, dA, z0, z1, z2, z3, b1, b2, g1, g2, Bool.not_false, ER.bind, ER.of, PR.toE, PR.bind, ER.toP, ER.toS, PR.toS, LR.toE, LR.of, FR.toE, fName, fIx, ixOf, eConst, eMove, eLk, eSh, pF, pI, eLook, eRo, eShr, eOp2, eChain_s, eAnd_s, eOr_s, eNot, eIf, lNil, lCons, eLst, eTup, eCallV, hAbs, hMax2, hMin2, hInt, hLen, hList, hAddI, hSubI, hDivI, hModI, hShrI, hAndI, hMulI, hAdd, hAddS, hOr, hI, hIB, hCat, hIn, hNin, hIs, hIsnt, isN, hLt, hLe, hGt, hGe, eNeg, fIxV, eIxT, sNext, sSeq, sBreak, sCont, sDrop, sRet, sRetN, sIf, sSet, sAug, setA, setL, putS, sPut, getA, sPutAug, tgName, tgNil, tgCons, tgTup, sTg, sPar, setFd, getFd, sFldS, sFldAugS, putE, eMut, isOL_own, hAppend, hExtend, hPop, eIter, eEnum, eRng, sFor, eYes, eLc, startE, backs, FR.of, okRes, eCall, isIns_nd, eMeth, eFrz, eSeal, newI, okSelf, eMake, sRaise, SR.fin, sTry, eIsi, partD, eInt, hSl, eSl, getP, setP, ownP, ownF_own, ownF_ro, ownF_pm, frz, frzL, frF_own, frF_ro, frF_pm, isRo, isRoL, roF_own, roF_ro, roF_pm, pmz, pmzL, clean, cleanL, isUns_nd, isUns_i, isUns_b, isUns_t, isUns_n, isUns_u, isPm_i, isPm_b, isPm_t, isPm_n, isPm_pm, isPm_ro', isPm_own, mkTup, killS, setS, List.getElem?_cons_zero, List.getElem?_cons_succ, List.set_cons_zero, List.set_cons_succ, List.map_cons, List.map_nil, List.length_cons, List.length_nil, List.cons_append, List.nil_append, List.append_nil, List.replicate_succ, List.replicate_zero, List.all_cons, List.all_nil, Bool.and_true, Bool.true_and, Bool.and_self, Bool.false_eq_true, Option.map_some, Option.map_none, Nat.reduceAdd, Nat.reduceSub, Nat.reduceBEq, beq_self_eq_true, Nat.reduceLT, Nat.sub_self, if_true, if_false, reduceIte, decide_true, decide_false, decide_eq_true_eq, true_and, and_true, and_self, or_true, true_or, or_self, false_or, or_false, false_and, and_false, Int.reduceLT, Int.reduceNeg, Int.reduceLE, Int.reduceAdd, Int.reduceSub, Int.reduceMul, Int.reduceEq, Int.reduceNe]
  · have g : capOk vs p = false := by rw [← cap, decide_eq_false g1, Bool.false_and]
    rw [g]
    simp only [turn, l_law_is_flow_1, dAs_len, q1, q2, dA, z0, z1, z2, z3, b1, b2, g1, Bool.not_false, ER.bind, ER.of, PR.toE, PR.bind, ER.toP, ER.toS, PR.toS, LR.toE, LR.of, FR.toE, fName, fIx, ixOf, eConst, eMove, eLk, eSh, pF, pI, eLook, eRo, eShr, eOp2, eChain_s, eAnd_s, eOr_s, eNot, eIf, lNil, lCons, eLst, eTup, eCallV, hAbs, hMax2, hMin2, hInt, hLen, hList, hAddI, hSubI, hDivI, hModI, hShrI, hAndI, hMulI, hAdd, hAddS, hOr, hI, hIB, hCat, hIn, hNin, hIs, hIsnt, isN, hLt, hLe, hGt, hGe, eNeg, fIxV, eIxT, sNext, sSeq, sBreak, sCont, sDrop, sRet, sRetN, sIf, sSet, sAug, setA, setL, putS, sPut, getA, sPutAug, tgName, tgNil, tgCons, tgTup, sTg, sPar, setFd, getFd, sFldS, sFldAugS, putE, eMut, isOL_own, hAppend, hExtend, hPop, eIter, eEnum, eRng, sFor, eYes, eLc, startE, backs, FR.of, okRes, eCall, isIns_nd, eMeth, eFrz, eSeal, newI, okSelf, eMake, sRaise, SR.fin, sTry, eIsi, partD, eInt, hSl, eSl, getP, setP, ownP, ownF_own, ownF_ro, ownF_pm, frz, frzL, frF_own, frF_ro, frF_pm, isRo, isRoL, roF_own, roF_ro, roF_pm, pmz, pmzL, clean, cleanL, isUns_nd, isUns_i, isUns_b, isUns_t, isUns_n, isUns_u, isPm_i, isPm_b, isPm_t, isPm_n, isPm_pm, isPm_ro', isPm_own, mkTup, killS, setS, List.getElem?_cons_zero, List.getElem?_cons_succ, List.set_cons_zero, List.set_cons_succ, List.map_cons, List.map_nil, List.length_cons, List.length_nil, List.cons_append, List.nil_append, List.append_nil, List.replicate_succ, List.replicate_zero, List.all_cons, List.all_nil, Bool.and_true, Bool.true_and, Bool.and_self, Bool.false_eq_true, Option.map_some, Option.map_none, Nat.reduceAdd, Nat.reduceSub, Nat.reduceBEq, beq_self_eq_true, Nat.reduceLT, Nat.sub_self, if_true, if_false, reduceIte, decide_true, decide_false, decide_eq_true_eq, true_and, and_true, and_self, or_true, true_or, or_self, false_or, or_false, false_and, and_false, Int.reduceLT, Int.reduceNeg, Int.reduceLE, Int.reduceAdd, Int.reduceSub, Int.reduceMul, Int.reduceEq, Int.reduceNe]

theorem lis_fold (vs : List Int) : ∀ (ps : List (Arc × Nat)) (f : List Int), ps.foldlM (lisStep vs) f = if ps.all (capOk vs) = true then some (ps.foldl (surStep vs) f) else none
  | [], f => rfl
  | p :: ps, f => by
    rw [List.foldlM_cons, List.all_cons, List.foldl_cons]
    unfold lisStep
    cases h : capOk vs p with
    | true =>
      simp only [if_true, Bool.true_and]
      exact lis_fold vs ps _
    | false => rfl
theorem len_rng (fl : Fl) (as : List Arc) (j : Nat) (env : DL.Env) (hl : as.length ≤ 1000) (he : env[j]? = some (some (.nd .lst fl (dAs .pm as)))) :
    eRng (lCons (eCallV hLen (lCons (eLk (fName j)) lNil)) lNil) env = .ok ((as.zipIdx 0).map fun p => .int (p.2 : Nat)) env := by
  have e1 : lCons (eCallV hLen (lCons (eLk (fName j)) lNil)) lNil env = .ok [.int (as.length : Nat)] env := by
    simp only [lCons, eCallV, eLk, eLook, fName, he, PR.toE, LR.toE, lNil, hLen, dAs_len, ER.of]
  exact eRng_of e1 (by rw [rng1 hl, rng_zip])
theorem lis_eq (fu : Nat) (n : Int) (fl fl2 : Fl) (as : List Arc) (vs : List Int) (h0 : 0 ≤ n) (hn : n ≤ 1000) (hl : as.length ≤ 1000) (ho : ∀ a ∈ as, okN n a) :
    m_law_is_flow fu [.int n, .nd .lst fl (dAs .pm as), .nd .lst fl2 (dI vs)] = .ok (.bl (isf n as vs)) [] := by
  unfold isf
  by_cases hv : vs.length = as.length
  · have lp := forL_ret (tg := tgName 4) (body := l_law_is_flow_1 fu) (kl := [4]) (fun p : Arc × Nat => .int (p.2 : Nat)) (fun f : List Int => [some (.int n), some (.nd .lst fl (dAs .pm as)), some (.nd .lst fl2 (dI vs)), some (.nd .lst .own (dI f)), none])
      (lisStep vs) (.bl false) (fun f => (f.length : Int) = n) (as.zipIdx 0) (List.replicate n.toNat 0) (by rw [List.length_replicate]; omega) fun f hf p hp => by
        obtain ⟨e, t⟩ := lis_turn fu n fl fl2 as vs f p hp hf (ho p.1 (zip_mem hp).1) (by rw [hv]; exact (zip_mem hp).2)
        cases hc : lisStep vs f p with
        | some f' =>
          rw [hc] at t
          refine ⟨t, ?_⟩
          unfold lisStep at hc
          split at hc
          · cases hc
            unfold surStep
            rw [inc_len, inc_len]; exact hf
          · cases hc
        | none => rw [hc] at t; exact ⟨e, t⟩
    rw [lis_fold] at lp
    have hr := len_rng fl as 1 [some (.int n), some (.nd .lst fl (dAs .pm as)), some (.nd .lst fl2 (dI vs)), some (.nd .lst .own (dI (List.replicate n.toNat 0))), none] hl rfl
    cases ha : (as.zipIdx 0).all (capOk vs) with
    | true =>
      rw [ha] at lp
      simp only [if_true] at lp
      obtain ⟨lp, _⟩ := lp
      have es : (as.zipIdx 0).foldl (surStep vs) (List.replicate n.toNat 0) = sur n as vs := by unfold sur; with_reducible rfl
      rw [es] at lp
      simp only [m_law_is_flow, b_law_is_flow, hLen, dAs_len, dI_len, hv, hNe_i, ne_eq, not_true_eq_false, rep0 h0 hn, hr, lp, eq_dI, Bool.true_and, ER.bind, ER.of, PR.toE, PR.bind, ER.toP, ER.toS, PR.toS, LR.toE, LR.of, FR.toE, fName, fIx, ixOf, eConst, eMove, eLk, eSh, pF, pI, eLook, eRo, eShr, eOp2, eChain_s, eAnd_s, eOr_s, eNot, eIf, lNil, lCons, eLst, eTup, eCallV, hAbs, hMax2, hMin2, hInt, hLen, hList, hAddI, hSubI, hDivI, hModI, hShrI, hAndI, hMulI, hAdd, hAddS, hOr, hI, hIB, hCat, hIn, hNin, hIs, hIsnt, isN, hLt, hLe, hGt, hGe, eNeg, fIxV, eIxT, sNext, sSeq, sBreak, sCont, sDrop, sRet, sRetN, sIf, sSet, sAug, setA, setL, putS, sPut, getA, sPutAug, tgName, tgNil, tgCons, tgTup, sTg, sPar, setFd, getFd, sFldS, sFldAugS, putE, eMut, isOL_own, hAppend, hExtend, hPop, eIter, eEnum, sFor, eYes, eLc, startE, backs, FR.of, okRes, eCall, isIns_nd, eMeth, eFrz, eSeal, newI, okSelf, eMake, sRaise, SR.fin, sTry, eIsi, partD, eInt, hSl, eSl, getP, setP, ownP, ownF_own, ownF_ro, ownF_pm, frz, frzL, frF_own, frF_ro, frF_pm, isRo, isRoL, roF_own, roF_ro, roF_pm, pmz, pmzL, clean, cleanL, isUns_nd, isUns_i, isUns_b, isUns_t, isUns_n, isUns_u, isPm_i, isPm_b, isPm_t, isPm_n, isPm_pm, isPm_ro', isPm_own, mkTup, killS, setS, List.getElem?_cons_zero, List.getElem?_cons_succ, List.set_cons_zero, List.set_cons_succ, List.map_cons, List.map_nil, List.length_cons, List.length_nil, List.cons_append, List.nil_append, List.append_nil, List.replicate_succ, List.replicate_zero, List.all_cons, List.all_nil, Bool.and_true, Bool.true_and, Bool.and_self, Bool.false_eq_true, Option.map_some, Option.map_none, Nat.reduceAdd, Nat.reduceSub, Nat.reduceBEq, beq_self_eq_true, Nat.reduceLT, Nat.sub_self, if_true, if_false, reduceIte, decide_true, decide_false, decide_eq_true_eq, true_and, and_true, and_self, or_true, true_or, or_self, false_or, or_false, false_and, and_false, Int.reduceLT, Int.reduceNeg, Int.reduceLE, Int.reduceAdd, Int.reduceSub, Int.reduceMul, Int.reduceEq, Int.reduceNe]
    | false =>
      rw [ha] at lp
      simp only [Bool.false_eq_true, if_false] at lp
      obtain ⟨e, lp⟩ := lp
      simp only [m_law_is_flow, b_law_is_flow, hLen, dAs_len, dI_len, hv, hNe_i, ne_eq, not_true_eq_false, rep0 h0 hn, hr, lp, Bool.false_and, ER.bind, ER.of, PR.toE, PR.bind, ER.toP, ER.toS, PR.toS, LR.toE, LR.of, FR.toE, fName, fIx, ixOf, eConst, eMove, eLk, eSh, pF, pI, eLook, eRo, eShr, eOp2, eChain_s, eAnd_s, eOr_s, eNot, eIf, lNil, lCons, eLst, eTup, eCallV, hAbs, hMax2, hMin2, hInt, hLen, hList, hAddI, hSubI, hDivI, hModI, hShrI, hAndI, hMulI, hAdd, hAddS, hOr, hI, hIB, hCat, hIn, hNin, hIs, hIsnt, isN, hLt, hLe, hGt, hGe, eNeg, fIxV, eIxT, sNext, sSeq, sBreak, sCont, sDrop, sRet, sRetN, sIf, sSet, sAug, setA, setL, putS, sPut, getA, sPutAug, tgName, tgNil, tgCons, tgTup, sTg, sPar, setFd, getFd, sFldS, sFldAugS, putE, eMut, isOL_own, hAppend, hExtend, hPop, eIter, eEnum, sFor, eYes, eLc, startE, backs, FR.of, okRes, eCall, isIns_nd, eMeth, eFrz, eSeal, newI, okSelf, eMake, sRaise, SR.fin, sTry, eIsi, partD, eInt, hSl, eSl, getP, setP, ownP, ownF_own, ownF_ro, ownF_pm, frz, frzL, frF_own, frF_ro, frF_pm, isRo, isRoL, roF_own, roF_ro, roF_pm, pmz, pmzL, clean, cleanL, isUns_nd, isUns_i, isUns_b, isUns_t, isUns_n, isUns_u, isPm_i, isPm_b, isPm_t, isPm_n, isPm_pm, isPm_ro', isPm_own, mkTup, killS, setS, List.getElem?_cons_zero, List.getElem?_cons_succ, List.set_cons_zero, List.set_cons_succ, List.map_cons, List.map_nil, List.length_cons, List.length_nil, List.cons_append, List.nil_append, List.append_nil, List.replicate_succ, List.replicate_zero, List.all_cons, List.all_nil, Bool.and_true, Bool.true_and, Bool.and_self, Bool.false_eq_true, Option.map_some, Option.map_none, Nat.reduceAdd, Nat.reduceSub, Nat.reduceBEq, beq_self_eq_true, Nat.reduceLT, Nat.sub_self, if_true, if_false, reduceIte, decide_true, decide_false, decide_eq_true_eq, true_and, and_true, and_self, or_true, true_or, or_self, false_or, or_false, false_and, and_false, Int.reduceLT, Int.reduceNeg, Int.reduceLE, Int.reduceAdd, Int.reduceSub, Int.reduceMul, Int.reduceEq, Int.reduceNe]
  · have hv' : ¬ (vs.length : Int) = (as.length : Int) := by omega
    simp only [m_law_is_flow, b_law_is_flow, hLen, dAs_len, dI_len, hv, hv', hNe_i, ne_eq, not_false_eq_true, Bool.false_and, ER.bind, ER.of, PR.toE, PR.bind, ER.toP, ER.toS, PR.toS, LR.toE, LR.of, FR.toE, fName, fIx, ixOf, eConst, eMove, eLk, eSh, pF, pI, eLook, eRo, eShr, eOp2, eChain_s, eAnd_s, eOr_s, eNot, eIf, lNil, lCons, eLst, eTup, eCallV, hAbs, hMax2, hMin2, hInt, hLen, hList, hAddI, hSubI, hDivI, hModI, hShrI, hAndI, hMulI, hAdd, hAddS, hOr, hI, hIB, hCat, hIn, hNin, hIs, hIsnt, isN, hLt, hLe, hGt, hGe, eNeg, fIxV, eIxT, sNext, sSeq, sBreak, sCont, sDrop, sRet, sRetN, sIf, sSet, sAug, setA, setL, putS, sPut, getA, sPutAug, tgName, tgNil, tgCons, tgTup, sTg, sPar, setFd, getFd, sFldS, sFldAugS, putE, eMut, isOL_own, hAppend, hExtend, hPop, eIter, eEnum, eRng, sFor, eYes, eLc, startE, backs, FR.of, okRes, eCall, isIns_nd, eMeth, eFrz, eSeal, newI, okSelf, eMake, sRaise, SR.fin, sTry, eIsi, partD, eInt, hSl, eSl, getP, setP, ownP, ownF_own, ownF_ro, ownF_pm, frz, frzL, frF_own, frF_ro, frF_pm, isRo, isRoL, roF_own, roF_ro, roF_pm, pmz, pmzL, clean, cleanL, isUns_nd, isUns_i, isUns_b, isUns_t, isUns_n, isUns_u, isPm_i, isPm_b, isPm_t, isPm_n, isPm_pm, isPm_ro', isPm_own, mkTup, killS, setS, List.getElem?_cons_zero, List.getElem?_cons_succ, List.set_cons_zero, List.set_cons_succ, List.map_cons, List.map_nil, List.length_cons, List.length_nil, List.cons_append, List.nil_append, List.append_nil, List.replicate_succ, List.replicate_zero, List.all_cons, List.all_nil, Bool.and_true, Bool.true_and, Bool.and_self, Bool.false_eq_true, Option.map_some, Option.map_none, Nat.reduceAdd, Nat.reduceSub, Nat.reduceBEq, beq_self_eq_true, Nat.reduceLT, Nat.sub_self, if_true, if_false, reduceIte, decide_true, decide_false, decide_eq_true_eq, true_and, and_true, and_self, or_true, true_or, or_self, false_or, or_false, false_and, and_false, Int.reduceLT, Int.reduceNeg, Int.reduceLE, Int.reduceAdd, Int.reduceSub, Int.reduceMul, Int.reduceEq, Int.reduceNe]

/-! ### the law's own bound -/
theorem rowP {as : List Arc} {p : Arc × Nat} (h : p ∈ as.zipIdx 0) : L2.ixN (dAs .pm as).length (p.2 : Nat) = some p.2 ∧ (dAs .pm as)[p.2]? = some (dA .pm p.1) := by
  rw [dAs_len]; exact dAs_k h
theorem bTF : (true == false) = false := rfl
theorem bFT : (false == true) = false := rfl
theorem z40 : L2.ixN 4 0 = some 0 := rfl
theorem z41 : L2.ixN 4 1 = some 1 := rfl
theorem z42 : L2.ixN 4 2 = some 2 := rfl
theorem z43 : L2.ixN 4 3 = some 3 := rfl
theorem lbd1_turn (fu : Nat) (fl fl2 : Fl) (as : List Arc) (arc b : Int) (ms : List Int) (ins : D) (p : Arc × Nat) (hm : p ∈ as.zipIdx 0) :
    turn (tgName 6) (l_law_bound_1 fu) [6, 7, 8] (.int (p.2 : Nat)) [some (.nd .lst fl (dAs .pm as)), some (.int arc), some (.int 1), some (.nd .lst fl2 (dI ms)), some ins, some (.int b), none, none, none] =
      .nx [some (.nd .lst fl (dAs .pm as)), some (.int arc), some (.int 1), some (.nd .lst fl2 (dI ms)), some ins, some (.int (ubStep arc ms b p)), none, none, none] := by
  obtain ⟨q1, q2⟩ := rowP hm
  cases d2 : decide ((p.2 : Int) ≠ arc)
  all_goals
    have h2 := d2
    simp only [decide_eq_true_eq, decide_eq_false_iff_not] at h2
    cases h3 : ms.contains p.1.1 <;> cases h4 : ms.contains p.1.2.1
    all_goals
      unfold ubStep lea ent
      simp only [turn, l_law_bound_1, q1, q2, dA, z40, z41, z42, z43, inD_dI, h2, h3, h4, hEq_i, hNe_i, d2, Bool.not_true, Bool.not_false, Bool.and_false, ne_eq, not_true_eq_false, not_false_eq_true, ER.bind, ER.of, PR.toE, PR.bind, ER.toP, ER.toS, PR.toS, LR.toE, LR.of, FR.toE, fName, fIx, ixOf, eConst, eMove, eLk, eSh, pF, pI, eLook, eRo, eShr, eOp2, eChain_s, eAnd_s, eOr_s, eNot, eIf, lNil, lCons, eLst, eTup, eCallV, hAbs, hMax2, hMin2, hInt, hLen, hList, hAddI, hSubI, hDivI, hModI, hShrI, hAndI, hMulI, hAdd, hAddS, hOr, hI, hIB, hCat, hIn, hNin, hIs, hIsnt, isN, hLt, hLe, hGt, hGe, eNeg, fIxV, eIxT, sNext, sSeq, sBreak, sCont, sDrop, sRet, sRetN, sIf, sSet, sAug, setA, setL, putS, sPut, getA, sPutAug, tgName, tgNil, tgCons, tgTup, sTg, sPar, setFd, getFd, sFldS, sFldAugS, putE, eMut, isOL_own, hAppend, hExtend, hPop, eIter, eEnum, eRng, sFor, eYes, eLc, startE, backs, FR.of, okRes, eCall, isIns_nd, eMeth, eFrz, eSeal, newI, okSelf, eMake, sRaise, SR.fin, sTry, eIsi, partD, eInt, hSl, eSl, getP, setP, ownP, ownF_own, ownF_ro, ownF_pm, frz, frzL, frF_own, frF_ro, frF_pm, isRo, isRoL, roF_own, roF_ro, roF_pm, pmz, pmzL, clean, cleanL, isUns_nd, isUns_i, isUns_b, isUns_t, isUns_n, isUns_u, isPm_i, isPm_b, isPm_t, isPm_n, isPm_pm, isPm_ro', isPm_own, mkTup, killS, setS, List.getElem?_cons_zero, List.getElem?_cons_succ, List.set_cons_zero, List.set_cons_succ, List.map_cons, List.map_nil, List.length_cons, List.length_nil, List.cons_append, List.nil_append, List.append_nil, List.replicate_succ, List.replicate_zero, List.all_cons, List.all_nil, Bool.and_true, Bool.true_and, Bool.and_self, Bool.false_eq_true, Option.map_some, Option.map_none, Nat.reduceAdd, Nat.reduceSub, Nat.reduceBEq, beq_self_eq_true, Nat.reduceLT, Nat.sub_self, if_true, if_false, reduceIte, decide_true, decide_false, decide_eq_true_eq, true_and, and_true, and_self, or_true, true_or, or_self, false_or, or_false, false_and, and_false, Int.reduceLT, Int.reduceNeg, Int.reduceLE, Int.reduceAdd, Int.reduceSub, Int.reduceMul, Int.reduceEq, Int.reduceNe]
theorem lbd2_turn (fu : Nat) (fl fl2 : Fl) (as : List Arc) (arc b : Int) (ms : List Int) (ins : D) (p : Arc × Nat) (hm : p ∈ as.zipIdx 0) :
    turn (tgName 6) (l_law_bound_1 fu) [6, 7, 8] (.int (p.2 : Nat)) [some (.nd .lst fl (dAs .pm as)), some (.int arc), some (.int (-1)), some (.nd .lst fl2 (dI ms)), some ins, some (.int b), none, none, none] =
      .nx [some (.nd .lst fl (dAs .pm as)), some (.int arc), some (.int (-1)), some (.nd .lst fl2 (dI ms)), some ins, some (.int (lbStep arc ms b p)), none, none, none] := by
  obtain ⟨q1, q2⟩ := rowP hm
  cases d2 : decide ((p.2 : Int) ≠ arc)
  all_goals
    have h2 := d2
    simp only [decide_eq_true_eq, decide_eq_false_iff_not] at h2
    cases h3 : ms.contains p.1.1 <;> cases h4 : ms.contains p.1.2.1
    all_goals
      unfold lbStep lea ent
      simp only [turn, l_law_bound_1, q1, q2, dA, z40, z41, z42, z43, inD_dI, h2, h3, h4, hEq_i, hNe_i, d2, Bool.not_true, Bool.not_false, Bool.and_false, ne_eq, not_true_eq_false, not_false_eq_true, ER.bind, ER.of, PR.toE, PR.bind, ER.toP, ER.toS, PR.toS, LR.toE, LR.of, FR.toE, fName, fIx, ixOf, eConst, eMove, eLk, eSh, pF, pI, eLook, eRo, eShr, eOp2, eChain_s, eAnd_s, eOr_s, eNot, eIf, lNil, lCons, eLst, eTup, eCallV, hAbs, hMax2, hMin2, hInt, hLen, hList, hAddI, hSubI, hDivI, hModI, hShrI, hAndI, hMulI, hAdd, hAddS, hOr, hI, hIB, hCat, hIn, hNin, hIs, hIsnt, isN, hLt, hLe, hGt, hGe, eNeg, fIxV, eIxT, sNext, sSeq, sBreak, sCont, sDrop, sRet, sRetN, sIf, sSet, sAug, setA, setL, putS, sPut, getA, sPutAug, tgName, tgNil, tgCons, tgTup, sTg, sPar, setFd, getFd, sFldS, sFldAugS, putE, eMut, isOL_own, hAppend, hExtend, hPop, eIter, eEnum, eRng, sFor, eYes, eLc, startE, backs, FR.of, okRes, eCall, isIns_nd, eMeth, eFrz, eSeal, newI, okSelf, eMake, sRaise, SR.fin, sTry, eIsi, partD, eInt, hSl, eSl, getP, setP, ownP, ownF_own, ownF_ro, ownF_pm, frz, frzL, frF_own, frF_ro, frF_pm, isRo, isRoL, roF_own, roF_ro, roF_pm, pmz, pmzL, clean, cleanL, isUns_nd, isUns_i, isUns_b, isUns_t, isUns_n, isUns_u, isPm_i, isPm_b, isPm_t, isPm_n, isPm_pm, isPm_ro', isPm_own, mkTup, killS, setS, List.getElem?_cons_zero, List.getElem?_cons_succ, List.set_cons_zero, List.set_cons_succ, List.map_cons, List.map_nil, List.length_cons, List.length_nil, List.cons_append, List.nil_append, List.append_nil, List.replicate_succ, List.replicate_zero, List.all_cons, List.all_nil, Bool.and_true, Bool.true_and, Bool.and_self, Bool.false_eq_true, Option.map_some, Option.map_none, Nat.reduceAdd, Nat.reduceSub, Nat.reduceBEq, beq_self_eq_true, Nat.reduceLT, Nat.sub_self, if_true, if_false, reduceIte, decide_true, decide_false, decide_eq_true_eq, true_and, and_true, and_self, or_true, true_or, or_self, false_or, or_false, false_and, and_false, Int.reduceLT, Int.reduceNeg, Int.reduceLE, Int.reduceAdd, Int.reduceSub, Int.reduceMul, Int.reduceEq, Int.reduceNe]
theorem lbd1_eq (fu : Nat) (fl fl2 : Fl) (as : List Arc) (arc : Int) (ms : List Int) (a0 : Arc) (hl : as.length ≤ 1000) (h0 : 0 ≤ arc) (h : as[arc.toNat]? = some a0) :
    m_law_bound fu [.nd .lst fl (dAs .pm as), .int arc, .int 1, .nd .lst fl2 (dI ms)] = .ok (if ent a0 ms = true then .int ((as.zipIdx 0).foldl (ubStep arc ms) 0) else .non) [] := by
  obtain ⟨i1, i2⟩ := dAs_i h0 h
  have hr := len_rng fl as 0 [some (.nd .lst fl (dAs .pm as)), some (.int arc), some (.int 1), some (.nd .lst fl2 (dI ms)), some (.nd .lst .own [.bl (ms.contains a0.1), .bl (ms.contains a0.2.1)]), some (.int 0), none, none, none] hl rfl
  have lp := (forL_fold (tg := tgName 6) (body := l_law_bound_1 fu) (kl := [6, 7, 8]) (fun p : Arc × Nat => .int (p.2 : Nat))
      (fun b : Int => [some (.nd .lst fl (dAs .pm as)), some (.int arc), some (.int 1), some (.nd .lst fl2 (dI ms)), some (.nd .lst .own [.bl (ms.contains a0.1), .bl (ms.contains a0.2.1)]), some (.int b), none, none, none]) (ubStep arc ms) (fun _ => True) (as.zipIdx 0) 0 trivial
      fun b _ p hp => ⟨lbd1_turn fu fl fl2 as arc b ms _ p hp, trivial⟩).1
  unfold ent
  cases h3 : ms.contains a0.1 <;> cases h4 : ms.contains a0.2.1 <;> rw [h3, h4] at hr lp
  all_goals
    simp only [m_law_bound, b_law_bound, dAs_len, i1, i2, dA, z40, z41, inD_dI, h3, h4, hEq_i, hNe_b2, hr, lp, Bool.not_true, Bool.not_false, Bool.and_false, beq_self_eq_true, bTF, bFT, Bool.false_and, Bool.true_and, ER.bind, ER.of, PR.toE, PR.bind, ER.toP, ER.toS, PR.toS, LR.toE, LR.of, FR.toE, fName, fIx, ixOf, eConst, eMove, eLk, eSh, pF, pI, eLook, eRo, eShr, eOp2, eChain_s, eAnd_s, eOr_s, eNot, eIf, lNil, lCons, eLst, eTup, eCallV, hAbs, hMax2, hMin2, hInt, hLen, hList, hAddI, hSubI, hDivI, hModI, hShrI, hAndI, hMulI, hAdd, hAddS, hOr, hI, hIB, hCat, hIn, hNin, hIs, hIsnt, isN, hLt, hLe, hGt, hGe, eNeg, fIxV, eIxT, sNext, sSeq, sBreak, sCont, sDrop, sRet, sRetN, sIf, sSet, sAug, setA, setL, putS, sPut, getA, sPutAug, tgName, tgNil, tgCons, tgTup, sTg, sPar, setFd, getFd, sFldS, sFldAugS, putE, eMut, isOL_own, hAppend, hExtend, hPop, eIter, eEnum, sFor, eYes, eLc, startE, backs, FR.of, okRes, eCall, isIns_nd, eMeth, eFrz, eSeal, newI, okSelf, eMake, sRaise, SR.fin, sTry, eIsi, partD, eInt, hSl, eSl, getP, setP, ownP, ownF_own, ownF_ro, ownF_pm, frz, frzL, frF_own, frF_ro, frF_pm, isRo, isRoL, roF_own, roF_ro, roF_pm, pmz, pmzL, clean, cleanL, isUns_nd, isUns_i, isUns_b, isUns_t, isUns_n, isUns_u, isPm_i, isPm_b, isPm_t, isPm_n, isPm_pm, isPm_ro', isPm_own, mkTup, killS, setS, List.getElem?_cons_zero, List.getElem?_cons_succ, List.set_cons_zero, List.set_cons_succ, List.map_cons, List.map_nil, List.length_cons, List.length_nil, List.cons_append, List.nil_append, List.append_nil, List.replicate_succ, List.replicate_zero, List.all_cons, List.all_nil, Bool.and_true, Bool.true_and, Bool.and_self, Bool.false_eq_true, Option.map_some, Option.map_none, Nat.reduceAdd, Nat.reduceSub, Nat.reduceBEq, beq_self_eq_true, Nat.reduceLT, Nat.sub_self, if_true, if_false, reduceIte, decide_true, decide_false, decide_eq_true_eq, true_and, and_true, and_self, or_true, true_or, or_self, false_or, or_false, false_and, and_false, Int.reduceLT, Int.reduceNeg, Int.reduceLE, Int.reduceAdd, Int.reduceSub, Int.reduceMul, Int.reduceEq, Int.reduceNe]
theorem lbd2_eq (fu : Nat) (fl fl2 : Fl) (as : List Arc) (arc : Int) (ms : List Int) (a0 : Arc) (hl : as.length ≤ 1000) (h0 : 0 ≤ arc) (h : as[arc.toNat]? = some a0) :
    m_law_bound fu [.nd .lst fl (dAs .pm as), .int arc, .int (-1), .nd .lst fl2 (dI ms)] = .ok (if lea a0 ms = true then .int ((as.zipIdx 0).foldl (lbStep arc ms) 0) else .non) [] := by
  obtain ⟨i1, i2⟩ := dAs_i h0 h
  have hr := len_rng fl as 0 [some (.nd .lst fl (dAs .pm as)), some (.int arc), some (.int (-1)), some (.nd .lst fl2 (dI ms)), some (.nd .lst .own [.bl (ms.contains a0.1), .bl (ms.contains a0.2.1)]), some (.int 0), none, none, none] hl rfl
  have lp := (forL_fold (tg := tgName 6) (body := l_law_bound_1 fu) (kl := [6, 7, 8]) (fun p : Arc × Nat => .int (p.2 : Nat))
      (fun b : Int => [some (.nd .lst fl (dAs .pm as)), some (.int arc), some (.int (-1)), some (.nd .lst fl2 (dI ms)), some (.nd .lst .own [.bl (ms.contains a0.1), .bl (ms.contains a0.2.1)]), some (.int b), none, none, none]) (lbStep arc ms) (fun _ => True) (as.zipIdx 0) 0 trivial
      fun b _ p hp => ⟨lbd2_turn fu fl fl2 as arc b ms _ p hp, trivial⟩).1
  unfold lea
  cases h3 : ms.contains a0.1 <;> cases h4 : ms.contains a0.2.1 <;> rw [h3, h4] at hr lp
  all_goals
    simp only [m_law_bound, b_law_bound, dAs_len, i1, i2, dA, z40, z41, inD_dI, h3, h4, hEq_i, hNe_b2, hr, lp, Bool.not_true, Bool.not_false, Bool.and_false, beq_self_eq_true, bTF, bFT, Bool.false_and, Bool.true_and, ER.bind, ER.of, PR.toE, PR.bind, ER.toP, ER.toS, PR.toS, LR.toE, LR.of, FR.toE, fName, fIx, ixOf, eConst, eMove, eLk, eSh, pF, pI, eLook, eRo, eShr, eOp2, eChain_s, eAnd_s, eOr_s, eNot, eIf, lNil, lCons, eLst, eTup, eCallV, hAbs, hMax2, hMin2, hInt, hLen, hList, hAddI, hSubI, hDivI, hModI, hShrI, hAndI, hMulI, hAdd, hAddS, hOr, hI, hIB, hCat, hIn, hNin, hIs, hIsnt, isN, hLt, hLe, hGt, hGe, eNeg, fIxV, eIxT, sNext, sSeq, sBreak, sCont, sDrop, sRet, sRetN, sIf, sSet, sAug, setA, setL, putS, sPut, getA, sPutAug, tgName, tgNil, tgCons, tgTup, sTg, sPar, setFd, getFd, sFldS, sFldAugS, putE, eMut, isOL_own, hAppend, hExtend, hPop, eIter, eEnum, sFor, eYes, eLc, startE, backs, FR.of, okRes, eCall, isIns_nd, eMeth, eFrz, eSeal, newI, okSelf, eMake, sRaise, SR.fin, sTry, eIsi, partD, eInt, hSl, eSl, getP, setP, ownP, ownF_own, ownF_ro, ownF_pm, frz, frzL, frF_own, frF_ro, frF_pm, isRo, isRoL, roF_own, roF_ro, roF_pm, pmz, pmzL, clean, cleanL, isUns_nd, isUns_i, isUns_b, isUns_t, isUns_n, isUns_u, isPm_i, isPm_b, isPm_t, isPm_n, isPm_pm, isPm_ro', isPm_own, mkTup, killS, setS, List.getElem?_cons_zero, List.getElem?_cons_succ, List.set_cons_zero, List.set_cons_succ, List.map_cons, List.map_nil, List.length_cons, List.length_nil, List.cons_append, List.nil_append, List.append_nil, List.replicate_succ, List.replicate_zero, List.all_cons, List.all_nil, Bool.and_true, Bool.true_and, Bool.and_self, Bool.false_eq_true, Option.map_some, Option.map_none, Nat.reduceAdd, Nat.reduceSub, Nat.reduceBEq, beq_self_eq_true, Nat.reduceLT, Nat.sub_self, if_true, if_false, reduceIte, decide_true, decide_false, decide_eq_true_eq, true_and, and_true, and_self, or_true, true_or, or_self, false_or, or_false, false_and, and_false, Int.reduceLT, Int.reduceNeg, Int.reduceLE, Int.reduceAdd, Int.reduceSub, Int.reduceMul, Int.reduceEq, Int.reduceNe]
end Pl
set_option linter.all false
set_option maxRecDepth 100000
set_option maxHeartbeats 1000000
namespace Pl
open PySem PySem.Spec PyProof.Rows L2 DL Mn Wk
/-! ### numbers of the script -/
theorem scr_dI (ns : List Int) : scrD ns = .nd .scr .pm (dI ns) := rfl
theorem cell_eq (fu : Nat) (ns : List Int) (k : Int) (h0 : 0 ≤ k) : m_law_cell fu [scrD ns, .int k] = .ok (.int (ns.getD k.toNat 0)) [] := by
  rw [scr_dI]
  by_cases h : k < (ns.length : Int)
  · obtain ⟨b0, b1, b2⟩ := dI_at (f := ns) h0 h
    simp only [m_law_cell, b_law_cell, dI_len, h, b0, b1, b2, ER.bind, ER.of, PR.toE, PR.bind, ER.toP, ER.toS, PR.toS, LR.toE, LR.of, FR.toE, fName, fIx, ixOf, eConst, eMove, eLk, eSh, pF, pI, eLook, eRo, eShr, eOp2, eChain_s, eAnd_s, eOr_s, eNot, eIf, lNil, lCons, eLst, eTup, eCallV, hAbs, hMax2, hMin2, hInt, hLen, hList, hAddI, hSubI, hDivI, hModI, hShrI, hAndI, hMulI, hAdd, hAddS, hOr, hI, hIB, hCat, hIn, hNin, hIs, hIsnt, isN, hLt, hLe, hGt, hGe, eNeg, fIxV, eIxT, sNext, sSeq, sBreak, sCont, sDrop, sRet, sRetN, sIf, sSet, sAug, setA, setL, putS, sPut, getA, sPutAug, tgName, tgNil, tgCons, tgTup, sTg, sPar, setFd, getFd, sFldS, sFldAugS, putE, eMut, isOL_own, hAppend, hExtend, hPop, eIter, eEnum, eRng, sFor, eYes, eLc, startE, backs, FR.of, okRes, eCall, isIns_nd, eMeth, eFrz, eSeal, newI, okSelf, eMake, sRaise, SR.fin, sTry, eIsi, partD, eInt, hSl, eSl, getP, setP, ownP, ownF_own, ownF_ro, ownF_pm, frz, frzL, frF_own, frF_ro, frF_pm, isRo, isRoL, roF_own, roF_ro, roF_pm, pmz, pmzL, clean, cleanL, isUns_nd, isUns_i, isUns_b, isUns_t, isUns_n, isUns_u, isPm_i, isPm_b, isPm_t, isPm_n, isPm_pm, isPm_ro', isPm_own, mkTup, killS, setS, List.getElem?_cons_zero, List.getElem?_cons_succ, List.set_cons_zero, List.set_cons_succ, List.map_cons, List.map_nil, List.length_cons, List.length_nil, List.cons_append, List.nil_append, List.append_nil, List.replicate_succ, List.replicate_zero, List.all_cons, List.all_nil, Bool.and_true, Bool.true_and, Bool.and_self, Bool.false_eq_true, Option.map_some, Option.map_none, Nat.reduceAdd, Nat.reduceSub, Nat.reduceBEq, beq_self_eq_true, Nat.reduceLT, Nat.sub_self, if_true, if_false, reduceIte, decide_true, decide_false, decide_eq_true_eq, true_and, and_true, and_self, or_true, true_or, or_self, false_or, or_false, false_and, and_false, Int.reduceLT, Int.reduceNeg, Int.reduceLE, Int.reduceAdd, Int.reduceSub, Int.reduceMul, Int.reduceEq, Int.reduceNe]
  · have e : ns.getD k.toNat 0 = 0 := by rw [List.getD_eq_getElem?_getD, List.getElem?_eq_none (by omega)]; rfl
    simp only [m_law_cell, b_law_cell, dI_len, h, e, ER.bind, ER.of, PR.toE, PR.bind, ER.toP, ER.toS, PR.toS, LR.toE, LR.of, FR.toE, fName, fIx, ixOf, eConst, eMove, eLk, eSh, pF, pI, eLook, eRo, eShr, eOp2, eChain_s, eAnd_s, eOr_s, eNot, eIf, lNil, lCons, eLst, eTup, eCallV, hAbs, hMax2, hMin2, hInt, hLen, hList, hAddI, hSubI, hDivI, hModI, hShrI, hAndI, hMulI, hAdd, hAddS, hOr, hI, hIB, hCat, hIn, hNin, hIs, hIsnt, isN, hLt, hLe, hGt, hGe, eNeg, fIxV, eIxT, sNext, sSeq, sBreak, sCont, sDrop, sRet, sRetN, sIf, sSet, sAug, setA, setL, putS, sPut, getA, sPutAug, tgName, tgNil, tgCons, tgTup, sTg, sPar, setFd, getFd, sFldS, sFldAugS, putE, eMut, isOL_own, hAppend, hExtend, hPop, eIter, eEnum, eRng, sFor, eYes, eLc, startE, backs, FR.of, okRes, eCall, isIns_nd, eMeth, eFrz, eSeal, newI, okSelf, eMake, sRaise, SR.fin, sTry, eIsi, partD, eInt, hSl, eSl, getP, setP, ownP, ownF_own, ownF_ro, ownF_pm, frz, frzL, frF_own, frF_ro, frF_pm, isRo, isRoL, roF_own, roF_ro, roF_pm, pmz, pmzL, clean, cleanL, isUns_nd, isUns_i, isUns_b, isUns_t, isUns_n, isUns_u, isPm_i, isPm_b, isPm_t, isPm_n, isPm_pm, isPm_ro', isPm_own, mkTup, killS, setS, List.getElem?_cons_zero, List.getElem?_cons_succ, List.set_cons_zero, List.set_cons_succ, List.map_cons, List.map_nil, List.length_cons, List.length_nil, List.cons_append, List.nil_append, List.append_nil, List.replicate_succ, List.replicate_zero, List.all_cons, List.all_nil, Bool.and_true, Bool.true_and, Bool.and_self, Bool.false_eq_true, Option.map_some, Option.map_none, Nat.reduceAdd, Nat.reduceSub, Nat.reduceBEq, beq_self_eq_true, Nat.reduceLT, Nat.sub_self, if_true, if_false, reduceIte, decide_true, decide_false, decide_eq_true_eq, true_and, and_true, and_self, or_true, true_or, or_self, false_or, or_false, false_and, and_false, Int.reduceLT, Int.reduceNeg, Int.reduceLE, Int.reduceAdd, Int.reduceSub, Int.reduceMul, Int.reduceEq, Int.reduceNe]
theorem dI_snoc (f : List Int) (x : Int) : dI f ++ [.int x] = dI (f ++ [x]) := by simp [dI]
theorem dI_line {f : List Int} (h : f.length ≤ 900) : (dI f).length < sizeLine := by
  rw [dI_len]; exact Nat.lt_of_lt_of_le (m := 1000) (by omega) (small_line (Nat.le_refl _))
def NumOk (most : Int) (f : List Int) : Prop := (f.length : Int) ≤ most ∧ ∀ x ∈ f, 0 ≤ x ∧ x < 4096
theorem NumOk.snoc {most x : Int} {f : List Int} (h : NumOk most f) (hl : (f.length : Int) < most) (hx : 0 ≤ x ∧ x < 4096) : NumOk most (f ++ [x]) :=
  ⟨by rw [List.length_append]; simp; omega, fun y hy => by
    rcases List.mem_append.mp hy with hy | hy
    · exact h.2 y hy
    · simp at hy; subst hy; exact hx⟩
theorem num1 (fu : Nat) (scr a4 : D) (first most : Int) (hm : most ≤ 900) (f : List Int) (c : Int) (d : D) (h : NumOk most f) :
    ∃ s' : List Int × Int, turn (tgName 6) (l_law_numbers_1 fu) [6] d [some scr, some (.int first), some (.int most), some (.nd .lst .own (dI f)), some a4, some (.int c), none, none] =
      .nx [some scr, some (.int first), some (.int most), some (.nd .lst .own (dI s'.1)), some a4, some (.int s'.2), none, none] ∧ NumOk most s'.1 := by
  have hf : (dI f).length < sizeLine := dI_line (by have := h.1; omega)
  have q : (0 : Int) < 4096 := by decide
  have q2 : (0 : Int) < 4096 ∧ (4096 : Int) < 1073741824 := by decide
  by_cases h1 : c > 0
  · by_cases h2 : (f.length : Int) < most
    · refine ⟨(f ++ [c % 4096], c / 4096), ?_, h.snoc h2 ⟨Int.emod_nonneg _ (by decide), Int.emod_lt_of_pos _ (by decide)⟩⟩
      have hf' : f.length < sizeLine := by rw [dI_len] at hf; exact hf
      simp only [turn, l_law_numbers_1, dI_len, h1, h2, hf', q, q2, dI_snoc, ER.bind, ER.of, PR.toE, PR.bind, ER.toP, ER.toS, PR.toS, LR.toE, LR.of, FR.toE, fName, fIx, ixOf, eConst, eMove, eLk, eSh, pF, pI, eLook, eRo, eShr, eOp2, eChain_s, eAnd_s, eOr_s, eNot, eIf, lNil, lCons, eLst, eTup, eCallV, hAbs, hMax2, hMin2, hInt, hLen, hList, hAddI, hSubI, hDivI, hModI, hShrI, hAndI, hMulI, hAdd, hAddS, hOr, hI, hIB, hCat, hIn, hNin, hIs, hIsnt, isN, hLt, hLe, hGt, hGe, eNeg, fIxV, eIxT, sNext, sSeq, sBreak, sCont, sDrop, sRet, sRetN, sIf, sSet, sAug, setA, setL, putS, sPut, getA, sPutAug, tgName, tgNil, tgCons, tgTup, sTg, sPar, setFd, getFd, sFldS, sFldAugS, putE, eMut, isOL_own, hAppend, hExtend, hPop, eIter, eEnum, eRng, sFor, eYes, eLc, startE, backs, FR.of, okRes, eCall, isIns_nd, eMeth, eFrz, eSeal, newI, okSelf, eMake, sRaise, SR.fin, sTry, eIsi, partD, eInt, hSl, eSl, getP, setP, ownP, ownF_own, ownF_ro, ownF_pm, frz, frzL, frF_own, frF_ro, frF_pm, isRo, isRoL, roF_own, roF_ro, roF_pm, pmz, pmzL, clean, cleanL, isUns_nd, isUns_i, isUns_b, isUns_t, isUns_n, isUns_u, isPm_i, isPm_b, isPm_t, isPm_n, isPm_pm, isPm_ro', isPm_own, mkTup, killS, setS, List.getElem?_cons_zero, List.getElem?_cons_succ, List.set_cons_zero, List.set_cons_succ, List.map_cons, List.map_nil, List.length_cons, List.length_nil, List.cons_append, List.nil_append, List.append_nil, List.replicate_succ, List.replicate_zero, List.all_cons, List.all_nil, Bool.and_true, Bool.true_and, Bool.and_self, Bool.false_eq_true, Option.map_some, Option.map_none, Nat.reduceAdd, Nat.reduceSub, Nat.reduceBEq, beq_self_eq_true, Nat.reduceLT, Nat.sub_self, if_true, if_false, reduceIte, decide_true, decide_false, decide_eq_true_eq, true_and, and_true, and_self, or_true, true_or, or_self, false_or, or_false, false_and, and_false, Int.reduceLT, Int.reduceNeg, Int.reduceLE, Int.reduceAdd, Int.reduceSub, Int.reduceMul, Int.reduceEq, Int.reduceNe]
    · exact ⟨(f, c), by simp only [turn, l_law_numbers_1, dI_len, h1, h2, ER.bind, ER.of, PR.toE, PR.bind, ER.toP, ER.toS, PR.toS, LR.toE, LR.of, FR.toE, fName, fIx, ixOf, eConst, eMove, eLk, eSh, pF, pI, eLook, eRo, eShr, eOp2, eChain_s, eAnd_s, eOr_s, eNot, eIf, lNil, lCons, eLst, eTup, eCallV, hAbs, hMax2, hMin2, hInt, hLen, hList, hAddI, hSubI, hDivI, hModI, hShrI, hAndI, hMulI, hAdd, hAddS, hOr, hI, hIB, hCat, hIn, hNin, hIs, hIsnt, isN, hLt, hLe, hGt, hGe, eNeg, fIxV, eIxT, sNext, sSeq, sBreak, sCont, sDrop, sRet, sRetN, sIf, sSet, sAug, setA, setL, putS, sPut, getA, sPutAug, tgName, tgNil, tgCons, tgTup, sTg, sPar, setFd, getFd, sFldS, sFldAugS, putE, eMut, isOL_own, hAppend, hExtend, hPop, eIter, eEnum, eRng, sFor, eYes, eLc, startE, backs, FR.of, okRes, eCall, isIns_nd, eMeth, eFrz, eSeal, newI, okSelf, eMake, sRaise, SR.fin, sTry, eIsi, partD, eInt, hSl, eSl, getP, setP, ownP, ownF_own, ownF_ro, ownF_pm, frz, frzL, frF_own, frF_ro, frF_pm, isRo, isRoL, roF_own, roF_ro, roF_pm, pmz, pmzL, clean, cleanL, isUns_nd, isUns_i, isUns_b, isUns_t, isUns_n, isUns_u, isPm_i, isPm_b, isPm_t, isPm_n, isPm_pm, isPm_ro', isPm_own, mkTup, killS, setS, List.getElem?_cons_zero, List.getElem?_cons_succ, List.set_cons_zero, List.set_cons_succ, List.map_cons, List.map_nil, List.length_cons, List.length_nil, List.cons_append, List.nil_append, List.append_nil, List.replicate_succ, List.replicate_zero, List.all_cons, List.all_nil, Bool.and_true, Bool.true_and, Bool.and_self, Bool.false_eq_true, Option.map_some, Option.map_none, Nat.reduceAdd, Nat.reduceSub, Nat.reduceBEq, beq_self_eq_true, Nat.reduceLT, Nat.sub_self, if_true, if_false, reduceIte, decide_true, decide_false, decide_eq_true_eq, true_and, and_true, and_self, or_true, true_or, or_self, false_or, or_false, false_and, and_false, Int.reduceLT, Int.reduceNeg, Int.reduceLE, Int.reduceAdd, Int.reduceSub, Int.reduceMul, Int.reduceEq, Int.reduceNe], h⟩
  · exact ⟨(f, c), by simp only [turn, l_law_numbers_1, h1, ER.bind, ER.of, PR.toE, PR.bind, ER.toP, ER.toS, PR.toS, LR.toE, LR.of, FR.toE, fName, fIx, ixOf, eConst, eMove, eLk, eSh, pF, pI, eLook, eRo, eShr, eOp2, eChain_s, eAnd_s, eOr_s, eNot, eIf, lNil, lCons, eLst, eTup, eCallV, hAbs, hMax2, hMin2, hInt, hLen, hList, hAddI, hSubI, hDivI, hModI, hShrI, hAndI, hMulI, hAdd, hAddS, hOr, hI, hIB, hCat, hIn, hNin, hIs, hIsnt, isN, hLt, hLe, hGt, hGe, eNeg, fIxV, eIxT, sNext, sSeq, sBreak, sCont, sDrop, sRet, sRetN, sIf, sSet, sAug, setA, setL, putS, sPut, getA, sPutAug, tgName, tgNil, tgCons, tgTup, sTg, sPar, setFd, getFd, sFldS, sFldAugS, putE, eMut, isOL_own, hAppend, hExtend, hPop, eIter, eEnum, eRng, sFor, eYes, eLc, startE, backs, FR.of, okRes, eCall, isIns_nd, eMeth, eFrz, eSeal, newI, okSelf, eMake, sRaise, SR.fin, sTry, eIsi, partD, eInt, hSl, eSl, getP, setP, ownP, ownF_own, ownF_ro, ownF_pm, frz, frzL, frF_own, frF_ro, frF_pm, isRo, isRoL, roF_own, roF_ro, roF_pm, pmz, pmzL, clean, cleanL, isUns_nd, isUns_i, isUns_b, isUns_t, isUns_n, isUns_u, isPm_i, isPm_b, isPm_t, isPm_n, isPm_pm, isPm_ro', isPm_own, mkTup, killS, setS, List.getElem?_cons_zero, List.getElem?_cons_succ, List.set_cons_zero, List.set_cons_succ, List.map_cons, List.map_nil, List.length_cons, List.length_nil, List.cons_append, List.nil_append, List.append_nil, List.replicate_succ, List.replicate_zero, List.all_cons, List.all_nil, Bool.and_true, Bool.true_and, Bool.and_self, Bool.false_eq_true, Option.map_some, Option.map_none, Nat.reduceAdd, Nat.reduceSub, Nat.reduceBEq, beq_self_eq_true, Nat.reduceLT, Nat.sub_self, if_true, if_false, reduceIte, decide_true, decide_false, decide_eq_true_eq, true_and, and_true, and_self, or_true, true_or, or_self, false_or, or_false, false_and, and_false, Int.reduceLT, Int.reduceNeg, Int.reduceLE, Int.reduceAdd, Int.reduceSub, Int.reduceMul, Int.reduceEq, Int.reduceNe], h⟩
/-- a mixed number -/
def numM (c k : Int) : Int := ((c * 48271 + k * 69621 + 12345) % 2147483647 * 69621 + (c * 48271 + k * 69621 + 12345) % 2147483647 / 1009) % 1000003
theorem num2 (fu : Nat) (ns : List Int) (first most k : Int) (hm : most ≤ 900) (f : List Int) (h : NumOk most f) (h0 : 0 ≤ k) (hk : k < ns.length) :
    ∃ f' : List Int, turn (tgName 4) (l_law_numbers_2 fu) [4, 5, 6, 7] (.int k) [some (scrD ns), some (.int first), some (.int most), some (.nd .lst .own (dI f)), none, none, none, none] =
      .nx [some (scrD ns), some (.int first), some (.int most), some (.nd .lst .own (dI f')), none, none, none, none] ∧ NumOk most f' := by
  obtain ⟨b0, b1, b2⟩ := dI_at (f := ns) h0 hk
  have hf : f.length < sizeLine := by have := dI_line (f := f) (by have := h.1; omega); rw [dI_len] at this; exact this
  rw [scr_dI]
  by_cases h1 : (if ns.getD k.toNat 0 < 0 then -(ns.getD k.toNat 0) else ns.getD k.toNat 0) ≥ 1000000000000000000
  · obtain ⟨s', l1, l2⟩ := forL_I (tg := tgName 6) (body := l_law_numbers_1 fu) (kl := [6]) (fun d : D => d)
      (fun s : List Int × Int => [some (.nd .scr .pm (dI ns)), some (.int first), some (.int most), some (.nd .lst .own (dI s.1)), some (.int k), some (.int s.2), none, none])
      (fun s => NumOk most s.1) (rngD 0 1 60) (f, if ns.getD k.toNat 0 < 0 then -(ns.getD k.toNat 0) else ns.getD k.toNat 0) h fun s hs d _ => num1 fu _ _ first most hm s.1 s.2 d hs
    have hr : ∀ env, eRng (lCons (eConst (.int 60)) lNil) env = .ok ((rngD 0 1 60).map fun d => d) env := fun env => eRng_of (ds := [.int 60]) rfl (by rw [List.map_id']; exact rng1 (m := 60) (by decide))
    refine ⟨s'.1, ?_, l2⟩
    simp only [turn, l_law_numbers_2, b0, b1, b2, h1, hr, l1, ER.bind, ER.of, PR.toE, PR.bind, ER.toP, ER.toS, PR.toS, LR.toE, LR.of, FR.toE, fName, fIx, ixOf, eConst, eMove, eLk, eSh, pF, pI, eLook, eRo, eShr, eOp2, eChain_s, eAnd_s, eOr_s, eNot, eIf, lNil, lCons, eLst, eTup, eCallV, hAbs, hMax2, hMin2, hInt, hLen, hList, hAddI, hSubI, hDivI, hModI, hShrI, hAndI, hMulI, hAdd, hAddS, hOr, hI, hIB, hCat, hIn, hNin, hIs, hIsnt, isN, hLt, hLe, hGt, hGe, eNeg, fIxV, eIxT, sNext, sSeq, sBreak, sCont, sDrop, sRet, sRetN, sIf, sSet, sAug, setA, setL, putS, sPut, getA, sPutAug, tgName, tgNil, tgCons, tgTup, sTg, sPar, setFd, getFd, sFldS, sFldAugS, putE, eMut, isOL_own, hAppend, hExtend, hPop, eIter, eEnum, sFor, eYes, eLc, startE, backs, FR.of, okRes, eCall, isIns_nd, eMeth, eFrz, eSeal, newI, okSelf, eMake, sRaise, SR.fin, sTry, eIsi, partD, eInt, hSl, eSl, getP, setP, ownP, ownF_own, ownF_ro, ownF_pm, frz, frzL, frF_own, frF_ro, frF_pm, isRo, isRoL, roF_own, roF_ro, roF_pm, pmz, pmzL, clean, cleanL, isUns_nd, isUns_i, isUns_b, isUns_t, isUns_n, isUns_u, isPm_i, isPm_b, isPm_t, isPm_n, isPm_pm, isPm_ro', isPm_own, mkTup, killS, setS, List.getElem?_cons_zero, List.getElem?_cons_succ, List.set_cons_zero, List.set_cons_succ, List.map_cons, List.map_nil, List.length_cons, List.length_nil, List.cons_append, List.nil_append, List.append_nil, List.replicate_succ, List.replicate_zero, List.all_cons, List.all_nil, Bool.and_true, Bool.true_and, Bool.and_self, Bool.false_eq_true, Option.map_some, Option.map_none, Nat.reduceAdd, Nat.reduceSub, Nat.reduceBEq, beq_self_eq_true, Nat.reduceLT, Nat.sub_self, if_true, if_false, reduceIte, decide_true, decide_false, decide_eq_true_eq, true_and, and_true, and_self, or_true, true_or, or_self, false_or, or_false, false_and, and_false, Int.reduceLT, Int.reduceNeg, Int.reduceLE, Int.reduceAdd, Int.reduceSub, Int.reduceMul, Int.reduceEq, Int.reduceNe]
  · by_cases h2 : (f.length : Int) < most
    · have q : (0 : Int) < 4096 := by decide
      have q2 : (0 : Int) < 2147483647 := by decide
      have q3 : (0 : Int) < 1000003 := by decide
      have q4 : (0 : Int) < 1009 ∧ (1009 : Int) < 1073741824 := by decide
      have m1 : ∀ i : Int, hMul (.int i) (.int 48271) = some (.int (i * 48271)) := fun i => mulR (by decide)
      have m2 : ∀ i : Int, hMul (.int i) (.int 69621) = some (.int (i * 69621)) := fun i => mulR (by decide)
      refine ⟨f ++ [numM (if ns.getD k.toNat 0 < 0 then -(ns.getD k.toNat 0) else ns.getD k.toNat 0) k % 4096], ?_, h.snoc h2 ⟨Int.emod_nonneg _ (by decide), Int.emod_lt_of_pos _ (by decide)⟩⟩
      simp only [turn, l_law_numbers_2, b0, b1, b2, h1, h2, dI_len, hf, q, q2, q3, q4, m1, m2, dI_snoc, ER.bind, ER.of, PR.toE, PR.bind, ER.toP, ER.toS, PR.toS, LR.toE, LR.of, FR.toE, fName, fIx, ixOf, eConst, eMove, eLk, eSh, pF, pI, eLook, eRo, eShr, eOp2, eChain_s, eAnd_s, eOr_s, eNot, eIf, lNil, lCons, eLst, eTup, eCallV, hAbs, hMax2, hMin2, hInt, hLen, hList, hAddI, hSubI, hDivI, hModI, hShrI, hAndI, hMulI, hAdd, hAddS, hOr, hI, hIB, hCat, hIn, hNin, hIs, hIsnt, isN, hLt, hLe, hGt, hGe, eNeg, fIxV, eIxT, sNext, sSeq, sBreak, sCont, sDrop, sRet, sRetN, sIf, sSet, sAug, setA, setL, putS, sPut, getA, sPutAug, tgName, tgNil, tgCons, tgTup, sTg, sPar, setFd, getFd, sFldS, sFldAugS, putE, eMut, isOL_own, hAppend, hExtend, hPop, eIter, eEnum, eRng, sFor, eYes, eLc, startE, backs, FR.of, okRes, eCall, isIns_nd, eMeth, eFrz, eSeal, newI, okSelf, eMake, sRaise, SR.fin, sTry, eIsi, partD, eInt, hSl, eSl, getP, setP, ownP, ownF_own, ownF_ro, ownF_pm, frz, frzL, frF_own, frF_ro, frF_pm, isRo, isRoL, roF_own, roF_ro, roF_pm, pmz, pmzL, clean, cleanL, isUns_nd, isUns_i, isUns_b, isUns_t, isUns_n, isUns_u, isPm_i, isPm_b, isPm_t, isPm_n, isPm_pm, isPm_ro', isPm_own, mkTup, killS, setS, List.getElem?_cons_zero, List.getElem?_cons_succ, List.set_cons_zero, List.set_cons_succ, List.map_cons, List.map_nil, List.length_cons, List.length_nil, List.cons_append, List.nil_append, List.append_nil, List.replicate_succ, List.replicate_zero, List.all_cons, List.all_nil, Bool.and_true, Bool.true_and, Bool.and_self, Bool.false_eq_true, Option.map_some, Option.map_none, Nat.reduceAdd, Nat.reduceSub, Nat.reduceBEq, beq_self_eq_true, Nat.reduceLT, Nat.sub_self, if_true, if_false, reduceIte, decide_true, decide_false, decide_eq_true_eq, true_and, and_true, and_self, or_true, true_or, or_self, false_or, or_false, false_and, and_false, Int.reduceLT, Int.reduceNeg, Int.reduceLE, Int.reduceAdd, Int.reduceSub, Int.reduceMul, Int.reduceEq, Int.reduceNe]
      rfl
    · exact ⟨f, by simp only [turn, l_law_numbers_2, b0, b1, b2, h1, h2, dI_len, ER.bind, ER.of, PR.toE, PR.bind, ER.toP, ER.toS, PR.toS, LR.toE, LR.of, FR.toE, fName, fIx, ixOf, eConst, eMove, eLk, eSh, pF, pI, eLook, eRo, eShr, eOp2, eChain_s, eAnd_s, eOr_s, eNot, eIf, lNil, lCons, eLst, eTup, eCallV, hAbs, hMax2, hMin2, hInt, hLen, hList, hAddI, hSubI, hDivI, hModI, hShrI, hAndI, hMulI, hAdd, hAddS, hOr, hI, hIB, hCat, hIn, hNin, hIs, hIsnt, isN, hLt, hLe, hGt, hGe, eNeg, fIxV, eIxT, sNext, sSeq, sBreak, sCont, sDrop, sRet, sRetN, sIf, sSet, sAug, setA, setL, putS, sPut, getA, sPutAug, tgName, tgNil, tgCons, tgTup, sTg, sPar, setFd, getFd, sFldS, sFldAugS, putE, eMut, isOL_own, hAppend, hExtend, hPop, eIter, eEnum, eRng, sFor, eYes, eLc, startE, backs, FR.of, okRes, eCall, isIns_nd, eMeth, eFrz, eSeal, newI, okSelf, eMake, sRaise, SR.fin, sTry, eIsi, partD, eInt, hSl, eSl, getP, setP, ownP, ownF_own, ownF_ro, ownF_pm, frz, frzL, frF_own, frF_ro, frF_pm, isRo, isRoL, roF_own, roF_ro, roF_pm, pmz, pmzL, clean, cleanL, isUns_nd, isUns_i, isUns_b, isUns_t, isUns_n, isUns_u, isPm_i, isPm_b, isPm_t, isPm_n, isPm_pm, isPm_ro', isPm_own, mkTup, killS, setS, List.getElem?_cons_zero, List.getElem?_cons_succ, List.set_cons_zero, List.set_cons_succ, List.map_cons, List.map_nil, List.length_cons, List.length_nil, List.cons_append, List.nil_append, List.append_nil, List.replicate_succ, List.replicate_zero, List.all_cons, List.all_nil, Bool.and_true, Bool.true_and, Bool.and_self, Bool.false_eq_true, Option.map_some, Option.map_none, Nat.reduceAdd, Nat.reduceSub, Nat.reduceBEq, beq_self_eq_true, Nat.reduceLT, Nat.sub_self, if_true, if_false, reduceIte, decide_true, decide_false, decide_eq_true_eq, true_and, and_true, and_self, or_true, true_or, or_self, false_or, or_false, false_and, and_false, Int.reduceLT, Int.reduceNeg, Int.reduceLE, Int.reduceAdd, Int.reduceSub, Int.reduceMul, Int.reduceEq, Int.reduceNe], h⟩
theorem nums_eq (fu : Nat) (ns : List Int) (first most : Int) (hm : most ≤ 900) (hm0 : 0 ≤ most) (hf : 0 ≤ first ∧ first ≤ 900) (hl : ns.length ≤ 900) : ∃ f, m_law_numbers fu [scrD ns, .int first, .int most] = .ok (.nd .lst .own (dI f)) [] ∧ NumOk most f := by
  obtain ⟨f, l1, l2⟩ := forL_N (tg := tgName 4) (body := l_law_numbers_2 fu) (kl := [4, 5, 6, 7]) first 1
    (fun f : List Int => [some (scrD ns), some (.int first), some (.int most), some (.nd .lst .own (dI f)), none, none, none, none]) (fun _ f => NumOk most f) ((ns.length : Int) - first).toNat [] ⟨by simpa using hm0, by simp⟩
    fun k f hk hi => num2 fu ns first most _ hm f hi (by omega) (by omega)
  have hr : eRng (lCons (eLk (fName 1)) (lCons (eCallV hLen (lCons (eLk (fName 0)) lNil)) lNil)) [some (scrD ns), some (.int first), some (.int most), some (.nd .lst .own []), none, none, none, none] = .ok (rngD first 1 ((ns.length : Int) - first).toNat) [some (scrD ns), some (.int first), some (.int most), some (.nd .lst .own []), none, none, none, none] := by
    refine eRng_of (ds := [.int first, .int ns.length]) ?_ (rng2 (by omega) (by omega))
    simp only [scr_dI, dI_len, ER.bind, ER.of, PR.toE, PR.bind, ER.toP, ER.toS, PR.toS, LR.toE, LR.of, FR.toE, fName, fIx, ixOf, eConst, eMove, eLk, eSh, pF, pI, eLook, eRo, eShr, eOp2, eChain_s, eAnd_s, eOr_s, eNot, eIf, lNil, lCons, eLst, eTup, eCallV, hAbs, hMax2, hMin2, hInt, hLen, hList, hAddI, hSubI, hDivI, hModI, hShrI, hAndI, hMulI, hAdd, hAddS, hOr, hI, hIB, hCat, hIn, hNin, hIs, hIsnt, isN, hLt, hLe, hGt, hGe, eNeg, fIxV, eIxT, sNext, sSeq, sBreak, sCont, sDrop, sRet, sRetN, sIf, sSet, sAug, setA, setL, putS, sPut, getA, sPutAug, tgName, tgNil, tgCons, tgTup, sTg, sPar, setFd, getFd, sFldS, sFldAugS, putE, eMut, isOL_own, hAppend, hExtend, hPop, eIter, eEnum, sFor, eYes, eLc, startE, backs, FR.of, okRes, eCall, isIns_nd, eMeth, eFrz, eSeal, newI, okSelf, eMake, sRaise, SR.fin, sTry, eIsi, partD, eInt, hSl, eSl, getP, setP, ownP, ownF_own, ownF_ro, ownF_pm, frz, frzL, frF_own, frF_ro, frF_pm, isRo, isRoL, roF_own, roF_ro, roF_pm, pmz, pmzL, clean, cleanL, isUns_nd, isUns_i, isUns_b, isUns_t, isUns_n, isUns_u, isPm_i, isPm_b, isPm_t, isPm_n, isPm_pm, isPm_ro', isPm_own, mkTup, killS, setS, List.getElem?_cons_zero, List.getElem?_cons_succ, List.set_cons_zero, List.set_cons_succ, List.map_cons, List.map_nil, List.length_cons, List.length_nil, List.cons_append, List.nil_append, List.append_nil, List.replicate_succ, List.replicate_zero, List.all_cons, List.all_nil, Bool.and_true, Bool.true_and, Bool.and_self, Bool.false_eq_true, Option.map_some, Option.map_none, Nat.reduceAdd, Nat.reduceSub, Nat.reduceBEq, beq_self_eq_true, Nat.reduceLT, Nat.sub_self, if_true, if_false, reduceIte, decide_true, decide_false, decide_eq_true_eq, true_and, and_true, and_self, or_true, true_or, or_self, false_or, or_false, false_and, and_false, Int.reduceLT, Int.reduceNeg, Int.reduceLE, Int.reduceAdd, Int.reduceSub, Int.reduceMul, Int.reduceEq, Int.reduceNe]
  refine ⟨f, ?_, l2⟩
  simp only [dI_nil] at l1
  simp only [m_law_numbers, b_law_numbers, hr, l1, ER.bind, ER.of, PR.toE, PR.bind, ER.toP, ER.toS, PR.toS, LR.toE, LR.of, FR.toE, fName, fIx, ixOf, eConst, eMove, eLk, eSh, pF, pI, eLook, eRo, eShr, eOp2, eChain_s, eAnd_s, eOr_s, eNot, eIf, lNil, lCons, eLst, eTup, eCallV, hAbs, hMax2, hMin2, hInt, hLen, hList, hAddI, hSubI, hDivI, hModI, hShrI, hAndI, hMulI, hAdd, hAddS, hOr, hI, hIB, hCat, hIn, hNin, hIs, hIsnt, isN, hLt, hLe, hGt, hGe, eNeg, fIxV, eIxT, sNext, sSeq, sBreak, sCont, sDrop, sRet, sRetN, sIf, sSet, sAug, setA, setL, putS, sPut, getA, sPutAug, tgName, tgNil, tgCons, tgTup, sTg, sPar, setFd, getFd, sFldS, sFldAugS, putE, eMut, isOL_own, hAppend, hExtend, hPop, eIter, eEnum, sFor, eYes, eLc, startE, backs, FR.of, okRes, eCall, isIns_nd, eMeth, eFrz, eSeal, newI, okSelf, eMake, sRaise, SR.fin, sTry, eIsi, partD, eInt, hSl, eSl, getP, setP, ownP, ownF_own, ownF_ro, ownF_pm, frz, frzL, frF_own, frF_ro, frF_pm, isRo, isRoL, roF_own, roF_ro, roF_pm, pmz, pmzL, clean, cleanL, isUns_nd, isUns_i, isUns_b, isUns_t, isUns_n, isUns_u, isPm_i, isPm_b, isPm_t, isPm_n, isPm_pm, isPm_ro', isPm_own, mkTup, killS, setS, List.getElem?_cons_zero, List.getElem?_cons_succ, List.set_cons_zero, List.set_cons_succ, List.map_cons, List.map_nil, List.length_cons, List.length_nil, List.cons_append, List.nil_append, List.append_nil, List.replicate_succ, List.replicate_zero, List.all_cons, List.all_nil, Bool.and_true, Bool.true_and, Bool.and_self, Bool.false_eq_true, Option.map_some, Option.map_none, Nat.reduceAdd, Nat.reduceSub, Nat.reduceBEq, beq_self_eq_true, Nat.reduceLT, Nat.sub_self, if_true, if_false, reduceIte, decide_true, decide_false, decide_eq_true_eq, true_and, and_true, and_self, or_true, true_or, or_self, false_or, or_false, false_and, and_false, Int.reduceLT, Int.reduceNeg, Int.reduceLE, Int.reduceAdd, Int.reduceSub, Int.reduceMul, Int.reduceEq, Int.reduceNe]
end Pl
set_option linter.all false
set_option maxRecDepth 100000
set_option maxHeartbeats 1000000
namespace Pl
open PySem PySem.Spec PyProof.Rows L2 DL Mn Wk
/-! ### a network with a flow -/
def dR (a : Arc) : D := .nd .lst .own [.int a.1, .int a.2.1, .int a.2.2.1, .int a.2.2.2]
def dRs (as : List Arc) : List D := as.map dR
theorem dRs_len (as : List Arc) : (dRs as).length = as.length := by simp [dRs]
theorem dRs_get (as : List Arc) (i : Nat) : (dRs as)[i]? = (as[i]?).map dR := by simp [dRs]
theorem dRs_snoc (as : List Arc) (a : Arc) : dRs as ++ [.nd .lst .own [.int a.1, .int a.2.1, .int a.2.2.1, .int a.2.2.2]] = dRs (as ++ [a]) := by simp [dRs, dR]
theorem dRs_i {as : List Arc} {i : Int} (h0 : 0 ≤ i) (h1 : i < as.length) : ∃ a, as[i.toNat]? = some a ∧ L2.ixN (dRs as).length i = some i.toNat ∧ (dRs as)[i.toNat]? = some (dR a) := by
  have hl : i.toNat < as.length := by omega
  refine ⟨as[i.toNat], List.getElem?_eq_getElem hl, by rw [dRs_len]; exact ixN_of h0 h1, by rw [dRs_get, List.getElem?_eq_getElem hl]; rfl⟩
theorem dRs_line {f : List Arc} (h : f.length ≤ 900) : f.length < sizeLine := Nat.lt_of_lt_of_le (m := 1000) (by omega) (small_line (Nat.le_refl _))
/-- an arc made from a number -/
def rowOf (n x : Int) : Arc := (x % n, (x % n + 1 + x / 5 % (n - 1)) % n, 0, 0)
theorem any1 (fu : Nat) (nums : D) (loose n x : Int) (hn : 2 ≤ n) (as : List Arc) (ha : as.length ≤ 900) :
    turn (tgName 5) (l_law_any_network_1 fu) [5, 6, 7] (.int x) [some nums, some (.int loose), some (.int n), some (.nd .lst .own (dRs as)), some (.nd .lst .own (dI (List.replicate as.length 0))), none, none, none, none, none, none, none, none, none, none, none, none] =
      .nx [some nums, some (.int loose), some (.int n), some (.nd .lst .own (dRs (as ++ [rowOf n x]))), some (.nd .lst .own (dI (List.replicate (as ++ [rowOf n x]).length 0))), none, none, none, none, none, none, none, none, none, none, none, none] := by
  have h1 : (0 : Int) < n := by omega
  have h2 : (0 : Int) < n - 1 := by omega
  have h3 : (0 : Int) < 5 ∧ (5 : Int) < 1073741824 := by decide
  have h4 := dRs_line ha
  have e : dI (List.replicate as.length 0) ++ [.int 0] = dI (List.replicate (as ++ [rowOf n x]).length 0) := by
    rw [List.length_append, List.length_cons, List.length_nil, ← List.replicate_append_replicate, dI_app]; rfl
  have e2 : dRs as ++ [.nd .lst .own [.int (x % n), .int ((x % n + 1 + x / 5 % (n - 1)) % n), .int 0, .int 0]] = dRs (as ++ [rowOf n x]) := dRs_snoc as (rowOf n x)
  simp only [turn, l_law_any_network_1, h1, h2, h3, dRs_len, dI_len, List.length_replicate, h4, ER.bind, ER.of, PR.toE, PR.bind, ER.toP, ER.toS, PR.toS, LR.toE, LR.of, FR.toE, fName, fIx, ixOf, eConst, eMove, eLk, eSh, pF, pI, eLook, eRo, eShr, eOp2, eChain_s, eAnd_s, eOr_s, eNot, eIf, lNil, lCons, eLst, eTup, eCallV, hAbs, hMax2, hMin2, hInt, hLen, hList, hAddI, hSubI, hDivI, hModI, hShrI, hAndI, hMulI, hAdd, hAddS, hOr, hI, hIB, hCat, hIn, hNin, hIs, hIsnt, isN, hLt, hLe, hGt, hGe, eNeg, fIxV, eIxT, sNext, sSeq, sBreak, sCont, sDrop, sRet, sRetN, sIf, sSet, sAug, setA, setL, putS, sPut, getA, sPutAug, tgName, tgNil, tgCons, tgTup, sTg, sPar, setFd, getFd, sFldS, sFldAugS, putE, eMut, isOL_own, hAppend, hExtend, hPop, eIter, eEnum, eRng, sFor, eYes, eLc, startE, backs, FR.of, okRes, eCall, isIns_nd, eMeth, eFrz, eSeal, newI, okSelf, eMake, sRaise, SR.fin, sTry, eIsi, partD, eInt, hSl, eSl, getP, setP, ownP, ownF_own, ownF_ro, ownF_pm, frz, frzL, frF_own, frF_ro, frF_pm, isRo, isRoL, roF_own, roF_ro, roF_pm, pmz, pmzL, clean, cleanL, isUns_nd, isUns_i, isUns_b, isUns_t, isUns_n, isUns_u, isPm_i, isPm_b, isPm_t, isPm_n, isPm_pm, isPm_ro', isPm_own, mkTup, killS, setS, List.getElem?_cons_zero, List.getElem?_cons_succ, List.set_cons_zero, List.set_cons_succ, List.map_cons, List.map_nil, List.length_cons, List.length_nil, List.cons_append, List.nil_append, List.append_nil, List.replicate_succ, List.replicate_zero, List.all_cons, List.all_nil, Bool.and_true, Bool.true_and, Bool.and_self, Bool.false_eq_true, Option.map_some, Option.map_none, Nat.reduceAdd, Nat.reduceSub, Nat.reduceBEq, beq_self_eq_true, Nat.reduceLT, Nat.sub_self, if_true, if_false, reduceIte, decide_true, decide_false, decide_eq_true_eq, true_and, and_true, and_self, or_true, true_or, or_self, false_or, or_false, false_and, and_false, Int.reduceLT, Int.reduceNeg, Int.reduceLE, Int.reduceAdd, Int.reduceSub, Int.reduceMul, Int.reduceEq, Int.reduceNe]
  rw [e, e2]

theorem dI_last (f : List Int) (x : Int) : L2.ixN (dI (f ++ [x])).length (-1) = some f.length ∧ (dI (f ++ [x]))[f.length]? = some (.int x) := by
  constructor
  · rw [dI_len, List.length_append]
    unfold L2.ixN
    rw [if_neg (by decide), if_pos (by simp; omega)]
    simp
    omega
  · rw [dI_get]; simp
theorem hNe_nil (fl fl' : Fl) (a : List Int) : hNe (.nd .lst fl (dI a)) (.nd .lst fl' []) = some (.bl (!decide (a = []))) := ne_dI fl fl' a []
def idxs (m : Nat) : List Int := (List.range m).map fun i : Nat => (i : Int)
theorem idxs_mem {m : Nat} {j : Int} (h : j ∈ idxs m) : 0 ≤ j ∧ j < m := by
  unfold idxs at h
  obtain ⟨i, hi, rfl⟩ := List.mem_map.mp h
  have := List.mem_range.mp hi
  omega
theorem idxs_len (m : Nat) : (idxs m).length = m := by simp [idxs]
def rowAt (rows : List Arc) (j : Int) : Arc := rows.getD j.toNat (0, 0, 0, 0)
theorem row_at {rows : List Arc} {j : Int} (h0 : 0 ≤ j) (h1 : j < rows.length) : L2.ixN (dRs rows).length j = some j.toNat ∧ L2.ixN rows.length j = some j.toNat ∧ (dRs rows)[j.toNat]? = some (dR (rowAt rows j)) := by
  have hl : j.toNat < rows.length := by omega
  refine ⟨by rw [dRs_len]; exact ixN_of h0 h1, ixN_of h0 h1, ?_⟩
  rw [dRs_get, getD_some hl]; rfl
def wayQ (rows : List Arc) (node : Int) (path : List Int) (j : Int) : Bool := decide ((rowAt rows j).1 = node) && !path.contains j
theorem any_lc (fu : Nat) (nums loose flow k start d o14 : Option D) (n node : Int) (rows : List Arc) (path : List Int) (hl : rows.length ≤ 900) :
    eLc [14] (tgName 14) (eRng (lCons (eCallV hLen (lCons (eLk (fName 3)) lNil)) lNil)) (q_law_any_network_2 fu) (v_law_any_network_3 fu)
      [nums, loose, some (.int n), some (.nd .lst .own (dRs rows)), flow, none, none, none, k, start, some (.int node), some (.nd .lst .own (dI path)), d, none, o14, none, none] =
    .ok (.nd .lst .own (dI ((idxs rows.length).filter (wayQ rows node path)))) [nums, loose, some (.int n), some (.nd .lst .own (dRs rows)), flow, none, none, none, k, start, some (.int node), some (.nd .lst .own (dI path)), d, none, none, none, none] := by
  have hr : eRng (lCons (eCallV hLen (lCons (eLk (fName 3)) lNil)) lNil) [nums, loose, some (.int n), some (.nd .lst .own (dRs rows)), flow, none, none, none, k, start, some (.int node), some (.nd .lst .own (dI path)), d, none, o14, none, none] =
      .ok ((idxs rows.length).map .int) [nums, loose, some (.int n), some (.nd .lst .own (dRs rows)), flow, none, none, none, k, start, some (.int node), some (.nd .lst .own (dI path)), d, none, o14, none, none] := by
    refine eRng_of (ds := [.int (rows.length : Nat)]) ?_ (by rw [rng1 (by omega), rng_dI]; rfl)
    simp only [dRs_len, ER.bind, ER.of, PR.toE, PR.bind, ER.toP, ER.toS, PR.toS, LR.toE, LR.of, FR.toE, fName, fIx, ixOf, eConst, eMove, eLk, eSh, pF, pI, eLook, eRo, eShr, eOp2, eChain_s, eAnd_s, eOr_s, eNot, eIf, lNil, lCons, eLst, eTup, eCallV, hAbs, hMax2, hMin2, hInt, hLen, hList, hAddI, hSubI, hDivI, hModI, hShrI, hAndI, hMulI, hAdd, hAddS, hOr, hI, hIB, hCat, hIn, hNin, hIs, hIsnt, isN, hLt, hLe, hGt, hGe, eNeg, fIxV, eIxT, sNext, sSeq, sBreak, sCont, sDrop, sRet, sRetN, sIf, sSet, sAug, setA, setL, putS, sPut, getA, sPutAug, tgName, tgNil, tgCons, tgTup, sTg, sPar, setFd, getFd, sFldS, sFldAugS, putE, eMut, isOL_own, hAppend, hExtend, hPop, eIter, eEnum, sFor, eYes, eLc, startE, backs, FR.of, okRes, eCall, isIns_nd, eMeth, eFrz, eSeal, newI, okSelf, eMake, sRaise, SR.fin, sTry, eIsi, partD, eInt, hSl, eSl, getP, setP, ownP, ownF_own, ownF_ro, ownF_pm, frz, frzL, frF_own, frF_ro, frF_pm, isRo, isRoL, roF_own, roF_ro, roF_pm, pmz, pmzL, clean, cleanL, isUns_nd, isUns_i, isUns_b, isUns_t, isUns_n, isUns_u, isPm_i, isPm_b, isPm_t, isPm_n, isPm_pm, isPm_ro', isPm_own, mkTup, killS, setS, List.getElem?_cons_zero, List.getElem?_cons_succ, List.set_cons_zero, List.set_cons_succ, List.map_cons, List.map_nil, List.length_cons, List.length_nil, List.cons_append, List.nil_append, List.append_nil, List.replicate_succ, List.replicate_zero, List.all_cons, List.all_nil, Bool.and_true, Bool.true_and, Bool.and_self, Bool.false_eq_true, Option.map_some, Option.map_none, Nat.reduceAdd, Nat.reduceSub, Nat.reduceBEq, beq_self_eq_true, Nat.reduceLT, Nat.sub_self, if_true, if_false, reduceIte, decide_true, decide_false, decide_eq_true_eq, true_and, and_true, and_self, or_true, true_or, or_self, false_or, or_false, false_and, and_false, Int.reduceLT, Int.reduceNeg, Int.reduceLE, Int.reduceAdd, Int.reduceSub, Int.reduceMul, Int.reduceEq, Int.reduceNe]
  have hb : ((idxs rows.length).map D.int).length < sizeLine := by rw [List.length_map, idxs_len]; exact dRs_line hl
  have hc := lcL_flt (tg := tgName 14) (ct := q_law_any_network_2 fu) (fe := v_law_any_network_3 fu) (vs := [14]) D.int D.int (wayQ rows node path)
    [nums, loose, some (.int n), some (.nd .lst .own (dRs rows)), flow, none, none, none, k, start, some (.int node), some (.nd .lst .own (dI path)), d, none, none, none, none] (idxs rows.length) [] fun j hj => by
      obtain ⟨h0, h1⟩ := idxs_mem hj
      obtain ⟨r0, r1, r2⟩ := row_at (rows := rows) h0 h1
      unfold wayQ
      by_cases g : (rowAt rows j).1 = node
      · cases g2 : path.contains j <;> simp only [lcT, q_law_any_network_2, v_law_any_network_3, r0, r2, dR, z40, hEq_i, inD_dI, g, g2, Bool.not_true, Bool.not_false, ER.bind, ER.of, PR.toE, PR.bind, ER.toP, ER.toS, PR.toS, LR.toE, LR.of, FR.toE, fName, fIx, ixOf, eConst, eMove, eLk, eSh, pF, pI, eLook, eRo, eShr, eOp2, eChain_s, eAnd_s, eOr_s, eNot, eIf, lNil, lCons, eLst, eTup, eCallV, hAbs, hMax2, hMin2, hInt, hLen, hList, hAddI, hSubI, hDivI, hModI, hShrI, hAndI, hMulI, hAdd, hAddS, hOr, hI, hIB, hCat, hIn, hNin, hIs, hIsnt, isN, hLt, hLe, hGt, hGe, eNeg, fIxV, eIxT, sNext, sSeq, sBreak, sCont, sDrop, sRet, sRetN, sIf, sSet, sAug, setA, setL, putS, sPut, getA, sPutAug, tgName, tgNil, tgCons, tgTup, sTg, sPar, setFd, getFd, sFldS, sFldAugS, putE, eMut, isOL_own, hAppend, hExtend, hPop, eIter, eEnum, eRng, sFor, eYes, eLc, startE, backs, FR.of, okRes, eCall, isIns_nd, eMeth, eFrz, eSeal, newI, okSelf, eMake, sRaise, SR.fin, sTry, eIsi, partD, eInt, hSl, eSl, getP, setP, ownP, ownF_own, ownF_ro, ownF_pm, frz, frzL, frF_own, frF_ro, frF_pm, isRo, isRoL, roF_own, roF_ro, roF_pm, pmz, pmzL, clean, cleanL, isUns_nd, isUns_i, isUns_b, isUns_t, isUns_n, isUns_u, isPm_i, isPm_b, isPm_t, isPm_n, isPm_pm, isPm_ro', isPm_own, mkTup, killS, setS, List.getElem?_cons_zero, List.getElem?_cons_succ, List.set_cons_zero, List.set_cons_succ, List.map_cons, List.map_nil, List.length_cons, List.length_nil, List.cons_append, List.nil_append, List.append_nil, List.replicate_succ, List.replicate_zero, List.all_cons, List.all_nil, Bool.and_true, Bool.true_and, Bool.and_self, Bool.false_eq_true, Option.map_some, Option.map_none, Nat.reduceAdd, Nat.reduceSub, Nat.reduceBEq, beq_self_eq_true, Nat.reduceLT, Nat.sub_self, if_true, if_false, reduceIte, decide_true, decide_false, decide_eq_true_eq, true_and, and_true, and_self, or_true, true_or, or_self, false_or, or_false, false_and, and_false, Int.reduceLT, Int.reduceNeg, Int.reduceLE, Int.reduceAdd, Int.reduceSub, Int.reduceMul, Int.reduceEq, Int.reduceNe]
      · simp only [lcT, q_law_any_network_2, v_law_any_network_3, r0, r2, dR, z40, hEq_i, g, Bool.false_and, ER.bind, ER.of, PR.toE, PR.bind, ER.toP, ER.toS, PR.toS, LR.toE, LR.of, FR.toE, fName, fIx, ixOf, eConst, eMove, eLk, eSh, pF, pI, eLook, eRo, eShr, eOp2, eChain_s, eAnd_s, eOr_s, eNot, eIf, lNil, lCons, eLst, eTup, eCallV, hAbs, hMax2, hMin2, hInt, hLen, hList, hAddI, hSubI, hDivI, hModI, hShrI, hAndI, hMulI, hAdd, hAddS, hOr, hI, hIB, hCat, hIn, hNin, hIs, hIsnt, isN, hLt, hLe, hGt, hGe, eNeg, fIxV, eIxT, sNext, sSeq, sBreak, sCont, sDrop, sRet, sRetN, sIf, sSet, sAug, setA, setL, putS, sPut, getA, sPutAug, tgName, tgNil, tgCons, tgTup, sTg, sPar, setFd, getFd, sFldS, sFldAugS, putE, eMut, isOL_own, hAppend, hExtend, hPop, eIter, eEnum, eRng, sFor, eYes, eLc, startE, backs, FR.of, okRes, eCall, isIns_nd, eMeth, eFrz, eSeal, newI, okSelf, eMake, sRaise, SR.fin, sTry, eIsi, partD, eInt, hSl, eSl, getP, setP, ownP, ownF_own, ownF_ro, ownF_pm, frz, frzL, frF_own, frF_ro, frF_pm, isRo, isRoL, roF_own, roF_ro, roF_pm, pmz, pmzL, clean, cleanL, isUns_nd, isUns_i, isUns_b, isUns_t, isUns_n, isUns_u, isPm_i, isPm_b, isPm_t, isPm_n, isPm_pm, isPm_ro', isPm_own, mkTup, killS, setS, List.getElem?_cons_zero, List.getElem?_cons_succ, List.set_cons_zero, List.set_cons_succ, List.map_cons, List.map_nil, List.length_cons, List.length_nil, List.cons_append, List.nil_append, List.append_nil, List.replicate_succ, List.replicate_zero, List.all_cons, List.all_nil, Bool.and_true, Bool.true_and, Bool.and_self, Bool.false_eq_true, Option.map_some, Option.map_none, Nat.reduceAdd, Nat.reduceSub, Nat.reduceBEq, beq_self_eq_true, Nat.reduceLT, Nat.sub_self, if_true, if_false, reduceIte, decide_true, decide_false, decide_eq_true_eq, true_and, and_true, and_self, or_true, true_or, or_self, false_or, or_false, false_and, and_false, Int.reduceLT, Int.reduceNeg, Int.reduceLE, Int.reduceAdd, Int.reduceSub, Int.reduceMul, Int.reduceEq, Int.reduceNe]
  simp only [eLc, hr, hb, if_true, killS, List.set_cons_zero, List.set_cons_succ]
  rw [hc]; rfl
/-- how a path stands -/
def PInv (rows : List Arc) (start node : Int) (path : List Int) : Prop := (∀ j ∈ path, 0 ≤ j ∧ j < rows.length) ∧ ∀ w, pS w rows path = w node - w start
theorem any4 (fu : Nat) (ns : List Int) (loose flow : Option D) (k start n node : Int) (rows : List Arc) (path : List Int) (st : D) (o14 : Option D) (hl : rows.length ≤ 900) (hp : path.length ≤ 900) (hk : 0 ≤ k ∧ k < ns.length) (h : PInv rows start node path) :
    ∃ s : Int × List Int × Option D, turn (tgName 12) (l_law_any_network_4 fu) [12, 13] st
      [some (.nd .lst .ro (dI ns)), loose, some (.int n), some (.nd .lst .own (dRs rows)), flow, none, none, none, some (.int k), some (.int start), some (.int node), some (.nd .lst .own (dI path)), none, none, o14, none, none] =
      .nx [some (.nd .lst .ro (dI ns)), loose, some (.int n), some (.nd .lst .own (dRs rows)), flow, none, none, none, some (.int k), some (.int start), some (.int s.1), some (.nd .lst .own (dI s.2.1)), none, none, s.2.2, none, none] ∧ s.2.1.length ≤ path.length + 1 ∧ PInv rows start s.1 s.2.1 := by
  by_cases g : node = start
  · refine ⟨(node, path, o14), ?_, Nat.le_succ _, h⟩
    simp only [turn, l_law_any_network_4, hNe_i, g, ne_eq, not_true_eq_false, ER.bind, ER.of, PR.toE, PR.bind, ER.toP, ER.toS, PR.toS, LR.toE, LR.of, FR.toE, fName, fIx, ixOf, eConst, eMove, eLk, eSh, pF, pI, eLook, eRo, eShr, eOp2, eChain_s, eAnd_s, eOr_s, eNot, eIf, lNil, lCons, eLst, eTup, eCallV, hAbs, hMax2, hMin2, hInt, hLen, hList, hAddI, hSubI, hDivI, hModI, hShrI, hAndI, hMulI, hAdd, hAddS, hOr, hI, hIB, hCat, hIn, hNin, hIs, hIsnt, isN, hLt, hLe, hGt, hGe, eNeg, fIxV, eIxT, sNext, sSeq, sBreak, sCont, sDrop, sRet, sRetN, sIf, sSet, sAug, setA, setL, putS, sPut, getA, sPutAug, tgName, tgNil, tgCons, tgTup, sTg, sPar, setFd, getFd, sFldS, sFldAugS, putE, eMut, isOL_own, hAppend, hExtend, hPop, eIter, eEnum, eRng, sFor, eYes, eLc, startE, backs, FR.of, okRes, eCall, isIns_nd, eMeth, eFrz, eSeal, newI, okSelf, eMake, sRaise, SR.fin, sTry, eIsi, partD, eInt, hSl, eSl, getP, setP, ownP, ownF_own, ownF_ro, ownF_pm, frz, frzL, frF_own, frF_ro, frF_pm, isRo, isRoL, roF_own, roF_ro, roF_pm, pmz, pmzL, clean, cleanL, isUns_nd, isUns_i, isUns_b, isUns_t, isUns_n, isUns_u, isPm_i, isPm_b, isPm_t, isPm_n, isPm_pm, isPm_ro', isPm_own, mkTup, killS, setS, List.getElem?_cons_zero, List.getElem?_cons_succ, List.set_cons_zero, List.set_cons_succ, List.map_cons, List.map_nil, List.length_cons, List.length_nil, List.cons_append, List.nil_append, List.append_nil, List.replicate_succ, List.replicate_zero, List.all_cons, List.all_nil, Bool.and_true, Bool.true_and, Bool.and_self, Bool.false_eq_true, Option.map_some, Option.map_none, Nat.reduceAdd, Nat.reduceSub, Nat.reduceBEq, beq_self_eq_true, Nat.reduceLT, Nat.sub_self, if_true, if_false, reduceIte, decide_true, decide_false, decide_eq_true_eq, true_and, and_true, and_self, or_true, true_or, or_self, false_or, or_false, false_and, and_false, Int.reduceLT, Int.reduceNeg, Int.reduceLE, Int.reduceAdd, Int.reduceSub, Int.reduceMul, Int.reduceEq, Int.reduceNe]
  · have lc := any_lc fu (some (.nd .lst .ro (dI ns))) loose flow (some (.int k)) (some (.int start)) (some st) o14 n node rows path hl
    generalize hw : (idxs rows.length).filter (wayQ rows node path) = ways at lc
    by_cases g2 : ways = []
    · subst g2
      refine ⟨(node, path, none), ?_, Nat.le_succ _, h⟩
      simp only [turn, l_law_any_network_4, hNe_i, g, lc, hNe_nil, ne_eq, not_false_eq_true, Bool.not_true, ER.bind, ER.of, PR.toE, PR.bind, ER.toP, ER.toS, PR.toS, LR.toE, LR.of, FR.toE, fName, fIx, ixOf, eConst, eMove, eLk, eSh, pF, pI, eLook, eRo, eShr, eOp2, eChain_s, eAnd_s, eOr_s, eNot, eIf, lNil, lCons, eLst, eTup, eCallV, hAbs, hMax2, hMin2, hInt, hLen, hList, hAddI, hSubI, hDivI, hModI, hShrI, hAndI, hMulI, hAdd, hAddS, hOr, hI, hIB, hCat, hIn, hNin, hIs, hIsnt, isN, hLt, hLe, hGt, hGe, eNeg, fIxV, eIxT, sNext, sSeq, sBreak, sCont, sDrop, sRet, sRetN, sIf, sSet, sAug, setA, setL, putS, sPut, getA, sPutAug, tgName, tgNil, tgCons, tgTup, sTg, sPar, setFd, getFd, sFldS, sFldAugS, putE, eMut, isOL_own, hAppend, hExtend, hPop, eIter, eEnum, eRng, sFor, eYes, startE, backs, FR.of, okRes, eCall, isIns_nd, eMeth, eFrz, eSeal, newI, okSelf, eMake, sRaise, SR.fin, sTry, eIsi, partD, eInt, hSl, eSl, getP, setP, ownP, ownF_own, ownF_ro, ownF_pm, frz, frzL, frF_own, frF_ro, frF_pm, isRo, isRoL, roF_own, roF_ro, roF_pm, pmz, pmzL, clean, cleanL, isUns_nd, isUns_i, isUns_b, isUns_t, isUns_n, isUns_u, isPm_i, isPm_b, isPm_t, isPm_n, isPm_pm, isPm_ro', isPm_own, mkTup, killS, setS, List.getElem?_cons_zero, List.getElem?_cons_succ, List.set_cons_zero, List.set_cons_succ, List.map_cons, List.map_nil, List.length_cons, List.length_nil, List.cons_append, List.nil_append, List.append_nil, List.replicate_succ, List.replicate_zero, List.all_cons, List.all_nil, Bool.and_true, Bool.true_and, Bool.and_self, Bool.false_eq_true, Option.map_some, Option.map_none, Nat.reduceAdd, Nat.reduceSub, Nat.reduceBEq, beq_self_eq_true, Nat.reduceLT, Nat.sub_self, if_true, if_false, reduceIte, decide_true, decide_false, decide_eq_true_eq, true_and, and_true, and_self, or_true, true_or, or_self, false_or, or_false, false_and, and_false, Int.reduceLT, Int.reduceNeg, Int.reduceLE, Int.reduceAdd, Int.reduceSub, Int.reduceMul, Int.reduceEq, Int.reduceNe]
    · have hwl : 0 < (ways.length : Int) := by
        cases ways with
        | nil => exact absurd rfl g2
        | cons _ _ => simp
      obtain ⟨b0, b1, b2⟩ := dI_at (f := ns) hk.1 hk.2
      have i0 : 0 ≤ (ns.getD k.toNat 0 / 20) % (ways.length : Int) := Int.emod_nonneg _ (by omega)
      have i1 : (ns.getD k.toNat 0 / 20) % (ways.length : Int) < ways.length := Int.emod_lt_of_pos _ hwl
      obtain ⟨c0, c1, c2⟩ := dI_at (f := ways) i0 i1
      have hx : ways.getD ((ns.getD k.toNat 0 / 20) % (ways.length : Int)).toNat 0 ∈ ways := by
        rw [List.getD_eq_getElem?_getD, List.getElem?_eq_getElem (by omega)]
        exact List.getElem_mem _
      generalize ways.getD ((ns.getD k.toNat 0 / 20) % (ways.length : Int)).toNat 0 = x at hx c2
      rw [← hw] at hx
      obtain ⟨x1, x2⟩ := List.mem_filter.mp hx
      obtain ⟨x3, x4⟩ := idxs_mem x1
      unfold wayQ at x2
      simp only [Bool.and_eq_true, decide_eq_true_eq] at x2
      obtain ⟨r0, r1, r2⟩ := row_at (rows := rows) x3 x4
      obtain ⟨e0, e1⟩ := dI_last path x
      have hpl : path.length < sizeLine := by have := dI_line hp; rw [dI_len] at this; exact this
      have q : (0 : Int) < 20 ∧ (20 : Int) < 1073741824 := by decide
      refine ⟨((rowAt rows x).2.1, path ++ [x], none), ?_, by simp, ?_⟩
      · simp only [turn, l_law_any_network_4, hNe_i, g, lc, hNe_nil, g2, q, hwl, b0, b1, b2, c0, c1, c2, dI_len, hpl, dI_snoc, ne_eq, not_false_eq_true, Bool.not_false, ER.bind, ER.of, PR.toE, PR.bind, ER.toP, ER.toS, PR.toS, LR.toE, LR.of, FR.toE, fName, fIx, ixOf, eConst, eMove, eLk, eSh, pF, pI, eLook, eRo, eShr, eOp2, eChain_s, eAnd_s, eOr_s, eNot, eIf, lNil, lCons, eLst, eTup, eCallV, hAbs, hMax2, hMin2, hInt, hLen, hList, hAddI, hSubI, hDivI, hModI, hShrI, hAndI, hMulI, hAdd, hAddS, hOr, hI, hIB, hCat, hIn, hNin, hIs, hIsnt, isN, hLt, hLe, hGt, hGe, eNeg, fIxV, eIxT, sNext, sSeq, sBreak, sCont, sDrop, sRet, sRetN, sIf, sSet, sAug, setA, setL, putS, sPut, getA, sPutAug, tgName, tgNil, tgCons, tgTup, sTg, sPar, setFd, getFd, sFldS, sFldAugS, putE, eMut, isOL_own, hAppend, hExtend, hPop, eIter, eEnum, eRng, sFor, eYes, startE, backs, FR.of, okRes, eCall, isIns_nd, eMeth, eFrz, eSeal, newI, okSelf, eMake, sRaise, SR.fin, sTry, eIsi, partD, eInt, hSl, eSl, getP, setP, ownP, ownF_own, ownF_ro, ownF_pm, frz, frzL, frF_own, frF_ro, frF_pm, isRo, isRoL, roF_own, roF_ro, roF_pm, pmz, pmzL, clean, cleanL, isUns_nd, isUns_i, isUns_b, isUns_t, isUns_n, isUns_u, isPm_i, isPm_b, isPm_t, isPm_n, isPm_pm, isPm_ro', isPm_own, mkTup, killS, setS, List.getElem?_cons_zero, List.getElem?_cons_succ, List.set_cons_zero, List.set_cons_succ, List.map_cons, List.map_nil, List.length_cons, List.length_nil, List.cons_append, List.nil_append, List.append_nil, List.replicate_succ, List.replicate_zero, List.all_cons, List.all_nil, Bool.and_true, Bool.true_and, Bool.and_self, Bool.false_eq_true, Option.map_some, Option.map_none, Nat.reduceAdd, Nat.reduceSub, Nat.reduceBEq, beq_self_eq_true, Nat.reduceLT, Nat.sub_self, if_true, if_false, reduceIte, decide_true, decide_false, decide_eq_true_eq, true_and, and_true, and_self, or_true, true_or, or_self, false_or, or_false, false_and, and_false, Int.reduceLT, Int.reduceNeg, Int.reduceLE, Int.reduceAdd, Int.reduceSub, Int.reduceMul, Int.reduceEq, Int.reduceNe]
        simp only [dI_len] at e0
        simp only [e0, e1, r0, r2, dR, z41, ER.bind, ER.of, PR.toE, PR.bind, ER.toP, ER.toS, PR.toS, LR.toE, LR.of, FR.toE, fName, fIx, ixOf, eConst, eMove, eLk, eSh, pF, pI, eLook, eRo, eShr, eOp2, eChain_s, eAnd_s, eOr_s, eNot, eIf, lNil, lCons, eLst, eTup, eCallV, hAbs, hMax2, hMin2, hInt, hLen, hList, hAddI, hSubI, hDivI, hModI, hShrI, hAndI, hMulI, hAdd, hAddS, hOr, hI, hIB, hCat, hIn, hNin, hIs, hIsnt, isN, hLt, hLe, hGt, hGe, eNeg, fIxV, eIxT, sNext, sSeq, sBreak, sCont, sDrop, sRet, sRetN, sIf, sSet, sAug, setA, setL, putS, sPut, getA, sPutAug, tgName, tgNil, tgCons, tgTup, sTg, sPar, setFd, getFd, sFldS, sFldAugS, putE, eMut, isOL_own, hAppend, hExtend, hPop, eIter, eEnum, eRng, sFor, eYes, startE, backs, FR.of, okRes, eCall, isIns_nd, eMeth, eFrz, eSeal, newI, okSelf, eMake, sRaise, SR.fin, sTry, eIsi, partD, eInt, hSl, eSl, getP, setP, ownP, ownF_own, ownF_ro, ownF_pm, frz, frzL, frF_own, frF_ro, frF_pm, isRo, isRoL, roF_own, roF_ro, roF_pm, pmz, pmzL, clean, cleanL, isUns_nd, isUns_i, isUns_b, isUns_t, isUns_n, isUns_u, isPm_i, isPm_b, isPm_t, isPm_n, isPm_pm, isPm_ro', isPm_own, mkTup, killS, setS, List.getElem?_cons_zero, List.getElem?_cons_succ, List.set_cons_zero, List.set_cons_succ, List.map_cons, List.map_nil, List.length_cons, List.length_nil, List.cons_append, List.nil_append, List.append_nil, List.replicate_succ, List.replicate_zero, List.all_cons, List.all_nil, Bool.and_true, Bool.true_and, Bool.and_self, Bool.false_eq_true, Option.map_some, Option.map_none, Nat.reduceAdd, Nat.reduceSub, Nat.reduceBEq, beq_self_eq_true, Nat.reduceLT, Nat.sub_self, if_true, if_false, reduceIte, decide_true, decide_false, decide_eq_true_eq, true_and, and_true, and_self, or_true, true_or, or_self, false_or, or_false, false_and, and_false, Int.reduceLT, Int.reduceNeg, Int.reduceLE, Int.reduceAdd, Int.reduceSub, Int.reduceMul, Int.reduceEq, Int.reduceNe]
      · refine ⟨fun j hj => ?_, fun w => ?_⟩
        · rcases List.mem_append.mp hj with hj | hj
          · exact h.1 j hj
          · simp at hj; subst hj; exact ⟨x3, x4⟩
        · rw [pS_snoc, h.2 w]
          show w node - w start + (w (rowAt rows x).2.1 - w (rowAt rows x).1) = w (rowAt rows x).2.1 - w start
          rw [x2.1]; omega

theorem any5 (fu : Nat) (ns : List Int) (loose rows : Option D) (n : Option D) (k j : Int) (start node : Option D) (flow : List Int) (o14 : Option D) (hk : 0 ≤ k ∧ k < ns.length) (hj : 0 ≤ j ∧ j < flow.length) :
    turn (tgName 14) (l_law_any_network_5 fu) [] (.int j) [some (.nd .lst .ro (dI ns)), loose, n, rows, some (.nd .lst .own (dI flow)), none, none, none, some (.int k), start, node, none, none, none, o14, none, none] =
      .nx [some (.nd .lst .ro (dI ns)), loose, n, rows, some (.nd .lst .own (dI (inc flow j.toNat (ns.getD k.toNat 0 / 100 % 4)))), none, none, none, some (.int k), start, node, none, none, none, some (.int j), none, none] := by
  obtain ⟨b0, b1, b2⟩ := dI_at (f := ns) hk.1 hk.2
  obtain ⟨c0, c1, c2⟩ := dI_at (f := flow) hj.1 hj.2
  have q : (0 : Int) < 100 ∧ (100 : Int) < 1073741824 := by decide
  have q2 : (0 : Int) < 4 := by decide
  simp only [turn, l_law_any_network_5, b0, b1, b2, c0, c1, c2, q, q2, dI_set, ER.bind, ER.of, PR.toE, PR.bind, ER.toP, ER.toS, PR.toS, LR.toE, LR.of, FR.toE, fName, fIx, ixOf, eConst, eMove, eLk, eSh, pF, pI, eLook, eRo, eShr, eOp2, eChain_s, eAnd_s, eOr_s, eNot, eIf, lNil, lCons, eLst, eTup, eCallV, hAbs, hMax2, hMin2, hInt, hLen, hList, hAddI, hSubI, hDivI, hModI, hShrI, hAndI, hMulI, hAdd, hAddS, hOr, hI, hIB, hCat, hIn, hNin, hIs, hIsnt, isN, hLt, hLe, hGt, hGe, eNeg, fIxV, eIxT, sNext, sSeq, sBreak, sCont, sDrop, sRet, sRetN, sIf, sSet, sAug, setA, setL, putS, sPut, getA, sPutAug, tgName, tgNil, tgCons, tgTup, sTg, sPar, setFd, getFd, sFldS, sFldAugS, putE, eMut, isOL_own, hAppend, hExtend, hPop, eIter, eEnum, eRng, sFor, eYes, eLc, startE, backs, FR.of, okRes, eCall, isIns_nd, eMeth, eFrz, eSeal, newI, okSelf, eMake, sRaise, SR.fin, sTry, eIsi, partD, eInt, hSl, eSl, getP, setP, ownP, ownF_own, ownF_ro, ownF_pm, frz, frzL, frF_own, frF_ro, frF_pm, isRo, isRoL, roF_own, roF_ro, roF_pm, pmz, pmzL, clean, cleanL, isUns_nd, isUns_i, isUns_b, isUns_t, isUns_n, isUns_u, isPm_i, isPm_b, isPm_t, isPm_n, isPm_pm, isPm_ro', isPm_own, mkTup, killS, setS, List.getElem?_cons_zero, List.getElem?_cons_succ, List.set_cons_zero, List.set_cons_succ, List.map_cons, List.map_nil, List.length_cons, List.length_nil, List.cons_append, List.nil_append, List.append_nil, List.replicate_succ, List.replicate_zero, List.all_cons, List.all_nil, Bool.and_true, Bool.true_and, Bool.and_self, Bool.false_eq_true, Option.map_some, Option.map_none, Nat.reduceAdd, Nat.reduceSub, Nat.reduceBEq, beq_self_eq_true, Nat.reduceLT, Nat.sub_self, if_true, if_false, reduceIte, decide_true, decide_false, decide_eq_true_eq, true_and, and_true, and_self, or_true, true_or, or_self, false_or, or_false, false_and, and_false, Int.reduceLT, Int.reduceNeg, Int.reduceLE, Int.reduceAdd, Int.reduceSub, Int.reduceMul, Int.reduceEq, Int.reduceNe]
  rfl
/-- how the values stand -/
def FInv (rows : List Arc) (flow : List Int) : Prop := flow.length = rows.length ∧ (∀ x ∈ flow, 0 ≤ x) ∧ ∀ w, fD w rows flow = 0
def PIn (rows : List Arc) (start : Int) (m : Nat) (s : Int × List Int × Option D) : Prop := s.2.1.length ≤ m + 1 ∧ PInv rows start s.1 s.2.1
theorem any6 (fu : Nat) (ns : List Int) (loose : Option D) (k n : Int) (rows : List Arc) (flow : List Int) (o14 : Option D) (hn : 0 ≤ n ∧ n ≤ 800) (hl : rows.length ≤ 900) (hk : 0 ≤ k ∧ k < ns.length) (hr : rows.length = ns.length) (h : FInv rows flow) :
    ∃ s : List Int × Option D, turn (tgName 8) (l_law_any_network_6 fu) [8, 9, 10, 11, 12, 13] (.int k)
      [some (.nd .lst .ro (dI ns)), loose, some (.int n), some (.nd .lst .own (dRs rows)), some (.nd .lst .own (dI flow)), none, none, none, none, none, none, none, none, none, o14, none, none] =
      .nx [some (.nd .lst .ro (dI ns)), loose, some (.int n), some (.nd .lst .own (dRs rows)), some (.nd .lst .own (dI s.1)), none, none, none, none, none, none, none, none, none, s.2, none, none] ∧ FInv rows s.1 := by
  obtain ⟨r0, r1, r2⟩ := row_at (rows := rows) hk.1 (by omega)
  have hrg : ∀ (a1 a2 a3 a4 a5 a6 a7 : Option D), eRng (lCons (eLk (fName 2)) lNil) [a1, loose, some (.int n), a2, a3, none, none, none, a4, a5, a6, a7, none, none, o14, none, none] = .ok (rngD 0 1 n.toNat) [a1, loose, some (.int n), a2, a3, none, none, none, a4, a5, a6, a7, none, none, o14, none, none] := fun _ _ _ _ _ _ _ => eRng_of (ds := [.int n]) rfl (rng1i hn.1 (by omega))
  obtain ⟨s, l1, l2, l3⟩ := forL_N0 (tg := tgName 12) (body := l_law_any_network_4 fu) (kl := [12, 13])
    (fun s : Int × List Int × Option D => [some (.nd .lst .ro (dI ns)), loose, some (.int n), some (.nd .lst .own (dRs rows)), some (.nd .lst .own (dI flow)), none, none, none, some (.int k), some (.int (rowAt rows k).1), some (.int s.1), some (.nd .lst .own (dI s.2.1)), none, none, s.2.2, none, none])
    (PIn rows (rowAt rows k).1) n.toNat ((rowAt rows k).2.1, [k], o14) ⟨by simp, fun j hj => by
      simp at hj; subst hj; omega, fun w => by simp [pS, rowAt]⟩ fun m s hm hs => by
      obtain ⟨s', t1, t2, t3⟩ := any4 fu ns loose (some (.nd .lst .own (dI flow))) k (rowAt rows k).1 n s.1 rows s.2.1 (.int (m : Nat)) s.2.2 hl (by have := hs.1; omega) hk hs.2
      exact ⟨s', t1, by have := hs.1; omega, t3⟩
  have e1 : dI [k] = [.int k] := rfl
  rw [e1] at l1
  by_cases g : s.1 = (rowAt rows k).1
  · have l5 := (forL_fold (tg := tgName 14) (body := l_law_any_network_5 fu) (kl := []) (fun j : Int => .int j)
      (fun t : List Int × Option D => [some (.nd .lst .ro (dI ns)), loose, some (.int n), some (.nd .lst .own (dRs rows)), some (.nd .lst .own (dI t.1)), none, none, none, some (.int k), some (.int (rowAt rows k).1), some (.int s.1), none, none, none, t.2, none, none])
      (fun t j => (inc t.1 j.toNat (ns.getD k.toNat 0 / 100 % 4), some (.int j))) (fun t => t.1.length = rows.length) s.2.1 (flow, s.2.2) h.1 fun t ht j hj => ⟨any5 fu ns loose (some (.nd .lst .own (dRs rows))) (some (.int n)) k j _ _ t.1 t.2 hk (by have := l3.1 j hj; omega), by dsimp only; rw [inc_len]; exact ht⟩).1
    have e5 : ∀ (js : List Int) (t : List Int × Option D), (js.foldl (fun t j => (inc t.1 j.toNat (ns.getD k.toNat 0 / 100 % 4), some (D.int j))) t).1 = adds (ns.getD k.toNat 0 / 100 % 4) t.1 js := by
      intro js
      induction js with
      | nil => intro t; rfl
      | cons j js ih => intro t; rw [List.foldl_cons, ih]; rfl
    have e6 := e5 s.2.1 (flow, s.2.2)
    generalize s.2.1.foldl (fun t j => (inc t.1 j.toNat (ns.getD k.toNat 0 / 100 % 4), some (D.int j))) (flow, s.2.2) = t at l5 e6
    refine ⟨t, ?_, ?_⟩
    · rw [g] at l1 l5
      have e7 : List.map (fun j : Int => D.int j) s.2.1 = dI s.2.1 := rfl
      rw [e7] at l5
      simp only [turn, l_law_any_network_6, r0, r2, dR, z40, z41, hrg, l1, hEq_i, itemsD, itemsL, frzL_dI, l5, ER.bind, ER.of, PR.toE, PR.bind, ER.toP, ER.toS, PR.toS, LR.toE, LR.of, FR.toE, fName, fIx, ixOf, eConst, eMove, eLk, eSh, pF, pI, eLook, eRo, eShr, eOp2, eChain_s, eAnd_s, eOr_s, eNot, eIf, lNil, lCons, eLst, eTup, eCallV, hAbs, hMax2, hMin2, hInt, hLen, hList, hAddI, hSubI, hDivI, hModI, hShrI, hAndI, hMulI, hAdd, hAddS, hOr, hI, hIB, hCat, hIn, hNin, hIs, hIsnt, isN, hLt, hLe, hGt, hGe, eNeg, fIxV, eIxT, sNext, sSeq, sBreak, sCont, sDrop, sRet, sRetN, sIf, sSet, sAug, setA, setL, putS, sPut, getA, sPutAug, tgName, tgNil, tgCons, tgTup, sTg, sPar, setFd, getFd, sFldS, sFldAugS, putE, eMut, isOL_own, hAppend, hExtend, hPop, eIter, eEnum, sFor, eYes, eLc, startE, backs, FR.of, okRes, eCall, isIns_nd, eMeth, eFrz, eSeal, newI, okSelf, eMake, sRaise, SR.fin, sTry, eIsi, partD, eInt, hSl, eSl, getP, setP, ownP, ownF_own, ownF_ro, ownF_pm, frz, frzL, frF_own, frF_ro, frF_pm, isRo, isRoL, roF_own, roF_ro, roF_pm, pmz, pmzL, clean, cleanL, isUns_nd, isUns_i, isUns_b, isUns_t, isUns_n, isUns_u, isPm_i, isPm_b, isPm_t, isPm_n, isPm_pm, isPm_ro', isPm_own, mkTup, killS, setS, List.getElem?_cons_zero, List.getElem?_cons_succ, List.set_cons_zero, List.set_cons_succ, List.map_cons, List.map_nil, List.length_cons, List.length_nil, List.cons_append, List.nil_append, List.append_nil, List.replicate_succ, List.replicate_zero, List.all_cons, List.all_nil, Bool.and_true, Bool.true_and, Bool.and_self, Bool.false_eq_true, Option.map_some, Option.map_none, Nat.reduceAdd, Nat.reduceSub, Nat.reduceBEq, beq_self_eq_true, Nat.reduceLT, Nat.sub_self, if_true, if_false, reduceIte, decide_true, decide_false, decide_eq_true_eq, true_and, and_true, and_self, or_true, true_or, or_self, false_or, or_false, false_and, and_false, Int.reduceLT, Int.reduceNeg, Int.reduceLE, Int.reduceAdd, Int.reduceSub, Int.reduceMul, Int.reduceEq, Int.reduceNe]
    · rw [e6]
      refine ⟨by rw [adds_len]; exact h.1, adds_nn (Int.emod_nonneg _ (by decide)) _ _ h.2.1, fun w => ?_⟩
      rw [fD_adds w _ rows s.2.1 flow h.1 l3.1, h.2.2 w, l3.2 w, g]
      omega
  · refine ⟨(flow, s.2.2), ?_, h⟩
    simp only [turn, l_law_any_network_6, r0, r2, dR, z40, z41, hrg, l1, hEq_i, g, ER.bind, ER.of, PR.toE, PR.bind, ER.toP, ER.toS, PR.toS, LR.toE, LR.of, FR.toE, fName, fIx, ixOf, eConst, eMove, eLk, eSh, pF, pI, eLook, eRo, eShr, eOp2, eChain_s, eAnd_s, eOr_s, eNot, eIf, lNil, lCons, eLst, eTup, eCallV, hAbs, hMax2, hMin2, hInt, hLen, hList, hAddI, hSubI, hDivI, hModI, hShrI, hAndI, hMulI, hAdd, hAddS, hOr, hI, hIB, hCat, hIn, hNin, hIs, hIsnt, isN, hLt, hLe, hGt, hGe, eNeg, fIxV, eIxT, sNext, sSeq, sBreak, sCont, sDrop, sRet, sRetN, sIf, sSet, sAug, setA, setL, putS, sPut, getA, sPutAug, tgName, tgNil, tgCons, tgTup, sTg, sPar, setFd, getFd, sFldS, sFldAugS, putE, eMut, isOL_own, hAppend, hExtend, hPop, eIter, eEnum, sFor, eYes, eLc, startE, backs, FR.of, okRes, eCall, isIns_nd, eMeth, eFrz, eSeal, newI, okSelf, eMake, sRaise, SR.fin, sTry, eIsi, partD, eInt, hSl, eSl, getP, setP, ownP, ownF_own, ownF_ro, ownF_pm, frz, frzL, frF_own, frF_ro, frF_pm, isRo, isRoL, roF_own, roF_ro, roF_pm, pmz, pmzL, clean, cleanL, isUns_nd, isUns_i, isUns_b, isUns_t, isUns_n, isUns_u, isPm_i, isPm_b, isPm_t, isPm_n, isPm_pm, isPm_ro', isPm_own, mkTup, killS, setS, List.getElem?_cons_zero, List.getElem?_cons_succ, List.set_cons_zero, List.set_cons_succ, List.map_cons, List.map_nil, List.length_cons, List.length_nil, List.cons_append, List.nil_append, List.append_nil, List.replicate_succ, List.replicate_zero, List.all_cons, List.all_nil, Bool.and_true, Bool.true_and, Bool.and_self, Bool.false_eq_true, Option.map_some, Option.map_none, Nat.reduceAdd, Nat.reduceSub, Nat.reduceBEq, beq_self_eq_true, Nat.reduceLT, Nat.sub_self, if_true, if_false, reduceIte, decide_true, decide_false, decide_eq_true_eq, true_and, and_true, and_self, or_true, true_or, or_self, false_or, or_false, false_and, and_false, Int.reduceLT, Int.reduceNeg, Int.reduceLE, Int.reduceAdd, Int.reduceSub, Int.reduceMul, Int.reduceEq, Int.reduceNe]

def leastOf (loose v x : Int) : Int := if v - x / 400 % 4 + loose * (x % 3) > 0 then v - x / 400 % 4 + loose * (x % 3) else 0
def mostOf (l v x : Int) : Int := if v + x / 1600 % 3 > l then v + x / 1600 % 3 else l
/-- a finished arc -/
def arcOf (ns : List Int) (rows : List Arc) (flow : List Int) (loose k : Int) : Arc :=
  ((rowAt rows k).1, (rowAt rows k).2.1, leastOf loose (flow.getD k.toNat 0) (ns.getD k.toNat 0), mostOf (leastOf loose (flow.getD k.toNat 0) (ns.getD k.toNat 0)) (flow.getD k.toNat 0) (ns.getD k.toNat 0))
def mixD (rows done : List Arc) : List D := dAs .pm done ++ dRs (rows.drop done.length)
theorem mix_at {rows done : List Arc} {k : Int} (h0 : 0 ≤ k) (h : done.length = k.toNat) (h1 : k < rows.length) (a : Arc) : L2.ixN (mixD rows done).length k = some k.toNat ∧ (mixD rows done)[k.toNat]? = some (dR (rowAt rows k)) ∧ (mixD rows done).set k.toNat (dA .pm a) = mixD rows (done ++ [a]) := by
  have hl : k.toNat < rows.length := by omega
  have e : rows.drop done.length = rowAt rows k :: rows.drop (done.length + 1) := by
    rw [h, List.drop_eq_getElem_cons hl]
    unfold rowAt
    rw [List.getD_eq_getElem?_getD, List.getElem?_eq_getElem hl]; rfl
  have e2 : mixD rows done = dAs .pm done ++ dR (rowAt rows k) :: dRs (rows.drop (done.length + 1)) := by unfold mixD; rw [e]; rfl
  have e3 : (dAs .pm done).length = k.toNat := by rw [dAs_len, h]
  refine ⟨ixN_of h0 ?_, ?_, ?_⟩
  · unfold mixD
    rw [List.length_append, dAs_len, dRs_len, List.length_drop]; omega
  · rw [e2, List.getElem?_append_right (by omega), e3, Nat.sub_self]; rfl
  · rw [e2, List.set_append_right _ _ (by omega), e3, Nat.sub_self]
    unfold mixD
    rw [List.length_append]
    simp [dAs]
theorem any7 (fu : Nat) (ns : List Int) (loose k n : Int) (rows done : List Arc) (flow : List Int) (o14 : Option D) (hk : 0 ≤ k ∧ k < ns.length) (hr : rows.length = ns.length) (hf : flow.length = ns.length) (hd : done.length = k.toNat) :
    turn (tgName 8) (l_law_any_network_7 fu) [8, 15, 16] (.int k)
      [some (.nd .lst .ro (dI ns)), some (.int loose), some (.int n), some (.nd .lst .own (mixD rows done)), some (.nd .lst .own (dI flow)), none, none, none, none, none, none, none, none, none, o14, none, none] =
      .nx [some (.nd .lst .ro (dI ns)), some (.int loose), some (.int n), some (.nd .lst .own (mixD rows (done ++ [arcOf ns rows flow loose k]))), some (.nd .lst .own (dI flow)), none, none, none, none, none, none, none, none, none, o14, none, none] := by
  obtain ⟨b0, b1, b2⟩ := dI_at (f := ns) hk.1 hk.2
  obtain ⟨c0, c1, c2⟩ := dI_at (f := flow) hk.1 (by omega)
  obtain ⟨m0, m1, m2⟩ := mix_at (rows := rows) (done := done) hk.1 hd (by omega) (arcOf ns rows flow loose k)
  have q : (0 : Int) < 400 ∧ (400 : Int) < 1073741824 := by decide
  have q2 : (0 : Int) < 1600 ∧ (1600 : Int) < 1073741824 := by decide
  have q3 : (0 : Int) < 4 := by decide
  have q4 : (0 : Int) < 3 := by decide
  have hm : hMul (.int loose) (.int (ns.getD k.toNat 0 % 3)) = some (.int (loose * (ns.getD k.toNat 0 % 3))) := mulR (by omega)
  have e : dA .pm (arcOf ns rows flow loose k) = .nd .tup .pm [.int (rowAt rows k).1, .int (rowAt rows k).2.1, .int (leastOf loose (flow.getD k.toNat 0) (ns.getD k.toNat 0)), .int (mostOf (leastOf loose (flow.getD k.toNat 0) (ns.getD k.toNat 0)) (flow.getD k.toNat 0) (ns.getD k.toNat 0))] := rfl
  rw [e] at m2
  have l1 : leastOf loose (flow.getD k.toNat 0) (ns.getD k.toNat 0) = if flow.getD k.toNat 0 - ns.getD k.toNat 0 / 400 % 4 + loose * (ns.getD k.toNat 0 % 3) > 0 then flow.getD k.toNat 0 - ns.getD k.toNat 0 / 400 % 4 + loose * (ns.getD k.toNat 0 % 3) else 0 := rfl
  have l2 : ∀ l, mostOf l (flow.getD k.toNat 0) (ns.getD k.toNat 0) = if flow.getD k.toNat 0 + ns.getD k.toNat 0 / 1600 % 3 > l then flow.getD k.toNat 0 + ns.getD k.toNat 0 / 1600 % 3 else l := fun _ => rfl
  simp only [turn, l_law_any_network_7, b0, b1, b2, c0, c1, c2, m0, m1, q, q2, q3, q4, hm, dR, z40, z41, ← l1, ← l2, m2, ER.bind, ER.of, PR.toE, PR.bind, ER.toP, ER.toS, PR.toS, LR.toE, LR.of, FR.toE, fName, fIx, ixOf, eConst, eMove, eLk, eSh, pF, pI, eLook, eRo, eShr, eOp2, eChain_s, eAnd_s, eOr_s, eNot, eIf, lNil, lCons, eLst, eTup, eCallV, hAbs, hMax2, hMin2, hInt, hLen, hList, hAddI, hSubI, hDivI, hModI, hShrI, hAndI, hMulI, hAdd, hAddS, hOr, hI, hIB, hCat, hIn, hNin, hIs, hIsnt, isN, hLt, hLe, hGt, hGe, eNeg, fIxV, eIxT, sNext, sSeq, sBreak, sCont, sDrop, sRet, sRetN, sIf, sSet, sAug, setA, setL, putS, sPut, getA, sPutAug, tgName, tgNil, tgCons, tgTup, sTg, sPar, setFd, getFd, sFldS, sFldAugS, putE, eMut, isOL_own, hAppend, hExtend, hPop, eIter, eEnum, eRng, sFor, eYes, eLc, startE, backs, FR.of, okRes, eCall, isIns_nd, eMeth, eFrz, eSeal, newI, okSelf, eMake, sRaise, SR.fin, sTry, eIsi, partD, eInt, hSl, eSl, getP, setP, ownP, ownF_own, ownF_ro, ownF_pm, frz, frzL, frF_own, frF_ro, frF_pm, isRo, isRoL, roF_own, roF_ro, roF_pm, pmz, pmzL, clean, cleanL, isUns_nd, isUns_i, isUns_b, isUns_t, isUns_n, isUns_u, isPm_i, isPm_b, isPm_t, isPm_n, isPm_pm, isPm_ro', isPm_own, mkTup, killS, setS, List.getElem?_cons_zero, List.getElem?_cons_succ, List.set_cons_zero, List.set_cons_succ, List.map_cons, List.map_nil, List.length_cons, List.length_nil, List.cons_append, List.nil_append, List.append_nil, List.replicate_succ, List.replicate_zero, List.all_cons, List.all_nil, Bool.and_true, Bool.true_and, Bool.and_self, Bool.false_eq_true, Option.map_some, Option.map_none, Nat.reduceAdd, Nat.reduceSub, Nat.reduceBEq, beq_self_eq_true, Nat.reduceLT, Nat.sub_self, if_true, if_false, reduceIte, decide_true, decide_false, decide_eq_true_eq, true_and, and_true, and_self, or_true, true_or, or_self, false_or, or_false, false_and, and_false, Int.reduceLT, Int.reduceNeg, Int.reduceLE, Int.reduceAdd, Int.reduceSub, Int.reduceMul, Int.reduceEq, Int.reduceNe]
/-- a network as it is drawn -/
structure NetOk (n : Int) (as : List Arc) (vs : List Int) (cap : Prop) : Prop where
  n2 : 2 ≤ n
  n5 : n ≤ 5
  len : as.length ≤ 10
  vl : ∀ a ∈ as, val n a = true
  fl : vs.length = as.length
  nn : ∀ x ∈ vs, 0 ≤ x
  bal : ∀ w, fD w as vs = 0
  cap : cap → ∀ i a, as[i]? = some a → a.2.2.1 ≤ vs.getD i 0 ∧ vs.getD i 0 ≤ a.2.2.2
theorem idxs_succ (k : Nat) : idxs (k + 1) = idxs k ++ [(k : Int)] := by
  unfold idxs; rw [List.range_succ, List.map_append]; rfl
theorem idxs_get {m i : Nat} (h : i < m) : (idxs m)[i]? = some (i : Int) := by
  unfold idxs; rw [List.getElem?_map, List.getElem?_range h]; rfl
theorem rows_idx (rows : List Arc) : rows = (idxs rows.length).map (rowAt rows) := by
  refine List.ext_getElem? fun i => ?_
  by_cases h : i < rows.length
  · rw [List.getElem?_map, idxs_get h, getD_some h]
    simp [rowAt]
  · rw [List.getElem?_eq_none (by omega), List.getElem?_eq_none (by rw [List.length_map, idxs_len]; omega)]
theorem row_val {n x : Int} (h : 2 ≤ n) (h5 : n ≤ 5) : 0 ≤ (rowOf n x).1 ∧ (rowOf n x).1 < n ∧ 0 ≤ (rowOf n x).2.1 ∧ (rowOf n x).2.1 < n ∧ (rowOf n x).1 ≠ (rowOf n x).2.1 := by
  unfold rowOf
  dsimp only
  have : n = 2 ∨ n = 3 ∨ n = 4 ∨ n = 5 := by omega
  rcases this with rfl | rfl | rfl | rfl <;> omega
theorem net_ok {n loose : Int} {ns flow : List Int} {rows : List Arc} (h2 : 2 ≤ n) (h5 : n ≤ 5) (hl : ns.length ≤ 10) (hr : rows = ns.map (rowOf n)) (hf : FInv rows flow) (h0 : 0 ≤ loose) :
    NetOk n ((idxs rows.length).map (arcOf ns rows flow loose)) flow (loose = 0) := by
  have hrl : rows.length = ns.length := by rw [hr, List.length_map]
  have hrow : ∀ k : Nat, k < rows.length → rowAt rows k = rowOf n (ns.getD k 0) := fun k hk => by
    unfold rowAt
    rw [hr, Int.toNat_natCast, List.getD_eq_getElem?_getD, List.getElem?_map, List.getD_eq_getElem?_getD, List.getElem?_eq_getElem (by omega)]; rfl
  have hge : ∀ (i : Nat) (a : Arc), ((idxs rows.length).map (arcOf ns rows flow loose))[i]? = some a → i < rows.length ∧ a = arcOf ns rows flow loose (i : Nat) := fun i a h => by
    rw [List.getElem?_map] at h
    by_cases hi : i < rows.length
    · rw [idxs_get hi] at h
      simp at h
      exact ⟨hi, h.symm⟩
    · rw [List.getElem?_eq_none (by rw [idxs_len]; omega)] at h; simp at h
  have hnn : ∀ i : Nat, 0 ≤ flow.getD i 0 := fun i => by
    by_cases hi : i < flow.length
    · rw [List.getD_eq_getElem?_getD, List.getElem?_eq_getElem hi]
      exact hf.2.1 _ (List.getElem_mem hi)
    · rw [List.getD_eq_getElem?_getD, List.getElem?_eq_none (by omega)]; exact Int.le_refl _
  refine ⟨h2, h5, by rw [List.length_map, idxs_len]; omega, fun a ha => ?_, by rw [List.length_map, idxs_len]; exact hf.1, hf.2.1, fun w => ?_, fun hc i a h => ?_⟩
  · obtain ⟨i, hi⟩ := List.getElem?_of_mem ha
    obtain ⟨h1, rfl⟩ := hge i a hi
    have hv := row_val (x := ns.getD i 0) h2 h5
    rw [← hrow i h1] at hv
    obtain ⟨v1, v2, v3, v4, v5⟩ := hv
    unfold val arcOf
    simp only [Bool.and_eq_true, decide_eq_true_eq]
    refine ⟨⟨⟨⟨⟨⟨v1, v2⟩, v3⟩, v4⟩, v5⟩, ?_⟩, ?_⟩
    · unfold leastOf
      generalize flow.getD _ 0 - _ + _ = e
      split <;> omega
    · unfold mostOf
      split <;> omega
  · rw [← hf.2.2 w]
    refine fD_cong w _ _ _ ?_
    conv => rhs; rw [rows_idx rows]
    rw [List.map_map, List.map_map]
    exact List.map_congr_left fun j _ => rfl
  · obtain ⟨h1, rfl⟩ := hge i a h
    have := hnn i
    unfold arcOf
    dsimp only
    rw [Int.toNat_natCast]
    unfold mostOf leastOf
    subst hc
    generalize flow.getD i 0 = v at *
    generalize ns.getD i 0 = x at *
    rw [Int.zero_mul]
    constructor
    · split <;> omega
    · split <;> split <;> omega

theorem ints_dI : ∀ ns : List Int, intsOf (dI ns) = some ns
  | [] => rfl
  | n :: ns => by
    show intsOf (.int n :: dI ns) = _
    rw [intsOf, ints_dI ns]; rfl
theorem sum_dI (fl : Fl) (ns : List Int) : hSum [.nd .lst fl (dI ns)] = some (.int ns.sum) := by
  simp only [hSum, lstOf, Option.bind_some, ints_dI, Option.map_some]
theorem any1s (fu : Nat) (nums : D) (loose n : Int) (hn : 2 ≤ n) : ∀ (xs : List Int) (as : List Arc), as.length + xs.length ≤ 900 →
    forL (tgName 5) (l_law_any_network_1 fu) [5, 6, 7] (dI xs) [some nums, some (.int loose), some (.int n), some (.nd .lst .own (dRs as)), some (.nd .lst .own (dI (List.replicate as.length 0))), none, none, none, none, none, none, none, none, none, none, none, none] =
      .nx [some nums, some (.int loose), some (.int n), some (.nd .lst .own (dRs (as ++ xs.map (rowOf n)))), some (.nd .lst .own (dI (List.replicate (as ++ xs.map (rowOf n)).length 0))), none, none, none, none, none, none, none, none, none, none, none, none]
  | [], as, _ => by rw [List.map_nil, List.append_nil]; rfl
  | x :: xs, as, h => by
    have e : dI (x :: xs) = .int x :: dI xs := rfl
    rw [e, forL_cons, any1 fu nums loose n x hn as (by simp at h; omega)]
    dsimp only
    rw [any1s fu nums loose n hn xs (as ++ [rowOf n x]) (by simp at h ⊢; omega)]
    rw [List.append_assoc, List.map_cons]; rfl
theorem clL_dAs (as : List Arc) : cleanL (dAs .pm as) = true := clL_map _ (fun _ => rfl) as
theorem pmzL_dAs (fl : Fl) (as : List Arc) : pmzL (dAs fl as) = dAs .pm as := pmzL_mapE _ _ (fun _ => rfl) as
theorem net_eq (fu : Nat) (ns : List Int) (loose : Int) (hl : ns.length ≤ 10) (h0 : 0 ≤ loose) :
    ∃ n as vs, m_law_any_network fu [.nd .lst .ro (dI ns), .int loose] = .ok (.nd .tup .pm [.int n, .nd .lst .pm (dAs .pm as), .nd .lst .pm (dI vs)]) [] ∧ NetOk n as vs (loose = 0) := by
  have hn : 2 ≤ 2 + ns.sum % 4 := by omega
  have hn5 : 2 + ns.sum % 4 ≤ 5 := by omega
  generalize hnn : 2 + ns.sum % 4 = n at hn hn5
  have a1 := any1s fu (.nd .lst .ro (dI ns)) loose n hn ns [] (by simp; omega)
  rw [List.nil_append] at a1
  generalize hrows : ns.map (rowOf n) = rows at a1
  have hrl : rows.length = ns.length := by rw [← hrows, List.length_map]
  obtain ⟨s, a2, i2⟩ := forL_N0 (tg := tgName 8) (body := l_law_any_network_6 fu) (kl := [8, 9, 10, 11, 12, 13])
    (fun s : List Int × Option D => [some (.nd .lst .ro (dI ns)), some (.int loose), some (.int n), some (.nd .lst .own (dRs rows)), some (.nd .lst .own (dI s.1)), none, none, none, none, none, none, none, none, none, s.2, none, none])
    (fun _ s => FInv rows s.1) ns.length (List.replicate rows.length 0, none) ⟨List.length_replicate, fun x hx => by rw [(List.mem_replicate.mp hx).2]; exact Int.le_refl _, fun w => fD_zero w rows _⟩
    fun k s hk hs => any6 fu ns _ (k : Nat) n rows s.1 s.2 (by omega) (by omega) (by omega) hrl hs
  obtain ⟨done, a3, i3⟩ := forL_N0 (tg := tgName 8) (body := l_law_any_network_7 fu) (kl := [8, 15, 16])
    (fun done : List Arc => [some (.nd .lst .ro (dI ns)), some (.int loose), some (.int n), some (.nd .lst .own (mixD rows done)), some (.nd .lst .own (dI s.1)), none, none, none, none, none, none, none, none, none, s.2, none, none])
    (fun k done => done = (idxs k).map (arcOf ns rows s.1 loose)) rows.length [] rfl
    fun k done hk hd => ⟨_, any7 fu ns loose (k : Nat) n rows done s.1 s.2 (by omega) hrl (by rw [i2.1, hrl]) (by rw [hd, List.length_map, idxs_len]; simp), by rw [idxs_succ, List.map_append, ← hd]; rfl⟩
  have ok := net_ok (loose := loose) hn hn5 hl hrows.symm i2 h0
  rw [← i3] at ok
  have e0 : mixD rows [] = dRs rows := rfl
  have e1 : mixD rows done = dAs .pm done := by
    unfold mixD
    rw [i3, List.length_map, idxs_len, List.drop_length]
    simp [dRs]
  rw [e0, e1] at a3
  have hr1 : ∀ a b c d e, eRng (lCons (eCallV hLen (lCons (eLk (fName 0)) lNil)) lNil) (some (.nd .lst .ro (dI ns)) :: a :: b :: c :: d :: e) = .ok (rngD 0 1 ns.length) (some (.nd .lst .ro (dI ns)) :: a :: b :: c :: d :: e) := fun a b c d e => by
    refine eRng_of (ds := [.int (ns.length : Nat)]) ?_ (rng1 (by omega))
    simp only [dI_len, ER.bind, ER.of, PR.toE, PR.bind, ER.toP, ER.toS, PR.toS, LR.toE, LR.of, FR.toE, fName, fIx, ixOf, eConst, eMove, eLk, eSh, pF, pI, eLook, eRo, eShr, eOp2, eChain_s, eAnd_s, eOr_s, eNot, eIf, lNil, lCons, eLst, eTup, eCallV, hAbs, hMax2, hMin2, hInt, hLen, hList, hAddI, hSubI, hDivI, hModI, hShrI, hAndI, hMulI, hAdd, hAddS, hOr, hI, hIB, hCat, hIn, hNin, hIs, hIsnt, isN, hLt, hLe, hGt, hGe, eNeg, fIxV, eIxT, sNext, sSeq, sBreak, sCont, sDrop, sRet, sRetN, sIf, sSet, sAug, setA, setL, putS, sPut, getA, sPutAug, tgName, tgNil, tgCons, tgTup, sTg, sPar, setFd, getFd, sFldS, sFldAugS, putE, eMut, isOL_own, hAppend, hExtend, hPop, eIter, eEnum, sFor, eYes, eLc, startE, backs, FR.of, okRes, eCall, isIns_nd, eMeth, eFrz, eSeal, newI, okSelf, eMake, sRaise, SR.fin, sTry, eIsi, partD, eInt, hSl, eSl, getP, setP, ownP, ownF_own, ownF_ro, ownF_pm, frz, frzL, frF_own, frF_ro, frF_pm, isRo, isRoL, roF_own, roF_ro, roF_pm, pmz, pmzL, clean, cleanL, isUns_nd, isUns_i, isUns_b, isUns_t, isUns_n, isUns_u, isPm_i, isPm_b, isPm_t, isPm_n, isPm_pm, isPm_ro', isPm_own, mkTup, killS, setS, List.getElem?_cons_zero, List.getElem?_cons_succ, List.set_cons_zero, List.set_cons_succ, List.map_cons, List.map_nil, List.length_cons, List.length_nil, List.cons_append, List.nil_append, List.append_nil, List.replicate_succ, List.replicate_zero, List.all_cons, List.all_nil, Bool.and_true, Bool.true_and, Bool.and_self, Bool.false_eq_true, Option.map_some, Option.map_none, Nat.reduceAdd, Nat.reduceSub, Nat.reduceBEq, beq_self_eq_true, Nat.reduceLT, Nat.sub_self, if_true, if_false, reduceIte, decide_true, decide_false, decide_eq_true_eq, true_and, and_true, and_self, or_true, true_or, or_self, false_or, or_false, false_and, and_false, Int.reduceLT, Int.reduceNeg, Int.reduceLE, Int.reduceAdd, Int.reduceSub, Int.reduceMul, Int.reduceEq, Int.reduceNe]
  have hr3 : ∀ a b c d e, eRng (lCons (eCallV hLen (lCons (eLk (fName 3)) lNil)) lNil) (a :: b :: c :: some (.nd .lst .own (dRs rows)) :: d :: e) = .ok (rngD 0 1 rows.length) (a :: b :: c :: some (.nd .lst .own (dRs rows)) :: d :: e) := fun a b c d e => by
    refine eRng_of (ds := [.int (rows.length : Nat)]) ?_ (rng1 (by omega))
    simp only [dRs_len, ER.bind, ER.of, PR.toE, PR.bind, ER.toP, ER.toS, PR.toS, LR.toE, LR.of, FR.toE, fName, fIx, ixOf, eConst, eMove, eLk, eSh, pF, pI, eLook, eRo, eShr, eOp2, eChain_s, eAnd_s, eOr_s, eNot, eIf, lNil, lCons, eLst, eTup, eCallV, hAbs, hMax2, hMin2, hInt, hLen, hList, hAddI, hSubI, hDivI, hModI, hShrI, hAndI, hMulI, hAdd, hAddS, hOr, hI, hIB, hCat, hIn, hNin, hIs, hIsnt, isN, hLt, hLe, hGt, hGe, eNeg, fIxV, eIxT, sNext, sSeq, sBreak, sCont, sDrop, sRet, sRetN, sIf, sSet, sAug, setA, setL, putS, sPut, getA, sPutAug, tgName, tgNil, tgCons, tgTup, sTg, sPar, setFd, getFd, sFldS, sFldAugS, putE, eMut, isOL_own, hAppend, hExtend, hPop, eIter, eEnum, sFor, eYes, eLc, startE, backs, FR.of, okRes, eCall, isIns_nd, eMeth, eFrz, eSeal, newI, okSelf, eMake, sRaise, SR.fin, sTry, eIsi, partD, eInt, hSl, eSl, getP, setP, ownP, ownF_own, ownF_ro, ownF_pm, frz, frzL, frF_own, frF_ro, frF_pm, isRo, isRoL, roF_own, roF_ro, roF_pm, pmz, pmzL, clean, cleanL, isUns_nd, isUns_i, isUns_b, isUns_t, isUns_n, isUns_u, isPm_i, isPm_b, isPm_t, isPm_n, isPm_pm, isPm_ro', isPm_own, mkTup, killS, setS, List.getElem?_cons_zero, List.getElem?_cons_succ, List.set_cons_zero, List.set_cons_succ, List.map_cons, List.map_nil, List.length_cons, List.length_nil, List.cons_append, List.nil_append, List.append_nil, List.replicate_succ, List.replicate_zero, List.all_cons, List.all_nil, Bool.and_true, Bool.true_and, Bool.and_self, Bool.false_eq_true, Option.map_some, Option.map_none, Nat.reduceAdd, Nat.reduceSub, Nat.reduceBEq, beq_self_eq_true, Nat.reduceLT, Nat.sub_self, if_true, if_false, reduceIte, decide_true, decide_false, decide_eq_true_eq, true_and, and_true, and_self, or_true, true_or, or_self, false_or, or_false, false_and, and_false, Int.reduceLT, Int.reduceNeg, Int.reduceLE, Int.reduceAdd, Int.reduceSub, Int.reduceMul, Int.reduceEq, Int.reduceNe]
  refine ⟨n, done, s.1, ?_, ok⟩
  have q : (0 : Int) < 4 := by decide
  have z1 : dRs [] = [] := rfl
  have z2 : dI (List.replicate (List.length ([] : List Arc)) 0) = [] := rfl
  rw [z1, z2] at a1
  simp only [m_law_any_network, b_law_any_network, sum_dI, q, hnn, isRoL_dI, itemsD, itemsL, frzL_dI, a1, hr1, a2, hr3, a3, clL_dAs, pmzL_dAs, cleanL_dI, pmzL_dI, ER.bind, ER.of, PR.toE, PR.bind, ER.toP, ER.toS, PR.toS, LR.toE, LR.of, FR.toE, fName, fIx, ixOf, eConst, eMove, eLk, eSh, pF, pI, eLook, eRo, eShr, eOp2, eChain_s, eAnd_s, eOr_s, eNot, eIf, lNil, lCons, eLst, eTup, eCallV, hAbs, hMax2, hMin2, hInt, hLen, hList, hAddI, hSubI, hDivI, hModI, hShrI, hAndI, hMulI, hAdd, hAddS, hOr, hI, hIB, hCat, hIn, hNin, hIs, hIsnt, isN, hLt, hLe, hGt, hGe, eNeg, fIxV, eIxT, sNext, sSeq, sBreak, sCont, sDrop, sRet, sRetN, sIf, sSet, sAug, setA, setL, putS, sPut, getA, sPutAug, tgName, tgNil, tgCons, tgTup, sTg, sPar, setFd, getFd, sFldS, sFldAugS, putE, eMut, isOL_own, hAppend, hExtend, hPop, eIter, eEnum, sFor, eYes, eLc, startE, backs, FR.of, okRes, eCall, isIns_nd, eMeth, eFrz, eSeal, newI, okSelf, eMake, sRaise, SR.fin, sTry, eIsi, partD, eInt, hSl, eSl, getP, setP, ownP, ownF_own, ownF_ro, ownF_pm, frz, frzL, frF_own, frF_ro, frF_pm, isRo, isRoL, roF_own, roF_ro, roF_pm, pmz, pmzL, clean, cleanL, isUns_nd, isUns_i, isUns_b, isUns_t, isUns_n, isUns_u, isPm_i, isPm_b, isPm_t, isPm_n, isPm_pm, isPm_ro', isPm_own, mkTup, killS, setS, List.getElem?_cons_zero, List.getElem?_cons_succ, List.set_cons_zero, List.set_cons_succ, List.map_cons, List.map_nil, List.length_cons, List.length_nil, List.cons_append, List.nil_append, List.append_nil, List.replicate_succ, List.replicate_zero, List.all_cons, List.all_nil, Bool.and_true, Bool.true_and, Bool.and_self, Bool.false_eq_true, Option.map_some, Option.map_none, Nat.reduceAdd, Nat.reduceSub, Nat.reduceBEq, beq_self_eq_true, Nat.reduceLT, Nat.sub_self, if_true, if_false, reduceIte, decide_true, decide_false, decide_eq_true_eq, true_and, and_true, and_self, or_true, true_or, or_self, false_or, or_false, false_and, and_false, Int.reduceLT, Int.reduceNeg, Int.reduceLE, Int.reduceAdd, Int.reduceSub, Int.reduceMul, Int.reduceEq, Int.reduceNe]
end Pl
set_option linter.all false
set_option maxRecDepth 100000
set_option maxHeartbeats 2000000
namespace Pl
open PySem PySem.Spec PyProof.Rows L2 DL Mn Wk
/-! ### the law -/
theorem netN {n : Int} {as : List Arc} {vs : List Int} {cap : Prop} (h : NetOk n as vs cap) : as.all (val n) = true := by
  rw [List.all_eq_true]; exact h.vl
/-- an arc that is none -/
theorem wrong_at (n dg : Int) (env : DL.Env) (h2 : 2 ≤ n) (h5 : n ≤ 5) (hn : env[2]? = some (some (.int n))) (hd : env[5]? = some (some (.int dg))) : ∃ wa : Arc, eIxT (eLst (lCons (eTup (lCons (eConst (.int 0)) (lCons (eSh 2 (fName 2)) (lCons (eConst (.int 0)) (lCons (eConst (.int 1)) lNil))))) (lCons (eTup (lCons (eConst (.int 1)) (lCons (eConst (.int 1)) (lCons (eConst (.int 0)) (lCons (eConst (.int 0)) lNil))))) (lCons (eTup (lCons (eConst (.int 0)) (lCons (eConst (.int 1)) (lCons (eNeg (eConst (.int 1))) (lCons (eConst (.int 2)) lNil))))) (lCons (eTup (lCons (eConst (.int 0)) (lCons (eConst (.int 1)) (lCons (eConst (.int 3)) (lCons (eConst (.int 2)) lNil))))) (lCons (eTup (lCons (eNeg (eConst (.int 1))) (lCons (eConst (.int 0)) (lCons (eConst (.int 0)) (lCons (eConst (.int 0)) lNil))))) lNil)))))) (eOp2 hModI (eLk (fName 5)) (eConst (.int 5))) env = .ok (dA .pm wa) env ∧ val n wa = false := by
  have q : (0 : Int) < 5 := by decide
  have hc : dg % 5 = 0 ∨ dg % 5 = 1 ∨ dg % 5 = 2 ∨ dg % 5 = 3 ∨ dg % 5 = 4 := by omega
  have x0 : L2.ixN 5 0 = some 0 := rfl
  have x1 : L2.ixN 5 1 = some 1 := rfl
  have x2 : L2.ixN 5 2 = some 2 := rfl
  have x3 : L2.ixN 5 3 = some 3 := rfl
  have x4 : L2.ixN 5 4 = some 4 := rfl
  rcases hc with h | h | h | h | h
  · exact ⟨(0, n, 0, 1), by simp only [hn, hd, q, h, x0, dA, ER.bind, ER.of, PR.toE, PR.bind, ER.toP, ER.toS, PR.toS, LR.toE, LR.of, FR.toE, fName, fIx, ixOf, eConst, eMove, eLk, eSh, pF, pI, eLook, eRo, eShr, eOp2, eChain_s, eAnd_s, eOr_s, eNot, eIf, lNil, lCons, eLst, eTup, eCallV, hAbs, hMax2, hMin2, hInt, hLen, hList, hAddI, hSubI, hDivI, hModI, hShrI, hAndI, hMulI, hAdd, hAddS, hOr, hI, hIB, hCat, hIn, hNin, hIs, hIsnt, isN, hLt, hLe, hGt, hGe, eNeg, fIxV, eIxT, sNext, sSeq, sBreak, sCont, sDrop, sRet, sRetN, sIf, sSet, sAug, setA, setL, putS, sPut, getA, sPutAug, tgName, tgNil, tgCons, tgTup, sTg, sPar, setFd, getFd, sFldS, sFldAugS, putE, eMut, isOL_own, hAppend, hExtend, hPop, eIter, eEnum, eRng, sFor, eYes, eLc, startE, backs, FR.of, okRes, eCall, isIns_nd, eMeth, eFrz, eSeal, newI, okSelf, eMake, sRaise, SR.fin, sTry, eIsi, partD, eInt, hSl, eSl, getP, setP, ownP, ownF_own, ownF_ro, ownF_pm, frz, frzL, frF_own, frF_ro, frF_pm, isRo, isRoL, roF_own, roF_ro, roF_pm, pmz, pmzL, clean, cleanL, isUns_nd, isUns_i, isUns_b, isUns_t, isUns_n, isUns_u, isPm_i, isPm_b, isPm_t, isPm_n, isPm_pm, isPm_ro', isPm_own, mkTup, killS, setS, List.getElem?_cons_zero, List.getElem?_cons_succ, List.set_cons_zero, List.set_cons_succ, List.map_cons, List.map_nil, List.length_cons, List.length_nil, List.cons_append, List.nil_append, List.append_nil, List.replicate_succ, List.replicate_zero, List.all_cons, List.all_nil, Bool.and_true, Bool.true_and, Bool.and_self, Bool.false_eq_true, Option.map_some, Option.map_none, Nat.reduceAdd, Nat.reduceSub, Nat.reduceBEq, beq_self_eq_true, Nat.reduceLT, Nat.sub_self, if_true, if_false, reduceIte, decide_true, decide_false, decide_eq_true_eq, true_and, and_true, and_self, or_true, true_or, or_self, false_or, or_false, false_and, and_false, Int.reduceLT, Int.reduceNeg, Int.reduceLE, Int.reduceAdd, Int.reduceSub, Int.reduceMul, Int.reduceEq, Int.reduceNe], by simp [val]⟩
  · exact ⟨(1, 1, 0, 0), by simp only [hn, hd, q, h, x1, dA, ER.bind, ER.of, PR.toE, PR.bind, ER.toP, ER.toS, PR.toS, LR.toE, LR.of, FR.toE, fName, fIx, ixOf, eConst, eMove, eLk, eSh, pF, pI, eLook, eRo, eShr, eOp2, eChain_s, eAnd_s, eOr_s, eNot, eIf, lNil, lCons, eLst, eTup, eCallV, hAbs, hMax2, hMin2, hInt, hLen, hList, hAddI, hSubI, hDivI, hModI, hShrI, hAndI, hMulI, hAdd, hAddS, hOr, hI, hIB, hCat, hIn, hNin, hIs, hIsnt, isN, hLt, hLe, hGt, hGe, eNeg, fIxV, eIxT, sNext, sSeq, sBreak, sCont, sDrop, sRet, sRetN, sIf, sSet, sAug, setA, setL, putS, sPut, getA, sPutAug, tgName, tgNil, tgCons, tgTup, sTg, sPar, setFd, getFd, sFldS, sFldAugS, putE, eMut, isOL_own, hAppend, hExtend, hPop, eIter, eEnum, eRng, sFor, eYes, eLc, startE, backs, FR.of, okRes, eCall, isIns_nd, eMeth, eFrz, eSeal, newI, okSelf, eMake, sRaise, SR.fin, sTry, eIsi, partD, eInt, hSl, eSl, getP, setP, ownP, ownF_own, ownF_ro, ownF_pm, frz, frzL, frF_own, frF_ro, frF_pm, isRo, isRoL, roF_own, roF_ro, roF_pm, pmz, pmzL, clean, cleanL, isUns_nd, isUns_i, isUns_b, isUns_t, isUns_n, isUns_u, isPm_i, isPm_b, isPm_t, isPm_n, isPm_pm, isPm_ro', isPm_own, mkTup, killS, setS, List.getElem?_cons_zero, List.getElem?_cons_succ, List.set_cons_zero, List.set_cons_succ, List.map_cons, List.map_nil, List.length_cons, List.length_nil, List.cons_append, List.nil_append, List.append_nil, List.replicate_succ, List.replicate_zero, List.all_cons, List.all_nil, Bool.and_true, Bool.true_and, Bool.and_self, Bool.false_eq_true, Option.map_some, Option.map_none, Nat.reduceAdd, Nat.reduceSub, Nat.reduceBEq, beq_self_eq_true, Nat.reduceLT, Nat.sub_self, if_true, if_false, reduceIte, decide_true, decide_false, decide_eq_true_eq, true_and, and_true, and_self, or_true, true_or, or_self, false_or, or_false, false_and, and_false, Int.reduceLT, Int.reduceNeg, Int.reduceLE, Int.reduceAdd, Int.reduceSub, Int.reduceMul, Int.reduceEq, Int.reduceNe], by simp [val]⟩
  · exact ⟨(0, 1, -1, 2), by simp only [hn, hd, q, h, x2, dA, ER.bind, ER.of, PR.toE, PR.bind, ER.toP, ER.toS, PR.toS, LR.toE, LR.of, FR.toE, fName, fIx, ixOf, eConst, eMove, eLk, eSh, pF, pI, eLook, eRo, eShr, eOp2, eChain_s, eAnd_s, eOr_s, eNot, eIf, lNil, lCons, eLst, eTup, eCallV, hAbs, hMax2, hMin2, hInt, hLen, hList, hAddI, hSubI, hDivI, hModI, hShrI, hAndI, hMulI, hAdd, hAddS, hOr, hI, hIB, hCat, hIn, hNin, hIs, hIsnt, isN, hLt, hLe, hGt, hGe, eNeg, fIxV, eIxT, sNext, sSeq, sBreak, sCont, sDrop, sRet, sRetN, sIf, sSet, sAug, setA, setL, putS, sPut, getA, sPutAug, tgName, tgNil, tgCons, tgTup, sTg, sPar, setFd, getFd, sFldS, sFldAugS, putE, eMut, isOL_own, hAppend, hExtend, hPop, eIter, eEnum, eRng, sFor, eYes, eLc, startE, backs, FR.of, okRes, eCall, isIns_nd, eMeth, eFrz, eSeal, newI, okSelf, eMake, sRaise, SR.fin, sTry, eIsi, partD, eInt, hSl, eSl, getP, setP, ownP, ownF_own, ownF_ro, ownF_pm, frz, frzL, frF_own, frF_ro, frF_pm, isRo, isRoL, roF_own, roF_ro, roF_pm, pmz, pmzL, clean, cleanL, isUns_nd, isUns_i, isUns_b, isUns_t, isUns_n, isUns_u, isPm_i, isPm_b, isPm_t, isPm_n, isPm_pm, isPm_ro', isPm_own, mkTup, killS, setS, List.getElem?_cons_zero, List.getElem?_cons_succ, List.set_cons_zero, List.set_cons_succ, List.map_cons, List.map_nil, List.length_cons, List.length_nil, List.cons_append, List.nil_append, List.append_nil, List.replicate_succ, List.replicate_zero, List.all_cons, List.all_nil, Bool.and_true, Bool.true_and, Bool.and_self, Bool.false_eq_true, Option.map_some, Option.map_none, Nat.reduceAdd, Nat.reduceSub, Nat.reduceBEq, beq_self_eq_true, Nat.reduceLT, Nat.sub_self, if_true, if_false, reduceIte, decide_true, decide_false, decide_eq_true_eq, true_and, and_true, and_self, or_true, true_or, or_self, false_or, or_false, false_and, and_false, Int.reduceLT, Int.reduceNeg, Int.reduceLE, Int.reduceAdd, Int.reduceSub, Int.reduceMul, Int.reduceEq, Int.reduceNe], by simp [val]⟩
  · exact ⟨(0, 1, 3, 2), by simp only [hn, hd, q, h, x3, dA, ER.bind, ER.of, PR.toE, PR.bind, ER.toP, ER.toS, PR.toS, LR.toE, LR.of, FR.toE, fName, fIx, ixOf, eConst, eMove, eLk, eSh, pF, pI, eLook, eRo, eShr, eOp2, eChain_s, eAnd_s, eOr_s, eNot, eIf, lNil, lCons, eLst, eTup, eCallV, hAbs, hMax2, hMin2, hInt, hLen, hList, hAddI, hSubI, hDivI, hModI, hShrI, hAndI, hMulI, hAdd, hAddS, hOr, hI, hIB, hCat, hIn, hNin, hIs, hIsnt, isN, hLt, hLe, hGt, hGe, eNeg, fIxV, eIxT, sNext, sSeq, sBreak, sCont, sDrop, sRet, sRetN, sIf, sSet, sAug, setA, setL, putS, sPut, getA, sPutAug, tgName, tgNil, tgCons, tgTup, sTg, sPar, setFd, getFd, sFldS, sFldAugS, putE, eMut, isOL_own, hAppend, hExtend, hPop, eIter, eEnum, eRng, sFor, eYes, eLc, startE, backs, FR.of, okRes, eCall, isIns_nd, eMeth, eFrz, eSeal, newI, okSelf, eMake, sRaise, SR.fin, sTry, eIsi, partD, eInt, hSl, eSl, getP, setP, ownP, ownF_own, ownF_ro, ownF_pm, frz, frzL, frF_own, frF_ro, frF_pm, isRo, isRoL, roF_own, roF_ro, roF_pm, pmz, pmzL, clean, cleanL, isUns_nd, isUns_i, isUns_b, isUns_t, isUns_n, isUns_u, isPm_i, isPm_b, isPm_t, isPm_n, isPm_pm, isPm_ro', isPm_own, mkTup, killS, setS, List.getElem?_cons_zero, List.getElem?_cons_succ, List.set_cons_zero, List.set_cons_succ, List.map_cons, List.map_nil, List.length_cons, List.length_nil, List.cons_append, List.nil_append, List.append_nil, List.replicate_succ, List.replicate_zero, List.all_cons, List.all_nil, Bool.and_true, Bool.true_and, Bool.and_self, Bool.false_eq_true, Option.map_some, Option.map_none, Nat.reduceAdd, Nat.reduceSub, Nat.reduceBEq, beq_self_eq_true, Nat.reduceLT, Nat.sub_self, if_true, if_false, reduceIte, decide_true, decide_false, decide_eq_true_eq, true_and, and_true, and_self, or_true, true_or, or_self, false_or, or_false, false_and, and_false, Int.reduceLT, Int.reduceNeg, Int.reduceLE, Int.reduceAdd, Int.reduceSub, Int.reduceMul, Int.reduceEq, Int.reduceNe], by simp [val]⟩
  · exact ⟨(-1, 0, 0, 0), by simp only [hn, hd, q, h, x4, dA, ER.bind, ER.of, PR.toE, PR.bind, ER.toP, ER.toS, PR.toS, LR.toE, LR.of, FR.toE, fName, fIx, ixOf, eConst, eMove, eLk, eSh, pF, pI, eLook, eRo, eShr, eOp2, eChain_s, eAnd_s, eOr_s, eNot, eIf, lNil, lCons, eLst, eTup, eCallV, hAbs, hMax2, hMin2, hInt, hLen, hList, hAddI, hSubI, hDivI, hModI, hShrI, hAndI, hMulI, hAdd, hAddS, hOr, hI, hIB, hCat, hIn, hNin, hIs, hIsnt, isN, hLt, hLe, hGt, hGe, eNeg, fIxV, eIxT, sNext, sSeq, sBreak, sCont, sDrop, sRet, sRetN, sIf, sSet, sAug, setA, setL, putS, sPut, getA, sPutAug, tgName, tgNil, tgCons, tgTup, sTg, sPar, setFd, getFd, sFldS, sFldAugS, putE, eMut, isOL_own, hAppend, hExtend, hPop, eIter, eEnum, eRng, sFor, eYes, eLc, startE, backs, FR.of, okRes, eCall, isIns_nd, eMeth, eFrz, eSeal, newI, okSelf, eMake, sRaise, SR.fin, sTry, eIsi, partD, eInt, hSl, eSl, getP, setP, ownP, ownF_own, ownF_ro, ownF_pm, frz, frzL, frF_own, frF_ro, frF_pm, isRo, isRoL, roF_own, roF_ro, roF_pm, pmz, pmzL, clean, cleanL, isUns_nd, isUns_i, isUns_b, isUns_t, isUns_n, isUns_u, isPm_i, isPm_b, isPm_t, isPm_n, isPm_pm, isPm_ro', isPm_own, mkTup, killS, setS, List.getElem?_cons_zero, List.getElem?_cons_succ, List.set_cons_zero, List.set_cons_succ, List.map_cons, List.map_nil, List.length_cons, List.length_nil, List.cons_append, List.nil_append, List.append_nil, List.replicate_succ, List.replicate_zero, List.all_cons, List.all_nil, Bool.and_true, Bool.true_and, Bool.and_self, Bool.false_eq_true, Option.map_some, Option.map_none, Nat.reduceAdd, Nat.reduceSub, Nat.reduceBEq, beq_self_eq_true, Nat.reduceLT, Nat.sub_self, if_true, if_false, reduceIte, decide_true, decide_false, decide_eq_true_eq, true_and, and_true, and_self, or_true, true_or, or_self, false_or, or_false, false_and, and_false, Int.reduceLT, Int.reduceNeg, Int.reduceLE, Int.reduceAdd, Int.reduceSub, Int.reduceMul, Int.reduceEq, Int.reduceNe], by simp [val]⟩
theorem two_at (dg : Int) (env : DL.Env) (hd : env[5]? = some (some (.int dg))) : ∃ x : Int, eIxT (eLst (lCons (eConst (.int 1)) (lCons (eNeg (eConst (.int 1))) (lCons (eConst (.int 2)) lNil)))) (eOp2 hModI (eOp2 hDivI (eLk (fName 5)) (eConst (.int 100))) (eConst (.int 3))) env = .ok (.int x) env := by
  have q : (0 : Int) < 100 ∧ (100 : Int) < 1073741824 := by decide
  have q2 : (0 : Int) < 3 := by decide
  have hc : dg / 100 % 3 = 0 ∨ dg / 100 % 3 = 1 ∨ dg / 100 % 3 = 2 := by omega
  have x0 : L2.ixN 3 0 = some 0 := rfl
  have x1 : L2.ixN 3 1 = some 1 := rfl
  have x2 : L2.ixN 3 2 = some 2 := rfl
  rcases hc with h | h | h
  · exact ⟨1, by simp only [hd, q, q2, h, x0, ER.bind, ER.of, PR.toE, PR.bind, ER.toP, ER.toS, PR.toS, LR.toE, LR.of, FR.toE, fName, fIx, ixOf, eConst, eMove, eLk, eSh, pF, pI, eLook, eRo, eShr, eOp2, eChain_s, eAnd_s, eOr_s, eNot, eIf, lNil, lCons, eLst, eTup, eCallV, hAbs, hMax2, hMin2, hInt, hLen, hList, hAddI, hSubI, hDivI, hModI, hShrI, hAndI, hMulI, hAdd, hAddS, hOr, hI, hIB, hCat, hIn, hNin, hIs, hIsnt, isN, hLt, hLe, hGt, hGe, eNeg, fIxV, eIxT, sNext, sSeq, sBreak, sCont, sDrop, sRet, sRetN, sIf, sSet, sAug, setA, setL, putS, sPut, getA, sPutAug, tgName, tgNil, tgCons, tgTup, sTg, sPar, setFd, getFd, sFldS, sFldAugS, putE, eMut, isOL_own, hAppend, hExtend, hPop, eIter, eEnum, eRng, sFor, eYes, eLc, startE, backs, FR.of, okRes, eCall, isIns_nd, eMeth, eFrz, eSeal, newI, okSelf, eMake, sRaise, SR.fin, sTry, eIsi, partD, eInt, hSl, eSl, getP, setP, ownP, ownF_own, ownF_ro, ownF_pm, frz, frzL, frF_own, frF_ro, frF_pm, isRo, isRoL, roF_own, roF_ro, roF_pm, pmz, pmzL, clean, cleanL, isUns_nd, isUns_i, isUns_b, isUns_t, isUns_n, isUns_u, isPm_i, isPm_b, isPm_t, isPm_n, isPm_pm, isPm_ro', isPm_own, mkTup, killS, setS, List.getElem?_cons_zero, List.getElem?_cons_succ, List.set_cons_zero, List.set_cons_succ, List.map_cons, List.map_nil, List.length_cons, List.length_nil, List.cons_append, List.nil_append, List.append_nil, List.replicate_succ, List.replicate_zero, List.all_cons, List.all_nil, Bool.and_true, Bool.true_and, Bool.and_self, Bool.false_eq_true, Option.map_some, Option.map_none, Nat.reduceAdd, Nat.reduceSub, Nat.reduceBEq, beq_self_eq_true, Nat.reduceLT, Nat.sub_self, if_true, if_false, reduceIte, decide_true, decide_false, decide_eq_true_eq, true_and, and_true, and_self, or_true, true_or, or_self, false_or, or_false, false_and, and_false, Int.reduceLT, Int.reduceNeg, Int.reduceLE, Int.reduceAdd, Int.reduceSub, Int.reduceMul, Int.reduceEq, Int.reduceNe]⟩
  · exact ⟨-1, by simp only [hd, q, q2, h, x1, ER.bind, ER.of, PR.toE, PR.bind, ER.toP, ER.toS, PR.toS, LR.toE, LR.of, FR.toE, fName, fIx, ixOf, eConst, eMove, eLk, eSh, pF, pI, eLook, eRo, eShr, eOp2, eChain_s, eAnd_s, eOr_s, eNot, eIf, lNil, lCons, eLst, eTup, eCallV, hAbs, hMax2, hMin2, hInt, hLen, hList, hAddI, hSubI, hDivI, hModI, hShrI, hAndI, hMulI, hAdd, hAddS, hOr, hI, hIB, hCat, hIn, hNin, hIs, hIsnt, isN, hLt, hLe, hGt, hGe, eNeg, fIxV, eIxT, sNext, sSeq, sBreak, sCont, sDrop, sRet, sRetN, sIf, sSet, sAug, setA, setL, putS, sPut, getA, sPutAug, tgName, tgNil, tgCons, tgTup, sTg, sPar, setFd, getFd, sFldS, sFldAugS, putE, eMut, isOL_own, hAppend, hExtend, hPop, eIter, eEnum, eRng, sFor, eYes, eLc, startE, backs, FR.of, okRes, eCall, isIns_nd, eMeth, eFrz, eSeal, newI, okSelf, eMake, sRaise, SR.fin, sTry, eIsi, partD, eInt, hSl, eSl, getP, setP, ownP, ownF_own, ownF_ro, ownF_pm, frz, frzL, frF_own, frF_ro, frF_pm, isRo, isRoL, roF_own, roF_ro, roF_pm, pmz, pmzL, clean, cleanL, isUns_nd, isUns_i, isUns_b, isUns_t, isUns_n, isUns_u, isPm_i, isPm_b, isPm_t, isPm_n, isPm_pm, isPm_ro', isPm_own, mkTup, killS, setS, List.getElem?_cons_zero, List.getElem?_cons_succ, List.set_cons_zero, List.set_cons_succ, List.map_cons, List.map_nil, List.length_cons, List.length_nil, List.cons_append, List.nil_append, List.append_nil, List.replicate_succ, List.replicate_zero, List.all_cons, List.all_nil, Bool.and_true, Bool.true_and, Bool.and_self, Bool.false_eq_true, Option.map_some, Option.map_none, Nat.reduceAdd, Nat.reduceSub, Nat.reduceBEq, beq_self_eq_true, Nat.reduceLT, Nat.sub_self, if_true, if_false, reduceIte, decide_true, decide_false, decide_eq_true_eq, true_and, and_true, and_self, or_true, true_or, or_self, false_or, or_false, false_and, and_false, Int.reduceLT, Int.reduceNeg, Int.reduceLE, Int.reduceAdd, Int.reduceSub, Int.reduceMul, Int.reduceEq, Int.reduceNe]⟩
  · exact ⟨2, by simp only [hd, q, q2, h, x2, ER.bind, ER.of, PR.toE, PR.bind, ER.toP, ER.toS, PR.toS, LR.toE, LR.of, FR.toE, fName, fIx, ixOf, eConst, eMove, eLk, eSh, pF, pI, eLook, eRo, eShr, eOp2, eChain_s, eAnd_s, eOr_s, eNot, eIf, lNil, lCons, eLst, eTup, eCallV, hAbs, hMax2, hMin2, hInt, hLen, hList, hAddI, hSubI, hDivI, hModI, hShrI, hAndI, hMulI, hAdd, hAddS, hOr, hI, hIB, hCat, hIn, hNin, hIs, hIsnt, isN, hLt, hLe, hGt, hGe, eNeg, fIxV, eIxT, sNext, sSeq, sBreak, sCont, sDrop, sRet, sRetN, sIf, sSet, sAug, setA, setL, putS, sPut, getA, sPutAug, tgName, tgNil, tgCons, tgTup, sTg, sPar, setFd, getFd, sFldS, sFldAugS, putE, eMut, isOL_own, hAppend, hExtend, hPop, eIter, eEnum, eRng, sFor, eYes, eLc, startE, backs, FR.of, okRes, eCall, isIns_nd, eMeth, eFrz, eSeal, newI, okSelf, eMake, sRaise, SR.fin, sTry, eIsi, partD, eInt, hSl, eSl, getP, setP, ownP, ownF_own, ownF_ro, ownF_pm, frz, frzL, frF_own, frF_ro, frF_pm, isRo, isRoL, roF_own, roF_ro, roF_pm, pmz, pmzL, clean, cleanL, isUns_nd, isUns_i, isUns_b, isUns_t, isUns_n, isUns_u, isPm_i, isPm_b, isPm_t, isPm_n, isPm_pm, isPm_ro', isPm_own, mkTup, killS, setS, List.getElem?_cons_zero, List.getElem?_cons_succ, List.set_cons_zero, List.set_cons_succ, List.map_cons, List.map_nil, List.length_cons, List.length_nil, List.cons_append, List.nil_append, List.append_nil, List.replicate_succ, List.replicate_zero, List.all_cons, List.all_nil, Bool.and_true, Bool.true_and, Bool.and_self, Bool.false_eq_true, Option.map_some, Option.map_none, Nat.reduceAdd, Nat.reduceSub, Nat.reduceBEq, beq_self_eq_true, Nat.reduceLT, Nat.sub_self, if_true, if_false, reduceIte, decide_true, decide_false, decide_eq_true_eq, true_and, and_true, and_self, or_true, true_or, or_self, false_or, or_false, false_and, and_false, Int.reduceLT, Int.reduceNeg, Int.reduceLE, Int.reduceAdd, Int.reduceSub, Int.reduceMul, Int.reduceEq, Int.reduceNe]⟩
theorem ne_dAs (fl fl' : Fl) (as : List Arc) : hNe (.nd .lst fl (dAs .pm as)) (.nd .lst fl' (dAs .pm as)) = some (.bl false) := by
  have hd : dokL 39 (dAs .pm as) = true := by
    rw [dokL_all, dAs, List.all_map]
    exact List.all_eq_true.mpr fun a _ => rfl
  have h : ∀ fl, dok 40 (.nd .lst fl (dAs .pm as)) = true := fun fl => by
    show (seqK .lst && dokL 39 (dAs .pm as)) = true
    rw [hd]; rfl
  simp only [hNe, h, and_self, if_true, eqd, eqdL_refl _ 39 hd]; rfl
theorem eq_dAs_nil (fl fl' : Fl) (as : List Arc) : hEq (.nd .lst fl (dAs .pm as)) (.nd .lst fl' []) = some (.bl (decide (as = []))) := by
  have hd : dokL 39 (dAs .pm as) = true := by
    rw [dokL_all, dAs, List.all_map]
    exact List.all_eq_true.mpr fun a _ => rfl
  have h : ∀ fl, dok 40 (.nd .lst fl (dAs .pm as)) = true := fun fl => by
    show (seqK .lst && dokL 39 (dAs .pm as)) = true
    rw [hd]; rfl
  have h2 : ∀ fl, dok 40 (.nd .lst fl []) = true := fun _ => rfl
  simp only [hEq, h, h2, and_self, if_true]
  cases as <;> rfl
def dig (ns : List Int) : Int := if ns.getD 0 0 < 0 then -(ns.getD 0 0) else ns.getD 0 0
theorem ft_at (fu : Nat) (n : Int) (as : List Arc) (vs : List Int) (e0 e1 e4 e5 e6 e7 e9 : Option D) (h2 : 2 ≤ n) (h5 : n ≤ 5) (hl : as.length ≤ 10) (hv : ∀ a ∈ as, val n a = true) :
    turn (tgName 11) (l_law_1 fu) [11] (.nd .lst .ro (dI vs)) [e0, e1, some (.int n), some (.nd .lst .pm (dAs .pm as)), e4, e5, e6, e7, some (dN n as), e9, none, none, none, none, none, none, none] =
      .nx [e0, e1, some (.int n), some (.nd .lst .pm (dAs .pm as)), e4, e5, e6, e7, some (dN n as), e9, none, none, none, none, none, none, none] := by
  have t1 := isf_eq fu n .ro as vs (by omega) (by omega) fun a ha => val_okN (hv a ha)
  have t2 := lis_eq fu n .pm .ro as vs (by omega) (by omega) (by omega) fun a ha => val_okN (hv a ha)
  simp only [turn, l_law_1, frz_dN, isRo_dN, frzL_dI, isRoL_dI, frzL_dAs, isRoL_dAs .pm rfl, t1, t2, hNe_b, Bool.not_true, ER.bind, ER.of, PR.toE, PR.bind, ER.toP, ER.toS, PR.toS, LR.toE, LR.of, FR.toE, fName, fIx, ixOf, eConst, eMove, eLk, eSh, pF, pI, eLook, eRo, eShr, eOp2, eChain_s, eAnd_s, eOr_s, eNot, eIf, lNil, lCons, eLst, eTup, eCallV, hAbs, hMax2, hMin2, hInt, hLen, hList, hAddI, hSubI, hDivI, hModI, hShrI, hAndI, hMulI, hAdd, hAddS, hOr, hI, hIB, hCat, hIn, hNin, hIs, hIsnt, isN, hLt, hLe, hGt, hGe, eNeg, fIxV, eIxT, sNext, sSeq, sBreak, sCont, sDrop, sRet, sRetN, sIf, sSet, sAug, setA, setL, putS, sPut, getA, sPutAug, tgName, tgNil, tgCons, tgTup, sTg, sPar, setFd, getFd, sFldS, sFldAugS, putE, eMut, isOL_own, hAppend, hExtend, hPop, eIter, eEnum, eRng, sFor, eYes, eLc, startE, backs, FR.of, okRes, eCall, isIns_nd, eMeth, eFrz, eSeal, newI, okSelf, eMake, sRaise, SR.fin, sTry, eIsi, partD, eInt, hSl, eSl, getP, setP, ownP, ownF_own, ownF_ro, ownF_pm, frz, frzL, frF_own, frF_ro, frF_pm, isRo, isRoL, roF_own, roF_ro, roF_pm, pmz, pmzL, clean, cleanL, isUns_nd, isUns_i, isUns_b, isUns_t, isUns_n, isUns_u, isPm_i, isPm_b, isPm_t, isPm_n, isPm_pm, isPm_ro', isPm_own, mkTup, killS, setS, List.getElem?_cons_zero, List.getElem?_cons_succ, List.set_cons_zero, List.set_cons_succ, List.map_cons, List.map_nil, List.length_cons, List.length_nil, List.cons_append, List.nil_append, List.append_nil, List.replicate_succ, List.replicate_zero, List.all_cons, List.all_nil, Bool.and_true, Bool.true_and, Bool.and_self, Bool.false_eq_true, Option.map_some, Option.map_none, Nat.reduceAdd, Nat.reduceSub, Nat.reduceBEq, beq_self_eq_true, Nat.reduceLT, Nat.sub_self, if_true, if_false, reduceIte, decide_true, decide_false, decide_eq_true_eq, true_and, and_true, and_self, or_true, true_or, or_self, false_or, or_false, false_and, and_false, Int.reduceLT, Int.reduceNeg, Int.reduceLE, Int.reduceAdd, Int.reduceSub, Int.reduceMul, Int.reduceEq, Int.reduceNe]

theorem hNe_n : hNe .non .non = some (.bl false) := by
  have h : dok 40 D.non = true := by simp [dok]
  simp only [hNe, h, and_self, if_true, eqd]; rfl
theorem ub_of {n arc : Int} {as : List Arc} {vs ms : List Int} {a0 : Arc} (h : NetOk n as vs True) (h0 : 0 ≤ arc) (ha : as[arc.toNat]? = some a0) (he : ent a0 ms = true) : ¬ 1 * vs.getD arc.toNat 0 > 1 * (as.zipIdx 0).foldl (ubStep arc ms) 0 := by
  have z := ub_ge arc ms as vs 0 0 h.fl (h.cap trivial) fun i a e1 e2 => by
    have : i = arc.toNat := by omega
    subst this
    rw [ha] at e1; cases e1; exact he
  have z2 := atA_get arc.toNat vs 0 (by omega)
  rw [Int.toNat_of_nonneg h0, Nat.sub_zero] at z2
  rw [h.bal, z2] at z
  omega
theorem lb_of {n arc : Int} {as : List Arc} {vs ms : List Int} {a0 : Arc} (h : NetOk n as vs True) (h0 : 0 ≤ arc) (ha : as[arc.toNat]? = some a0) (he : lea a0 ms = true) : ¬ -1 * vs.getD arc.toNat 0 > -1 * (as.zipIdx 0).foldl (lbStep arc ms) 0 := by
  have z := lb_le arc ms as vs 0 0 h.fl (h.cap trivial) fun i a e1 e2 => by
    have : i = arc.toNat := by omega
    subst this
    rw [ha] at e1; cases e1; exact he
  have z2 := atA_get arc.toNat vs 0 (by omega)
  rw [Int.toNat_of_nonneg h0, Nat.sub_zero] at z2
  rw [h.bal, z2] at z
  omega
theorem way_turn1 (fu : Nat) (n arc : Int) (as : List Arc) (vs ms : List Int) (a0 : Arc) (e0 e1 e5 e9 : Option D) (h : NetOk n as vs True) (h0 : 0 ≤ arc) (ha : as[arc.toNat]? = some a0) :
    turn (tgName 13) (l_law_4 fu) [13, 14, 15] (.int 1) [e0, e1, some (.int n), some (.nd .lst .pm (dAs .pm as)), some (.nd .lst .pm (dI vs)), e5, none, none, some (dN n as), some (.int arc), none, none, some (.nd .lst .own (dI ms)), none, none, none, none] =
      .nx [e0, e1, some (.int n), some (.nd .lst .pm (dAs .pm as)), some (.nd .lst .pm (dI vs)), e5, none, none, some (dN n as), some (.int arc), none, none, some (.nd .lst .own (dI ms)), none, none, none, none] := by
  have t1 := lbd1_eq fu .pm .ro as arc ms a0 (by have := h.len; omega) h0 ha
  have t2 := upper_eq fu n as arc ms a0 h0 ha
  have hal : arc < as.length := by have := (List.getElem?_eq_some_iff.mp ha).1; omega
  obtain ⟨b0, b1, b2⟩ := dI_at (f := vs) h0 (by rw [h.fl]; exact hal)
  have m1 : ∀ i : Int, hMul (.int 1) (.int i) = some (.int (1 * i)) := fun i => mulL (by decide)
  have k1 : mt_CellguardError 1 = true := rfl
  have k2 : isx_InvalidFlow 1 = true := rfl
  cases he : ent a0 ms with
  | true =>
    rw [he] at t1 t2
    have t3 := ub_of h h0 ha he
    simp only [turn, l_law_4, frz_dN, isRo_dN, frzL_dI, isRoL_dI, frzL_dAs, isRoL_dAs .pm rfl, t1, t2, t3, b0, b2, hNe_i, hEq_i, m1, Bool.not_true, Bool.not_false, ne_eq, not_true_eq_false, ER.bind, ER.of, PR.toE, PR.bind, ER.toP, ER.toS, PR.toS, LR.toE, LR.of, FR.toE, fName, fIx, ixOf, eConst, eMove, eLk, eSh, pF, pI, eLook, eRo, eShr, eOp2, eChain_s, eAnd_s, eOr_s, eNot, eIf, lNil, lCons, eLst, eTup, eCallV, hAbs, hMax2, hMin2, hInt, hLen, hList, hAddI, hSubI, hDivI, hModI, hShrI, hAndI, hMulI, hAdd, hAddS, hOr, hI, hIB, hCat, hIn, hNin, hIs, hIsnt, isN, hLt, hLe, hGt, hGe, eNeg, fIxV, eIxT, sNext, sSeq, sBreak, sCont, sDrop, sRet, sRetN, sIf, sSet, sAug, setA, setL, putS, sPut, getA, sPutAug, tgName, tgNil, tgCons, tgTup, sTg, sPar, setFd, getFd, sFldS, sFldAugS, putE, eMut, isOL_own, hAppend, hExtend, hPop, eIter, eEnum, eRng, sFor, eYes, eLc, startE, backs, FR.of, okRes, eCall, isIns_nd, eMeth, eFrz, eSeal, newI, okSelf, eMake, sRaise, SR.fin, sTry, eIsi, partD, eInt, hSl, eSl, getP, setP, ownP, ownF_own, ownF_ro, ownF_pm, frz, frzL, frF_own, frF_ro, frF_pm, isRo, isRoL, roF_own, roF_ro, roF_pm, pmz, pmzL, clean, cleanL, isUns_nd, isUns_i, isUns_b, isUns_t, isUns_n, isUns_u, isPm_i, isPm_b, isPm_t, isPm_n, isPm_pm, isPm_ro', isPm_own, mkTup, killS, setS, List.getElem?_cons_zero, List.getElem?_cons_succ, List.set_cons_zero, List.set_cons_succ, List.map_cons, List.map_nil, List.length_cons, List.length_nil, List.cons_append, List.nil_append, List.append_nil, List.replicate_succ, List.replicate_zero, List.all_cons, List.all_nil, Bool.and_true, Bool.true_and, Bool.and_self, Bool.false_eq_true, Option.map_some, Option.map_none, Nat.reduceAdd, Nat.reduceSub, Nat.reduceBEq, beq_self_eq_true, Nat.reduceLT, Nat.sub_self, if_true, if_false, reduceIte, decide_true, decide_false, decide_eq_true_eq, true_and, and_true, and_self, or_true, true_or, or_self, false_or, or_false, false_and, and_false, Int.reduceLT, Int.reduceNeg, Int.reduceLE, Int.reduceAdd, Int.reduceSub, Int.reduceMul, Int.reduceEq, Int.reduceNe]
  | false =>
    rw [he] at t1 t2
    simp only [turn, l_law_4, frz_dN, isRo_dN, frzL_dI, isRoL_dI, frzL_dAs, isRoL_dAs .pm rfl, t1, t2, k1, k2, hNe_n, hEq_i, Bool.not_true, Bool.not_false, ne_eq, not_true_eq_false, ER.bind, ER.of, PR.toE, PR.bind, ER.toP, ER.toS, PR.toS, LR.toE, LR.of, FR.toE, fName, fIx, ixOf, eConst, eMove, eLk, eSh, pF, pI, eLook, eRo, eShr, eOp2, eChain_s, eAnd_s, eOr_s, eNot, eIf, lNil, lCons, eLst, eTup, eCallV, hAbs, hMax2, hMin2, hInt, hLen, hList, hAddI, hSubI, hDivI, hModI, hShrI, hAndI, hMulI, hAdd, hAddS, hOr, hI, hIB, hCat, hIn, hNin, hIs, hIsnt, isN, hLt, hLe, hGt, hGe, eNeg, fIxV, eIxT, sNext, sSeq, sBreak, sCont, sDrop, sRet, sRetN, sIf, sSet, sAug, setA, setL, putS, sPut, getA, sPutAug, tgName, tgNil, tgCons, tgTup, sTg, sPar, setFd, getFd, sFldS, sFldAugS, putE, eMut, isOL_own, hAppend, hExtend, hPop, eIter, eEnum, eRng, sFor, eYes, eLc, startE, backs, FR.of, okRes, eCall, isIns_nd, eMeth, eFrz, eSeal, newI, okSelf, eMake, sRaise, SR.fin, sTry, eIsi, partD, eInt, hSl, eSl, getP, setP, ownP, ownF_own, ownF_ro, ownF_pm, frz, frzL, frF_own, frF_ro, frF_pm, isRo, isRoL, roF_own, roF_ro, roF_pm, pmz, pmzL, clean, cleanL, isUns_nd, isUns_i, isUns_b, isUns_t, isUns_n, isUns_u, isPm_i, isPm_b, isPm_t, isPm_n, isPm_pm, isPm_ro', isPm_own, mkTup, killS, setS, List.getElem?_cons_zero, List.getElem?_cons_succ, List.set_cons_zero, List.set_cons_succ, List.map_cons, List.map_nil, List.length_cons, List.length_nil, List.cons_append, List.nil_append, List.append_nil, List.replicate_succ, List.replicate_zero, List.all_cons, List.all_nil, Bool.and_true, Bool.true_and, Bool.and_self, Bool.false_eq_true, Option.map_some, Option.map_none, Nat.reduceAdd, Nat.reduceSub, Nat.reduceBEq, beq_self_eq_true, Nat.reduceLT, Nat.sub_self, if_true, if_false, reduceIte, decide_true, decide_false, decide_eq_true_eq, true_and, and_true, and_self, or_true, true_or, or_self, false_or, or_false, false_and, and_false, Int.reduceLT, Int.reduceNeg, Int.reduceLE, Int.reduceAdd, Int.reduceSub, Int.reduceMul, Int.reduceEq, Int.reduceNe]
theorem way_turn2 (fu : Nat) (n arc : Int) (as : List Arc) (vs ms : List Int) (a0 : Arc) (e0 e1 e5 e9 : Option D) (h : NetOk n as vs True) (h0 : 0 ≤ arc) (ha : as[arc.toNat]? = some a0) :
    turn (tgName 13) (l_law_4 fu) [13, 14, 15] (.int (-1)) [e0, e1, some (.int n), some (.nd .lst .pm (dAs .pm as)), some (.nd .lst .pm (dI vs)), e5, none, none, some (dN n as), some (.int arc), none, none, some (.nd .lst .own (dI ms)), none, none, none, none] =
      .nx [e0, e1, some (.int n), some (.nd .lst .pm (dAs .pm as)), some (.nd .lst .pm (dI vs)), e5, none, none, some (dN n as), some (.int arc), none, none, some (.nd .lst .own (dI ms)), none, none, none, none] := by
  have t1 := lbd2_eq fu .pm .ro as arc ms a0 (by have := h.len; omega) h0 ha
  have t2 := lower_eq fu n as arc ms a0 h0 ha
  have hal : arc < as.length := by have := (List.getElem?_eq_some_iff.mp ha).1; omega
  obtain ⟨b0, b1, b2⟩ := dI_at (f := vs) h0 (by rw [h.fl]; exact hal)
  have m1 : ∀ i : Int, hMul (.int (-1)) (.int i) = some (.int (-1 * i)) := fun i => mulL (by decide)
  have k1 : mt_CellguardError 1 = true := rfl
  have k2 : isx_InvalidFlow 1 = true := rfl
  cases he : lea a0 ms with
  | true =>
    rw [he] at t1 t2
    have t3 := lb_of h h0 ha he
    simp only [turn, l_law_4, frz_dN, isRo_dN, frzL_dI, isRoL_dI, frzL_dAs, isRoL_dAs .pm rfl, t1, t2, t3, b0, b2, hNe_i, hEq_i, m1, Bool.not_true, Bool.not_false, ne_eq, not_true_eq_false, ER.bind, ER.of, PR.toE, PR.bind, ER.toP, ER.toS, PR.toS, LR.toE, LR.of, FR.toE, fName, fIx, ixOf, eConst, eMove, eLk, eSh, pF, pI, eLook, eRo, eShr, eOp2, eChain_s, eAnd_s, eOr_s, eNot, eIf, lNil, lCons, eLst, eTup, eCallV, hAbs, hMax2, hMin2, hInt, hLen, hList, hAddI, hSubI, hDivI, hModI, hShrI, hAndI, hMulI, hAdd, hAddS, hOr, hI, hIB, hCat, hIn, hNin, hIs, hIsnt, isN, hLt, hLe, hGt, hGe, eNeg, fIxV, eIxT, sNext, sSeq, sBreak, sCont, sDrop, sRet, sRetN, sIf, sSet, sAug, setA, setL, putS, sPut, getA, sPutAug, tgName, tgNil, tgCons, tgTup, sTg, sPar, setFd, getFd, sFldS, sFldAugS, putE, eMut, isOL_own, hAppend, hExtend, hPop, eIter, eEnum, eRng, sFor, eYes, eLc, startE, backs, FR.of, okRes, eCall, isIns_nd, eMeth, eFrz, eSeal, newI, okSelf, eMake, sRaise, SR.fin, sTry, eIsi, partD, eInt, hSl, eSl, getP, setP, ownP, ownF_own, ownF_ro, ownF_pm, frz, frzL, frF_own, frF_ro, frF_pm, isRo, isRoL, roF_own, roF_ro, roF_pm, pmz, pmzL, clean, cleanL, isUns_nd, isUns_i, isUns_b, isUns_t, isUns_n, isUns_u, isPm_i, isPm_b, isPm_t, isPm_n, isPm_pm, isPm_ro', isPm_own, mkTup, killS, setS, List.getElem?_cons_zero, List.getElem?_cons_succ, List.set_cons_zero, List.set_cons_succ, List.map_cons, List.map_nil, List.length_cons, List.length_nil, List.cons_append, List.nil_append, List.append_nil, List.replicate_succ, List.replicate_zero, List.all_cons, List.all_nil, Bool.and_true, Bool.true_and, Bool.and_self, Bool.false_eq_true, Option.map_some, Option.map_none, Nat.reduceAdd, Nat.reduceSub, Nat.reduceBEq, beq_self_eq_true, Nat.reduceLT, Nat.sub_self, if_true, if_false, reduceIte, decide_true, decide_false, decide_eq_true_eq, true_and, and_true, and_self, or_true, true_or, or_self, false_or, or_false, false_and, and_false, Int.reduceLT, Int.reduceNeg, Int.reduceLE, Int.reduceAdd, Int.reduceSub, Int.reduceMul, Int.reduceEq, Int.reduceNe]
  | false =>
    rw [he] at t1 t2
    simp only [turn, l_law_4, frz_dN, isRo_dN, frzL_dI, isRoL_dI, frzL_dAs, isRoL_dAs .pm rfl, t1, t2, k1, k2, hNe_n, hEq_i, Bool.not_true, Bool.not_false, ne_eq, not_true_eq_false, ER.bind, ER.of, PR.toE, PR.bind, ER.toP, ER.toS, PR.toS, LR.toE, LR.of, FR.toE, fName, fIx, ixOf, eConst, eMove, eLk, eSh, pF, pI, eLook, eRo, eShr, eOp2, eChain_s, eAnd_s, eOr_s, eNot, eIf, lNil, lCons, eLst, eTup, eCallV, hAbs, hMax2, hMin2, hInt, hLen, hList, hAddI, hSubI, hDivI, hModI, hShrI, hAndI, hMulI, hAdd, hAddS, hOr, hI, hIB, hCat, hIn, hNin, hIs, hIsnt, isN, hLt, hLe, hGt, hGe, eNeg, fIxV, eIxT, sNext, sSeq, sBreak, sCont, sDrop, sRet, sRetN, sIf, sSet, sAug, setA, setL, putS, sPut, getA, sPutAug, tgName, tgNil, tgCons, tgTup, sTg, sPar, setFd, getFd, sFldS, sFldAugS, putE, eMut, isOL_own, hAppend, hExtend, hPop, eIter, eEnum, eRng, sFor, eYes, eLc, startE, backs, FR.of, okRes, eCall, isIns_nd, eMeth, eFrz, eSeal, newI, okSelf, eMake, sRaise, SR.fin, sTry, eIsi, partD, eInt, hSl, eSl, getP, setP, ownP, ownF_own, ownF_ro, ownF_pm, frz, frzL, frF_own, frF_ro, frF_pm, isRo, isRoL, roF_own, roF_ro, roF_pm, pmz, pmzL, clean, cleanL, isUns_nd, isUns_i, isUns_b, isUns_t, isUns_n, isUns_u, isPm_i, isPm_b, isPm_t, isPm_n, isPm_pm, isPm_ro', isPm_own, mkTup, killS, setS, List.getElem?_cons_zero, List.getElem?_cons_succ, List.set_cons_zero, List.set_cons_succ, List.map_cons, List.map_nil, List.length_cons, List.length_nil, List.cons_append, List.nil_append, List.append_nil, List.replicate_succ, List.replicate_zero, List.all_cons, List.all_nil, Bool.and_true, Bool.true_and, Bool.and_self, Bool.false_eq_true, Option.map_some, Option.map_none, Nat.reduceAdd, Nat.reduceSub, Nat.reduceBEq, beq_self_eq_true, Nat.reduceLT, Nat.sub_self, if_true, if_false, reduceIte, decide_true, decide_false, decide_eq_true_eq, true_and, and_true, and_self, or_true, true_or, or_self, false_or, or_false, false_and, and_false, Int.reduceLT, Int.reduceNeg, Int.reduceLE, Int.reduceAdd, Int.reduceSub, Int.reduceMul, Int.reduceEq, Int.reduceNe]

theorem mem_at (fu : Nat) (n : Int) (e0 e1 e3 e4 e8 e9 : Option D) (dg : Int) (h0 : 0 ≤ n) (h5 : n ≤ 5) : ∃ ms, eLc [16] (tgName 16) (eRng (lCons (eLk (fName 2)) lNil)) (q_law_2 fu) (v_law_3 fu) [e0, e1, some (.int n), e3, e4, some (.int dg), none, none, e8, e9, none, none, none, none, none, none, none] = .ok (.nd .lst .own (dI ms)) [e0, e1, some (.int n), e3, e4, some (.int dg), none, none, e8, e9, none, none, none, none, none, none, none] := by
  have hr : eRng (lCons (eLk (fName 2)) lNil) [e0, e1, some (.int n), e3, e4, some (.int dg), none, none, e8, e9, none, none, none, none, none, none, none] = .ok ((idxs n.toNat).map .int) [e0, e1, some (.int n), e3, e4, some (.int dg), none, none, e8, e9, none, none, none, none, none, none, none] := eRng_of (ds := [.int n]) rfl (by rw [rng1i h0 (by omega), rng_dI]; rfl)
  have hb : ((idxs n.toNat).map D.int).length < sizeLine := by rw [List.length_map, idxs_len]; exact Nat.lt_of_lt_of_le (m := 1000) (by omega) (small_line (Nat.le_refl _))
  have q : (0 : Int) < 1000 ∧ (1000 : Int) < 1073741824 := by decide
  have hc := lcL_flt (tg := tgName 16) (ct := q_law_2 fu) (fe := v_law_3 fu) (vs := [16]) D.int D.int (fun j => decide (Builtin.bitAnd (dg / 1000 / 2 ^ j.toNat) 1 = 1))
    [e0, e1, some (.int n), e3, e4, some (.int dg), none, none, e8, e9, none, none, none, none, none, none, none] (idxs n.toNat) [] fun j hj => by
      obtain ⟨x0, x1⟩ := idxs_mem hj
      by_cases g : Builtin.bitAnd (dg / 1000 / 2 ^ j.toNat) 1 = 1 <;> simp only [lcT, q_law_2, v_law_3, q, x0, hEq_i, g, ER.bind, ER.of, PR.toE, PR.bind, ER.toP, ER.toS, PR.toS, LR.toE, LR.of, FR.toE, fName, fIx, ixOf, eConst, eMove, eLk, eSh, pF, pI, eLook, eRo, eShr, eOp2, eChain_s, eAnd_s, eOr_s, eNot, eIf, lNil, lCons, eLst, eTup, eCallV, hAbs, hMax2, hMin2, hInt, hLen, hList, hAddI, hSubI, hDivI, hModI, hShrI, hAndI, hMulI, hAdd, hAddS, hOr, hI, hIB, hCat, hIn, hNin, hIs, hIsnt, isN, hLt, hLe, hGt, hGe, eNeg, fIxV, eIxT, sNext, sSeq, sBreak, sCont, sDrop, sRet, sRetN, sIf, sSet, sAug, setA, setL, putS, sPut, getA, sPutAug, tgName, tgNil, tgCons, tgTup, sTg, sPar, setFd, getFd, sFldS, sFldAugS, putE, eMut, isOL_own, hAppend, hExtend, hPop, eIter, eEnum, eRng, sFor, eYes, eLc, startE, backs, FR.of, okRes, eCall, isIns_nd, eMeth, eFrz, eSeal, newI, okSelf, eMake, sRaise, SR.fin, sTry, eIsi, partD, eInt, hSl, eSl, getP, setP, ownP, ownF_own, ownF_ro, ownF_pm, frz, frzL, frF_own, frF_ro, frF_pm, isRo, isRoL, roF_own, roF_ro, roF_pm, pmz, pmzL, clean, cleanL, isUns_nd, isUns_i, isUns_b, isUns_t, isUns_n, isUns_u, isPm_i, isPm_b, isPm_t, isPm_n, isPm_pm, isPm_ro', isPm_own, mkTup, killS, setS, List.getElem?_cons_zero, List.getElem?_cons_succ, List.set_cons_zero, List.set_cons_succ, List.map_cons, List.map_nil, List.length_cons, List.length_nil, List.cons_append, List.nil_append, List.append_nil, List.replicate_succ, List.replicate_zero, List.all_cons, List.all_nil, Bool.and_true, Bool.true_and, Bool.and_self, Bool.false_eq_true, Option.map_some, Option.map_none, Nat.reduceAdd, Nat.reduceSub, Nat.reduceBEq, beq_self_eq_true, Nat.reduceLT, Nat.sub_self, if_true, if_false, reduceIte, decide_true, decide_false, decide_eq_true_eq, true_and, and_true, and_self, or_true, true_or, or_self, false_or, or_false, false_and, and_false, Int.reduceLT, Int.reduceNeg, Int.reduceLE, Int.reduceAdd, Int.reduceSub, Int.reduceMul, Int.reduceEq, Int.reduceNe]
  refine ⟨(idxs n.toNat).filter (fun j => decide (Builtin.bitAnd (dg / 1000 / 2 ^ j.toNat) 1 = 1)), ?_⟩
  simp only [eLc, hr, hb, if_true, killS, List.set_cons_zero, List.set_cons_succ]
  rw [hc]; rfl
theorem law_plain (ns : List Int) (hl : ns.length ≤ 63) : ∃ k, m_law k [scrD ns] = .ok (.bl true) [] := by
  refine ⟨0, FR.of_rt ?_⟩
  obtain ⟨f, n1, n2⟩ := nums_eq 0 ns 2 10 (by decide) (by decide) (by decide) (by omega)
  obtain ⟨n, as, vs, a1, ok0⟩ := net_eq 0 f 0 (by have := n2.1; omega) (by decide)
  have ok : NetOk n as vs True := ⟨ok0.n2, ok0.n5, ok0.len, ok0.vl, ok0.fl, ok0.nn, ok0.bal, fun _ => ok0.cap rfl⟩
  clear ok0
  have hd := cell_eq 0 ns 0 (by decide)
  rw [show (0 : Int).toNat = 0 from rfl] at hd
  have hdg : (if ns.getD 0 0 < 0 then -(ns.getD 0 0) else ns.getD 0 0) = dig ns := rfl
  generalize dig ns = dg at hdg
  have S0 : startE 17 [scrD ns] = [some (scrD ns), none, none, none, none, none, none, none, none, none, none, none, none, none, none, none, none] := rfl
  unfold b_law
  rw [S0]
  refine rt_seq (e := [some (scrD ns), some (.nd .tup .pm [.int n, .nd .lst .pm (dAs .pm as), .nd .lst .pm (dI vs)]), none, none, none, none, none, none, none, none, none, none, none, none, none, none, none]) ?_ ?_
  · simp only [frz_scrD, isRo_scrD, frzL_dI, isRoL_dI, n1, a1, ER.bind, ER.of, PR.toE, PR.bind, ER.toP, ER.toS, PR.toS, LR.toE, LR.of, FR.toE, fName, fIx, ixOf, eConst, eMove, eLk, eSh, pF, pI, eLook, eRo, eShr, eOp2, eChain_s, eAnd_s, eOr_s, eNot, eIf, lNil, lCons, eLst, eTup, eCallV, hAbs, hMax2, hMin2, hInt, hLen, hList, hAddI, hSubI, hDivI, hModI, hShrI, hAndI, hMulI, hAdd, hAddS, hOr, hI, hIB, hCat, hIn, hNin, hIs, hIsnt, isN, hLt, hLe, hGt, hGe, eNeg, fIxV, eIxT, sNext, sSeq, sBreak, sCont, sDrop, sRet, sRetN, sIf, sSet, sAug, setA, setL, putS, sPut, getA, sPutAug, tgName, tgNil, tgCons, tgTup, sTg, sPar, setFd, getFd, sFldS, sFldAugS, putE, eMut, isOL_own, hAppend, hExtend, hPop, eIter, eEnum, eRng, sFor, eYes, eLc, startE, backs, FR.of, okRes, eCall, isIns_nd, eMeth, eFrz, eSeal, newI, okSelf, eMake, sRaise, SR.fin, sTry, eIsi, partD, eInt, hSl, eSl, getP, setP, ownP, ownF_own, ownF_ro, ownF_pm, frz, frzL, frF_own, frF_ro, frF_pm, isRo, isRoL, roF_own, roF_ro, roF_pm, pmz, pmzL, clean, cleanL, isUns_nd, isUns_i, isUns_b, isUns_t, isUns_n, isUns_u, isPm_i, isPm_b, isPm_t, isPm_n, isPm_pm, isPm_ro', isPm_own, mkTup, killS, setS, List.getElem?_cons_zero, List.getElem?_cons_succ, List.set_cons_zero, List.set_cons_succ, List.map_cons, List.map_nil, List.length_cons, List.length_nil, List.cons_append, List.nil_append, List.append_nil, List.replicate_succ, List.replicate_zero, List.all_cons, List.all_nil, Bool.and_true, Bool.true_and, Bool.and_self, Bool.false_eq_true, Option.map_some, Option.map_none, Nat.reduceAdd, Nat.reduceSub, Nat.reduceBEq, beq_self_eq_true, Nat.reduceLT, Nat.sub_self, if_true, if_false, reduceIte, decide_true, decide_false, decide_eq_true_eq, true_and, and_true, and_self, or_true, true_or, or_self, false_or, or_false, false_and, and_false, Int.reduceLT, Int.reduceNeg, Int.reduceLE, Int.reduceAdd, Int.reduceSub, Int.reduceMul, Int.reduceEq, Int.reduceNe]
  refine rt_seq (e := [some (scrD ns), some (.nd .tup .pm [.int n, .nd .lst .pm (dAs .pm as), .nd .lst .pm (dI vs)]), some (.int n), none, none, none, none, none, none, none, none, none, none, none, none, none, none]) ?_ ?_
  · simp only [show L2.ixN 3 0 = some 0 from rfl, ER.bind, ER.of, PR.toE, PR.bind, ER.toP, ER.toS, PR.toS, LR.toE, LR.of, FR.toE, fName, fIx, ixOf, eConst, eMove, eLk, eSh, pF, pI, eLook, eRo, eShr, eOp2, eChain_s, eAnd_s, eOr_s, eNot, eIf, lNil, lCons, eLst, eTup, eCallV, hAbs, hMax2, hMin2, hInt, hLen, hList, hAddI, hSubI, hDivI, hModI, hShrI, hAndI, hMulI, hAdd, hAddS, hOr, hI, hIB, hCat, hIn, hNin, hIs, hIsnt, isN, hLt, hLe, hGt, hGe, eNeg, fIxV, eIxT, sNext, sSeq, sBreak, sCont, sDrop, sRet, sRetN, sIf, sSet, sAug, setA, setL, putS, sPut, getA, sPutAug, tgName, tgNil, tgCons, tgTup, sTg, sPar, setFd, getFd, sFldS, sFldAugS, putE, eMut, isOL_own, hAppend, hExtend, hPop, eIter, eEnum, eRng, sFor, eYes, eLc, startE, backs, FR.of, okRes, eCall, isIns_nd, eMeth, eFrz, eSeal, newI, okSelf, eMake, sRaise, SR.fin, sTry, eIsi, partD, eInt, hSl, eSl, getP, setP, ownP, ownF_own, ownF_ro, ownF_pm, frz, frzL, frF_own, frF_ro, frF_pm, isRo, isRoL, roF_own, roF_ro, roF_pm, pmz, pmzL, clean, cleanL, isUns_nd, isUns_i, isUns_b, isUns_t, isUns_n, isUns_u, isPm_i, isPm_b, isPm_t, isPm_n, isPm_pm, isPm_ro', isPm_own, mkTup, killS, setS, List.getElem?_cons_zero, List.getElem?_cons_succ, List.set_cons_zero, List.set_cons_succ, List.map_cons, List.map_nil, List.length_cons, List.length_nil, List.cons_append, List.nil_append, List.append_nil, List.replicate_succ, List.replicate_zero, List.all_cons, List.all_nil, Bool.and_true, Bool.true_and, Bool.and_self, Bool.false_eq_true, Option.map_some, Option.map_none, Nat.reduceAdd, Nat.reduceSub, Nat.reduceBEq, beq_self_eq_true, Nat.reduceLT, Nat.sub_self, if_true, if_false, reduceIte, decide_true, decide_false, decide_eq_true_eq, true_and, and_true, and_self, or_true, true_or, or_self, false_or, or_false, false_and, and_false, Int.reduceLT, Int.reduceNeg, Int.reduceLE, Int.reduceAdd, Int.reduceSub, Int.reduceMul, Int.reduceEq, Int.reduceNe]
  refine rt_seq (e := [some (scrD ns), some (.nd .tup .pm [.int n, .nd .lst .pm (dAs .pm as), .nd .lst .pm (dI vs)]), some (.int n), some (.nd .lst .pm (dAs .pm as)), none, none, none, none, none, none, none, none, none, none, none, none, none]) ?_ ?_
  · simp only [show L2.ixN 3 1 = some 1 from rfl, isRoL_dAs .pm rfl, ER.bind, ER.of, PR.toE, PR.bind, ER.toP, ER.toS, PR.toS, LR.toE, LR.of, FR.toE, fName, fIx, ixOf, eConst, eMove, eLk, eSh, pF, pI, eLook, eRo, eShr, eOp2, eChain_s, eAnd_s, eOr_s, eNot, eIf, lNil, lCons, eLst, eTup, eCallV, hAbs, hMax2, hMin2, hInt, hLen, hList, hAddI, hSubI, hDivI, hModI, hShrI, hAndI, hMulI, hAdd, hAddS, hOr, hI, hIB, hCat, hIn, hNin, hIs, hIsnt, isN, hLt, hLe, hGt, hGe, eNeg, fIxV, eIxT, sNext, sSeq, sBreak, sCont, sDrop, sRet, sRetN, sIf, sSet, sAug, setA, setL, putS, sPut, getA, sPutAug, tgName, tgNil, tgCons, tgTup, sTg, sPar, setFd, getFd, sFldS, sFldAugS, putE, eMut, isOL_own, hAppend, hExtend, hPop, eIter, eEnum, eRng, sFor, eYes, eLc, startE, backs, FR.of, okRes, eCall, isIns_nd, eMeth, eFrz, eSeal, newI, okSelf, eMake, sRaise, SR.fin, sTry, eIsi, partD, eInt, hSl, eSl, getP, setP, ownP, ownF_own, ownF_ro, ownF_pm, frz, frzL, frF_own, frF_ro, frF_pm, isRo, isRoL, roF_own, roF_ro, roF_pm, pmz, pmzL, clean, cleanL, isUns_nd, isUns_i, isUns_b, isUns_t, isUns_n, isUns_u, isPm_i, isPm_b, isPm_t, isPm_n, isPm_pm, isPm_ro', isPm_own, mkTup, killS, setS, List.getElem?_cons_zero, List.getElem?_cons_succ, List.set_cons_zero, List.set_cons_succ, List.map_cons, List.map_nil, List.length_cons, List.length_nil, List.cons_append, List.nil_append, List.append_nil, List.replicate_succ, List.replicate_zero, List.all_cons, List.all_nil, Bool.and_true, Bool.true_and, Bool.and_self, Bool.false_eq_true, Option.map_some, Option.map_none, Nat.reduceAdd, Nat.reduceSub, Nat.reduceBEq, beq_self_eq_true, Nat.reduceLT, Nat.sub_self, if_true, if_false, reduceIte, decide_true, decide_false, decide_eq_true_eq, true_and, and_true, and_self, or_true, true_or, or_self, false_or, or_false, false_and, and_false, Int.reduceLT, Int.reduceNeg, Int.reduceLE, Int.reduceAdd, Int.reduceSub, Int.reduceMul, Int.reduceEq, Int.reduceNe]
  refine rt_seq (e := [some (scrD ns), some (.nd .tup .pm [.int n, .nd .lst .pm (dAs .pm as), .nd .lst .pm (dI vs)]), some (.int n), some (.nd .lst .pm (dAs .pm as)), some (.nd .lst .pm (dI vs)), none, none, none, none, none, none, none, none, none, none, none, none]) ?_ ?_
  · simp only [show L2.ixN 3 2 = some 2 from rfl, isRoL_dI, ER.bind, ER.of, PR.toE, PR.bind, ER.toP, ER.toS, PR.toS, LR.toE, LR.of, FR.toE, fName, fIx, ixOf, eConst, eMove, eLk, eSh, pF, pI, eLook, eRo, eShr, eOp2, eChain_s, eAnd_s, eOr_s, eNot, eIf, lNil, lCons, eLst, eTup, eCallV, hAbs, hMax2, hMin2, hInt, hLen, hList, hAddI, hSubI, hDivI, hModI, hShrI, hAndI, hMulI, hAdd, hAddS, hOr, hI, hIB, hCat, hIn, hNin, hIs, hIsnt, isN, hLt, hLe, hGt, hGe, eNeg, fIxV, eIxT, sNext, sSeq, sBreak, sCont, sDrop, sRet, sRetN, sIf, sSet, sAug, setA, setL, putS, sPut, getA, sPutAug, tgName, tgNil, tgCons, tgTup, sTg, sPar, setFd, getFd, sFldS, sFldAugS, putE, eMut, isOL_own, hAppend, hExtend, hPop, eIter, eEnum, eRng, sFor, eYes, eLc, startE, backs, FR.of, okRes, eCall, isIns_nd, eMeth, eFrz, eSeal, newI, okSelf, eMake, sRaise, SR.fin, sTry, eIsi, partD, eInt, hSl, eSl, getP, setP, ownP, ownF_own, ownF_ro, ownF_pm, frz, frzL, frF_own, frF_ro, frF_pm, isRo, isRoL, roF_own, roF_ro, roF_pm, pmz, pmzL, clean, cleanL, isUns_nd, isUns_i, isUns_b, isUns_t, isUns_n, isUns_u, isPm_i, isPm_b, isPm_t, isPm_n, isPm_pm, isPm_ro', isPm_own, mkTup, killS, setS, List.getElem?_cons_zero, List.getElem?_cons_succ, List.set_cons_zero, List.set_cons_succ, List.map_cons, List.map_nil, List.length_cons, List.length_nil, List.cons_append, List.nil_append, List.append_nil, List.replicate_succ, List.replicate_zero, List.all_cons, List.all_nil, Bool.and_true, Bool.true_and, Bool.and_self, Bool.false_eq_true, Option.map_some, Option.map_none, Nat.reduceAdd, Nat.reduceSub, Nat.reduceBEq, beq_self_eq_true, Nat.reduceLT, Nat.sub_self, if_true, if_false, reduceIte, decide_true, decide_false, decide_eq_true_eq, true_and, and_true, and_self, or_true, true_or, or_self, false_or, or_false, false_and, and_false, Int.reduceLT, Int.reduceNeg, Int.reduceLE, Int.reduceAdd, Int.reduceSub, Int.reduceMul, Int.reduceEq, Int.reduceNe]
  refine rt_seq (e := [some (scrD ns), some (.nd .tup .pm [.int n, .nd .lst .pm (dAs .pm as), .nd .lst .pm (dI vs)]), some (.int n), some (.nd .lst .pm (dAs .pm as)), some (.nd .lst .pm (dI vs)), some (.int dg), none, none, none, none, none, none, none, none, none, none, none]) ?_ ?_
  · simp only [frz_scrD, isRo_scrD, hd, hdg, ER.bind, ER.of, PR.toE, PR.bind, ER.toP, ER.toS, PR.toS, LR.toE, LR.of, FR.toE, fName, fIx, ixOf, eConst, eMove, eLk, eSh, pF, pI, eLook, eRo, eShr, eOp2, eChain_s, eAnd_s, eOr_s, eNot, eIf, lNil, lCons, eLst, eTup, eCallV, hAbs, hMax2, hMin2, hInt, hLen, hList, hAddI, hSubI, hDivI, hModI, hShrI, hAndI, hMulI, hAdd, hAddS, hOr, hI, hIB, hCat, hIn, hNin, hIs, hIsnt, isN, hLt, hLe, hGt, hGe, eNeg, fIxV, eIxT, sNext, sSeq, sBreak, sCont, sDrop, sRet, sRetN, sIf, sSet, sAug, setA, setL, putS, sPut, getA, sPutAug, tgName, tgNil, tgCons, tgTup, sTg, sPar, setFd, getFd, sFldS, sFldAugS, putE, eMut, isOL_own, hAppend, hExtend, hPop, eIter, eEnum, eRng, sFor, eYes, eLc, startE, backs, FR.of, okRes, eCall, isIns_nd, eMeth, eFrz, eSeal, newI, okSelf, eMake, sRaise, SR.fin, sTry, eIsi, partD, eInt, hSl, eSl, getP, setP, ownP, ownF_own, ownF_ro, ownF_pm, frz, frzL, frF_own, frF_ro, frF_pm, isRo, isRoL, roF_own, roF_ro, roF_pm, pmz, pmzL, clean, cleanL, isUns_nd, isUns_i, isUns_b, isUns_t, isUns_n, isUns_u, isPm_i, isPm_b, isPm_t, isPm_n, isPm_pm, isPm_ro', isPm_own, mkTup, killS, setS, List.getElem?_cons_zero, List.getElem?_cons_succ, List.set_cons_zero, List.set_cons_succ, List.map_cons, List.map_nil, List.length_cons, List.length_nil, List.cons_append, List.nil_append, List.append_nil, List.replicate_succ, List.replicate_zero, List.all_cons, List.all_nil, Bool.and_true, Bool.true_and, Bool.and_self, Bool.false_eq_true, Option.map_some, Option.map_none, Nat.reduceAdd, Nat.reduceSub, Nat.reduceBEq, beq_self_eq_true, Nat.reduceLT, Nat.sub_self, if_true, if_false, reduceIte, decide_true, decide_false, decide_eq_true_eq, true_and, and_true, and_self, or_true, true_or, or_self, false_or, or_false, false_and, and_false, Int.reduceLT, Int.reduceNeg, Int.reduceLE, Int.reduceAdd, Int.reduceSub, Int.reduceMul, Int.reduceEq, Int.reduceNe]
  generalize D.nd .tup .pm [.int n, .nd .lst .pm (dAs .pm as), .nd .lst .pm (dI vs)] = t1
  obtain ⟨wa, w1, w2⟩ := wrong_at n dg [some (scrD ns), some (t1), some (.int n), some (.nd .lst .pm (dAs .pm as)), some (.nd .lst .pm (dI vs)), some (.int dg), none, none, none, none, none, none, none, none, none, none, none] ok.n2 ok.n5 rfl rfl
  refine rt_seq (e := [some (scrD ns), some (t1), some (.int n), some (.nd .lst .pm (dAs .pm as)), some (.nd .lst .pm (dI vs)), some (.int dg), some (dA .pm wa), none, none, none, none, none, none, none, none, none, none]) ?_ ?_
  · unfold sSet
    rw [w1]; rfl
  have hw : (as ++ [wa]).all (val n) = false := by
    rw [List.all_append, List.all_cons, w2]; simp
  have bad := init_bad 0 (newI 0 2) n (as ++ [wa]) hw
  have e1 : dAs .pm (as ++ [wa]) = dAs .pm as ++ [dA .pm wa] := by simp [dAs]
  rw [e1] at bad
  simp only [newI, List.replicate_succ, List.replicate_zero] at bad
  have hal : as.length + 1 ≤ sizeLine := Nat.le_trans (m := 1000) (by have := ok.len; omega) (small_line (Nat.le_refl _))
  have k1 : mt_CellguardError 1 = true := rfl
  have k2 : isx_InvalidFlow 1 = true := rfl
  have e2 : isRo (dA .pm wa) = true := rfl
  have e3 : frzL (dAs .pm as ++ [dA .pm wa]) = dAs .pm as ++ [dA .pm wa] := by rw [← e1, frzL_dAs]
  refine rt_seq (e := [some (scrD ns), some (t1), some (.int n), some (.nd .lst .pm (dAs .pm as)), some (.nd .lst .pm (dI vs)), some (.int dg), none, none, none, none, none, none, none, none, none, none, none]) ?_ ?_
  · simp only [dAs_len, isRoL_dAs .pm rfl, e2, e3, hal, frzL_dAs, bad, k1, k2, Bool.not_true, ER.bind, ER.of, PR.toE, PR.bind, ER.toP, ER.toS, PR.toS, LR.toE, LR.of, FR.toE, fName, fIx, ixOf, eConst, eMove, eLk, eSh, pF, pI, eLook, eRo, eShr, eOp2, eChain_s, eAnd_s, eOr_s, eNot, eIf, lNil, lCons, eLst, eTup, eCallV, hAbs, hMax2, hMin2, hInt, hLen, hList, hAddI, hSubI, hDivI, hModI, hShrI, hAndI, hMulI, hAdd, hAddS, hOr, hI, hIB, hCat, hIn, hNin, hIs, hIsnt, isN, hLt, hLe, hGt, hGe, eNeg, fIxV, eIxT, sNext, sSeq, sBreak, sCont, sDrop, sRet, sRetN, sIf, sSet, sAug, setA, setL, putS, sPut, getA, sPutAug, tgName, tgNil, tgCons, tgTup, sTg, sPar, setFd, getFd, sFldS, sFldAugS, putE, eMut, isOL_own, hAppend, hExtend, hPop, eIter, eEnum, eRng, sFor, eYes, eLc, startE, backs, FR.of, okRes, eCall, isIns_nd, eMeth, eFrz, eSeal, newI, okSelf, eMake, sRaise, SR.fin, sTry, eIsi, partD, eInt, hSl, eSl, getP, setP, ownP, ownF_own, ownF_ro, ownF_pm, frz, frzL, frF_own, frF_ro, frF_pm, isRo, isRoL, roF_own, roF_ro, roF_pm, pmz, pmzL, clean, cleanL, isUns_nd, isUns_i, isUns_b, isUns_t, isUns_n, isUns_u, isPm_i, isPm_b, isPm_t, isPm_n, isPm_pm, isPm_ro', isPm_own, mkTup, killS, setS, List.getElem?_cons_zero, List.getElem?_cons_succ, List.set_cons_zero, List.set_cons_succ, List.map_cons, List.map_nil, List.length_cons, List.length_nil, List.cons_append, List.nil_append, List.append_nil, List.replicate_succ, List.replicate_zero, List.all_cons, List.all_nil, Bool.and_true, Bool.true_and, Bool.and_self, Bool.false_eq_true, Option.map_some, Option.map_none, Nat.reduceAdd, Nat.reduceSub, Nat.reduceBEq, beq_self_eq_true, Nat.reduceLT, Nat.sub_self, if_true, if_false, reduceIte, decide_true, decide_false, decide_eq_true_eq, true_and, and_true, and_self, or_true, true_or, or_self, false_or, or_false, false_and, and_false, Int.reduceLT, Int.reduceNeg, Int.reduceLE, Int.reduceAdd, Int.reduceSub, Int.reduceMul, Int.reduceEq, Int.reduceNe]
  have good := init_ok 0 n as (by have := ok.len; omega) (netN ok)
  simp only [newI, List.replicate_succ, List.replicate_zero] at good
  refine rt_seq (e := [some (scrD ns), some (t1), some (.int n), some (.nd .lst .pm (dAs .pm as)), some (.nd .lst .pm (dI vs)), some (.int dg), none, none, some (dN n as), none, none, none, none, none, none, none, none]) ?_ ?_
  · simp only [isRoL_dAs .pm rfl, frzL_dAs, good, clL_dAs, pmzL_dAs, dN, ER.bind, ER.of, PR.toE, PR.bind, ER.toP, ER.toS, PR.toS, LR.toE, LR.of, FR.toE, fName, fIx, ixOf, eConst, eMove, eLk, eSh, pF, pI, eLook, eRo, eShr, eOp2, eChain_s, eAnd_s, eOr_s, eNot, eIf, lNil, lCons, eLst, eTup, eCallV, hAbs, hMax2, hMin2, hInt, hLen, hList, hAddI, hSubI, hDivI, hModI, hShrI, hAndI, hMulI, hAdd, hAddS, hOr, hI, hIB, hCat, hIn, hNin, hIs, hIsnt, isN, hLt, hLe, hGt, hGe, eNeg, fIxV, eIxT, sNext, sSeq, sBreak, sCont, sDrop, sRet, sRetN, sIf, sSet, sAug, setA, setL, putS, sPut, getA, sPutAug, tgName, tgNil, tgCons, tgTup, sTg, sPar, setFd, getFd, sFldS, sFldAugS, putE, eMut, isOL_own, hAppend, hExtend, hPop, eIter, eEnum, eRng, sFor, eYes, eLc, startE, backs, FR.of, okRes, eCall, isIns_nd, eMeth, eFrz, eSeal, newI, okSelf, eMake, sRaise, SR.fin, sTry, eIsi, partD, eInt, hSl, eSl, getP, setP, ownP, ownF_own, ownF_ro, ownF_pm, frz, frzL, frF_own, frF_ro, frF_pm, isRo, isRoL, roF_own, roF_ro, roF_pm, pmz, pmzL, clean, cleanL, isUns_nd, isUns_i, isUns_b, isUns_t, isUns_n, isUns_u, isPm_i, isPm_b, isPm_t, isPm_n, isPm_pm, isPm_ro', isPm_own, mkTup, killS, setS, List.getElem?_cons_zero, List.getElem?_cons_succ, List.set_cons_zero, List.set_cons_succ, List.map_cons, List.map_nil, List.length_cons, List.length_nil, List.cons_append, List.nil_append, List.append_nil, List.replicate_succ, List.replicate_zero, List.all_cons, List.all_nil, Bool.and_true, Bool.true_and, Bool.and_self, Bool.false_eq_true, Option.map_some, Option.map_none, Nat.reduceAdd, Nat.reduceSub, Nat.reduceBEq, beq_self_eq_true, Nat.reduceLT, Nat.sub_self, if_true, if_false, reduceIte, decide_true, decide_false, decide_eq_true_eq, true_and, and_true, and_self, or_true, true_or, or_self, false_or, or_false, false_and, and_false, Int.reduceLT, Int.reduceNeg, Int.reduceLE, Int.reduceAdd, Int.reduceSub, Int.reduceMul, Int.reduceEq, Int.reduceNe]
  have t1' := isf_eq 0 n .ro as vs (by have := ok.n2; omega) (by have := ok.n5; omega) fun a ha => val_okN (ok.vl a ha)
  have hf : isf n as vs = true := by
    unfold isf
    rw [ok.fl, (sur_zero (by have := ok.n2; omega) (fun a ha => val_okN (ok.vl a ha)) ok.fl).mpr ok.bal]
    simp only [decide_true, Bool.true_and, Bool.and_true, List.all_eq_true]
    intro p hp
    obtain ⟨p1, p2, p3⟩ := List.mem_zipIdx hp
    have c := ok.cap trivial p.2 p.1 (by rw [p3, List.getElem?_eq_getElem (by omega)]; simp)
    unfold capOk
    rw [decide_eq_true c.1, decide_eq_true c.2]; rfl
  rw [hf] at t1'
  refine rt_seq (e := [some (scrD ns), some (t1), some (.int n), some (.nd .lst .pm (dAs .pm as)), some (.nd .lst .pm (dI vs)), some (.int dg), none, none, some (dN n as), none, none, none, none, none, none, none, none]) ?_ ?_
  · simp only [nodes_dN, isIns_dN, frz_dN, isRo_dN, arcs_eq, hNe_i, ne_dAs, isRoL_dI, frzL_dI, t1', ne_eq, not_true_eq_false, Bool.not_true, ER.bind, ER.of, PR.toE, PR.bind, ER.toP, ER.toS, PR.toS, LR.toE, LR.of, FR.toE, fName, fIx, ixOf, eConst, eMove, eLk, eSh, pF, pI, eLook, eRo, eShr, eOp2, eChain_s, eAnd_s, eOr_s, eNot, eIf, lNil, lCons, eLst, eTup, eCallV, hAbs, hMax2, hMin2, hInt, hLen, hList, hAddI, hSubI, hDivI, hModI, hShrI, hAndI, hMulI, hAdd, hAddS, hOr, hI, hIB, hCat, hIn, hNin, hIs, hIsnt, isN, hLt, hLe, hGt, hGe, eNeg, fIxV, eIxT, sNext, sSeq, sBreak, sCont, sDrop, sRet, sRetN, sIf, sSet, sAug, setA, setL, putS, sPut, getA, sPutAug, tgName, tgNil, tgCons, tgTup, sTg, sPar, setFd, getFd, sFldS, sFldAugS, putE, eMut, isOL_own, hAppend, hExtend, hPop, eIter, eEnum, eRng, sFor, eYes, eLc, startE, backs, FR.of, okRes, eCall, isIns_nd, eMeth, eFrz, eSeal, newI, okSelf, eMake, sRaise, SR.fin, sTry, eIsi, partD, eInt, hSl, eSl, getP, setP, ownP, ownF_own, ownF_ro, ownF_pm, frz, frzL, frF_own, frF_ro, frF_pm, isRo, isRoL, roF_own, roF_ro, roF_pm, pmz, pmzL, clean, cleanL, isUns_nd, isUns_i, isUns_b, isUns_t, isUns_n, isUns_u, isPm_i, isPm_b, isPm_t, isPm_n, isPm_pm, isPm_ro', isPm_own, mkTup, killS, setS, List.getElem?_cons_zero, List.getElem?_cons_succ, List.set_cons_zero, List.set_cons_succ, List.map_cons, List.map_nil, List.length_cons, List.length_nil, List.cons_append, List.nil_append, List.append_nil, List.replicate_succ, List.replicate_zero, List.all_cons, List.all_nil, Bool.and_true, Bool.true_and, Bool.and_self, Bool.false_eq_true, Option.map_some, Option.map_none, Nat.reduceAdd, Nat.reduceSub, Nat.reduceBEq, beq_self_eq_true, Nat.reduceLT, Nat.sub_self, if_true, if_false, reduceIte, decide_true, decide_false, decide_eq_true_eq, true_and, and_true, and_self, or_true, true_or, or_self, false_or, or_false, false_and, and_false, Int.reduceLT, Int.reduceNeg, Int.reduceLE, Int.reduceAdd, Int.reduceSub, Int.reduceMul, Int.reduceEq, Int.reduceNe]
  by_cases hz : as = []
  · refine rt_now (e := [some (scrD ns), some (t1), some (.int n), some (.nd .lst .pm (dAs .pm as)), some (.nd .lst .pm (dI vs)), some (.int dg), none, none, some (dN n as), none, none, none, none, none, none, none, none]) ?_
    simp only [eq_dAs_nil, hz, ER.bind, ER.of, PR.toE, PR.bind, ER.toP, ER.toS, PR.toS, LR.toE, LR.of, FR.toE, fName, fIx, ixOf, eConst, eMove, eLk, eSh, pF, pI, eLook, eRo, eShr, eOp2, eChain_s, eAnd_s, eOr_s, eNot, eIf, lNil, lCons, eLst, eTup, eCallV, hAbs, hMax2, hMin2, hInt, hLen, hList, hAddI, hSubI, hDivI, hModI, hShrI, hAndI, hMulI, hAdd, hAddS, hOr, hI, hIB, hCat, hIn, hNin, hIs, hIsnt, isN, hLt, hLe, hGt, hGe, eNeg, fIxV, eIxT, sNext, sSeq, sBreak, sCont, sDrop, sRet, sRetN, sIf, sSet, sAug, setA, setL, putS, sPut, getA, sPutAug, tgName, tgNil, tgCons, tgTup, sTg, sPar, setFd, getFd, sFldS, sFldAugS, putE, eMut, isOL_own, hAppend, hExtend, hPop, eIter, eEnum, eRng, sFor, eYes, eLc, startE, backs, FR.of, okRes, eCall, isIns_nd, eMeth, eFrz, eSeal, newI, okSelf, eMake, sRaise, SR.fin, sTry, eIsi, partD, eInt, hSl, eSl, getP, setP, ownP, ownF_own, ownF_ro, ownF_pm, frz, frzL, frF_own, frF_ro, frF_pm, isRo, isRoL, roF_own, roF_ro, roF_pm, pmz, pmzL, clean, cleanL, isUns_nd, isUns_i, isUns_b, isUns_t, isUns_n, isUns_u, isPm_i, isPm_b, isPm_t, isPm_n, isPm_pm, isPm_ro', isPm_own, mkTup, killS, setS, List.getElem?_cons_zero, List.getElem?_cons_succ, List.set_cons_zero, List.set_cons_succ, List.map_cons, List.map_nil, List.length_cons, List.length_nil, List.cons_append, List.nil_append, List.append_nil, List.replicate_succ, List.replicate_zero, List.all_cons, List.all_nil, Bool.and_true, Bool.true_and, Bool.and_self, Bool.false_eq_true, Option.map_some, Option.map_none, Nat.reduceAdd, Nat.reduceSub, Nat.reduceBEq, beq_self_eq_true, Nat.reduceLT, Nat.sub_self, if_true, if_false, reduceIte, decide_true, decide_false, decide_eq_true_eq, true_and, and_true, and_self, or_true, true_or, or_self, false_or, or_false, false_and, and_false, Int.reduceLT, Int.reduceNeg, Int.reduceLE, Int.reduceAdd, Int.reduceSub, Int.reduceMul, Int.reduceEq, Int.reduceNe]
  refine rt_seq (e := [some (scrD ns), some (t1), some (.int n), some (.nd .lst .pm (dAs .pm as)), some (.nd .lst .pm (dI vs)), some (.int dg), none, none, some (dN n as), none, none, none, none, none, none, none, none]) ?_ ?_
  · simp only [eq_dAs_nil, hz, ER.bind, ER.of, PR.toE, PR.bind, ER.toP, ER.toS, PR.toS, LR.toE, LR.of, FR.toE, fName, fIx, ixOf, eConst, eMove, eLk, eSh, pF, pI, eLook, eRo, eShr, eOp2, eChain_s, eAnd_s, eOr_s, eNot, eIf, lNil, lCons, eLst, eTup, eCallV, hAbs, hMax2, hMin2, hInt, hLen, hList, hAddI, hSubI, hDivI, hModI, hShrI, hAndI, hMulI, hAdd, hAddS, hOr, hI, hIB, hCat, hIn, hNin, hIs, hIsnt, isN, hLt, hLe, hGt, hGe, eNeg, fIxV, eIxT, sNext, sSeq, sBreak, sCont, sDrop, sRet, sRetN, sIf, sSet, sAug, setA, setL, putS, sPut, getA, sPutAug, tgName, tgNil, tgCons, tgTup, sTg, sPar, setFd, getFd, sFldS, sFldAugS, putE, eMut, isOL_own, hAppend, hExtend, hPop, eIter, eEnum, eRng, sFor, eYes, eLc, startE, backs, FR.of, okRes, eCall, isIns_nd, eMeth, eFrz, eSeal, newI, okSelf, eMake, sRaise, SR.fin, sTry, eIsi, partD, eInt, hSl, eSl, getP, setP, ownP, ownF_own, ownF_ro, ownF_pm, frz, frzL, frF_own, frF_ro, frF_pm, isRo, isRoL, roF_own, roF_ro, roF_pm, pmz, pmzL, clean, cleanL, isUns_nd, isUns_i, isUns_b, isUns_t, isUns_n, isUns_u, isPm_i, isPm_b, isPm_t, isPm_n, isPm_pm, isPm_ro', isPm_own, mkTup, killS, setS, List.getElem?_cons_zero, List.getElem?_cons_succ, List.set_cons_zero, List.set_cons_succ, List.map_cons, List.map_nil, List.length_cons, List.length_nil, List.cons_append, List.nil_append, List.append_nil, List.replicate_succ, List.replicate_zero, List.all_cons, List.all_nil, Bool.and_true, Bool.true_and, Bool.and_self, Bool.false_eq_true, Option.map_some, Option.map_none, Nat.reduceAdd, Nat.reduceSub, Nat.reduceBEq, beq_self_eq_true, Nat.reduceLT, Nat.sub_self, if_true, if_false, reduceIte, decide_true, decide_false, decide_eq_true_eq, true_and, and_true, and_self, or_true, true_or, or_self, false_or, or_false, false_and, and_false, Int.reduceLT, Int.reduceNeg, Int.reduceLE, Int.reduceAdd, Int.reduceSub, Int.reduceMul, Int.reduceEq, Int.reduceNe]
  have hpos : 0 < (as.length : Int) := by
    cases as with
    | nil => exact absurd rfl hz
    | cons _ _ => simp
  have q5 : (0 : Int) < 5 ∧ (5 : Int) < 1073741824 := by decide
  generalize harc : dg / 5 % (as.length : Int) = arc
  have h0 : 0 ≤ arc := by rw [← harc]; exact Int.emod_nonneg _ (by omega)
  have h1 : arc < as.length := by rw [← harc]; exact Int.emod_lt_of_pos _ hpos
  refine rt_seq (e := [some (scrD ns), some (t1), some (.int n), some (.nd .lst .pm (dAs .pm as)), some (.nd .lst .pm (dI vs)), some (.int dg), none, none, some (dN n as), some (.int arc), none, none, none, none, none, none, none]) ?_ ?_
  · simp only [dAs_len, q5, hpos, harc, ER.bind, ER.of, PR.toE, PR.bind, ER.toP, ER.toS, PR.toS, LR.toE, LR.of, FR.toE, fName, fIx, ixOf, eConst, eMove, eLk, eSh, pF, pI, eLook, eRo, eShr, eOp2, eChain_s, eAnd_s, eOr_s, eNot, eIf, lNil, lCons, eLst, eTup, eCallV, hAbs, hMax2, hMin2, hInt, hLen, hList, hAddI, hSubI, hDivI, hModI, hShrI, hAndI, hMulI, hAdd, hAddS, hOr, hI, hIB, hCat, hIn, hNin, hIs, hIsnt, isN, hLt, hLe, hGt, hGe, eNeg, fIxV, eIxT, sNext, sSeq, sBreak, sCont, sDrop, sRet, sRetN, sIf, sSet, sAug, setA, setL, putS, sPut, getA, sPutAug, tgName, tgNil, tgCons, tgTup, sTg, sPar, setFd, getFd, sFldS, sFldAugS, putE, eMut, isOL_own, hAppend, hExtend, hPop, eIter, eEnum, eRng, sFor, eYes, eLc, startE, backs, FR.of, okRes, eCall, isIns_nd, eMeth, eFrz, eSeal, newI, okSelf, eMake, sRaise, SR.fin, sTry, eIsi, partD, eInt, hSl, eSl, getP, setP, ownP, ownF_own, ownF_ro, ownF_pm, frz, frzL, frF_own, frF_ro, frF_pm, isRo, isRoL, roF_own, roF_ro, roF_pm, pmz, pmzL, clean, cleanL, isUns_nd, isUns_i, isUns_b, isUns_t, isUns_n, isUns_u, isPm_i, isPm_b, isPm_t, isPm_n, isPm_pm, isPm_ro', isPm_own, mkTup, killS, setS, List.getElem?_cons_zero, List.getElem?_cons_succ, List.set_cons_zero, List.set_cons_succ, List.map_cons, List.map_nil, List.length_cons, List.length_nil, List.cons_append, List.nil_append, List.append_nil, List.replicate_succ, List.replicate_zero, List.all_cons, List.all_nil, Bool.and_true, Bool.true_and, Bool.and_self, Bool.false_eq_true, Option.map_some, Option.map_none, Nat.reduceAdd, Nat.reduceSub, Nat.reduceBEq, beq_self_eq_true, Nat.reduceLT, Nat.sub_self, if_true, if_false, reduceIte, decide_true, decide_false, decide_eq_true_eq, true_and, and_true, and_self, or_true, true_or, or_self, false_or, or_false, false_and, and_false, Int.reduceLT, Int.reduceNeg, Int.reduceLE, Int.reduceAdd, Int.reduceSub, Int.reduceMul, Int.reduceEq, Int.reduceNe]
  refine rt_seq (e := [some (scrD ns), some (t1), some (.int n), some (.nd .lst .pm (dAs .pm as)), some (.nd .lst .pm (dI vs)), some (.int dg), none, none, some (dN n as), some (.int arc), some (.nd .lst .own (dI vs)), none, none, none, none, none, none]) ?_ ?_
  · simp only [isRoL_dI, ER.bind, ER.of, PR.toE, PR.bind, ER.toP, ER.toS, PR.toS, LR.toE, LR.of, FR.toE, fName, fIx, ixOf, eConst, eMove, eLk, eSh, pF, pI, eLook, eRo, eShr, eOp2, eChain_s, eAnd_s, eOr_s, eNot, eIf, lNil, lCons, eLst, eTup, eCallV, hAbs, hMax2, hMin2, hInt, hLen, hList, hAddI, hSubI, hDivI, hModI, hShrI, hAndI, hMulI, hAdd, hAddS, hOr, hI, hIB, hCat, hIn, hNin, hIs, hIsnt, isN, hLt, hLe, hGt, hGe, eNeg, fIxV, eIxT, sNext, sSeq, sBreak, sCont, sDrop, sRet, sRetN, sIf, sSet, sAug, setA, setL, putS, sPut, getA, sPutAug, tgName, tgNil, tgCons, tgTup, sTg, sPar, setFd, getFd, sFldS, sFldAugS, putE, eMut, isOL_own, hAppend, hExtend, hPop, eIter, eEnum, eRng, sFor, eYes, eLc, startE, backs, FR.of, okRes, eCall, isIns_nd, eMeth, eFrz, eSeal, newI, okSelf, eMake, sRaise, SR.fin, sTry, eIsi, partD, eInt, hSl, eSl, getP, setP, ownP, ownF_own, ownF_ro, ownF_pm, frz, frzL, frF_own, frF_ro, frF_pm, isRo, isRoL, roF_own, roF_ro, roF_pm, pmz, pmzL, clean, cleanL, isUns_nd, isUns_i, isUns_b, isUns_t, isUns_n, isUns_u, isPm_i, isPm_b, isPm_t, isPm_n, isPm_pm, isPm_ro', isPm_own, mkTup, killS, setS, List.getElem?_cons_zero, List.getElem?_cons_succ, List.set_cons_zero, List.set_cons_succ, List.map_cons, List.map_nil, List.length_cons, List.length_nil, List.cons_append, List.nil_append, List.append_nil, List.replicate_succ, List.replicate_zero, List.all_cons, List.all_nil, Bool.and_true, Bool.true_and, Bool.and_self, Bool.false_eq_true, Option.map_some, Option.map_none, Nat.reduceAdd, Nat.reduceSub, Nat.reduceBEq, beq_self_eq_true, Nat.reduceLT, Nat.sub_self, if_true, if_false, reduceIte, decide_true, decide_false, decide_eq_true_eq, true_and, and_true, and_self, or_true, true_or, or_self, false_or, or_false, false_and, and_false, Int.reduceLT, Int.reduceNeg, Int.reduceLE, Int.reduceAdd, Int.reduceSub, Int.reduceMul, Int.reduceEq, Int.reduceNe]
  obtain ⟨x, hx⟩ := two_at dg [some (scrD ns), some (t1), some (.int n), some (.nd .lst .pm (dAs .pm as)), some (.nd .lst .pm (dI vs)), some (.int dg), none, none, some (dN n as), some (.int arc), some (.nd .lst .own (dI vs)), none, none, none, none, none, none] rfl
  obtain ⟨b0, b1, b2⟩ := dI_at (f := vs) h0 (by rw [ok.fl]; exact h1)
  refine rt_seq (e := [some (scrD ns), some (t1), some (.int n), some (.nd .lst .pm (dAs .pm as)), some (.nd .lst .pm (dI vs)), some (.int dg), none, none, some (dN n as), some (.int arc), some (.nd .lst .own (dI (vs.set arc.toNat (vs.getD arc.toNat 0 + x)))), none, none, none, none, none, none]) ?_ ?_
  · simp only [b0, b2, hx, dI_set, ER.bind, ER.of, PR.toE, PR.bind, ER.toP, ER.toS, PR.toS, LR.toE, LR.of, FR.toE, fName, fIx, ixOf, eConst, eMove, eLk, eSh, pF, pI, eLook, eRo, eShr, eOp2, eChain_s, eAnd_s, eOr_s, eNot, eIf, lNil, lCons, eLst, eTup, eCallV, hAbs, hMax2, hMin2, hInt, hLen, hList, hAddI, hSubI, hDivI, hModI, hShrI, hAndI, hMulI, hAdd, hAddS, hOr, hI, hIB, hCat, hIn, hNin, hIs, hIsnt, isN, hLt, hLe, hGt, hGe, eNeg, fIxV, sNext, sSeq, sBreak, sCont, sDrop, sRet, sRetN, sIf, sSet, sAug, setA, setL, putS, sPut, getA, sPutAug, tgName, tgNil, tgCons, tgTup, sTg, sPar, setFd, getFd, sFldS, sFldAugS, putE, eMut, isOL_own, hAppend, hExtend, hPop, eIter, eEnum, eRng, sFor, eYes, eLc, startE, backs, FR.of, okRes, eCall, isIns_nd, eMeth, eFrz, eSeal, newI, okSelf, eMake, sRaise, SR.fin, sTry, eIsi, partD, eInt, hSl, eSl, getP, setP, ownP, ownF_own, ownF_ro, ownF_pm, frz, frzL, frF_own, frF_ro, frF_pm, isRo, isRoL, roF_own, roF_ro, roF_pm, pmz, pmzL, clean, cleanL, isUns_nd, isUns_i, isUns_b, isUns_t, isUns_n, isUns_u, isPm_i, isPm_b, isPm_t, isPm_n, isPm_pm, isPm_ro', isPm_own, mkTup, killS, setS, List.getElem?_cons_zero, List.getElem?_cons_succ, List.set_cons_zero, List.set_cons_succ, List.map_cons, List.map_nil, List.length_cons, List.length_nil, List.cons_append, List.nil_append, List.append_nil, List.replicate_succ, List.replicate_zero, List.all_cons, List.all_nil, Bool.and_true, Bool.true_and, Bool.and_self, Bool.false_eq_true, Option.map_some, Option.map_none, Nat.reduceAdd, Nat.reduceSub, Nat.reduceBEq, beq_self_eq_true, Nat.reduceLT, Nat.sub_self, if_true, if_false, reduceIte, decide_true, decide_false, decide_eq_true_eq, true_and, and_true, and_self, or_true, true_or, or_self, false_or, or_false, false_and, and_false, Int.reduceLT, Int.reduceNeg, Int.reduceLE, Int.reduceAdd, Int.reduceSub, Int.reduceMul, Int.reduceEq, Int.reduceNe]
  generalize vs.set arc.toNat (vs.getD arc.toNat 0 + x) = v1
  have hvl : vs.length + 1 ≤ sizeLine := Nat.le_trans (m := 1000) (by have := ok.len; have := ok.fl; omega) (small_line (Nat.le_refl _))
  have ft := fun ws => ft_at 0 n as ws (some (scrD ns)) (some t1) (some (.nd .lst .pm (dI vs))) (some (.int dg)) none none (some (.int arc)) ok.n2 ok.n5 ok.len ok.vl
  refine rt_seq (e := [some (scrD ns), some (t1), some (.int n), some (.nd .lst .pm (dAs .pm as)), some (.nd .lst .pm (dI vs)), some (.int dg), none, none, some (dN n as), some (.int arc), none, none, none, none, none, none, none]) ?_ ?_
  · have e4 : dI vs ++ [D.int 0] = dI (vs ++ [0]) := dI_snoc vs 0
    simp only [isRoL_dI, cutL_dI, dI_len, hvl, itemsD, itemsL, frzL_dI, e4, forL_cons, forL_nil, ft, ER.bind, ER.of, PR.toE, PR.bind, ER.toP, ER.toS, PR.toS, LR.toE, LR.of, FR.toE, fName, fIx, ixOf, eConst, eMove, eLk, eSh, pF, pI, eLook, eRo, eShr, eOp2, eChain_s, eAnd_s, eOr_s, eNot, eIf, lNil, lCons, eLst, eTup, eCallV, hAbs, hMax2, hMin2, hInt, hLen, hList, hAddI, hSubI, hDivI, hModI, hShrI, hAndI, hMulI, hAdd, hAddS, hOr, hI, hIB, hCat, hIn, hNin, hIs, hIsnt, isN, hLt, hLe, hGt, hGe, eNeg, fIxV, eIxT, sNext, sSeq, sBreak, sCont, sDrop, sRet, sRetN, sIf, sSet, sAug, setA, setL, putS, sPut, getA, sPutAug, tgName, tgNil, tgCons, tgTup, sTg, sPar, setFd, getFd, sFldS, sFldAugS, putE, eMut, isOL_own, hAppend, hExtend, hPop, eIter, eEnum, eRng, sFor, eYes, eLc, startE, backs, FR.of, okRes, eCall, isIns_nd, eMeth, eFrz, eSeal, newI, okSelf, eMake, sRaise, SR.fin, sTry, eIsi, partD, eInt, hSl, eSl, getP, setP, ownP, ownF_own, ownF_ro, ownF_pm, frz, frzL, frF_own, frF_ro, frF_pm, isRo, isRoL, roF_own, roF_ro, roF_pm, pmz, pmzL, clean, cleanL, isUns_nd, isUns_i, isUns_b, isUns_t, isUns_n, isUns_u, isPm_i, isPm_b, isPm_t, isPm_n, isPm_pm, isPm_ro', isPm_own, mkTup, killS, setS, List.getElem?_cons_zero, List.getElem?_cons_succ, List.set_cons_zero, List.set_cons_succ, List.map_cons, List.map_nil, List.length_cons, List.length_nil, List.cons_append, List.nil_append, List.append_nil, List.replicate_succ, List.replicate_zero, List.all_cons, List.all_nil, Bool.and_true, Bool.true_and, Bool.and_self, Bool.false_eq_true, Option.map_some, Option.map_none, Nat.reduceAdd, Nat.reduceSub, Nat.reduceBEq, beq_self_eq_true, Nat.reduceLT, Nat.sub_self, if_true, if_false, reduceIte, decide_true, decide_false, decide_eq_true_eq, true_and, and_true, and_self, or_true, true_or, or_self, false_or, or_false, false_and, and_false, Int.reduceLT, Int.reduceNeg, Int.reduceLE, Int.reduceAdd, Int.reduceSub, Int.reduceMul, Int.reduceEq, Int.reduceNe]
  obtain ⟨ms, hm⟩ := mem_at 0 n (some (scrD ns)) (some t1) (some (.nd .lst .pm (dAs .pm as))) (some (.nd .lst .pm (dI vs))) (some (dN n as)) (some (.int arc)) dg (by have := ok.n2; omega) ok.n5
  refine rt_seq (e := [some (scrD ns), some (t1), some (.int n), some (.nd .lst .pm (dAs .pm as)), some (.nd .lst .pm (dI vs)), some (.int dg), none, none, some (dN n as), some (.int arc), none, none, some (.nd .lst .own (dI ms)), none, none, none, none]) ?_ ?_
  · unfold sSet
    rw [hm]; rfl
  obtain ⟨a0, ha⟩ : ∃ a0, as[arc.toNat]? = some a0 := ⟨_, List.getElem?_eq_getElem (by omega)⟩
  have y1 := way_turn1 0 n arc as vs ms a0 (some (scrD ns)) (some t1) (some (.int dg)) none ok h0 ha
  have y2 := way_turn2 0 n arc as vs ms a0 (some (scrD ns)) (some t1) (some (.int dg)) none ok h0 ha
  refine rt_seq (e := [some (scrD ns), some (t1), some (.int n), some (.nd .lst .pm (dAs .pm as)), some (.nd .lst .pm (dI vs)), some (.int dg), none, none, some (dN n as), some (.int arc), none, none, some (.nd .lst .own (dI ms)), none, none, none, none]) ?_ ?_
  · simp only [itemsD, itemsL, itemsT, forL_cons, forL_nil, y1, y2, ER.bind, ER.of, PR.toE, PR.bind, ER.toP, ER.toS, PR.toS, LR.toE, LR.of, FR.toE, fName, fIx, ixOf, eConst, eMove, eLk, eSh, pF, pI, eLook, eRo, eShr, eOp2, eChain_s, eAnd_s, eOr_s, eNot, eIf, lNil, lCons, eLst, eTup, eCallV, hAbs, hMax2, hMin2, hInt, hLen, hList, hAddI, hSubI, hDivI, hModI, hShrI, hAndI, hMulI, hAdd, hAddS, hOr, hI, hIB, hCat, hIn, hNin, hIs, hIsnt, isN, hLt, hLe, hGt, hGe, eNeg, fIxV, eIxT, sNext, sSeq, sBreak, sCont, sDrop, sRet, sRetN, sIf, sSet, sAug, setA, setL, putS, sPut, getA, sPutAug, tgName, tgNil, tgCons, tgTup, sTg, sPar, setFd, getFd, sFldS, sFldAugS, putE, eMut, isOL_own, hAppend, hExtend, hPop, eIter, eEnum, eRng, sFor, eYes, eLc, startE, backs, FR.of, okRes, eCall, isIns_nd, eMeth, eFrz, eSeal, newI, okSelf, eMake, sRaise, SR.fin, sTry, eIsi, partD, eInt, hSl, eSl, getP, setP, ownP, ownF_own, ownF_ro, ownF_pm, frz, frzL, frF_own, frF_ro, frF_pm, isRo, isRoL, roF_own, roF_ro, roF_pm, pmz, pmzL, clean, cleanL, isUns_nd, isUns_i, isUns_b, isUns_t, isUns_n, isUns_u, isPm_i, isPm_b, isPm_t, isPm_n, isPm_pm, isPm_ro', isPm_own, mkTup, killS, setS, List.getElem?_cons_zero, List.getElem?_cons_succ, List.set_cons_zero, List.set_cons_succ, List.map_cons, List.map_nil, List.length_cons, List.length_nil, List.cons_append, List.nil_append, List.append_nil, List.replicate_succ, List.replicate_zero, List.all_cons, List.all_nil, Bool.and_true, Bool.true_and, Bool.and_self, Bool.false_eq_true, Option.map_some, Option.map_none, Nat.reduceAdd, Nat.reduceSub, Nat.reduceBEq, beq_self_eq_true, Nat.reduceLT, Nat.sub_self, if_true, if_false, reduceIte, decide_true, decide_false, decide_eq_true_eq, true_and, and_true, and_self, or_true, true_or, or_self, false_or, or_false, false_and, and_false, Int.reduceLT, Int.reduceNeg, Int.reduceLE, Int.reduceAdd, Int.reduceSub, Int.reduceMul, Int.reduceEq, Int.reduceNe]
  exact ⟨_, rfl⟩
end Pl
theorem PySem.Challenge.cw_cellguard_k06_bounds_of_sets_holds : PySem.Challenge.rw_cellguard_k06_bounds_of_sets.Holds := by
  exact Fi.law_holds fun ns hl _ => Pl.law_plain ns hl
