import PyProof.Rows.All
import Wide.All
import OpenK.AllK
import Wide.FinOn
import HandS.ForMost
import HandS.Exc
import HandS.Lambda
import HandS.TupMul
import HandS.TupAny
import HandS.TupLe
import HandS.Deep
import HandS.IsInst
import HandS.Flow
import HandS.RaiseMore
import HandS.ExcOwn
import HandS.CallSlots
import HandS.Zip0
import PyProof.Draws
import HandS.Zip
import HandS.Small
import HandS.Steps
import HandS.Style
import HandS.ExcInit
import HandS.WordsExc
import HandS.Defaults
import HandS.TryMany
import HandS.ExcField
import HandS.HeadHook4
import HandS.HeadWalk
import HandS.Head2
import PyProof.StrLawsTight
import PyProof.StrLawsIn
import HandS.Head0
import HandS.Head1
import PySem.Challenge.RW_evenifstopped_k02_whole_tokens
set_option Elab.async false
set_option linter.all false
set_option maxRecDepth 100000
/-! EV, part A: values without a heap, and how they lie in the abstract heap. -/
namespace EV
open PySem L2 LamX

/-- a value: what is never changed is told by value; ref n: the n-th live cell -/
inductive D where
  | non | bl (b : Bool) | int (i : Int) | str (s : Str)
  | tup (xs : List D) | lst (xs : List D) | scr (xs : List D)
  | dic (ks : List Key) (vs : List D)
  | obj (c : Nat) (fs : List Nat) (vs : List D)
  | ref (n : Nat)
/-- what a live cell holds -/
inductive Cell where
  | lst (xs : List D) | dic (ks : List Key) (vs : List D) | obj (c : Nat) (fs : List Nat) (vs : List D)
abbrev Store := List (Option Cell)

/-- the program's classes and field names, by number -/
structure Gb where
  K : PySem.W.Frag
  cls : Nat → Addr
  fld : Nat → Str
  T : List (Addr × Str)

/-- a list, a tuple that is not live -/
def RL (K : PySem.W.Frag) (H : Hp) (N : Addr → Prop) (a : Addr) (xs : List V) : Prop := (Rd H a (.lst xs) ∧ ¬ N a) ∨ SqL K (fun _ => none) a xs
def RT (K : PySem.W.Frag) (H : Hp) (N : Addr → Prop) (a : Addr) (xs : List V) : Prop := (Rd H a (.tup xs) ∧ ¬ N a) ∨ SqT K (fun _ => none) a xs
theorem RL.sq {K : PySem.W.Frag} {H : Hp} {N : Addr → Prop} {a : Addr} {xs : List V} (h : RL K H N a xs) : SqL K H a xs := by
  rcases h with ⟨h, _⟩ | h
  · exact .inl h
  · rcases h with (h | ⟨o, h⟩) | h
    · cases h
    · cases h
    · exact .inr h
theorem RT.sq {K : PySem.W.Frag} {H : Hp} {N : Addr → Prop} {a : Addr} {xs : List V} (h : RT K H N a xs) : SqT K H a xs := by
  rcases h with ⟨h, _⟩ | h
  · exact .inl h
  · rcases h with (h | ⟨o, h⟩) | h
    · cases h
    · cases h
    · exact .inr h

mutual
inductive RV (G : Gb) (H : Hp) (N : Addr → Prop) (α : List Addr) : D → V → Prop
  | non : RV G H N α .non .non
  | bl (b : Bool) : RV G H N α (.bl b) (.bl b)
  | int (i : Int) : RV G H N α (.int i) (.int i)
  | str (s : Str) : RV G H N α (.str s) (.str s)
  | tup {a : Addr} {ds : List D} {xs : List V} : RT G.K H N a xs → RVs G H N α ds xs → RV G H N α (.tup ds) (.ref a)
  | lst {a : Addr} {ds : List D} {xs : List V} : H a = some (.lst xs) → ¬ N a → RVs G H N α ds xs → RV G H N α (.lst ds) (.ref a)
  | scr {a : Addr} {ds : List D} {xs : List V} : RL G.K H N a xs → RVs G H N α ds xs → RV G H N α (.scr ds) (.ref a)
  | dic {a : Addr} {ks : List Key} {ds : List D} {kvs : List (Key × V)} : Rd H a (.dK kvs) → ¬ N a → kvs.map (·.1) = ks → RVs G H N α ds (kvs.map (·.2)) → RV G H N α (.dic ks ds) (.ref a)
  | obj {a dx : Addr} {c : Nat} {fs : List Nat} {ds : List D} {kvs : List (Str × V)} : H a = some (.ins (G.cls c) dx kvs) → ¬ N a → kvs.map (·.1) = fs.map G.fld → RVs G H N α ds (kvs.map (·.2)) → RV G H N α (.obj c fs ds) (.ref a)
  | ref {n : Nat} {a : Addr} : α[n]? = some a → RV G H N α (.ref n) (.ref a)
inductive RVs (G : Gb) (H : Hp) (N : Addr → Prop) (α : List Addr) : List D → List V → Prop
  | nil : RVs G H N α [] []
  | cons {d : D} {ds : List D} {v : V} {vs : List V} : RV G H N α d v → RVs G H N α ds vs → RVs G H N α (d :: ds) (v :: vs)
end

/-- the cell's content at its address -/
def CR (G : Gb) (H : Hp) (N : Addr → Prop) (α : List Addr) (a : Addr) : Cell → Prop
  | .lst ds => ∃ xs, H a = some (.lst xs) ∧ RVs G H N α ds xs
  | .dic ks ds => ∃ kvs : List (Key × V), H a = some (.dK kvs) ∧ kvs.map (·.1) = ks ∧ RVs G H N α ds (kvs.map (·.2))
  | .obj c fs ds => ∃ (dx : Addr) (kvs : List (Str × V)), H a = some (.ins (G.cls c) dx kvs) ∧ kvs.map (·.1) = fs.map G.fld ∧ RVs G H N α ds (kvs.map (·.2))

/-- no table of code objects -/
def NT (o : HO) : Prop := ∀ ps, o ≠ .tbl ps
/-- nothing lies there, but perhaps a table -/
def Fr (H : Hp) (b : Addr) : Prop := ∀ o, H b = some o → ¬ NT o
theorem Fr.none {H : Hp} {b : Addr} (e : H b = none) : Fr H b := fun o q => by rw [e] at q; cases q
def Live (S : Store) (α : List Addr) (b : Addr) : Prop := ∃ (n : Nat) (c : Cell), S[n]? = some (some c) ∧ α[n]? = some b

structure ST (G : Gb) (H : Hp) (N : Addr → Prop) (S : Store) (α : List Addr) : Prop where
  len : α.length = S.length
  cell : ∀ (n : Nat) (c : Cell), S[n]? = some (some c) → ∃ a, α[n]? = some a ∧ N a ∧ CR G H N α a c
  nd : ∀ (i j : Nat) (a : Addr), α[i]? = some a → α[j]? = some a → i = j
  trk : ∀ b, N b → ∃ o, H b = some o ∧ NT o
  alv : ∀ (n : Nat) a, α[n]? = some a → ∃ o, H a = some o ∧ NT o
  tab : Tabs G.T H

structure Stp (H : Hp) (N : Addr → Prop) (S : Store) (α : List Addr) (H' : Hp) (N' : Addr → Prop) (S' : Store) (α' : List Addr) : Prop where
  keep : ∀ b o, H b = some o → ¬ Live S α b → (∀ ps, o ≠ .tbl ps) → H' b = some o
  some_ : ∀ b o, H b = some o → NT o → ∃ o', H' b = some o' ∧ NT o'
  nn : ∀ b, N' b → N b ∨ Fr H b
  zz : ∀ b, N b → ¬ Live S α b → N' b
  lv : ∀ b, Live S' α' b → Live S α b ∨ Fr H b
  pre : ∃ β, α' = α ++ β
  al : ∀ (n : Nat) a, α'[n]? = some a → α[n]? = some a ∨ Fr H a

section
variable {G : Gb} {H H' H2 : Hp} {N N' N2 : Addr → Prop} {S S' S2 : Store} {α α' α2 : List Addr}
theorem ST.live (h : ST G H N S α) {b : Addr} (l : Live S α b) : N b := by
  obtain ⟨n, c, e1, e2⟩ := l
  obtain ⟨a, e3, h3, _⟩ := h.cell n c e1
  rw [e2] at e3; cases e3; exact h3
theorem Fr.back (s : Stp H N S α H' N' S' α') {b : Addr} (f : Fr H' b) : Fr H b := fun o e n => by
  obtain ⟨o', e', n'⟩ := s.some_ b o e n
  exact f o' e' n'
theorem Stp.refl : Stp H N S α H N S α := ⟨fun _ _ h _ _ => h, fun _ _ h n => ⟨_, h, n⟩, fun _ h => .inl h, fun _ h _ => h, fun _ h => .inl h, ⟨[], by simp⟩, fun _ _ h => .inl h⟩
theorem Stp.trans (h : ST G H N S α) (a : Stp H N S α H' N' S' α') (b : Stp H' N' S' α' H2 N2 S2 α2) : Stp H N S α H2 N2 S2 α2 := by
  refine ⟨fun x o e n t => ?_, fun x o e nt => ?_, fun x n2 => ?_, fun x n l => ?_, fun x l => ?_, ?_, fun n x e2 => ?_⟩
  · refine b.keep x o (a.keep x o e n t) (fun l => ?_) t
    rcases a.lv x l with q | q
    · exact n q
    · exact q o e t
  · obtain ⟨o', e', n'⟩ := a.some_ x o e nt
    exact b.some_ x o' e' n'
  · rcases b.nn x n2 with q | q
    · exact a.nn x q
    · exact .inr (q.back a)
  · refine b.zz x (a.zz x n l) fun l2 => ?_
    rcases a.lv x l2 with q | q
    · exact l q
    · obtain ⟨o, e, nt⟩ := h.trk x n
      exact q o e nt
  · rcases b.lv x l with q | q
    · exact a.lv x q
    · exact .inr (q.back a)
  · obtain ⟨β, e⟩ := a.pre
    obtain ⟨γ, e2⟩ := b.pre
    exact ⟨β ++ γ, by rw [e2, e, List.append_assoc]⟩
  · rcases b.al n x e2 with q | q
    · exact a.al n x q
    · exact .inr (q.back a)
theorem Stp.at (s : Stp H N S α H' N' S' α') {n : Nat} {a : Addr} (e : α[n]? = some a) : α'[n]? = some a := by
  obtain ⟨β, rfl⟩ := s.pre
  rw [List.getElem?_append_left (by
    have := (List.getElem?_eq_some_iff.mp e).1
    exact this)]
  exact e

/-- what a step needs to carry values along -/
structure Car (H : Hp) (N : Addr → Prop) (α : List Addr) (H' : Hp) (N' : Addr → Prop) (α' : List Addr) : Prop where
  keep : ∀ b o, H b = some o → ¬ N b → (∀ ps, o ≠ .tbl ps) → H' b = some o
  nn : ∀ b o, N' b → H b = some o → (∀ ps, o ≠ .tbl ps) → N b
  at_ : ∀ (n : Nat) a, α[n]? = some a → α'[n]? = some a
theorem Stp.car (h : ST G H N S α) (s : Stp H N S α H' N' S' α') : Car H N α H' N' α' := by
  refine ⟨fun b o e n t => s.keep b o e (fun l => n (h.live l)) t, fun b o n e nt => ?_, fun n a e => s.at e⟩
  rcases s.nn b n with q | q
  · exact q
  · exact absurd nt (q o e)
theorem RL.mono {K : PySem.W.Frag} {a : Addr} {xs : List V} (c : Car H N α H' N' α') (h : RL K H N a xs) : RL K H' N' a xs := by
  rcases h with ⟨h | ⟨o, h⟩, n⟩ | h
  · exact .inl ⟨.inl (c.keep _ _ h n (fun _ z => by cases z)), fun z => n (c.nn _ _ z h fun _ z => by cases z)⟩
  · exact .inl ⟨.inr ⟨o, c.keep _ _ h n (fun _ z => by cases z)⟩, fun z => n (c.nn _ _ z h fun _ z => by cases z)⟩
  · exact .inr h
theorem RT.mono {K : PySem.W.Frag} {a : Addr} {xs : List V} (c : Car H N α H' N' α') (h : RT K H N a xs) : RT K H' N' a xs := by
  rcases h with ⟨h | ⟨o, h⟩, n⟩ | h
  · exact .inl ⟨.inl (c.keep _ _ h n (fun _ z => by cases z)), fun z => n (c.nn _ _ z h fun _ z => by cases z)⟩
  · exact .inl ⟨.inr ⟨o, c.keep _ _ h n (fun _ z => by cases z)⟩, fun z => n (c.nn _ _ z h fun _ z => by cases z)⟩
  · exact .inr h
mutual
theorem RV.mono (c : Car H N α H' N' α') : ∀ {d : D} {v : V}, RV G H N α d v → RV G H' N' α' d v
  | _, _, .non => .non
  | _, _, .bl b => .bl b
  | _, _, .int i => .int i
  | _, _, .str s => .str s
  | _, _, .tup h r => .tup (h.mono c) (RVs.mono c r)
  | _, _, .lst h n r => .lst (c.keep _ _ h n (fun _ z => by cases z)) (fun z => n (c.nn _ _ z h fun _ z => by cases z)) (RVs.mono c r)
  | _, _, .scr h r => .scr (h.mono c) (RVs.mono c r)
  | _, _, .dic h n e r => by
    rcases h with h | ⟨o, h⟩
    · exact .dic (.inl (c.keep _ _ h n (fun _ z => by cases z))) (fun z => n (c.nn _ _ z h fun _ z => by cases z)) e (RVs.mono c r)
    · exact .dic (.inr ⟨o, c.keep _ _ h n (fun _ z => by cases z)⟩) (fun z => n (c.nn _ _ z h fun _ z => by cases z)) e (RVs.mono c r)
  | _, _, .obj h n e r => .obj (c.keep _ _ h n (fun _ z => by cases z)) (fun z => n (c.nn _ _ z h fun _ z => by cases z)) e (RVs.mono c r)
  | _, _, .ref e => .ref (c.at_ _ _ e)
theorem RVs.mono (c : Car H N α H' N' α') : ∀ {ds : List D} {vs : List V}, RVs G H N α ds vs → RVs G H' N' α' ds vs
  | _, _, .nil => .nil
  | _, _, .cons h r => .cons (RV.mono c h) (RVs.mono c r)
end
theorem RVs.length : ∀ {ds : List D} {vs : List V}, RVs G H N α ds vs → ds.length = vs.length
  | _, _, .nil => rfl
  | _, _, .cons _ r => by simp [RVs.length r]
theorem RVs.get : ∀ {ds : List D} {vs : List V} {i : Nat} {d : D}, RVs G H N α ds vs → ds[i]? = some d → ∃ v, vs[i]? = some v ∧ RV G H N α d v
  | _, _, _, _, .nil, e => by simp at e
  | _, _, 0, _, .cons h r, e => by simp at e; subst e; exact ⟨_, rfl, h⟩
  | _, _, i + 1, _, .cons _ r, e => by
    obtain ⟨v, e1, e2⟩ := RVs.get (i := i) r (by simpa using e)
    exact ⟨v, by simpa using e1, e2⟩
theorem RVs.getV : ∀ {ds : List D} {vs : List V} {i : Nat} {v : V}, RVs G H N α ds vs → vs[i]? = some v → ∃ d, ds[i]? = some d ∧ RV G H N α d v
  | _, _, _, _, .nil, e => by simp at e
  | _, _, 0, _, .cons h r, e => by simp at e; subst e; exact ⟨_, rfl, h⟩
  | _, _, i + 1, _, .cons _ r, e => by
    obtain ⟨v, e1, e2⟩ := RVs.getV (i := i) r (by simpa using e)
    exact ⟨v, by simpa using e1, e2⟩
theorem RVs.append : ∀ {ds es : List D} {vs ws : List V}, RVs G H N α ds vs → RVs G H N α es ws → RVs G H N α (ds ++ es) (vs ++ ws)
  | _, _, _, _, .nil, s => s
  | _, _, _, _, .cons h r, s => .cons h (RVs.append r s)
theorem RVs.set {d : D} {v : V} (hd : RV G H N α d v) : ∀ {ds : List D} {vs : List V} (i : Nat), RVs G H N α ds vs → RVs G H N α (ds.set i d) (vs.set i v)
  | _, _, _, .nil => .nil
  | _, _, 0, .cons _ r => .cons hd r
  | _, _, i + 1, .cons h r => .cons h (RVs.set hd i r)
theorem RVs.take : ∀ {ds : List D} {vs : List V} (n : Nat), RVs G H N α ds vs → RVs G H N α (ds.take n) (vs.take n)
  | _, _, 0, _ => .nil
  | _, _, _ + 1, .nil => .nil
  | _, _, n + 1, .cons h r => .cons h (RVs.take n r)
theorem RVs.drop : ∀ {ds : List D} {vs : List V} (n : Nat), RVs G H N α ds vs → RVs G H N α (ds.drop n) (vs.drop n)
  | _, _, 0, r => r
  | _, _, _ + 1, .nil => .nil
  | _, _, n + 1, .cons _ r => RVs.drop n r
theorem RVs.rev : ∀ {ds : List D} {vs : List V}, RVs G H N α ds vs → RVs G H N α ds.reverse vs.reverse
  | _, _, .nil => .nil
  | _, _, .cons h r => by
    rw [List.reverse_cons, List.reverse_cons]
    exact (RVs.rev r).append (.cons h .nil)
theorem CR.mono (c : Car H N α H' N' α') {a : Addr} {x : Cell} {o : HO} (e : H a = some o) (e' : H' a = H a) (h : CR G H N α a x) : CR G H' N' α' a x := by
  cases x with
  | lst ds => obtain ⟨xs, e1, r⟩ := h; exact ⟨xs, by rw [e', e1], r.mono c⟩
  | dic ks ds => obtain ⟨kvs, e1, e2, r⟩ := h; exact ⟨kvs, by rw [e', e1], e2, r.mono c⟩
  | obj k fs ds => obtain ⟨dx, kvs, e1, e2, r⟩ := h; exact ⟨dx, kvs, by rw [e', e1], e2, r.mono c⟩

/-- something new, not live, is laid at p -/
theorem Stp.laid {p : Addr} {o : HO} (hp : H p = none) : Stp H N S α (upd H p o) N S α := by
  have ne : ∀ b o', H b = some o' → b ≠ p := fun b o' e z => by rw [z, hp] at e; cases e
  refine ⟨fun b o' e _ _ => by rw [upd_ne (ne b _ e)]; exact e, fun b o' e n => ⟨o', by rw [upd_ne (ne b _ e)]; exact e, n⟩, fun _ h => .inl h, fun _ h _ => h, fun _ h => .inl h, ⟨[], by simp⟩, fun _ _ h => .inl h⟩
theorem ST.laid (h : ST G H N S α) {p : Addr} {o : HO} (hp : H p = none) : ST G (upd H p o) N S α := by
  have ne : ∀ b o', H b = some o' → b ≠ p := fun b o' e z => by rw [z, hp] at e; cases e
  have st : Stp H N S α (upd H p o) N S α := Stp.laid hp
  have c := st.car h
  refine ⟨h.len, fun n x e => ?_, h.nd, fun b n => ?_, fun n a e => ?_, h.tab.ext fun b o' e => by rw [upd_ne (ne b _ e)]; exact e⟩
  · obtain ⟨a, e1, e2, e3⟩ := h.cell n x e
    obtain ⟨o', e4, _⟩ := h.alv n a e1
    exact ⟨a, e1, e2, e3.mono c e4 (upd_ne (ne a _ e4))⟩
  · obtain ⟨o', e, nt⟩ := h.trk b n
    exact ⟨o', by rw [upd_ne (ne b _ e)]; exact e, nt⟩
  · obtain ⟨o', e', nt⟩ := h.alv n a e
    exact ⟨o', by rw [upd_ne (ne a _ e')]; exact e', nt⟩
end
/-- where one stands -/
structure Pt where
  H : Hp
  N : Addr → Prop
  S : Store
  α : List Addr
def Pt.ok (G : Gb) (p : Pt) : Prop := ST G p.H p.N p.S p.α
def Pt.to (p q : Pt) : Prop := Stp p.H p.N p.S p.α q.H q.N q.S q.α
/-- an exception that is at hand in a suite: the slot of its name, its object, its dict, its class, its fields -/
structure Xc where
  slot : Nat
  a : Addr
  d : Option Addr
  c : Nat
  fs : List Nat
  vs : List D
/-- a lambda that is at hand in the slot 0: its object, its code, its name; where it was handed over -/
structure Tc where
  f : Addr
  c : Addr
  q : Str
  p : Pt
structure Gn extends Gb where
  cx : Option Xc := none
  th : Option Tc := none
instance : CoeOut Gn Gb := ⟨Gn.toGb⟩
def Gn.okS (G : Gn) (j : Nat) : Prop := (∀ c, G.cx = some c → c.slot ≠ j) ∧ ∀ t, G.th = some t → 0 ≠ j
end EV
set_option Elab.async false
set_option linter.all false
set_option maxRecDepth 100000
/-! EV, part B: the small syntax and its evaluator. -/
namespace EV
open PySem L2

/-! ### results -/
inductive Rs (β : Type) where
  | ok (a : β) (S : Store) | exc (c : Nat) (fs : List Nat) (vs : List D) (S : Store) | stuck
def Rs.bind {β γ : Type} (r : Rs β) (k : β → Store → Rs γ) : Rs γ := match r with
  | .ok a S => k a S
  | .exc c fs vs S => .exc c fs vs S
  | .stuck => .stuck
def Rs.of {β : Type} (S : Store) : Option β → Rs β
  | some a => .ok a S
  | none => .stuck
@[simp] theorem Rs.bind_ok {β γ : Type} (a : β) (S : Store) (k : β → Store → Rs γ) : (Rs.ok a S).bind k = k a S := rfl
@[simp] theorem Rs.bind_exc {β γ : Type} (c : Nat) (fs : List Nat) (vs : List D) (S : Store) (k : β → Store → Rs γ) : (Rs.exc c fs vs S : Rs β).bind k = .exc c fs vs S := rfl
@[simp] theorem Rs.bind_stuck {β γ : Type} (k : β → Store → Rs γ) : (Rs.stuck : Rs β).bind k = .stuck := rfl
@[simp] theorem Rs.of_some {β : Type} (S : Store) (a : β) : Rs.of S (some a) = .ok a S := rfl
@[simp] theorem Rs.of_none {β : Type} (S : Store) : Rs.of S (none : Option β) = .stuck := rfl

/-! ### looking at values -/
def cellOf (S : Store) (n : Nat) : Option Cell := (S[n]?).join
/-- the items of a list or tuple -/
def seqOf (S : Store) : D → Option (List D)
  | .tup xs => some xs
  | .lst xs => some xs
  | .scr xs => some xs
  | .ref n => match cellOf S n with
    | some (.lst xs) => some xs
    | _ => none
  | _ => none
/-- .. of a list -/
def lstOf (S : Store) : D → Option (List D)
  | .lst xs => some xs
  | .ref n => match cellOf S n with
    | some (.lst xs) => some xs
    | _ => none
  | _ => none
def dicOf (S : Store) : D → Option (List Key × List D)
  | .dic ks vs => some (ks, vs)
  | .ref n => match cellOf S n with
    | some (.dic ks vs) => some (ks, vs)
    | _ => none
  | _ => none
def objOf (S : Store) : D → Option (Nat × List Nat × List D)
  | .obj c fs vs => some (c, fs, vs)
  | .ref n => match cellOf S n with
    | some (.obj c fs vs) => some (c, fs, vs)
    | _ => none
  | _ => none
def fieldOf : List Nat → List D → Nat → Option D
  | f :: fs, v :: vs, g => if f = g then some v else fieldOf fs vs g
  | _, _, _ => none
def putField : List Nat → List D → Nat → D → List Nat × List D
  | f :: fs, v :: vs, g, x => if f = g then (f :: fs, x :: vs) else (f :: (putField fs vs g x).1, v :: (putField fs vs g x).2)
  | _, _, g, x => ([g], [x])
def keyOf : D → Option Key
  | .int i => some (.inl i)
  | .str s => some (.inr s)
  | _ => none
def dKey : Key → D
  | .inl i => .int i
  | .inr s => .str s
def lookKV : List Key → List D → Key → Option D
  | k :: ks, v :: vs, j => if k = j then some v else lookKV ks vs j
  | _, _, _ => none
def replKV : List Key → List D → Key → D → List D
  | k :: ks, v :: vs, j, x => (if k = j then x else v) :: replKV ks vs j x
  | _, _, _, _ => []
def putKV (ks : List Key) (vs : List D) (j : Key) (x : D) : List Key × List D :=
  if (ks.any fun k => decide (k = j)) = true then (ks, replKV ks vs j x) else (ks ++ [j], vs ++ [x])
def truth (S : Store) : D → Option Bool
  | .non => some false
  | .bl b => some b
  | .int i => some (i != 0)
  | .str s => if s.length ≤ sizeLine then some (s.length != 0) else none
  | d => match seqOf S d with
    | some xs => some !xs.isEmpty
    | none => none
/-- data as the library's == compares it -/
def deep (S : Store) : Nat → D → Option PyData
  | 0, _ => none
  | _ + 1, .non => some .none
  | _ + 1, .bl b => some (.bool b)
  | _ + 1, .int i => some (.int i)
  | _ + 1, .str s => some (.str s)
  | f + 1, .tup xs => (xs.mapM (deep S f)).map .tuple
  | f + 1, .lst xs => (xs.mapM (deep S f)).map .list
  | f + 1, .ref n => match cellOf S n with
    | some (.lst xs) => (xs.mapM (deep S f)).map .list
    | _ => none
  | _ + 1, _ => none
def eqD (S : Store) (a b : D) : Option Bool := match deep S 60 a, deep S 60 b with
  | some x, some y => if SeqAt.shaped x && SeqAt.shaped y then some (PyData.eqv x y) else none
  | _, _ => none

/-! ### the syntax -/
inductive O1 where
  | neg | len | tuple | int | str | sum | all | any | abs
  deriving DecidableEq
inductive O2 where
  | add | sub | mul | fdiv | mod | pow | eq | ne | lt | le | gt | ge | in_ | nin | is_ | isn | idx | max2 | min2
  deriving DecidableEq
inductive Ty where
  | int | str | bool | list | tuple | dict | own (c : Nat)
  deriving DecidableEq
inductive OM where
  | append | extend | pop0 | pop1
  deriving DecidableEq
mutual
inductive ME where
  | c (d : D) | v (i : Nat) | g (n : Nat)
  | o1 (o : O1) (a : ME) | o2 (o : O2) (a b : ME)
  | isi (a : ME) (ts : List Ty)
  | and_ (a b : ME) | or_ (a b : ME) | not_ (a : ME) | ite (c a b : ME)
  | tup (es : MEs)
  | mk (live : Bool) (e : MC)
  | addD (live : Bool) (a b : ME) | mulD (live : Bool) (a b : ME) | slD (live : Bool) (a : ME) (lo hi : MO) | revL (live : Bool) (a : ME)
  | att (a : ME) (f : Nat)
  | call (f : Nat) (args : MEs) | new (c : Nat) (args : MEs) | meth (a : ME) (m : Nat) (args : MEs)
  | mut (o : OM) (a : ME) (args : MEs)
  | thunk (f : Nat) (body : ME) | callP | exf (f : Nat) | bad
/-- what makes a list or a dict -/
inductive MC where
  | disp (es : MEs) | lof (a : ME) | ddisp (kvs : MKs) | split (a b : ME)
  | comp (elt : ME) (tg : MT) (it : MI) (cond : MO) (own : List Nat)
inductive MEs where
  | nil | cons (e : ME) (es : MEs)
inductive MKs where
  | nil | cons (k v : ME) (r : MKs)
inductive MO where
  | none | some (e : ME)
inductive MI where
  | e (a : ME) | range1 (a : ME) | range2 (a b : ME) | enum (a : ME) | zip (a b : ME)
inductive MT where
  | v (i : Nat) | t (ts : MTs)
inductive MTs where
  | nil | cons (t : MT) (ts : MTs)
end
/-! ### operators by values -/
def intOf : D → Option Int
  | .int i => some i
  | _ => none
def blOf : D → Option Bool
  | .bl b => some b
  | _ => none
def cutL {α : Type} (xs : List α) (lo hi : Option Int) : List α := (xs.drop (HT.sIx xs.length 0 lo)).take (HT.sIx xs.length xs.length hi - HT.sIx xs.length 0 lo)
def o1 (S : Store) : O1 → D → Option D
  | .neg, .int i => some (.int (-i))
  | .len, .str s => if s.length ≤ sizeLine then some (.int s.length) else none
  | .len, d => match seqOf S d with
    | some xs => some (.int xs.length)
    | none => match dicOf S d with
      | some (ks, _) => some (.int ks.length)
      | none => none
  | .tuple, d => (seqOf S d).map .tup
  | .int, .int i => some (.int i)
  | .int, .bl b => some (.int (if b then 1 else 0))
  | .str, .int i => if i.natAbs.log2 < 1920 then some (.str (toString i)) else none
  | .str, .str s => some (.str s)
  | .abs, .int i => some (.int (if i < 0 then -i else i))
  | .sum, d => match lstOf S d with
    | some xs => (xs.mapM intOf).map fun is => .int is.sum
    | none => none
  | .all, d => match lstOf S d with
    | some xs => (xs.mapM blOf).map fun bs => .bl (bs.all id)
    | none => none
  | .any, d => match lstOf S d with
    | some xs => (xs.mapM blOf).map fun bs => .bl (bs.any id)
    | none => none
  | _, _ => none
def small64 (i : Int) : Bool := decide (-(2 ^ 64) < i) && decide (i < 2 ^ 64)
def strIn (a b : Str) : Bool := !(Builtin.Str.occurrences b a 0 b.length 1).isEmpty
/-- whether a is b, of what the laws ask -/
def isNonD : D → Bool
  | .non => true
  | _ => false
def isBlD : D → Bool → Bool
  | .bl a, b => decide (a = b)
  | _, _ => false
def isD : D → D → Option Bool
  | d, .non => some (isNonD d)
  | d, .bl b => some (isBlD d b)
  | _, _ => none
def inD (S : Store) (x y : D) : Option Bool := match dicOf S y with
  | some (ks, vs) => match keyOf x with
    | some k => some (lookKV ks vs k).isSome
    | none => none
  | none => match y with
    | .str b => match x with
      | .str a => some (strIn a b)
      | _ => none
    | y => match deep S 60 x, deep S 60 y with
      | some d, some (.list ds) => if SeqAt.shaped d && SeqAt.shaped (.list ds) then some (ds.any fun z => PyData.eqv z d) else none
      | some d, some (.tuple ds) => if SeqAt.shaped d && SeqAt.shaped (.tuple ds) then some (ds.any fun z => PyData.eqv z d) else none
      | _, _ => none
def idxD (S : Store) (d k : D) : Option D := match seqOf S d with
  | some xs => match k with
    | .int i => atI xs i
    | _ => none
  | none => match dicOf S d with
    | some (ks, vs) => match keyOf k with
      | some q => lookKV ks vs q
      | none => none
    | none => match d, k with
      | .str s, .int i => if s.length ≤ sizeLine then (atI s.cps.toList i).map fun c => .str ⟨#[c]⟩ else none
      | _, _ => none
def o2 (S : Store) : O2 → D → D → Option D
  | .add, .int i, .int j => some (.int (i + j))
  | .add, .str a, .str b => if a.length + b.length ≤ sizeLine then some (.str (a ++ b)) else none
  | .add, .tup a, .tup b => if a.length + b.length ≤ sizeLine then some (.tup (a ++ b)) else none
  | .sub, .int i, .int j => some (.int (i - j))
  | .mul, .int i, .int j => if small64 i || small64 j then some (.int (i * j)) else none
  | .mul, .tup xs, .int k => if 2 ≤ k ∧ k ≤ 1000 ∧ xs.length ≤ 1000 ∧ xs.length ≠ 0 then some (.tup (List.replicate k.toNat xs).flatten) else none
  | .mul, .str s, .int k => if -1000 ≤ k ∧ k ≤ 1000 ∧ s.length ≤ 1000 then some (.str (Txt.mul s k)) else none
  | .fdiv, .int i, .int j => if 0 < j ∧ j < 1073741824 then some (.int (i / j)) else none
  | .mod, .int i, .int j => if 0 < j then some (.int (i % j)) else none
  | .pow, .int i, .int j => if 0 ≤ j ∧ j ≤ 1000000 ∧ i.natAbs < 2 ^ 64 then some (.int (i ^ j.toNat)) else none
  | .eq, a, b => (eqD S a b).map .bl
  | .ne, a, b => (eqD S a b).map fun r => .bl (!r)
  | .lt, .int i, .int j => some (.bl (decide (i < j)))
  | .le, .int i, .int j => some (.bl (decide (i ≤ j)))
  | .gt, .int i, .int j => some (.bl (decide (j < i)))
  | .ge, .int i, .int j => some (.bl (decide (j ≤ i)))
  | .in_, a, b => (inD S a b).map .bl
  | .nin, a, b => (inD S a b).map fun r => .bl (!r)
  | .is_, a, b => (isD a b).map .bl
  | .isn, a, b => (isD a b).map fun r => .bl (!r)
  | .idx, d, k => idxD S d k
  | .max2, .int i, .int j => some (.int (if j > i then j else i))
  | .min2, .int i, .int j => some (.int (if j < i then j else i))
  | _, _, _ => none
/-- kinds of values -/
inductive Tg where
  | non | int | str | bool | list | tuple | dict | own (c : Nat)
  deriving DecidableEq
def isTag : Tg → Ty → Bool
  | .int, .int => true
  | .bool, .int => true
  | .bool, .bool => true
  | .str, .str => true
  | .list, .list => true
  | .tuple, .tuple => true
  | .dict, .dict => true
  | .own c, .own d => c == d
  | _, _ => false
def cellTag (cls : Nat → Bool) : Cell → Option Tg
  | .lst _ => some .list
  | .dic .. => some .dict
  | .obj c _ _ => if cls c then some (.own c) else none
def tagOf (cls : Nat → Bool) (S : Store) : D → Option Tg
  | .non => some .non
  | .bl _ => some .bool
  | .int _ => some .int
  | .str _ => some .str
  | .tup _ => some .tuple
  | .lst _ => some .list
  | .scr _ => none
  | .dic .. => some .dict
  | .obj c _ _ => if cls c then some (.own c) else none
  | .ref n => (cellOf S n).bind (cellTag cls)
def slV (S : Store) (d : D) (lo hi : Option Int) : Option D := match d with
  | .str s => if s.length ≤ sizeLine then some (.str (cutS s lo hi)) else none
  | .tup xs => some (.tup (cutL xs lo hi))
  | _ => none
mutual
def bindT : MT → D → List (Option D) → Option (List (Option D))
  | .v i, d, ρ => if i < ρ.length then some (ρ.set i (some d)) else none
  | .t ts, .tup ds, ρ => bindTs ts ds ρ
  | _, _, _ => none
def bindTs : MTs → List D → List (Option D) → Option (List (Option D))
  | .nil, [], ρ => some ρ
  | .cons t ts, d :: ds, ρ => match bindT t d ρ with
    | some ρ' => bindTs ts ds ρ'
    | none => none
  | _, _, _ => none
end
def wipeD (ρ : List (Option D)) : List Nat → List (Option D)
  | [] => ρ
  | v :: vs => (wipeD ρ vs).set v none
def small62 (i : Int) : Bool := decide (-(2 ^ 62) ≤ i) && decide (i < 2 ^ 62)
def om (S : Store) (n : Nat) (o : OM) (xs : List D) (args : List D) : Rs D := match o, args with
  | .append, [d] => if xs.length < sizeLine then .ok .non (S.set n (some (.lst (xs ++ [d])))) else .stuck
  | .extend, [d] => match lstOf S d with
    | some ys => if xs.length + ys.length ≤ sizeLine then .ok .non (S.set n (some (.lst (xs ++ ys)))) else .stuck
    | none => .stuck
  | .pop0, [] => match xs[xs.length - 1]? with
    | some y => .ok y (S.set n (some (.lst xs.dropLast)))
    | none => .stuck
  | .pop1, [.int i] => if small62 i then (match ixN xs.length i with
    | some k => match xs[k]? with
      | some y => .ok y (S.set n (some (.lst (xs.eraseIdx k))))
      | none => .stuck
    | none => .stuck) else .stuck
  | _, _ => .stuck

/-! ### the evaluator -/
structure Pg where
  glob : Nat → Option D
  init : Nat → Option Nat
  meth : Nat → Nat → Option Nat
  exf : Nat → Option (List Nat)
  dfl : Nat → Nat → List D
  cls : Nat → Bool
  fok : Nat → Nat → Bool
  many : Nat → Nat
structure Ec where
  P : Pg
  fn : Nat → List D → Store → Rs D
  fnT : Nat → (Store → Rs D) → Store → Rs D
  th : Option (Store → Rs D)
  cur : Option (Nat × List Nat × List D)
def compL (body : D → Store → Rs (Option D)) : List D → Store → List D → Rs Cell
  | [], S, acc => .ok (.lst acc) S
  | x :: xs, S, acc => match body x S with
    | .ok (some d) S1 => compL body xs S1 (acc ++ [d])
    | .ok none S1 => compL body xs S1 acc
    | _ => .stuck
def toD : Cell → D
  | .lst xs => .lst xs
  | .dic ks vs => .dic ks vs
  | .obj c fs vs => .obj c fs vs
def mkD (live : Bool) (x : Cell) (S : Store) : Rs D := if live then .ok (.ref S.length) (S ++ [some x]) else .ok (toD x) S
def rangeD (lo : Int) (n : Nat) : List D := (List.range n).map fun i => .int (lo + (i : Nat))
/-- the items of what is walked, and the live lists that are locked meanwhile -/
def iterOf (S : Store) (d : D) : Option (List D × List Nat) := match d with
  | .str s => some (s.cps.toList.map fun c => .str ⟨#[c]⟩, [])
  | .ref n => match cellOf S n with
    | some (.lst xs) => some (xs, [n])
    | _ => none
  | d => (seqOf S d).map fun xs => (xs, [])
def iterL (S : Store) (d : D) : Option (List D × List Nat) := match d with
  | .ref n => match cellOf S n with
    | some (.lst xs) => some (xs, [n])
    | _ => none
  | .lst xs => some (xs, [])
  | .tup xs => some (xs, [])
  | .scr xs => some (xs, [])
  | _ => none
def isTupD : D → Bool
  | .tup _ => true
  | _ => false
def lock (S : Store) : List Nat → Store
  | [] => S
  | n :: ns => (lock S ns).set n none
/-- the locked ones as they stood in S -/
def unlock (S S' : Store) : List Nat → Store
  | [] => S'
  | n :: ns => (unlock S S' ns).set n (S[n]?).join
mutual
def ev (E : Ec) : ME → List (Option D) → Store → Rs D
  | .c d, _, S => .ok d S
  | .v i, ρ, S => Rs.of S (ρ[i]?).join
  | .g n, _, S => Rs.of S (E.P.glob n)
  | .o1 o a, ρ, S => (ev E a ρ S).bind fun x S1 => Rs.of S1 (o1 S1 o x)
  | .o2 o a b, ρ, S => (ev E a ρ S).bind fun x S1 => (ev E b ρ S1).bind fun y S2 => Rs.of S2 (o2 S2 o x y)
  | .isi a ts, ρ, S => (ev E a ρ S).bind fun x S1 => match tagOf E.P.cls S1 x with
    | some tg => .ok (.bl (ts.any (isTag tg))) S1
    | none => .stuck
  | .and_ a b, ρ, S => (ev E a ρ S).bind fun x S1 => match truth S1 x with
    | some true => ev E b ρ S1
    | some false => .ok x S1
    | none => .stuck
  | .or_ a b, ρ, S => (ev E a ρ S).bind fun x S1 => match truth S1 x with
    | some true => .ok x S1
    | some false => ev E b ρ S1
    | none => .stuck
  | .not_ a, ρ, S => (ev E a ρ S).bind fun x S1 => Rs.of S1 ((truth S1 x).map fun b => .bl (!b))
  | .ite c a b, ρ, S => (ev E c ρ S).bind fun x S1 => match truth S1 x with
    | some true => ev E a ρ S1
    | some false => ev E b ρ S1
    | none => .stuck
  | .tup es, ρ, S => (evs E es ρ S).bind fun ds S1 => if ds.length ≤ sizeLine then .ok (.tup ds) S1 else .stuck
  | .mk live e, ρ, S => (evC E e ρ S).bind fun x S1 => mkD live x S1
  | .addD live a b, ρ, S => (ev E a ρ S).bind fun x S1 => (ev E b ρ S1).bind fun y S2 => match lstOf S2 x, lstOf S2 y with
    | some xs, some ys => if xs.length + ys.length ≤ sizeLine then mkD live (.lst (xs ++ ys)) S2 else .stuck
    | _, _ => Rs.of S2 (o2 S2 .add x y)
  | .mulD live a b, ρ, S => (ev E a ρ S).bind fun x S1 => (ev E b ρ S1).bind fun y S2 => match lstOf S2 x, y with
    | some xs, .int k => if small62 k && decide (xs.length * k.toNat ≤ sizeLine) then mkD live (.lst (List.replicate k.toNat xs).flatten) S2 else .stuck
    | _, _ => Rs.of S2 (o2 S2 .mul x y)
  | .slD live a lo hi, ρ, S => (ev E a ρ S).bind fun x S1 => (evO E lo ρ S1).bind fun l S2 => (evO E hi ρ S2).bind fun h S3 => match lstOf S3 x with
    | some xs => mkD live (.lst (cutL xs l h)) S3
    | none => Rs.of S3 (slV S3 x l h)
  | .revL live a, ρ, S => (ev E a ρ S).bind fun x S1 => match lstOf S1 x with
    | some xs => mkD live (.lst xs.reverse) S1
    | none => .stuck
  | .att a f, ρ, S => (ev E a ρ S).bind fun x S1 => match objOf S1 x with
    | some (c, fs, vs) => if (E.P.cls c && E.P.fok c f) = true then Rs.of S1 (fieldOf fs vs f) else .stuck
    | none => .stuck
  | .call f args, ρ, S => (evs E args ρ S).bind fun ds S1 => if (ds ++ E.P.dfl f ds.length).length = E.P.many f then E.fn f (ds ++ E.P.dfl f ds.length) S1 else .stuck
  | .new c args, ρ, S => (evs E args ρ S).bind fun ds S1 => match E.P.init c with
    | some f => if (ds ++ E.P.dfl f (ds.length + 1)).length + 1 = E.P.many f then
        (E.fn f (.ref S1.length :: (ds ++ E.P.dfl f (ds.length + 1))) (S1 ++ [some (.obj c [] [])])).bind fun r S2 => match r with
        | .non => .ok (.ref S1.length) S2
        | _ => .stuck
      else .stuck
    | none => .stuck
  | .meth a m args, ρ, S => (ev E a ρ S).bind fun x S1 => match objOf S1 x with
    | some (c, fs, vs) => match fieldOf fs vs m with
      | none => match E.P.meth c m with
        | some f => (evs E args ρ S1).bind fun ds S2 => if (ds ++ E.P.dfl f (ds.length + 1)).length + 1 = E.P.many f then E.fn f (x :: (ds ++ E.P.dfl f (ds.length + 1))) S2 else .stuck
        | none => .stuck
      | some _ => .stuck
    | none => .stuck
  | .mut o a args, ρ, S => (ev E a ρ S).bind fun x S1 => match x with
    | .ref n => match cellOf S1 n with
      | some (.lst _) => (evs E args ρ S1).bind fun ds S2 => match cellOf S2 n with
        | some (.lst xs) => om S2 n o xs ds
        | _ => .stuck
      | _ => .stuck
    | _ => .stuck
  | .thunk f body, ρ, S => E.fnT f (fun S' => ev E body ρ S') S
  | .callP, _, S => match E.th with
    | some t => t S
    | none => .stuck
  | .exf f, _, S => match E.cur with
    | some (c, fs, vs) => if (E.P.fok c f) = true then Rs.of S (fieldOf fs vs f) else .stuck
    | none => .stuck
  | .bad, _, _ => .stuck
def evs (E : Ec) : MEs → List (Option D) → Store → Rs (List D)
  | .nil, _, S => .ok [] S
  | .cons e es, ρ, S => (ev E e ρ S).bind fun d S1 => (evs E es ρ S1).bind fun ds S2 => .ok (d :: ds) S2
def evO (E : Ec) : MO → List (Option D) → Store → Rs (Option Int)
  | .none, _, S => .ok none S
  | .some e, ρ, S => (ev E e ρ S).bind fun d S1 => match d with
    | .int i => .ok (some i) S1
    | _ => .stuck
def evI (E : Ec) : MI → List (Option D) → Store → Rs (List D × List Nat)
  | .e a, ρ, S => (ev E a ρ S).bind fun x S1 => Rs.of S1 (iterOf S1 x)
  | .range1 a, ρ, S => (ev E a ρ S).bind fun x S1 => match x with
    | .int j => if small62 j then .ok (rangeD 0 j.toNat, []) S1 else .stuck
    | _ => .stuck
  | .range2 a b, ρ, S => (ev E a ρ S).bind fun x S1 => (ev E b ρ S1).bind fun y S2 => match x, y with
    | .int i, .int j => if small62 i && small62 j then .ok (rangeD i (j - i).toNat, []) S2 else .stuck
    | _, _ => .stuck
  | .enum a, ρ, S => (ev E a ρ S).bind fun x S1 => match iterL S1 x with
    | some (xs, l) => .ok (xs.mapIdx fun i x => .tup [.int (i : Nat), x], l) S1
    | none => .stuck
  | .zip a b, ρ, S => (ev E a ρ S).bind fun x S1 => (ev E b ρ S1).bind fun y S2 => if isTupD x = isTupD y then (match iterL S2 x, iterL S2 y with
    | some (xs, l), some (ys, m) => .ok ((xs.zip ys).map fun p => .tup [p.1, p.2], l ++ m) S2
    | _, _ => .stuck) else .stuck
def evC (E : Ec) : MC → List (Option D) → Store → Rs Cell
  | .disp es, ρ, S => (evs E es ρ S).bind fun ds S1 => if ds.length ≤ sizeLine then .ok (.lst ds) S1 else .stuck
  | .lof a, ρ, S => (ev E a ρ S).bind fun x S1 => Rs.of S1 ((seqOf S1 x).map .lst)
  | .ddisp kvs, ρ, S => (evKV E kvs ρ S).bind fun r S1 => if r.length ≤ 15 then .ok (.dic (r.foldl (fun p kv => putKV p.1 p.2 kv.1 kv.2) ([], [])).1 (r.foldl (fun p kv => putKV p.1 p.2 kv.1 kv.2) ([], [])).2) S1 else .stuck
  | .split a b, ρ, S => (ev E a ρ S).bind fun x S1 => match x with
    | .str s => (ev E b ρ S1).bind fun y S2 => match y with
      | .str t => if (t.length != 0) && decide (s.length + 2 ≤ sizeLine) then .ok (.lst ((Txt.split s t).map .str)) S2 else .stuck
      | _ => .stuck
    | _ => .stuck
  | .comp elt tg it cond own, ρ, S => (evI E it ρ S).bind fun r S1 => if r.1.length ≤ sizeLine then
      (compL (fun x S' => match bindT tg x (wipeD ρ own) with
        | some ρ' => (evCond E cond ρ' S').bind fun b S2 => match b with
          | true => (ev E elt ρ' S2).bind fun d S3 => .ok (some d) S3
          | false => .ok none S2
        | none => .stuck) r.1 (lock S1 r.2) []).bind fun x S2 => .ok x (unlock S1 S2 r.2)
    else .stuck
def evCond (E : Ec) : MO → List (Option D) → Store → Rs Bool
  | .none, _, S => .ok true S
  | .some e, ρ, S => (ev E e ρ S).bind fun d S1 => Rs.of S1 (truth S1 d)
def evKV (E : Ec) : MKs → List (Option D) → Store → Rs (List (Key × D))
  | .nil, _, S => .ok [] S
  | .cons k v kvs, ρ, S => (ev E k ρ S).bind fun x S1 => (ev E v ρ S1).bind fun y S2 => (evKV E kvs ρ S2).bind fun r S3 => match keyOf x with
    | some q => .ok ((q, y) :: r) S3
    | none => .stuck
end
end EV
set_option Elab.async false
set_option linter.all false
set_option maxRecDepth 100000
/-! EV, part S: statements. -/
namespace EV
open PySem L2
abbrev Env' := List (Option D)
inductive Fl where
  | nx (ρ : Env') | rt (d : D) | bk (ρ : Env') | ct (ρ : Env')
inductive Ro where
  | fl (f : Fl) (S : Store) | exc (ρ : Env') (c : Nat) (fs : List Nat) (vs : List D) (S : Store) | stuck
def Rs.ro {β : Type} (r : Rs β) (ρ : Env') (k : β → Store → Ro) : Ro := match r with
  | .ok a S => k a S
  | .exc c fs vs S => .exc ρ c fs vs S
  | .stuck => .stuck
@[simp] theorem Rs.ro_ok {β : Type} (a : β) (S : Store) (ρ : Env') (k : β → Store → Ro) : (Rs.ok a S).ro ρ k = k a S := rfl
@[simp] theorem Rs.ro_exc {β : Type} (c : Nat) (fs : List Nat) (vs : List D) (S : Store) (ρ : Env') (k : β → Store → Ro) : (Rs.exc c fs vs S : Rs β).ro ρ k = .exc ρ c fs vs S := rfl
@[simp] theorem Rs.ro_stuck {β : Type} (ρ : Env') (k : β → Store → Ro) : (Rs.stuck : Rs β).ro ρ k = .stuck := rfl
def Ro.nx (r : Ro) (k : Env' → Store → Ro) : Ro := match r with
  | .fl (.nx ρ) S => k ρ S
  | r => r
@[simp] theorem Ro.nx_nx (ρ : Env') (S : Store) (k : Env' → Store → Ro) : (Ro.fl (.nx ρ) S).nx k = k ρ S := rfl
@[simp] theorem Ro.nx_rt (d : D) (S : Store) (k : Env' → Store → Ro) : (Ro.fl (.rt d) S).nx k = .fl (.rt d) S := rfl
@[simp] theorem Ro.nx_bk (ρ : Env') (S : Store) (k : Env' → Store → Ro) : (Ro.fl (.bk ρ) S).nx k = .fl (.bk ρ) S := rfl
@[simp] theorem Ro.nx_ct (ρ : Env') (S : Store) (k : Env' → Store → Ro) : (Ro.fl (.ct ρ) S).nx k = .fl (.ct ρ) S := rfl
@[simp] theorem Ro.nx_exc (ρ : Env') (c : Nat) (fs : List Nat) (vs : List D) (S : Store) (k : Env' → Store → Ro) : (Ro.exc ρ c fs vs S).nx k = .exc ρ c fs vs S := rfl
@[simp] theorem Ro.nx_stuck (k : Env' → Store → Ro) : Ro.stuck.nx k = .stuck := rfl
def Ro.mapS (r : Ro) (g : Store → Store) : Ro := match r with
  | .fl f S => .fl f (g S)
  | .exc ρ c fs vs S => .exc ρ c fs vs (g S)
  | .stuck => .stuck
def whileL (c : Env' → Store → Rs Bool) (b : Env' → Store → Ro) : Nat → Env' → Store → Ro
  | 0, _, _ => .stuck
  | n + 1, ρ, S => (c ρ S).ro ρ fun t S1 => match t with
    | false => .fl (.nx ρ) S1
    | true => match b ρ S1 with
      | .fl (.nx ρ') S2 => whileL c b n ρ' S2
      | .fl (.ct ρ') S2 => whileL c b n ρ' S2
      | .fl (.bk ρ') S2 => .fl (.nx ρ') S2
      | r => r
def forL (tg : MT) (b : Env' → Store → Ro) : List D → Env' → Store → Ro
  | [], ρ, S => .fl (.nx ρ) S
  | x :: xs, ρ, S => match bindT tg x ρ with
    | none => .stuck
    | some ρ1 => match b ρ1 S with
      | .fl (.nx ρ') S2 => forL tg b xs ρ' S2
      | .fl (.ct ρ') S2 => forL tg b xs ρ' S2
      | .fl (.bk ρ') S2 => .fl (.nx ρ') S2
      | r => r
mutual
inductive MG where
  | v (i : Nat) | att (o : ME) (f : Nat) | ix (o i : ME) | t (ts : MGs)
inductive MGs where
  | nil | cons (t : MG) (ts : MGs)
end
mutual
inductive MS where
  | asg (t : MG) (e : ME)
  | par (is : List Nat) (es : MEs)
  | augv (i : Nat) (o : O2) (e : ME) | auga (a : ME) (f : Nat) (o : O2) (e : ME) | augx (a i : ME) (o : O2) (e : ME)
  | ex (e : ME) | ret (e : ME) | retN
  | if_ (c : ME) (a b : MB) | while_ (c : ME) (b : MB) | for_ (tg : MT) (it : MI) (b : MB)
  | brk | cont | pass
  | raise (c : Nat) (args : MEs)
  | try_ (b : MB) (hs : MHs)
inductive MB where
  | nil | cons (s : MS) (b : MB)
inductive MHs where
  | nil | cons (c : Nat) (slot : Option Nat) (b : MB) (hs : MHs)
end
/-- the store behind o.f = d -/
def setF (P : Pg) (S : Store) (x : D) (f : Nat) (d : D) : Option Store := match x with
  | .ref n => match cellOf S n with
    | some (.obj c fs vs) => if (P.cls c && P.fok c f && decide (fs.length < 900)) = true then some (S.set n (some (.obj c (putField fs vs f d).1 (putField fs vs f d).2))) else none
    | _ => none
  | _ => none
def isCls (S : Store) (x : D) (c : Nat) : Bool := match objOf S x with
  | some (k, _, _) => decide (k = c)
  | none => false
/-- behind o[i] = d -/
def setX (S : Store) (x i d : D) : Option Store := match x with
  | .ref n => match cellOf S n with
    | some (.lst xs) => match i with
      | .int j => match ixN xs.length j with
        | some k => some (S.set n (some (.lst (xs.set k d))))
        | none => none
      | _ => none
    | some (.dic ks vs) => match keyOf i with
      | some q => if ks.length < sizeLine then some (S.set n (some (.dic (putKV ks vs q d).1 (putKV ks vs q d).2))) else none
      | none => none
    | _ => none
  | _ => none
def aug (S : Store) (o : O2) (x y : D) : Option D := match o with
  | .add => o2 S .add x y
  | .sub => o2 S .sub x y
  | _ => none
mutual
/-- a target takes a value -/
def asg (E : Ec) : MG → D → Env' → Store → Rs Env'
  | .v i, d, ρ, S => if i < ρ.length then .ok (ρ.set i (some d)) S else .stuck
  | .att o f, d, ρ, S => (ev E o ρ S).bind fun x S1 => match setF E.P S1 x f d with
    | some S2 => .ok ρ S2
    | none => .stuck
  | .ix o i, d, ρ, S => (ev E o ρ S).bind fun x S1 => (ev E i ρ S1).bind fun y S2 => match setX S2 x y d with
    | some S3 => .ok ρ S3
    | none => .stuck
  | .t ts, d, ρ, S => match d with
    | .tup ds => asgs E ts ds ρ S
    | _ => .stuck
def asgs (E : Ec) : MGs → List D → Env' → Store → Rs Env'
  | .nil, [], ρ, S => .ok ρ S
  | .cons t ts, d :: ds, ρ, S => (asg E t d ρ S).bind fun ρ1 S1 => asgs E ts ds ρ1 S1
  | _, _, _, _ => .stuck
end
def wFuel : Nat := 1000000
/-- does a class fit a clause -/
def setAll : List Nat → List D → Env' → Option Env'
  | [], [], ρ => some ρ
  | i :: is, d :: ds, ρ => if i < ρ.length then setAll is ds (ρ.set i (some d)) else none
  | _, _, _ => none
def clr (slot : Option Nat) (ρ : Env') : Env' := match slot with
  | some i => ρ.set i none
  | none => ρ
def inSlot (slot : Option Nat) (ρ : Env') : Bool := match slot with
  | some i => decide (i < ρ.length)
  | none => true
mutual
def exec (E : Ec) (sub : Nat → Nat → Option Bool) : MS → Env' → Store → Ro
  | .asg t e, ρ, S => (ev E e ρ S).ro ρ fun d S1 => match asg E t d ρ S1 with
    | .ok ρ' S2 => .fl (.nx ρ') S2
    | _ => .stuck
  | .par is es, ρ, S => (evs E es ρ S).ro ρ fun ds S1 => match setAll is ds ρ with
    | some ρ' => .fl (.nx ρ') S1
    | none => .stuck
  | .augv i o e, ρ, S => match (ρ[i]?).join with
    | some x => (ev E e ρ S).ro ρ fun y S1 => match aug S1 o x y with
      | some z => if i < ρ.length then .fl (.nx (ρ.set i (some z))) S1 else .stuck
      | none => .stuck
    | none => .stuck
  | .auga a f o e, ρ, S => (ev E a ρ S).ro ρ fun x S1 => match objOf S1 x with
    | some (c, fs, vs) => if (E.P.cls c && E.P.fok c f) = true then match fieldOf fs vs f with
      | some y => (ev E e ρ S1).ro ρ fun z S2 => match aug S2 o y z with
        | some w => if isCls S2 x c = true then match setF E.P S2 x f w with
          | some S3 => .fl (.nx ρ) S3
          | none => .stuck
          else .stuck
        | none => .stuck
      | none => .stuck else .stuck
    | none => .stuck
  | .augx a i o e, ρ, S => (ev E a ρ S).ro ρ fun x S1 => (ev E i ρ S1).ro ρ fun k S2 => match o2 S2 .idx x k with
    | some y => (ev E e ρ S2).ro ρ fun z S3 => match aug S3 o y z with
      | some w => match setX S3 x k w with
        | some S4 => .fl (.nx ρ) S4
        | none => .stuck
      | none => .stuck
    | none => .stuck
  | .ex e, ρ, S => (ev E e ρ S).ro ρ fun _ S1 => .fl (.nx ρ) S1
  | .ret e, ρ, S => (ev E e ρ S).ro ρ fun d S1 => .fl (.rt d) S1
  | .retN, _, S => .fl (.rt .non) S
  | .if_ c a b, ρ, S => (ev E c ρ S).ro ρ fun x S1 => match truth S1 x with
    | some true => execs E sub a ρ S1
    | some false => execs E sub b ρ S1
    | none => .stuck
  | .while_ c b, ρ, S => whileL (fun ρ S => (ev E c ρ S).bind fun x S1 => Rs.of S1 (truth S1 x)) (fun ρ S => execs E sub b ρ S) wFuel ρ S
  | .for_ tg it b, ρ, S => (evI E it ρ S).ro ρ fun r S1 => (forL tg (fun ρ S => execs E sub b ρ S) r.1 ρ (lock S1 r.2)).mapS fun S2 => unlock S1 S2 r.2
  | .brk, ρ, S => .fl (.bk ρ) S
  | .cont, ρ, S => .fl (.ct ρ) S
  | .pass, ρ, S => .fl (.nx ρ) S
  | .raise c args, ρ, S => (evs E args ρ S).ro ρ fun ds S1 => match E.P.exf c with
    | some fs => if fs.length = ds.length then .exc ρ c fs.reverse ds.reverse S1 else .stuck
    | none => .stuck
  | .try_ b hs, ρ, S => match execs E sub b ρ S with
    | .exc ρ' c fs vs S' => handle E sub hs ρ' c fs vs S'
    | r => r
def execs (E : Ec) (sub : Nat → Nat → Option Bool) : MB → Env' → Store → Ro
  | .nil, ρ, S => .fl (.nx ρ) S
  | .cons s b, ρ, S => (exec E sub s ρ S).nx fun ρ' S' => execs E sub b ρ' S'
def handle (E : Ec) (sub : Nat → Nat → Option Bool) : MHs → Env' → Nat → List Nat → List D → Store → Ro
  | .nil, ρ, c, fs, vs, S => .exc ρ c fs vs S
  | .cons h slot b hs, ρ, c, fs, vs, S => match sub c h with
    | some true => if inSlot slot ρ = true then (match execs { E with cur := some (c, fs, vs) } sub b (clr slot ρ) S with
      | .fl (.nx ρ') S' => .fl (.nx (clr slot ρ')) S'
      | .fl (.ct ρ') S' => .fl (.ct (clr slot ρ')) S'
      | .fl (.bk ρ') S' => .fl (.bk (clr slot ρ')) S'
      | .fl (.rt d) S' => .fl (.rt d) S'
      | _ => .stuck) else .stuck
    | some false => handle E sub hs ρ c fs vs S
    | none => .stuck
end

/-! ### defs -/
/-- how a def's frame is told: as it is; of its own empty store; what it made is told by value behind it -/
inductive Md where
  | plain | pure | trim
  deriving DecidableEq
structure Fd where
  many : Nat          -- parameters
  slots : Nat
  body : MB
  mode : Md
mutual
/-- the live cells that a value names are below n -/
def lowD (n : Nat) : D → Bool
  | .non => true
  | .bl _ => true
  | .int _ => true
  | .str _ => true
  | .tup xs => lowDs n xs
  | .lst xs => lowDs n xs
  | .scr xs => lowDs n xs
  | .dic _ vs => lowDs n vs
  | .obj _ _ vs => lowDs n vs
  | .ref m => decide (m < n)
def lowDs (n : Nat) : List D → Bool
  | [] => true
  | d :: ds => lowD n d && lowDs n ds
end
def lowC (n : Nat) : Option Cell → Bool
  | none => true
  | some (.lst xs) => lowDs n xs
  | some (.dic _ vs) => lowDs n vs
  | some (.obj _ _ vs) => lowDs n vs
/-- live cells from n on told by value, for a value that leaves its frame -/
def outV (S : Store) (n : Nat) : Nat → D → Option D
  | 0, _ => none
  | f + 1, d => if lowD n d = true then some d else match d with
    | .tup xs => (xs.mapM (outV S n f)).map .tup
    | .lst xs => (xs.mapM (outV S n f)).map .lst
    | .scr xs => (xs.mapM (outV S n f)).map .scr
    | .dic ks vs => (vs.mapM (outV S n f)).map (.dic ks)
    | .obj c fs vs => (vs.mapM (outV S n f)).map (.obj c fs)
    | .ref m => match cellOf S m with
      | some (.lst xs) => (xs.mapM (outV S n f)).map .lst
      | some (.dic ks vs) => (vs.mapM (outV S n f)).map (.dic ks)
      | some (.obj c fs vs) => (vs.mapM (outV S n f)).map (.obj c fs)
      | none => none
    | _ => none
def flat : D → Bool
  | .non | .bl _ | .int _ | .str _ => true
  | _ => false
structure Prog where
  P : Pg
  sub : Nat → Nat → Option Bool
  fns : Nat → Option Fd
def bodyOf (r : Ro) : Rs D := match r with
  | .fl (.rt d) S => .ok d S
  | .fl (.nx _) S => .ok .non S
  | .exc _ c fs vs S => .exc c fs vs S
  | _ => .stuck
def fEnv (F : Fd) (ds : List D) : Env' := ds.map some ++ List.replicate (F.slots - ds.length) none
def outF : Nat := 60
/-- a def of its own frame: nothing live goes in or out -/
def pureOut (S : Store) (fl : Bool) (r : Rs D) : Rs D := match r with
  | .ok d S' => match outV S' 0 outF d with
    | some e => if (fl || flat e) = true then .ok e S else .stuck
    | none => .stuck
  | .exc c fs vs S' => match vs.mapM (outV S' 0 outF) with
    | some es => if (fl || es.all flat) = true then .exc c fs es S else .stuck
    | none => .stuck
  | .stuck => .stuck
/-- what a def made is told by value behind it -/
def trimOut (n : Nat) (r : Rs D) : Rs D := match r with
  | .ok d S' => match outV S' n outF d with
    | some e => if (S'.take n).all (lowC n) = true then .ok e (S'.take n) else .stuck
    | none => .stuck
  | .exc c fs vs S' => match vs.mapM (outV S' n outF) with
    | some es => if (S'.take n).all (lowC n) = true then .exc c fs es (S'.take n) else .stuck
    | none => .stuck
  | .stuck => .stuck
mutual
def fnk (G : Prog) : Nat → Nat → List D → Store → Rs D
  | 0, _, _, _ => .stuck
  | k + 1, f, ds, S => match G.fns f with
    | some F => if ds.length = F.many then
        (match F.mode with
        | .plain => bodyOf (execs ⟨G.P, fnk G k, fnT G k, none, none⟩ G.sub F.body (fEnv F ds) S)
        | .trim => trimOut S.length (bodyOf (execs ⟨G.P, fnk G k, fnT G k, none, none⟩ G.sub F.body (fEnv F ds) S))
        | .pure => match ds.mapM (outV S 0 outF) with
          | some es => pureOut S (lowDs 0 ds) (bodyOf (execs ⟨G.P, fnk G k, fnT G k, none, none⟩ G.sub F.body (fEnv F es) []))
          | none => .stuck)
      else .stuck
    | none => .stuck
def fnT (G : Prog) : Nat → Nat → (Store → Rs D) → Store → Rs D
  | 0, _, _, _ => .stuck
  | k + 1, f, t, S => match G.fns f with
    | some F => bodyOf (execs ⟨G.P, fnk G k, fnT G k, some t, none⟩ G.sub F.body (List.replicate F.slots none) S)
    | none => .stuck
end
end EV
set_option Elab.async false
set_option linter.all false
set_option maxRecDepth 100000
/-! EV, part C: what the evaluator says is what is so: the frame of the proof. -/
namespace EV
open PySem L2 LamX

/-- an exception's own dict -/
def XF (G : Gb) (H : Hp) (N : Addr → Prop) (α : List Addr) (fs : List Nat) (vs : List D) (dd : Option Addr) : Prop := ((fs = [] ∧ vs = [] ∧ dd = none) ∨ ∃ (p : Addr) (kvs : List (Str × V)), dd = some p ∧ H p = some (.xd kvs) ∧ ¬ N p ∧ kvs.map (·.1) = fs.map G.fld ∧ RVs G H N α vs (kvs.map (·.2)))
def XR (G : Gb) (H : Hp) (N : Addr → Prop) (α : List Addr) (c : Nat) (fs : List Nat) (vs : List D) (cls : Value) (dd : Option Addr) : Prop := cls = .ref (G.cls c) ∧ XF G H N α fs vs dd
theorem XF.mono {G : Gb} {H H' : Hp} {N N' : Addr → Prop} {α α' : List Addr} {fs : List Nat} {vs : List D} {dd : Option Addr} (c : Car H N α H' N' α') (h : XF G H N α fs vs dd) : XF G H' N' α' fs vs dd := by
  rcases h with h | ⟨p, kvs, e1, e2, e3, e4, e5⟩
  · exact .inl h
  · exact .inr ⟨p, kvs, e1, c.keep _ _ e2 e3 (fun _ z => by cases z), fun z => e3 (c.nn _ _ z e2 fun _ z => by cases z), e4, e5.mono c⟩

def Post {β γ : Type} (G : Gb) (Rel : Pt → β → γ → Prop) (p : Pt) (r : Rs β) (Q : γ → Hp → Prop) (E : XK) : Prop := match r with
  | .ok d S' => ∀ v q, q.S = S' → q.ok G → p.to q → Rel q d v → Q v q.H
  | .exc c fs vs S' => ∀ cls dd q, q.S = S' → q.ok G → p.to q → XR G q.H q.N q.α c fs vs cls dd → E cls dd q.H
  | .stuck => False
abbrev RelD (G : Gb) : Pt → D → V → Prop := fun p d v => RV G p.H p.N p.α d v
abbrev RelL (G : Gb) : Pt → List D → List V → Prop := fun p d v => RVs G p.H p.N p.α d v
abbrev RelB : Pt → Bool → Bool → Prop := fun _ a b => a = b
/-- the slots -/
structure RE (G : Gn) (p : Pt) (ρ : Env') (σ : L2.St) : Prop where
  len : ρ.length = σ.length
  get : ∀ (i : Nat) (d : D), ρ[i]? = some (some d) → ∃ v, σ[i]? = some (some v) ∧ RV G p.H p.N p.α d v
  cx : ∀ c, G.cx = some c → σ[c.slot]? = some (some (.ref c.a)) ∧ XF G p.H p.N p.α c.fs c.vs c.d
  th : ∀ t, G.th = some t → σ[0]? = some (some (.ref t.f)) ∧ t.p.ok G ∧ t.p.to p
section
variable {G : Gn} {p q r : Pt} {ρ : Env'} {σ : L2.St}
theorem Pt.to.refl : p.to p := Stp.refl
theorem Pt.to.trans (h : p.ok G) (a : p.to q) (b : q.to r) : p.to r := Stp.trans (G := G) h a b
theorem Pt.to.rv (a : p.to q) (h : p.ok G) {d : D} {v : V} (x : RV G p.H p.N p.α d v) : RV G q.H q.N q.α d v := x.mono (a.car h)
theorem Pt.to.rvs (a : p.to q) (h : p.ok G) {d : List D} {v : List V} (x : RVs G p.H p.N p.α d v) : RVs G q.H q.N q.α d v := x.mono (a.car h)
theorem RE.mono (h : p.ok G) (a : p.to q) (e : RE G p ρ σ) : RE G q ρ σ := ⟨e.len, fun i d x => by
  obtain ⟨v, e1, e2⟩ := e.get i d x
  exact ⟨v, e1, a.rv h e2⟩, fun c hc => ⟨(e.cx c hc).1, (e.cx c hc).2.mono (a.car h)⟩, fun t ht => ⟨(e.th t ht).1, (e.th t ht).2.1, (e.th t ht).2.2.trans (e.th t ht).2.1 a⟩⟩
theorem RE.set {i : Nat} {d : D} {v : V} (e : RE G p ρ σ) (ho : G.okS i) (x : RV G p.H p.N p.α d v) (hi : i < ρ.length) : RE G p (ρ.set i (some d)) (σ.set i (some v)) := by
  refine ⟨by simp [e.len], fun j d' h => ?_, fun c hc => ⟨by rw [List.getElem?_set_ne (Ne.symm (ho.1 c hc))]; exact (e.cx c hc).1, (e.cx c hc).2⟩, fun t ht => ⟨by rw [List.getElem?_set_ne (Ne.symm (ho.2 t ht))]; exact (e.th t ht).1, (e.th t ht).2⟩⟩
  by_cases hj : i = j
  · subst hj
    rw [List.getElem?_set_self hi] at h
    cases h
    exact ⟨v, List.getElem?_set_self (by rw [← e.len]; exact hi), x⟩
  · rw [List.getElem?_set_ne hj] at h
    obtain ⟨v', e1, e2⟩ := e.get j d' h
    exact ⟨v', by rw [List.getElem?_set_ne hj]; exact e1, e2⟩
theorem RE.unset {i : Nat} (e : RE G p ρ σ) (ho : G.okS i) : RE G p (ρ.set i none) (σ.set i none) := by
  refine ⟨by simp [e.len], fun j d' h => ?_, fun c hc => ⟨by rw [List.getElem?_set_ne (Ne.symm (ho.1 c hc))]; exact (e.cx c hc).1, (e.cx c hc).2⟩, fun t ht => ⟨by rw [List.getElem?_set_ne (Ne.symm (ho.2 t ht))]; exact (e.th t ht).1, (e.th t ht).2⟩⟩
  by_cases hj : i = j
  · subst hj
    by_cases hi : i < ρ.length
    · rw [List.getElem?_set_self hi] at h; cases h
    · rw [List.getElem?_eq_none (by simpa using hi)] at h; cases h
  · rw [List.getElem?_set_ne hj] at h
    obtain ⟨v', e1, e2⟩ := e.get j d' h
    exact ⟨v', by rw [List.getElem?_set_ne hj]; exact e1, e2⟩
theorem RE.forget {i : Nat} {o : Option V} (e : RE G p ρ σ) (ho : G.okS i) : RE G p (ρ.set i none) (σ.set i o) := by
  refine ⟨by simp [e.len], fun j d' h => ?_, fun c hc => ⟨by rw [List.getElem?_set_ne (Ne.symm (ho.1 c hc))]; exact (e.cx c hc).1, (e.cx c hc).2⟩, fun t ht => ⟨by rw [List.getElem?_set_ne (Ne.symm (ho.2 t ht))]; exact (e.th t ht).1, (e.th t ht).2⟩⟩
  by_cases hj : i = j
  · subst hj
    by_cases hi : i < ρ.length
    · rw [List.getElem?_set_self hi] at h; cases h
    · rw [List.getElem?_eq_none (by simpa using hi)] at h; cases h
  · rw [List.getElem?_set_ne hj] at h
    obtain ⟨v', e1, e2⟩ := e.get j d' h
    exact ⟨v', by rw [List.getElem?_set_ne hj]; exact e1, e2⟩
variable {β γ δ ε : Type} {Rel : Pt → β → γ → Prop} {Rel' : Pt → δ → ε → Prop} {Q : γ → Hp → Prop} {Q' : ε → Hp → Prop} {E : XK}
theorem Post.step {x : Rs β} (h : p.ok G) (a : p.to q) (z : Post G Rel p x Q E) : Post G Rel q x Q E := by
  cases x with
  | ok d S' => exact fun v r e o t y => z v r e o (a.trans h t) y
  | exc c fs vs S' => exact fun cls dd r e o t y => z cls dd r e o (a.trans h t) y
  | stuck => exact z
/-- in a row -/
theorem Post.seq {x : Rs β} {k : β → Store → Rs δ} (h : p.ok G) (z : Post G Rel' p (x.bind k) Q' E) :
    Post G Rel p x (fun v H => ∃ d r, r.H = H ∧ r.ok G ∧ p.to r ∧ Rel r d v ∧ Post G Rel' r (k d r.S) Q' E) E := by
  cases x with
  | ok d S' =>
    intro v r e o t y
    subst e
    exact ⟨d, r, rfl, o, t, y, z.step h t⟩
  | exc c fs vs S' => exact z
  | stuck => exact z
theorem Post.imp {x : Rs β} {P : γ → Hp → Prop} (z : Post G Rel p x P E) (f : ∀ v H, P v H → Q v H) : Post G Rel p x Q E := by
  cases x with
  | ok d S' => exact fun v r e o t y => f _ _ (z v r e o t y)
  | exc c fs vs S' => exact z
  | stuck => exact z
theorem Post.ok_ {d : β} {S' : Store} {v : γ} (z : Post G Rel p (.ok d S') Q E) (hS : q.S = S') (h : q.ok G) (a : p.to q) (r : Rel q d v) : Q v q.H := z v q hS h a r
theorem Post.here {d : β} {v : γ} (z : Post G Rel p (.ok d p.S) Q E) (h : p.ok G) (r : Rel p d v) : Q v p.H := z v p rfl h Pt.to.refl r
theorem Post.of {o : Option β} (z : Post G Rel p (Rs.of p.S o) Q E) : ∃ d, o = some d ∧ Post G Rel p (.ok d p.S) Q E := by
  cases o with
  | some d => exact ⟨d, rfl, z⟩
  | none => exact z.elim
end

/-- an expression's reading by the evaluator -/
def tE (G : Gn) (W : WX) (x : Env' → Store → Rs D) : TE := fun σ H Q => ∃ p ρ, p.H = H ∧ p.ok G ∧ RE G p ρ σ ∧ Post G (RelD G) p (x ρ p.S) Q (fun c d H' => W c d σ H')
def tA (G : Gn) (W : WX) (x : Env' → Store → Rs (List D)) : TA := fun σ H Q => ∃ p ρ, p.H = H ∧ p.ok G ∧ RE G p ρ σ ∧ Post G (RelL G) p (x ρ p.S) Q (fun c d H' => W c d σ H')
def tT (G : Gn) (W : WX) (x : Env' → Store → Rs Bool) : TT := fun σ H Q => ∃ p ρ, p.H = H ∧ p.ok G ∧ RE G p ρ σ ∧ Post G RelB p (x ρ p.S) Q (fun c d H' => W c d σ H')
end EV
set_option Elab.async false
set_option linter.all false
set_option maxRecDepth 100000
/-! EV, part Ca: what leaves a frame, told by value. -/
namespace EV
open PySem L2 LamX
section
variable {G : Gb} {H : Hp} {N N2 : Addr → Prop} {α : List Addr} {S : Store} {n0 : Nat}
theorem RT.sub {K : PySem.W.Frag} {a : Addr} {xs : List V} (c : ∀ b, N2 b → N b) (h : RT K H N a xs) : RT K H N2 a xs := h.imp (fun ⟨h, n⟩ => ⟨h, fun z => n (c _ z)⟩) id
theorem RL.sub {K : PySem.W.Frag} {a : Addr} {xs : List V} (c : ∀ b, N2 b → N b) (h : RL K H N a xs) : RL K H N2 a xs := h.imp (fun ⟨h, n⟩ => ⟨h, fun z => n (c _ z)⟩) id
mutual
theorem RV.low (c : ∀ b, N2 b → N b) : ∀ {d : D} {v : V}, lowD n0 d = true → RV G H N α d v → RV G H N2 (α.take n0) d v
  | _, _, _, .non => .non
  | _, _, _, .bl b => .bl b
  | _, _, _, .int i => .int i
  | _, _, _, .str s => .str s
  | _, _, e, .tup h r => .tup (h.sub c) (RVs.low c (by simpa [lowD] using e) r)
  | _, _, e, .lst h n r => .lst h (fun z => n (c _ z)) (RVs.low c (by simpa [lowD] using e) r)
  | _, _, e, .scr h r => .scr (h.sub c) (RVs.low c (by simpa [lowD] using e) r)
  | _, _, e, .dic h n k r => .dic h (fun z => n (c _ z)) k (RVs.low c (by simpa [lowD] using e) r)
  | _, _, e, .obj h n k r => .obj h (fun z => n (c _ z)) k (RVs.low c (by simpa [lowD] using e) r)
  | .ref m, _, e, .ref h => .ref (by
      have : m < n0 := by simpa [lowD] using e
      rw [List.getElem?_take_of_lt this]
      exact h)
theorem RVs.low (c : ∀ b, N2 b → N b) : ∀ {ds : List D} {vs : List V}, lowDs n0 ds = true → RVs G H N α ds vs → RVs G H N2 (α.take n0) ds vs
  | _, _, _, .nil => .nil
  | d :: ds, _, e, .cons h r => by
    have e : lowD n0 d = true ∧ lowDs n0 ds = true := by simpa [lowDs] using e
    exact .cons (RV.low c e.1 h) (RVs.low c e.2 r)
end
theorem CR.low {a : Addr} {c : Cell} (hc : ∀ b, N2 b → N b) (e : lowC n0 (some c) = true) (h : CR G H N α a c) : CR G H N2 (α.take n0) a c := by
  cases c with
  | lst ds => obtain ⟨xs, e1, r⟩ := h; exact ⟨xs, e1, r.low hc e⟩
  | dic ks ds => obtain ⟨kvs, e1, e2, r⟩ := h; exact ⟨kvs, e1, e2, r.low hc e⟩
  | obj k fs ds => obtain ⟨dx, kvs, e1, e2, r⟩ := h; exact ⟨dx, kvs, e1, e2, r.low hc e⟩
/-- what is looked at: cells that are live lie where they should; those told by value are tracked no more -/
structure Lk (G : Gb) (H : Hp) (N : Addr → Prop) (α : List Addr) (S : Store) (N2 : Addr → Prop) (n0 : Nat) : Prop where
  sub : ∀ b, N2 b → N b
  cell : ∀ (n : Nat) (c : Cell), S[n]? = some (some c) → ∃ a, α[n]? = some a ∧ CR G H N α a c
  new : ∀ (n : Nat) (c : Cell) (a : Addr), n0 ≤ n → S[n]? = some (some c) → α[n]? = some a → ¬ N2 a
theorem cellOf_some {m : Nat} {c : Cell} (h : cellOf S m = some c) : S[m]? = some (some c) := by
  unfold cellOf at h
  cases e : S[m]? with
  | none => rw [e] at h; cases h
  | some o => rw [e] at h; cases o with
    | none => cases h
    | some x => cases h; rfl
theorem outs_of {f : Nat} (ih : ∀ {d e : D} {v : V}, outV S n0 f d = some e → RV G H N α d v → RV G H N2 (α.take n0) e v) : ∀ {ds es : List D} {vs : List V}, ds.mapM (outV S n0 f) = some es → RVs G H N α ds vs → RVs G H N2 (α.take n0) es vs
  | _, _, _, h, .nil => by
    simp only [List.mapM_nil] at h
    cases h
    exact .nil
  | d :: ds, _, _, h, .cons h1 h2 => by
    rw [List.mapM_cons] at h
    cases e : outV S n0 f d with
    | none => rw [e] at h; cases h
    | some x =>
      rw [e] at h
      cases e2 : ds.mapM (outV S n0 f) with
      | none => rw [e2] at h; cases h
      | some xs =>
        rw [e2] at h
        cases h
        exact .cons (ih e h1) (outs_of ih e2 h2)
theorem RV.out (L : Lk G H N α S N2 n0) : ∀ (f : Nat) {d e : D} {v : V}, outV S n0 f d = some e → RV G H N α d v → RV G H N2 (α.take n0) e v
  | 0, _, _, _, h, _ => by cases h
  | f + 1, d, e, v, h, r => by
    unfold outV at h
    by_cases hl : lowD n0 d = true
    · rw [if_pos hl] at h
      cases h
      exact r.low L.sub hl
    rw [if_neg hl] at h
    have rs := fun {ds es : List D} {vs : List V} => outs_of (G := G) (H := H) (N := N) (N2 := N2) (α := α) (S := S) (n0 := n0) (f := f) (fun h1 r1 => RV.out L f h1 r1) (ds := ds) (es := es) (vs := vs)
    cases r with
    | non => cases h
    | bl b => cases h
    | int i => cases h
    | str s => cases h
    | tup h1 r1 =>
      simp only at h
      obtain ⟨es, e1, e2⟩ := Option.map_eq_some_iff.mp h
      subst e2
      exact .tup (h1.sub L.sub) (rs e1 r1)
    | lst h1 n1 r1 =>
      simp only at h
      obtain ⟨es, e1, e2⟩ := Option.map_eq_some_iff.mp h
      subst e2
      exact .lst h1 (fun z => n1 (L.sub _ z)) (rs e1 r1)
    | scr h1 r1 =>
      simp only at h
      obtain ⟨es, e1, e2⟩ := Option.map_eq_some_iff.mp h
      subst e2
      exact .scr (h1.sub L.sub) (rs e1 r1)
    | dic h1 n1 k1 r1 =>
      simp only at h
      obtain ⟨es, e1, e2⟩ := Option.map_eq_some_iff.mp h
      subst e2
      exact .dic h1 (fun z => n1 (L.sub _ z)) k1 (rs e1 r1)
    | obj h1 n1 k1 r1 =>
      simp only at h
      obtain ⟨es, e1, e2⟩ := Option.map_eq_some_iff.mp h
      subst e2
      exact .obj h1 (fun z => n1 (L.sub _ z)) k1 (rs e1 r1)
    | ref hm =>
      rename_i m a
      have hge : n0 ≤ m := by
        simp only [lowD, decide_eq_true_eq] at hl
        omega
      simp only at h
      cases hc : cellOf S m with
      | none => rw [hc] at h; cases h
      | some c =>
        rw [hc] at h
        have hS := cellOf_some hc
        obtain ⟨a', ha, hC⟩ := L.cell m c hS
        rw [hm] at ha
        cases ha
        have hn := L.new m c a hge hS hm
        cases c with
        | lst xs =>
          simp only at h
          obtain ⟨es, e1, e2⟩ := Option.map_eq_some_iff.mp h
          subst e2
          obtain ⟨ys, q1, q2⟩ := hC
          exact .lst q1 hn (rs e1 q2)
        | dic ks vs =>
          simp only at h
          obtain ⟨es, e1, e2⟩ := Option.map_eq_some_iff.mp h
          subst e2
          obtain ⟨kvs, q1, q2, q3⟩ := hC
          exact .dic (.inl q1) hn q2 (rs e1 q3)
        | obj c fs vs =>
          simp only at h
          obtain ⟨es, e1, e2⟩ := Option.map_eq_some_iff.mp h
          subst e2
          obtain ⟨dx, kvs, q1, q2, q3⟩ := hC
          exact .obj q1 hn q2 (rs e1 q3)
theorem RVs.out (L : Lk G H N α S N2 n0) {f : Nat} {ds es : List D} {vs : List V} (h : ds.mapM (outV S n0 f) = some es) (r : RVs G H N α ds vs) : RVs G H N2 (α.take n0) es vs :=
  outs_of (fun h1 r1 => RV.out L f h1 r1) h r
theorem flat_rv {G' : Gb} {H' : Hp} {N' : Addr → Prop} {α' : List Addr} {d : D} {v : V} (h : flat d = true) (r : RV G H N α d v) : RV G' H' N' α' d v := by
  cases r with
  | non => exact .non
  | bl b => exact .bl b
  | int i => exact .int i
  | str s => exact .str s
  | _ => cases h
theorem flat_rvs {G' : Gb} {H' : Hp} {N' : Addr → Prop} {α' : List Addr} : ∀ {ds : List D} {vs : List V}, ds.all flat = true → RVs G H N α ds vs → RVs G' H' N' α' ds vs
  | _, _, _, .nil => .nil
  | _, _, h, .cons r rs => by
    rw [List.all_cons, Bool.and_eq_true] at h
    exact .cons (flat_rv h.1 r) (flat_rvs h.2 rs)
/-- no live cell is known any more: all the same -/
theorem RV.anew {d : D} {v : V} (r : RV G H N [] d v) (α : List Addr) : RV G H N α d v := RV.mono ⟨fun _ _ h _ _ => h, fun _ _ h _ _ => h, fun n a e => by cases e⟩ r
theorem RVs.anew {d : List D} {v : List V} (r : RVs G H N [] d v) (α : List Addr) : RVs G H N α d v := RVs.mono ⟨fun _ _ h _ _ => h, fun _ _ h _ _ => h, fun n a e => by cases e⟩ r
end
section
variable {G : Gb} {p : Pt} {Q : V → Hp → Prop} {E : XK}
/-- what a def made is told by value behind it -/
theorem Post.trim {r : Rs D} (ok : p.ok G) (z : Post G (RelD G) p (trimOut p.S.length r) Q E) : Post G (RelD G) p r Q E := by
  have hlen : p.α.length = p.S.length := ok.len
  -- where one stands behind it
  have key : ∀ q : Pt, q.ok G → p.to q → (q.S.take p.S.length).all (lowC p.S.length) = true →
      let N2 : Addr → Prop := fun b => q.N b ∧ ∀ i, p.S.length ≤ i → q.α[i]? ≠ some b
      Pt.ok G ⟨q.H, N2, q.S.take p.S.length, q.α.take p.S.length⟩ ∧ p.to ⟨q.H, N2, q.S.take p.S.length, q.α.take p.S.length⟩ ∧ Lk G q.H q.N q.α q.S N2 p.S.length := by
    intro q hq ht hl
    obtain ⟨β, hβ⟩ := ht.pre
    have htake : q.α.take p.S.length = p.α := by rw [hβ, ← hlen]; simp
    have hS : p.S.length ≤ q.S.length := by rw [← hq.len, hβ, ← hlen]; simp
    refine ⟨⟨?_, fun n c e => ?_, fun i j a e1 e2 => ?_, fun b hb => hq.trk b hb.1, fun n a e => ?_, hq.tab⟩, ⟨ht.keep, ht.some_, fun b hb => ht.nn b hb.1, fun b hb nl => ⟨ht.zz b hb nl, fun i hi e => ?_⟩, fun b hb => ?_, ⟨[], by simp [htake]⟩, fun n a e => ?_⟩, ⟨fun b hb => hb.1, fun n c e => ?_, fun n c a hn e e2 hb => hb.2 n hn e2⟩⟩
    · show (q.α.take p.S.length).length = (q.S.take p.S.length).length
      simp [hq.len]
    · have hn : n < p.S.length := by
        have := (List.getElem?_eq_some_iff.mp e).1
        simp at this
        omega
      have e' : q.S[n]? = some (some c) := by
        have e0 : (q.S.take p.S.length)[n]? = some (some c) := e
        rw [List.getElem?_take_of_lt hn] at e0
        exact e0
      obtain ⟨a, h1, h2, h3⟩ := hq.cell n c e'
      refine ⟨a, by show (q.α.take p.S.length)[n]? = some a; rw [List.getElem?_take_of_lt hn]; exact h1, ⟨h2, fun i hi e2 => ?_⟩, h3.low (fun b hb => hb.1) ?_⟩
      · have := hq.nd i n a e2 h1
        omega
      · exact List.all_eq_true.mp hl _ (List.mem_of_getElem? e)
    · have h1 : (q.α.take p.S.length)[i]? = some a := e1
      have h2 : (q.α.take p.S.length)[j]? = some a := e2
      have hi := (List.getElem?_eq_some_iff.mp h1).1
      have hj := (List.getElem?_eq_some_iff.mp h2).1
      simp at hi hj
      rw [List.getElem?_take_of_lt (by omega)] at h1 h2
      exact hq.nd i j a h1 h2
    · have h1 : (q.α.take p.S.length)[n]? = some a := e
      have hi := (List.getElem?_eq_some_iff.mp h1).1
      simp at hi
      rw [List.getElem?_take_of_lt (by omega)] at h1
      exact hq.alv n a h1
    · rcases ht.al i b e with h | h
      · have := (List.getElem?_eq_some_iff.mp h).1
        omega
      · obtain ⟨o, e1, nt⟩ := ok.trk b hb
        exact h o e1 nt
    · obtain ⟨n, c, e1, e2⟩ := hb
      have h1 : (q.S.take p.S.length)[n]? = some (some c) := e1
      have h2 : (q.α.take p.S.length)[n]? = some b := e2
      have hi := (List.getElem?_eq_some_iff.mp h1).1
      simp at hi
      rw [List.getElem?_take_of_lt (by omega)] at h1 h2
      exact ht.lv b ⟨n, c, h1, h2⟩
    · have h1 : (q.α.take p.S.length)[n]? = some a := e
      rw [htake] at h1
      exact .inl h1
    · obtain ⟨a, h1, _, h3⟩ := hq.cell n c e
      exact ⟨a, h1, h3⟩
  unfold trimOut at z
  cases r with
  | ok d S' =>
    simp only at z
    intro v q hS hq ht rd
    subst hS
    cases he : outV q.S p.S.length outF d with
    | none => rw [he] at z; exact z.elim
    | some e =>
      rw [he] at z
      simp only at z
      by_cases hl : (q.S.take p.S.length).all (lowC p.S.length) = true
      · rw [if_pos hl] at z
        obtain ⟨k1, k2, k3⟩ := key q hq ht hl
        exact z v ⟨q.H, fun b => q.N b ∧ ∀ i, p.S.length ≤ i → q.α[i]? ≠ some b, q.S.take p.S.length, q.α.take p.S.length⟩ rfl k1 k2 (RV.out k3 _ he rd)
      · rw [if_neg hl] at z
        exact z.elim
  | exc c fs vs S' =>
    simp only at z
    intro cls dd q hS hq ht rx
    subst hS
    cases he : vs.mapM (outV q.S p.S.length outF) with
    | none => rw [he] at z; exact z.elim
    | some es =>
      rw [he] at z
      simp only at z
      by_cases hl : (q.S.take p.S.length).all (lowC p.S.length) = true
      · rw [if_pos hl] at z
        obtain ⟨k1, k2, k3⟩ := key q hq ht hl
        refine z cls dd ⟨q.H, fun b => q.N b ∧ ∀ i, p.S.length ≤ i → q.α[i]? ≠ some b, q.S.take p.S.length, q.α.take p.S.length⟩ rfl k1 k2 ⟨rx.1, ?_⟩
        rcases rx.2 with ⟨h1, h2, h3⟩ | ⟨a, kvs, e1, e2, e3, e4, e5⟩
        · subst h2
          cases he
          exact .inl ⟨h1, rfl, h3⟩
        · exact .inr ⟨a, kvs, e1, e2, fun hb => e3 hb.1, e4, RVs.out k3 he e5⟩
      · rw [if_neg hl] at z
        exact z.elim
  | stuck => exact z
/-- where a def of its own frame begins -/
def ownPt (p : Pt) (fl : Bool) : Pt := ⟨p.H, fun b => p.N b ∧ (fl = true ∨ ∃ kvs, p.H b = some (.xd kvs)), [], []⟩
theorem own_ok (ok : p.ok G) (fl : Bool) : (ownPt p fl).ok G :=
  ⟨rfl, fun n c e => by (cases e), fun i j a e => by (cases e), fun b hb => ok.trk b hb.1, fun n a e => by (cases e), ok.tab⟩
theorem own_args (ok : p.ok G) {ds es : List D} {vs : List V} (r : RVs G p.H p.N p.α ds vs) (h : ds.mapM (outV p.S 0 outF) = some es) : RVs G p.H (ownPt p (lowDs 0 ds)).N [] es vs := by
  cases hf : lowDs 0 ds with
  | true =>
    have e : ds.mapM (outV p.S 0 outF) = some ds := by
      clear h r
      induction ds with
      | nil => rfl
      | cons d ds ih =>
        have hf : lowD 0 d = true ∧ lowDs 0 ds = true := by simpa [lowDs] using hf
        rw [List.mapM_cons, ih hf.2]
        have : outV p.S 0 outF d = some d := by unfold outF outV; rw [if_pos hf.1]
        rw [this]
        rfl
    rw [e] at h
    cases h
    exact r.low (n0 := 0) (N2 := (ownPt p true).N) (fun b hb => hb.1) hf
  | false =>
    refine RVs.out (n0 := 0) (S := p.S) (N2 := (ownPt p false).N) ⟨fun b hb => hb.1, fun n c e => ?_, fun n c a _ e e2 hb => ?_⟩ h r
    · obtain ⟨a, h1, _, h3⟩ := ok.cell n c e
      exact ⟨a, h1, h3⟩
    · obtain ⟨a', h1, _, h3⟩ := ok.cell n c e
      rw [e2] at h1
      cases h1
      rcases hb.2 with hb | ⟨kvs, hb⟩
      · cases hb
      · cases c with
        | lst xs => obtain ⟨ys, q, _⟩ := h3; rw [hb] at q; cases q
        | dic ks xs => obtain ⟨ys, q, _⟩ := h3; rw [hb] at q; cases q
        | obj c fs xs => obtain ⟨dx, ys, q, _⟩ := h3; rw [hb] at q; cases q
/-- .. and what it tells -/
theorem Post.own {r : Rs D} {fl : Bool} (ok : p.ok G) (z : Post G (RelD G) p (pureOut p.S fl r) Q E) : Post G (RelD G) (ownPt p fl) r Q E := by
  have dead : ∀ b, ¬ Live (ownPt p fl).S (ownPt p fl).α b := fun b ⟨n, c, e, _⟩ => by cases e
  have key : ∀ q : Pt, q.ok G → (ownPt p fl).to q → Pt.ok G ⟨q.H, p.N, p.S, p.α⟩ ∧ p.to ⟨q.H, p.N, p.S, p.α⟩ := by
    intro q hq ht
    have kp : ∀ b o, p.H b = some o → NT o → q.H b = some o := fun b o e nt => ht.keep b o e (dead b) nt
    refine ⟨⟨ok.len, fun n c e => ?_, ok.nd, fun b hb => ?_, fun n a e => ?_, hq.tab⟩, ⟨fun b o e _ nt => kp b o e nt, ht.some_, fun b hb => .inl hb, fun b hb _ => hb, fun b hb => .inl hb, ⟨[], by simp⟩, fun n a e => .inl e⟩⟩
    · obtain ⟨a, h1, h2, h3⟩ := ok.cell n c e
      obtain ⟨o, e1, nt⟩ := ok.alv n a h1
      refine ⟨a, h1, h2, h3.mono ⟨fun b o e _ nt => kp b o e nt, fun b o h _ _ => h, fun _ _ h => h⟩ e1 ?_⟩
      rw [kp a o e1 nt, e1]
    · obtain ⟨o, e1, nt⟩ := ok.trk b hb
      exact ⟨o, kp b o e1 nt, nt⟩
    · obtain ⟨o, e1, nt⟩ := ok.alv n a e
      exact ⟨o, kp a o e1 nt, nt⟩
  have look : ∀ q : Pt, q.ok G → (ownPt p true).to q → Lk G q.H q.N q.α q.S p.N 0 := by
    intro q hq ht
    refine ⟨fun b hb => ht.zz b ⟨hb, .inl rfl⟩ (fun ⟨n, c, e, _⟩ => by cases e), fun n c e => ?_, fun n c a _ e e2 hb => ?_⟩
    · obtain ⟨a, h1, _, h3⟩ := hq.cell n c e
      exact ⟨a, h1, h3⟩
    · rcases ht.lv a ⟨n, c, e, e2⟩ with ⟨m, c2, e3, _⟩ | h
      · cases e3
      · obtain ⟨o, e1, nt⟩ := ok.trk a hb
        exact h o e1 nt
  unfold pureOut at z
  cases r with
  | ok d S' =>
    simp only at z
    intro v q hS hq ht rd
    subst hS
    cases he : outV q.S 0 outF d with
    | none => rw [he] at z; exact z.elim
    | some e =>
      rw [he] at z
      simp only at z
      by_cases hl : (fl || flat e) = true
      · rw [if_pos hl] at z
        obtain ⟨k1, k2⟩ := key q hq ht
        refine z v ⟨q.H, p.N, p.S, p.α⟩ rfl k1 k2 ?_
        cases fl with
        | true => exact (RV.out (look q hq ht) _ he rd).anew p.α
        | false =>
          have hfl : flat e = true := by simpa using hl
          have L : Lk G q.H q.N q.α q.S (fun _ => False) 0 := ⟨fun _ h => h.elim, fun n c e => by
            obtain ⟨a, h1, _, h3⟩ := hq.cell n c e
            exact ⟨a, h1, h3⟩, fun _ _ _ _ _ _ h => h.elim⟩
          exact flat_rv hfl (RV.out L _ he rd)
      · rw [if_neg hl] at z
        exact z.elim
  | exc c fs vs S' =>
    simp only at z
    intro cls dd q hS hq ht rx
    subst hS
    cases he : vs.mapM (outV q.S 0 outF) with
    | none => rw [he] at z; exact z.elim
    | some es =>
      rw [he] at z
      simp only at z
      by_cases hl : (fl || es.all flat) = true
      · rw [if_pos hl] at z
        obtain ⟨k1, k2⟩ := key q hq ht
        refine z cls dd ⟨q.H, p.N, p.S, p.α⟩ rfl k1 k2 ⟨rx.1, ?_⟩
        rcases rx.2 with ⟨h1, h2, h3⟩ | ⟨a, kvs, e1, e2, e3, e4, e5⟩
        · subst h2
          cases he
          exact .inl ⟨h1, rfl, h3⟩
        · refine .inr ⟨a, kvs, e1, e2, fun hb => ?_, e4, ?_⟩
          · obtain ⟨o, q1, nt⟩ := ok.trk a hb
            have q2 := ht.keep a o q1 (dead a) nt
            rw [e2] at q2
            cases q2
            exact e3 (ht.zz a ⟨hb, .inr ⟨kvs, q1⟩⟩ (dead a))
          · cases fl with
            | true => exact (RVs.out (look q hq ht) he e5).anew p.α
            | false =>
              have hfl : es.all flat = true := by simpa using hl
              have L : Lk G q.H q.N q.α q.S (fun _ => False) 0 := ⟨fun _ h => h.elim, fun n c e => by
                obtain ⟨a, h1, _, h3⟩ := hq.cell n c e
                exact ⟨a, h1, h3⟩, fun _ _ _ _ _ _ h => h.elim⟩
              exact flat_rvs hfl (RVs.out L he e5)
      · rw [if_neg hl] at z
        exact z.elim
  | stuck => exact z
end
end EV
set_option Elab.async false
set_option linter.all false
set_option maxRecDepth 100000
/-! EV, part D: operators. -/
namespace EV
open PySem PySem.Spec PyProof.Rows L2 LamX
section
variable {G : Gn} {X : Cx} {W : WX}
theorem op_any {f : Value → Value → Sem Value} : OpR X f (fun x y H Q => ∃ r, OpR X f r ∧ r x y H Q) := by
  intro pins s σ H x y v u Q I rx ry h
  obtain ⟨r, o, q⟩ := h
  exact o pins s σ H x y v u Q I rx ry q
theorem un_any {f : Value → Sem Value} : UnR X f (fun x H Q => ∃ r, UnR X f r ∧ r x H Q) := by
  intro pins s σ H x v Q I rx h
  obtain ⟨r, o, q⟩ := h
  exact o pins s σ H x v Q I rx q
theorem call_any {f : Value} : CallR X f (fun xs H Q => ∃ r, CallR X f r ∧ r xs H Q) := by
  intro pins s σ H xs us Q I rx h
  obtain ⟨r, o, q⟩ := h
  exact o pins s σ H xs us Q I rx q
theorem ix_any : IxR X (fun x y H Q => ∃ r, IxR X r ∧ r x y H Q) := by
  intro value slice pins s σ H x y v u Q I rx ry h hs
  obtain ⟨r, o, q⟩ := h
  exact o value slice pins s σ H x y v u Q I rx ry q hs
theorem mt_any {id : String} : MtR X id (fun x xs H Q => ∃ r, MtR X id r ∧ r x xs H Q) := by
  intro pins s σ H x xs v us Q I rx rs h
  obtain ⟨r, o, q⟩ := h
  exact o pins s σ H x xs v us Q I rx rs q

/-- f does by values what g says -/
def Ok2 (G : Gn) (X : Cx) (f : Value → Value → Sem Value) (g : Store → D → D → Option D) : Prop :=
  ∀ (p : Pt) (x y : V) (dx dy d : D) (Q : VK), p.ok G → RV G p.H p.N p.α dx x → RV G p.H p.N p.α dy y → g p.S dx dy = some d →
    (∀ v q, q.S = p.S → q.ok G → p.to q → RV G q.H q.N q.α d v → Q v q.H) → ∃ r, OpR X f r ∧ r x y p.H Q
/-- the value is at hand -/
theorem at_hand {p : Pt} (h : p.ok G) {d : D} {Q : VK} (k : ∀ v q, q.S = p.S → q.ok G → p.to q → RV G q.H q.N q.α d v → Q v q.H) {v : V} (r : RV G p.H p.N p.α d v) : Q v p.H := k v p rfl h Pt.to.refl r
/-- a new object -/
theorem at_new {p : Pt} (h : p.ok G) {d : D} {Q : VK} (k : ∀ v q, q.S = p.S → q.ok G → p.to q → RV G q.H q.N q.α d v → Q v q.H) {a : Addr} {o : HO} (ha : p.H a = none)
    (r : ∀ q : Pt, q.H = upd p.H a o → q.N = p.N → q.α = p.α → Car p.H p.N p.α q.H q.N q.α → q.H a = some o → ¬ q.N a → RV G q.H q.N q.α d (.ref a)) : Q (.ref a) (upd p.H a o) := by
  have st : ST G (upd p.H a o) p.N p.S p.α := ST.laid h ha
  have t : Stp p.H p.N p.S p.α (upd p.H a o) p.N p.S p.α := Stp.laid ha
  refine k (.ref a) ⟨upd p.H a o, p.N, p.S, p.α⟩ rfl st t (r ⟨upd p.H a o, p.N, p.S, p.α⟩ rfl rfl rfl (t.car h) upd_same fun z => ?_)
  obtain ⟨o', e, _⟩ := h.trk a z
  rw [ha] at e; cases e
theorem cellOf_get {S : Store} {n : Nat} {c : Cell} (e : cellOf S n = some c) : S[n]? = some (some c) := by
  unfold cellOf at e
  cases h : S[n]? with
  | none => rw [h] at e; cases e
  | some o => rw [h] at e; cases o with
    | none => cases e
    | some x => simp at e; rw [e]
theorem live_cell {p : Pt} (h : p.ok G) {n : Nat} {c : Cell} (e : cellOf p.S n = some c) {a : Addr} (ea : p.α[n]? = some a) : p.N a ∧ CR G p.H p.N p.α a c := by
  obtain ⟨b, e1, e2, e3⟩ := h.cell n c (cellOf_get e)
  rw [ea] at e1; cases e1
  exact ⟨e2, e3⟩
/-- a sequence by its address -/
theorem seq_at {p : Pt} (h : p.ok G) {d : D} {ds : List D} {v : V} (e : seqOf p.S d = some ds) (r : RV G p.H p.N p.α d v) :
    ∃ (a : Addr) (xs : List V), v = .ref a ∧ (SqL G.K p.H a xs ∨ SqT G.K p.H a xs) ∧ RVs G p.H p.N p.α ds xs := by
  cases r with
  | tup h1 h2 => cases e; exact ⟨_, _, rfl, .inr h1.sq, h2⟩
  | lst h1 h2 h3 => cases e; exact ⟨_, _, rfl, .inl (SqL.of h1), h3⟩
  | scr h1 h2 => cases e; exact ⟨_, _, rfl, .inl h1.sq, h2⟩
  | @ref n a ea =>
    simp only [seqOf] at e
    cases hc : cellOf p.S n with
    | none => rw [hc] at e; cases e
    | some c =>
      rw [hc] at e
      cases c with
      | lst xs =>
        cases e
        obtain ⟨_, ys, e1, e2⟩ := live_cell h hc ea
        exact ⟨a, ys, rfl, .inl (SqL.of e1), e2⟩
      | dic _ _ => cases e
      | obj _ _ _ => cases e
  | non => cases e
  | bl => cases e
  | int => cases e
  | str => cases e
  | dic => cases e
  | obj => cases e
theorem lst_at {p : Pt} (h : p.ok G) {d : D} {ds : List D} {v : V} (e : lstOf p.S d = some ds) (r : RV G p.H p.N p.α d v) :
    ∃ (a : Addr) (xs : List V), v = .ref a ∧ p.H a = some (.lst xs) ∧ RVs G p.H p.N p.α ds xs := by
  cases r with
  | lst h1 h2 h3 => cases e; exact ⟨_, _, rfl, h1, h3⟩
  | scr => cases e
  | @ref n a ea =>
    simp only [lstOf] at e
    cases hc : cellOf p.S n with
    | none => rw [hc] at e; cases e
    | some c =>
      rw [hc] at e
      cases c with
      | lst xs =>
        cases e
        obtain ⟨_, ys, e1, e2⟩ := live_cell h hc ea
        exact ⟨a, ys, rfl, e1, e2⟩
      | dic _ _ => cases e
      | obj _ _ _ => cases e
  | non => cases e
  | bl => cases e
  | int => cases e
  | str => cases e
  | tup => cases e
  | dic => cases e
  | obj => cases e
theorem lst_seq {S : Store} {d : D} {ds : List D} (e : lstOf S d = some ds) : seqOf S d = some ds := by
  unfold lstOf at e
  unfold seqOf
  split at e
  · exact e
  · exact e
  · cases e

/-! ### + - * // % ** -/
theorem ok2_add (hK : X.K = G.K) : Ok2 G X (binaryOp .Add) (fun S => o2 S .add) := by
  intro p x y dx dy d Q h rx ry e k
  cases rx with
  | int i => cases ry with
    | int j => cases e; exact ⟨_, op_add, i, j, rfl, rfl, at_hand h k (.int _)⟩
    | _ => cases e
  | str a => cases ry with
    | str b =>
      simp only [o2] at e
      split at e
      · rename_i hl
        cases e
        exact ⟨_, op_add_str, a, b, rfl, rfl, hl, at_hand h k (.str _)⟩
      · cases e
    | _ => cases e
  | @tup a ds xs h1 r1 => cases ry with
    | @tup b es ys h2 r2 =>
      simp only [o2] at e
      split at e
      · rename_i hl
        cases e
        have l1 := r1.length
        have l2 := r2.length
        refine ⟨_, op_catA, a, b, xs, ys, rfl, rfl, by rw [hK]; exact h1.sq, by rw [hK]; exact h2.sq, by omega, fun ex => ?_, fun _ ey => ?_, fun ex ey c hc => ?_⟩
        · subst ex
          have : ds = [] := List.eq_nil_of_length_eq_zero (by simpa using l1)
          subst this
          exact at_hand h k (.tup h2 r2)
        · subst ey
          have : es = [] := List.eq_nil_of_length_eq_zero (by simpa using l2)
          subst this
          rw [List.append_nil] at k
          exact at_hand h k (.tup h1 r1)
        · exact at_new h k hc fun q e1 e2 e3 c e4 e5 => .tup (.inl ⟨.inl e4, e5⟩) ((r1.mono c).append (r2.mono c))
      · cases e
    | _ => cases e
  | _ => cases e
theorem ok2_sub : Ok2 G X (binaryOp .Sub) (fun S => o2 S .sub) := by
  intro p x y dx dy d Q h rx ry e k
  cases rx with
  | int i => cases ry with
    | int j => cases e; exact ⟨_, op_sub, i, j, rfl, rfl, at_hand h k (.int _)⟩
    | _ => cases e
  | _ => cases e
theorem repT_rv {p : Pt} {ds : List D} {xs : List V} (r : RVs G p.H p.N p.α ds xs) : ∀ n : Nat, RVs G p.H p.N p.α (List.replicate n ds).flatten (List.replicate n xs).flatten
  | 0 => .nil
  | n + 1 => by
    rw [List.replicate_succ, List.replicate_succ, List.flatten_cons, List.flatten_cons]
    exact r.append (repT_rv r n)
theorem op_mulS : OpR X (binaryOp .Mult) (fun x y H Q => ∃ (s : Str) (k : Int), x = .str s ∧ y = .int k ∧ s.length ≤ 1000 ∧ -1000 ≤ k ∧ k ≤ 1000 ∧ Q (.str (Txt.mul s k)) H) := by
  intro pins s σ H x y v u Q I rx ry h
  obtain ⟨z, k, rfl, rfl, h1, h2, h3, q⟩ := h
  obtain ⟨t, rfl⟩ := rx
  obtain ⟨t', rfl⟩ := ry
  exact SB.mul (mulOk_of 1000 1000 h1 (by omega) (by omega) (by decide) (by decide)) fun t2 k2 => ⟨.str _, H, I.tok _, ⟨_, rfl⟩, q⟩
theorem ok2_mul (hK : X.K = G.K) : Ok2 G X (binaryOp .Mult) (fun S => o2 S .mul) := by
  intro p x y dx dy d Q h rx ry e k
  cases rx with
  | int i => cases ry with
    | int j =>
      simp only [o2] at e
      split at e
      · rename_i hl
        cases e
        refine ⟨_, op_mul, i, j, rfl, rfl, ?_, at_hand h k (.int _)⟩
        simpa [CMul, small64, Bool.or_eq_true, Bool.and_eq_true] using hl
      · cases e
    | _ => cases e
  | @tup a ds xs h1 r1 => cases ry with
    | int j =>
      simp only [o2] at e
      split at e
      · rename_i hl
        cases e
        have l1 := r1.length
        refine ⟨_, op_repT, a, j, xs, rfl, rfl, by rw [hK]; exact h1.sq, fun z => hl.2.2.2 (by rw [l1, z]; rfl), hl.1, hl.2.1, by omega, fun c hc => ?_⟩
        exact at_new h k hc fun q e1 e2 e3 c e4 e5 => .tup (.inl ⟨.inl e4, e5⟩) (repT_rv (p := q) (r1.mono c) _)
      · cases e
    | _ => cases e
  | str z => cases ry with
    | int j =>
      simp only [o2] at e
      split at e
      · rename_i hl
        cases e
        exact ⟨_, op_mulS, z, j, rfl, rfl, hl.2.2, hl.1, hl.2.1, at_hand h k (.str _)⟩
      · cases e
    | _ => cases e
  | _ => cases e
theorem ok2_fdiv : Ok2 G X (binaryOp .FloorDiv) (fun S => o2 S .fdiv) := by
  intro p x y dx dy d Q h rx ry e k
  cases rx with
  | int i => cases ry with
    | int j =>
      simp only [o2] at e
      split at e
      · rename_i hl
        cases e
        exact ⟨_, op_fdiv, i, j, rfl, rfl, hl, at_hand h k (.int _)⟩
      · cases e
    | _ => cases e
  | _ => cases e
theorem ok2_mod : Ok2 G X (binaryOp .Mod) (fun S => o2 S .mod) := by
  intro p x y dx dy d Q h rx ry e k
  cases rx with
  | int i => cases ry with
    | int j =>
      simp only [o2] at e
      split at e
      · rename_i hl
        cases e
        exact ⟨_, op_mod, i, j, rfl, rfl, hl, at_hand h k (.int _)⟩
      · cases e
    | _ => cases e
  | _ => cases e
theorem ok2_pow : Ok2 G X (binaryOp .Pow) (fun S => o2 S .pow) := by
  intro p x y dx dy d Q h rx ry e k
  cases rx with
  | int i => cases ry with
    | int j =>
      simp only [o2] at e
      split at e
      · rename_i hl
        cases e
        exact ⟨_, op_pow, i, j, rfl, rfl, hl, at_hand h k (.int _)⟩
      · cases e
    | _ => cases e
  | _ => cases e

/-! ### == and in -/
theorem mapM_cons_some {α β : Type} {f : α → Option β} {a : α} {l : List α} {r : List β} (e : (a :: l).mapM f = some r) : ∃ b bs, f a = some b ∧ l.mapM f = some bs ∧ r = b :: bs := by
  rw [List.mapM_cons] at e
  cases h1 : f a with
  | none => rw [h1] at e; cases e
  | some b =>
    rw [h1] at e
    cases h2 : l.mapM f with
    | none => rw [h2] at e; cases e
    | some bs => rw [h2] at e; cases e; exact ⟨b, bs, rfl, rfl, rfl⟩
theorem deep_all {p : Pt} {f : Nat} (ih : ∀ {d : D} {x : PyData} {v : V}, deep p.S f d = some x → RV G p.H p.N p.α d v → Dp G.K p.H v x) :
    ∀ {ds : List D} {vs : List V} {xs : List PyData}, RVs G p.H p.N p.α ds vs → ds.mapM (deep p.S f) = some xs → DpAll G.K p.H vs xs
  | _, _, _, .nil, e => by cases e; exact .nil
  | _, _, _, .cons r rs, e => by
    obtain ⟨b, bs, e1, e2, rfl⟩ := mapM_cons_some e
    exact .cons (ih e1 r) (deep_all ih rs e2)
theorem deep_at {p : Pt} (h : p.ok G) : ∀ (f : Nat) {d : D} {x : PyData} {v : V}, deep p.S f d = some x → RV G p.H p.N p.α d v → Dp G.K p.H v x
  | 0, _, _, _, e, _ => by cases e
  | f + 1, d, x, v, e, r => by
    have ih := fun {d : D} {x : PyData} {v : V} => deep_at h f (d := d) (x := x) (v := v)
    cases r with
    | non => cases e; exact .non
    | bl b => cases e; exact .bl b
    | int i => cases e; exact .int i
    | str s => cases e; exact .str s
    | tup h1 h2 =>
      simp only [deep, Option.map_eq_some_iff] at e
      obtain ⟨xs, e1, rfl⟩ := e
      exact .tup h1.sq (deep_all ih h2 e1)
    | lst h1 _ h2 =>
      simp only [deep, Option.map_eq_some_iff] at e
      obtain ⟨xs, e1, rfl⟩ := e
      exact .lst (SqL.of h1) (deep_all ih h2 e1)
    | scr => cases e
    | @ref n a ea =>
      simp only [deep] at e
      cases hc : cellOf p.S n with
      | none => rw [hc] at e; cases e
      | some c =>
        rw [hc] at e
        cases c with
        | lst ds =>
          simp only [Option.map_eq_some_iff] at e
          obtain ⟨xs, e1, rfl⟩ := e
          obtain ⟨_, ys, e2, e3⟩ := live_cell h hc ea
          exact .lst (SqL.of e2) (deep_all ih e3 e1)
        | dic _ _ => cases e
        | obj _ _ _ => cases e
    | dic => cases e
    | obj => cases e
theorem eqD_at {p : Pt} (h : p.ok G) {a b : D} {x y : V} {c : Bool} (e : eqD p.S a b = some c) (rx : RV G p.H p.N p.α a x) (ry : RV G p.H p.N p.α b y) :
    ∃ d e, Dp G.K p.H x d ∧ Dp G.K p.H y e ∧ SeqAt.shaped d = true ∧ SeqAt.shaped e = true ∧ PyData.eqv d e = c := by
  unfold eqD at e
  cases h1 : deep p.S 60 a with
  | none => rw [h1] at e; cases e
  | some d =>
    cases h2 : deep p.S 60 b with
    | none => rw [h1, h2] at e; cases e
    | some d' =>
      rw [h1, h2] at e
      simp only at e
      split at e
      · rename_i hs
        rw [Bool.and_eq_true] at hs
        cases e
        exact ⟨d, d', deep_at h 60 h1 rx, deep_at h 60 h2 ry, hs.1, hs.2, rfl⟩
      · cases e
theorem ok2_eq (hK : X.K = G.K) (hu : X.A.units + 64 < cLine) : Ok2 G X (compareOp .Eq) (fun S => o2 S .eq) := by
  intro p x y dx dy d Q h rx ry e k
  simp only [o2, Option.map_eq_some_iff] at e
  obtain ⟨c, e1, rfl⟩ := e
  obtain ⟨d1, d2, h1, h2, s1, s2, rfl⟩ := eqD_at h e1 rx ry
  exact ⟨_, op_eqD hu, d1, d2, by rw [hK]; exact h1, by rw [hK]; exact h2, s1, s2, at_hand h k (.bl _)⟩
theorem ok2_ne (hK : X.K = G.K) (hu : X.A.units + 64 < cLine) : Ok2 G X (compareOp .NotEq) (fun S => o2 S .ne) := by
  intro p x y dx dy d Q h rx ry e k
  simp only [o2, Option.map_eq_some_iff] at e
  obtain ⟨c, e1, rfl⟩ := e
  obtain ⟨d1, d2, h1, h2, s1, s2, rfl⟩ := eqD_at h e1 rx ry
  exact ⟨_, op_neD hu, d1, d2, by rw [hK]; exact h1, by rw [hK]; exact h2, s1, s2, at_hand h k (.bl _)⟩
theorem ok2_lt : Ok2 G X (compareOp .Lt) (fun S => o2 S .lt) := by
  intro p x y dx dy d Q h rx ry e k
  cases rx with
  | int i => cases ry with
    | int j => cases e; exact ⟨_, op_lt, i, j, rfl, rfl, at_hand h k (.bl _)⟩
    | _ => cases e
  | _ => cases e
theorem ok2_le : Ok2 G X (compareOp .LtE) (fun S => o2 S .le) := by
  intro p x y dx dy d Q h rx ry e k
  cases rx with
  | int i => cases ry with
    | int j => cases e; exact ⟨_, op_le, i, j, rfl, rfl, at_hand h k (.bl _)⟩
    | _ => cases e
  | _ => cases e
theorem ok2_gt : Ok2 G X (compareOp .Gt) (fun S => o2 S .gt) := by
  intro p x y dx dy d Q h rx ry e k
  cases rx with
  | int i => cases ry with
    | int j => cases e; exact ⟨_, op_gt, i, j, rfl, rfl, at_hand h k (.bl _)⟩
    | _ => cases e
  | _ => cases e
theorem ok2_ge : Ok2 G X (compareOp .GtE) (fun S => o2 S .ge) := by
  intro p x y dx dy d Q h rx ry e k
  cases rx with
  | int i => cases ry with
    | int j => cases e; exact ⟨_, op_ge, i, j, rfl, rfl, at_hand h k (.bl _)⟩
    | _ => cases e
  | _ => cases e
theorem op_isB : OpR X (compareOp .Is) (fun x y H Q => ∃ b, y = .bl b ∧ Q (.bl (decide (x = .bl b))) H) := by
  intro pins s σ H x y v u Q I rx ry h
  obtain ⟨b, rfl, q⟩ := h
  cases (show u = Value.bool b from ry)
  cases x with
  | bl a =>
    cases (show v = Value.bool a from rx)
    exact wpAny_pure (fin_bl I q (by by_cases e : a = b <;> simp [e]))
  | non => cases (show v = Value.none from rx); exact wpAny_pure (fin_bl I q (by simp))
  | int i => obtain ⟨t, rfl⟩ := rx; exact wpAny_pure (fin_bl I q (by simp))
  | str i => obtain ⟨t, rfl⟩ := rx; exact wpAny_pure (fin_bl I q (by simp))
  | byt i => obtain ⟨t, rfl⟩ := rx; exact wpAny_pure (fin_bl I q (by simp))
  | flt i => obtain ⟨t, rfl⟩ := rx; exact wpAny_pure (fin_bl I q (by simp))
  | ref a => cases (show v = Value.ref a from rx); exact wpAny_pure (fin_bl I q (by simp))
  | ty n => cases (show v = Value.type n from rx); exact wpAny_pure (fin_bl I q (by simp))
theorem op_isnB : OpR X (compareOp .IsNot) (fun x y H Q => ∃ b, y = .bl b ∧ Q (.bl (!decide (x = .bl b))) H) := by
  intro pins s σ H x y v u Q I rx ry h
  obtain ⟨b, rfl, q⟩ := h
  cases (show u = Value.bool b from ry)
  cases x with
  | bl a =>
    cases (show v = Value.bool a from rx)
    exact wpAny_pure (fin_bl I q (by by_cases e : a = b <;> simp [e]))
  | non => cases (show v = Value.none from rx); exact wpAny_pure (fin_bl I q (by simp))
  | int i => obtain ⟨t, rfl⟩ := rx; exact wpAny_pure (fin_bl I q (by simp))
  | str i => obtain ⟨t, rfl⟩ := rx; exact wpAny_pure (fin_bl I q (by simp))
  | byt i => obtain ⟨t, rfl⟩ := rx; exact wpAny_pure (fin_bl I q (by simp))
  | flt i => obtain ⟨t, rfl⟩ := rx; exact wpAny_pure (fin_bl I q (by simp))
  | ref a => cases (show v = Value.ref a from rx); exact wpAny_pure (fin_bl I q (by simp))
  | ty n => cases (show v = Value.type n from rx); exact wpAny_pure (fin_bl I q (by simp))
theorem isNon_at {p : Pt} {d : D} {x : V} (r : RV G p.H p.N p.α d x) : decide (x = V.non) = isNonD d := by
  cases r <;> rfl
theorem isBl_at {p : Pt} {d : D} {x : V} (r : RV G p.H p.N p.α d x) (b : Bool) : decide (x = V.bl b) = isBlD d b := by
  cases r with
  | bl a => by_cases e : a = b <;> simp [isBlD, e]
  | _ => simp [isBlD]
theorem ok2_is : Ok2 G X (compareOp .Is) (fun S => o2 S .is_) := by
  intro p x y dx dy d Q h rx ry e k
  simp only [o2, Option.map_eq_some_iff] at e
  obtain ⟨c, e1, rfl⟩ := e
  cases ry with
  | non =>
    cases e1
    refine ⟨_, op_isN, rfl, ?_⟩
    rw [isNon_at rx]
    exact at_hand h k (.bl _)
  | bl b =>
    cases e1
    refine ⟨_, op_isB, b, rfl, ?_⟩
    rw [isBl_at rx]
    exact at_hand h k (.bl _)
  | _ => cases e1
theorem ok2_isn : Ok2 G X (compareOp .IsNot) (fun S => o2 S .isn) := by
  intro p x y dx dy d Q h rx ry e k
  simp only [o2, Option.map_eq_some_iff] at e
  obtain ⟨c, e1, rfl⟩ := e
  cases ry with
  | non =>
    cases e1
    refine ⟨_, op_notN, rfl, ?_⟩
    rw [isNon_at rx]
    exact at_hand h k (.bl _)
  | bl b =>
    cases e1
    refine ⟨_, op_isnB, b, rfl, ?_⟩
    rw [isBl_at rx]
    exact at_hand h k (.bl _)
  | _ => cases e1

/-! ### dicts by key, items by place -/
theorem dic_at {p : Pt} (h : p.ok G) {d : D} {ks : List Key} {ds : List D} {v : V} (e : dicOf p.S d = some (ks, ds)) (r : RV G p.H p.N p.α d v) :
    ∃ (a : Addr) (kvs : List (Key × V)), v = .ref a ∧ Rd p.H a (.dK kvs) ∧ kvs.map (·.1) = ks ∧ RVs G p.H p.N p.α ds (kvs.map (·.2)) := by
  cases r with
  | dic h1 h2 h3 h4 => cases e; exact ⟨_, _, rfl, h1, h3, h4⟩
  | @ref n a ea =>
    simp only [dicOf] at e
    cases hc : cellOf p.S n with
    | none => rw [hc] at e; cases e
    | some c =>
      rw [hc] at e
      cases c with
      | dic _ _ =>
        cases e
        obtain ⟨_, kvs, e1, e2, e3⟩ := live_cell h hc ea
        exact ⟨a, kvs, rfl, .inl e1, e2, e3⟩
      | lst _ => cases e
      | obj _ _ _ => cases e
  | non => cases e
  | bl => cases e
  | int => cases e
  | str => cases e
  | tup => cases e
  | lst => cases e
  | scr => cases e
  | obj => cases e
theorem look_at {p : Pt} : ∀ {kvs : List (Key × V)} {ds : List D} (k : Key), RVs G p.H p.N p.α ds (kvs.map (·.2)) →
    (∀ d, lookKV (kvs.map (·.1)) ds k = some d → ∃ v, valV kvs k = some v ∧ RV G p.H p.N p.α d v) ∧ (lookKV (kvs.map (·.1)) ds k = none → valV kvs k = none)
  | [], [], k, _ => ⟨(fun d e => nomatch (show (none : Option D) = some d from e)), fun _ => rfl⟩
  | [], _ :: _, k, r => by cases r
  | q :: r, [], k, h => by cases h
  | q :: r, d :: ds, k, h => by
    cases h with
    | cons h1 h2 =>
      have ih := look_at (kvs := r) k h2
      simp only [List.map_cons, lookKV]
      by_cases e : q.1 = k
      · rw [if_pos e]
        exact ⟨fun d2 e2 => ⟨q.2, valV_pos e, by cases e2; exact h1⟩, fun z => nomatch z⟩
      · rw [if_neg e, valV_neg e]
        exact ih
theorem key_at {p : Pt} {d : D} {k : Key} {v : V} (e : keyOf d = some k) (r : RV G p.H p.N p.α d v) : v = kV k := by
  cases r with
  | int i => cases e; rfl
  | str s => cases e; rfl
  | _ => cases e
theorem ix_dict (hu : X.A.units + 1 < cLine) : IxR X (fun x y H Q => ∃ a v, x = .ref a ∧ DGet H a y (some v) ∧ Q v H) := by
  intro value slice pins s σ H x y v u Q I rx ry h hs
  obtain ⟨a, z, rfl, g, q⟩ := h
  obtain rfl : v = Value.ref a := rx
  have hT := dict_typeIs I g
  unfold subscriptTail
  refine wpAny_bind ?_
  rw [getitemInPython_of_ne hT.not_modules]
  refine wpAny_bind (wpAny_specialOf hT PySem.F.slot_dict_getitem.lookup ?_)
  have fin : wpAny (model X.prog X.w) X.A (subscripted slice false (.ref a) u) (fun r s₃ => wpAny (model X.prog X.w) X.A (letTemporaryGo value (.ref a) r >>= fun _ => pure r) (EP X pins σ Q) X.xe s₃) X.xe s := by
    rw [hs]
    exact wpAny_operating (d_getItem hu I g ry fun w' s3 I3 rw' => wpAny_bind (wpAny_letTemporaryGo (wpAny_pure ⟨z, H, I3, rw', q⟩)))
  first
    | exact wpAny_pure (wpAny_bind fin)
    | exact wpAny_bind (wpAny_pure (wpAny_bind fin))
    | exact wpAny_bind fin
theorem RVs.len_eq {p : Pt} {ds : List D} {vs : List V} (r : RVs G p.H p.N p.α ds vs) : ds.length = vs.length := r.length
theorem atI_rv {p : Pt} {ds : List D} {vs : List V} (r : RVs G p.H p.N p.α ds vs) {i : Int} {d : D} (e : atI ds i = some d) : ∃ v, atI vs i = some v ∧ RV G p.H p.N p.α d v := by
  unfold atI at e ⊢
  rw [r.length] at e
  cases h : ixN vs.length i with
  | none => rw [h] at e; cases e
  | some j =>
    rw [h] at e
    obtain ⟨v, e1, e2⟩ := r.get (show ds[j]? = some d from e)
    exact ⟨v, e1, e2⟩
def OkIx (G : Gn) (X : Cx) : Prop :=
  ∀ (p : Pt) (x y : V) (dx dy d : D) (Q : VK), p.ok G → RV G p.H p.N p.α dx x → RV G p.H p.N p.α dy y → idxD p.S dx dy = some d →
    (∀ v q, q.S = p.S → q.ok G → p.to q → RV G q.H q.N q.α d v → Q v q.H) → ∃ r, IxR X r ∧ r x y p.H Q
theorem ok_ix (hK : X.K = G.K) (hu : X.A.units + 1 < cLine) : OkIx G X := by
  intro p x y dx dy d Q h rx ry e k
  unfold idxD at e
  cases h1 : seqOf p.S dx with
  | some ds =>
    rw [h1] at e
    obtain ⟨a, xs, rfl, hs, r⟩ := seq_at h h1 rx
    cases ry with
    | int i =>
      obtain ⟨v, e1, e2⟩ := atI_rv r e
      rw [← hK] at hs
      rcases hs with hs | hs
      · exact ⟨_, ix_list, a, xs, i, v, rfl, rfl, hs, e1, at_hand h k e2⟩
      · exact ⟨_, ix_tup, a, xs, i, v, rfl, rfl, hs, e1, at_hand h k e2⟩
    | _ => cases e
  | none =>
    rw [h1] at e
    cases h2 : dicOf p.S dx with
    | some kd =>
      obtain ⟨ks, ds⟩ := kd
      rw [h2] at e
      simp only at e
      cases h3 : keyOf dy with
      | none => rw [h3] at e; cases e
      | some q =>
        rw [h3] at e
        obtain ⟨a, kvs, rfl, hr, rfl, r⟩ := dic_at h h2 rx
        obtain ⟨v, e1, e2⟩ := (look_at q r).1 d e
        exact ⟨_, ix_dict hu, a, v, rfl, .inl ⟨kvs, q, hr, key_at h3 ry, e1.symm⟩, at_hand h k e2⟩
    | none =>
      rw [h2] at e
      cases rx with
      | str s => cases ry with
        | int i =>
          simp only at e
          split at e
          · rename_i hl
            simp only [Option.map_eq_some_iff] at e
            obtain ⟨c, e1, rfl⟩ := e
            exact ⟨_, ix_str, s, i, c, rfl, rfl, hl, e1, at_hand h k (.str _)⟩
          · cases e
        | _ => cases e
      | _ => cases e
theorem op_inT (hu : X.A.units + 65 < cLine) : OpR X (compareOp .In) (fun x y H Q => ∃ d ds, Dp X.K H x d ∧ Dp X.K H y (.tuple ds) ∧ SeqAt.shaped d = true ∧ SeqAt.shaped (.tuple ds) = true ∧ Q (.bl (ds.any fun z => PyData.eqv z d)) H) := by
  intro pins s σ H x y v u Q I rx ry h
  obtain ⟨d, ds, hd, he, sd, se, q⟩ := h
  obtain ⟨as, r1⟩ := Dp.reads I d x v hd rx
  obtain ⟨bs, r2⟩ := Dp.reads I (.tuple ds) y u he ry
  exact SeqAt.in_tuple_reads r2 r1 (SeqAt.canLay_of_shaped se) (SeqAt.canLay_of_shaped sd) (room_in_shaped sd hu) ⟨.bl _, H, I, rfl, q⟩
theorem op_notInT (hu : X.A.units + 65 < cLine) : OpR X (compareOp .NotIn) (fun x y H Q => ∃ d ds, Dp X.K H x d ∧ Dp X.K H y (.tuple ds) ∧ SeqAt.shaped d = true ∧ SeqAt.shaped (.tuple ds) = true ∧ Q (.bl (!ds.any fun z => PyData.eqv z d)) H) := by
  intro pins s σ H x y v u Q I rx ry h
  obtain ⟨d, ds, hd, he, sd, se, q⟩ := h
  obtain ⟨as, r1⟩ := Dp.reads I d x v hd rx
  obtain ⟨bs, r2⟩ := Dp.reads I (.tuple ds) y u he ry
  exact SeqAt.notIn_tuple_reads r2 r1 (SeqAt.canLay_of_shaped se) (SeqAt.canLay_of_shaped sd) (room_in_shaped sd hu) ⟨.bl _, H, I, rfl, q⟩
theorem op_inK (hu : X.A.units + 1 < cLine) : OpR X (compareOp .In) (fun y x H Q => ∃ a o, x = .ref a ∧ DGet H a y o ∧ Q (.bl o.isSome) H) := by
  intro pins s σ H y x iv u Q I ry rx h
  obtain ⟨a, o, rfl, g, q⟩ := h
  obtain rfl : u = Value.ref a := rx
  exact d_in hu I g ry fun s3 I3 => ⟨.bl o.isSome, H, I3, rfl, q⟩
theorem op_notInK (hu : X.A.units + 1 < cLine) : OpR X (compareOp .NotIn) (fun y x H Q => ∃ a o, x = .ref a ∧ DGet H a y o ∧ Q (.bl (!o.isSome)) H) := by
  intro pins s σ H y x iv u Q I ry rx h
  obtain ⟨a, o, rfl, g, q⟩ := h
  obtain rfl : u = Value.ref a := rx
  exact d_notIn hu I g ry fun s3 I3 => ⟨.bl (!o.isSome), H, I3, rfl, q⟩
/-- what in comes down to -/
theorem inD_at {p : Pt} (h : p.ok G) {a b : D} {x y : V} {c : Bool} (e : inD p.S a b = some c) (rx : RV G p.H p.N p.α a x) (ry : RV G p.H p.N p.α b y) :
    (∃ (q : Addr) (o : Option V), y = .ref q ∧ DGet p.H q x o ∧ c = o.isSome) ∨ (∃ i j, x = .str i ∧ y = .str j ∧ c = strIn i j) ∨
    (∃ d ds, Dp G.K p.H x d ∧ Dp G.K p.H y (.list ds) ∧ SeqAt.shaped d = true ∧ SeqAt.shaped (.list ds) = true ∧ c = ds.any fun z => PyData.eqv z d) ∨
    ∃ d ds, Dp G.K p.H x d ∧ Dp G.K p.H y (.tuple ds) ∧ SeqAt.shaped d = true ∧ SeqAt.shaped (.tuple ds) = true ∧ c = ds.any fun z => PyData.eqv z d := by
  unfold inD at e
  cases h2 : dicOf p.S b with
  | some kd =>
    obtain ⟨ks, ds⟩ := kd
    rw [h2] at e
    simp only at e
    cases h3 : keyOf a with
    | none => rw [h3] at e; cases e
    | some q =>
      rw [h3] at e
      cases e
      obtain ⟨ad, kvs, rfl, hr, rfl, r⟩ := dic_at h h2 ry
      refine .inl ⟨ad, valV kvs q, rfl, .inl ⟨kvs, q, hr, key_at h3 rx, rfl⟩, ?_⟩
      cases h4 : lookKV (kvs.map (·.1)) ds q with
      | none => rw [(look_at q r).2 h4]; rfl
      | some d => obtain ⟨v, e1, _⟩ := (look_at q r).1 d h4; rw [e1]; rfl
  | none =>
    rw [h2] at e
    simp only at e
    have fin : ∀ {d : PyData} {z : PyData}, deep p.S 60 a = some d → deep p.S 60 b = some z → Dp G.K p.H x d ∧ Dp G.K p.H y z := fun h3 h4 => ⟨deep_at h 60 h3 rx, deep_at h 60 h4 ry⟩
    split at e
    · split at e
      · cases rx; cases ry; cases e
        exact .inr (.inl ⟨_, _, rfl, rfl, rfl⟩)
      · cases e
    · cases h3 : deep p.S 60 a with
      | none => rw [h3] at e; cases e
      | some d =>
        cases h4 : deep p.S 60 b with
        | none => rw [h3, h4] at e; cases e
        | some z =>
          obtain ⟨f1, f2⟩ := fin h3 h4
          rw [h3, h4] at e
          cases z with
          | list ds =>
            simp only at e
            split at e
            · rename_i hs
              rw [Bool.and_eq_true] at hs
              cases e
              exact .inr (.inr (.inl ⟨d, ds, f1, f2, hs.1, hs.2, rfl⟩))
            · cases e
          | tuple ds =>
            simp only at e
            split at e
            · rename_i hs
              rw [Bool.and_eq_true] at hs
              cases e
              exact .inr (.inr (.inr ⟨d, ds, f1, f2, hs.1, hs.2, rfl⟩))
            · cases e
          | _ => cases e
theorem ok2_in (hK : X.K = G.K) (hu : X.A.units + 65 < cLine) : Ok2 G X (compareOp .In) (fun S => o2 S .in_) := by
  intro p x y dx dy d Q h rx ry e k
  simp only [o2, Option.map_eq_some_iff] at e
  obtain ⟨c, e1, rfl⟩ := e
  rcases inD_at h e1 rx ry with ⟨q, o, rfl, g, rfl⟩ | ⟨i, j, rfl, rfl, rfl⟩ | ⟨d, ds, h1, h2, s1, s2, rfl⟩ | ⟨d, ds, h1, h2, s1, s2, rfl⟩
  · exact ⟨_, op_inK (by omega), q, o, rfl, g, at_hand h k (.bl _)⟩
  · exact ⟨_, op_in_str, i, j, rfl, rfl, at_hand h k (.bl _)⟩
  · exact ⟨_, op_inD hu, d, ds, by rw [hK]; exact h1, by rw [hK]; exact h2, s1, s2, at_hand h k (.bl _)⟩
  · exact ⟨_, op_inT hu, d, ds, by rw [hK]; exact h1, by rw [hK]; exact h2, s1, s2, at_hand h k (.bl _)⟩
theorem ok2_nin (hK : X.K = G.K) (hu : X.A.units + 65 < cLine) : Ok2 G X (compareOp .NotIn) (fun S => o2 S .nin) := by
  intro p x y dx dy d Q h rx ry e k
  simp only [o2, Option.map_eq_some_iff] at e
  obtain ⟨c, e1, rfl⟩ := e
  rcases inD_at h e1 rx ry with ⟨q, o, rfl, g, rfl⟩ | ⟨i, j, rfl, rfl, rfl⟩ | ⟨d, ds, h1, h2, s1, s2, rfl⟩ | ⟨d, ds, h1, h2, s1, s2, rfl⟩
  · exact ⟨_, op_notInK (by omega), q, o, rfl, g, at_hand h k (.bl _)⟩
  · exact ⟨_, op_notin_str, i, j, rfl, rfl, at_hand h k (.bl _)⟩
  · exact ⟨_, op_notInD hu, d, ds, by rw [hK]; exact h1, by rw [hK]; exact h2, s1, s2, at_hand h k (.bl _)⟩
  · exact ⟨_, op_notInT hu, d, ds, by rw [hK]; exact h1, by rw [hK]; exact h2, s1, s2, at_hand h k (.bl _)⟩
end
end EV
set_option Elab.async false
set_option linter.all false
set_option maxRecDepth 100000
/-! EV, part E: expressions put together. -/
namespace EV
open PySem PySem.Spec PyProof.Rows L2 LamX
section
variable {G : Gn} {X : Cx} {W : WX} {a b e : Expr} {xa xb xc : Env' → Store → Rs D} {pos : Pos}
theorem PE.imp {t t' : TE} (h : PE X e t) (k : ∀ σ H Q, t' σ H Q → t σ H Q) : PE X e t' := ⟨fun pins s σ H Q I q => h.run pins s σ H Q I (k _ _ _ q)⟩
theorem PT.imp {t t' : TT} (h : PT X e t) (k : ∀ σ H Q, t' σ H Q → t σ H Q) : PT X e t' := ⟨fun pins s σ H Q I q => h.run pins s σ H Q I (k _ _ _ q)⟩
theorem PW.imp {t t' : TT} (h : PW X e t) (k : ∀ σ H Q, t' σ H Q → t σ H Q) : PW X e t' := ⟨fun wh pins s σ H Q I q => h.run wh pins s σ H Q I (k _ _ _ q)⟩
theorem PA.imp {es : List Expr} {t t' : TA} (h : PA X es t) (k : ∀ σ H Q, t' σ H Q → t σ H Q) : PA X es t' := ⟨fun ps pins s σ H Q I q => h.run ps pins s σ H Q I (k _ _ _ q)⟩
/-- one operand first -/
theorem tE_seq {x : Env' → Store → Rs D} {k : D → Env' → Store → Rs D} {σ : L2.St} {H : Hp} {Q : VK} (h : tE G W (fun ρ S => (x ρ S).bind fun d S1 => k d ρ S1) σ H Q) :
    tE G W x σ H fun v H1 => ∃ d p ρ, p.H = H1 ∧ p.ok G ∧ RE G p ρ σ ∧ RV G p.H p.N p.α d v ∧ Post G (RelD G) p (k d ρ p.S) Q (fun c dd H' => W c dd σ H') := by
  obtain ⟨p, ρ, rfl, ok, re, z⟩ := h
  refine ⟨p, ρ, rfl, ok, re, (Post.seq (Rel := RelD G) ok z).imp fun v H1 ⟨d, r, e1, o1, t1, r1, z1⟩ => ?_⟩
  exact ⟨d, r, ρ, e1, o1, re.mono ok t1, r1, z1⟩
theorem tE_of {p : Pt} {ρ : Env'} {σ : L2.St} {Q : VK} {x : Env' → Store → Rs D} (ok : p.ok G) (re : RE G p ρ σ) (z : Post G (RelD G) p (x ρ p.S) Q (fun c dd H' => W c dd σ H')) : tE G W x σ p.H Q := ⟨p, ρ, rfl, ok, re, z⟩
theorem snd_two {f : Value → Value → Sem Value} {g : Store → D → D → Option D} (ho : Ok2 G X f g) (k : ∀ {r : R2}, OpR X f r → PE X e (tOp r (tE G W xa) (tE G W xb))) :
    PE X e (tE G W fun ρ S => (xa ρ S).bind fun x S1 => (xb ρ S1).bind fun y S2 => Rs.of S2 (g S2 x y)) := by
  refine PE.imp (k op_any) fun σ H Q h => ?_
  obtain ⟨p0, ρ0, rfl, ok0, re0, z0⟩ := h
  refine ⟨p0, ρ0, rfl, ok0, re0, (Post.seq (Rel := RelD G) ok0 z0).imp fun x H1 ⟨dx, p1, e1, ok1, t1, rx, z1⟩ => ?_⟩
  subst e1
  refine ⟨p1, ρ0, rfl, ok1, re0.mono ok0 t1, (Post.seq (Rel := RelD G) ok1 z1).imp fun y H2 ⟨dy, p2, e2, ok2, t2, ry, z2⟩ => ?_⟩
  subst e2
  obtain ⟨d, hd, z3⟩ := Post.of z2
  exact ho p2 x y dx dy d Q ok2 (t2.rv ok1 rx) ry hd fun v q hS hq ht hv => z3 v q hS hq ht hv
theorem snd_bin {op : Operator} {g : Store → D → D → Option D} (ho : Ok2 G X (binaryOp op) g) (ha : PE X a (tE G W xa)) (hb : PE X b (tE G W xb)) :
    PE X (.BinOp a op b pos) (tE G W fun ρ S => (xa ρ S).bind fun x S1 => (xb ρ S1).bind fun y S2 => Rs.of S2 (g S2 x y)) := snd_two ho fun o => pe_op o ha hb
theorem snd_cmp {op : CmpOp} {g : Store → D → D → Option D} (ho : Ok2 G X (compareOp op) g) (hm : behindInMarks op b = false) (ha : PE X a (tE G W xa)) (hb : PE X b (tE G W xb)) :
    PE X (.Compare a [op] [b] pos) (tE G W fun ρ S => (xa ρ S).bind fun x S1 => (xb ρ S1).bind fun y S2 => Rs.of S2 (g S2 x y)) := snd_two ho fun o => pe_cmpR o ha hb hm
theorem snd_ix (ho : OkIx G X) (hs : PlainIx b) (ha : PE X a (tE G W xa)) (hb : PE X b (tE G W xb)) :
    PE X (.Subscript a b pos) (tE G W fun ρ S => (xa ρ S).bind fun x S1 => (xb ρ S1).bind fun y S2 => Rs.of S2 (idxD S2 x y)) := by
  refine PE.imp (pe_ix ix_any ha hb hs) fun σ H Q h => ?_
  obtain ⟨p0, ρ0, rfl, ok0, re0, z0⟩ := h
  refine ⟨p0, ρ0, rfl, ok0, re0, (Post.seq (Rel := RelD G) ok0 z0).imp fun x H1 ⟨dx, p1, e1, ok1, t1, rx, z1⟩ => ?_⟩
  subst e1
  refine ⟨p1, ρ0, rfl, ok1, re0.mono ok0 t1, (Post.seq (Rel := RelD G) ok1 z1).imp fun y H2 ⟨dy, p2, e2, ok2, t2, ry, z2⟩ => ?_⟩
  subst e2
  obtain ⟨d, hd, z3⟩ := Post.of z2
  exact ho p2 x y dx dy d Q ok2 (t2.rv ok1 rx) ry hd fun v q hS hq ht hv => z3 v q hS hq ht hv

/-! ### names and constants -/
theorem snd_name {i : Nat} {x : Str} (hN : X.N[i]? = some x) (hv : Vis X.env.scope x) (hd : (x == ("__debug__" : Str)) = false) (hcd : (x == ("__classdict__" : Str)) = false) :
    PE X (.Name x pos) (tE G W fun ρ S => Rs.of S (ρ[i]?).join) := by
  refine PE.imp (pe_var hN hv hd hcd) fun σ H Q h => ?_
  obtain ⟨p, ρ, rfl, ok, re, z⟩ := h
  obtain ⟨d, e, z⟩ := Post.of z
  have e' : ρ[i]? = some (some d) := by
    cases q : ρ[i]? with
    | none => rw [q] at e; cases e
    | some o => rw [q] at e; cases o with
      | none => cases e
      | some y => simp at e; rw [e]
  obtain ⟨v, e1, e2⟩ := re.get i d e'
  exact ⟨v, e1, z.here ok e2⟩
theorem snd_const {d : D} {v : V} (hp : PE X e (tC v)) (r : ∀ p : Pt, RV G p.H p.N p.α d v) : PE X e (tE G W fun _ S => .ok d S) := by
  refine PE.imp hp fun σ H Q h => ?_
  obtain ⟨p, ρ, rfl, ok, re, z⟩ := h
  exact Post.here (Rel := RelD G) z ok (r p)
theorem snd_glob {n : Nat} {v : V} {gl : Nat → Option D} (hp : PE X e (tC v)) (r : ∀ (p : Pt) (d : D), gl n = some d → RV G p.H p.N p.α d v) : PE X e (tE G W fun _ S => Rs.of S (gl n)) := by
  refine PE.imp hp fun σ H Q h => ?_
  obtain ⟨p, ρ, rfl, ok, re, z⟩ := h
  obtain ⟨d, e, z⟩ := Post.of z
  exact Post.here (Rel := RelD G) z ok (r p d e)

/-! ### truth -/
theorem truth_at {p : Pt} (h : p.ok G) {d : D} {x : V} {k : Bool} (e : truth p.S d = some k) (r : RV G p.H p.N p.α d x) : TruV G.K x p.H k := by
  have sq : ∀ {dd : D}, RV G p.H p.N p.α dd x → (match seqOf p.S dd with | some xs => some !xs.isEmpty | none => none) = some k → TruV G.K x p.H k := fun {dd} r e => by
    cases h1 : seqOf p.S dd with
    | none => rw [h1] at e; cases e
    | some ds =>
      rw [h1] at e
      cases e
      obtain ⟨a, xs, rfl, hs, rs⟩ := seq_at h h1 r
      have l : (!ds.isEmpty) = !xs.isEmpty := by cases rs <;> rfl
      rcases hs with hs | hs
      · exact .inl ⟨xs, hs, l⟩
      · exact .inr (.inl ⟨xs, hs, l⟩)
  cases r with
  | non => cases e; rfl
  | bl b => cases e; rfl
  | int i => cases e; rfl
  | str s =>
    simp only [truth] at e
    split at e
    · rename_i hl
      cases e
      refine ⟨hl, ?_⟩
      cases h0 : s.length <;> simp [bne, h0]
      omega
    · cases e
  | tup h1 h2 => exact sq (.tup h1 h2) e
  | lst h1 h2 h3 => exact sq (.lst h1 h2 h3) e
  | scr h1 h2 => exact sq (.scr h1 h2) e
  | ref h1 => exact sq (.ref h1) e
  | dic => cases e
  | obj => cases e
/-- the test of a plain expression -/
theorem snd_test (hK : X.K = G.K) (he : ∀ whole, isTrue a X.env whole = (do let v ← whole; standAt a.pos; holding [v] (truthy v))) (ha : PE X a (tE G W xa)) :
    PT X a (tT G W fun ρ S => (xa ρ S).bind fun x S1 => Rs.of S1 (truth S1 x)) := by
  refine PT.imp (pt_truth ha he) fun σ H Q h => ?_
  obtain ⟨p0, ρ0, rfl, ok0, re0, z0⟩ := h
  refine ⟨p0, ρ0, rfl, ok0, re0, (Post.seq (Rel := RelD G) ok0 z0).imp fun x H1 ⟨dx, p1, e1, ok1, t1, rx, z1⟩ => ?_⟩
  subst e1
  obtain ⟨k, hk, z2⟩ := Post.of z1
  exact ⟨k, by rw [hK]; exact truth_at ok1 hk rx, Post.here (Rel := RelB) z2 ok1 rfl⟩

/-! ### built-in functions of one value -/
def OkC1 (G : Gn) (X : Cx) (f : Value) (g : Store → D → Option D) : Prop :=
  ∀ (p : Pt) (x : V) (dx d : D) (Q : VK), p.ok G → RV G p.H p.N p.α dx x → g p.S dx = some d →
    (∀ v q, q.S = p.S → q.ok G → p.to q → RV G q.H q.N q.α d v → Q v q.H) → ∃ r, CallR X f r ∧ r [x] p.H Q
theorem snd_one {g : Store → D → Option D} {r' : V → Hp → VK → Prop}
    (ho : ∀ (p : Pt) (x : V) (dx d : D) (Q : VK), p.ok G → RV G p.H p.N p.α dx x → g p.S dx = some d → (∀ v q, q.S = p.S → q.ok G → p.to q → RV G q.H q.N q.α d v → Q v q.H) → r' x p.H Q)
    (k : PE X e (fun σ H Q => tE G W xa σ H fun x H1 => r' x H1 Q)) :
    PE X e (tE G W fun ρ S => (xa ρ S).bind fun x S1 => Rs.of S1 (g S1 x)) := by
  refine PE.imp k fun σ H Q h => ?_
  obtain ⟨p0, ρ0, rfl, ok0, re0, z0⟩ := h
  refine ⟨p0, ρ0, rfl, ok0, re0, (Post.seq (Rel := RelD G) ok0 z0).imp fun x H1 ⟨dx, p1, e1, ok1, t1, rx, z1⟩ => ?_⟩
  subst e1
  obtain ⟨d, hd, z3⟩ := Post.of z1
  exact ho p1 x dx d Q ok1 rx hd fun v q hS hq ht hv => z3 v q hS hq ht hv
theorem snd_call1 {f : Value} {g : Store → D → Option D} (ho : OkC1 G X f g) (k : ∀ {r : List V → Hp → VK → Prop}, CallR X f r → PE X e (tCB r (tCons (tE G W xa) tNil))) :
    PE X e (tE G W fun ρ S => (xa ρ S).bind fun x S1 => Rs.of S1 (g S1 x)) :=
  snd_one (r' := fun x H Q => ∃ r, CallR X f r ∧ r [x] H Q) ho (k call_any)
theorem ints_at {p : Pt} : ∀ {ds : List D} {vs : List V} {is : List Int}, RVs G p.H p.N p.α ds vs → ds.mapM intOf = some is → vs = is.map V.int
  | _, _, _, .nil, e => by cases e; rfl
  | _, _, _, .cons r rs, e => by
    obtain ⟨b, bs, e1, e2, rfl⟩ := mapM_cons_some e
    cases r with
    | int i => cases e1; rw [ints_at rs e2]; rfl
    | _ => cases e1
theorem bls_at {p : Pt} : ∀ {ds : List D} {vs : List V} {is : List Bool}, RVs G p.H p.N p.α ds vs → ds.mapM blOf = some is → vs = is.map V.bl
  | _, _, _, .nil, e => by cases e; rfl
  | _, _, _, .cons r rs, e => by
    obtain ⟨b, bs, e1, e2, rfl⟩ := mapM_cons_some e
    cases r with
    | bl i => cases e1; rw [bls_at rs e2]; rfl
    | _ => cases e1
theorem call_len_d : CallR X (.builtin "len") (fun xs H Q => ∃ a kvs, xs = [V.ref a] ∧ Rd H a (.dK kvs) ∧ Q (.int kvs.length) H) := by
  intro pins s σ H xs us Q I r h
  obtain ⟨a, kvs, rfl, e, q⟩ := h
  cases r with
  | cons r rt =>
    cases rt
    rename_i u
    obtain rfl : u = Value.ref a := r
    exact d_len I e fun t s' I' => ⟨.int kvs.length, H, I', ⟨t, rfl⟩, q⟩
theorem okc_len (hK : X.K = G.K) : OkC1 G X (.builtin "len") (fun S => o1 S .len) := by
  intro p x dx d Q h rx e k
  have sq : ∀ {dd : D}, RV G p.H p.N p.α dd x → (match seqOf p.S dd with
    | some xs => some (D.int xs.length)
    | none => match dicOf p.S dd with
      | some (ks, _) => some (D.int ks.length)
      | none => none) = some d → ∃ r, CallR X (.builtin "len") r ∧ r [x] p.H Q := fun {dd} r e => by
    cases h1 : seqOf p.S dd with
    | some ds =>
      rw [h1] at e
      cases e
      obtain ⟨a, xs, rfl, hs, rs⟩ := seq_at h h1 r
      rw [← hK] at hs
      exact ⟨_, call_len_seq, a, xs, rfl, hs, by rw [rs.length] at k; exact at_hand h k (.int _)⟩
    | none =>
      rw [h1] at e
      cases h2 : dicOf p.S dd with
      | none => rw [h2] at e; cases e
      | some kd =>
        obtain ⟨ks, ds⟩ := kd
        rw [h2] at e
        cases e
        obtain ⟨a, kvs, rfl, hr, rfl, rs⟩ := dic_at h h2 r
        exact ⟨_, call_len_d, a, kvs, rfl, hr, by rw [List.length_map] at k; exact at_hand h k (.int _)⟩
  cases rx with
  | str s =>
    simp only [o1] at e
    split at e
    · rename_i hl
      cases e
      exact ⟨_, call_len_str, s, rfl, hl, at_hand h k (.int _)⟩
    · cases e
  | tup h1 h2 => exact sq (.tup h1 h2) e
  | lst h1 h2 h3 => exact sq (.lst h1 h2 h3) e
  | scr h1 h2 => exact sq (.scr h1 h2) e
  | ref h1 => exact sq (.ref h1) e
  | dic h1 h2 h3 h4 => exact sq (.dic h1 h2 h3 h4) e
  | obj h1 h2 h3 h4 => exact sq (.obj h1 h2 h3 h4) e
  | non => cases e
  | bl => cases e
  | int => cases e
theorem okc_tuple (hK : X.K = G.K) : OkC1 G X (.type "tuple") (fun S => o1 S .tuple) := by
  intro p x dx d Q h rx e k
  simp only [o1, Option.map_eq_some_iff] at e
  obtain ⟨ds, h1, rfl⟩ := e
  cases rx with
  | tup h3 h4 =>
    cases h1
    exact ⟨_, call_tupleT, _, _, rfl, by rw [hK]; exact h3.sq, at_hand h k (.tup h3 h4)⟩
  | scr h3 h4 =>
    cases h1
    exact ⟨_, call_tuple_of, _, _, rfl, .inl ⟨by rw [hK]; exact h3.sq, fun l hl => at_new h k hl fun q e1 e2 e3 c e4 e5 => .tup (.inl ⟨.inl e4, e5⟩) (h4.mono c)⟩⟩
  | lst h3 _ h4 =>
    cases h1
    exact ⟨_, call_tuple_of, _, _, rfl, .inl ⟨SqL.of h3, fun l hl => at_new h k hl fun q e1 e2 e3 c e4 e5 => .tup (.inl ⟨.inl e4, e5⟩) (h4.mono c)⟩⟩
  | ref h3 =>
    obtain ⟨a, xs, e1, hs, rs⟩ := lst_at (ds := ds) h (by
      simp only [seqOf] at h1
      simp only [lstOf]
      exact h1) (RV.ref h3)
    cases e1
    exact ⟨_, call_tuple_of, _, _, rfl, .inl ⟨SqL.of hs, fun l hl => at_new h k hl fun q e1 e2 e3 c e4 e5 => .tup (.inl ⟨.inl e4, e5⟩) (rs.mono c)⟩⟩
  | _ => cases h1
theorem okc_int : OkC1 G X (.type "int") (fun S => o1 S .int) := by
  intro p x dx d Q h rx e k
  cases rx with
  | int i => cases e; exact ⟨_, call_int1, .inl ⟨i, rfl, at_hand h k (.int _)⟩⟩
  | bl b => cases e; exact ⟨_, call_int1, .inr ⟨b, rfl, at_hand h k (.int _)⟩⟩
  | _ => cases e
theorem okc_abs : OkC1 G X (.builtin "abs") (fun S => o1 S .abs) := by
  intro p x dx d Q h rx e k
  cases rx with
  | int i => cases e; exact ⟨_, call_abs, i, rfl, at_hand h k (.int _)⟩
  | _ => cases e
theorem okc_sum (hK : X.K = G.K) (hc : X.calm = true) : OkC1 G X (.builtin "sum") (fun S => o1 S .sum) := by
  intro p x dx d Q h rx e k
  have e' : (match lstOf p.S dx with | some xs => (xs.mapM intOf).map fun is => D.int is.sum | none => none) = some d := by
    cases dx <;> exact e
  cases h1 : lstOf p.S dx with
  | none => rw [h1] at e'; cases e'
  | some ds =>
    rw [h1] at e'
    simp only [Option.map_eq_some_iff] at e'
    obtain ⟨is, h2, rfl⟩ := e'
    obtain ⟨a, xs, rfl, hs, rs⟩ := lst_at h h1 rx
    rw [ints_at rs h2] at hs
    exact ⟨_, cr_sum hc, a, is, rfl, SqL.of hs, at_hand h k (.int _)⟩
theorem okc_all (hK : X.K = G.K) (hc : X.calm = true) : OkC1 G X (.builtin "all") (fun S => o1 S .all) := by
  intro p x dx d Q h rx e k
  have e' : (match lstOf p.S dx with | some xs => (xs.mapM blOf).map fun is => D.bl (is.all id) | none => none) = some d := by
    cases dx <;> exact e
  cases h1 : lstOf p.S dx with
  | none => rw [h1] at e'; cases e'
  | some ds =>
    rw [h1] at e'
    simp only [Option.map_eq_some_iff] at e'
    obtain ⟨is, h2, rfl⟩ := e'
    obtain ⟨a, xs, rfl, hs, rs⟩ := lst_at h h1 rx
    rw [bls_at rs h2] at hs
    exact ⟨_, cr_all hc, a, is, rfl, SqL.of hs, at_hand h k (.bl _)⟩
theorem okc_any (hK : X.K = G.K) (hc : X.calm = true) : OkC1 G X (.builtin "any") (fun S => o1 S .any) := by
  intro p x dx d Q h rx e k
  have e' : (match lstOf p.S dx with | some xs => (xs.mapM blOf).map fun is => D.bl (is.any id) | none => none) = some d := by
    cases dx <;> exact e
  cases h1 : lstOf p.S dx with
  | none => rw [h1] at e'; cases e'
  | some ds =>
    rw [h1] at e'
    simp only [Option.map_eq_some_iff] at e'
    obtain ⟨is, h2, rfl⟩ := e'
    obtain ⟨a, xs, rfl, hs, rs⟩ := lst_at h h1 rx
    rw [bls_at rs h2] at hs
    exact ⟨_, cr_any hc, a, is, rfl, SqL.of hs, at_hand h k (.bl _)⟩
theorem okc_str_i : OkC1 G X (.type "str") (fun S => o1 S .str) := by
  intro p x dx d Q h rx e k
  cases rx with
  | int i =>
    simp only [o1] at e
    split at e
    · rename_i hl
      cases e
      exact ⟨_, call_str_int, i, rfl, hl, at_hand h k (.str _)⟩
    · cases e
  | str s => cases e; exact ⟨_, SkE.call_str_str, s, rfl, at_hand h k (.str _)⟩
  | _ => cases e
theorem ok2_neg : ∀ (p : Pt) (x : V) (dx d : D) (Q : VK), p.ok G → RV G p.H p.N p.α dx x → o1 p.S .neg dx = some d → (∀ v q, q.S = p.S → q.ok G → p.to q → RV G q.H q.N q.α d v → Q v q.H) → ∃ i, x = .int i ∧ Q (.int (-i)) p.H := by
  intro p x dx d Q h rx e k
  cases rx with
  | int i => cases e; exact ⟨i, rfl, at_hand h k (.int _)⟩
  | _ => cases e
theorem snd_neg (ha : PE X a (tE G W xa)) : PE X (.UnaryOp .USub a pos) (tE G W fun ρ S => (xa ρ S).bind fun x S1 => Rs.of S1 (o1 S1 .neg x)) := snd_one ok2_neg (pe_un un_neg ha)
theorem snd_notV (hK : X.K = G.K) (ha : PE X a (tE G W xa)) : PE X (.UnaryOp .Not a pos) (tE G W fun ρ S => (xa ρ S).bind fun x S1 => Rs.of S1 ((truth S1 x).map fun b => .bl (!b))) := by
  refine snd_one (r' := fun x H Q => ∃ k, TruV X.K x H k ∧ Q (.bl (!k)) H) (fun p x dx d Q h rx e k => ?_) (pe_notT ha)
  obtain ⟨b, hb, rfl⟩ := Option.map_eq_some_iff.mp e
  exact ⟨b, by rw [hK]; exact truth_at h hb rx, at_hand h k (.bl _)⟩
end
end EV
set_option Elab.async false
set_option linter.all false
set_option maxRecDepth 100000
/-! EV, part F: tests, displays, calls. -/
namespace EV
open PySem PySem.Spec PyProof.Rows L2 LamX
abbrev test (x : Env' → Store → Rs D) : Env' → Store → Rs Bool := fun ρ S => (x ρ S).bind fun d S1 => Rs.of S1 (truth S1 d)
section
variable {G : Gn} {X : Cx} {W : WX} {a b c e : Expr} {xa xb xc : Env' → Store → Rs D} {pos : Pos} {es : List Expr} {xs : Env' → Store → Rs (List D)}
theorem Post.seqB {p : Pt} {β γ δ ε : Type} {Rel : Pt → β → γ → Prop} {Rel' : Pt → δ → ε → Prop} {Q' : ε → Hp → Prop} {E : XK} {x : Rs β} {k : β → Store → Rs δ} (h : p.ok G) (z : Post G Rel' p (x.bind k) Q' E) :
    Post G Rel p x (fun v H => ∃ d r, r.H = H ∧ r.ok G ∧ p.to r ∧ Rel r d v ∧ Post G Rel' r (k d r.S) Q' E) E := Post.seq h z

/-! ### and, or, not, if .. else -/
theorem snd_test_not (ha : PT X a (tT G W (test xa))) : PT X (.UnaryOp .Not a pos) (tT G W (test fun ρ S => (xa ρ S).bind fun x S1 => Rs.of S1 ((truth S1 x).map fun b => .bl (!b)))) := by
  refine PT.imp (pt_not ha) fun σ H Q h => ?_
  obtain ⟨p0, ρ0, rfl, ok0, re0, z0⟩ := h
  refine ⟨p0, ρ0, rfl, ok0, re0, ?_⟩
  show Post G RelB p0 ((xa ρ0 p0.S).bind fun d S1 => Rs.of S1 (truth S1 d)) _ _
  have z0 : Post G RelB p0 (((xa ρ0 p0.S).bind fun x S1 => Rs.of S1 ((truth S1 x).map fun b => D.bl (!b))).bind fun d S1 => Rs.of S1 (truth S1 d)) Q _ := z0
  cases hx : xa ρ0 p0.S with
  | stuck => rw [hx] at z0; exact z0
  | exc c fs vs S' => rw [hx] at z0; exact z0
  | ok d S' =>
    rw [hx] at z0
    simp only [Rs.bind_ok] at z0 ⊢
    cases ht : truth S' d with
    | none => rw [ht] at z0; exact z0
    | some k =>
      rw [ht] at z0
      simp only [Option.map_some, Rs.of_some, Rs.bind_ok, truth] at z0 ⊢
      exact fun v q hS hq ht' (hv : k = v) => z0 (!v) q hS hq ht' (by rw [hv])
theorem snd_test_and1 (ha : PT X a (tT G W (test xa))) : PW X (.BoolOp .And [a] pos) (tT G W (test xa)) := pw_and1 ha
theorem snd_test_or1 (ha : PT X a (tT G W (test xa))) : PW X (.BoolOp .Or [a] pos) (tT G W (test xa)) := pw_or1 ha
theorem snd_test_and {rest : List Expr} (ha : PT X a (tT G W (test xa))) (hb : PW X (.BoolOp .And (b :: rest) pos) (tT G W (test xb))) :
    PW X (.BoolOp .And (a :: b :: rest) pos) (tT G W (test fun ρ S => (xa ρ S).bind fun x S1 => match truth S1 x with
      | some true => xb ρ S1
      | some false => .ok x S1
      | none => .stuck)) := by
  refine PW.imp (pw_and ha hb) fun σ H Q h => ?_
  obtain ⟨p0, ρ0, rfl, ok0, re0, z0⟩ := h
  refine ⟨p0, ρ0, rfl, ok0, re0, ?_⟩
  show Post G RelB p0 ((xa ρ0 p0.S).bind fun d S1 => Rs.of S1 (truth S1 d)) _ _
  have z0 : Post G RelB p0 (((xa ρ0 p0.S).bind fun x S1 => match truth S1 x with | some true => xb ρ0 S1 | some false => Rs.ok x S1 | none => Rs.stuck).bind fun d S1 => Rs.of S1 (truth S1 d)) Q _ := z0
  cases hx : xa ρ0 p0.S with
  | stuck => rw [hx] at z0; exact z0
  | exc c fs vs S' => rw [hx] at z0; exact z0
  | ok d S' =>
    rw [hx] at z0
    simp only [Rs.bind_ok] at z0 ⊢
    cases ht : truth S' d with
    | none => rw [ht] at z0; exact z0
    | some k =>
      rw [ht] at z0
      cases k with
      | true =>
        simp only [Rs.of_some] at z0 ⊢
        intro v q hS hq ht' hv
        subst hv
        refine iteT ⟨q, ρ0, rfl, hq, re0.mono ok0 ht', ?_⟩
        subst hS
        exact z0.step ok0 ht'
      | false =>
        simp only [Rs.bind_ok, ht, Rs.of_some] at z0 ⊢
        intro v q hS hq ht' hv
        subst hv
        exact iteF (z0 false q hS hq ht' rfl)
theorem snd_test_or {rest : List Expr} (ha : PT X a (tT G W (test xa))) (hb : PW X (.BoolOp .Or (b :: rest) pos) (tT G W (test xb))) :
    PW X (.BoolOp .Or (a :: b :: rest) pos) (tT G W (test fun ρ S => (xa ρ S).bind fun x S1 => match truth S1 x with
      | some true => .ok x S1
      | some false => xb ρ S1
      | none => .stuck)) := by
  refine PW.imp (pw_or ha hb) fun σ H Q h => ?_
  obtain ⟨p0, ρ0, rfl, ok0, re0, z0⟩ := h
  refine ⟨p0, ρ0, rfl, ok0, re0, ?_⟩
  show Post G RelB p0 ((xa ρ0 p0.S).bind fun d S1 => Rs.of S1 (truth S1 d)) _ _
  have z0 : Post G RelB p0 (((xa ρ0 p0.S).bind fun x S1 => match truth S1 x with | some true => Rs.ok x S1 | some false => xb ρ0 S1 | none => Rs.stuck).bind fun d S1 => Rs.of S1 (truth S1 d)) Q _ := z0
  cases hx : xa ρ0 p0.S with
  | stuck => rw [hx] at z0; exact z0
  | exc c fs vs S' => rw [hx] at z0; exact z0
  | ok d S' =>
    rw [hx] at z0
    simp only [Rs.bind_ok] at z0 ⊢
    cases ht : truth S' d with
    | none => rw [ht] at z0; exact z0
    | some k =>
      rw [ht] at z0
      cases k with
      | false =>
        simp only [Rs.of_some] at z0 ⊢
        intro v q hS hq ht' hv
        subst hv
        refine iteF ⟨q, ρ0, rfl, hq, re0.mono ok0 ht', ?_⟩
        subst hS
        exact z0.step ok0 ht'
      | true =>
        simp only [Rs.bind_ok, ht, Rs.of_some] at z0 ⊢
        intro v q hS hq ht' hv
        subst hv
        exact iteT (z0 true q hS hq ht' rfl)
theorem snd_and1 (ha : PE X a (tE G W xa)) : PE X (.BoolOp .And [a] pos) (tE G W xa) := pe_one ha
theorem snd_or1 (ha : PE X a (tE G W xa)) : PE X (.BoolOp .Or [a] pos) (tE G W xa) := pe_one ha
theorem snd_and {rest : List Expr} (hK : X.K = G.K) (ha : PE X a (tE G W xa)) (hb : PE X (.BoolOp .And (b :: rest) pos) (tE G W xb)) :
    PE X (.BoolOp .And (a :: b :: rest) pos) (tE G W fun ρ S => (xa ρ S).bind fun x S1 => match truth S1 x with
      | some true => xb ρ S1
      | some false => .ok x S1
      | none => .stuck) := by
  refine PE.imp (pe_andT ha hb) fun σ H Q h => ?_
  obtain ⟨p0, ρ0, rfl, ok0, re0, z0⟩ := h
  refine ⟨p0, ρ0, rfl, ok0, re0, (Post.seq (Rel := RelD G) ok0 z0).imp fun x H1 ⟨dx, p1, e1, ok1, t1, rx, z1⟩ => ?_⟩
  subst e1
  cases ht : truth p1.S dx with
  | none => simp only [ht] at z1; exact z1.elim
  | some k =>
    simp only [ht] at z1
    refine ⟨k, by rw [hK]; exact truth_at ok1 ht rx, ?_⟩
    cases k with
    | true => exact iteT ⟨p1, ρ0, rfl, ok1, re0.mono ok0 t1, z1⟩
    | false => exact iteF (Post.here (Rel := RelD G) z1 ok1 rx)
theorem snd_or {rest : List Expr} (hK : X.K = G.K) (ha : PE X a (tE G W xa)) (hb : PE X (.BoolOp .Or (b :: rest) pos) (tE G W xb)) :
    PE X (.BoolOp .Or (a :: b :: rest) pos) (tE G W fun ρ S => (xa ρ S).bind fun x S1 => match truth S1 x with
      | some true => .ok x S1
      | some false => xb ρ S1
      | none => .stuck) := by
  refine PE.imp (pe_orT ha hb) fun σ H Q h => ?_
  obtain ⟨p0, ρ0, rfl, ok0, re0, z0⟩ := h
  refine ⟨p0, ρ0, rfl, ok0, re0, (Post.seq (Rel := RelD G) ok0 z0).imp fun x H1 ⟨dx, p1, e1, ok1, t1, rx, z1⟩ => ?_⟩
  subst e1
  cases ht : truth p1.S dx with
  | none => simp only [ht] at z1; exact z1.elim
  | some k =>
    simp only [ht] at z1
    refine ⟨k, by rw [hK]; exact truth_at ok1 ht rx, ?_⟩
    cases k with
    | false => exact iteF ⟨p1, ρ0, rfl, ok1, re0.mono ok0 t1, z1⟩
    | true => exact iteT (Post.here (Rel := RelD G) z1 ok1 rx)
theorem snd_ite (hc : PT X c (tT G W (test xc))) (ha : PE X a (tE G W xa)) (hb : PE X b (tE G W xb)) :
    PE X (.IfExp c a b pos) (tE G W fun ρ S => (xc ρ S).bind fun x S1 => match truth S1 x with
      | some true => xa ρ S1
      | some false => xb ρ S1
      | none => .stuck) := by
  refine PE.imp (pe_ifExp hc ha hb) fun σ H Q h => ?_
  obtain ⟨p0, ρ0, rfl, ok0, re0, z0⟩ := h
  refine ⟨p0, ρ0, rfl, ok0, re0, ?_⟩
  show Post G RelB p0 ((xc ρ0 p0.S).bind fun d S1 => Rs.of S1 (truth S1 d)) _ _
  have z0 : Post G (RelD G) p0 ((xc ρ0 p0.S).bind fun x S1 => match truth S1 x with | some true => xa ρ0 S1 | some false => xb ρ0 S1 | none => .stuck) Q _ := z0
  cases hx : xc ρ0 p0.S with
  | stuck => rw [hx] at z0; exact z0
  | exc c fs vs S' => rw [hx] at z0; exact z0
  | ok d S' =>
    rw [hx] at z0
    simp only [Rs.bind_ok] at z0 ⊢
    cases ht : truth S' d with
    | none => rw [ht] at z0; exact z0
    | some k =>
      rw [ht] at z0
      simp only [Rs.of_some]
      intro v q hS hq ht' hv
      subst hv hS
      cases k with
      | true => exact iteT ⟨q, ρ0, rfl, hq, re0.mono ok0 ht', z0.step ok0 ht'⟩
      | false => exact iteF ⟨q, ρ0, rfl, hq, re0.mono ok0 ht', z0.step ok0 ht'⟩

/-! ### argument lists, tuples -/
def notStar : Expr → Bool
  | .Starred .. => false
  | _ => true
theorem starEach_plain {e : Expr} {es : List Expr} {env : Env} (h : notStar e = true) : starEach (e :: es) env = (false, eval e env) :: starEach es env := by
  cases e <;> first | rfl | cases h
theorem noStars {env : Env} : ∀ {es : List Expr}, es.all notStar = true → (backTo pos (starEach es env)).any (·.1) = false
  | [], _ => rfl
  | e :: es, h => by
    rw [List.all_cons, Bool.and_eq_true] at h
    rw [starEach_plain h.1]
    show (false || (backTo pos (starEach es env)).any (·.1)) = false
    rw [noStars h.2]
    rfl
theorem snd_nil : PA X [] (tA G W fun _ S => .ok [] S) := by
  refine PA.imp pa_nil fun σ H Q h => ?_
  obtain ⟨p, ρ, rfl, ok, re, z⟩ := h
  exact Post.here (Rel := RelL G) z ok .nil
theorem snd_cons (hs : notStar e = true) (ha : PE X e (tE G W xa)) (hr : PA X es (tA G W xs)) :
    PA X (e :: es) (tA G W fun ρ S => (xa ρ S).bind fun d S1 => (xs ρ S1).bind fun ds S2 => .ok (d :: ds) S2) := by
  refine PA.imp (pa_cons ha hr (starEach_plain hs)) fun σ H Q h => ?_
  obtain ⟨p0, ρ0, rfl, ok0, re0, z0⟩ := h
  refine ⟨p0, ρ0, rfl, ok0, re0, (Post.seq (Rel := RelD G) ok0 z0).imp fun x H1 ⟨dx, p1, e1, ok1, t1, rx, z1⟩ => ?_⟩
  subst e1
  refine ⟨p1, ρ0, rfl, ok1, re0.mono ok0 t1, (Post.seq (Rel := RelL G) ok1 z1).imp fun y H2 ⟨dy, p2, e2, ok2, t2, ry, z2⟩ => ?_⟩
  subst e2
  exact Post.here (Rel := RelL G) z2 ok2 (.cons (t2.rv ok1 rx) ry)
theorem snd_tup {x1 : Nat} (h : PA X es (tA G W xs)) : PE X (.Tuple es x1 pos) (tE G W fun ρ S => (xs ρ S).bind fun ds S1 => if ds.length ≤ sizeLine then .ok (.tup ds) S1 else .stuck) := by
  refine PE.imp (pe_tup h) fun σ H Q h => ?_
  obtain ⟨p0, ρ0, rfl, ok0, re0, z0⟩ := h
  refine ⟨p0, ρ0, rfl, ok0, re0, (Post.seq (Rel := RelL G) ok0 z0).imp fun x H1 ⟨dx, p1, e1, ok1, t1, rx, z1⟩ => ?_⟩
  subst e1
  by_cases hl : dx.length ≤ sizeLine
  · rw [if_pos hl] at z1
    refine ⟨by rw [← rx.length]; exact hl, fun a ha => ?_⟩
    exact at_new ok1 (d := .tup dx) (fun v q hS hq ht hv => z1 v q hS hq ht hv) ha fun q e1 e2 e3 c e4 e5 => .tup (.inl ⟨.inl e4, e5⟩) (rx.mono c)
  · rw [if_neg hl] at z1
    exact z1.elim

/-! ### attributes -/
theorem obj_at {p : Pt} (h : p.ok G) {d : D} {c : Nat} {fs : List Nat} {ds : List D} {v : V} (e : objOf p.S d = some (c, fs, ds)) (r : RV G p.H p.N p.α d v) :
    ∃ (a dx : Addr) (kvs : List (Str × V)), v = .ref a ∧ p.H a = some (.ins (G.cls c) dx kvs) ∧ kvs.map (·.1) = fs.map G.fld ∧ RVs G p.H p.N p.α ds (kvs.map (·.2)) := by
  cases r with
  | obj h1 h2 h3 h4 => cases e; exact ⟨_, _, _, rfl, h1, h3, h4⟩
  | @ref n a ea =>
    simp only [objOf] at e
    cases hc : cellOf p.S n with
    | none => rw [hc] at e; cases e
    | some x =>
      rw [hc] at e
      cases x with
      | obj _ _ _ =>
        cases e
        obtain ⟨_, dx, kvs, e1, e2, e3⟩ := live_cell h hc ea
        exact ⟨a, dx, kvs, rfl, e1, e2, e3⟩
      | lst _ => cases e
      | dic _ _ => cases e
  | non => cases e
  | bl => cases e
  | int => cases e
  | str => cases e
  | tup => cases e
  | lst => cases e
  | scr => cases e
  | dic => cases e
theorem field_at {p : Pt} (inj : ∀ f g, G.fld f = G.fld g → f = g) : ∀ {kvs : List (Str × V)} {fs : List Nat} {ds : List D} {g : Nat}, kvs.map (·.1) = fs.map G.fld → RVs G p.H p.N p.α ds (kvs.map (·.2)) →
    (∀ d, fieldOf fs ds g = some d → ∃ v, kvs.lookup (G.fld g) = some v ∧ RV G p.H p.N p.α d v) ∧ (fieldOf fs ds g = none → kvs.lookup (G.fld g) = none)
  | [], [], [], g, _, _ => ⟨(fun d e => nomatch (show (none : Option D) = some d from e)), fun _ => rfl⟩
  | [], [], _ :: _, _, _, r => by cases r
  | [], _ :: _, _, _, e, _ => by cases e
  | _ :: _, [], _, _, e, _ => by cases e
  | _ :: _, _ :: _, [], _, _, r => by cases r
  | (k, v) :: kvs, f :: fs, d :: ds, g, e, r => by
    simp only [List.map_cons, List.cons.injEq] at e
    cases r with
    | cons h1 h2 =>
      have ih := field_at (p := p) inj (g := g) e.2 h2
      simp only [fieldOf, List.lookup_cons]
      by_cases q : f = g
      · have : (G.fld g == k) = true := by rw [e.1, q]; simp
        rw [if_pos q, this]
        exact ⟨fun d2 e2 => ⟨v, rfl, by cases e2; exact h1⟩, fun z => by cases z⟩
      · have : (G.fld g == k) = false := by
          rw [beq_eq_false_iff_ne, e.1]
          exact fun z => q (inj _ _ z).symm
        rw [if_neg q, this]
        exact ih
/-- what one must know of the program's classes -/
structure ClsF (G : Gn) (isC : Nat → Bool) (isF : Nat → Nat → Bool) : Prop where
  inj : ∀ f g, G.fld f = G.fld g → f = g
  cls : ∀ c, isC c = true → Cls G.K (G.cls c)
  no : ∀ c f, isF c f = true → NoAttr G.K (G.cls c) (G.fld f)
theorem snd_att {f : Nat} {cls : Nat → Bool} {fld : Nat → Nat → Bool} (hK : X.K = G.K) (CF : ClsF G cls fld) (hb : attributeBase e (G.fld f) X.env (eval e X.env) = eval e X.env) (ha : PE X e (tE G W xa)) :
    PE X (.Attribute e (G.fld f) pos) (tE G W fun ρ S => (xa ρ S).bind fun x S1 => match objOf S1 x with
      | some (c, fs, vs) => if (cls c && fld c f) = true then Rs.of S1 (fieldOf fs vs f) else .stuck
      | none => .stuck) := by
  refine PE.imp (pe_fld ha hb) fun σ H Q h => ?_
  obtain ⟨p0, ρ0, rfl, ok0, re0, z0⟩ := h
  refine ⟨p0, ρ0, rfl, ok0, re0, (Post.seq (Rel := RelD G) ok0 z0).imp fun x H1 ⟨dx, p1, e1, ok1, t1, rx, z1⟩ => ?_⟩
  subst e1
  cases ho : objOf p1.S dx with
  | none => simp only [ho] at z1; exact z1.elim
  | some cv =>
    obtain ⟨c, fs, vs⟩ := cv
    simp only [ho] at z1
    by_cases hcl : (cls c && fld c f) = true
    · rw [if_pos hcl] at z1
      rw [Bool.and_eq_true] at hcl
      obtain ⟨d, hd, z2⟩ := Post.of z1
      obtain ⟨a, dx, kvs, rfl, h1, h2, h3⟩ := obj_at ok1 ho rx
      obtain ⟨v, h4, h5⟩ := (field_at CF.inj h2 h3).1 d hd
      exact ⟨a, _, dx, kvs, v, rfl, h1, by rw [hK]; exact CF.cls c hcl.1, by rw [hK]; exact CF.no c f hcl.2, h4, Post.here (Rel := RelD G) z2 ok1 h5⟩
    · rw [if_neg hcl] at z1
      exact z1.elim
end
end EV
set_option Elab.async false
set_option linter.all false
set_option maxRecDepth 100000
/-! EV, part G: calls. -/
namespace EV
open PySem PySem.Spec PyProof.Rows L2 LamX
/-- a def's promise by the evaluator -/
def spF (G : Gn) (n : Nat) (fn : List D → Store → Rs D) : Sp := fun vs H Q E => ∃ p ds, p.H = H ∧ p.ok G ∧ ds.length = n ∧ RVs G p.H p.N p.α ds vs ∧ Post G (RelD G) p (fn ds p.S) Q E
/-- a def at f that may be called here: n values, of which dd fill up -/
def Callee (X : Cx) (G : Gn) (f : Addr) (n : Nat) (fn : List D → Store → Rs D) (dd : List D) : Prop :=
  ∃ (k : Nat) (fd : FuncData) (ps : List Str) (dvs : List V) (ds : List Value), FnOk X.prog X.w X.K X.mg X.base (L2.CX X.prog X.w) k f fd ps (spF G n fn) ∧ Room (k + 1) X.A ∧
    (dd.length ≤ n → Binds X.K fd ps ds) ∧ Vals dvs ds ∧ (∀ p : Pt, RVs G p.H p.N p.α dd dvs)
section
variable {G : Gn} {X : Cx} {W : WX} {a b c e : Expr} {xa xb xc : Env' → Store → Rs D} {pos : Pos} {es : List Expr} {xs : Env' → Store → Rs (List D)}
/-- the callee runs -/
theorem run_callee {f : Addr} {n : Nat} {fn : List D → Store → Rs D} {dd ds : List D} {vs : List V} {us : List Value} (C : Callee X G f n fn dd) (tk : Takes X W) {p : Pt} {pins : List (Addr × Obj)} {σ : L2.St} {s : Shared} {Q : VK}
    (I : Inv X pins σ p.H s) (ok : p.ok G) (r : RVs G p.H p.N p.α ds vs) (ru : Vals vs us) (hl : (ds ++ dd).length = n) (z : Post G (RelD G) p (fn (ds ++ dd) p.S) Q (fun c d H' => W c d σ H')) :
    wpAny (model X.prog X.w) X.A (call (.ref f) us) (EP X pins σ Q) X.xe s := by
  obtain ⟨k, fd, ps, dvs, dsv, F, hr, hb, hd, hdv⟩ := C
  exact run_fnSD (E := WE W) F (hr.mono (Nat.le_succ _)) (hb (by rw [← hl, List.length_append]; omega)) hd (passAt tk σ) I ru ⟨p, ds ++ dd, rfl, ok, hl, r.append (hdv p), z⟩
/-- f(..) of a def of the module -/
theorem snd_call {x : Str} {p : Pos} {n : Nat} {f : Addr} {fn : List D → Store → Rs D} {dfl : Nat → List D}
    (C : ∀ m, Callee X G f n fn (dfl m)) (hg : Gl X x) (hm : X.mg x = some (.ref f)) (hk : PySem.W.keepIn X.K (.ref f) = true)
    (tk : Takes X W) (hdb : (x == ("__debug__" : Str)) = false) (hs : es.all notStar = true) (ha : PA X es (tA G W xs)) (h0 : es = [] → ∀ ρ S, xs ρ S = .ok [] S) :
    PE X (.Call (.Name x p) es [] pos) (tE G W fun ρ S => (xs ρ S).bind fun ds S1 => if (ds ++ dfl ds.length).length = n then fn (ds ++ dfl ds.length) S1 else .stuck) := by
  refine ⟨fun pins s σ H Q I h => ?_⟩
  refine wpAny_Call_Name_kw (ld_glob I hg hm ?_ hdb)
  obtain ⟨p0, ρ0, rfl, ok0, re0, z0⟩ := h
  have fin : ∀ {p1 : Pt} {dx : List D} {vs : List V} {us : List Value} {s1 : Shared}, Inv X pins σ p1.H s1 → p1.ok G → RVs G p1.H p1.N p1.α dx vs → Vals vs us →
      Post G (RelD G) p1 (if (dx ++ dfl dx.length).length = n then fn (dx ++ dfl dx.length) p1.S else .stuck) Q (fun c d H' => W c d σ H') → wpAny (model X.prog X.w) X.A (call (.ref f) us) (EP X pins σ Q) X.xe s1 := fun {p1 dx vs us s1} I1 ok1 r1 ru z1 => by
    by_cases hl : (dx ++ dfl dx.length).length = n
    · rw [if_pos hl] at z1
      exact run_callee (C dx.length) tk I1 ok1 r1 ru hl z1
    · rw [if_neg hl] at z1
      exact z1.elim
  cases es with
  | nil =>
    simp only [h0 rfl, Rs.bind_ok] at z0
    exact PySem.W.callWith_K0 I.kIn hk (fin (us := []) (vs := []) (dx := []) I ok0 .nil .nil z0)
  | cons e es =>
    rw [List.all_cons, Bool.and_eq_true] at hs
    have h1 : tA G W xs σ p0.H (fun v H1 => ∃ d r, r.H = H1 ∧ r.ok G ∧ p0.to r ∧ RVs G r.H r.N r.α d v ∧ Post G (RelD G) r (if (d ++ dfl d.length).length = n then fn (d ++ dfl d.length) r.S else .stuck) Q (fun c d H' => W c d σ H')) :=
      ⟨p0, ρ0, rfl, ok0, re0, Post.seq (Rel := RelL G) ok0 z0⟩
    refine PySem.W.callWith_K (h₀ := X.base) I.ok.mod.kin hk (thn (ha.run pos pins s σ p0.H _ I h1) fun us s1 ⟨vs, H1, I1, r, d, p1, e1, ok1, t1, r1, z1⟩ => ⟨I1.kIn, ?_⟩) (starEach_plain hs.1) (noStars hs.2)
    subst e1
    exact fin I1 ok1 r1 r z1
/-- o.m(..) of an own class -/
theorem snd_meth {m : Nat} {apos : Pos} {cls : Nat → Bool} {fld : Nat → Nat → Bool} {meth : Nat → Option Nat} {many : Nat → Nat} {fn : Nat → List D → Store → Rs D} {dfl : Nat → Nat → List D} {fa : Nat → Addr} {pl : Sem Bool}
    (hK : X.K = G.K) (CF : ClsF G cls fld) (M : ∀ c f, meth c = some f → cls c = true ∧ L2.Meth G.K (G.cls c) (G.fld m) (fa f) ∧ ∀ i, Callee X G (fa f) (many f) (fn f) (dfl f i)) (tk : Takes X W)
    (hs : es.all notStar = true) (ho : PE X e (tE G W xa)) (ha : PA X es (tA G W xs)) (h0 : es = [] → ∀ ρ S, xs ρ S = .ok [] S)
    (ht : eval (.Call (.Attribute e (G.fld m) apos) es [] pos) X.env = (do
      let ov ← eval e X.env
      standAt apos.atName
      let (f, first) ← holding [ov] (getMethod ov (G.fld m) pl)
      callWith pos f first (backTo pos (starEach es X.env)) (backToKw pos (keywordEach [] X.env)))) :
    PE X (.Call (.Attribute e (G.fld m) apos) es [] pos) (tE G W fun ρ S => (xa ρ S).bind fun x S1 => match objOf S1 x with
      | some (c, fs, vs) => match fieldOf fs vs m with
        | none => match meth c with
          | some f => (xs ρ S1).bind fun ds S2 => if (ds ++ dfl f (ds.length + 1)).length + 1 = many f then fn f (x :: (ds ++ dfl f (ds.length + 1))) S2 else .stuck
          | none => .stuck
        | some _ => .stuck
      | none => .stuck) := by
  refine ⟨fun pins s σ H Q I h => ?_⟩
  obtain ⟨p0, ρ0, rfl, ok0, re0, z0⟩ := h
  have h1 : tE G W xa σ p0.H (fun v H1 => ∃ d r, r.H = H1 ∧ r.ok G ∧ p0.to r ∧ RV G r.H r.N r.α d v ∧ Post G (RelD G) r (match objOf r.S d with
      | some (c, fs, vs) => match fieldOf fs vs m with
        | none => match meth c with
          | some f => (xs ρ0 r.S).bind fun ds S2 => if (ds ++ dfl f (ds.length + 1)).length + 1 = many f then fn f (d :: (ds ++ dfl f (ds.length + 1))) S2 else .stuck
          | none => .stuck
        | some _ => .stuck
      | none => .stuck) Q (fun c d H' => W c d σ H')) := ⟨p0, ρ0, rfl, ok0, re0, Post.seq (Rel := RelD G) ok0 z0⟩
  refine PySem.W.methodCall_KW (pl := pl) (thn (ho.run pins s σ p0.H _ I h1) fun u s1 ⟨x, H1, I1, rx, d, p1, e1, ok1, t1, r1, z1⟩ => ?_) ht
  subst e1
  cases hob : objOf p1.S d with
  | none => rw [hob] at z1; exact z1.elim
  | some cv =>
    obtain ⟨c, fs, vs⟩ := cv
    rw [hob] at z1
    simp only at z1
    cases hf : fieldOf fs vs m with
    | some _ => rw [hf] at z1; exact z1.elim
    | none =>
      rw [hf] at z1
      simp only at z1
      obtain ⟨oa, dx, kvs, rfl, hH, hk, hr⟩ := obj_at ok1 hob r1
      obtain rfl : u = Value.ref oa := rx
      have lk : kvs.lookup (G.fld m) = none := (field_at CF.inj hk hr).2 hf
      have re1 := re0.mono ok0 t1
      cases hmt : meth c with
      | none =>
        simp only [hmt] at z1
        exact z1.elim
      | some f =>
        obtain ⟨hc, hM, C⟩ := M c f hmt
        simp only [hmt] at z1
        have fin : ∀ {p2 : Pt} {dx : List D} {vs : List V} {us : List Value} {s2 : Shared}, Inv X pins σ p2.H s2 → p2.ok G → p1.to p2 → RVs G p2.H p2.N p2.α dx vs → Vals vs us →
            Post G (RelD G) p2 (if (dx ++ dfl f (dx.length + 1)).length + 1 = many f then fn f (d :: (dx ++ dfl f (dx.length + 1))) p2.S else .stuck) Q (fun c d H' => W c d σ H') →
            wpAny (model X.prog X.w) X.A (call (.ref (fa f)) (Value.ref oa :: us)) (EP X pins σ Q) X.xe s2 := fun {p2 dx vs us s2} I2 ok2 t2 r2 ru z2 => by
          by_cases hl : (dx ++ dfl f (dx.length + 1)).length + 1 = many f
          · rw [if_pos hl] at z2
            exact run_callee (ds := d :: dx) (us := Value.ref oa :: us) (vs := V.ref oa :: vs) (C (dx.length + 1)) tk I2 ok2 (.cons (t2.rv ok1 r1) r2) (.cons rfl ru) (by simpa using hl) z2
          · rw [if_neg hl] at z2
            exact z2.elim
        refine getmeth_ok I1 hH (by rw [hK]; exact CF.cls c hc) (by rw [hK]; exact hM) lk ?_
        cases es with
        | nil =>
          simp only [h0 rfl, Rs.bind_ok] at z1
          exact PySem.W.callWith_K0 (first := [.ref oa]) I1.kIn (by rw [hK]; exact hM.kp) (fin (us := []) (vs := []) (dx := []) I1 ok1 Pt.to.refl .nil .nil z1)
        | cons e1 es1 =>
          rw [List.all_cons, Bool.and_eq_true] at hs
          have h2 : tA G W xs σ p1.H (fun v H1 => ∃ dd r, r.H = H1 ∧ r.ok G ∧ p1.to r ∧ RVs G r.H r.N r.α dd v ∧ Post G (RelD G) r (if (dd ++ dfl f (dd.length + 1)).length + 1 = many f then fn f (d :: (dd ++ dfl f (dd.length + 1))) r.S else .stuck) Q (fun c d H' => W c d σ H')) :=
            ⟨p1, ρ0, rfl, ok1, re1, Post.seq (Rel := RelL G) ok1 z1⟩
          refine PySem.W.callWith_K (first := [.ref oa]) (h₀ := X.base) I1.ok.mod.kin (by rw [hK]; exact hM.kp) (thn (ha.run pos pins s1 σ p1.H _ I1 h2) fun us s2 ⟨vs2, H2, I2, ru, dd, p2, e2, ok2, t2, r2, z2⟩ => ⟨I2.kIn, ?_⟩) (starEach_plain hs.1) (noStars hs.2)
          subst e2
          exact fin I2 ok2 t2 r2 ru z2
end
end EV
set_option Elab.async false
set_option linter.all false
set_option maxRecDepth 100000
/-! EV, part H: what is made. -/
namespace EV
open PySem PySem.Spec PyProof.Rows L2 LamX
def plus (N : Addr → Prop) (a : Addr) : Addr → Prop := fun b => N b ∨ b = a
section
variable {G : Gn} {X : Cx} {W : WX}
theorem get_snoc {S : Store} {c : Cell} {n : Nat} {x : Cell} (e : (S ++ [some c])[n]? = some (some x)) : (n < S.length ∧ S[n]? = some (some x)) ∨ (n = S.length ∧ x = c) := by
  by_cases h : n < S.length
  · rw [List.getElem?_append_left h] at e
    exact .inl ⟨h, e⟩
  · rw [List.getElem?_append_right (by omega)] at e
    have : n - S.length = 0 := by
      cases q : n - S.length with
      | zero => rfl
      | succ m => rw [q] at e; simp at e
    rw [this] at e
    simp at e
    exact .inr ⟨by omega, e.symm⟩
theorem CR.nt {H : Hp} {N : Addr → Prop} {α : List Addr} {a : Addr} {c : Cell} {o : HO} (h : EV.CR G H N α a c) (e : H a = some o) : NT o := fun ps z => by
  subst z
  cases c with
  | lst ds => obtain ⟨xs, g, _⟩ := h; rw [e] at g; cases g
  | dic ks ds => obtain ⟨xs, g, _⟩ := h; rw [e] at g; cases g
  | obj k fs ds => obtain ⟨dx, xs, g, _⟩ := h; rw [e] at g; cases g
/-- a new live cell at a, where nothing was -/
theorem Pt.alloc {p : Pt} (h : p.ok G) {H' : Hp} {a : Addr} {c : Cell} (ha : p.H a = none) (keep : ∀ b o, p.H b = some o → H' b = some o)
    (cr : Car p.H p.N p.α H' (plus p.N a) (p.α ++ [a]) → CR G H' (plus p.N a) (p.α ++ [a]) a c ∧ ∃ o, H' a = some o) :
    Pt.ok G ⟨H', plus p.N a, p.S ++ [some c], p.α ++ [a]⟩ ∧ p.to ⟨H', plus p.N a, p.S ++ [some c], p.α ++ [a]⟩ ∧ (p.α ++ [a])[p.S.length]? = some a := by
  have nl : ∀ b, Live (p.S ++ [some c]) (p.α ++ [a]) b → Live p.S p.α b ∨ b = a := by
    rintro b ⟨n, x, e1, e2⟩
    rcases get_snoc e1 with ⟨hn, e⟩ | ⟨hn, e⟩
    · refine .inl ⟨n, x, e, ?_⟩
      rw [List.getElem?_append_left (by rw [h.len]; exact hn)] at e2
      exact e2
    · subst hn
      rw [List.getElem?_append_right (by rw [h.len]; omega)] at e2
      simp [h.len] at e2
      exact .inr e2.symm
  have t : p.to ⟨H', plus p.N a, p.S ++ [some c], p.α ++ [a]⟩ := by
    refine ⟨fun b o e _ _ => keep b o e, fun b o e nt => ⟨o, keep b o e, nt⟩, fun b n => ?_, fun b n _ => .inl n, fun b l => ?_, ⟨[a], rfl⟩, fun n b e => ?_⟩
    · rcases n with n | n
      · exact .inl n
      · exact .inr (Fr.none (by rw [n]; exact ha))
    · rcases nl b l with q | q
      · exact .inl q
      · exact .inr (Fr.none (by rw [q]; exact ha))
    · by_cases hi : n < p.α.length
      · rw [List.getElem?_append_left hi] at e; exact .inl e
      · rw [List.getElem?_append_right (by omega)] at e
        have : n - p.α.length = 0 := by
          cases q : n - p.α.length with
          | zero => rfl
          | succ m => rw [q] at e; simp at e
        rw [this] at e
        simp at e
        exact .inr (Fr.none (by rw [← e]; exact ha))
  have car := t.car h
  obtain ⟨cr1, oa, cr2⟩ := cr car
  refine ⟨⟨by simp [h.len], fun n x e => ?_, fun i j b e1 e2 => ?_, fun b n => ?_, fun n b e => ?_, h.tab.ext keep⟩, t, by rw [List.getElem?_append_right (by rw [h.len]; omega)]; simp [h.len]⟩
  · rcases get_snoc e with ⟨hn, e6⟩ | ⟨hn, e6⟩
    · obtain ⟨b, e1, e2, e3⟩ := h.cell n x e6
      obtain ⟨o, e4, _⟩ := h.alv n b e1
      exact ⟨b, t.at e1, .inl e2, e3.mono car e4 (by show H' b = p.H b; rw [keep b o e4, e4])⟩
    · subst hn
      subst e6
      exact ⟨a, by rw [List.getElem?_append_right (by rw [h.len]; omega)]; simp [h.len], .inr rfl, cr1⟩
  · have at_ : ∀ {i : Nat} {b : Addr}, (p.α ++ [a])[i]? = some b → (p.α[i]? = some b) ∨ (i = p.α.length ∧ b = a) := fun {i b} e => by
      by_cases hi : i < p.α.length
      · rw [List.getElem?_append_left hi] at e; exact .inl e
      · rw [List.getElem?_append_right (by omega)] at e
        have : i - p.α.length = 0 := by
          cases q : i - p.α.length with
          | zero => rfl
          | succ m => rw [q] at e; simp at e
        rw [this] at e
        simp at e
        exact .inr ⟨by omega, e.symm⟩
    have no : ∀ {i : Nat}, p.α[i]? = some a → False := fun {i} e => by
      obtain ⟨o, q, _⟩ := h.alv i a e
      rw [ha] at q; cases q
    rcases at_ e1 with q1 | ⟨q1, r1⟩
    · rcases at_ e2 with q2 | ⟨q2, r2⟩
      · exact h.nd i j b q1 q2
      · subst r2; exact (no q1).elim
    · rcases at_ e2 with q2 | ⟨q2, r2⟩
      · subst r1; exact (no q2).elim
      · omega
  · rcases n with n | n
    · obtain ⟨o, e, nt⟩ := h.trk b n
      exact ⟨o, keep b o e, nt⟩
    · subst n; exact ⟨oa, cr2, CR.nt cr1 cr2⟩
  · by_cases hi : n < p.α.length
    · rw [List.getElem?_append_left hi] at e
      obtain ⟨o, q, nt⟩ := h.alv n b e
      exact ⟨o, keep b o q, nt⟩
    · rw [List.getElem?_append_right (by omega)] at e
      have : n - p.α.length = 0 := by
        cases q : n - p.α.length with
        | zero => rfl
        | succ m => rw [q] at e; simp at e
      rw [this] at e
      simp at e
      subst e
      exact ⟨oa, cr2, CR.nt cr1 cr2⟩
/-- a new thing, live or told by value -/
theorem made_list {p : Pt} (h : p.ok G) {live : Bool} {ds : List D} {vs : List V} {a : Addr} {Q : VK} {E : XK} (ha : p.H a = none) (r : RVs G p.H p.N p.α ds vs)
    (z : Post G (RelD G) p (if live then .ok (.ref p.S.length) (p.S ++ [some (.lst ds)]) else .ok (toD (.lst ds)) p.S) Q E) : Q (.ref a) (upd p.H a (.lst vs)) := by
  cases live with
  | false => exact at_new h (d := .lst ds) (fun v q hS hq ht hv => z v q hS hq ht hv) ha fun q e1 e2 e3 c e4 e5 => .lst e4 e5 (r.mono c)
  | true =>
    obtain ⟨k1, k2, k3⟩ := Pt.alloc (c := .lst ds) (H' := upd p.H a (.lst vs)) h ha (fun b o e => by rw [upd_ne (ne_of_none e ha)]; exact e) fun c => ⟨⟨vs, upd_same, r.mono c⟩, _, upd_same⟩
    exact z (.ref a) _ rfl k1 k2 (.ref k3)
theorem made_dict {p : Pt} (h : p.ok G) {live : Bool} {ks : List Key} {ds : List D} {kvs : List (Key × V)} {a : Addr} {Q : VK} {E : XK} (ha : p.H a = none) (hk : kvs.map (·.1) = ks) (r : RVs G p.H p.N p.α ds (kvs.map (·.2)))
    (z : Post G (RelD G) p (if live then .ok (.ref p.S.length) (p.S ++ [some (.dic ks ds)]) else .ok (toD (.dic ks ds)) p.S) Q E) : Q (.ref a) (upd p.H a (.dK kvs)) := by
  cases live with
  | false => exact at_new h (d := .dic ks ds) (fun v q hS hq ht hv => z v q hS hq ht hv) ha fun q e1 e2 e3 c e4 e5 => .dic (.inl e4) e5 hk (r.mono c)
  | true =>
    obtain ⟨k1, k2, k3⟩ := Pt.alloc (c := .dic ks ds) (H' := upd p.H a (.dK kvs)) h ha (fun b o e => by rw [upd_ne (ne_of_none e ha)]; exact e) fun c => ⟨⟨kvs, upd_same, hk, r.mono c⟩, _, upd_same⟩
    exact z (.ref a) _ rfl k1 k2 (.ref k3)

variable {a b c e : Expr} {xa xb xc : Env' → Store → Rs D} {pos : Pos} {es : List Expr} {xs : Env' → Store → Rs (List D)} {live : Bool}
abbrev mk (live : Bool) (x : Env' → Store → Rs Cell) : Env' → Store → Rs D := fun ρ S => (x ρ S).bind fun x S1 => if live then .ok (.ref S1.length) (S1 ++ [some x]) else .ok (toD x) S1
theorem snd_disp (h : PA X es (tA G W xs)) : PE X (.List es pos) (tE G W (mk live fun ρ S => (xs ρ S).bind fun ds S1 => if ds.length ≤ sizeLine then .ok (.lst ds) S1 else .stuck)) := by
  refine PE.imp (pe_lst h) fun σ H Q h => ?_
  obtain ⟨p0, ρ0, rfl, ok0, re0, z0⟩ := h
  have z0 : Post G (RelD G) p0 (((xs ρ0 p0.S).bind fun ds S1 => if ds.length ≤ sizeLine then Rs.ok (Cell.lst ds) S1 else .stuck).bind fun x S1 => if live then .ok (.ref S1.length) (S1 ++ [some x]) else .ok (toD x) S1) Q _ := z0
  refine ⟨p0, ρ0, rfl, ok0, re0, ?_⟩
  cases hx : xs ρ0 p0.S with
  | stuck => rw [hx] at z0; exact z0
  | exc c fs vs S' => rw [hx] at z0; exact z0
  | ok ds S' =>
    rw [hx] at z0
    intro vs q hS hq ht hv
    subst hS
    simp only [Rs.bind_ok] at z0
    by_cases hl : ds.length ≤ sizeLine
    · rw [if_pos hl] at z0
      exact ⟨by rw [← RVs.length hv]; exact hl, fun l hl' => made_list hq hl' hv (z0.step ok0 ht)⟩
    · rw [if_neg hl] at z0
      exact z0.elim
/-- list(x) -/
theorem snd_lof (hK : X.K = G.K) (k : ∀ {r : List V → Hp → VK → Prop}, CallR X (.type "list") r → PE X e (tCB r (tCons (tE G W xa) tNil))) :
    PE X e (tE G W (mk live fun ρ S => (xa ρ S).bind fun x S1 => Rs.of S1 ((seqOf S1 x).map .lst))) := by
  refine PE.imp (k call_list_of) fun σ H Q h => ?_
  obtain ⟨p0, ρ0, rfl, ok0, re0, z0⟩ := h
  have z0 : Post G (RelD G) p0 (((xa ρ0 p0.S).bind fun x S1 => Rs.of S1 ((seqOf S1 x).map Cell.lst)).bind fun x S1 => if live then .ok (.ref S1.length) (S1 ++ [some x]) else .ok (toD x) S1) Q _ := z0
  refine ⟨p0, ρ0, rfl, ok0, re0, ?_⟩
  cases hx : xa ρ0 p0.S with
  | stuck => rw [hx] at z0; exact z0
  | exc c fs vs S' => rw [hx] at z0; exact z0
  | ok d S' =>
    rw [hx] at z0
    intro v q hS hq ht hv
    subst hS
    simp only [Rs.bind_ok] at z0
    cases hs : seqOf q.S d with
    | none => rw [hs] at z0; exact z0.elim
    | some ds =>
      rw [hs] at z0
      obtain ⟨l, ys, rfl, h1, h2⟩ := seq_at hq hs hv
      exact ⟨l, ys, rfl, by rw [hK]; exact h1, fun l2 hl2 => made_list hq hl2 h2 (z0.step ok0 ht)⟩
/-- x + y of lists -/
theorem snd_cat (ha : PE X a (tE G W xa)) (hb : PE X b (tE G W xb)) :
    PE X (.BinOp a .Add b pos) (tE G W (mk live fun ρ S => (xa ρ S).bind fun x S1 => (xb ρ S1).bind fun y S2 => match lstOf S2 x, lstOf S2 y with
      | some xs, some ys => if xs.length + ys.length ≤ sizeLine then .ok (.lst (xs ++ ys)) S2 else .stuck
      | _, _ => .stuck)) := by
  refine PE.imp (pe_op op_cat ha hb) fun σ H Q h => ?_
  obtain ⟨p0, ρ0, rfl, ok0, re0, z0⟩ := h
  have z0 : Post G (RelD G) p0 (((xa ρ0 p0.S).bind fun x S1 => (xb ρ0 S1).bind fun y S2 => match lstOf S2 x, lstOf S2 y with
      | some xs, some ys => if xs.length + ys.length ≤ sizeLine then Rs.ok (Cell.lst (xs ++ ys)) S2 else .stuck
      | _, _ => .stuck).bind fun x S1 => if live then .ok (.ref S1.length) (S1 ++ [some x]) else .ok (toD x) S1) Q _ := z0
  refine ⟨p0, ρ0, rfl, ok0, re0, ?_⟩
  cases hx : xa ρ0 p0.S with
  | stuck => rw [hx] at z0; exact z0
  | exc c fs vs S' => rw [hx] at z0; exact z0
  | ok d S' =>
    rw [hx] at z0
    intro v q hS hq ht hv
    subst hS
    refine ⟨q, ρ0, rfl, hq, re0.mono ok0 ht, ?_⟩
    have z1 := z0.step ok0 ht
    simp only [Rs.bind_ok] at z1
    cases hy : xb ρ0 q.S with
    | stuck => rw [hy] at z1; exact z1
    | exc c fs vs S' => rw [hy] at z1; exact z1
    | ok d2 S2 =>
      rw [hy] at z1
      intro v2 q2 hS2 hq2 ht2 hv2
      subst hS2
      have z2 := z1.step hq ht2
      simp only [Rs.bind_ok] at z2
      cases h1 : lstOf q2.S d with
      | none => rw [h1] at z2; exact z2.elim
      | some ds1 => cases h2 : lstOf q2.S d2 with
        | none => rw [h1, h2] at z2; exact z2.elim
        | some ds2 =>
          rw [h1, h2] at z2
          simp only at z2
          obtain ⟨a1, ys1, rfl, g1, r1⟩ := lst_at hq2 h1 (ht2.rv hq hv)
          obtain ⟨a2, ys2, rfl, g2, r2⟩ := lst_at hq2 h2 hv2
          by_cases hl : ds1.length + ds2.length ≤ sizeLine
          · rw [if_pos hl] at z2
            have l1 := r1.length
            have l2 := r2.length
            exact ⟨a1, a2, ys1, ys2, rfl, rfl, g1, g2, by omega, fun l hl' => made_list hq2 hl' (r1.append r2) z2⟩
          · rw [if_neg hl] at z2
            exact z2.elim
end
end EV
set_option Elab.async false
set_option linter.all false
set_option maxRecDepth 100000
/-! EV, part I: what is changed; slices; kinds. -/
namespace EV
open PySem PySem.Spec PyProof.Rows L2 LamX
def plain (o : HO) : Prop := (∀ ps, o ≠ .tbl ps) ∧ ∀ φ, o ≠ .ext φ
section
variable {G : Gn} {X : Cx} {W : WX}
theorem get_set {S : Store} {n m : Nat} {c : Option Cell} (hn : n < S.length) : (S.set n c)[m]? = if n = m then some c else S[m]? := by
  by_cases h : n = m
  · subst h; rw [if_pos rfl, List.getElem?_set_self hn]
  · rw [if_neg h, List.getElem?_set_ne h]
theorem cell_lt {S : Store} {n : Nat} {c : Cell} (e : cellOf S n = some c) : n < S.length := (List.getElem?_eq_some_iff.mp (cellOf_get e)).1
/-- a live cell is written -/
theorem Pt.write {p : Pt} (h : p.ok G) {n : Nat} {a : Addr} {c c' : Cell} {o o' : HO} (hc : cellOf p.S n = some c) (ea : p.α[n]? = some a) (eo : p.H a = some o) (po : plain o)
    (cr : Car p.H p.N p.α (upd p.H a o') p.N p.α → CR G (upd p.H a o') p.N p.α a c') :
    Pt.ok G ⟨upd p.H a o', p.N, p.S.set n (some c'), p.α⟩ ∧ p.to ⟨upd p.H a o', p.N, p.S.set n (some c'), p.α⟩ := by
  have hn := cell_lt hc
  have la : Live p.S p.α a := ⟨n, c, cellOf_get hc, ea⟩
  have na : p.N a := h.live la
  have lv : ∀ b, Live (p.S.set n (some c')) p.α b → Live p.S p.α b := by
    rintro b ⟨m, x, e1, e2⟩
    rw [get_set hn] at e1
    by_cases hm : n = m
    · subst hm
      rw [ea] at e2; cases e2
      exact la
    · rw [if_neg hm] at e1
      exact ⟨m, x, e1, e2⟩
  have car : Car p.H p.N p.α (upd p.H a o') p.N p.α := ⟨fun b y e n _ => (upd_ne (fun z => n (by rw [z]; exact na))).trans e, fun _ _ n _ _ => n, fun _ _ z => z⟩
  have nto : NT o' := CR.nt (cr car) upd_same
  have t : p.to ⟨upd p.H a o', p.N, p.S.set n (some c'), p.α⟩ := by
    refine ⟨fun b ob e nl _ => ?_, fun b ob e nt => ?_, fun b x => .inl x, fun b x _ => x, fun b l => .inl (lv b l), ⟨[], by simp⟩, fun _ _ x => .inl x⟩
    · show upd p.H a o' b = some ob
      rw [upd_ne (fun z => nl (by rw [z]; exact la))]
      exact e
    · by_cases hb : b = a
      · subst hb; exact ⟨o', upd_same, nto⟩
      · exact ⟨ob, by show upd p.H a o' b = some ob; rw [upd_ne hb]; exact e, nt⟩
  refine ⟨⟨by simp [h.len], fun m x e => ?_, h.nd, fun b nb => ?_, fun m b e => ?_, ?_⟩, t⟩
  · have e := e
    show ∃ b, p.α[m]? = some b ∧ p.N b ∧ CR G (upd p.H a o') p.N p.α b x
    have e : (p.S.set n (some c'))[m]? = some (some x) := e
    rw [get_set hn] at e
    by_cases hm : n = m
    · subst hm
      rw [if_pos rfl] at e
      cases e
      exact ⟨a, ea, na, cr car⟩
    · rw [if_neg hm] at e
      obtain ⟨b, e1, e2, e3⟩ := h.cell m x e
      obtain ⟨ob, e4, _⟩ := h.alv m b e1
      have hb : b ≠ a := fun z => hm (h.nd n m a ea (z ▸ e1))
      exact ⟨b, e1, e2, e3.mono car e4 (upd_ne hb)⟩
  · obtain ⟨ob, e, nt⟩ := h.trk b nb
    exact t.some_ b ob e nt
  · obtain ⟨ob, e', nt⟩ := h.alv m b e
    exact t.some_ b ob e' nt
  · show Tabs G.T (upd p.H a o')
    intro q hq
    obtain ⟨ps, h1, h2, h3⟩ := h.tab q hq
    refine ⟨ps, ?_, h2, fun pos cv e => ?_⟩
    · rw [upd_ne (fun z => by rw [z, eo] at h1; exact po.1 ps (Option.some.inj h1))]
      exact h1
    · obtain ⟨cc, e1, e2⟩ := h3 pos cv e
      refine ⟨cc, e1, ?_⟩
      rw [upd_ne (fun z => by rw [z, eo] at e2; exact po.2 _ (Option.some.inj e2))]
      exact e2
theorem plain_lst {xs : List V} : plain (.lst xs) := ⟨fun _ z => (nomatch z), fun _ z => (nomatch z)⟩
theorem plain_dK {xs : List (Key × V)} : plain (.dK xs) := ⟨fun _ z => (nomatch z), fun _ z => (nomatch z)⟩
theorem plain_ins {C dx : Addr} {fs : List (Str × V)} : plain (.ins C dx fs) := ⟨fun _ z => (nomatch z), fun _ z => (nomatch z)⟩
/-- .. and what is wanted behind -/
theorem wrote {p : Pt} (h : p.ok G) {n : Nat} {a : Addr} {c c' : Cell} {o o' : HO} (hc : cellOf p.S n = some c) (ea : p.α[n]? = some a) (eo : p.H a = some o) (po : plain o)
    (cr : Car p.H p.N p.α (upd p.H a o') p.N p.α → CR G (upd p.H a o') p.N p.α a c') {β γ : Type} {Rel : Pt → β → γ → Prop} {d : β} {v : γ} {Q : γ → Hp → Prop} {E : XK} (z : Post G Rel p (.ok d (p.S.set n (some c'))) Q E)
    (r : ∀ q : Pt, q.ok G → p.to q → Rel q d v) : Q v (upd p.H a o') := by
  obtain ⟨k1, k2⟩ := Pt.write h hc ea eo po cr
  exact z v _ rfl k1 k2 (r _ k1 k2)
/-- x.append(y) and so on, by the receiver's cell -/
def OkM (G : Gn) (X : Cx) (id : String) (o : OM) : Prop :=
  ∀ (p : Pt) (n : Nat) (a : Addr) (ds args : List D) (vs : List V) (Q : VK) (E : XK), p.ok G → cellOf p.S n = some (.lst ds) → p.α[n]? = some a → RVs G p.H p.N p.α args vs →
    Post G (RelD G) p (om p.S n o ds args) Q E → ∃ r, MtR X id r ∧ r (.ref a) vs p.H Q
theorem okm_append : OkM G X "list.append" .append := by
  intro p n a ds args vs Q E h hc ea r z
  obtain ⟨_, xs, e1, e2⟩ := live_cell h hc ea
  cases r with
  | nil => exact z.elim
  | cons r1 r2 => cases r2 with
    | cons _ _ => exact z.elim
    | nil =>
      simp only [om] at z
      split at z
      · rename_i hl
        refine ⟨_, mt_append, a, xs, _, rfl, rfl, e1, by rw [← e2.length]; exact hl, ?_⟩
        exact wrote (c' := .lst (ds ++ [_])) (o' := .lst (xs ++ [_])) h hc ea e1 plain_lst (fun c => ⟨_, upd_same, (e2.mono c).append (.cons (r1.mono c) .nil)⟩) z fun q _ _ => .non
      · exact z.elim
theorem okm_extend : OkM G X "list.extend" .extend := by
  intro p n a ds args vs Q E h hc ea r z
  obtain ⟨_, xs, e1, e2⟩ := live_cell h hc ea
  cases r with
  | nil => exact z.elim
  | cons r1 r2 => cases r2 with
    | cons _ _ => exact z.elim
    | nil =>
      simp only [om] at z
      split at z
      · rename_i ys hy
        split at z
        · rename_i hl
          obtain ⟨b, zs, rfl, f1, f2⟩ := lst_at h hy r1
          refine ⟨_, mt_extend, a, b, xs, zs, rfl, rfl, e1, f1, by rw [← e2.length, ← f2.length]; exact hl, ?_⟩
          exact wrote (c' := .lst (ds ++ ys)) (o' := .lst (xs ++ zs)) h hc ea e1 plain_lst (fun c => ⟨_, upd_same, (e2.mono c).append (f2.mono c)⟩) z fun q _ _ => .non
        · exact z.elim
      · exact z.elim
theorem RVs.dropLast {p : Pt} {ds : List D} {vs : List V} (r : RVs G p.H p.N p.α ds vs) : RVs G p.H p.N p.α ds.dropLast vs.dropLast := by
  rw [List.dropLast_eq_take, List.dropLast_eq_take, r.length]
  exact r.take _
theorem RVs.eraseIdx {H : Hp} {N : Addr → Prop} {α : List Addr} : ∀ {ds : List D} {vs : List V} (i : Nat), RVs G H N α ds vs → RVs G H N α (ds.eraseIdx i) (vs.eraseIdx i)
  | _, _, _, .nil => .nil
  | _, _, 0, .cons _ r => r
  | _, _, i + 1, .cons h r => .cons h (RVs.eraseIdx i r)
theorem okm_pop0 : OkM G X "list.pop" .pop0 := by
  intro p n a ds args vs Q E h hc ea r z
  obtain ⟨_, xs, e1, e2⟩ := live_cell h hc ea
  cases r with
  | cons _ _ => exact z.elim
  | nil =>
    simp only [om] at z
    split at z
    · rename_i y hy
      obtain ⟨v, f1, f2⟩ := e2.get hy
      refine ⟨_, mt_pop, a, xs, v, rfl, rfl, e1, by rw [← e2.length]; exact f1, ?_⟩
      exact wrote (c' := .lst ds.dropLast) (o' := .lst xs.dropLast) h hc ea e1 plain_lst (fun c => ⟨_, upd_same, RVs.mono c (RVs.dropLast e2)⟩) z fun q _ t => t.rv h f2
    · exact z.elim
theorem okm_pop1 : OkM G X "list.pop" .pop1 := by
  intro p n a ds args vs Q E h hc ea r z
  obtain ⟨_, xs, e1, e2⟩ := live_cell h hc ea
  cases r with
  | nil => exact z.elim
  | cons r1 r2 => cases r2 with
    | cons _ _ => cases r1 <;> exact z.elim
    | nil =>
      cases r1 with
      | int i =>
        simp only [om] at z
        split at z
        · rename_i hs
          split at z
          · rename_i k hk
            split at z
            · rename_i y hy
              obtain ⟨v, f1, f2⟩ := e2.get hy
              obtain ⟨g3, _, _, _⟩ := ixN_seq hk
              simp only [small62, Bool.and_eq_true, decide_eq_true_eq] at hs
              refine ⟨_, mt_popAt, a, xs, i, k, v, rfl, rfl, e1, by omega, by omega, by rw [← e2.length]; exact g3, f1, ?_⟩
              exact wrote (c' := .lst (ds.eraseIdx k)) (o' := .lst (xs.eraseIdx k)) h hc ea e1 plain_lst (fun c => ⟨_, upd_same, RVs.mono c (RVs.eraseIdx k e2)⟩) z fun q _ t => t.rv h f2
            · exact z.elim
          · exact z.elim
        · exact z.elim
      | _ => exact z.elim

variable {a b c e : Expr} {xa xb xc : Env' → Store → Rs D} {pos : Pos} {es : List Expr} {xs : Env' → Store → Rs (List D)} {live : Bool}
abbrev mutE (o : OM) (xa : Env' → Store → Rs D) (xs : Env' → Store → Rs (List D)) : Env' → Store → Rs D := fun ρ S => (xa ρ S).bind fun x S1 => match x with
    | .ref n => match cellOf S1 n with
      | some (.lst _) => (xs ρ S1).bind fun ds S2 => match cellOf S2 n with
        | some (.lst ys) => om S2 n o ys ds
        | _ => .stuck
      | _ => .stuck
    | _ => .stuck
theorem ref_at {p : Pt} {n : Nat} {v : V} (r : RV G p.H p.N p.α (.ref n) v) : ∃ a, v = .ref a ∧ p.α[n]? = some a := by
  cases r with
  | ref e => exact ⟨_, rfl, e⟩
theorem snd_mut {o : OM} {id : String} (hK : X.K = G.K) (ho : OkM G X id o) (k : ∀ {r : V → List V → Hp → VK → Prop}, MtR X id r → PE X e (tBM X.K "list" r (tE G W xa) (tA G W xs))) : PE X e (tE G W (mutE o xa xs)) := by
  refine PE.imp (k mt_any) fun σ H Q h => ?_
  obtain ⟨p0, ρ0, rfl, ok0, re0, z0⟩ := h
  refine ⟨p0, ρ0, rfl, ok0, re0, (Post.seq (Rel := RelD G) ok0 z0).imp fun v H1 ⟨d, p1, e1, ok1, t1, r1, z1⟩ => ?_⟩
  subst e1
  cases d with
  | ref n =>
    simp only at z1
    cases hc : cellOf p1.S n with
    | none => rw [hc] at z1; exact z1.elim
    | some x =>
      rw [hc] at z1
      cases x with
      | lst ys =>
        simp only at z1
        obtain ⟨ad, rfl, ea⟩ := ref_at r1
        obtain ⟨_, zs, f1, _⟩ := live_cell ok1 hc ea
        refine ⟨.inl ⟨rfl, zs, SqL.of f1⟩, p1, ρ0, rfl, ok1, re0.mono ok0 t1, (Post.seq (Rel := RelL G) ok1 z1).imp fun vs H2 ⟨ds, p2, e2, ok2, t2, r2, z2⟩ => ?_⟩
        subst e2
        cases hc2 : cellOf p2.S n with
        | none => rw [hc2] at z2; exact z2.elim
        | some x2 =>
          rw [hc2] at z2
          cases x2 with
          | lst ys2 => exact ho p2 n ad ys2 ds vs Q _ ok2 hc2 (t2.at ea) r2 z2
          | dic _ _ => exact z2.elim
          | obj _ _ _ => exact z2.elim
      | dic _ _ => exact z1.elim
      | obj _ _ _ => exact z1.elim
  | _ => exact z1.elim
theorem snd_mut0 {o : OM} {id : String} (hK : X.K = G.K) (ho : OkM G X id o) (k : ∀ {r : V → List V → Hp → VK → Prop}, MtR X id r → PE X e (tBM0 X.K "list" r (tE G W xa))) : PE X e (tE G W (mutE o xa fun _ S => .ok [] S)) := by
  refine PE.imp (k mt_any) fun σ H Q h => ?_
  obtain ⟨p0, ρ0, rfl, ok0, re0, z0⟩ := h
  refine ⟨p0, ρ0, rfl, ok0, re0, (Post.seq (Rel := RelD G) ok0 z0).imp fun v H1 ⟨d, p1, e1, ok1, t1, r1, z1⟩ => ?_⟩
  subst e1
  cases d with
  | ref n =>
    simp only at z1
    cases hc : cellOf p1.S n with
    | none => rw [hc] at z1; exact z1.elim
    | some x =>
      rw [hc] at z1
      cases x with
      | lst ys =>
        simp only [Rs.bind_ok, hc] at z1
        obtain ⟨ad, rfl, ea⟩ := ref_at r1
        obtain ⟨_, zs, f1, _⟩ := live_cell ok1 hc ea
        exact ⟨.inl ⟨rfl, zs, SqL.of f1⟩, ho p1 n ad ys [] [] Q _ ok1 hc ea .nil z1⟩
      | dic _ _ => exact z1.elim
      | obj _ _ _ => exact z1.elim
  | _ => exact z1.elim

/-! ### slices -/
theorem sl_any : SlR X (fun x lo hi H Q => ∃ r, SlR X r ∧ r x lo hi H Q) := by
  intro pins s σ H x v vl vu lo hi sl Q I rx hs pl pu h
  obtain ⟨r, o, q⟩ := h
  exact o pins s σ H x v vl vu lo hi sl Q I rx hs pl pu q
def tP (G : Gn) (W : WX) (x : Env' → Store → Rs (Option Int)) : TO := fun σ H Q => ∃ p ρ, p.H = H ∧ p.ok G ∧ RE G p ρ σ ∧ Post G (fun _ a b => a = b) p (x ρ p.S) Q (fun c d H' => W c d σ H')
theorem PO.imp {o : Option Expr} {t t' : TO} (h : PO X o t) (k : ∀ σ H Q, t' σ H Q → t σ H Q) : PO X o t' := ⟨fun pins s σ H Q I q => h.run pins s σ H Q I (k _ _ _ q)⟩
theorem snd_po_none : PO X none (tP G W fun _ S => .ok none S) := by
  refine PO.imp po_none fun σ H Q h => ?_
  obtain ⟨p, ρ, rfl, ok, re, z⟩ := h
  exact z none p rfl ok Pt.to.refl rfl
theorem snd_po_some (ha : PE X a (tE G W xa)) : PO X (some a) (tP G W fun ρ S => (xa ρ S).bind fun d S1 => match d with
    | .int i => .ok (some i) S1
    | _ => .stuck) := by
  refine PO.imp (po_some ha) fun σ H Q h => ?_
  obtain ⟨p0, ρ0, rfl, ok0, re0, z0⟩ := h
  refine ⟨p0, ρ0, rfl, ok0, re0, (Post.seq (Rel := RelD G) ok0 z0).imp fun v H1 ⟨d, p1, e1, ok1, t1, r1, z1⟩ => ?_⟩
  subst e1
  cases r1 with
  | int i => exact ⟨i, rfl, z1 (some i) p1 rfl ok1 Pt.to.refl rfl⟩
  | _ => exact z1.elim
theorem cutL_rv {p : Pt} {ds : List D} {vs : List V} (r : RVs G p.H p.N p.α ds vs) (lo hi : Option Int) : RVs G p.H p.N p.α (cutL ds lo hi) (cutV vs lo hi) := by
  unfold cutL cutV
  rw [r.length]
  exact (r.drop _).take _
theorem snd_sl {lo hi : Option Expr} {p2 : Pos} {xl xh : Env' → Store → Rs (Option Int)} (hK : X.K = G.K) (ha : PE X a (tE G W xa)) (hl : PO X lo (tP G W xl)) (hh : PO X hi (tP G W xh)) :
    PE X (.Subscript a (.Slice lo hi none p2) pos) (tE G W fun ρ S => (xa ρ S).bind fun x S1 => (xl ρ S1).bind fun l S2 => (xh ρ S2).bind fun h S3 => Rs.of S3 (slV S3 x l h)) := by
  refine PE.imp (pe_slice sl_any ha hl hh) fun σ H Q h => ?_
  obtain ⟨p0, ρ0, rfl, ok0, re0, z0⟩ := h
  refine ⟨p0, ρ0, rfl, ok0, re0, (Post.seq (Rel := RelD G) ok0 z0).imp fun x H1 ⟨d, p1, e1, ok1, t1, r1, z1⟩ => ?_⟩
  subst e1
  refine ⟨p1, ρ0, rfl, ok1, re0.mono ok0 t1, (Post.seq (Rel := fun _ a b => a = b) ok1 z1).imp fun l H2 ⟨l', p2, e2, ok2, t2, r2, z2⟩ => ?_⟩
  subst e2 r2
  refine ⟨p2, ρ0, rfl, ok2, (re0.mono ok0 t1).mono ok1 t2, (Post.seq (Rel := fun _ a b => a = b) ok2 z2).imp fun u H3 ⟨u', p3, e3, ok3, t3, r3, z3⟩ => ?_⟩
  subst e3 r3
  obtain ⟨d', hd, z4⟩ := Post.of z3
  have rx := t3.rv ok2 (t2.rv ok1 r1)
  cases rx with
  | str s =>
    simp only [slV] at hd
    split at hd
    · rename_i hs
      cases hd
      exact ⟨_, sl_str, s, rfl, hs, Post.here (Rel := RelD G) z4 ok3 (.str _)⟩
    · cases hd
  | @tup a ds xs h1 h2 =>
    cases hd
    refine ⟨_, sl_tupA, a, xs, rfl, by rw [hK]; exact h1.sq, fun hw => ?_, fun hw l hl => ?_⟩
    · have e : cutL ds l' u' = ds := by
        unfold cutL
        rw [h2.length, hw.1, hw.2]
        simp [← h2.length]
      rw [e] at z4
      exact Post.here (Rel := RelD G) z4 ok3 (.tup h1 h2)
    · exact at_new ok3 (d := .tup (cutL ds l' u')) (fun v q hS hq ht hv => z4 v q hS hq ht hv) hl fun q e1 e2 e3 c e4 e5 => .tup (.inl ⟨.inl e4, e5⟩) (RVs.mono c (cutL_rv h2 _ _))
  | _ => cases hd
theorem snd_slL {lo hi : Option Expr} {p2 : Pos} {xl xh : Env' → Store → Rs (Option Int)} (hK : X.K = G.K) (ha : PE X a (tE G W xa)) (hl : PO X lo (tP G W xl)) (hh : PO X hi (tP G W xh)) :
    PE X (.Subscript a (.Slice lo hi none p2) pos) (tE G W (EV.mk live fun ρ S => (xa ρ S).bind fun x S1 => (xl ρ S1).bind fun l S2 => (xh ρ S2).bind fun h S3 => match lstOf S3 x with
      | some xs => .ok (.lst (cutL xs l h)) S3
      | none => .stuck)) := by
  have as : ∀ (ρ : Env') (S : Store), EV.mk live (fun ρ S => (xa ρ S).bind fun x S1 => (xl ρ S1).bind fun l S2 => (xh ρ S2).bind fun h S3 => match lstOf S3 x with
      | some xs => Rs.ok (.lst (cutL xs l h)) S3
      | none => .stuck) ρ S = ((xa ρ S).bind fun x S1 => (xl ρ S1).bind fun l S2 => (xh ρ S2).bind fun h S3 => (match lstOf S3 x with
      | some xs => Rs.ok (Cell.lst (cutL xs l h)) S3
      | none => .stuck).bind fun x S1 => if live then .ok (.ref S1.length) (S1 ++ [some x]) else .ok (toD x) S1) := fun ρ S => by
    simp only [EV.mk]
    cases xa ρ S with
    | ok d S1 =>
      simp only [Rs.bind_ok]
      cases xl ρ S1 with
      | ok l S2 =>
        simp only [Rs.bind_ok]
        cases xh ρ S2 <;> rfl
      | _ => rfl
    | _ => rfl
  refine PE.imp (pe_slice sl_any ha hl hh) fun σ H Q h => ?_
  obtain ⟨p0, ρ0, rfl, ok0, re0, z0⟩ := h
  rw [as] at z0
  refine ⟨p0, ρ0, rfl, ok0, re0, (Post.seq (Rel := RelD G) ok0 z0).imp fun x H1 ⟨d, p1, e1, ok1, t1, r1, z1⟩ => ?_⟩
  subst e1
  refine ⟨p1, ρ0, rfl, ok1, re0.mono ok0 t1, (Post.seq (Rel := fun _ a b => a = b) ok1 z1).imp fun l H2 ⟨l', p2, e2, ok2, t2, r2, z2⟩ => ?_⟩
  subst e2 r2
  refine ⟨p2, ρ0, rfl, ok2, (re0.mono ok0 t1).mono ok1 t2, (Post.seq (Rel := fun _ a b => a = b) ok2 z2).imp fun u H3 ⟨u', p3, e3, ok3, t3, r3, z3⟩ => ?_⟩
  subst e3 r3
  cases hs : lstOf p3.S d with
  | none => rw [hs] at z3; exact z3.elim
  | some ds =>
    rw [hs] at z3
    obtain ⟨ad, ys, rfl, h1, h2⟩ := lst_at ok3 hs (t3.rv ok2 (t2.rv ok1 r1))
    exact ⟨_, sl_list, ad, ys, rfl, SqL.of h1, fun l hl => made_list ok3 hl (cutL_rv h2 _ _) z3⟩
/-- x * k of lists -/
theorem rep_rv {p : Pt} {ds : List D} {vs : List V} (r : RVs G p.H p.N p.α ds vs) : ∀ n : Nat, RVs G p.H p.N p.α (List.replicate n ds).flatten (List.replicate n vs).flatten
  | 0 => .nil
  | n + 1 => by
    rw [List.replicate_succ, List.replicate_succ, List.flatten_cons, List.flatten_cons]
    exact r.append (rep_rv r n)
theorem mk_seq2 {ρ : Env'} {S : Store} {k : D → D → Store → Rs Cell} : EV.mk live (fun ρ S => (xa ρ S).bind fun x S1 => (xb ρ S1).bind fun y S2 => k x y S2) ρ S =
    ((xa ρ S).bind fun x S1 => (xb ρ S1).bind fun y S2 => (k x y S2).bind fun x S1 => if live then .ok (.ref S1.length) (S1 ++ [some x]) else .ok (toD x) S1) := by
  simp only [EV.mk]
  cases xa ρ S with
  | ok d S1 =>
    simp only [Rs.bind_ok]
    cases xb ρ S1 <;> rfl
  | _ => rfl
theorem snd_rep (ha : PE X a (tE G W xa)) (hb : PE X b (tE G W xb)) :
    PE X (.BinOp a .Mult b pos) (tE G W (EV.mk live fun ρ S => (xa ρ S).bind fun x S1 => (xb ρ S1).bind fun y S2 => match lstOf S2 x, y with
      | some xs, .int k => if small62 k && decide (xs.length * k.toNat ≤ sizeLine) then .ok (.lst (List.replicate k.toNat xs).flatten) S2 else .stuck
      | _, _ => .stuck)) := by
  refine PE.imp (pe_op op_rep ha hb) fun σ H Q h => ?_
  obtain ⟨p0, ρ0, rfl, ok0, re0, z0⟩ := h
  rw [mk_seq2] at z0
  refine ⟨p0, ρ0, rfl, ok0, re0, (Post.seq (Rel := RelD G) ok0 z0).imp fun x H1 ⟨d, p1, e1, ok1, t1, r1, z1⟩ => ?_⟩
  subst e1
  refine ⟨p1, ρ0, rfl, ok1, re0.mono ok0 t1, (Post.seq (Rel := RelD G) ok1 z1).imp fun y H2 ⟨d2, p2, e2, ok2, t2, r2, z2⟩ => ?_⟩
  subst e2
  cases hs : lstOf p2.S d with
  | none => rw [hs] at z2; exact z2.elim
  | some ds =>
    rw [hs] at z2
    cases r2 with
    | int k =>
      simp only at z2
      obtain ⟨ad, ys, rfl, h1, h2⟩ := lst_at ok2 hs (t2.rv ok1 r1)
      split at z2
      · rename_i hk
        simp only [small62, Bool.and_eq_true, decide_eq_true_eq] at hk
        exact ⟨ad, k, ys, rfl, rfl, h1, by omega, by omega, by rw [← h2.length]; exact hk.2, fun l hl => made_list ok2 hl (rep_rv h2 _) z2⟩
      · exact z2.elim
    | _ => exact z2.elim
theorem RVs.strs {p : Pt} : ∀ ys : List Str, RVs G p.H p.N p.α (ys.map .str) (ys.map V.str)
  | [] => .nil
  | y :: ys => .cons (.str y) (RVs.strs ys)
theorem snd_split (k : PE X e (tM1 (fun x xs H Q => ∃ a b, x = .str a ∧ xs = [.str b] ∧ (b.length == 0) = false ∧ a.length + 2 ≤ sizeLine ∧ rNewStrs (Txt.split a b) H Q) (tE G W xa) (tE G W xb))) :
    PE X e (tE G W (EV.mk live fun ρ S => (xa ρ S).bind fun x S1 => match x with
      | .str s => (xb ρ S1).bind fun y S2 => match y with
        | .str t => if (t.length != 0) && decide (s.length + 2 ≤ sizeLine) then .ok (.lst ((Txt.split s t).map .str)) S2 else .stuck
        | _ => .stuck
      | _ => .stuck)) := by
  refine PE.imp k fun σ H Q h => ?_
  obtain ⟨p0, ρ0, rfl, ok0, re0, z0⟩ := h
  have z0 : Post G (RelD G) p0 ((xa ρ0 p0.S).bind fun x S1 => (match x with
      | .str s => (xb ρ0 S1).bind fun y S2 => match y with
        | .str t => if (t.length != 0) && decide (s.length + 2 ≤ sizeLine) then Rs.ok (Cell.lst ((Txt.split s t).map .str)) S2 else Rs.stuck
        | _ => Rs.stuck
      | _ => Rs.stuck (β := Cell)).bind fun x S1 => if live then .ok (.ref S1.length) (S1 ++ [some x]) else .ok (toD x) S1) Q (fun c d H' => W c d σ H') := by
    simp only [EV.mk] at z0
    cases hx : xa ρ0 p0.S with
    | ok d S1 => rw [hx] at z0; exact z0
    | exc c fs vs S' => rw [hx] at z0; exact z0
    | stuck => rw [hx] at z0; exact z0
  refine ⟨p0, ρ0, rfl, ok0, re0, (Post.seq (Rel := RelD G) ok0 z0).imp fun x H1 ⟨d, p1, e1, ok1, t1, r1, z1⟩ => ?_⟩
  subst e1
  cases r1 with
  | str s =>
    refine ⟨⟨s, rfl⟩, p1, ρ0, rfl, ok1, re0.mono ok0 t1, ?_⟩
    simp only at z1
    have z1 : Post G (RelD G) p1 ((xb ρ0 p1.S).bind fun y S2 => (match y with
        | .str t => if (t.length != 0) && decide (s.length + 2 ≤ sizeLine) then Rs.ok (Cell.lst ((Txt.split s t).map .str)) S2 else Rs.stuck
        | _ => Rs.stuck (β := Cell)).bind fun x S1 => if live then .ok (.ref S1.length) (S1 ++ [some x]) else .ok (toD x) S1) Q (fun c d H' => W c d σ H') := by
      cases hx : xb ρ0 p1.S with
      | ok d S1 => rw [hx] at z1; exact z1
      | exc c fs vs S' => rw [hx] at z1; exact z1
      | stuck => rw [hx] at z1; exact z1
    refine (Post.seq (Rel := RelD G) ok1 z1).imp fun y H2 ⟨d2, p2, e2, ok2, t2, r2, z2⟩ => ?_
    subst e2
    cases r2 with
    | str t =>
      simp only at z2
      split at z2
      · rename_i hk
        simp only [Bool.and_eq_true, decide_eq_true_eq, bne_iff_ne, ne_eq] at hk
        exact ⟨s, t, rfl, rfl, by simpa using hk.1, hk.2, fun l hl => made_list ok2 hl (RVs.strs _) z2⟩
      · exact z2.elim
    | _ => exact z2.elim
  | _ => exact z1.elim
end
end EV
set_option Elab.async false
set_option linter.all false
set_option maxRecDepth 100000
/-! EV, part J: isinstance; new objects; dict displays. -/
namespace EV
open PySem PySem.Spec PyProof.Rows L2 LamX
def tgV (G : Gn) : Tg → Value
  | .non => .type "NoneType"
  | .int => .type "int"
  | .str => .type "str"
  | .bool => .type "bool"
  | .list => .type "list"
  | .tuple => .type "tuple"
  | .dict => .type "dict"
  | .own c => .ref (G.cls c)
def tyV' (G : Gn) : Ty → Value
  | .int => .type "int"
  | .str => .type "str"
  | .bool => .type "bool"
  | .list => .type "list"
  | .tuple => .type "tuple"
  | .dict => .type "dict"
  | .own c => .ref (G.cls c)
def tyW (G : Gn) : Ty → V
  | .int => .ty "int"
  | .str => .ty "str"
  | .bool => .ty "bool"
  | .list => .ty "list"
  | .tuple => .ty "tuple"
  | .dict => .ty "dict"
  | .own c => .ref (G.cls c)
/-- what isinstance must know -/
structure KitF (G : Gn) (isC : Nat → Bool) (tys : List Ty) : Prop where
  kit : ∀ tg ty, (∀ c, tg = .own c → isC c = true) → ty ∈ tys → PySem.W.kitOne G.K (tgV G tg) (tyV' G ty) = some (isTag tg ty)
  at_ : ∀ c, isC c = true → PySem.W.findIn G.K (.ref (G.cls c)) "__class__" = some (some (.builtin "object.__class__"))
  mro : ∀ c, isC c = true → PySem.W.mroIn G.K (G.cls c) (.type "object") = some true
  get : PySem.W.specialIn G.K (.builtin "object.__class__") "__get__" = some (some (.builtin "getset_descriptor.__get__"))
  tk : PySem.W.takesIn G.K (.builtin "object.__class__") = some true
section
variable {G : Gn} {X : Cx} {W : WX} {a b c e : Expr} {xa xb xc : Env' → Store → Rs D} {pos : Pos} {es : List Expr} {xs : Env' → Store → Rs (List D)} {live : Bool}
theorem clsV_ty (G : Gn) (t : Ty) : ClsV (tyW G t) (tyV' G t) := by
  cases t <;> first | exact .ty _ | exact .own _
theorem tag_at {isC : Nat → Bool} {fld : Nat → Nat → Bool} {tys : List Ty} (CF : ClsF G isC fld) (KF : KitF G isC tys) {p : Pt} (h : p.ok G) {d : D} {v : V} {tg : Tg} (e : tagOf isC p.S d = some tg) (r : RV G p.H p.N p.α d v) :
    TyX G.K p.H v (tgV G tg) ∧ ∀ c, tg = .own c → isC c = true := by
  have own : ∀ {c : Nat} {a dx : Addr} {kvs : List (Str × V)}, isC c = true → p.H a = some (.ins (G.cls c) dx kvs) → TyX G.K p.H (.ref a) (tgV G (.own c)) := fun {c a dx kvs} hc ha =>
    .base (.ins ha (CF.cls c hc) (KF.at_ c hc) KF.get KF.tk (KF.mro c hc))
  cases r with
  | non => cases e; exact ⟨.base .non, fun c z => by cases z⟩
  | bl b => cases e; exact ⟨.base (.bl b), fun c z => by cases z⟩
  | int i => cases e; exact ⟨.base (.int i), fun c z => by cases z⟩
  | str s => cases e; exact ⟨.base (.str s), fun c z => by cases z⟩
  | tup h1 _ =>
    cases e
    refine ⟨?_, fun c z => by cases z⟩
    rcases h1 with ⟨h1 | ⟨o, h1⟩, _⟩ | h1
    · exact .base (.tup h1)
    · exact .fTuple h1
    · rcases h1 with (h1 | ⟨o, h1⟩) | ⟨o, its, n, h1, h2, _⟩
      · cases h1
      · cases h1
      · exact .kTuple h1 h2
  | lst h1 _ _ => cases e; exact ⟨.base (.lst h1), fun c z => by cases z⟩
  | scr => cases e
  | dic h1 _ _ _ =>
    cases e
    refine ⟨?_, fun c z => by cases z⟩
    rcases h1 with h1 | ⟨o, h1⟩
    · exact .base (.dK h1)
    · exact .fDict h1
  | @obj _ _ c _ _ _ h1 _ _ _ =>
    simp only [tagOf] at e
    by_cases hc : isC c = true
    · rw [if_pos hc] at e
      cases e
      exact ⟨own hc h1, fun c' z => by cases z; exact hc⟩
    · rw [if_neg hc] at e; cases e
  | @ref n a ea =>
    simp only [tagOf, Option.bind_eq_some_iff] at e
    obtain ⟨x, e1, e2⟩ := e
    obtain ⟨_, cr⟩ := live_cell h e1 ea
    cases x with
    | lst ds =>
      cases e2
      obtain ⟨xs, f1, _⟩ := cr
      exact ⟨.base (.lst f1), fun c z => by cases z⟩
    | dic ks ds =>
      cases e2
      obtain ⟨xs, f1, _⟩ := cr
      exact ⟨.base (.dK f1), fun c z => by cases z⟩
    | obj c fs ds =>
      simp only [cellTag] at e2
      obtain ⟨dx, kvs, f1, _⟩ := cr
      by_cases hc : isC c = true
      · rw [if_pos hc] at e2
        cases e2
        exact ⟨own hc f1, fun c' z => by cases z; exact hc⟩
      · rw [if_neg hc] at e2; cases e2
theorem kit_any {isC : Nat → Bool} {tys : List Ty} (KF : KitF G isC tys) {tg : Tg} (hc : ∀ c, tg = .own c → isC c = true) : ∀ {ts : List Ty}, (∀ t ∈ ts, t ∈ tys) → PySem.W.kitAny G.K (tgV G tg) (ts.map (tyV' G)) = some (ts.any (isTag tg))
  | [], _ => rfl
  | t :: ts, h => by
    have ih := kit_any KF hc (ts := ts) fun x hx => h x (List.mem_cons_of_mem _ hx)
    have k := KF.kit tg t hc (h t List.mem_cons_self)
    unfold PySem.W.kitAny
    rw [List.map_cons]
    simp only [k]
    rw [List.any_cons]
    cases isTag tg t with
    | true => rfl
    | false => exact ih
abbrev isiE (isC : Nat → Bool) (ts : List Ty) (xa : Env' → Store → Rs D) : Env' → Store → Rs D := fun ρ S => (xa ρ S).bind fun x S1 => match tagOf isC S1 x with
    | some tg => .ok (.bl (ts.any (isTag tg))) S1
    | none => .stuck
/-- isinstance(x, T) -/
theorem snd_isi1 {isC : Nat → Bool} {fld : Nat → Nat → Bool} {tys : List Ty} (hK : X.K = G.K) (CF : ClsF G isC fld) (KF : KitF G isC tys) {t : Ty} (ht : t ∈ tys) {p : Pos}
    (hg : Gl X "isinstance") (hm : X.mg "isinstance" = none) (hn : notStar a = true) (hs : notStar b = true) (ha : PE X a (tE G W xa)) (hb : PE X b (tC (tyW G t))) :
    PE X (.Call (.Name "isinstance" p) [a, b] [] pos) (tE G W (isiE isC [t] xa)) := by
  refine PE.imp (pe_callB (call_isi) hg hm (by decide +kernel) (pa_cons ha (pa_cons hb pa_nil (starEach_plain hs)) (starEach_plain hn)) (he := starEach_plain hn) (hpl := noStars (es := [b]) (by simp [hs]))) fun σ H Q h => ?_
  obtain ⟨p0, ρ0, rfl, ok0, re0, z0⟩ := h
  refine ⟨p0, ρ0, rfl, ok0, re0, (Post.seq (Rel := RelD G) ok0 z0).imp fun x H1 ⟨d, p1, e1, ok1, t1, r1, z1⟩ => ?_⟩
  subst e1
  cases htg : tagOf isC p1.S d with
  | none => simp only [htg] at z1; exact z1.elim
  | some tg =>
    simp only [htg] at z1
    obtain ⟨h1, h2⟩ := tag_at CF KF ok1 htg r1
    refine ⟨x, tyW G t, tgV G tg, tyV' G t, isTag tg t, rfl, clsV_ty G t, by rw [hK]; exact h1, by rw [hK]; exact KF.kit tg t h2 ht, ?_⟩
    have z1 : Post G (RelD G) p1 (.ok (.bl (isTag tg t || false)) p1.S) Q _ := z1
    rw [Bool.or_false] at z1
    exact Post.here (Rel := RelD G) z1 ok1 (.bl _)
theorem pa_consts {G : Gn} : ∀ {bs : List Expr} {ts : List Ty}, Paired (fun b t => PE X b (tC (tyW G t)) ∧ notStar b = true) bs ts → PA X bs (fun _ H Q => Q (ts.map (tyW G)) H)
  | _, _, .nil => ⟨fun ps pins s σ H Q I q => pa_nil.run ps pins s σ H Q I q⟩
  | _, _, .cons h r => ⟨fun ps pins s σ H Q I q => (pa_cons h.1 (pa_consts r) (starEach_plain h.2)).run ps pins s σ H Q I q⟩
theorem paired_cls : ∀ ts : List Ty, Paired ClsV (ts.map (tyW G)) (ts.map (tyV' G))
  | [] => .nil
  | t :: ts => .cons (clsV_ty G t) (paired_cls ts)
theorem Paired.len {α β : Type} {F : α → β → Prop} : ∀ {l : List α} {r : List β}, Paired F l r → l.length = r.length
  | _, _, .nil => rfl
  | _, _, .cons _ t => by simp [Paired.len t]
/-- isinstance(x, (T, U)) -/
theorem snd_isiT {isC : Nat → Bool} {fld : Nat → Nat → Bool} {tys : List Ty} (hK : X.K = G.K) (CF : ClsF G isC fld) (KF : KitF G isC tys) {ts : List Ty} (ht : ∀ t ∈ ts, t ∈ tys) {p p2 : Pos} {x1 : Nat} {bs : List Expr} (hl : ts.length ≤ 100)
    (hg : Gl X "isinstance") (hm : X.mg "isinstance" = none) (hn : notStar a = true) (ha : PE X a (tE G W xa)) (hb : Paired (fun b t => PE X b (tC (tyW G t)) ∧ notStar b = true) bs ts) :
    PE X (.Call (.Name "isinstance" p) [a, .Tuple bs x1 p2] [] pos) (tE G W (isiE isC ts xa)) := by
  refine PE.imp (pe_callB (call_isiT) hg hm (by decide +kernel) (pa_cons ha (pa_cons (pe_tup (pa_consts hb)) pa_nil) (starEach_plain hn)) (he := starEach_plain hn)) fun σ H Q h => ?_
  obtain ⟨p0, ρ0, rfl, ok0, re0, z0⟩ := h
  refine ⟨p0, ρ0, rfl, ok0, re0, (Post.seq (Rel := RelD G) ok0 z0).imp fun x H1 ⟨d, p1, e1, ok1, t1, r1, z1⟩ => ?_⟩
  subst e1
  cases htg : tagOf isC p1.S d with
  | none => simp only [htg] at z1; exact z1.elim
  | some tg =>
    simp only [htg] at z1
    have hs : sizeLine = 16777216 := sizeLine_eq
    refine ⟨by rw [List.length_map]; omega, fun l hl' => ?_⟩
    have okl : Pt.ok G ⟨upd p1.H l (.tup (ts.map (tyW G))), p1.N, p1.S, p1.α⟩ := ST.laid ok1 hl'
    have tl : p1.to ⟨upd p1.H l (.tup (ts.map (tyW G))), p1.N, p1.S, p1.α⟩ := Stp.laid hl'
    obtain ⟨h1, h2⟩ := tag_at CF KF okl (d := d) htg (tl.rv ok1 r1)
    refine ⟨x, l, ts.map (tyW G), tgV G tg, ts.map (tyV' G), ts.any (isTag tg), rfl, upd_same, paired_cls ts, by rw [hK]; exact h1, by rw [hK]; exact kit_any KF h2 ht, ?_⟩
    exact z1 (.bl _) ⟨upd p1.H l (.tup (ts.map (tyW G))), p1.N, p1.S, p1.α⟩ rfl okl tl (.bl _)

/-! ### C(..) -/
/-- the __init__ of the class at C -/
def Maker (X : Cx) (G : Gn) (C : Addr) (n : Nat) (fn : List D → Store → Rs D) (dd : List D) : Prop := ∃ f, Mk X.K C f ∧ Callee X G f n fn dd
theorem snd_new {c : Nat} {x : Str} {p : Pos} {n : Nat} {fn : List D → Store → Rs D} {dfl : Nat → List D}
    (M : ∀ m, Maker X G (G.cls c) n fn (dfl m)) (hg : Gl X x) (hm : X.mg x = some (.ref (G.cls c))) (hk : PySem.W.keepIn X.K (.ref (G.cls c)) = true)
    (tk : Takes X W) (hdb : (x == ("__debug__" : Str)) = false) (hs : es.all notStar = true) (ha : PA X es (tA G W xs)) (h0 : es = [] → ∀ ρ S, xs ρ S = .ok [] S) :
    PE X (.Call (.Name x p) es [] pos) (tE G W fun ρ S => (xs ρ S).bind fun ds S1 => if (ds ++ dfl ds.length).length + 1 = n then
        (fn (.ref S1.length :: (ds ++ dfl ds.length)) (S1 ++ [some (.obj c [] [])])).bind fun r S2 => match r with
        | .non => .ok (.ref S1.length) S2
        | _ => .stuck
      else .stuck) := by
  refine ⟨fun pins s σ H Q I h => ?_⟩
  refine wpAny_Call_Name_kw (ld_glob I hg hm ?_ hdb)
  obtain ⟨p0, ρ0, rfl, ok0, re0, z0⟩ := h
  have fin : ∀ {p1 : Pt} {dx : List D} {vs : List V} {us : List Value} {s1 : Shared}, Inv X pins σ p1.H s1 → p1.ok G → RVs G p1.H p1.N p1.α dx vs → Vals vs us →
      Post G (RelD G) p1 (if (dx ++ dfl dx.length).length + 1 = n then
        (fn (.ref p1.S.length :: (dx ++ dfl dx.length)) (p1.S ++ [some (.obj c [] [])])).bind fun r S2 => match r with
        | .non => .ok (.ref p1.S.length) S2
        | _ => .stuck
      else .stuck) Q (fun c d H' => W c d σ H') → wpAny (model X.prog X.w) X.A (call (.ref (G.cls c)) us) (EP X pins σ Q) X.xe s1 := fun {p1 dx vs us s1} I1 ok1 r1 ru z1 => by
    by_cases hl : (dx ++ dfl dx.length).length + 1 = n
    · rw [if_pos hl] at z1
      obtain ⟨f, hM, k, fd, ps, dvs, dsv, F, hr, hb, hd, hdv⟩ := M dx.length
      have h1 : p1.H s1.heap.objs.size = none := I1.hok.fresh (Nat.le_refl _)
      have h2 : p1.H (s1.heap.objs.size + 1) = none := I1.hok.fresh (Nat.le_succ _)
      have ne : s1.heap.objs.size ≠ s1.heap.objs.size + 1 := Nat.ne_of_lt (Nat.lt_succ_self _)
      -- the object's own dict first
      have okd : Pt.ok G ⟨upd p1.H s1.heap.objs.size (.own (s1.heap.objs.size + 1)), p1.N, p1.S, p1.α⟩ := ST.laid ok1 h1
      have td : p1.to ⟨upd p1.H s1.heap.objs.size (.own (s1.heap.objs.size + 1)), p1.N, p1.S, p1.α⟩ := Stp.laid h1
      have h3 : upd p1.H s1.heap.objs.size (.own (s1.heap.objs.size + 1)) (s1.heap.objs.size + 1) = none := by rw [upd_ne ne.symm]; exact h2
      obtain ⟨k1, k2, k3⟩ := Pt.alloc (p := ⟨upd p1.H s1.heap.objs.size (.own (s1.heap.objs.size + 1)), p1.N, p1.S, p1.α⟩) (c := .obj c [] []) (H' := upd (upd p1.H s1.heap.objs.size (.own (s1.heap.objs.size + 1))) (s1.heap.objs.size + 1) (.ins (G.cls c) s1.heap.objs.size [])) okd h3
        (fun b o e => by rw [upd_ne (ne_of_none e h3)]; exact e) fun _ => ⟨⟨s1.heap.objs.size, [], upd_same, rfl, .nil⟩, _, upd_same⟩
      have t2 : p1.to ⟨_, _, _, _⟩ := td.trans ok1 k2
      have I2 := Inv.made (C := G.cls c) I1
      have r2 : Vals (V.ref (s1.heap.objs.size + 1) :: (vs ++ dvs)) (Value.ref (s1.heap.objs.size + 1) :: (us ++ dsv)) := .cons rfl (ru.append hd)
      have hsp : spF G n fn (V.ref (s1.heap.objs.size + 1) :: (vs ++ dvs)) (upd (upd p1.H s1.heap.objs.size (.own (s1.heap.objs.size + 1))) (s1.heap.objs.size + 1) (.ins (G.cls c) s1.heap.objs.size []))
          (fun v H2 => v = .non ∧ Q (.ref (s1.heap.objs.size + 1)) H2) (WE W σ) := by
        refine ⟨_, .ref p1.S.length :: (dx ++ dfl dx.length), rfl, k1, by simpa using hl, .cons (.ref k3) ((t2.rvs ok1 r1).append (hdv _)), ?_⟩
        refine (Post.seq (Rel := RelD G) k1 (z1.step ok1 t2)).imp fun v H2 ⟨d, p3, e3, ok3, t3, r3, z3⟩ => ?_
        subst e3
        cases r3 with
        | non => exact ⟨rfl, Post.here (Rel := RelD G) z3 ok3 (.ref (t3.at k3))⟩
        | _ => exact z3.elim
      have hl2 : (Value.ref (s1.heap.objs.size + 1) :: us ++ dsv).length = ps.length := by
        have e := r2.length
        rw [F.len _ _ _ _ hsp] at e
        exact e.symm
      refine wpAny_call (make_map (f := f) I1.kIn hM.makes hM.init (beq_iff_eq.mp hM.fn) (codeAny_mono (F.run _ X.stack _ _ ⟨Value.ref (s1.heap.objs.size + 1) :: us, []⟩ (Value.ref (s1.heap.objs.size + 1) :: (us ++ dsv)) _ _ (WE W σ) (hr.make (G.cls c) us [])
        (I2.env0.make (G.cls c) us []) (hb (by rw [← hl, List.length_append]; omega) _ (Value.ref (s1.heap.objs.size + 1) :: us) I2.kIn hl2) r2 hsp) fun r s' hq' => ?_))
      cases r with
      | error e => exact passAt tk σ pins _ _ e s' I2 hq'
      | ok fl =>
        cases fl with
        | ret u =>
          obtain ⟨v, H', I3, rv, ev, q3⟩ := I2.after hq'
          subst ev
          exact ⟨rv, ⟨V.ref (s1.heap.objs.size + 1), H', I3, rfl, q3⟩⟩
        | next => exact False.elim hq'
        | brk => exact False.elim hq'
        | cont => exact False.elim hq'
    · rw [if_neg hl] at z1
      exact z1.elim
  cases es with
  | nil =>
    simp only [h0 rfl, Rs.bind_ok] at z0
    exact PySem.W.callWith_K0 I.kIn hk (fin (us := []) (vs := []) (dx := []) I ok0 .nil .nil z0)
  | cons e es =>
    rw [List.all_cons, Bool.and_eq_true] at hs
    have h1 : tA G W xs σ p0.H (fun v H1 => ∃ d r, r.H = H1 ∧ r.ok G ∧ p0.to r ∧ RVs G r.H r.N r.α d v ∧ Post G (RelD G) r (if (d ++ dfl d.length).length + 1 = n then
        (fn (.ref r.S.length :: (d ++ dfl d.length)) (r.S ++ [some (.obj c [] [])])).bind fun r' S2 => match r' with
        | .non => .ok (.ref r.S.length) S2
        | _ => .stuck
      else .stuck) Q (fun c d H' => W c d σ H')) := ⟨p0, ρ0, rfl, ok0, re0, Post.seq (Rel := RelL G) ok0 z0⟩
    refine PySem.W.callWith_K (h₀ := X.base) I.ok.mod.kin hk (thn (ha.run pos pins s σ p0.H _ I h1) fun us s1 ⟨vs, H1, I1, r, d, p1, e1, ok1, t1, r1, z1⟩ => ⟨I1.kIn, ?_⟩) (starEach_plain hs.1) (noStars hs.2)
    subst e1
    exact fin I1 ok1 r1 r z1
end
end EV
set_option Elab.async false
set_option linter.all false
set_option maxRecDepth 100000
/-! EV, part K: what is walked. -/
namespace EV
open PySem PySem.Spec PyProof.Rows L2 LamX
def Pt.lock (p : Pt) (ls : List Nat) : Pt := ⟨p.H, p.N, EV.lock p.S ls, p.α⟩
section
variable {G : Gn} {X : Cx} {W : WX}
theorem lock_len (S : Store) : ∀ ls, (EV.lock S ls).length = S.length
  | [] => rfl
  | l :: ls => by simp [EV.lock, lock_len S ls]
theorem lock_get {S : Store} {n : Nat} {c : Cell} : ∀ {ls : List Nat}, (EV.lock S ls)[n]? = some (some c) → S[n]? = some (some c) ∧ n ∉ ls
  | [], h => ⟨h, by simp⟩
  | l :: ls, h => by
    unfold EV.lock at h
    by_cases e : l = n
    · subst e
      by_cases q : l < (EV.lock S ls).length
      · rw [List.getElem?_set_self q] at h; cases h
      · rw [List.getElem?_eq_none (by simpa using q)] at h; cases h
    · rw [List.getElem?_set_ne e] at h
      obtain ⟨h1, h2⟩ := lock_get h
      exact ⟨h1, by simp [h2, Ne.symm e]⟩
theorem lock_live {p : Pt} {ls : List Nat} {b : Addr} (h : Live (p.lock ls).S (p.lock ls).α b) : Live p.S p.α b := by
  obtain ⟨n, c, e1, e2⟩ := h
  exact ⟨n, c, (lock_get e1).1, e2⟩
theorem Pt.lock_ok {p : Pt} (h : p.ok G) (ls : List Nat) : (p.lock ls).ok G := by
  refine ⟨by show p.α.length = _; rw [show (p.lock ls).S.length = p.S.length from lock_len _ _]; exact h.len, fun n c e => ?_, h.nd, h.trk, h.alv, h.tab⟩
  exact h.cell n c (lock_get e).1
theorem Pt.lock_to {p : Pt} (ls : List Nat) (q : Pt) (hq : (p.lock ls).to q) : ∀ b o, p.H b = some o → ¬ Live p.S p.α b → (∀ ps, o ≠ .tbl ps) → q.H b = some o := fun b o e n t => hq.keep b o e (fun l => n (lock_live l)) t
theorem Pt.to_lock {p0 p : Pt} (ls : List Nat) (t : p0.to p) : p0.to (p.lock ls) := ⟨t.keep, t.some_, t.nn, t.zz, fun b l => t.lv b (lock_live l), t.pre, t.al⟩
theorem unlock_len (S S' : Store) : ∀ ls, (unlock S S' ls).length = S'.length
  | [] => rfl
  | l :: ls => by simp [unlock, unlock_len S S' ls]
theorem unlock_get {S S' : Store} {n : Nat} {c : Cell} : ∀ {ls : List Nat}, (unlock S S' ls)[n]? = some (some c) → (n ∈ ls ∧ S[n]? = some (some c)) ∨ S'[n]? = some (some c)
  | [], h => .inr h
  | l :: ls, h => by
    unfold unlock at h
    by_cases e : l = n
    · subst e
      by_cases q : l < (unlock S S' ls).length
      · rw [List.getElem?_set_self q] at h
        refine .inl ⟨by simp, ?_⟩
        cases hs : S[l]? with
        | none => rw [hs] at h; cases h
        | some o => rw [hs] at h; cases o with
          | none => cases h
          | some x => simpa using h
      · rw [List.getElem?_eq_none (by simpa using q)] at h; cases h
    · rw [List.getElem?_set_ne e] at h
      rcases unlock_get h with ⟨h1, h2⟩ | h1
      · exact .inl ⟨by simp [h1], h2⟩
      · exact .inr h1
/-- the locked ones stand as they stood -/
theorem Pt.unlock {p q : Pt} {ls : List Nat} (h : p.ok G) (hq : q.ok G) (t : (p.lock ls).to q) :
    Pt.ok G ⟨q.H, q.N, EV.unlock p.S q.S ls, q.α⟩ ∧ p.to ⟨q.H, q.N, EV.unlock p.S q.S ls, q.α⟩ := by
  have hl := Pt.lock_ok h ls
  have car := t.car hl
  have stay : ∀ n c a, n ∈ ls → p.S[n]? = some (some c) → p.α[n]? = some a → ¬ Live (p.lock ls).S (p.lock ls).α a := by
    rintro n c a hn e1 e2 ⟨m, x, e3, e4⟩
    obtain ⟨f1, f2⟩ := lock_get e3
    have : m = n := h.nd m n a e4 e2
    subst this
    exact f2 hn
  have lv : ∀ b, Live (EV.unlock p.S q.S ls) q.α b → Live p.S p.α b ∨ Fr p.H b := by
    rintro b ⟨n, c, e1, e2⟩
    rcases unlock_get e1 with ⟨h1, h2⟩ | h1
    · obtain ⟨a, f1, _, _⟩ := h.cell n c h2
      have := t.at f1
      rw [e2] at this; cases this
      exact .inl ⟨n, c, h2, f1⟩
    · rcases t.lv b ⟨n, c, h1, e2⟩ with z | z
      · exact .inl (lock_live z)
      · exact .inr z
  have t' : p.to ⟨q.H, q.N, EV.unlock p.S q.S ls, q.α⟩ :=
    ⟨fun b o e n tb => t.keep b o e (fun l => n (lock_live l)) tb, t.some_, t.nn, fun b n l => t.zz b n fun z => l (lock_live z), lv, t.pre, t.al⟩
  refine ⟨⟨by show q.α.length = _; rw [show (EV.unlock p.S q.S ls).length = q.S.length from unlock_len _ _ _]; exact hq.len, fun n c e => ?_, hq.nd, hq.trk, hq.alv, hq.tab⟩, t'⟩
  rcases unlock_get e with ⟨h1, h2⟩ | h1
  · obtain ⟨a, f1, f2, f3⟩ := h.cell n c h2
    obtain ⟨o, f4, _⟩ := h.alv n a f1
    have nl := stay n c a h1 h2 f1
    have np : ∀ ps, o ≠ .tbl ps := fun ps z => by
      subst z
      cases c with
      | lst ds => obtain ⟨xs, g, _⟩ := f3; rw [f4] at g; cases g
      | dic ks ds => obtain ⟨xs, g, _⟩ := f3; rw [f4] at g; cases g
      | obj k fs ds => obtain ⟨dx, xs, g, _⟩ := f3; rw [f4] at g; cases g
    exact ⟨a, t.at f1, t.zz a f2 nl, f3.mono car f4 (by show q.H a = p.H a; rw [t.keep a o f4 nl np, f4])⟩
  · exact hq.cell n c h1

/-- an iterator of these items, as long as nothing that was is changed -/
def JOk (G : Gn) (J : It) (p0 : Pt) (items : List D) : Prop := ∀ (p : Pt) (i : Nat), p.ok G → p0.to p → (i < items.length → J.go i p.H) ∧ (items.length ≤ i → J.stop i p.H) ∧
  ∀ x H', J.yld i p.H x H' → ∀ d, items[i]? = some d → ∃ q, q.H = H' ∧ q.S = p.S ∧ q.ok G ∧ p.to q ∧ RV G q.H q.N q.α d x
abbrev RelI (G : Gn) : Pt → List D × List Nat → It → Prop := fun q r J => JOk G J (q.lock r.2) r.1
def tI (G : Gn) (W : WX) (x : Env' → Store → Rs (List D × List Nat)) : TI := fun σ H R => ∃ p ρ, p.H = H ∧ p.ok G ∧ RE G p ρ σ ∧ Post G (RelI G) p (x ρ p.S) R (fun c d H' => W c d σ H')
theorem PI.imp {tg it : Expr} {w w' : TI} (h : PI X tg it w) (k : ∀ σ H R, w' σ H R → w σ H R) : PI X tg it w' := ⟨fun pins s σ H R I q => h.run pins s σ H R I (k _ _ _ q)⟩
theorem PI.or {tg it : Expr} {w w' : TI} (h : PI X tg it w) (h' : PI X tg it w') : PI X tg it (fun σ H R => w σ H R ∨ w' σ H R) := ⟨fun pins s σ H R I q => q.elim (h.run pins s σ H R I) (h'.run pins s σ H R I)⟩
/-- where the items come from -/
inductive Src (G : Gn) (p : Pt) (a : Addr) (xs : List V) : Prop where
  | l (h : ∀ q : Pt, p.to q → SqL G.K q.H a xs) | t (h : ∀ q : Pt, p.to q → SqT G.K q.H a xs)
theorem src_of {p : Pt} (h : p.ok G) {d : D} {items : List D} {ls : List Nat} {v : V} (e : iterL p.S d = some (items, ls)) (r : RV G p.H p.N p.α d v) :
    ∃ a xs, v = .ref a ∧ RVs G p.H p.N p.α items xs ∧ ((∀ ms, (∀ l ∈ ls, l ∈ ms) → ∀ q : Pt, (p.lock ms).to q → SqL G.K q.H a xs) ∧ (∃ S, d = .ref S ∨ (∃ x, d = .lst x) ∨ ∃ x, d = .scr x) ∨ (∀ ms, ∀ q : Pt, (p.lock ms).to q → SqT G.K q.H a xs) ∧ ∃ x, d = .tup x) := by
  have nlv : ∀ ms a, ¬ p.N a → ¬ Live (p.lock ms).S (p.lock ms).α a := fun ms a n l => n (h.live (lock_live l))
  cases r with
  | @lst a ds xs h1 h2 h3 =>
    cases e
    exact ⟨a, xs, rfl, h3, .inl ⟨fun ms _ q t => SqL.of (t.keep a _ h1 (nlv ms a h2) fun _ z => nomatch z), 0, .inr (.inl ⟨_, rfl⟩)⟩⟩
  | @scr a ds xs h1 h2 =>
    cases e
    refine ⟨a, xs, rfl, h2, .inl ⟨fun ms _ q t => ?_, 0, .inr (.inr ⟨_, rfl⟩)⟩⟩
    rcases h1 with ⟨h1 | ⟨o, h1⟩, n⟩ | h1
    · exact .inl (.inl (t.keep a _ h1 (nlv ms a n) fun _ z => nomatch z))
    · exact .inl (.inr ⟨o, t.keep a _ h1 (nlv ms a n) fun _ z => nomatch z⟩)
    · exact RL.sq (N := q.N) (.inr h1)
  | @tup a ds xs h1 h2 =>
    cases e
    refine ⟨a, xs, rfl, h2, .inr ⟨fun ms q t => ?_, _, rfl⟩⟩
    rcases h1 with ⟨h1 | ⟨o, h1⟩, n⟩ | h1
    · exact .inl (.inl (t.keep a _ h1 (nlv ms a n) fun _ z => nomatch z))
    · exact .inl (.inr ⟨o, t.keep a _ h1 (nlv ms a n) fun _ z => nomatch z⟩)
    · exact RT.sq (N := q.N) (.inr h1)
  | @ref n a ea =>
    simp only [iterL] at e
    cases hc : cellOf p.S n with
    | none => rw [hc] at e; cases e
    | some c =>
      rw [hc] at e
      cases c with
      | lst ds =>
        cases e
        obtain ⟨_, xs, e1, e2⟩ := live_cell h hc ea
        refine ⟨a, xs, rfl, e2, .inl ⟨fun ms hm q t => SqL.of (t.keep a _ e1 ?_ fun _ z => nomatch z), n, .inl rfl⟩⟩
        rintro ⟨m, x, f1, f2⟩
        obtain ⟨g1, g2⟩ := lock_get f1
        have : m = n := h.nd m n a f2 ea
        subst this
        exact g2 (hm m (by simp))
      | dic _ _ => cases e
      | obj _ _ _ => cases e
  | non => cases e
  | bl => cases e
  | int => cases e
  | str => cases e
  | dic => cases e
  | obj => cases e
theorem jok_list {p0 : Pt} (h0 : p0.ok G) {a : Addr} {xs : List V} {ds : List D} (r : RVs G p0.H p0.N p0.α ds xs) (s : ∀ q : Pt, p0.to q → SqL G.K q.H a xs) : JOk G (Itl G.K a) p0 ds := by
  intro p i ok t
  have sq := s p t
  refine ⟨fun hi => ?_, fun hi => ⟨xs, sq, by rw [← r.length]; exact hi⟩, fun x H' y d e => ?_⟩
  · obtain ⟨v, e, _⟩ := r.get (List.getElem?_eq_getElem hi)
    exact ⟨xs, v, sq, e⟩
  · obtain ⟨rfl, y⟩ := y
    obtain ⟨v, e1, e2⟩ := r.get e
    have := y xs sq
    rw [e1] at this; cases this
    exact ⟨p, rfl, rfl, ok, Pt.to.refl, t.rv h0 e2⟩
theorem jok_tup {p0 : Pt} (h0 : p0.ok G) {a : Addr} {xs : List V} {ds : List D} (r : RVs G p0.H p0.N p0.α ds xs) (s : ∀ q : Pt, p0.to q → SqT G.K q.H a xs) : JOk G (Itt G.K a) p0 ds := by
  intro p i ok t
  have sq := s p t
  refine ⟨fun hi => ?_, fun hi => ⟨xs, sq, by rw [← r.length]; exact hi⟩, fun x H' y d e => ?_⟩
  · obtain ⟨v, e, _⟩ := r.get (List.getElem?_eq_getElem hi)
    exact ⟨xs, v, sq, e⟩
  · obtain ⟨rfl, y⟩ := y
    obtain ⟨v, e1, e2⟩ := r.get e
    have := y xs sq
    rw [e1] at this; cases this
    exact ⟨p, rfl, rfl, ok, Pt.to.refl, t.rv h0 e2⟩
theorem jok_str {p0 : Pt} {s : Str} : JOk G (Its s) p0 (s.cps.toList.map fun c => .str ⟨#[c]⟩) := by
  intro p i ok t
  refine ⟨fun hi => show i < s.cps.size by simpa using hi, fun hi => show s.cps.size ≤ i by simpa using hi, fun x H' y d e => ?_⟩
  obtain ⟨rfl, c, h1, rfl⟩ := y
  rw [List.getElem?_map, Array.getElem?_toList, h1] at e
  cases e
  exact ⟨p, rfl, rfl, ok, Pt.to.refl, .str _⟩
theorem jok_range {p0 : Pt} {lo : Int} {n : Nat} : JOk G (Itr lo n) p0 (rangeD lo n) := by
  intro p i ok t
  refine ⟨fun hi => show i < n by simpa [rangeD] using hi, fun hi => show n ≤ i by simpa [rangeD] using hi, fun x H' y d e => ?_⟩
  obtain ⟨rfl, rfl⟩ := y
  simp only [rangeD, List.getElem?_map, Option.map_eq_some_iff] at e
  obtain ⟨j, e1, rfl⟩ := e
  have hj : j = i := by
    have hi := (List.getElem?_eq_some_iff.mp e1).1
    rw [List.length_range] at hi
    rw [List.getElem?_range hi] at e1
    exact (Option.some.inj e1).symm
  subst hj
  exact ⟨p, rfl, rfl, ok, Pt.to.refl, .int _⟩
/-- a pair that the iterator makes -/
theorem yld_pair {p : Pt} (ok : p.ok G) {T : Addr} (hT : p.H T = none) {d1 d2 : D} {x y : V} (h1 : RV G p.H p.N p.α d1 x) (h2 : RV G p.H p.N p.α d2 y) :
    ∃ q : Pt, q.H = upd p.H T (.tup [x, y]) ∧ q.S = p.S ∧ q.ok G ∧ p.to q ∧ RV G q.H q.N q.α (.tup [d1, d2]) (.ref T) := by
  have t : p.to ⟨upd p.H T (.tup [x, y]), p.N, p.S, p.α⟩ := Stp.laid hT
  refine ⟨⟨upd p.H T (.tup [x, y]), p.N, p.S, p.α⟩, rfl, rfl, ST.laid ok hT, t, .tup (.inl ⟨.inl upd_same, fun z => ?_⟩) (.cons (t.rv ok h1) (.cons (t.rv ok h2) .nil))⟩
  obtain ⟨o, e, _⟩ := ok.trk T z
  rw [hT] at e; cases e
end
end EV
set_option Elab.async false
set_option linter.all false
set_option maxRecDepth 100000
set_option maxHeartbeats 2000000
/-! EV, part Ke: enumerate of a tuple. -/
namespace EV
open PySem PySem.Spec PyProof.Rows L2 LamX
abbrev TupIt (l : Addr) : Obj := { cls := .type "tuple_iterator", data := .fields #[.ref l, .int 0 0] }
abbrev EnumO (it : Addr) : Obj := { cls := .type "enumerate", data := .fields #[.none, .bool false, .ref it, rawInt 0, .none, .none] }
theorem meets_enumT (l : Addr) (its : Array Value) :
    Meets (Builtin.«enumerate.__new__» ⟨[.type "enumerate", .ref l], []⟩) (fun _ R s => s.heap.IsTuple l its ∧ R (.ok (.ret (.ref (s.heap.push (TupIt l)).objs.size))) { s with heap := (s.heap.push (TupIt l)).push (EnumO s.heap.objs.size) }) := by
  refine .of_wp fun prog w A R s h => ?_
  obtain ⟨hp, g, d, tk, os⟩ := s
  obtain ⟨hl, fin⟩ := h
  have sub := sub_enumerate
  have hL : Heap.IsTuple (Shared.heap ⟨hp, g, d, tk, os⟩) l its := hl
  obtain ⟨ol, hol, _, nl, hdl⟩ := id hL
  wp_walk using AutoSeq1.wpAny_loadPart' hol
  refine wpAny_stack_any fun st => wpAny_pure ?_
  split
  · rename_i c _ _ _ _ _
    cases (c == Value.type "enumerate") <;> (wp_walk using AutoSeq1.wpAny_loadPart' hol, wpAny_pyIter_tuple hL; exact ⟨_, rfl, fin⟩)
  · wp_walk using AutoSeq1.wpAny_loadPart' hol, wpAny_pyIter_tuple hL
    exact ⟨_, rfl, fin⟩
section
variable {prog : Program} {w : World} {A : Around} {E : Value → Shared → Prop} {s : Shared}
theorem call_enumT {l : Addr} {its : Array Value} {Q : Value → Shared → Prop} (hL : s.heap.IsTuple l its)
    (h : ∀ h', IsEnum h' (s.heap.objs.size + 1) s.heap.objs.size 0 .none → h'.IsTupleIter s.heap.objs.size l 0 → h'.objs.size = s.heap.objs.size + 2 → (∀ b o, s.heap.get? b = some o → h'.get? b = some o) → Q (.ref (s.heap.objs.size + 1)) { s with heap := h' }) :
    wpAny (model prog w) A (call (.type "enumerate") [.ref l]) Q E s := by
  have hz : (s.heap.push (TupIt l)).objs.size = s.heap.objs.size + 1 := Heap.size_push ..
  have he : IsEnum ((s.heap.push (TupIt l)).push (EnumO s.heap.objs.size)) (s.heap.objs.size + 1) s.heap.objs.size 0 .none := by
    have q := Heap.get?_push_size (s.heap.push (TupIt l)) (o := EnumO s.heap.objs.size) rfl
    rw [hz] at q
    exact q
  refine callType_new F.called_enumerate (by decide) (F.typeCall_enumerate_1 _) (F.newCall_enumerate_1 _) (fun obj => F.args_object_init_2 obj _) F.entry_enumerate_new (meets_enumT l its) ⟨hL, ?_⟩
  show _ ∧ _
  rw [hz]
  refine ⟨⟨_, he, rfl⟩, h _ he ⟨_, Heap.get?_push_of_some _ (Heap.get?_push_size _ rfl), rfl, rfl⟩ (by rw [Heap.size_push, hz]) fun b o x => ?_⟩
  exact Heap.get?_push_of_some _ (Heap.get?_push_of_some _ x)
/-- a tuple's iterator, as enumerate draws from it -/
theorem draws_tup {it l : Addr} {its : Array Value} (hne : it ≠ l) (hh : A.handled = none) : Draws prog w A it [it, l] its.size (fun i x => its[i]? = some x) (fun i h => h.IsTupleIter it l i ∧ h.IsTuple l its) where
  live := fun i h st => let ⟨⟨o, ho, _⟩, _⟩ := st; ⟨o, ho⟩
  frame := fun i h h' st k => by
    obtain ⟨h1, ⟨o, ho, r⟩⟩ := st
    exact ⟨h1.at fun o q => k it (by simp) o q, ⟨o, k l (by simp) o ho, r⟩⟩
  item := fun i s Q E hi st hQ => by
    have hx : its[i]? = some its[i] := Array.getElem?_eq_getElem hi
    refine RZ.nextOf_tuple_item st.1 st.2 hx fun h' hit hs => ?_
    obtain ⟨o, ho, r⟩ := st.2
    exact hQ _ h' s.toks hx ⟨hit, ⟨o, (hs.2 l (Ne.symm hne)).trans ho, r⟩⟩ hs
  done := fun s Q E st hE => RZ.nextOf_tuple_end hh st.1 st.2 (by simp) hE
theorem enumT_end {e it l : Addr} {i : Nat} {its : Array Value} {old : Value} {Q : Option Value → Shared → Prop} (hh : A.handled = none) (he : IsEnum s.heap e it i old) (hit : s.heap.IsTupleIter it l i) (hl : s.heap.IsTuple l its) (hx : its[i]? = none)
    (hQ : ∀ h', Heap.ExtBut it s.heap h' → Q none { s with heap := h' }) : wpAny (model prog w) A (pyNext (.ref e)) Q E s := by
  have D : Draws prog w A.in1 it [it, l] i (fun _ _ => False) (fun j h => j = i ∧ h.IsTupleIter it l j ∧ h.IsTuple l its) := {
    live := fun j h st => (let ⟨_, ⟨o, ho, _⟩, _⟩ := st; ⟨o, ho⟩)
    frame := fun j h h' st k => (by
      obtain ⟨hj, h1, ⟨o, ho, r⟩⟩ := st
      exact ⟨hj, h1.at fun o q => k it (by simp) o q, ⟨o, k l (by simp) o ho, r⟩⟩)
    item := fun j s Q E hj st hQ => (by
      obtain ⟨q, _⟩ := st
      exact absurd q (by omega))
    done := fun s Q E st hE => RZ.nextOf_tuple_end hh st.2.1 st.2.2 hx hE }
  exact wpAny_pyNext_enum_endD D he ⟨rfl, hit, hl⟩ hQ
end
/-- the tuple at a, each item in a new pair -/
def IteT (K : PySem.W.Frag) (a : Addr) : It :=
  ⟨fun i H => ∃ (xs : List V) (x : V), SqT K H a xs ∧ xs[i]? = some x, fun i H v H' => ∃ T x, v = .ref T ∧ H T = none ∧ H' = upd H T (.tup [.int (i : Nat), x]) ∧ ∀ xs, SqT K H a xs → xs[i]? = some x, fun i H => ∃ xs : List V, SqT K H a xs ∧ xs.length ≤ i⟩
theorem turn_enumT {P : Program} {w : World} {K : PySem.W.Frag} {elts : List Expr} {kk : Nat} {tpos : Pos} (a e it : Addr) :
    Turn P w K (.Tuple elts kk tpos) (IteT K a) [e, it] e (fun i h => (∃ old, IsEnum h e it ((i : Nat) : Int) old) ∧ h.IsTupleIter it a i ∧ e ≠ it ∧ e ≠ a ∧ it ≠ a) where
  mem := by simp
  obj := fun i h st b hb => by
    obtain ⟨⟨old, he⟩, ⟨o, ho, hc, hd⟩, _⟩ := st
    rcases (by simpa using hb : b = e ∨ b = it) with rfl | rfl
    · exact ⟨_, he, fun v q => nomatch q⟩
    · exact ⟨o, ho, fun v q => by (rw [hd] at q; cases q)⟩
  keep := fun i h h' st k => by
    obtain ⟨⟨old, he⟩, hi, hne⟩ := st
    exact ⟨⟨old, k e (by simp) _ he⟩, hi.at fun o q => k it (by simp) o q, hne⟩
  item := by
    intro X hP hw hK hc i pins s σ H E I hf st hg
    subst hP hw hK
    obtain ⟨⟨old, he⟩, hit, hne, hea, hia⟩ := st
    obtain ⟨xs, x, hq, hx⟩ := hg
    obtain ⟨its, rv, p, hz⟩ := I.tuple hq
    obtain ⟨u, hu, ru⟩ := rv.get hx
    have hel : e < s.heap.objs.size := Heap.lt_size he
    have hil : it < s.heap.objs.size := by (obtain ⟨_, q, _⟩ := hit; exact Heap.lt_size q)
    have hu' : its.toArray[i]? = some u := by simpa using hu
    have hlt : i < its.toArray.size := (Array.getElem?_eq_some_iff.mp hu').1
    refine wpAny_pyNext_enum_itemD (draws_tup (its := its.toArray) hia (I.ok.hd hc)) he ⟨hit, p⟩ hlt hne (by simp [hne, hea]) fun x' h' tk hPx ho st' hT hsz hk => ?_
    rw [hu'] at hPx
    obtain rfl : u = x' := Option.some.inj hPx
    refine ⟨_, rfl, wpAny_letOwnedTupleGo_enum (s := { s with heap := h', toks := tk + 1 }) ho fun h'' he' sb => ?_⟩
    have hT2 : h''.get? s.heap.objs.size = some { cls := .type "tuple", data := .seq #[.int i tk, u] } := (sb.2 _ (Nat.ne_of_gt hel)).trans hT
    have new : ObjOk X.prog X.w (upd H s.heap.objs.size (.tup [.int (i : Nat), x])) h'' s.heap.objs.size (.tup [.int (i : Nat), x]) := ⟨by (show 2 ≤ sizeLine; decide), [.int i tk, u], .cons ⟨_, rfl⟩ (.cons ru .nil), ⟨_, hT2, rfl, _, rfl⟩⟩
    have I1 : Inv X pins σ (upd H s.heap.objs.size (.tup [.int (i : Nat), x])) { s with heap := h'', toks := tk + 1 } :=
      I.turnedNew (ch := [e, it]) (fun b ob hb q => (sb.2 b (fun z => hb (by simp [z]))).trans (hk b ob (fun z => hb (by simp [z])) (fun z => hb (by simp [z])) q)) hf (Nat.le_refl _) new
    refine ⟨.ref s.heap.objs.size, _, I1, rfl, ⟨_, x, rfl, I.hok.fresh (Nat.le_refl _), rfl, fun ys hy => by (rw [I.tuple_inj hy hq]; exact hx)⟩, ⟨⟨u, ?_⟩, st'.1.at fun o q => (sb.2 it (Ne.symm hne)).trans q, hne, hea, hia⟩, fun b hb => ?_⟩
    · rw [show ((i + 1 : Nat) : Int) = (i : Int) + 1 by omega]
      exact he'
    · have hb' : b < s.heap.objs.size := by
        rcases (by simpa using hb : b = e ∨ b = it) with rfl | rfl
        · exact hel
        · exact hil
      rw [upd_ne (Nat.ne_of_lt hb')]
      exact (hf b hb).1
  done := by
    intro X hP hw hK hc i pins s σ H E I hf st hg
    subst hP hw hK
    obtain ⟨⟨old, he⟩, hit, hne, hea, hia⟩ := st
    obtain ⟨xs, hq, hx⟩ := hg
    obtain ⟨its, rv, p, hz⟩ := I.tuple hq
    obtain ⟨f0, f1, f2, f3, f4, f5⟩ := hf it (by simp)
    have hl := rv.length
    have hend : its.toArray[i]? = none := by simp; omega
    exact enumT_end (I.ok.hd hc) he hit p hend fun h' eb => ⟨rfl, I.turned (t' := s.toks) (fun b o hb q => eb b o hb q) f0 f1 f3 f4 f5⟩
  self := fun A i s Q E st h => let ⟨⟨_, he⟩, _⟩ := st; wpAny_pyIter_enum he h
/-- enumerate(..) of a list or a tuple -/
theorem pi_enumA {X : Cx} {e : Expr} {ta : TA} {p pos tpos : Pos} {elts : List Expr} {kk : Nat} (hg : Gl X "enumerate") (hm : X.mg "enumerate" = none) (ha : PA X [e] ta) (hs : starEach [e] X.env = [(false, eval e X.env)]) :
    PI X (.Tuple elts kk tpos) (.Call (.Name "enumerate" p) [e] [] pos) (fun σ H R => ta σ H fun vs H1 => ∃ a, vs = [.ref a] ∧ ((∃ xs, SqL X.K H1 a xs ∧ R (Ite X.K a) H1) ∨ ∃ xs, SqT X.K H1 a xs ∧ R (IteT X.K a) H1)) := by
  refine ⟨fun pins s σ H R I h => ?_⟩
  refine Call_ (ld_blt I hg hm boot_enumerate (PyProof.Rows.callWith_type1 (thn (ha.run pos pins s σ H _ I h) fun us s1 ⟨vs, H1, I1, r1, q1⟩ => ?_) hs rfl))
  obtain ⟨a, ex, q1⟩ := q1
  subst ex
  cases r1 with
  | cons r rr =>
    cases rr
    cases r
    have fr : ∀ b ∈ [s1.heap.objs.size + 1, s1.heap.objs.size], s1.heap.objs.size ≤ b := fun b hb => by
      rcases (by simpa using hb : b = s1.heap.objs.size + 1 ∨ b = s1.heap.objs.size) with rfl | rfl
      · exact Nat.le_add_right _ _
      · exact Nat.le_refl _
    rcases q1 with ⟨xs, hq, q⟩ | ⟨xs, hq, q⟩
    · obtain ⟨its, rv, p', hz⟩ := I1.list hq
      refine call_enumerate_list p'.isList fun h' he hit hsz hk => wpAny_pyIter_enum he ?_
      have I2 : Inv X pins σ H1 { s1 with heap := h' } := I1.kept (t' := s1.toks) hk
      exact ⟨s1.heap.objs.size + 1, [s1.heap.objs.size + 1, s1.heap.objs.size], _, _, H1, rfl, I2, turn_enum a _ _, ⟨⟨.none, he⟩, hit, Nat.succ_ne_self _⟩, fun b hb => I1.fpOk (fr b hb) (I1.hok.fresh (fr b hb)), q⟩
    · obtain ⟨its, rv, p', hz⟩ := I1.tuple hq
      obtain ⟨o, ho, _⟩ := id p'
      have hlt : a < s1.heap.objs.size := Heap.lt_size ho
      refine call_enumT p' fun h' he hit hsz hk => wpAny_pyIter_enum he ?_
      have I2 : Inv X pins σ H1 { s1 with heap := h' } := I1.kept (t' := s1.toks) hk
      exact ⟨s1.heap.objs.size + 1, [s1.heap.objs.size + 1, s1.heap.objs.size], _, _, H1, rfl, I2, turn_enumT a (s1.heap.objs.size + 1) s1.heap.objs.size, ⟨⟨.none, he⟩, hit, Nat.succ_ne_self _, Nat.ne_of_gt (Nat.lt_succ_of_lt hlt), Nat.ne_of_gt hlt⟩, fun b hb => I1.fpOk (fr b hb) (I1.hok.fresh (fr b hb)), q⟩
end EV
set_option Elab.async false
set_option linter.all false
set_option maxRecDepth 100000
/-! EV, part L: the walks by the rules. -/
namespace EV
open PySem PySem.Spec PyProof.Rows L2 LamX RZ
section
variable {G : Gn} {X : Cx} {W : WX} {a b e tg : Expr} {xa xb : Env' → Store → Rs D} {pos : Pos}
theorem iterL_of {S : Store} {d : D} {r : List D × List Nat} (hs : ∀ s, d ≠ .str s) (e : iterOf S d = some r) : iterL S d = some r := by
  unfold iterOf at e
  unfold iterL
  cases d with
  | str s => exact absurd rfl (hs s)
  | ref n => exact e
  | tup xs => exact e
  | lst xs => exact e
  | scr xs => exact e
  | _ => cases e
theorem jok_src {p : Pt} (ok : p.ok G) {d : D} {items : List D} {ls : List Nat} {v : V} (e : iterL p.S d = some (items, ls)) (r : RV G p.H p.N p.α d v) :
    (∃ a xs, v = .ref a ∧ SqL G.K p.H a xs ∧ JOk G (Itl G.K a) (p.lock ls) items ∧ (∀ x, d ≠ .tup x)) ∨ (∃ a xs, v = .ref a ∧ SqT G.K p.H a xs ∧ JOk G (Itt G.K a) (p.lock ls) items ∧ ∃ x, d = .tup x) := by
  obtain ⟨ad, xs, rfl, rs, h⟩ := src_of ok e r
  have okl := Pt.lock_ok ok ls
  rcases h with ⟨h, n, hd⟩ | ⟨h, hd⟩
  · refine .inl ⟨ad, xs, rfl, h ls (fun _ z => z) (p.lock ls) Pt.to.refl, jok_list (p0 := p.lock ls) okl rs (h ls fun _ z => z), fun x z => ?_⟩
    rcases hd with hd | ⟨y, hd⟩ | ⟨y, hd⟩ <;> rw [hd] at z <;> cases z
  · exact .inr ⟨ad, xs, rfl, h ls (p.lock ls) Pt.to.refl, jok_tup (p0 := p.lock ls) okl rs (h ls), hd⟩
theorem sndI_e (hK : X.K = G.K) (ha : PE X a (tE G W xa)) : PI X tg a (tI G W fun ρ S => (xa ρ S).bind fun x S1 => Rs.of S1 (iterOf S1 x)) := by
  refine PI.imp (PI.or (pi_list ha) (PI.or (pi_tup ha) (pi_str ha))) fun σ H R h => ?_
  obtain ⟨p0, ρ0, rfl, ok0, re0, z0⟩ := h
  have z0 : Post G (RelI G) p0 ((xa ρ0 p0.S).bind fun x S1 => Rs.of S1 (iterOf S1 x)) R _ := z0
  cases hx : xa ρ0 p0.S with
  | stuck => rw [hx] at z0; exact z0.elim
  | exc c fs vs S' =>
    rw [hx] at z0
    exact .inl ⟨p0, ρ0, rfl, ok0, re0, by rw [hx]; exact z0⟩
  | ok d S' =>
    rw [hx] at z0
    simp only [Rs.bind_ok] at z0
    cases hd : iterOf S' d with
    | none => rw [hd] at z0; exact z0.elim
    | some r =>
      obtain ⟨items, ls⟩ := r
      rw [hd] at z0
      have fin : ∀ {q : Pt} {J : It}, q.S = S' → q.ok G → p0.to q → JOk G J (q.lock ls) items → R J q.H := fun {q J} hS hq ht hj => z0 J q hS hq ht hj
      by_cases hs : ∃ s, d = .str s
      · obtain ⟨s, rfl⟩ := hs
        refine .inr (.inr ⟨p0, ρ0, rfl, ok0, re0, ?_⟩)
        rw [hx]
        intro v q hS hq ht hv
        cases hv with
        | str _ =>
          cases hd
          exact ⟨s, rfl, fin hS hq ht jok_str⟩
      · have hl := iterL_of (fun s z => hs ⟨s, z⟩) hd
        by_cases htp : ∃ x, d = .tup x
        · refine .inr (.inl ⟨p0, ρ0, rfl, ok0, re0, ?_⟩)
          rw [hx]
          intro v q hS hq ht hv
          subst hS
          rcases jok_src hq hl hv with ⟨ad, xs, rfl, h1, h2, h3⟩ | ⟨ad, xs, rfl, h1, h2, h3⟩
          · obtain ⟨x, rfl⟩ := htp; exact absurd rfl (h3 x)
          · exact ⟨ad, rfl, ⟨xs, by rw [hK]; exact h1⟩, by rw [hK]; exact fin rfl hq ht h2⟩
        · refine .inl ⟨p0, ρ0, rfl, ok0, re0, ?_⟩
          rw [hx]
          intro v q hS hq ht hv
          subst hS
          rcases jok_src hq hl hv with ⟨ad, xs, rfl, h1, h2, h3⟩ | ⟨ad, xs, rfl, h1, h2, h3⟩
          · exact ⟨ad, rfl, ⟨xs, by rw [hK]; exact h1⟩, by rw [hK]; exact fin rfl hq ht h2⟩
          · exact absurd h3 htp
/-- one value first -/
theorem pa_one (hs : notStar a = true) (ha : PE X a (tE G W xa)) : PA X [a] (tA G W fun ρ S => (xa ρ S).bind fun d S1 => (Rs.ok ([] : List D) S1).bind fun ds S2 => .ok (d :: ds) S2) := snd_cons hs ha snd_nil
theorem pl2 {ea eb : Expr} {env : Env} (hs : notStar ea = true) (hs2 : notStar eb = true) : starEach [ea, eb] env = [(false, eval ea env), (false, eval eb env)] := by
  rw [starEach_plain hs, starEach_plain hs2]
  rfl
theorem sndI_range1 {p : Pos} (hg : Gl X "range") (hm : X.mg "range" = none) (hs : notStar a = true) (ha : PE X a (tE G W xa)) :
    PI X tg (.Call (.Name "range" p) [a] [] pos) (tI G W fun ρ S => (xa ρ S).bind fun x S1 => match x with
      | .int j => if small62 j then .ok (rangeD 0 j.toNat, []) S1 else .stuck
      | _ => .stuck) := by
  refine PI.imp (pi_range1 hg hm (pa_cons ha pa_nil (starEach_plain hs)) (starEach_plain hs)) fun σ H R h => ?_
  obtain ⟨p0, ρ0, rfl, ok0, re0, z0⟩ := h
  refine ⟨p0, ρ0, rfl, ok0, re0, (Post.seq (Rel := RelD G) ok0 z0).imp fun v H1 ⟨d, p1, e1, ok1, t1, r1, z1⟩ => ?_⟩
  subst e1
  cases r1 with
  | int j =>
    simp only at z1
    split at z1
    · rename_i hj
      simp only [small62, Bool.and_eq_true, decide_eq_true_eq] at hj
      exact ⟨j, rfl, hj.1, hj.2, z1 _ p1 rfl ok1 Pt.to.refl jok_range⟩
    · exact z1.elim
  | _ => exact z1.elim
theorem sndI_range2 {p : Pos} (hg : Gl X "range") (hm : X.mg "range" = none) (hs : notStar a = true) (hs2 : notStar b = true) (ha : PE X a (tE G W xa)) (hb : PE X b (tE G W xb)) :
    PI X tg (.Call (.Name "range" p) [a, b] [] pos) (tI G W fun ρ S => (xa ρ S).bind fun x S1 => (xb ρ S1).bind fun y S2 => match x, y with
      | .int i, .int j => if small62 i && small62 j then .ok (rangeD i (j - i).toNat, []) S2 else .stuck
      | _, _ => .stuck) := by
  refine PI.imp (pi_range2 hg hm (pa_cons ha (pa_cons hb pa_nil (starEach_plain hs2)) (starEach_plain hs)) (pl2 hs hs2) (starEach_plain hs2)) fun σ H R h => ?_
  obtain ⟨p0, ρ0, rfl, ok0, re0, z0⟩ := h
  refine ⟨p0, ρ0, rfl, ok0, re0, (Post.seq (Rel := RelD G) ok0 z0).imp fun v H1 ⟨d, p1, e1, ok1, t1, r1, z1⟩ => ?_⟩
  subst e1
  refine ⟨p1, ρ0, rfl, ok1, re0.mono ok0 t1, (Post.seq (Rel := RelD G) ok1 z1).imp fun v2 H2 ⟨d2, p2, e2, ok2, t2, r2, z2⟩ => ?_⟩
  subst e2
  cases r1 with
  | int i => cases r2 with
    | int j =>
      simp only at z2
      split at z2
      · rename_i hj
        simp only [small62, Bool.and_eq_true, decide_eq_true_eq] at hj
        exact ⟨i, j, rfl, ⟨hj.1.1, hj.1.2, hj.2.1, hj.2.2⟩, z2 _ p2 rfl ok2 Pt.to.refl jok_range⟩
      · exact z2.elim
    | _ => exact z2.elim
  | _ => exact z2.elim
theorem jok_enumL {p0 : Pt} (h0 : p0.ok G) {a : Addr} {xs : List V} {ds : List D} (r : RVs G p0.H p0.N p0.α ds xs) (s : ∀ q : Pt, p0.to q → SqL G.K q.H a xs) : JOk G (Ite G.K a) p0 (ds.mapIdx fun i x => .tup [.int (i : Nat), x]) := by
  intro p i ok t
  have sq := s p t
  refine ⟨fun hi => ?_, fun hi => ⟨xs, sq, by rw [← r.length]; simpa using hi⟩, fun x H' y d e => ?_⟩
  · have hi : i < ds.length := by simpa using hi
    obtain ⟨v, e, _⟩ := r.get (List.getElem?_eq_getElem hi)
    exact ⟨xs, v, sq, e⟩
  · obtain ⟨T, z, rfl, hT, rfl, y⟩ := y
    rw [List.getElem?_mapIdx, Option.map_eq_some_iff] at e
    obtain ⟨d', e0, rfl⟩ := e
    obtain ⟨v, e1, e2⟩ := r.get e0
    have := y xs sq
    rw [e1] at this; cases this
    exact yld_pair ok hT (.int _) (t.rv h0 e2)
theorem jok_enumT {p0 : Pt} (h0 : p0.ok G) {a : Addr} {xs : List V} {ds : List D} (r : RVs G p0.H p0.N p0.α ds xs) (s : ∀ q : Pt, p0.to q → SqT G.K q.H a xs) : JOk G (IteT G.K a) p0 (ds.mapIdx fun i x => .tup [.int (i : Nat), x]) := by
  intro p i ok t
  have sq := s p t
  refine ⟨fun hi => ?_, fun hi => ⟨xs, sq, by rw [← r.length]; simpa using hi⟩, fun x H' y d e => ?_⟩
  · have hi : i < ds.length := by simpa using hi
    obtain ⟨v, e, _⟩ := r.get (List.getElem?_eq_getElem hi)
    exact ⟨xs, v, sq, e⟩
  · obtain ⟨T, z, rfl, hT, rfl, y⟩ := y
    rw [List.getElem?_mapIdx, Option.map_eq_some_iff] at e
    obtain ⟨d', e0, rfl⟩ := e
    obtain ⟨v, e1, e2⟩ := r.get e0
    have := y xs sq
    rw [e1] at this; cases this
    exact yld_pair ok hT (.int _) (t.rv h0 e2)
theorem sndI_enum {p tpos : Pos} {elts : List Expr} {kk : Nat} (hK : X.K = G.K) (hg : Gl X "enumerate") (hm : X.mg "enumerate" = none) (hs : notStar a = true) (ha : PE X a (tE G W xa)) :
    PI X (.Tuple elts kk tpos) (.Call (.Name "enumerate" p) [a] [] pos) (tI G W fun ρ S => (xa ρ S).bind fun x S1 => match iterL S1 x with
        | some (xs, l) => .ok (xs.mapIdx fun i x => .tup [.int (i : Nat), x], l) S1
        | none => .stuck) := by
  refine PI.imp (pi_enumA hg hm (pa_cons ha pa_nil (starEach_plain hs)) (starEach_plain hs)) fun σ H R h => ?_
  obtain ⟨p0, ρ0, rfl, ok0, re0, z0⟩ := h
  refine ⟨p0, ρ0, rfl, ok0, re0, (Post.seq (Rel := RelD G) ok0 z0).imp fun v H1 ⟨d, p1, e1, ok1, t1, r1, z1⟩ => ?_⟩
  subst e1
  cases hl : iterL p1.S d with
  | none => rw [hl] at z1; exact z1.elim
  | some r =>
    obtain ⟨items, ls⟩ := r
    rw [hl] at z1
    obtain ⟨ad, xs, rfl, rs, hh⟩ := src_of ok1 hl r1
    rcases hh with ⟨hh, _⟩ | ⟨hh, _⟩
    · refine ⟨ad, rfl, .inl ⟨xs, by rw [hK]; exact hh ls (fun _ z => z) (p1.lock ls) Pt.to.refl, ?_⟩⟩
      rw [hK]
      exact z1 _ p1 rfl ok1 Pt.to.refl (jok_enumL (p0 := p1.lock ls) (Pt.lock_ok ok1 ls) rs (hh ls fun _ z => z))
    · refine ⟨ad, rfl, .inr ⟨xs, by rw [hK]; exact hh ls (p1.lock ls) Pt.to.refl, ?_⟩⟩
      rw [hK]
      exact z1 _ p1 rfl ok1 Pt.to.refl (jok_enumT (p0 := p1.lock ls) (Pt.lock_ok ok1 ls) rs (hh ls))
theorem jok_zipL {p0 : Pt} (h0 : p0.ok G) {a b : Addr} {xs ys : List V} {ds es : List D} (r : RVs G p0.H p0.N p0.α ds xs) (r2 : RVs G p0.H p0.N p0.α es ys) (s : ∀ q : Pt, p0.to q → SqL G.K q.H a xs) (s2 : ∀ q : Pt, p0.to q → SqL G.K q.H b ys) :
    JOk G (Itz G.K a b) p0 ((ds.zip es).map fun p => .tup [p.1, p.2]) := by
  intro p i ok t
  have sq := s p t
  have sq2 := s2 p t
  have l1 := r.length
  have l2 := r2.length
  refine ⟨fun hi => ?_, fun hi => ⟨xs, ys, sq, sq2, by simp at hi; omega⟩, fun x H' y d e => ?_⟩
  · simp only [List.length_map, List.length_zip] at hi
    obtain ⟨v, e, _⟩ := r.get (List.getElem?_eq_getElem (show i < ds.length by omega))
    obtain ⟨v2, e2, _⟩ := r2.get (List.getElem?_eq_getElem (show i < es.length by omega))
    exact ⟨xs, ys, v, v2, sq, sq2, e, e2⟩
  · obtain ⟨T, z, z2, rfl, hT, rfl, y, y2⟩ := y
    rw [List.getElem?_map, Option.map_eq_some_iff] at e
    obtain ⟨⟨d1, d2⟩, e0, rfl⟩ := e
    obtain ⟨e01, e02⟩ := List.getElem?_zip_eq_some.mp e0
    obtain ⟨v, e1, e2⟩ := r.get e01
    obtain ⟨v2, e3, e4⟩ := r2.get e02
    have := y xs sq
    rw [e1] at this; cases this
    have := y2 ys sq2
    rw [e3] at this; cases this
    exact yld_pair ok hT (t.rv h0 e2) (t.rv h0 e4)
theorem jok_zipT {p0 : Pt} (h0 : p0.ok G) {a b : Addr} {xs ys : List V} {ds es : List D} (r : RVs G p0.H p0.N p0.α ds xs) (r2 : RVs G p0.H p0.N p0.α es ys) (s : ∀ q : Pt, p0.to q → SqT G.K q.H a xs) (s2 : ∀ q : Pt, p0.to q → SqT G.K q.H b ys) :
    JOk G (ItzT G.K a b) p0 ((ds.zip es).map fun p => .tup [p.1, p.2]) := by
  intro p i ok t
  have sq := s p t
  have sq2 := s2 p t
  have l1 := r.length
  have l2 := r2.length
  refine ⟨fun hi => ?_, fun hi => ⟨xs, ys, sq, sq2, by simp at hi; omega⟩, fun x H' y d e => ?_⟩
  · simp only [List.length_map, List.length_zip] at hi
    obtain ⟨v, e, _⟩ := r.get (List.getElem?_eq_getElem (show i < ds.length by omega))
    obtain ⟨v2, e2, _⟩ := r2.get (List.getElem?_eq_getElem (show i < es.length by omega))
    exact ⟨xs, ys, v, v2, sq, sq2, e, e2⟩
  · obtain ⟨T, z, z2, rfl, hT, rfl, y, y2⟩ := y
    rw [List.getElem?_map, Option.map_eq_some_iff] at e
    obtain ⟨⟨d1, d2⟩, e0, rfl⟩ := e
    obtain ⟨e01, e02⟩ := List.getElem?_zip_eq_some.mp e0
    obtain ⟨v, e1, e2⟩ := r.get e01
    obtain ⟨v2, e3, e4⟩ := r2.get e02
    have := y xs sq
    rw [e1] at this; cases this
    have := y2 ys sq2
    rw [e3] at this; cases this
    exact yld_pair ok hT (t.rv h0 e2) (t.rv h0 e4)
theorem sndI_zip {p tpos : Pos} {elts : List Expr} {kk : Nat} (hK : X.K = G.K) (hg : Gl X "zip") (hm : X.mg "zip" = none) (hs : notStar a = true) (hs2 : notStar b = true) (ha : PE X a (tE G W xa)) (hb : PE X b (tE G W xb)) :
    PI X (.Tuple elts kk tpos) (.Call (.Name "zip" p) [a, b] [] pos) (tI G W fun ρ S => (xa ρ S).bind fun x S1 => (xb ρ S1).bind fun y S2 => if isTupD x = isTupD y then (match iterL S2 x, iterL S2 y with
      | some (xs, l), some (ys, m) => .ok ((xs.zip ys).map fun p => .tup [p.1, p.2], l ++ m) S2
      | _, _ => .stuck) else .stuck) := by
  refine PI.imp (pi_zipA hg hm (pa_cons ha (pa_cons hb pa_nil (starEach_plain hs2)) (starEach_plain hs)) (starEach_plain hs) (noStars (es := [b]) (by simp [hs2]))) fun σ H R h => ?_
  obtain ⟨p0, ρ0, rfl, ok0, re0, z0⟩ := h
  refine ⟨p0, ρ0, rfl, ok0, re0, (Post.seq (Rel := RelD G) ok0 z0).imp fun v H1 ⟨d, p1, e1, ok1, t1, r1, z1⟩ => ?_⟩
  subst e1
  refine ⟨p1, ρ0, rfl, ok1, re0.mono ok0 t1, (Post.seq (Rel := RelD G) ok1 z1).imp fun v2 H2 ⟨d2, p2, e2, ok2, t2, r2, z2⟩ => ?_⟩
  subst e2
  by_cases hk : isTupD d = isTupD d2
  · rw [if_pos hk] at z2
    cases h1 : iterL p2.S d with
    | none => rw [h1] at z2; exact z2.elim
    | some r =>
      obtain ⟨items, ls⟩ := r
      cases h2 : iterL p2.S d2 with
      | none => rw [h1, h2] at z2; exact z2.elim
      | some r' =>
        obtain ⟨items2, ms⟩ := r'
        rw [h1, h2] at z2
        simp only at z2
        obtain ⟨ad, xs, rfl, rs, hh⟩ := src_of ok2 h1 (t2.rv ok1 r1)
        obtain ⟨ad2, ys, rfl, rs2, hh2⟩ := src_of ok2 h2 r2
        have okl := Pt.lock_ok ok2 (ls ++ ms)
        rcases hh with ⟨hh, n1, hn⟩ | ⟨hh, x, hx⟩
        · rcases hh2 with ⟨hh2, n2, hn2⟩ | ⟨hh2, x2, hx2⟩
          · have g1 := hh (ls ++ ms) fun l hl => List.mem_append_left _ hl
            have g2 := hh2 (ls ++ ms) fun l hl => List.mem_append_right _ hl
            refine ⟨ad, ad2, xs, ys, rfl, .inl ⟨by rw [hK]; exact g1 (p2.lock (ls ++ ms)) Pt.to.refl, by rw [hK]; exact g2 (p2.lock (ls ++ ms)) Pt.to.refl, ?_⟩⟩
            rw [hK]
            exact z2 _ p2 rfl ok2 Pt.to.refl (jok_zipL (p0 := p2.lock (ls ++ ms)) okl rs rs2 g1 g2)
          · exfalso
            subst hx2
            rcases hn with hn | ⟨y, hn⟩ | ⟨y, hn⟩ <;> rw [hn] at hk <;> exact nomatch hk
        · rcases hh2 with ⟨hh2, n2, hn2⟩ | ⟨hh2, x2, hx2⟩
          · exfalso
            subst hx
            rcases hn2 with hn | ⟨y, hn⟩ | ⟨y, hn⟩ <;> rw [hn] at hk <;> exact nomatch hk
          · have g1 := hh (ls ++ ms)
            have g2 := hh2 (ls ++ ms)
            refine ⟨ad, ad2, xs, ys, rfl, .inr ⟨by rw [hK]; exact g1 (p2.lock (ls ++ ms)) Pt.to.refl, by rw [hK]; exact g2 (p2.lock (ls ++ ms)) Pt.to.refl, ?_⟩⟩
            rw [hK]
            exact z2 _ p2 rfl ok2 Pt.to.refl (jok_zipT (p0 := p2.lock (ls ++ ms)) okl rs rs2 g1 g2)
  · rw [if_neg hk] at z2
    exact z2.elim
end
end EV
set_option Elab.async false
set_option linter.all false
set_option maxRecDepth 100000
/-! EV, part M: targets; comprehensions. -/
namespace EV
open PySem PySem.Spec PyProof.Rows L2 LamX RZ
mutual
def varsT : MT → List Nat
  | .v i => [i]
  | .t ts => varsTs ts
def varsTs : MTs → List Nat
  | .nil => []
  | .cons t ts => varsT t ++ varsTs ts
end
section
variable {G : Gn} {X : Cx} {W : WX}
theorem PG.imp {tg : Expr} {w w' : TG} (h : PG X tg w) (k : ∀ v σ H Q, w' v σ H Q → w v σ H Q) : PG X tg w' := ⟨fun pins s σ H v u Q I r q => h.run pins s σ H v u Q I r (k _ _ _ _ q)⟩
theorem PGs.imp {ts : List Expr} {w w' : TGs} (h : PGs X ts w) (k : ∀ v σ H Q, w' v σ H Q → w v σ H Q) : PGs X ts w' := ⟨fun pins s σ H v u Q I r q => h.run pins s σ H v u Q I r (k _ _ _ _ q)⟩
/-- a target that binds slots -/
def gT (G : Gn) (t : MT) : TG := fun v σ H K => ∃ p ρ d ρ', p.H = H ∧ p.ok G ∧ RE G p ρ σ ∧ RV G p.H p.N p.α d v ∧ bindT t d ρ = some ρ' ∧ ∀ σ', (∀ i, i ∉ varsT t → σ'[i]? = σ[i]?) → RE G p ρ' σ' → K σ' H
def gTs (G : Gn) (t : MTs) : TGs := fun vs σ H K => ∃ p ρ ds ρ', p.H = H ∧ p.ok G ∧ RE G p ρ σ ∧ RVs G p.H p.N p.α ds vs ∧ bindTs t ds ρ = some ρ' ∧ ∀ σ', (∀ i, i ∉ varsTs t → σ'[i]? = σ[i]?) → RE G p ρ' σ' → K σ' H
theorem snd_tv {i : Nat} {x : Str} {pos : Pos} (hN : X.N.Nodup) (hi : X.N[i]? = some x) (hx : Loc X.env.scope x) (hf : X.fn x = true ∨ X.env.scope.names.lookup x = some .local) (ho : G.okS i) : PG X (.Name x pos) (gT G (.v i)) := by
  refine PG.imp (pg_name hN hi hx hf) fun v σ H K h => ?_
  obtain ⟨p, ρ, d, ρ', rfl, ok, re, rv, hb, z⟩ := h
  unfold bindT at hb
  split at hb
  · rename_i hl
    cases hb
    exact z _ (fun j hj => List.getElem?_set_ne (by intro e; exact hj (by simp [varsT, e]))) (re.set ho rv hl)
  · cases hb
theorem snd_tnil : PGs X [] (gTs G .nil) := by
  refine PGs.imp pgs_nil fun v σ H K h => ?_
  obtain ⟨p, ρ, ds, ρ', rfl, ok, re, rv, hb, z⟩ := h
  cases rv with
  | nil =>
    unfold bindTs at hb
    cases hb
    exact ⟨rfl, z _ (fun _ _ => rfl) re⟩
  | cons _ _ => unfold bindTs at hb; cases hb
theorem snd_tcons {e : Expr} {es : List Expr} {t : MT} {ts : MTs} (k : ∀ {w : TG} {w' : TGs}, PG X e w → PGs X es w' → PGs X (e :: es) (gCons w w')) (h : PG X e (gT G t)) (hs : PGs X es (gTs G ts)) : PGs X (e :: es) (gTs G (.cons t ts)) := by
  refine PGs.imp (k h hs) fun v σ H K h => ?_
  obtain ⟨p, ρ, ds, ρ', rfl, ok, re, rv, hb, z⟩ := h
  cases rv with
  | nil => unfold bindTs at hb; cases hb
  | @cons d ds v vs r rs =>
    unfold bindTs at hb
    split at hb
    · rename_i ρ1 h1
      refine ⟨v, vs, rfl, p, ρ, d, ρ1, rfl, ok, re, r, h1, fun σ1 k1 re1 => ⟨p, ρ1, ds, ρ', rfl, ok, re1, rs, hb, fun σ2 k2 re2 => z σ2 (fun i hi => ?_) re2⟩⟩
      rw [varsTs, List.mem_append, not_or] at hi
      exact (k2 i hi.2).trans (k1 i hi.1)
    · cases hb
def lenTs : MTs → Nat
  | .nil => 0
  | .cons _ ts => lenTs ts + 1
theorem bindTs_length : ∀ {ts : MTs} {ds : List D} {ρ ρ' : Env'}, bindTs ts ds ρ = some ρ' → ds.length = lenTs ts
  | .nil, [], _, _, _ => rfl
  | .nil, _ :: _, _, _, h => by unfold bindTs at h; cases h
  | .cons _ _, [], _, _, h => by unfold bindTs at h; cases h
  | .cons t ts, d :: ds, ρ, ρ', h => by
    unfold bindTs at h
    split at h
    · simp [lenTs, bindTs_length h]
    · cases h
theorem snd_ttup {es : List Expr} {kk : Nat} {pos : Pos} {ts : MTs} (hc : X.calm = true) (hK : X.K = G.K) (h : PGs X es (gTs G ts)) (hn : (assignEach es X.env).length = lenTs ts) (hst : (assignEach es X.env).findIdx? (·.1) = none) : PG X (.Tuple es kk pos) (gT G (.t ts)) := by
  refine PG.imp (pg_tup hc h hn hst) fun v σ H K h => ?_
  obtain ⟨p, ρ, d, ρ', rfl, ok, re, rv, hb, z⟩ := h
  cases d with
  | tup ds =>
    unfold bindT at hb
    cases rv with
    | @tup a _ xs h1 h2 => exact ⟨a, xs, rfl, by rw [hK]; exact h1.sq, by rw [← h2.length]; exact bindTs_length hb, p, ρ, ds, ρ', rfl, ok, re, h2, hb, z⟩
  | _ => unfold bindT at hb; cases hb

/-! ### comprehensions -/
theorem RE.wipe {p : Pt} {ρ : Env'} {σ : L2.St} (h : RE G p ρ σ) : ∀ vs : List Nat, (∀ v ∈ vs, G.okS v) → RE G p (wipeD ρ vs) (L2.wipe σ vs)
  | [], _ => h
  | v :: vs, ho => by
    unfold wipeD L2.wipe
    exact (RE.wipe h vs fun u hu => ho u (List.mem_cons_of_mem _ hu)).unset (ho v List.mem_cons_self)
theorem wipe_eq {σ σ' : L2.St} {vs : List Nat} (hl : σ'.length = σ.length) (h : ∀ i, i ∉ vs → σ'[i]? = σ[i]?) : ∀ us : List Nat, (∀ i ∈ vs, i ∈ us) → L2.wipe σ' us = L2.wipe (L2.wipe σ us) us := by
  have key : ∀ (τ : L2.St) (us : List Nat) (i : Nat), (L2.wipe τ us)[i]? = if i ∈ us then (if i < τ.length then some none else none) else τ[i]? := by
    intro τ us
    induction us with
    | nil => intro i; simp [L2.wipe]
    | cons u us ih =>
      intro i
      unfold L2.wipe
      by_cases hu : u = i
      · subst hu
        rw [List.getElem?_set]
        simp [L2.wipe_length]
      · rw [List.getElem?_set_ne hu, ih i]
        simp [Ne.symm hu]
  intro us hs
  apply List.ext_getElem?
  intro i
  rw [key, key, key, L2.wipe_length, hl]
  by_cases hi : i ∈ us
  · simp [hi]
  · simp only [hi, if_false]
    exact h i fun hv => hi (hs i hv)
theorem wipe_idem {σ σ' : L2.St} {vs us : List Nat} (hl : σ'.length = (L2.wipe σ us).length) (h : ∀ i, i ∉ vs → σ'[i]? = (L2.wipe σ us)[i]?) (hs : ∀ i ∈ vs, i ∈ us) : L2.wipe σ' us = L2.wipe σ us := by
  rw [wipe_eq hl h us hs]
  have w := wipe_eq (σ := σ) (σ' := σ) (vs := []) rfl (fun _ _ => rfl) us (fun _ z => by cases z)
  rw [← w, ← w]
/-- a thing that grows, off the store -/
structure Own (p0 p : Pt) (A : Addr) : Prop where
  new : p0.H A = none
  to_ : p0.to p
  n : p.N A
  nal : ∀ n : Nat, p.α[n]? ≠ some A
theorem Own.nl {p0 p : Pt} {A : Addr} (o : Own p0 p A) : ¬ Live p.S p.α A := fun ⟨n, _, _, e⟩ => o.nal n e
theorem Own.step {p0 p q : Pt} {A : Addr} (h0 : p0.ok G) (h : p.ok G) (o : Own p0 p A) (t : p.to q) : Own p0 q A := by
  refine ⟨o.new, o.to_.trans h0 t, t.zz A o.n o.nl, fun n e => ?_⟩
  rcases t.al n A e with z | z
  · exact o.nal n z
  · obtain ⟨x, e, nt⟩ := h.trk A o.n
    exact z x e nt
theorem Own.has {p0 p q : Pt} {A : Addr} (o : Own p0 p A) (t : p.to q) {x : HO} (e : p.H A = some x) (np : ∀ ps, x ≠ .tbl ps) : q.H A = some x := t.keep A x e o.nl np
theorem Own.start {p : Pt} {A : Addr} {x : HO} (h : p.ok G) (nx : NT x) (e : p.H A = none) : Pt.ok G ⟨upd p.H A x, plus p.N A, p.S, p.α⟩ ∧ Own p ⟨upd p.H A x, plus p.N A, p.S, p.α⟩ A := by
  have ne : ∀ b o', p.H b = some o' → b ≠ A := fun b o' e1 z => by rw [z, e] at e1; cases e1
  have t : Stp p.H p.N p.S p.α (upd p.H A x) (plus p.N A) p.S p.α := by
    refine ⟨fun b o' e1 _ _ => by rw [upd_ne (ne b _ e1)]; exact e1, fun b o' e1 nt => ⟨o', by rw [upd_ne (ne b _ e1)]; exact e1, nt⟩, fun b n => ?_, fun _ n _ => .inl n, fun _ l => .inl l, ⟨[], by simp⟩, fun _ _ z => .inl z⟩
    rcases n with n | n
    · exact .inl n
    · exact .inr (Fr.none (by rw [n]; exact e))
  have c := Stp.car h t
  have noA : ∀ n : Nat, p.α[n]? ≠ some A := fun n z => by
    obtain ⟨o, q, _⟩ := h.alv n A z
    rw [e] at q; cases q
  refine ⟨⟨h.len, fun n y e1 => ?_, h.nd, fun b n => ?_, fun n b e1 => ?_, h.tab.ext fun b o' e1 => by show upd p.H A x b = _; rw [upd_ne (ne b _ e1)]; exact e1⟩, e, t, .inr rfl, noA⟩
  · obtain ⟨b, e2, e3, e4⟩ := h.cell n y e1
    obtain ⟨o', e5, _⟩ := h.alv n b e2
    exact ⟨b, e2, .inl e3, e4.mono c e5 (upd_ne (ne b _ e5))⟩
  · rcases n with n | n
    · obtain ⟨o', e1, nt⟩ := h.trk b n
      exact ⟨o', (upd_ne (ne b _ e1)).trans e1, nt⟩
    · exact ⟨x, by rw [n]; exact upd_same, nx⟩
  · obtain ⟨o', e2, nt⟩ := h.alv n b e1
    exact ⟨o', (upd_ne (ne b _ e2)).trans e2, nt⟩
theorem Own.write {p0 p : Pt} {A : Addr} {x x' : HO} (h : p.ok G) (o : Own p0 p A) (e : p.H A = some x) (px : plain x) (nx : NT x') :
    Pt.ok G ⟨upd p.H A x', p.N, p.S, p.α⟩ ∧ Own p0 ⟨upd p.H A x', p.N, p.S, p.α⟩ A ∧ Car p.H p.N p.α (upd p.H A x') p.N p.α := by
  have c : Car p.H p.N p.α (upd p.H A x') p.N p.α := ⟨fun b y e1 n _ => by rw [upd_ne (fun z => n (by rw [z]; exact o.n))]; exact e1, fun _ _ n _ _ => n, fun _ _ z => z⟩
  have un : ∀ b, (∃ y, p.H b = some y ∧ NT y) → ∃ y, upd p.H A x' b = some y ∧ NT y := fun b ⟨y, q, nt⟩ => by
    by_cases hb : b = A
    · exact ⟨x', by rw [hb]; exact upd_same, nx⟩
    · exact ⟨y, by rw [upd_ne hb]; exact q, nt⟩
  have t := o.to_
  refine ⟨⟨h.len, fun n y e1 => ?_, h.nd, fun b n => un b (h.trk b n), fun n b e1 => un b (h.alv n b e1), ?_⟩, ⟨o.new, ⟨fun b y e1 nl np => ?_, fun b y e1 nt => un b (t.some_ b y e1 nt), t.nn, t.zz, t.lv, t.pre, t.al⟩, o.n, o.nal⟩, c⟩
  · obtain ⟨b, e2, e3, e4⟩ := h.cell n y e1
    obtain ⟨o', e5, _⟩ := h.alv n b e2
    exact ⟨b, e2, e3, e4.mono c e5 (upd_ne (fun z => o.nal n (z ▸ e2)))⟩
  · show Tabs G.T (upd p.H A x')
    intro q hq
    obtain ⟨ps, h1, h2, h3⟩ := h.tab q hq
    refine ⟨ps, ?_, h2, fun pos cv e2 => ?_⟩
    · rw [upd_ne (fun z => by rw [z, e] at h1; exact px.1 ps (Option.some.inj h1))]
      exact h1
    · obtain ⟨cc, e1, e3⟩ := h3 pos cv e2
      refine ⟨cc, e1, ?_⟩
      rw [upd_ne (fun z => by rw [z, e] at e3; exact px.2 _ (Option.some.inj e3))]
      exact e3
  · show upd p.H A x' b = some y
    rw [upd_ne (fun z => by rw [z, o.new] at e1; cases e1)]
    exact t.keep b y e1 nl np
/-- it is let go: told by value -/
theorem Own.free {p0 p : Pt} {A : Addr} (h0 : p0.ok G) (h : p.ok G) (o : Own p0 p A) : Pt.ok G ⟨p.H, fun b => p.N b ∧ b ≠ A, p.S, p.α⟩ ∧ p0.to ⟨p.H, fun b => p.N b ∧ b ≠ A, p.S, p.α⟩ ∧ Car p.H p.N p.α p.H (fun b => p.N b ∧ b ≠ A) p.α := by
  have c : Car p.H p.N p.α p.H (fun b => p.N b ∧ b ≠ A) p.α := ⟨fun b y e _ _ => e, fun _ _ n _ _ => n.1, fun _ _ z => z⟩
  have t := o.to_
  refine ⟨⟨h.len, fun n y e1 => ?_, h.nd, fun b n => h.trk b n.1, h.alv, h.tab⟩, ⟨t.keep, t.some_, fun b n => t.nn b n.1, fun b n nl => ⟨t.zz b n nl, fun z => ?_⟩, t.lv, t.pre, t.al⟩, c⟩
  · obtain ⟨b, e2, e3, e4⟩ := h.cell n y e1
    obtain ⟨o', e5, _⟩ := h.alv n b e2
    exact ⟨b, e2, ⟨e3, fun z => o.nal n (z ▸ e2)⟩, e4.mono c e5 rfl⟩
  · obtain ⟨y, e, _⟩ := h0.trk b n
    rw [z, o.new] at e; cases e
/-- .. becomes a live cell -/
theorem Own.live {p0 p : Pt} {A : Addr} {c : Cell} (h0 : p0.ok G) (h : p.ok G) (o : Own p0 p A) (cr : Car p.H p.N p.α p.H p.N (p.α ++ [A]) → CR G p.H p.N (p.α ++ [A]) A c) :
    Pt.ok G ⟨p.H, p.N, p.S ++ [some c], p.α ++ [A]⟩ ∧ p0.to ⟨p.H, p.N, p.S ++ [some c], p.α ++ [A]⟩ ∧ (p.α ++ [A])[p.S.length]? = some A := by
  have at_ : ∀ {i : Nat} {b : Addr}, (p.α ++ [A])[i]? = some b → (p.α[i]? = some b) ∨ (i = p.α.length ∧ b = A) := fun {i b} e => by
    by_cases hi : i < p.α.length
    · rw [List.getElem?_append_left hi] at e; exact .inl e
    · rw [List.getElem?_append_right (by omega)] at e
      have : i - p.α.length = 0 := by
        cases q : i - p.α.length with
        | zero => rfl
        | succ m => rw [q] at e; simp at e
      rw [this] at e
      simp at e
      exact .inr ⟨by omega, e.symm⟩
  have ba : ∀ {i : Nat} {b : Addr}, p.α[i]? = some b → (p.α ++ [A])[i]? = some b := fun {i b} e => by
    rw [List.getElem?_append_left (List.getElem?_eq_some_iff.mp e).1]; exact e
  have last : (p.α ++ [A])[p.S.length]? = some A := by rw [List.getElem?_append_right (by rw [h.len]; omega)]; simp [h.len]
  have nl : ∀ b, Live (p.S ++ [some c]) (p.α ++ [A]) b → Live p.S p.α b ∨ b = A := by
    rintro b ⟨n, x, e1, e2⟩
    rcases at_ e2 with q | ⟨_, q⟩
    · rcases get_snoc e1 with ⟨hn, e⟩ | ⟨hn, e⟩
      · exact .inl ⟨n, x, e, q⟩
      · rw [hn, ← h.len, List.getElem?_eq_none (Nat.le_refl _)] at q; cases q
    · exact .inr q
  have t := o.to_
  have car : Car p.H p.N p.α p.H p.N (p.α ++ [A]) := ⟨fun b y e _ _ => e, fun _ _ n _ _ => n, fun n a e => ba e⟩
  refine ⟨⟨by simp [h.len], fun n x e => ?_, fun i j b e1 e2 => ?_, h.trk, fun n b e => ?_, h.tab⟩, ⟨t.keep, t.some_, t.nn, t.zz, fun b l => ?_, ?_, fun n b e => ?_⟩, last⟩
  · rcases get_snoc e with ⟨hn, e6⟩ | ⟨hn, e6⟩
    · obtain ⟨b, e1, e2, e3⟩ := h.cell n x e6
      obtain ⟨o', e4, _⟩ := h.alv n b e1
      exact ⟨b, ba e1, e2, e3.mono car e4 rfl⟩
    · subst hn
      subst e6
      exact ⟨A, last, o.n, cr car⟩
  · rcases at_ e1 with q1 | ⟨q1, r1⟩
    · rcases at_ e2 with q2 | ⟨q2, r2⟩
      · exact h.nd i j b q1 q2
      · exact (o.nal i (r2 ▸ q1)).elim
    · rcases at_ e2 with q2 | ⟨q2, r2⟩
      · exact (o.nal j (r1 ▸ q2)).elim
      · omega
  · rcases at_ e with q | ⟨_, q⟩
    · exact h.alv n b q
    · rw [q]; exact h.trk A o.n
  · rcases nl b l with q | q
    · exact t.lv b q
    · exact .inr (Fr.none (by rw [q]; exact o.new))
  · obtain ⟨β, e⟩ := t.pre
    exact ⟨β ++ [A], by show p.α ++ [A] = _; rw [e, List.append_assoc]⟩
  · rcases at_ e with q | ⟨_, q⟩
    · exact t.al n b q
    · exact .inr (Fr.none (by rw [q]; exact o.new))
mutual
theorem bindT_len : ∀ {t : MT} {d : D} {ρ ρ' : Env'}, bindT t d ρ = some ρ' → ρ'.length = ρ.length
  | .v i, d, ρ, ρ', h => by
    unfold bindT at h
    split at h
    · cases h; simp
    · cases h
  | .t ts, d, ρ, ρ', h => by
    cases d <;> first | (unfold bindT at h; exact bindTs_len h) | (unfold bindT at h; cases h)
theorem bindTs_len : ∀ {ts : MTs} {ds : List D} {ρ ρ' : Env'}, bindTs ts ds ρ = some ρ' → ρ'.length = ρ.length
  | .nil, [], _, _, h => by unfold bindTs at h; cases h; rfl
  | .nil, _ :: _, _, _, h => by unfold bindTs at h; cases h
  | .cons _ _, [], _, _, h => by unfold bindTs at h; cases h
  | .cons t ts, d :: ds, ρ, ρ', h => by
    unfold bindTs at h
    split at h
    · rename_i ρ1 h1
      rw [bindTs_len h, bindT_len h1]
    · cases h
end
def noX : WX := fun _ _ _ _ => False
def bodyX (t : MT) (own : List Nat) (xc : Env' → Store → Rs Bool) (xe : Env' → Store → Rs D) (ρ : Env') : D → Store → Rs (Option D) := fun x S' => match bindT t x (wipeD ρ own) with
  | some ρ' => (xc ρ' S').bind fun b S2 => match b with
    | true => (xe ρ' S2).bind fun d S3 => .ok (some d) S3
    | false => .ok none S2
  | none => .stuck
def compX (xi : Env' → Store → Rs (List D × List Nat)) (t : MT) (own : List Nat) (xc : Env' → Store → Rs Bool) (xe : Env' → Store → Rs D) : Env' → Store → Rs Cell := fun ρ S => (xi ρ S).bind fun r S1 => if r.1.length ≤ sizeLine then
      (compL (bodyX t own xc xe ρ) r.1 (lock S1 r.2) []).bind fun x S2 => .ok x (unlock S1 S2 r.2)
    else .stuck
theorem made_own {q p : Pt} {ls : List Nat} {A : Addr} {live : Bool} {accd : List D} {acc : List V} {Q : VK} {E : XK} (hq : q.ok G) (hp : p.ok G) (o : Own (q.lock ls) p A) (e : p.H A = some (.lst acc)) (r : RVs G p.H p.N p.α accd acc)
    (z : Post G (RelD G) q (if live then .ok (.ref (unlock q.S p.S ls).length) (unlock q.S p.S ls ++ [some (.lst accd)]) else .ok (toD (.lst accd)) (unlock q.S p.S ls)) Q E) : Q (.ref A) p.H := by
  obtain ⟨u1, u2⟩ := Pt.unlock hq hp o.to_
  have ou : Own q ⟨p.H, p.N, unlock q.S p.S ls, p.α⟩ A := ⟨o.new, u2, o.n, o.nal⟩
  cases live with
  | false =>
    obtain ⟨f1, f2, f3⟩ := Own.free hq u1 ou
    exact z (.ref A) ⟨p.H, fun b => p.N b ∧ b ≠ A, unlock q.S p.S ls, p.α⟩ rfl f1 f2 (.lst e (fun n => n.2 rfl) (r.mono f3))
  | true =>
    obtain ⟨f1, f2, f3⟩ := Own.live (c := .lst accd) hq u1 ou fun c => ⟨acc, e, r.mono c⟩
    exact z (.ref A) ⟨p.H, p.N, unlock q.S p.S ls ++ [some (.lst accd)], p.α ++ [A]⟩ rfl f1 f2 (.ref f3)
theorem lc_sound {xi : Env' → Store → Rs (List D × List Nat)} {t : MT} {own : List Nat} {xc : Env' → Store → Rs Bool} {xe : Env' → Store → Rs D} {live : Bool} {σ : L2.St} {H : Hp} {Q : VK} (hv : ∀ i ∈ varsT t, i ∈ own) (hos : ∀ v ∈ own, G.okS v)
    (h : tE G W (mk live (compX xi t own xc xe)) σ H Q) : tLc (tI G W xi) (gT G t) (tT G noX xc) (tE G noX xe) own σ H Q := by
  obtain ⟨p0, ρ0, rfl, ok0, re0, z0⟩ := h
  have z0 : Post G (RelD G) p0 ((compX xi t own xc xe ρ0 p0.S).bind fun x S1 => if live then .ok (.ref S1.length) (S1 ++ [some x]) else .ok (toD x) S1) Q _ := z0
  unfold compX at z0
  refine ⟨p0, ρ0, rfl, ok0, re0, ?_⟩
  cases hx : xi ρ0 p0.S with
  | stuck => rw [hx] at z0; exact z0
  | exc c fs vs S' => rw [hx] at z0; exact z0
  | ok r S' =>
    obtain ⟨items, ls⟩ := r
    rw [hx] at z0
    intro J q hS hq ht hj A hA
    subst hS
    have z1 := z0.step ok0 ht
    simp only [Rs.bind_ok] at z1
    by_cases hl : items.length ≤ sizeLine
    · rw [if_pos hl] at z1
      have okl := Pt.lock_ok hq ls
      have reQ : RE G (q.lock ls) ρ0 σ := ⟨(re0.mono ok0 ht).len, (re0.mono ok0 ht).get, (re0.mono ok0 ht).cx, fun t z => ⟨((re0.mono ok0 ht).th t z).1, ((re0.mono ok0 ht).th t z).2.1, Pt.to_lock ls ((re0.mono ok0 ht).th t z).2.2⟩⟩
      obtain ⟨s1, s2⟩ := Own.start (x := .lst []) okl (fun _ z => nomatch z) hA
      refine ⟨fun i m H => m = items.length - i ∧ i ≤ items.length ∧ ∃ (p : Pt) (acc : List V) (accd : List D), p.H = H ∧ p.ok G ∧ Own (q.lock ls) p A ∧ p.H A = some (.lst acc) ∧ RVs G p.H p.N p.α accd acc ∧ accd.length ≤ i ∧
          Post G (RelD G) q (((compL (bodyX t own xc xe ρ0) (items.drop i) p.S accd).bind fun x S2 => .ok x (unlock q.S S2 ls)).bind fun x S1 => if live then .ok (.ref S1.length) (S1 ++ [some x]) else .ok (toD x) S1) Q fun c d H' => W c d σ H',
        ⟨items.length, by simp, Nat.zero_le _, _, [], [], rfl, s1, s2, upd_same, .nil, Nat.le_refl _, z1⟩, ?_⟩
      rintro i m H ⟨rfl, hi, p, acc, accd, rfl, okp, ow, hac, rac, hal, z2⟩
      obtain ⟨j1, j2, j3⟩ := hj p i okp ow.to_
      by_cases hlt : i < items.length
      · refine .inr ⟨j1 hlt, fun H' => items.length - (i + 1) = items.length - (i + 1) ∧ i + 1 ≤ items.length ∧ ∃ (p : Pt) (acc : List V) (accd : List D), p.H = H' ∧ p.ok G ∧ Own (q.lock ls) p A ∧ p.H A = some (.lst acc) ∧ RVs G p.H p.N p.α accd acc ∧ accd.length ≤ i + 1 ∧
          Post G (RelD G) q (((compL (bodyX t own xc xe ρ0) (items.drop (i + 1)) p.S accd).bind fun x S2 => .ok x (unlock q.S S2 ls)).bind fun x S1 => if live then .ok (.ref S1.length) (S1 ++ [some x]) else .ok (toD x) S1) Q fun c d H' => W c d σ H',
          fun H' w => ⟨items.length - (i + 1), by omega, w⟩, fun x H' y => ?_⟩
        obtain ⟨q2, rfl, e2, ok2, t2, rv2⟩ := j3 x H' y _ (List.getElem?_eq_getElem hlt)
        rw [List.drop_eq_getElem_cons hlt] at z2
        unfold compL bodyX at z2
        have ow2 := ow.step okl okp t2
        have re2 : RE G q2 (wipeD ρ0 own) (wipe σ own) := ((reQ.mono okl ow.to_).mono okp t2).wipe own hos
        cases hb : bindT t items[i] (wipeD ρ0 own) with
        | none => rw [hb] at z2; exact z2.elim
        | some ρ' =>
          rw [hb] at z2
          refine ⟨q2, wipeD ρ0 own, items[i], ρ', rfl, ok2, re2, rv2, hb, fun σ' k' re' => ⟨wipe_idem (by rw [← re'.len, bindT_len hb, re2.len]) k' hv, q2, ρ', rfl, ok2, re', ?_⟩⟩
          rw [e2]
          cases hc : xc ρ' p.S with
          | stuck => simp only [hc, Rs.bind_stuck] at z2; exact z2.elim
          | exc c fs vs S' => simp only [hc, Rs.bind_exc] at z2; exact z2.elim
          | ok b S2 =>
            simp only [hc, Rs.bind_ok] at z2
            intro b' q3 hS3 hq3 ht3 hbb
            subst hS3
            have hbb : b = b' := hbb
            subst hbb
            have ow3 := ow2.step okl ok2 ht3
            have hac3 := ow2.has ht3 (ow.has t2 hac fun _ z => nomatch z) fun _ z => nomatch z
            have rac3 := ht3.rvs ok2 (t2.rvs okp rac)
            cases b with
            | false =>
              simp only at z2
              exact ⟨rfl, hlt, q3, acc, accd, rfl, hq3, ow3, hac3, rac3, Nat.le_succ_of_le hal, z2⟩
            | true =>
              simp only at z2
              refine ⟨q3, ρ', rfl, hq3, re'.mono ok2 ht3, ?_⟩
              cases hd : xe ρ' q3.S with
              | stuck => simp only [hd, Rs.bind_stuck] at z2; exact z2.elim
              | exc c fs vs S' => simp only [hd, Rs.bind_exc] at z2; exact z2.elim
              | ok d S3 =>
                simp only [hd, Rs.bind_ok] at z2
                intro v q4 hS4 hq4 ht4 hr4
                subst hS4
                have ow4 := ow3.step okl hq3 ht4
                have hac4 := ow3.has ht4 hac3 fun _ z => nomatch z
                have rac4 := ht4.rvs hq3 rac3
                obtain ⟨w1, w2, w3⟩ := Own.write (x' := .lst (acc ++ [v])) hq4 ow4 hac4 plain_lst (fun _ z => nomatch z)
                refine ⟨acc, hac4, by rw [← rac.length]; omega, rfl, hlt, _, acc ++ [v], accd ++ [d], rfl, w1, w2, upd_same, (rac4.append (.cons hr4 .nil)).mono w3, by simp; exact hal, z2⟩
      · have e : i = items.length := by omega
        subst e
        refine .inl ⟨j2 (Nat.le_refl _), ?_⟩
        rw [List.drop_length] at z2
        exact made_own hq okp ow hac rac z2
    · rw [if_neg hl] at z1
      exact z1.elim
end
end EV
set_option Elab.async false
set_option linter.all false
set_option maxRecDepth 100000
/-! EV, part N: statements. -/
namespace EV
open PySem PySem.Spec PyProof.Rows L2 LamX RZ
def PostS (G : Gn) (W : WX) (Dn : Ends) (p : Pt) (r : Ro) : Prop := match r with
  | .fl (.nx ρ') S' => ∀ σ' q, q.S = S' → q.ok G → p.to q → RE G q ρ' σ' → Dn.nx σ' q.H
  | .fl (.rt d) S' => ∀ v q, q.S = S' → q.ok G → p.to q → RV G q.H q.N q.α d v → Dn.rt v q.H
  | .fl (.bk ρ') S' => ∀ σ' q, q.S = S' → q.ok G → p.to q → RE G q ρ' σ' → Dn.bk σ' q.H
  | .fl (.ct ρ') S' => ∀ σ' q, q.S = S' → q.ok G → p.to q → RE G q ρ' σ' → Dn.ct σ' q.H
  | .exc ρ' c fs vs S' => ∀ σ' cls dd q, q.S = S' → q.ok G → p.to q → RE G q ρ' σ' → XR G q.H q.N q.α c fs vs cls dd → W cls dd σ' q.H
  | .stuck => False
def tS (G : Gn) (W : WX) (x : Env' → Store → Ro) : TS := fun Dn σ H => ∃ p ρ, p.H = H ∧ p.ok G ∧ RE G p ρ σ ∧ PostS G W Dn p (x ρ p.S)
section
variable {G : Gn} {X : Cx} {W : WX} {p q : Pt} {ρ : Env'} {σ : L2.St} {Dn : Ends}
theorem PostS.step {r : Ro} (h : p.ok G) (a : p.to q) (z : PostS G W Dn p r) : PostS G W Dn q r := by
  cases r with
  | fl f S' => cases f with
    | nx ρ' => exact fun σ' r e o t y => z σ' r e o (a.trans h t) y
    | rt d => exact fun v r e o t y => z v r e o (a.trans h t) y
    | bk ρ' => exact fun σ' r e o t y => z σ' r e o (a.trans h t) y
    | ct ρ' => exact fun σ' r e o t y => z σ' r e o (a.trans h t) y
  | exc ρ' c fs vs S' => exact fun σ' cls dd r e o t y => z σ' cls dd r e o (a.trans h t) y
  | stuck => exact z
theorem PostS.seq {β γ : Type} {Rel : Pt → β → γ → Prop} {x : Rs β} {k : β → Store → Ro} (h : p.ok G) (re : RE G p ρ σ) (z : PostS G W Dn p (x.ro ρ k)) :
    Post G Rel p x (fun v H => ∃ d q, q.H = H ∧ q.ok G ∧ p.to q ∧ Rel q d v ∧ PostS G W Dn q (k d q.S)) (fun c d H' => W c d σ H') := by
  cases x with
  | ok d S' =>
    intro v r e o t y
    subst e
    exact ⟨d, r, rfl, o, t, y, z.step h t⟩
  | exc c fs vs S' => exact fun cls dd q hS hq ht hx => z σ cls dd q hS hq ht (re.mono h ht) hx
  | stuck => exact z
theorem PS.imp {s : Stmt} {w w' : TS} (h : PS X s w) (k : ∀ D σ H, w' D σ H → w D σ H) : PS X s w' := ⟨fun pins s σ H D I q => h.run pins s σ H D I (k _ _ _ q)⟩
theorem PSs.imp {s : List Stmt} {w w' : TS} (h : PSs X s w) (k : ∀ D σ H, w' D σ H → w D σ H) : PSs X s w' := ⟨fun pins s σ H D I q => h.run pins s σ H D I (k _ _ _ q)⟩
variable {e c : Expr} {xe xc : Env' → Store → Rs D} {pos : Pos} {xs ys : Env' → Store → Ro}
theorem snd_ret (h : PE X e (tE G W xe)) : PS X (.Return (some e) pos) (tS G W fun ρ S => (xe ρ S).ro ρ fun d S1 => .fl (.rt d) S1) := by
  refine PS.imp (ps_ret h) fun Dn σ H h => ?_
  obtain ⟨p0, ρ0, rfl, ok0, re0, z0⟩ := h
  refine ⟨p0, ρ0, rfl, ok0, re0, (PostS.seq (Rel := RelD G) ok0 re0 z0).imp fun v H1 ⟨d, p1, e1, ok1, t1, r1, z1⟩ => ?_⟩
  subst e1
  exact z1 v p1 rfl ok1 Pt.to.refl r1
theorem snd_retN : PS X (.Return none pos) (tS G W fun _ S => .fl (.rt .non) S) := by
  refine PS.imp ps_retN fun Dn σ H h => ?_
  obtain ⟨p0, ρ0, rfl, ok0, re0, z0⟩ := h
  exact z0 .non p0 rfl ok0 Pt.to.refl .non
theorem snd_ex (hs : swapsWith e none pos.line X.env = pure false) (h : PE X e (tE G W xe)) : PS X (.Expr e pos) (tS G W fun ρ S => (xe ρ S).ro ρ fun _ S1 => .fl (.nx ρ) S1) := by
  refine PS.imp (ps_expr h hs) fun Dn σ H h => ?_
  obtain ⟨p0, ρ0, rfl, ok0, re0, z0⟩ := h
  refine ⟨p0, ρ0, rfl, ok0, re0, (PostS.seq (Rel := RelD G) ok0 re0 z0).imp fun v H1 ⟨d, p1, e1, ok1, t1, r1, z1⟩ => ?_⟩
  subst e1
  exact z1 σ p1 rfl ok1 Pt.to.refl (re0.mono ok0 t1)
theorem snd_doc {x : Str} {j : Nat} {p1 p2 : Pos} : PS X (.Expr (.Constant (.str x) j p1) p2) (tS G W fun ρ S => .fl (.nx ρ) S) := by
  refine PS.imp ps_doc fun Dn σ H h => ?_
  obtain ⟨p0, ρ0, rfl, ok0, re0, z0⟩ := h
  exact z0 σ p0 rfl ok0 Pt.to.refl re0
theorem snd_pass : PS X (.Pass pos) (tS G W fun ρ S => .fl (.nx ρ) S) := by
  refine PS.imp ps_pass fun Dn σ H h => ?_
  obtain ⟨p0, ρ0, rfl, ok0, re0, z0⟩ := h
  exact z0 σ p0 rfl ok0 Pt.to.refl re0
theorem snd_brk : PS X (.Break pos) (tS G W fun ρ S => .fl (.bk ρ) S) := by
  refine PS.imp ps_break fun Dn σ H h => ?_
  obtain ⟨p0, ρ0, rfl, ok0, re0, z0⟩ := h
  exact z0 σ p0 rfl ok0 Pt.to.refl re0
theorem snd_cont : PS X (.Continue pos) (tS G W fun ρ S => .fl (.ct ρ) S) := by
  refine PS.imp ps_continue fun Dn σ H h => ?_
  obtain ⟨p0, ρ0, rfl, ok0, re0, z0⟩ := h
  exact z0 σ p0 rfl ok0 Pt.to.refl re0
theorem snd_ssnil : PSs X [] (tS G W fun ρ S => .fl (.nx ρ) S) := by
  refine PSs.imp pss_nil fun Dn σ H h => ?_
  obtain ⟨p0, ρ0, rfl, ok0, re0, z0⟩ := h
  exact z0 σ p0 rfl ok0 Pt.to.refl re0
theorem snd_sscons {s : Stmt} {r : List Stmt} (h : PS X s (tS G W xs)) (hr : PSs X r (tS G W ys)) : PSs X (s :: r) (tS G W fun ρ S => (xs ρ S).nx ys) := by
  refine PSs.imp (pss_cons h hr) fun Dn σ H h => ?_
  obtain ⟨p0, ρ0, rfl, ok0, re0, z0⟩ := h
  have z0 : PostS G W Dn p0 ((xs ρ0 p0.S).nx ys) := z0
  refine ⟨p0, ρ0, rfl, ok0, re0, ?_⟩
  cases hx : xs ρ0 p0.S with
  | fl f S' =>
    rw [hx] at z0
    cases f with
    | nx ρ' =>
      intro σ' q hS hq ht hr
      subst hS
      exact ⟨q, ρ', rfl, hq, hr, PostS.step ok0 ht z0⟩
    | rt d => exact z0
    | bk ρ' => exact z0
    | ct ρ' => exact z0
  | exc ρ' c fs vs S' => rw [hx] at z0; exact z0
  | stuck => rw [hx] at z0; exact z0
/-- a test in a statement -/
theorem snd_if {a b : List Stmt} (hc : PT X c (tT G W (test xc))) (ha : PSs X a (tS G W xs)) (hb : PSs X b (tS G W ys)) :
    PS X (.If c a b pos) (tS G W fun ρ S => (xc ρ S).ro ρ fun x S1 => match truth S1 x with
      | some true => xs ρ S1
      | some false => ys ρ S1
      | none => .stuck) := by
  refine PS.imp (ps_if hc ha hb) fun Dn σ H h => ?_
  obtain ⟨p0, ρ0, rfl, ok0, re0, z0⟩ := h
  refine ⟨p0, ρ0, rfl, ok0, re0, ?_⟩
  show Post G RelB p0 ((xc ρ0 p0.S).bind fun x S1 => Rs.of S1 (truth S1 x)) _ _
  cases hx : xc ρ0 p0.S with
  | stuck => simp only [hx, Rs.ro_stuck] at z0; exact z0.elim
  | exc c fs vs S' =>
    simp only [hx, Rs.ro_exc] at z0
    exact fun cls dd q hS hq ht hx => z0 σ cls dd q hS hq ht (re0.mono ok0 ht) hx
  | ok d S' =>
    simp only [hx, Rs.ro_ok] at z0
    show Post G RelB p0 (Rs.of S' (truth S' d)) _ _
    cases ht : truth S' d with
    | none => simp only [ht] at z0; exact z0.elim
    | some t =>
      intro b q hS hq htq hb
      have hb : t = b := hb
      subst hb
      subst hS
      cases t with
      | true => simp only [ht] at z0; exact ⟨q, ρ0, rfl, hq, re0.mono ok0 htq, z0.step ok0 htq⟩
      | false => simp only [ht] at z0; exact ⟨q, ρ0, rfl, hq, re0.mono ok0 htq, z0.step ok0 htq⟩
theorem snd_while {b : List Stmt} {n : Nat} (hp : PassesOwn (model X.prog X.w) X.A X.env X.xe) (hc : PT X c (tT G W (test xc))) (hb : PSs X b (tS G W xs)) :
    PS X (.While c b [] pos) (tS G W fun ρ S => whileL (fun ρ S => (xc ρ S).bind fun x S1 => Rs.of S1 (truth S1 x)) xs n ρ S) := by
  refine PS.imp (ps_while hp hc hb) fun Dn σ H h => ?_
  obtain ⟨p0, ρ0, rfl, ok0, re0, z0⟩ := h
  refine ⟨fun m σ H => ∃ p ρ, p.H = H ∧ p.ok G ∧ RE G p ρ σ ∧ PostS G W Dn p (whileL (fun ρ S => (xc ρ S).bind fun x S1 => Rs.of S1 (truth S1 x)) xs m ρ p.S), ⟨n, p0, ρ0, rfl, ok0, re0, z0⟩, ?_⟩
  rintro m σ H ⟨p, ρ, rfl, ok, re, z⟩
  cases m with
  | zero => exact z.elim
  | succ m =>
    unfold whileL at z
    refine ⟨p, ρ, rfl, ok, re, (PostS.seq (Rel := RelB) ok re z).imp fun b H1 ⟨t, p1, e1, ok1, t1, r1, z1⟩ => ?_⟩
    subst e1
    have r1 : t = b := r1
    subst r1
    cases t with
    | false => exact z1 σ p1 rfl ok1 Pt.to.refl (re.mono ok t1)
    | true =>
      simp only at z1
      rw [if_pos rfl]
      refine ⟨fun σ' H' => ∃ p ρ, p.H = H' ∧ p.ok G ∧ RE G p ρ σ' ∧ PostS G W Dn p (whileL (fun ρ S => (xc ρ S).bind fun x S1 => Rs.of S1 (truth S1 x)) xs m ρ p.S), fun σ' H' w => ⟨m, Nat.lt_succ_self _, w⟩, p1, ρ, rfl, ok1, re.mono ok t1, ?_⟩
      cases hx : xs ρ p1.S with
      | fl f S' =>
        rw [hx] at z1
        cases f with
        | nx ρ' =>
          intro σ' q hS hq ht hr
          subst hS
          exact ⟨q, ρ', rfl, hq, hr, PostS.step ok1 ht z1⟩
        | ct ρ' =>
          intro σ' q hS hq ht hr
          subst hS
          exact ⟨q, ρ', rfl, hq, hr, PostS.step ok1 ht z1⟩
        | bk ρ' => exact z1
        | rt d => exact z1
      | exc ρ' c fs vs S' => rw [hx] at z1; exact z1
      | stuck => rw [hx] at z1; exact z1
/-- behind a loop the locked ones stand again -/
theorem PostS.unlock {ls : List Nat} {r : Ro} (h : p.ok G) (re : RE G p ρ σ) (z : PostS G W Dn p (r.mapS fun S2 => EV.unlock p.S S2 ls)) : PostS G W Dn (p.lock ls) r := by
  have key : ∀ {q : Pt}, q.ok G → (p.lock ls).to q → Pt.ok G ⟨q.H, q.N, EV.unlock p.S q.S ls, q.α⟩ ∧ p.to ⟨q.H, q.N, EV.unlock p.S q.S ls, q.α⟩ := fun hq t => Pt.unlock h hq t
  cases r with
  | fl f S' => cases f with
    | nx ρ' => exact fun σ' q e o t y => z σ' ⟨q.H, q.N, EV.unlock p.S q.S ls, q.α⟩ (by subst e; rfl) (key o t).1 (key o t).2 ⟨y.len, y.get, y.cx, fun u w => ⟨(y.th u w).1, (y.th u w).2.1, ((re.th u w).2.2).trans (y.th u w).2.1 (key o t).2⟩⟩
    | rt d => exact fun v q e o t y => z v ⟨q.H, q.N, EV.unlock p.S q.S ls, q.α⟩ (by subst e; rfl) (key o t).1 (key o t).2 y
    | bk ρ' => exact fun σ' q e o t y => z σ' ⟨q.H, q.N, EV.unlock p.S q.S ls, q.α⟩ (by subst e; rfl) (key o t).1 (key o t).2 ⟨y.len, y.get, y.cx, fun u w => ⟨(y.th u w).1, (y.th u w).2.1, ((re.th u w).2.2).trans (y.th u w).2.1 (key o t).2⟩⟩
    | ct ρ' => exact fun σ' q e o t y => z σ' ⟨q.H, q.N, EV.unlock p.S q.S ls, q.α⟩ (by subst e; rfl) (key o t).1 (key o t).2 ⟨y.len, y.get, y.cx, fun u w => ⟨(y.th u w).1, (y.th u w).2.1, ((re.th u w).2.2).trans (y.th u w).2.1 (key o t).2⟩⟩
  | exc ρ' c fs vs S' => exact fun σ' cls dd q e o t y x => z σ' cls dd ⟨q.H, q.N, EV.unlock p.S q.S ls, q.α⟩ (by subst e; rfl) (key o t).1 (key o t).2 ⟨y.len, y.get, y.cx, fun u w => ⟨(y.th u w).1, (y.th u w).2.1, ((re.th u w).2.2).trans (y.th u w).2.1 (key o t).2⟩⟩ x
  | stuck => exact z
theorem snd_for {tg iter : Expr} {t : MT} {b : List Stmt} {xi : Env' → Store → Rs (List D × List Nat)} (hp : PassesOwn (model X.prog X.w) X.A X.env X.xe) (hc : X.calm = true) (hi : PI X tg iter (tI G W xi)) (hg : PG X tg (gT G t)) (hb : PSs X b (tS G W xs))
    (hs : ∀ x, foldedSetIterable iter X.env x = pure x) :
    PS X (.For tg iter b [] pos) (tS G W fun ρ S => (xi ρ S).ro ρ fun r S1 => (forL t xs r.1 ρ (lock S1 r.2)).mapS fun S2 => unlock S1 S2 r.2) := by
  refine PS.imp (ps_for hp hc hi hg hb hs) fun Dn σ H h => ?_
  obtain ⟨p0, ρ0, rfl, ok0, re0, z0⟩ := h
  refine ⟨p0, ρ0, rfl, ok0, re0, (PostS.seq (Rel := RelI G) ok0 re0 z0).imp fun J H1 ⟨r, p1, e1, ok1, t1, hj, z1⟩ => ?_⟩
  subst e1
  obtain ⟨items, ls⟩ := r
  have okl := Pt.lock_ok ok1 ls
  have z2 := PostS.unlock ok1 (re0.mono ok0 t1) z1
  have rl : RE G (p1.lock ls) ρ0 σ := ⟨(re0.mono ok0 t1).len, (re0.mono ok0 t1).get, (re0.mono ok0 t1).cx, fun t z => ⟨((re0.mono ok0 t1).th t z).1, ((re0.mono ok0 t1).th t z).2.1, Pt.to_lock ls ((re0.mono ok0 t1).th t z).2.2⟩⟩
  refine ⟨fun i m σ H => m = items.length - i ∧ i ≤ items.length ∧ ∃ p ρ, p.H = H ∧ p.ok G ∧ (p1.lock ls).to p ∧ RE G p ρ σ ∧ PostS G W Dn p (forL t xs (items.drop i) ρ p.S),
    ⟨items.length, by simp, Nat.zero_le _, p1.lock ls, ρ0, rfl, okl, Pt.to.refl, rl, z2⟩, ?_⟩
  rintro i m σ H ⟨rfl, hi', p, ρ, rfl, ok, to, re, z⟩
  obtain ⟨j1, j2, j3⟩ := hj p i ok to
  by_cases hlt : i < items.length
  · refine .inr ⟨j1 hlt, fun σ' H' => items.length - (i + 1) = items.length - (i + 1) ∧ i + 1 ≤ items.length ∧ ∃ p ρ, p.H = H' ∧ p.ok G ∧ (p1.lock ls).to p ∧ RE G p ρ σ' ∧ PostS G W Dn p (forL t xs (items.drop (i + 1)) ρ p.S),
      fun σ' H' w => ⟨items.length - (i + 1), by omega, w⟩, fun x H' y => ?_⟩
    obtain ⟨q2, rfl, e2, ok2, t2, rv2⟩ := j3 x H' y _ (List.getElem?_eq_getElem hlt)
    rw [List.drop_eq_getElem_cons hlt] at z
    unfold forL at z
    cases hb : bindT t items[i] ρ with
    | none => rw [hb] at z; exact z.elim
    | some ρ1 =>
      rw [hb] at z
      simp only at z
      refine ⟨q2, ρ, items[i], ρ1, rfl, ok2, re.mono ok t2, rv2, hb, fun σ1 _ re1 => ⟨q2, ρ1, rfl, ok2, re1, ?_⟩⟩
      rw [e2]
      have to2 := to.trans okl t2
      have z := z.step ok t2
      cases hx : xs ρ1 p.S with
      | fl f S' =>
        rw [hx] at z
        cases f with
        | nx ρ' =>
          intro σ' q hS hq ht hr
          subst hS
          exact ⟨rfl, hlt, q, ρ', rfl, hq, to2.trans okl ht, hr, PostS.step ok2 ht z⟩
        | ct ρ' =>
          intro σ' q hS hq ht hr
          subst hS
          exact ⟨rfl, hlt, q, ρ', rfl, hq, to2.trans okl ht, hr, PostS.step ok2 ht z⟩
        | bk ρ' => exact z
        | rt d => exact z
      | exc ρ' c fs vs S' => rw [hx] at z; exact z
      | stuck => rw [hx] at z; exact z
  · have e : i = items.length := by omega
    subst e
    rw [List.drop_length] at z
    exact .inl ⟨j2 (Nat.le_refl _), z σ p rfl ok Pt.to.refl re⟩
end
end EV
set_option Elab.async false
set_option linter.all false
set_option maxRecDepth 100000
set_option maxHeartbeats 4000000
/-! EV, part O: what is assigned. -/
namespace EV
open PySem PySem.Spec PyProof.Rows L2 LamX RZ HT
section
variable {G : Gn} {X : Cx} {W : WX}
/-- o.f as a target -/
def gAtt (K : PySem.W.Frag) (f : Str) (to : TE) : TG := fun v σ H Q => to σ H fun x H1 => ∃ a C dx fs, x = .ref a ∧ H1 a = some (.ins C dx fs) ∧ Cls K C ∧ NoAttr K C f ∧ fs.length < 1000 ∧ Q σ (upd H1 a (.ins C dx (putF f v fs)))
theorem pg_att {o : Expr} {f : Str} {to : TE} {pos : Pos} (ho : PE X o to) : PG X (.Attribute o f pos) (gAtt X.K f to) := by
  refine ⟨fun pins s σ H v u Q I r h => ?_⟩
  rw [assign_Attribute]
  refine wpAny_bind (wpAny_holding (thn (ho.run pins s σ H _ I h) fun ov s1 ⟨x, H1, I1, rx, a, C, dx, fs, ex, ea, c, n, l, q⟩ => ?_))
  subst ex
  obtain rfl : ov = Value.ref a := rx
  refine wpAny_bind (wpAny_standAt (wpAny_bind (wpAny_holding (setattr_ok I1 ea c n l r fun s3 I3 => ?_))))
  exact wpAny_release ⟨σ, _, I3, q⟩
theorem noI_tuple_add : typeLookup (.type "tuple") (dunderI "add") = pure none := by rw [typeLookup_type, builtinLookup_eq_fast]; kernel_rfl
theorem icat_tup {prog : Program} {w : World} {A : Around} {E : Value → Shared → Prop} {s : Shared} {t b : Addr} {vs ws : List Value} {Q : Value → Shared → Prop} (ht : IsTup s.heap t vs.toArray) (hb : IsTup s.heap b ws.toArray)
    (h0 : vs = [] → Q (.ref b) s) (h1 : vs ≠ [] → ws = [] → Q (.ref t) s) (h2 : vs ≠ [] → ws ≠ [] → Q (.ref s.heap.objs.size) { s with heap := s.heap.push { cls := .type "tuple", data := .seq (vs ++ ws).toArray } })
    (hsz : vs.length + ws.length ≤ sizeLine) : wpAny (model prog w) A (inplaceOp .Add (.ref t) (.ref b)) Q E s := by
  obtain ⟨⟨cls, dd, data, sl⟩, ho, hc, n, hd⟩ := id ht
  obtain ⟨⟨cls2, dd2, data2, sl2⟩, ho2, hc2, n2, hd2⟩ := id hb
  simp only at hc hd hc2 hd2
  subst hc hd hc2 hd2
  have e : vs.toArray ++ ws.toArray = (vs ++ ws).toArray := by simp
  refine inplaceOp_concat ⟨_, ho, rfl⟩ ⟨_, ho2, rfl⟩ noI_tuple_add noFill_tuple_add seq_tuple_add ?_
  by_cases hv : vs = []
  · exact call_meets PySem.F.slot_tuple_add ⟨_, ho, rfl⟩ PySem.F.entry_tuple_add (PySem.F.args_tuple_add_2 _ _) (tuple_addW0 t b vs.toArray ws.toArray n n2 dd dd2 sl sl2 (by simp [hv])) ⟨ho, ho2, h0 hv⟩
  · by_cases hw : ws = []
    · exact call_meets PySem.F.slot_tuple_add ⟨_, ho, rfl⟩ PySem.F.entry_tuple_add (PySem.F.args_tuple_add_2 _ _)
        (tuple_addW1 t b vs.toArray ws.toArray n n2 dd dd2 sl sl2 (by simpa using hv) (by simp [hw])) ⟨ho, ho2, h1 hv hw⟩
    · refine call_meets PySem.F.slot_tuple_add ⟨_, ho, rfl⟩ PySem.F.entry_tuple_add (PySem.F.args_tuple_add_2 _ _)
        (tuple_addW2 t b vs.toArray ws.toArray n n2 dd dd2 sl sl2 (by simpa using hv) (by simpa using hw) (by rw [List.size_toArray, List.size_toArray]; exact hsz)) ⟨ho, ho2, ?_⟩
      rw [e]
      exact h2 hv hw
theorem iop_catA : OpR X (inplaceOp .Add) (rCatA X.K) := by
  intro pins s σ H x y v u Q I rx ry h
  obtain ⟨a, b, xs, ys, rfl, rfl, ha, hb, hz, q0, q1, q2⟩ := h
  cases rx
  cases ry
  obtain ⟨its, r1, p1, _⟩ := I.tuple ha
  obtain ⟨its2, r2, p2, _⟩ := I.tuple hb
  refine icat_tup p1 p2 (fun z => ⟨.ref b, H, I, rfl, q0 (r1.nil_iff.mp z)⟩) (fun z w => ⟨.ref a, H, I, rfl, q1 (fun e => z (r1.nil_iff.mpr e)) (r2.nil_iff.mp w)⟩) (fun z w => ?_) (by rw [← r1.length, ← r2.length]; exact hz)
  refine ⟨.ref s.heap.objs.size, _, I.laid (t' := s.toks) (o := .tup (xs ++ ys)) (fun b ob q => Heap.get?_push_of_some _ q) (Nat.le_refl _) ?_, rfl, q2 (fun e => z (r1.nil_iff.mpr e)) (fun e => w (r2.nil_iff.mpr e)) _ (I.hok.fresh (Nat.le_refl _))⟩
  exact ⟨by rw [List.length_append]; exact hz, _, r1.append r2, IsTup.new _ _⟩

theorem putField_rv {p : Pt} (inj : ∀ f g, G.fld f = G.fld g → f = g) {g : Nat} {d : D} {v : V} (hd : RV G p.H p.N p.α d v) : ∀ {kvs : List (Str × V)} {fs : List Nat} {ds : List D}, kvs.map (·.1) = fs.map G.fld → RVs G p.H p.N p.α ds (kvs.map (·.2)) →
    (putF (G.fld g) v kvs).map (·.1) = (putField fs ds g d).1.map G.fld ∧ RVs G p.H p.N p.α (putField fs ds g d).2 ((putF (G.fld g) v kvs).map (·.2))
  | [], [], [], _, _ => ⟨rfl, .cons hd .nil⟩
  | [], [], _ :: _, _, r => by cases r
  | [], _ :: _, _, e, _ => by cases e
  | _ :: _, [], _, e, _ => by cases e
  | _ :: _, _ :: _, [], _, r => by cases r
  | (k, x) :: kvs, f :: fs, y :: ds, e, r => by
    simp only [List.map_cons, List.cons.injEq] at e
    cases r with
    | cons h1 h2 =>
      have ih := putField_rv (p := p) inj (g := g) hd e.2 h2
      unfold putF putField
      by_cases q : f = g
      · rw [if_pos q, if_pos (by rw [e.1, q])]
        exact ⟨by simp [e.1, e.2, q], .cons hd h2⟩
      · rw [if_neg q, if_neg (by rw [e.1]; exact fun z => q (inj _ _ z))]
        exact ⟨by simp [e.1, ih.1], .cons h1 ih.2⟩
/-- o.f = d -/
theorem setF_at {P : Pg} {f : Nat} {S2 : Store} (CF : ClsF G P.cls P.fok) {p : Pt} (h : p.ok G) {o d : D} {x v : V} (e : setF P p.S o f d = some S2) (ro : RV G p.H p.N p.α o x) (rd : RV G p.H p.N p.α d v) :
    ∃ (a C dx : Addr) (fs : List (Str × V)), x = .ref a ∧ p.H a = some (.ins C dx fs) ∧ Cls G.K C ∧ NoAttr G.K C (G.fld f) ∧ fs.length < 900 ∧
      ∃ q : Pt, q.H = upd p.H a (.ins C dx (putF (G.fld f) v fs)) ∧ q.S = S2 ∧ q.ok G ∧ p.to q := by
  cases ro with
  | @ref n a ea =>
    simp only [setF] at e
    cases hc : cellOf p.S n with
    | none => rw [hc] at e; cases e
    | some cc =>
      rw [hc] at e
      cases cc with
      | lst _ => cases e
      | dic _ _ => cases e
      | obj c fs ds =>
        simp only at e
        split at e
        · rename_i hb
          cases e
          simp only [Bool.and_eq_true, decide_eq_true_eq] at hb
          obtain ⟨_, dx, kvs, e1, e2, e3⟩ := live_cell h hc ea
          have hl : kvs.length = fs.length := by have := congrArg List.length e2; simpa using this
          obtain ⟨w1, w2⟩ := Pt.write (c' := .obj c (putField fs ds f d).1 (putField fs ds f d).2) (o' := .ins (G.cls c) dx (putF (G.fld f) v kvs)) h hc ea e1 plain_ins fun cr => by
            have h1 := putField_rv (p := ⟨upd p.H a (.ins (G.cls c) dx (putF (G.fld f) v kvs)), p.N, p.S, p.α⟩) CF.inj (g := f) (rd.mono cr) e2 (e3.mono cr)
            exact ⟨dx, _, upd_same, h1.1, h1.2⟩
          exact ⟨a, _, dx, kvs, rfl, e1, CF.cls c hb.1.1, CF.no c f hb.1.2, by omega, _, rfl, rfl, w1, w2⟩
        · cases e
  | _ => cases e
theorem replKV_rv {p : Pt} {q : Key} {d : D} {v : V} (hd : RV G p.H p.N p.α d v) : ∀ {kvs : List (Key × V)} {ds : List D}, RVs G p.H p.N p.α ds (kvs.map (·.2)) →
    RVs G p.H p.N p.α (replKV (kvs.map (·.1)) ds q d) ((kvs.map fun kv => if kv.1 = q then (kv.1, v) else kv).map (·.2)) ∧ (kvs.map fun kv => if kv.1 = q then (kv.1, v) else kv).map (·.1) = kvs.map (·.1)
  | [], [], _ => ⟨.nil, rfl⟩
  | [], _ :: _, r => by cases r
  | _ :: _, [], r => by cases r
  | (k, x) :: kvs, y :: ds, r => by
    cases r with
    | cons h1 h2 =>
      obtain ⟨i1, i2⟩ := replKV_rv (p := p) (q := q) hd h2
      simp only [List.map_cons]
      unfold replKV
      by_cases e : k = q
      · simp only [e, if_true]
        exact ⟨.cons hd i1, by rw [i2]⟩
      · simp only [e, if_false]
        exact ⟨.cons h1 i1, by rw [i2]⟩
theorem putKV_rv {p : Pt} {q : Key} {d : D} {v : V} (hd : RV G p.H p.N p.α d v) {kvs : List (Key × V)} {ks : List Key} {ds : List D} (hk : kvs.map (·.1) = ks) (r : RVs G p.H p.N p.α ds (kvs.map (·.2))) :
    (putK kvs q v).map (·.1) = (putKV ks ds q d).1 ∧ RVs G p.H p.N p.α (putKV ks ds q d).2 ((putK kvs q v).map (·.2)) := by
  subst hk
  have hany : (kvs.any fun kv => decide (kv.1 = q)) = ((kvs.map (·.1)).any fun k => decide (k = q)) := by rw [List.any_map]; rfl
  unfold putK putKV
  rw [hany]
  by_cases h : ((kvs.map (·.1)).any fun k => decide (k = q)) = true
  · rw [if_pos h, if_pos h]
    obtain ⟨i1, i2⟩ := replKV_rv (p := p) (q := q) hd r
    exact ⟨i2, i1⟩
  · rw [if_neg h, if_neg h]
    exact ⟨by simp, by rw [List.map_append]; exact r.append (.cons hd .nil)⟩
theorem keyOf_kV {p : Pt} {i : D} {q : Key} {y : V} (e : keyOf i = some q) (r : RV G p.H p.N p.α i y) : y = kV q := by
  cases r <;> first | (cases e; rfl) | cases e
/-- o[i] = d -/
theorem setX_at {p : Pt} (h : p.ok G) {o i d : D} {x y v : V} {S2 : Store} {Q : Hp → Prop} (e : setX p.S o i d = some S2) (ro : RV G p.H p.N p.α o x) (ri : RV G p.H p.N p.α i y) (rd : RV G p.H p.N p.α d v)
    (z : ∀ q : Pt, q.S = S2 → q.ok G → p.to q → Q q.H) : rSetL x y v p.H Q ∨ rSetD x y v p.H Q := by
  cases ro with
  | @ref n a ea =>
    simp only [setX] at e
    cases hc : cellOf p.S n with
    | none => rw [hc] at e; cases e
    | some cc =>
      rw [hc] at e
      cases cc with
      | obj _ _ _ => cases e
      | lst xs =>
        simp only at e
        cases ri with
        | int j =>
          simp only at e
          obtain ⟨_, vs, e1, e2⟩ := live_cell h hc ea
          rw [e2.length] at e
          cases hj : ixN vs.length j with
          | none => rw [hj] at e; cases e
          | some k =>
            rw [hj] at e
            cases e
            refine .inl ⟨a, vs, j, k, rfl, rfl, e1, hj, ?_⟩
            obtain ⟨w1, w2⟩ := Pt.write (c' := .lst (xs.set k d)) (o' := .lst (vs.set k v)) h hc ea e1 plain_lst fun cr => ⟨_, upd_same, RVs.set (rd.mono cr) k (e2.mono cr)⟩
            exact z _ rfl w1 w2
        | _ => cases e
      | dic ks ds =>
        simp only at e
        cases hq : keyOf i with
        | none => rw [hq] at e; cases e
        | some q =>
          rw [hq] at e
          simp only at e
          split at e
          · rename_i hl
            cases e
            obtain ⟨_, kvs, e1, e2, e3⟩ := live_cell h hc ea
            have hkl : kvs.length = ks.length := by have := congrArg List.length e2; simpa using this
            obtain ⟨w1, w2⟩ := Pt.write (c' := .dic (putKV ks ds q d).1 (putKV ks ds q d).2) (o' := .dK (putK kvs q v)) h hc ea e1 plain_dK fun cr => by
              have h1 := putKV_rv (p := ⟨upd p.H a (.dK (putK kvs q v)), p.N, p.S, p.α⟩) (q := q) (rd.mono cr) e2 (e3.mono cr)
              exact ⟨_, upd_same, h1.1, h1.2⟩
            rw [keyOf_kV hq ri]
            exact .inr ⟨a, _, rfl, DPut.k e1 (by omega), z _ rfl w1 w2⟩
          · cases e
  | _ => cases e
def PostG (G : Gn) (p : Pt) (r : Rs Env') (K : L2.St → Hp → Prop) : Prop := match r with
  | .ok ρ' S' => ∀ σ' q, q.S = S' → q.ok G → p.to q → RE G q ρ' σ' → K σ' q.H
  | _ => False
def gA (G : Gn) (x : D → Env' → Store → Rs Env') : TG := fun v σ H K => ∃ p ρ d, p.H = H ∧ p.ok G ∧ RE G p ρ σ ∧ RV G p.H p.N p.α d v ∧ PostG G p (x d ρ p.S) K
def gAs (G : Gn) (x : List D → Env' → Store → Rs Env') : TGs := fun vs σ H K => ∃ p ρ ds, p.H = H ∧ p.ok G ∧ RE G p ρ σ ∧ RVs G p.H p.N p.α ds vs ∧ PostG G p (x ds ρ p.S) K
theorem PostG.step {p q : Pt} {r : Rs Env'} {K : L2.St → Hp → Prop} (h : p.ok G) (a : p.to q) (z : PostG G p r K) : PostG G q r K := by
  cases r with
  | ok ρ' S' => exact fun σ' r e o t y => z σ' r e o (a.trans h t) y
  | exc _ _ _ _ => exact z
  | stuck => exact z
theorem PostG.seq {p : Pt} {β γ : Type} {Rel : Pt → β → γ → Prop} {x : Rs β} {k : β → Store → Rs Env'} {K : L2.St → Hp → Prop} {E : XK} (h : p.ok G) (z : PostG G p (x.bind k) K) :
    Post G Rel p x (fun v H => ∃ d q, q.H = H ∧ q.ok G ∧ p.to q ∧ Rel q d v ∧ PostG G q (k d q.S) K) E := by
  cases x with
  | ok d S' =>
    intro v r e o t y
    subst e
    exact ⟨d, r, rfl, o, t, y, z.step h t⟩
  | exc c fs vs S' => exact z.elim
  | stuck => exact z
theorem snd_gv {i : Nat} {x : Str} {pos : Pos} (hN : X.N.Nodup) (hi : X.N[i]? = some x) (hx : Loc X.env.scope x) (hf : X.fn x = true ∨ X.env.scope.names.lookup x = some .local) (ho : G.okS i) :
    PG X (.Name x pos) (gA G fun d ρ S => if i < ρ.length then .ok (ρ.set i (some d)) S else .stuck) := by
  refine PG.imp (pg_name hN hi hx hf) fun v σ H K h => ?_
  obtain ⟨p, ρ, d, rfl, ok, re, rv, z⟩ := h
  have z : PostG G p (if i < ρ.length then .ok (ρ.set i (some d)) p.S else .stuck) K := z
  by_cases hl : i < ρ.length
  · rw [if_pos hl] at z
    exact z _ p rfl ok Pt.to.refl (re.set ho rv hl)
  · rw [if_neg hl] at z
    exact z.elim
theorem snd_gatt {P : Pg} {o : Expr} {f : Nat} {pos : Pos} {xo : Env' → Store → Rs D} (hK : X.K = G.K) (CF : ClsF G P.cls P.fok) (ho : PE X o (tE G W xo)) :
    PG X (.Attribute o (G.fld f) pos) (gA G fun d ρ S => (xo ρ S).bind fun x S1 => match setF P S1 x f d with
      | some S2 => .ok ρ S2
      | none => .stuck) := by
  refine PG.imp (pg_att ho) fun v σ H K h => ?_
  obtain ⟨p, ρ, d, rfl, ok, re, rv, z⟩ := h
  refine ⟨p, ρ, rfl, ok, re, (PostG.seq (Rel := RelD G) ok z).imp fun x H1 ⟨o, p1, e1, ok1, t1, ro, z1⟩ => ?_⟩
  subst e1
  cases hs : setF P p1.S o f d with
  | none => rw [hs] at z1; exact z1.elim
  | some S2 =>
    rw [hs] at z1
    obtain ⟨a, C, dx, fs, rfl, g1, g2, g3, g4, q, g5, g6, g7, g8⟩ := setF_at CF ok1 hs ro (t1.rv ok rv)
    refine ⟨a, C, dx, fs, rfl, g1, by rw [hK]; exact g2, by rw [hK]; exact g3, by omega, ?_⟩
    rw [← g5]
    exact z1 σ q g6 g7 g8 ((re.mono ok t1).mono ok1 g8)
theorem PSet.or {t u : TSet} (h : PSet X t) (h' : PSet X u) : PSet X (fun o i v H Q => t o i v H Q ∨ u o i v H Q) := fun pins s σ H o i v ov iv w Q I ro ri rv z => z.elim (h pins s σ H o i v ov iv w Q I ro ri rv) (h' pins s σ H o i v ov iv w Q I ro ri rv)
theorem snd_gix {o i : Expr} {pos : Pos} {xo xi : Env' → Store → Rs D} (hu : X.A.units + 1 < cLine) (ho : PE X o (tE G W xo)) (hi : PE X i (tE G W xi))
    (ha : ∀ v, assign (.Subscript o i pos) X.env v = (do
      let ov ← holding [v] (eval o X.env)
      let iv ← holding [v, ov] (eval i X.env)
      standAt pos
      holding [v, ov, iv] (setItem ov iv v)
      release [v, ov, iv] [])) :
    PG X (.Subscript o i pos) (gA G fun d ρ S => (xo ρ S).bind fun x S1 => (xi ρ S1).bind fun y S2 => match setX S2 x y d with
      | some S3 => .ok ρ S3
      | none => .stuck) := by
  refine PG.imp (pg_sub ho hi (PSet.or set_list (set_dict hu)) ha) fun v σ H K h => ?_
  obtain ⟨p, ρ, d, rfl, ok, re, rv, z⟩ := h
  refine ⟨p, ρ, rfl, ok, re, (PostG.seq (Rel := RelD G) ok z).imp fun x H1 ⟨o, p1, e1, ok1, t1, ro, z1⟩ => ?_⟩
  subst e1
  refine ⟨p1, ρ, rfl, ok1, re.mono ok t1, (PostG.seq (Rel := RelD G) ok1 z1).imp fun y H2 ⟨i, p2, e2, ok2, t2, ri, z2⟩ => ?_⟩
  subst e2
  cases hs : setX p2.S o i d with
  | none => rw [hs] at z2; exact z2.elim
  | some S3 =>
    rw [hs] at z2
    exact setX_at ok2 hs (t2.rv ok1 ro) ri (t2.rv ok1 (t1.rv ok rv)) fun q hS hq ht => z2 σ q hS hq ht (((re.mono ok t1).mono ok1 t2).mono ok2 ht)
theorem snd_gnil : PGs X [] (gAs G fun ds ρ S => match ds with
    | [] => .ok ρ S
    | _ :: _ => .stuck) := by
  refine PGs.imp pgs_nil fun vs σ H K h => ?_
  obtain ⟨p, ρ, ds, rfl, ok, re, rv, z⟩ := h
  cases rv with
  | nil => exact ⟨rfl, z σ p rfl ok Pt.to.refl re⟩
  | cons _ _ => exact z.elim
theorem snd_gcons {e : Expr} {es : List Expr} {x : D → Env' → Store → Rs Env'} {y : List D → Env' → Store → Rs Env'} (k : ∀ {w : TG} {w' : TGs}, PG X e w → PGs X es w' → PGs X (e :: es) (gCons w w')) (h : PG X e (gA G x)) (hs : PGs X es (gAs G y)) :
    PGs X (e :: es) (gAs G fun ds ρ S => match ds with
      | [] => .stuck
      | d :: ds => (x d ρ S).bind fun ρ1 S1 => y ds ρ1 S1) := by
  refine PGs.imp (k h hs) fun vs σ H K h => ?_
  obtain ⟨p, ρ, ds, rfl, ok, re, rv, z⟩ := h
  cases rv with
  | nil => exact z.elim
  | @cons d ds v vs r rs =>
    refine ⟨v, vs, rfl, p, ρ, d, rfl, ok, re, r, ?_⟩
    have z : PostG G p ((x d ρ p.S).bind fun ρ1 S1 => y ds ρ1 S1) K := z
    cases hx : x d ρ p.S with
    | stuck => rw [hx] at z; exact z.elim
    | exc _ _ _ _ => rw [hx] at z; exact z.elim
    | ok ρ1 S1 =>
      rw [hx] at z
      intro σ' q hS hq ht hr
      subst hS
      exact ⟨q, ρ1, ds, rfl, hq, hr, ht.rvs ok rs, PostG.step ok ht z⟩

/-- as many targets as values -/
def gLen : MGs → Nat
  | .nil => 0
  | .cons _ ts => gLen ts + 1
theorem asgs_len {E : Ec} : ∀ {ts : MGs} {ds : List D} {ρ : Env'} {S : Store} {ρ' : Env'} {S' : Store}, asgs E ts ds ρ S = .ok ρ' S' → ds.length = gLen ts
  | .nil, [], _, _, _, _, _ => rfl
  | .nil, _ :: _, _, _, _, _, h => by unfold asgs at h; cases h
  | .cons _ _, [], _, _, _, _, h => by unfold asgs at h; cases h
  | .cons t ts, d :: ds, ρ, S, ρ', S', h => by
    unfold asgs at h
    cases hx : asg E t d ρ S with
    | stuck => rw [hx] at h; cases h
    | exc _ _ _ _ => rw [hx] at h; cases h
    | ok ρ1 S1 =>
      rw [hx] at h
      simp only [Rs.bind_ok] at h
      simp [gLen, asgs_len h]
theorem snd_gtup {E : Ec} {es : List Expr} {kk : Nat} {pos : Pos} {ts : MGs} (hc : X.calm = true) (hK : X.K = G.K) (h : PGs X es (gAs G (asgs E ts))) (hn : (assignEach es X.env).length = gLen ts) (hst : (assignEach es X.env).findIdx? (·.1) = none) :
    PG X (.Tuple es kk pos) (gA G (asg E (.t ts))) := by
  refine PG.imp (pg_tup hc h hn hst) fun v σ H K h => ?_
  obtain ⟨p, ρ, d, rfl, ok, re, rv, z⟩ := h
  unfold asg at z
  cases rv with
  | @tup a ds xs h1 h2 =>
    simp only at z
    cases hz : asgs E ts ds ρ p.S with
    | stuck => rw [hz] at z; exact z.elim
    | exc _ _ _ _ => rw [hz] at z; exact z.elim
    | ok ρ' S' => exact ⟨a, xs, rfl, by rw [hK]; exact h1.sq, by rw [← h2.length]; exact asgs_len hz, p, ρ, ds, rfl, ok, re, h2, z⟩
  | _ => exact z.elim
/-- target = value -/
theorem snd_asg {t e : Expr} {x : Env' → Store → Rs D} {g : D → Env' → Store → Rs Env'} {pos : Pos} (he : PE X e (tE G W x)) (hg : PG X t (gA G g)) (hs : swapsWithSole [t] e pos.line X.env = pure false) (hw : swappedStores [t] e X.env = pure none)
    (h1 : (assignEach [t] X.env).map (·.2) = [assign t X.env]) :
    PS X (.Assign [t] e pos) (tS G W fun ρ S => (x ρ S).ro ρ fun d S1 => match g d ρ S1 with
      | .ok ρ' S2 => .fl (.nx ρ') S2
      | _ => .stuck) := by
  refine PS.imp (ps_asg he hg hs hw h1) fun Dn σ H h => ?_
  obtain ⟨p0, ρ0, rfl, ok0, re0, z0⟩ := h
  refine ⟨p0, ρ0, rfl, ok0, re0, (PostS.seq (Rel := RelD G) ok0 re0 z0).imp fun v H1 ⟨d, p1, e1, ok1, t1, r1, z1⟩ => ?_⟩
  subst e1
  refine ⟨p1, ρ0, d, rfl, ok1, re0.mono ok0 t1, r1, ?_⟩
  cases hx : g d ρ0 p1.S with
  | stuck => rw [hx] at z1; exact z1.elim
  | exc _ _ _ _ => rw [hx] at z1; exact z1.elim
  | ok ρ' S' => rw [hx] at z1; exact z1
/-- name = [.. for ..] -/
theorem snd_asgLc {i : Nat} {y : Str} {py : Pos} {elt tg iter : Expr} {ifs : List Expr} {scope : Scope} {own : List (Str × Nat)} {pos spos : Pos} {xi : Env' → Store → Rs (List D × List Nat)} {t : MT} {xc : Env' → Store → Rs Bool} {xe : Env' → Store → Rs D} {live : Bool}
    (hc : X.calm = true) (hN : X.N.Nodup) (hy : X.N[i]? = some y) (hyl : X.env.scope.names.lookup y = some .local)
    (hsw : swapsWith (.ListComp elt [⟨tg, iter, ifs, 0⟩] scope pos) (some (.Name y py)) spos.line X.env = pure true) (hi : PI X tg iter (tI G W xi)) (ok : BlkOk X.N X.env.scope scope own) (hv : ∀ j ∈ varsT t, j ∈ own.map (·.2)) (hos : ∀ v ∈ own.map (·.2), G.okS v) (ho : G.okS i)
    (hg : ∀ (s : Shared) (H : Hp) (C : Addr) (cl : List (Str × Addr)) (fp : List Addr), PG (X.blk s H scope (compEnvC scope cl C X.env) fp) tg (gT G t))
    (ht : ∀ (s : Shared) (H : Hp) (C : Addr) (cl : List (Str × Addr)) (fp : List Addr), PTs (X.blk s H scope (compEnvC scope cl C X.env) fp) ifs (tT G noX xc))
    (he : ∀ (s : Shared) (H : Hp) (C : Addr) (cl : List (Str × Addr)) (fp : List Addr), PE (X.blk s H scope (compEnvC scope cl C X.env) fp) elt (tE G noX xe)) (hs : ∀ x, foldedSetIterable iter X.env x = pure x) :
    PS X (.Assign [.Name y py] (.ListComp elt [⟨tg, iter, ifs, 0⟩] scope pos) spos) (tS G W fun ρ S => (mk live (compX xi t (own.map (·.2)) xc xe) ρ S).ro ρ fun d S1 => match (if i < ρ.length then Rs.ok (ρ.set i (some d)) S1 else .stuck) with
      | .ok ρ' S2 => .fl (.nx ρ') S2
      | _ => .stuck) := by
  refine PS.imp (ps_setLc hc hN hy hyl hsw hi ok hg ht he hs) fun Dn σ H h => ?_
  refine lc_sound (live := live) hv hos ?_
  obtain ⟨p0, ρ0, rfl, ok0, re0, z0⟩ := h
  refine ⟨p0, ρ0, rfl, ok0, re0, (PostS.seq (Rel := RelD G) ok0 re0 z0).imp fun v H1 ⟨d, p1, e1, ok1, t1, r1, z1⟩ => ?_⟩
  subst e1
  by_cases hl : i < ρ0.length
  · rw [if_pos hl] at z1
    exact z1 _ p1 rfl ok1 Pt.to.refl ((re0.mono ok0 t1).set ho r1 hl)
  · rw [if_neg hl] at z1
    exact z1.elim
/-- a, b = x, y: plain local names -/
theorem snd_par2 {i j : Nat} {x y : Str} {a b : Expr} {xs : Env' → Store → Rs (List D)} {px py pt : Pos} {kt k2 : Nat} {pt2 pos : Pos} (hc : X.calm = true) (hN : X.N.Nodup) (hi : X.N[i]? = some x) (hj : X.N[j]? = some y) (hij : i ≠ j) (oi : G.okS i) (oj : G.okS j)
    (hx : X.env.scope.names.lookup x = some .local) (hy : X.env.scope.names.lookup y = some .local) (ha : PA X [a, b] (tA G W xs))
    (hw : swappedStores [.Tuple [.Name x px, .Name y py] kt pt] (.Tuple [a, b] k2 pt2) X.env = pure (some [x, y]))
    (hs : swapsWithSole [.Tuple [.Name x px, .Name y py] kt pt] (.Tuple [a, b] k2 pt2) pos.line X.env = pure false) :
    PS X (.Assign [.Tuple [.Name x px, .Name y py] kt pt] (.Tuple [a, b] k2 pt2) pos) (tS G W fun ρ S => (xs ρ S).ro ρ fun ds S1 => match setAll [i, j] ds ρ with
      | some ρ' => .fl (.nx ρ') S1
      | none => .stuck) := by
  refine PS.imp (ps_par hc hN hi hj hij hx hy ha hw hs) fun Dn σ H h => ?_
  obtain ⟨p0, ρ0, rfl, ok0, re0, z0⟩ := h
  refine ⟨p0, ρ0, rfl, ok0, re0, (PostS.seq (Rel := RelL G) ok0 re0 z0).imp fun v H1 ⟨d, p1, e1, ok1, t1, r1, z1⟩ => ?_⟩
  subst e1
  have re1 := re0.mono ok0 t1
  match d, v, r1, z1 with
  | [], _, _, z1 => exact z1.elim
  | [d1], _, _, z1 =>
    simp only [setAll] at z1
    split at z1
    · rename_i h; split at h <;> cases h
    · exact z1.elim
  | d1 :: d2 :: d3 :: ds, _, _, z1 =>
    simp only [setAll] at z1
    split at z1
    · rename_i h; split at h <;> first | (split at h <;> cases h) | cases h
    · exact z1.elim
  | [d1, d2], _, .cons (v := v1) r1 (.cons (v := v2) r2 .nil), z1 =>
    refine ⟨v1, v2, rfl, ?_⟩
    simp only [setAll] at z1
    by_cases h1 : i < ρ0.length
    · rw [if_pos h1] at z1
      by_cases h2 : j < (ρ0.set i (some d1)).length
      · rw [if_pos h2] at z1
        exact z1 _ p1 rfl ok1 Pt.to.refl ((re1.set oi r1 h1).set oj r2 h2)
      · rw [if_neg h2] at z1; exact z1.elim
    · rw [if_neg h1] at z1; exact z1.elim
theorem snd_par3 {i j l : Nat} {x y z : Str} {a b c : Expr} {xs : Env' → Store → Rs (List D)} {px py pz pt : Pos} {kt k2 : Nat} {pt2 pos : Pos} (hc : X.calm = true) (hN : X.N.Nodup) (hi : X.N[i]? = some x) (hj : X.N[j]? = some y) (hl : X.N[l]? = some z) (hij : i ≠ j) (hil : i ≠ l) (hjl : j ≠ l) (oi : G.okS i) (oj : G.okS j) (ol : G.okS l)
    (hx : X.env.scope.names.lookup x = some .local) (hy : X.env.scope.names.lookup y = some .local) (hz : X.env.scope.names.lookup z = some .local) (ha : PA X [a, b, c] (tA G W xs))
    (hw : swappedStores [.Tuple [.Name x px, .Name y py, .Name z pz] kt pt] (.Tuple [a, b, c] k2 pt2) X.env = pure (some [x, y, z]))
    (hs : swapsWithSole [.Tuple [.Name x px, .Name y py, .Name z pz] kt pt] (.Tuple [a, b, c] k2 pt2) pos.line X.env = pure false) :
    PS X (.Assign [.Tuple [.Name x px, .Name y py, .Name z pz] kt pt] (.Tuple [a, b, c] k2 pt2) pos) (tS G W fun ρ S => (xs ρ S).ro ρ fun ds S1 => match setAll [i, j, l] ds ρ with
      | some ρ' => .fl (.nx ρ') S1
      | none => .stuck) := by
  refine PS.imp (ps_par3 hc hN hi hj hl hij hil hjl hx hy hz ha hw hs) fun Dn σ H h => ?_
  obtain ⟨p0, ρ0, rfl, ok0, re0, z0⟩ := h
  refine ⟨p0, ρ0, rfl, ok0, re0, (PostS.seq (Rel := RelL G) ok0 re0 z0).imp fun v H1 ⟨d, p1, e1, ok1, t1, r1, z1⟩ => ?_⟩
  subst e1
  have re1 := re0.mono ok0 t1
  have key : ∀ ρ', setAll [i, j, l] d ρ0 = some ρ' → ∃ v1 v2 v3, v = [v1, v2, v3] ∧ RE G p1 ρ' (((σ.set i (some v1)).set j (some v2)).set l (some v3)) := by
    intro ρ' h
    cases r1 with
    | nil => simp [setAll] at h
    | @cons d1 ds v1 vs r1 rs =>
      simp only [setAll] at h
      split at h
      · rename_i h1
        cases rs with
        | nil => simp [setAll] at h
        | @cons d2 ds v2 vs r2 rs =>
          simp only [setAll] at h
          split at h
          · rename_i h2
            cases rs with
            | nil => simp [setAll] at h
            | @cons d3 ds v3 vs r3 rs =>
              simp only [setAll] at h
              split at h
              · rename_i h3
                cases rs with
                | nil =>
                  simp only [setAll] at h
                  cases h
                  exact ⟨v1, v2, v3, rfl, ((re1.set oi r1 h1).set oj r2 h2).set ol r3 h3⟩
                | cons _ _ => simp [setAll] at h
              · cases h
          · cases h
      · cases h
  cases hh : setAll [i, j, l] d ρ0 with
  | none => rw [hh] at z1; exact z1.elim
  | some ρ' =>
    rw [hh] at z1
    obtain ⟨v1, v2, v3, rfl, k⟩ := key ρ' hh
    exact ⟨v1, v2, v3, rfl, z1 _ p1 rfl ok1 Pt.to.refl k⟩
end
end EV
set_option Elab.async false
set_option linter.all false
set_option maxRecDepth 100000
/-! EV, part P: += -= -/
namespace EV
open PySem PySem.Spec PyProof.Rows L2 LamX RZ HT
section
variable {G : Gn} {X : Cx} {W : WX}
theorem ok2_iadd (hK : X.K = G.K) : Ok2 G X (inplaceOp .Add) (fun S => o2 S .add) := by
  intro p x y dx dy d Q h rx ry e k
  cases rx with
  | int i => cases ry with
    | int j => cases e; exact ⟨_, iop_add, i, j, rfl, rfl, at_hand h k (.int _)⟩
    | _ => cases e
  | str a => cases ry with
    | str b =>
      simp only [o2] at e
      split at e
      · rename_i hl
        cases e
        exact ⟨_, iop_add_str, a, b, rfl, rfl, hl, at_hand h k (.str _)⟩
      · cases e
    | _ => cases e
  | @tup a ds xs h1 r1 => cases ry with
    | @tup b es ys h2 r2 =>
      simp only [o2] at e
      split at e
      · rename_i hl
        cases e
        have l1 := r1.length
        have l2 := r2.length
        refine ⟨_, iop_catA, a, b, xs, ys, rfl, rfl, by rw [hK]; exact h1.sq, by rw [hK]; exact h2.sq, by omega, fun ex => ?_, fun _ ey => ?_, fun ex ey c hc => ?_⟩
        · subst ex
          have : ds = [] := List.eq_nil_of_length_eq_zero (by simpa using l1)
          subst this
          exact at_hand h k (.tup h2 r2)
        · subst ey
          have : es = [] := List.eq_nil_of_length_eq_zero (by simpa using l2)
          subst this
          rw [List.append_nil] at k
          exact at_hand h k (.tup h1 r1)
        · exact at_new h k hc fun q e1 e2 e3 c e4 e5 => .tup (.inl ⟨.inl e4, e5⟩) ((r1.mono c).append (r2.mono c))
      · cases e
    | _ => cases e
  | _ => cases e
theorem ok2_isub : Ok2 G X (inplaceOp .Sub) (fun S => o2 S .sub) := by
  intro p x y dx dy d Q h rx ry e k
  cases rx with
  | int i => cases ry with
    | int j => cases e; exact ⟨_, iop_sub, i, j, rfl, rfl, at_hand h k (.int _)⟩
    | _ => cases e
  | _ => cases e
/-- a def of what an augmented sign does -/
def OkAug (G : Gn) (X : Cx) (op : Operator) (o : O2) : Prop := Ok2 G X (inplaceOp op) (fun S => aug S o)
theorem ok_augadd (hK : X.K = G.K) : OkAug G X .Add .add := ok2_iadd hK
theorem ok_augsub : OkAug G X .Sub .sub := ok2_isub
theorem snd_augv {i : Nat} {x : Str} {e : Expr} {op : Operator} {o : O2} {pos' pos : Pos} {xe : Env' → Store → Rs D} (hN : X.N.Nodup) (hi : X.N[i]? = some x) (hx : Loc X.env.scope x) (he : PE X e (tE G W xe)) (ho : OkAug G X op o)
    (hf : X.fn x = true ∨ X.env.scope.names.lookup x = some .local) (hoi : G.okS i) :
    PS X (.AugAssign (.Name x pos') op e pos) (tS G W fun ρ S => match (ρ[i]?).join with
      | some x => (xe ρ S).ro ρ fun y S1 => match aug S1 o x y with
        | some z => if i < ρ.length then .fl (.nx (ρ.set i (some z))) S1 else .stuck
        | none => .stuck
      | none => .stuck) := by
  refine PS.imp (ps_aug hN hi hx he (ti := fun x y H Q => ∃ r, OpR X (inplaceOp op) r ∧ r x y H Q) op_any hf) fun Dn σ H h => ?_
  obtain ⟨p0, ρ0, rfl, ok0, re0, z0⟩ := h
  have z0 : PostS G W Dn p0 (match (ρ0[i]?).join with
      | some x => (xe ρ0 p0.S).ro ρ0 fun y S1 => match aug S1 o x y with
        | some z => if i < ρ0.length then .fl (.nx (ρ0.set i (some z))) S1 else .stuck
        | none => .stuck
      | none => .stuck) := z0
  cases hj : (ρ0[i]?).join with
  | none => rw [hj] at z0; exact z0.elim
  | some dx =>
    rw [hj] at z0
    have hj2 : ρ0[i]? = some (some dx) := by
      cases q : ρ0[i]? with
      | none => rw [q] at hj; cases hj
      | some oo => rw [q] at hj; cases oo with
        | none => cases hj
        | some t => simp at hj; rw [hj]
    obtain ⟨v, hv, rv⟩ := re0.get i dx hj2
    refine ⟨v, hv, p0, ρ0, rfl, ok0, re0, (PostS.seq (Rel := RelD G) ok0 re0 z0).imp fun y H1 ⟨dy, p1, e1, ok1, t1, ry, z1⟩ => ?_⟩
    subst e1
    cases ha : aug p1.S o dx dy with
    | none => rw [ha] at z1; exact z1.elim
    | some dz =>
      rw [ha] at z1
      simp only at z1
      by_cases hl : i < ρ0.length
      · rw [if_pos hl] at z1
        refine ho p1 v y dx dy dz _ ok1 (t1.rv ok0 rv) ry ha fun w q hS hq ht hw => ?_
        exact z1 _ q hS hq ht (((re0.mono ok0 t1).mono ok1 ht).set hoi hw hl)
      · rw [if_neg hl] at z1
        exact z1.elim
theorem snd_auga {P : Pg} {f : Nat} {a e : Expr} {op : Operator} {o : O2} {tpos pos : Pos} {xa xe : Env' → Store → Rs D} (hK : X.K = G.K) (CF : ClsF G P.cls P.fok) (ha : PE X a (tE G W xa)) (he : PE X e (tE G W xe)) (ho : OkAug G X op o) :
    PS X (.AugAssign (.Attribute a (G.fld f) tpos) op e pos) (tS G W fun ρ S => (xa ρ S).ro ρ fun x S1 => match objOf S1 x with
    | some (c, fs, vs) => if (P.cls c && P.fok c f) = true then match fieldOf fs vs f with
      | some y => (xe ρ S1).ro ρ fun z S2 => match aug S2 o y z with
        | some w => if isCls S2 x c = true then match setF P S2 x f w with
          | some S3 => .fl (.nx ρ) S3
          | none => .stuck
          else .stuck
        | none => .stuck
      | none => .stuck else .stuck
    | none => .stuck) := by
  refine PS.imp (ps_fldaug ha he (rd := fun x y H Q => ∃ r, OpR X (inplaceOp op) r ∧ r x y H Q) op_any) fun Dn σ H h => ?_
  obtain ⟨p0, ρ0, rfl, ok0, re0, z0⟩ := h
  refine ⟨p0, ρ0, rfl, ok0, re0, (PostS.seq (Rel := RelD G) ok0 re0 z0).imp fun x H1 ⟨dx, p1, e1, ok1, t1, rx, z1⟩ => ?_⟩
  subst e1
  cases hob : objOf p1.S dx with
  | none => rw [hob] at z1; exact z1.elim
  | some cv =>
    obtain ⟨c, fs, vs⟩ := cv
    rw [hob] at z1
    simp only at z1
    by_cases hcl : (P.cls c && P.fok c f) = true
    · rw [if_pos hcl] at z1
      simp only [Bool.and_eq_true] at hcl
      obtain ⟨ad, dx', kvs, rfl, h1, h2, h3⟩ := obj_at ok1 hob rx
      cases hf : fieldOf fs vs f with
      | none => rw [hf] at z1; exact z1.elim
      | some dy =>
        rw [hf] at z1
        simp only at z1
        obtain ⟨vy, h4, h5⟩ := (field_at CF.inj h2 h3).1 dy hf
        have re1 := re0.mono ok0 t1
        refine ⟨ad, _, dx', kvs, vy, rfl, h1, by rw [hK]; exact CF.cls c hcl.1, by rw [hK]; exact CF.no c f hcl.2, h4, p1, ρ0, rfl, ok1, re1, (PostS.seq (Rel := RelD G) ok1 re1 z1).imp fun z H2 ⟨dz, p2, e2, ok2, t2, rz, z2⟩ => ?_⟩
        subst e2
        cases hag : aug p2.S o dy dz with
        | none => rw [hag] at z2; exact z2.elim
        | some dw =>
          rw [hag] at z2
          simp only at z2
          by_cases hic : isCls p2.S dx c = true
          case neg => rw [if_neg hic] at z2; exact z2.elim
          rw [if_pos hic] at z2
          cases hset : setF P p2.S dx f dw with
          | none => rw [hset] at z2; exact z2.elim
          | some S3 =>
            rw [hset] at z2
            simp only at z2
            refine ho p2 vy z dy dz dw _ ok2 (t2.rv ok1 h5) rz hag fun w q hS hq ht hw => ?_
            obtain ⟨a', C', dx2, fs2, e3, g1, g2, g3, g4, q2, g5, g6, g7, g8⟩ := setF_at CF hq (by rw [hS]; exact hset) (ht.rv ok2 (t2.rv ok1 rx)) hw
            cases e3
            have hc : C' = G.cls c := by
              unfold isCls at hic
              cases ho2 : objOf p2.S dx with
              | none => rw [ho2] at hic; cases hic
              | some cv =>
                obtain ⟨k, fs3, vs3⟩ := cv
                rw [ho2] at hic
                have hk : k = c := by simpa using hic
                subst hk
                obtain ⟨a3, dx3, kvs3, e4, g9, _⟩ := obj_at hq (by rw [hS]; exact ho2) (ht.rv ok2 (t2.rv ok1 rx))
                cases e4
                rw [g1] at g9
                cases g9
                rfl
            subst hc
            refine ⟨dx2, fs2, g1, by omega, ?_⟩
            rw [← g5]
            exact z2 σ q2 g6 g7 (ht.trans ok2 g8) (((re1.mono ok1 t2).mono ok2 ht).mono hq g8)
    · rw [if_neg hcl] at z1
      exact z1.elim
end
end EV
set_option Elab.async false
set_option linter.all false
set_option maxRecDepth 100000
/-! EV, part Q: raise. -/
namespace EV
open PySem PySem.Spec PyProof.Rows L2 LamX RZ HT
/-- the promise of an error's own __init__: its fields are kept -/
def spEx (G : Gn) (C : Addr) (fs : List Nat) : Sp := fun vs H K _ => ∃ a ys, vs = .ref a :: ys ∧ ys.length = fs.length ∧ H a = some (exo a C none) ∧
  ∀ d H', d ≠ a → H d = none → H' a = some (exo a C (some d)) → H' d = some (exd d ((fs.map G.fld).zip ys).reverse) → (∀ b, b ≠ a → b ≠ d → H' b = H b) → K .non H'
/-- an error class that may be raised here -/
def ExC (X : Cx) (G : Gn) (c : Nat) (fs : List Nat) : Prop := ∃ (fI : Addr) (k : Nat) (fd : FuncData) (ps : List Str), OexC X.K (G.cls c) ∧ PySem.W.findIn X.K (.ref (G.cls c)) "__init__" = some (some (.ref fI)) ∧ PySem.W.typeIn X.K (.ref fI) = some (.type "function") ∧
  FnOk X.prog X.w X.K X.mg X.base (L2.CX X.prog X.w) k fI fd ps (spEx G (G.cls c) fs) ∧ Room (k + 1) X.A ∧ Binds X.K fd ps [] ∧ fs.length ≤ 900
section
variable {G : Gn} {X : Cx} {W : WX}
theorem zip_rv {p : Pt} : ∀ {fs : List Nat} {ds : List D} {ys : List V}, fs.length = ds.length → RVs G p.H p.N p.α ds ys → ((fs.map G.fld).zip ys).map (·.1) = fs.map G.fld ∧ ((fs.map G.fld).zip ys).map (·.2) = ys
  | [], [], _, _, .nil => ⟨rfl, rfl⟩
  | [], _ :: _, _, e, _ => by cases e
  | _ :: _, [], _, e, _ => by cases e
  | f :: fs, d :: ds, _, e, .cons h r => by
    obtain ⟨h1, h2⟩ := zip_rv (fs := fs) (Nat.succ.inj e) r
    exact ⟨by simp [h1], by simp [h2]⟩
theorem snd_raise {x : Str} {c : Nat} {p pos pos' : Pos} {e : Expr} {es : List Expr} {fs : List Nat} {xs : Env' → Store → Rs (List D)} (hc : X.calm = true) (tk : L2.Takes X W) (K : ExC X G c fs) (hg : Gl X x) (hm : X.mg x = some (.ref (G.cls c)))
    (hdb : (x == ("__debug__" : Str)) = false) (hs : (e :: es).all notStar = true) (ha : PA X (e :: es) (tA G W xs)) :
    PS X (.Raise (some (.Call (.Name x p) (e :: es) [] pos)) none pos') (tS G W fun ρ S => (xs ρ S).ro ρ fun ds S1 => if fs.length = ds.length then .exc ρ c fs.reverse ds.reverse S1 else .stuck) := by
  obtain ⟨fI, k, fd, ps, T, iC, tI, F1, hr, hb, h900⟩ := K
  rw [List.all_cons, Bool.and_eq_true] at hs
  refine PS.imp (L2.ps_raise hc tk (pmk_oex (sp := spEx G (G.cls c) fs) (dvs := []) T iC tI F1 hr hb .nil passL hg hm ha hdb (starEach_plain hs.1) (noStars hs.2))) fun Dn σ H h => ?_
  obtain ⟨p0, ρ0, rfl, ok0, re0, z0⟩ := h
  refine ⟨p0, ρ0, rfl, ok0, re0, (PostS.seq (Rel := RelL G) ok0 re0 z0).imp fun vs H1 ⟨ds, p1, e1, ok1, t1, r1, z1⟩ => ?_⟩
  subst e1
  by_cases hl : fs.length = ds.length
  · rw [if_pos hl] at z1
    have l1 := r1.length
    refine ⟨by omega, fun a ha => ⟨a, vs, by simp, by omega, upd_same, fun d H' hda hd h1 h2 h3 => ⟨rfl, d, _, h1, h2, ?_, ?_⟩⟩⟩
    · rw [upd_ne hda] at hd
      exact hd
    · rw [upd_ne hda] at hd
      have eH : upd (del H' a) d (.xd ((fs.map G.fld).zip vs).reverse) = upd p1.H d (.xd ((fs.map G.fld).zip vs).reverse) := by
        funext b
        by_cases hbd : b = d
        · rw [hbd, upd_same, upd_same]
        · rw [upd_ne hbd, upd_ne hbd]
          by_cases hba : b = a
          · rw [hba, del_same, ha]
          · rw [del_ne hba, h3 b hba hbd, upd_ne hba]
      rw [eH]
      have ok2 : ST G (upd p1.H d (.xd ((fs.map G.fld).zip vs).reverse)) p1.N p1.S p1.α := ST.laid ok1 hd
      have t2 : p1.to ⟨upd p1.H d (.xd ((fs.map G.fld).zip vs).reverse), p1.N, p1.S, p1.α⟩ := Stp.laid hd
      obtain ⟨k1, k2⟩ := zip_rv (p := p1) hl r1
      refine z1 σ _ _ ⟨upd p1.H d (.xd ((fs.map G.fld).zip vs).reverse), p1.N, p1.S, p1.α⟩ rfl ok2 t2 ((re0.mono ok0 t1).mono ok1 t2) ⟨rfl, .inr ⟨d, _, rfl, upd_same, fun n => ?_, ?_, ?_⟩⟩
      · obtain ⟨o, q, _⟩ := ok1.trk d n
        rw [hd] at q; cases q
      · rw [List.map_reverse, List.map_reverse, k1]
      · rw [List.map_reverse, k2]
        exact (t2.rvs ok1 r1).rev
  · rw [if_neg hl] at z1
    exact z1.elim
end
end EV
set_option Elab.async false
set_option linter.all false
set_option maxRecDepth 100000
/-! EV, part R: an error's own __init__. -/
namespace EV
open PySem PySem.Spec PyProof.Rows L2 LamX RZ HT
/-- self.f = f, one after another -/
def asSelf : Stmt → Option (Str × Str × Str)
  | .Assign [.Attribute (.Name s _) g _] (.Name x _) _ => some (s, g, x)
  | _ => none
theorem asSelf_eq {st : Stmt} {s g x : Str} (h : asSelf st = some (s, g, x)) : ∃ p1 p2 p3 p4, st = .Assign [.Attribute (.Name s p1) g p2] (.Name x p3) p4 := by
  unfold asSelf at h
  split at h
  · cases h; exact ⟨_, _, _, _, rfl⟩
  · cases h
def exBody (fld : Nat → Str) (N : List Str) (names : List (Str × NameKind)) : Nat → List Nat → List Stmt → Bool
  | _, [], [] => true
  | i, f :: fs, st :: r => match asSelf st with
    | none => false
    | some (s, g, x) => decide (N[0]? = some s) && decide (N[i + 1]? = some x) && decide (names.lookup s = some .local) && decide (names.lookup x = some .local) && decide (g = fld f) && !(s == ("__debug__" : Str)) && !(x == ("__debug__" : Str)) && !(s == ("__classdict__" : Str)) && !(x == ("__classdict__" : Str)) && exBody fld N names (i + 1) fs r
  | _, [], _ :: _ => false
  | _, _ :: _, [] => false
section
variable {G : Gn}
def tX (G : Gn) (C : Addr) (fs : List Nat) (i : Nat) : TS := fun Dn σ H => ∃ (a : Addr) (ys : List V) (H0 : Hp), σ[0]? = some (some (.ref a)) ∧ (∀ (j : Nat) y, ys[j]? = some y → σ[j + 1]? = some (some y)) ∧ fs.length = ys.length ∧ H0 a = some (exo a C none) ∧
  ((i = 0 ∧ H = H0) ∨ (0 < i ∧ ∃ d, d ≠ a ∧ H0 d = none ∧ H a = some (exo a C (some d)) ∧ H d = some (exd d (((fs.map G.fld).zip ys).take i).reverse) ∧ ∀ b, b ≠ a → b ≠ d → H b = H0 b)) ∧
  ∀ d H', d ≠ a → H0 d = none → H' a = some (exo a C (some d)) → H' d = some (exd d ((fs.map G.fld).zip ys).reverse) → (∀ b, b ≠ a → b ≠ d → H' b = H0 b) → Dn.nx σ H'
theorem exb {X : Cx} {C : Addr} {fs : List Nat} (T : OexC X.K C) (hno : ∀ f ∈ fs, PySem.W.findIn X.K (.ref C) (G.fld f) = some none) (h900 : fs.length ≤ 900) : ∀ (body : List Stmt) (gs : List Nat) (i : Nat), fs.drop i = gs → (gs = [] → 0 < i) → i + gs.length = fs.length → exBody G.fld X.N X.env.scope.names i gs body = true →
    PSs X body (tX G C fs i)
  | [], [], i, hd, h0, hl, _ => by
    refine PSs.imp pss_nil fun Dn σ H h => ?_
    obtain ⟨a, ys, H0, s0, sj, ln, e0, st, fin⟩ := h
    have hi : i = fs.length := by simpa using hl
    rcases st with ⟨z, _⟩ | ⟨_, d, h1, h2, h3, h4, h5⟩
    · exact absurd (h0 rfl) (by omega)
    · rw [List.take_of_length_le (by simp; omega)] at h4
      exact fin d H h1 h2 h3 h4 h5
  | [], _ :: _, i, _, _, _, hb => by unfold exBody at hb; cases hb
  | _ :: _, [], i, _, _, _, hb => by unfold exBody at hb; cases hb
  | st :: r, f :: gs, i, hd, h0, hl, hb => by
    unfold exBody at hb
    split at hb
    · cases hb
    rename_i s g x hst
    obtain ⟨ps, pa, px, pp, rfl⟩ := asSelf_eq hst
    simp only [Bool.and_eq_true, decide_eq_true_eq, Bool.not_eq_true'] at hb
    obtain ⟨⟨⟨⟨⟨⟨⟨⟨⟨b1, b2⟩, b3⟩, b4⟩, b5⟩, b6⟩, b7⟩, b8⟩, b9⟩, b10⟩ := hb
    subst b5
    have hlt : i < fs.length := by simp at hl; omega
    have hfi : fs[i]? = some f := by
      have := congrArg (·[0]?) hd
      simpa [List.getElem?_drop] using this
    have hfm : f ∈ fs := List.mem_of_getElem? hfi
    have ih := exb (X := X) T hno h900 r gs (i + 1) (by rw [← List.drop_drop, hd]; rfl) (fun _ => Nat.succ_pos _) (by simp at hl; omega) b10
    refine PSs.imp (pss_cons (ps_ost (f := G.fld f) (pe_var b1 (.inl b3) b6 b8) (pe_var b2 (.inl b4) b7 b9) rfl) ih) fun Dn σ H h => ?_
    obtain ⟨a, ys, H0, s0, sj, ln, e0, st, fin⟩ := h
    have hy : ys[i]? = some ys[i] := List.getElem?_eq_getElem (by omega)
    have hz : ((fs.map G.fld).zip ys)[i]? = some (G.fld f, ys[i]) := by
      rw [List.getElem?_zip_eq_some]
      exact ⟨by rw [List.getElem?_map, hfi]; rfl, hy⟩
    have htk : (((fs.map G.fld).zip ys).take (i + 1)).reverse = (G.fld f, ys[i]) :: (((fs.map G.fld).zip ys).take i).reverse := by
      rw [List.take_add_one, hz]
      simp
    refine ⟨ys[i], sj i _ hy, .ref a, s0, a, C, rfl, T, hno f hfm, ?_⟩
    rcases st with ⟨z, rfl⟩ | ⟨zi, d, h1, h2, h3, h4, h5⟩
    · subst z
      refine .inl ⟨e0, fun dx hdx hda => ⟨a, ys, H, s0, sj, ln, e0, .inr ⟨Nat.succ_pos _, dx, hda, hdx, upd_same, ?_, fun b hba hbd => by rw [upd_ne hba, upd_ne hbd]⟩, fin⟩⟩
      rw [upd_ne hda, upd_same, htk]
      simp
    · refine .inr ⟨d, _, h3, h4, by simp; omega, a, ys, H0, s0, sj, ln, e0, .inr ⟨Nat.succ_pos _, d, h1, h2, by rw [upd_ne (Ne.symm h1)]; exact h3, by rw [upd_same, htk], fun b hba hbd => by rw [upd_ne hbd]; exact h5 b hba hbd⟩, fin⟩
theorem exinit_ok {P : Program} {w : World} {K : PySem.W.Frag} {mg : Str → Option Value} {base : Heap} {x qual : Str} {params : Arguments} {body : List Stmt} {scope : Scope} {dvs : List V} {kws : List (Str × V)} {f : Addr} {fd : FuncData} {N ps : List Str} {k : Nat} {C : Addr} {fs : List Nat}
    (F : FunD K x qual params body scope dvs kws f fd) (S : FnScope N ps scope) (T : OexC K C) (hno : ∀ f ∈ fs, PySem.W.findIn K (.ref C) (G.fld f) = some none) (h900 : fs.length ≤ 900) (h0 : fs ≠ []) (hp : ps.length = fs.length + 1)
    (hb : exBody G.fld N scope.names 0 fs body = true) : FnOk P w K mg base (L2.CX P w) (k + 1) f fd ps (spEx G C fs) := by
  refine F.ok S (fun vs H Q E h => ?_) fun cdv A outer s H vs Q E hr h => ?_
  · obtain ⟨a, ys, rfl, hl, _⟩ := h
    rw [hp, ← hl]; rfl
  · obtain ⟨a, ys, rfl, hl, ha, fin⟩ := h
    refine ⟨tX G C fs 0, exb (X := cxOf (L2.CX P w) P w K mg base N qual scope f cdv A outer s H E) T hno h900 body fs 0 rfl (fun z => absurd z h0) (by simp) hb, a, ys, H, ?_, fun j y hj => ?_, hl.symm, ha, .inl ⟨rfl, rfl⟩, fun d H' h1 h2 h3 h4 h5 => fin d H' h1 h2 h3 h4 h5⟩
    · simp [L2.start]
    · unfold L2.start
      have hj' := (List.getElem?_eq_some_iff.mp hj).1
      rw [List.getElem?_append_left (by simpa using hj')]
      simp [hj]
end
end EV
set_option Elab.async false
set_option linter.all false
set_option maxRecDepth 100000
set_option maxHeartbeats 2000000
/-! EV, part T: try with several clauses, each with a name or without one. -/
namespace EV
open PySem PySem.Spec PyProof.Rows L2 LamX RZ HT
/-- one clause: its class, the slot of its name, its suite -/
structure Cl where
  cls : Value
  slot : Option Nat
  suite : Addr → Value → Option Addr → TS
def outN (σ : L2.St) : Option Nat → L2.St
  | none => σ
  | some i => σ.set i none
def inN (σ : L2.St) (a : Addr) : Option Nat → L2.St
  | none => σ
  | some i => σ.set i (some (.ref a))
def endN (Dn : Ends) (o : Option Nat) : Ends := { nx := fun σ H => Dn.nx (outN σ o) H, rt := Dn.rt, bk := fun σ H => Dn.bk (outN σ o) H, ct := fun σ H => Dn.ct (outN σ o) H }
def wCl (K : PySem.W.Frag) (Wout : WX) (Dn : Ends) : List Cl → WX
  | [] => Wout
  | c :: r => fun cls d σ H => ∃ b, PySem.W.exmOne K cls c.cls = some b ∧ (b = true → ∀ a, H a = none → c.suite a cls d (endN Dn c.slot) (inN σ a c.slot) H) ∧ (b = false → wCl K Wout Dn r cls d σ H)
/-- the clauses as they are written -/
inductive ClOk (X : Cx) : List ExceptHandler → List Cl → Prop
  | nil : ClOk X [] []
  | cons {x : Str} {n : Option Str} {c : Cl} {b : Stmt} {bs : List Stmt} {np hp : Pos} {hs : List ExceptHandler} {cs : List Cl} (hc : Names X x c.cls)
      (hn : match n, c.slot with
        | none, none => True
        | some y, some i => X.N[i]? = some y ∧ X.env.kindOf y = some .local
        | _, _ => False)
      (hb : ∀ (a : Addr) (oe : Obj) (cls : Value) (d : Option Addr) (pn : List (Addr × Obj)), Zc cls d oe → (∃ vs, oe.data = .fields vs) → PSs (X.suite a ((a, oe) :: pn)) (b :: bs) (c.suite a cls d)) (r : ClOk X hs cs) :
      ClOk X (.ExceptHandler (some (.Name x np)) n (b :: bs) hp :: hs) (c :: cs)
section
variable {X : Cx}
/-- an exception that has landed goes through the clauses -/
theorem clauses {W : WX} {Dn : Ends} {pins : List (Addr × Obj)} {sI s : Shared} {σ : L2.St} {H : Hp} {a : Addr} {B : Heap} {cls : Value} {d : Option Addr} (hN : X.N.Nodup) (hst : X.stack = X.env :: X.outer) (hf : X.env.frame = some X.env.locals) (tk : L2.Takes X W)
    (J : Inv X pins σ H sI) (nb : ∀ b o, sI.heap.get? b = some o → b ∉ frs X.stack → B.get? b = some o) (na : H a = none) (os : s.os = sI.os) (ag : AllBare s.gens) :
    ∀ {hs : List ExceptHandler} {cs : List Cl}, ClOk X hs cs → ∀ {h : Heap}, sI.heap.UpToSlots h → HandSPX.FlyingZ B (X.env :: X.outer) a (Zc cls d) h → wCl X.K W Dn cs cls d σ H →
      wpAny (model X.prog X.w) X.A (handleBy (.ref a) X.env hs) (SP X pins Dn) X.xe { s with heap := h } := by
  have ok := J.ok
  intro hs cs k
  induction k with
  | nil =>
    intro h up fl w
    refine wpAny_handleBy_nil ?_
    obtain ⟨_, _, _, oe, vs, T, _, _, he, _, hd, h1, _⟩ := id fl
    unfold PySem.passOn
    refine wpAny_bind (wpAny_field he hd h1 ?_)
    rw [if_neg (show ¬ ((Value.ref T == Value.none) = true) from by simp)]
    have fin : wpAny (model X.prog X.w) X.A (setFlight (.ref a) X.env.frame) (fun _ s4 => wpAny (model X.prog X.w) X.A (throw (.ref a) : Sem Flow) (SP X pins Dn) X.xe s4) X.xe { s with heap := h } := by
      rw [hf]
      refine HandSPX.setFlight_upZ fl fun h4 hh4 up4 => wpAny_throw (tk _ _ ?_)
      exact ⟨a, B, sI, pins, σ, H, cls, d, rfl, J, nb, up.trans up4, .inr (.inr (by rw [hst]; exact hh4)), na, os, ag, w⟩
    first
      | exact wpAny_bind (wpAny_pure (wpAny_bind fin))
      | exact wpAny_bind fin
  | @cons x n c b bs np hp hs cs hc hn hb r ih =>
    intro h up fl w
    have J3 : Inv X pins σ H { s with heap := h } := J.landed nb fl.1 up os ag
    have apart : ∀ {h : Heap}, HandSPX.FlyingZ B (X.env :: X.outer) a (Zc cls d) h → ∃ oe vs, h.get? a = some oe ∧ Zc cls d oe ∧ oe.data = .fields vs ∧ a ≠ X.env.locals ∧ a ∉ X.fs := fun {h} fl => by
      obtain ⟨oe, vs, he, hz, hd⟩ := fl.there
      have nfr : a ∉ frs (X.env :: X.outer) := fun hm => by
        obtain ⟨_, o', e', hnf⟩ := fl.2.2.1.mem hm
        rw [he] at e'; cases e'
        exact hnf _ hd
      exact ⟨oe, vs, he, hz, hd, fun z => nfr (List.mem_filterMap.mpr ⟨X.env, List.mem_cons_self, by rw [hf, z]⟩), fun hm => by
        obtain ⟨e, he, q⟩ := List.mem_filterMap.mp hm
        exact nfr (List.mem_filterMap.mpr ⟨e, List.mem_cons_of_mem _ he, q⟩)⟩
    obtain ⟨oe, vs, he, hz, hd, nL, nF⟩ := apart fl
    have S3 := J3.suite he hd na nL nF
    obtain ⟨t, ht, hyes, hno⟩ := w
    refine wpAny_handleBy_cons (codeAny_handlers_test ?_) (by intro q; cases q)
    have LT : PySem.W.Looks (model X.prog X.w) h (typeOf (.ref a)) cls := fun A Q E s k q => wpAny_typeOf_ref (k _ _ he) (by rw [hz.1]; exact q)
    have LM := PySem.W.exm_one (M := model X.prog X.w) (J3.kIn) LT ht
    have test : ∀ {Q : Value → Shared → Prop} {E : Value → Shared → Prop}, Q c.cls { s with heap := h } → wpAny (model X.prog X.w) (X.A.mark (some (.ref a))) (eval (.Name x np) X.env) Q E { s with heap := h } := fun {Q E} q => by
      obtain ⟨hg, hdbg, hm | ⟨hm, hv, hnn⟩⟩ := hc
      · exact ld_glob (X := X.suite a ((a, oe) :: (X.pn ++ pins))) S3 hg hm q hdbg
      · exact ld_blt (X := X.suite a ((a, oe) :: (X.pn ++ pins))) S3 hg hm hv q hnn hdbg
    refine test (LM.here ?_)
    cases t with
    | false => exact ih up fl (hno rfl)
    | true =>
      have hw := hyes rfl a na
      cases hns : c.slot with
      | none =>
        rw [hns] at hn hw
        cases n with
        | some y => exact hn.elim
        | none =>
          refine codeAny_handlers_suite ?_
          refine HandSPX.lands_againZ fl fun h4 fl4 up4 => ?_
          obtain ⟨oe4, vs4, he4, hz4, hd4, nL4, nF4⟩ := apart fl4
          have S4 := (J.landed (s' := { s with heap := h4 }) nb fl4.1 (up.trans up4) os ag).suite he4 hd4 na nL4 nF4
          refine wpAny_mono ((hb a oe4 cls d (X.pn ++ pins) hz4 ⟨_, hd4⟩).run [] _ _ H _ S4 hw) (fun f s6 hsp => ?_) (fun _ _ z => False.elim z)
          cases f with
          | next => obtain ⟨σ6, H6, S6, q6⟩ := hsp; exact ⟨_, _, S6.unsuite ok, q6⟩
          | brk => obtain ⟨σ6, H6, S6, q6⟩ := hsp; exact ⟨_, _, S6.unsuite ok, q6⟩
          | cont => obtain ⟨σ6, H6, S6, q6⟩ := hsp; exact ⟨_, _, S6.unsuite ok, q6⟩
          | ret u => obtain ⟨v6, σ6, H6, S6, r6, q6⟩ := hsp; exact ⟨_, _, _, S6.unsuite ok, r6, q6⟩
      | some i =>
        rw [hns] at hn hw
        cases n with
        | none => exact hn.elim
        | some y =>
          obtain ⟨hi, hln⟩ := hn
          refine codeAny_handlers_suite_as ?_
          refine HandSPX.lands_againZ fl fun h4 fl4 up4 => ?_
          obtain ⟨oe4, vs4, he4, hz4, hd4, nL4, nF4⟩ := apart fl4
          have S4 := (J.landed (s' := { s with heap := h4 }) nb fl4.1 (up.trans up4) os ag).suite he4 hd4 na nL4 nF4
          refine store_ok (X := X.suite a ((a, oe4) :: (X.pn ++ pins))) (v := .ref a) S4 hN hi (.inl hln) rfl (fun s5 S5 => ?_) (.inr hln)
          refine wpAny_mono ((hb a oe4 cls d (X.pn ++ pins) hz4 ⟨_, hd4⟩).run [] s5 _ H _ S5 hw) (fun f s6 hsp => ?_) (fun _ _ z => False.elim z)
          have end_ : ∀ {σ6 : L2.St} {H6 : Hp} {Q : Shared → Prop}, Inv (X.suite a ((a, oe4) :: (X.pn ++ pins))) [] σ6 H6 s6 → (∀ s7, Inv X pins (σ6.set i none) H6 s7 → Q s7) →
              wpAny (model X.prog X.w) X.A (do bindName X.env y .none; unbindBehindTheSuite X.env y hp) (fun _ s7 => Q s7) X.xe s6 := fun {σ6 H6 Q} S6 hq => gone_ok (S6.unsuite ok) hN hi hln hq
          cases f with
          | next => obtain ⟨σ6, H6, S6, q6⟩ := hsp; exact end_ S6 fun s7 J7 => ⟨_, _, J7, q6⟩
          | brk => obtain ⟨σ6, H6, S6, q6⟩ := hsp; exact end_ S6 fun s7 J7 => ⟨_, _, J7, q6⟩
          | cont => obtain ⟨σ6, H6, S6, q6⟩ := hsp; exact end_ S6 fun s7 J7 => ⟨_, _, J7, q6⟩
          | ret u => obtain ⟨v6, σ6, H6, S6, r6, q6⟩ := hsp; exact end_ S6 fun s7 J7 => ⟨_, _, _, J7, r6, q6⟩
theorem ps_tryN {body : List Stmt} {h₀ : ExceptHandler} {hs : List ExceptHandler} {cs : List Cl} {pos : Pos} {tb : WX → TS} {W : WX} (hN : X.N.Nodup) (hst : X.stack = X.env :: X.outer) (hf : X.env.frame = some X.env.locals) (tk : L2.Takes X W)
    (hb : ∀ (W : WX) (pn : List (Addr × Obj)) (xe : Value → Shared → Prop), L2.Takes (X.tr pn xe) W → PassesOwn (model X.prog X.w) X.A X.env xe → PSs (X.tr pn xe) body (tb W))
    (hh : ClOk X (h₀ :: hs) cs) : PS X (.Try body (h₀ :: hs) [] [] pos) (fun Dn σ H => tb (wCl X.K W Dn cs) Dn σ H) := by
  refine ⟨fun pins s σ H Dn I h => ?_⟩
  have ok := I.ok
  have hfr : X.A.frames = some (X.env :: X.outer) := by rw [ok.frames, hst]
  refine wpAny_Try_except ?_
  refine wpAny_mono ((hb (wCl X.K W Dn cs) (X.pn ++ pins) (fun e s₁ => wpAny (model X.prog X.w) X.A (noteFrame e X.env) (fun _ s₂ => wpAny (model X.prog X.w) X.A (setFlight e none) (fun _ s₃ =>
    wpAny (model X.prog X.w) X.A (handleBy e X.env (h₀ :: hs)) (SP X pins Dn) X.xe s₃) X.xe s₂) X.xe s₁) (fun u s' xx => ?_) PassesOwn.looking).run [] s σ H Dn (I.toTry _) h) (fun f s1 hsp => ?_) (fun e s1 he => he)
  · obtain ⟨a, B, sI, pins', σ', H', cls, d, rfl, J', nb, up, sky, na, os, ag, w⟩ := xx
    have sky' : L2.Sky B (X.env :: X.outer) a (Zc cls d) X.env.locals s'.heap := by rw [← hst]; exact sky
    show wpAny (model X.prog X.w) X.A (noteFrame (.ref a) X.env) _ _ _
    refine L2.Sky.land Zc.steady hfr hf sky' fun h3 fl3 up3 => ?_
    exact clauses hN hst hf tk (J'.ofTry ok) nb na os ag hh (up.trans up3) fl3 w
  · cases f with
    | next => obtain ⟨σ', H', J', q⟩ := hsp; exact wpAny_execs_nil ⟨σ', H', J'.ofTry ok, q⟩
    | brk => obtain ⟨σ', H', J', q⟩ := hsp; exact ⟨σ', H', J'.ofTry ok, q⟩
    | cont => obtain ⟨σ', H', J', q⟩ := hsp; exact ⟨σ', H', J'.ofTry ok, q⟩
    | ret u => obtain ⟨v, σ', H', J', r, q⟩ := hsp; exact ⟨v, σ', H', J'.ofTry ok, r, q⟩
end
end EV
set_option Elab.async false
set_option linter.all false
set_option maxRecDepth 100000
/-! EV, part U: try, by the evaluator. -/
namespace EV
open PySem PySem.Spec PyProof.Rows L2 LamX RZ HT
def Gn.with (G : Gn) (slot : Option Nat) (a : Addr) (d : Option Addr) (c : Nat) (fs : List Nat) (vs : List D) : Gn := { G with cx := slot.map fun i => ⟨i, a, d, c, fs, vs⟩ }
def slotsOf : MHs → List Nat
  | .nil => []
  | .cons _ slot _ hs => slot.toList ++ slotsOf hs
def clOf (G : Gn) (E : Ec) (sub : Nat → Nat → Option Bool) : MHs → List Cl
  | .nil => []
  | .cons c slot b hs => ⟨.ref (G.cls c), slot, fun a cls d Dn σ H => ∃ e fs vs, (cls = .ref (G.cls e) ∧ (sub e c).isSome = true) ∧ tS (G.with slot a d e fs vs) noX (execs { E with cur := some (e, fs, vs) } sub b) Dn σ H⟩ :: clOf G E sub hs
/-- which error is which -/
def SubF (G : Gb) (sub : Nat → Nat → Option Bool) : Prop := ∀ c h b, sub c h = some b → PySem.W.exmOne G.K (.ref (G.cls c)) (.ref (G.cls h)) = some b
section
variable {G : Gn} {X : Cx} {W : WX}
theorem wCl_of {E : Ec} {sub : Nat → Nat → Option Bool} (hK : X.K = G.K) (hcx : G.cx = none) (SF : SubF G sub) {Dn : Ends} {p : Pt} {ρ : Env'} {σ : L2.St} {c : Nat} {fs : List Nat} {vs : List D} {cls : Value} {dd : Option Addr} (ok : p.ok G) (re : RE G p ρ σ) (xr : XR G p.H p.N p.α c fs vs cls dd) :
    ∀ hs : MHs, (∀ i ∈ slotsOf hs, G.okS i) → PostS G W Dn p (handle E sub hs ρ c fs vs p.S) → wCl X.K W Dn (clOf G E sub hs) cls dd σ p.H
  | .nil, _, z => by
    unfold handle at z
    exact z σ cls dd p rfl ok Pt.to.refl re xr
  | .cons h slot b hs, hs0, z => by
    unfold handle at z
    cases hsub : sub c h with
    | none => rw [hsub] at z; exact z.elim
    | some t =>
      rw [hsub] at z
      refine ⟨t, by rw [xr.1, hK]; exact SF c h t hsub, fun ht a ha => ?_, fun hf => ?_⟩
      · subst ht
        simp only at z
        by_cases hin : inSlot slot ρ = true
        · rw [if_pos hin] at z
          have okS : ∀ i, slot = some i → G.okS i := fun i hi => hs0 i (by simp [slotsOf, hi])
          have re1 : RE (G.with slot a dd c fs vs) p (clr slot ρ) (inN σ a slot) := by
            cases slot with
            | none => exact ⟨re.len, re.get, fun c hc => (by cases hc), re.th⟩
            | some i =>
              have r1 := re.forget (i := i) (o := some (.ref a)) (okS i rfl)
              refine ⟨r1.len, r1.get, fun c hc => ?_, r1.th⟩
              cases hc
              refine ⟨?_, xr.2⟩
              have : i < ρ.length := by simpa [inSlot] using hin
              exact List.getElem?_set_self (by rw [← re.len]; exact this)
          have back : ∀ {q : Pt} {ρ' : Env'} {σ' : L2.St}, RE (G.with slot a dd c fs vs) q ρ' σ' → RE G q (clr slot ρ') (outN σ' slot) := fun {q ρ' σ'} r => by
            have r0 : RE G q ρ' σ' := ⟨r.len, r.get, fun c hc => by (rw [hcx] at hc; cases hc), r.th⟩
            cases slot with
            | none => exact r0
            | some i => exact r0.unset (okS i rfl)
          refine ⟨c, fs, vs, ⟨xr.1, by rw [hsub]; rfl⟩, p, clr slot ρ, rfl, ok, re1, ?_⟩
          cases hx : execs { E with cur := some (c, fs, vs) } sub b (clr slot ρ) p.S with
          | stuck => rw [hx] at z; exact z.elim
          | exc _ _ _ _ _ => rw [hx] at z; exact z.elim
          | fl f S' =>
            rw [hx] at z
            cases f with
            | nx ρ' => exact fun σ' q hS hq ht hr => z _ q hS hq ht (back hr)
            | bk ρ' => exact fun σ' q hS hq ht hr => z _ q hS hq ht (back hr)
            | ct ρ' => exact fun σ' q hS hq ht hr => z _ q hS hq ht (back hr)
            | rt d => exact fun v q hS hq ht hr => z v q hS hq ht hr
        · rw [if_neg hin] at z
          exact z.elim
      · subst hf
        exact wCl_of hK hcx SF ok re xr hs (fun i hi => hs0 i (by simp [slotsOf, hi])) z
theorem PSs.ex {ι : Type} {s : List Stmt} {w : ι → TS} (h : ∀ i, PSs X s (w i)) : PSs X s (fun Dn σ H => ∃ i, w i Dn σ H) := ⟨fun pins s σ H D I ⟨i, q⟩ => (h i).run pins s σ H D I q⟩
/-- the try statement -/
theorem snd_try {E : Ec} {sub : Nat → Nat → Option Bool} {body : List Stmt} {h₀ : ExceptHandler} {hds : List ExceptHandler} {mhs : MHs} {xs : Env' → Store → Ro} {pos : Pos} (hK : X.K = G.K) (hcx : G.cx = none) (SF : SubF G sub) (hN : X.N.Nodup) (hst : X.stack = X.env :: X.outer)
    (hf : X.env.frame = some X.env.locals) (tk : L2.Takes X W)
    (hb : ∀ (W : WX) (pn : List (Addr × Obj)) (xe : Value → Shared → Prop), L2.Takes (X.tr pn xe) W → PassesOwn (model X.prog X.w) X.A X.env xe → PSs (X.tr pn xe) body (tS G W xs))
    (hh : ClOk X (h₀ :: hds) (clOf G E sub mhs)) (hsl : ∀ i ∈ slotsOf mhs, G.okS i) :
    PS X (.Try body (h₀ :: hds) [] [] pos) (tS G W fun ρ S => match xs ρ S with
      | .exc ρ' c fs vs S' => handle E sub mhs ρ' c fs vs S'
      | r => r) := by
  refine PS.imp (ps_tryN (tb := fun W => tS G W xs) hN hst hf tk hb hh) fun Dn σ H h => ?_
  obtain ⟨p0, ρ0, rfl, ok0, re0, z0⟩ := h
  refine ⟨p0, ρ0, rfl, ok0, re0, ?_⟩
  have z0 : PostS G W Dn p0 (match xs ρ0 p0.S with
      | .exc ρ' c fs vs S' => handle E sub mhs ρ' c fs vs S'
      | r => r) := z0
  cases hx : xs ρ0 p0.S with
  | stuck => rw [hx] at z0; exact z0
  | fl f S' => rw [hx] at z0; cases f <;> exact z0
  | exc ρ' c fs vs S' =>
    rw [hx] at z0
    simp only at z0
    intro σ' cls dd q hS hq ht hr xr
    subst hS
    exact wCl_of hK hcx SF hq hr xr mhs hsl (z0.step ok0 ht)
/-- error.f within a suite -/
theorem snd_exf {a : Addr} {oe : Obj} {cls : Value} {d : Option Addr} {pn : List (Addr × Obj)} {x : Str} {pos pos2 : Pos} {slot f e : Nat} {fs : List Nat} {vs : List D} {C : Addr} (hinj : ∀ f g, G.fld f = G.fld g → f = g) (hcx : G.cx = some ⟨slot, a, d, e, fs, vs⟩) (hcl : cls = .ref C)
    (T : XfC X.K C) (hno : PySem.W.findIn X.K (.ref C) (G.fld f) = some none) (hz : Zc cls d oe) (hf : ∃ vs, oe.data = .fields vs)
    (hN : X.N[slot]? = some x) (hv : Vis X.env.scope x) (hd : (x == ("__debug__" : Str)) = false) (hcd : (x == ("__classdict__" : Str)) = false) :
    PE (X.suite a ((a, oe) :: pn)) (.Attribute (.Name x pos2) (G.fld f) pos) (tE G W fun _ S => Rs.of S (fieldOf fs vs f)) := by
  refine PE.imp (pe_xf T hno hz hf (pe_var hN hv hd hcd) rfl) fun σ H Q h => ?_
  obtain ⟨p0, ρ0, rfl, ok0, re0, z0⟩ := h
  obtain ⟨d', e1, z1⟩ := Post.of z0
  obtain ⟨c1, c2⟩ := re0.cx _ hcx
  refine ⟨.ref a, c1, rfl, hcl, ?_⟩
  rcases c2 with ⟨q1, q2, _⟩ | ⟨p, kvs, q1, q2, q3, q4, q5⟩
  · simp only at q1 q2
    rw [q1, q2] at e1
    cases e1
  · obtain ⟨v, h4, h5⟩ := (field_at hinj q4 q5).1 d' e1
    exact ⟨p, kvs, v, q1, q2, h4, z1.here (Rel := RelD G) ok0 h5⟩
end
end EV
set_option Elab.async false
set_option linter.all false
set_option maxRecDepth 100000
set_option maxHeartbeats 2000000
/-! EV, part V: a lambda handed over, and called by the def that got it (the road is the library's, HandS.Lambda; here an exception's wish may tell of the caller's slots). -/
namespace EV
open PySem PySem.Spec PyProof.Rows L2 LamX RZ HT
section
variable {G : Gn} {X : Cx} {W : WX}
/-- a(), where a got the lambda -/
theorem act {CXg : CXT} {Eg : XK} {Ng : List Str} {qg : Str} {sg : Scope} {g f c' : Addr} {cdg pm ctv : Value} {params : Arguments} {body : Expr} {scope : Scope} {k : Nat} {a : Str} {pn : List (Addr × Obj)} {xe : Value → Shared → Prop} {W : WX} {tb : XK → TE} {p1 p2 : Pos}
    {pins : List (Addr × Obj)} {σ : L2.St} {H : Hp} {s : Shared}
    (I : Inv X pins σ H s) (L : LamS X.env.scope scope) (hf : s.heap.get? f = some (PySem.W.kla_obj "<lambda>" (X.env.qual ++ "<lambda>") params body scope (cloFrom X.env.cells scope.names []) pm c' ctv)) (hfn : H f = none) (hfr : f ∉ frs X.stack)
    (hbind : bindArgs (PySem.W.kla_fn "<lambda>" (X.env.qual ++ "<lambda>") params body scope (cloFrom X.env.cells scope.names []) pm (.ref c') ctv) ⟨[], []⟩ = pure [])
    (tk : L2.Takes ((cxOf CXg X.prog X.w X.K X.mg X.base Ng qg sg g cdg X.A X.stack s H Eg).tr pn xe) W) (hr : Room (k + 1) (X.A.deeper (envOfC qg sg s.heap.objs.size g cdg)))
    (hbody : ∀ (E : XK) (A : Around) (outer : List Env) (s : Shared) (H : Hp), Room k (A.deeper (lamEnv X scope s.heap.objs.size f c')) → PE (lamCx X A outer s H E scope f c') body (tb E))
    (hN : Ng[0]? = some a) (hv : Vis sg a) (hd : (a == ("__debug__" : Str)) = false) (hcd : (a == ("__classdict__" : Str)) = false) :
    PE ((cxOf CXg X.prog X.w X.K X.mg X.base Ng qg sg g cdg X.A X.stack s H Eg).tr pn xe) (.Call (.Name a p1) [] [] p2)
      (fun σZ HZ Q => σZ[0]? = some (some (.ref f)) ∧ HZ c' = some (CodeO c' (X.env.qual ++ "<lambda>")) ∧ tb (fun cls d H' => W cls d σZ H') σ HZ Q) := by
  refine ⟨fun pinsZ sZ σZ HZ Q IZ h => ?_⟩
  obtain ⟨hs, hc, ht⟩ := h
  refine wpAny_Call_Name_kw (thn ((pe_var (pos := p1) (i := 0) hN hv hd hcd).run pinsZ sZ σZ HZ (fun v H1 => v = .ref f ∧ H1 = HZ) IZ ⟨.ref f, hs, rfl, rfl⟩) fun u s1 ⟨v, H1, I1, r1, q1⟩ => ?_)
  obtain ⟨ev, eH⟩ := q1
  subst ev
  rw [eH] at I1
  obtain rfl : u = Value.ref f := r1
  have of1 : s1.heap.get? f = some (PySem.W.kla_obj "<lambda>" (X.env.qual ++ "<lambda>") params body scope (cloFrom X.env.cells scope.names []) pm c' ctv) := I1.base.keep f _ hf hfn hfr (fun z => nomatch (show f ∈ ([] : List Addr) from z))
  refine PySem.W.callWith_F0 ⟨_, _, _, _, of1⟩ ?_
  have un : Un (frs X.stack) [] H HZ s.heap s1.heap := I1.base
  obtain ⟨⟨oc, vs, t, hoc, hdc, hvc⟩, _, _⟩ := I1.hok c' _ hc
  have rc : codeAny (model X.prog X.w) (X.A.deeper (envOfC qg sg s.heap.objs.size g cdg)) (.call (.ref f) ⟨[], []⟩) (L2.CR (L2.CX X.prog X.w) (envOfC qg sg s.heap.objs.size g cdg :: X.stack) X.prog X.w HZ s1 Q (fun cls d H' => W cls d σZ H')) s1 := by
    refine PySem.W.kla_callFunE hr.depth of1 rfl L.co L.gen rfl ⟨c', oc, vs, t, rfl, hoc, hdc, hvc⟩ ?_
    rw [hbind]
    refine wpAny_pure (wpAny_newFunctionEnv (fun y hy => (L.own y hy).2) (fun y hy => absurd hy (by simp)) (fun h₁ hns hsb => ⟨I1.nolimit.fresh _ hsb, ?_⟩) L.kind)
    show codeAny _ _ (.expr body (lamEnv X scope s1.heap.objs.size f c')) _ _
    have kp : ∀ b o, s1.heap.get? b = some o → h₁.get? b = some o := fun b o e => hsb.extBut b o (Nat.ne_of_lt (Heap.lt_size e)) (Heap.get?_push_of_some _ e)
    have J : Inv (lamCx X (X.A.deeper (envOfC qg sg s.heap.objs.size g cdg)) (envOfC qg sg s.heap.objs.size g cdg :: X.stack) s1 HZ (fun cls d H' => W cls d σZ H') scope f c') [] σ HZ { s1 with heap := h₁, toks := s1.toks + ([] : List (Str × Value)).length } :=
      lam_start2 I L I1.env0 hr.hd un hns kp
    refine PySem.W.kla_codeExpr (wpAny_mono ((hbody _ _ _ s1 HZ (hr.deeper _)).run [] _ _ HZ Q J ht) (fun v s' hq => ?_) fun e s' hq => hq)
    obtain ⟨w', H', J', rv, q⟩ := hq
    exact ⟨w', H', J'.os, J'.bare, J'.base, J'.hok, rv, q⟩
  have hx := passAt tk σZ
  refine wpAny_call (codeAny_mono rc fun r s' hq => ?_)
  cases r with
  | error e => exact hx pinsZ HZ s1 e s' I1 hq
  | ok fl =>
    cases fl with
    | ret u => exact I1.after hq
    | next => exact False.elim hq
    | brk => exact False.elim hq
    | cont => exact False.elim hq
/-- what a step over new code objects and tables leaves -/
theorem Pt.exted {p : Pt} (h : p.ok G) {H1 : Hp} (e : ExtN p.H H1) (t1 : Tabs G.T H1) : Pt.ok G ⟨H1, p.N, p.S, p.α⟩ ∧ p.to ⟨H1, p.N, p.S, p.α⟩ := by
  have t : p.to ⟨H1, p.N, p.S, p.α⟩ := ⟨fun b o q _ nt => e b o q nt, fun b o q nt => ⟨o, e b o q nt, nt⟩, fun _ n => .inl n, fun _ n _ => n, fun _ l => .inl l, ⟨[], by simp⟩, fun _ _ z => .inl z⟩
  have c := t.car h
  refine ⟨⟨h.len, fun n x e1 => ?_, h.nd, fun b n => ?_, fun n a q => ?_, t1⟩, t⟩
  · obtain ⟨a, e2, e3, e4⟩ := h.cell n x e1
    obtain ⟨o, e5, nt⟩ := h.alv n a e2
    exact ⟨a, e2, e3, e4.mono c e5 (by show H1 a = p.H a; rw [e a o e5 nt, e5])⟩
  · obtain ⟨o, e5, nt⟩ := h.trk b n
    exact ⟨o, e b o e5 nt, nt⟩
  · obtain ⟨o, e5, nt⟩ := h.alv n a q
    exact ⟨o, e a o e5 nt, nt⟩
/-- x(lambda: body) -/
theorem snd_thunk {x a : Str} {g c P : Addr} {k : Nat} {pg : Arguments} {bg : List Stmt} {sg : Scope} {dV kV doc pm cdv ct oc : Value} {an od : Option Addr} {osl : Array (Option Value)} {Ng : List Str}
    {params : Arguments} {body : Expr} {scope : Scope} {p lpos pos : Pos} {xb : Env' → Store → Rs D} {xg : (Store → Rs D) → Env' → Store → Ro} (hK : X.K = G.K) (tk : L2.Takes X W) (hcx : G.cx = none) (hg : Gl X x) (hm : X.mg x = some (.ref g)) (hk : PySem.W.keepIn X.K (.ref g) = true)
    (lk : X.K.lookup g = some ⟨oc, od, .func (PySem.W.fnOf x x pg bg sg dV kV doc pm an cdv ct), osl⟩) (hcg : PySem.W.codeIn X.K cdv x = true) (hb : L2.Binds X.K (PySem.W.fnOf x x pg bg sg dV kV doc pm an cdv ct) [a] []) (Sg : FnScope Ng [a] sg) (hNg : Ng[0]? = some a) (hva : Vis sg a)
    (hG : ∀ (G' : Gn) (f c' : Addr) (p0 : Pt) (s : Shared) (H : Hp) (E : XK) (t : Store → Rs D), G'.toGb = G.toGb → G'.cx = none → G'.th = some ⟨f, c', X.env.qual ++ "<lambda>", p0⟩ → Room (k + 1) (X.A.deeper (envOfC x sg s.heap.objs.size g cdv)) →
      (∀ (W : WX) (pn : List (Addr × Obj)) (xe : Value → Shared → Prop) (p1 p2 : Pos), L2.Takes ((cxOf (L2.CX X.prog X.w) X.prog X.w X.K X.mg X.base Ng x sg g cdv X.A X.stack s H E).tr pn xe) W →
        PE ((cxOf (L2.CX X.prog X.w) X.prog X.w X.K X.mg X.base Ng x sg g cdv X.A X.stack s H E).tr pn xe) (.Call (.Name a p1) [] [] p2) (tE G' W fun _ S => t S)) →
      PSs (cxOf (L2.CX X.prog X.w) X.prog X.w X.K X.mg X.base Ng x sg g cdv X.A X.stack s H E) bg (tS G' (fun cls d _ H' => E cls d H') (xg t)))
    (TB : TabB X.base X.mg c P) (hcode : X.env.code = .ref c) (hmT : (P, X.env.qual ++ "<lambda>") ∈ G.T) (hu : ∀ p ∈ G.T, p.1 = P → p.2 = X.env.qual ++ "<lambda>") (hr : Room (k + 2) X.A) (L : LamS X.env.scope scope) (hdef : defaultsOf params X.env = ([], []))
    (hbind : ∀ (q : Str) (cl : List (Str × Addr)) (pm cv ctv : Value), bindArgs (PySem.W.kla_fn "<lambda>" q params body scope cl pm cv ctv) ⟨[], []⟩ = pure [])
    (hbody : ∀ (E : XK) (A : Around) (outer : List Env) (s : Shared) (H : Hp) (f c' : Addr), Room k (A.deeper (lamEnv X scope s.heap.objs.size f c')) → PE (lamCx X A outer s H E scope f c') body (tE G (fun cls d _ H' => E cls d H') xb))
    (hdb : (x == ("__debug__" : Str)) = false) (hd : (a == ("__debug__" : Str)) = false) (hcd : (a == ("__classdict__" : Str)) = false) :
    PE X (.Call (.Name x p) [.Lambda params body scope lpos] [] pos) (tE G W fun ρ S => bodyOf (xg (fun S' => xb ρ S') (List.replicate Ng.length none) S)) := by
  refine ⟨fun pins s σ H Q I h => ?_⟩
  obtain ⟨p0, ρ0, rfl, ok0, re0, z0⟩ := h
  refine wpAny_Call_Name_kw (ld_glob I hg hm ?_ hdb)
  refine PySem.W.callWith_K (h₀ := X.base) I.ok.mod.kin hk ?_ (by rfl) (by rfl)
  show wpAny _ _ (spliced ((false, eval (.Lambda params body scope lpos) X.env) :: backTo pos (starEach [] X.env))) _ _ s
  refine Calls.spliced_cons (lam_make2 I TB hcode hmT hu ok0.tab hdef (L.has I.ok) fun f c' pm' ctv H1 s' I1 eN T1 hf hfn hfr hco => ?_)
  refine Calls.spliced_nil ⟨I1.kIn, ?_⟩
  obtain ⟨ok1, to1⟩ := Pt.exted ok0 eN T1
  have z1 := z0.step ok0 to1
  have re1 := re0.mono ok0 to1
  have rc : codeAny (model X.prog X.w) X.A (.call (.ref g) ⟨[.ref f], []⟩) (L2.CR (L2.CX X.prog X.w) X.stack X.prog X.w H1 s' Q (fun cls d H' => W cls d σ H')) s' := by
    refine run_ofS (N := Ng) (ps := [a]) (us := [.ref f]) (vs := [.ref f]) lk hcg Sg hr I1.env0 (hb s' [.ref f] I1.kIn rfl) (.cons rfl .nil) rfl fun hr' => ?_
    refine ⟨_, hG { G with cx := none, th := some ⟨f, c', X.env.qual ++ "<lambda>", ⟨H1, p0.N, p0.S, p0.α⟩⟩ } f c' _ s' H1 _ (fun S' => xb ρ0 S') rfl rfl rfl hr' (fun W pn xe p1 p2 tk' => ?_), ?_⟩
    · refine PE.imp (act (tb := fun E => tE G (fun cls d _ H' => E cls d H') xb) I1 L hf hfn hfr (hbind _ _ _ _ _) tk' hr' (fun E A outer s H hr2 => hbody E A outer s H f c' hr2) hNg hva hd hcd) fun σZ HZ Q hh => ?_
      obtain ⟨p, ρ, rfl, ok, re, z⟩ := hh
      obtain ⟨h1, h2, h3⟩ := re.th _ rfl
      refine ⟨h1, h3.keep c' _ hco (fun l => ?_) (fun ps => codeO_ne ps), p, ρ0, rfl, ok, re1.mono ok1 h3, z⟩
      obtain ⟨n, cc, e1, e2⟩ := l
      obtain ⟨b, e3, _, e4⟩ := ok1.cell n cc e1
      have e2 : p0.α[n]? = some c' := e2
      have e3 : p0.α[n]? = some b := e3
      rw [e2] at e3; cases e3
      have hco : H1 c' = some (CodeO c' (X.env.qual ++ "<lambda>")) := hco
      unfold CodeO at hco
      cases cc with
      | lst ds => obtain ⟨xs, g, _⟩ := e4; rw [show H1 c' = _ from g] at hco; cases hco
      | dic ks ds => obtain ⟨xs, g, _⟩ := e4; rw [show H1 c' = _ from g] at hco; cases hco
      | obj k fs ds => obtain ⟨dx, xs, g, _⟩ := e4; rw [show H1 c' = _ from g] at hco; cases hco
    · refine ⟨⟨H1, p0.N, p0.S, p0.α⟩, List.replicate Ng.length none, rfl, ok1, ⟨?_, fun i d hd => ?_, fun c hc => (by cases hc), fun t ht => ?_⟩, ?_⟩
      · have hpl : 1 ≤ Ng.length := by have := (List.getElem?_eq_some_iff.mp hNg).1; omega
        simp [L2.start]
        omega
      · rw [List.getElem?_replicate] at hd
        split at hd <;> cases hd
      · cases ht
        exact ⟨by simp [L2.start], ok1, Pt.to.refl⟩
      · show PostS _ _ _ _ (xg (fun S' => xb ρ0 S') (List.replicate Ng.length none) p0.S)
        have z2 : Post G (RelD G) ⟨H1, p0.N, p0.S, p0.α⟩ (bodyOf (xg (fun S' => xb ρ0 S') (List.replicate Ng.length none) p0.S)) Q (fun c d H' => W c d σ H') := z1
        cases hx : xg (fun S' => xb ρ0 S') (List.replicate Ng.length none) p0.S with
        | stuck => rw [hx] at z2; exact z2.elim
        | exc ρ' c fs vs S' => rw [hx] at z2; exact fun σ' cls dd q hS hq ht _ xr => z2 cls dd q hS hq ht xr
        | fl fl S' =>
          rw [hx] at z2
          cases fl with
          | nx ρ' => exact fun σ' q hS hq ht _ => z2 .non q hS hq ht .non
          | rt d => exact fun v q hS hq ht hv => z2 v q hS hq ht hv
          | bk ρ' => exact z2.elim
          | ct ρ' => exact z2.elim
  have hx := passAt tk σ
  refine wpAny_call (codeAny_mono rc fun r s2 hq => ?_)
  cases r with
  | error e => exact hx pins H1 s' e s2 I1 hq
  | ok fl =>
    cases fl with
    | ret u => exact I1.after hq
    | next => exact False.elim hq
    | brk => exact False.elim hq
    | cont => exact False.elim hq
end
end EV
set_option Elab.async false
set_option linter.all false
set_option maxRecDepth 100000
/-! EV, part W: signs that tell by the values; dicts. -/
namespace EV
open PySem PySem.Spec PyProof.Rows L2 LamX RZ HT
section
variable {G : Gn} {X : Cx} {W : WX} {a b e : Expr} {xa xb xd : Env' → Store → Rs D} {pos : Pos} {live : Bool}
theorem PE.alt (ha : PE X e (tE G W xa)) (hb : PE X e (tE G W xb)) (h : ∀ ρ S, xd ρ S = xa ρ S ∨ xd ρ S = xb ρ S) : PE X e (tE G W xd) := by
  refine ⟨fun pins s σ H Q I q => ?_⟩
  obtain ⟨p, ρ, e1, ok, re, z⟩ := q
  rcases h ρ p.S with h | h
  · exact ha.run pins s σ H Q I ⟨p, ρ, e1, ok, re, h ▸ z⟩
  · exact hb.run pins s σ H Q I ⟨p, ρ, e1, ok, re, h ▸ z⟩
theorem PE.stuck : PE X e (tE G W fun _ _ => .stuck) := ⟨fun pins s σ H Q I ⟨_, _, _, _, _, z⟩ => z.elim⟩
theorem snd_addD (hK : X.K = G.K) (ha : PE X a (tE G W xa)) (hb : PE X b (tE G W xb)) :
    PE X (.BinOp a .Add b pos) (tE G W fun ρ S => (xa ρ S).bind fun x S1 => (xb ρ S1).bind fun y S2 => match lstOf S2 x, lstOf S2 y with
      | some xs, some ys => if xs.length + ys.length ≤ sizeLine then mkD live (.lst (xs ++ ys)) S2 else .stuck
      | _, _ => Rs.of S2 (o2 S2 .add x y)) := by
  refine PE.alt (snd_cat (live := live) ha hb) (snd_bin (ok2_add hK) ha hb) fun ρ S => ?_
  dsimp only [EV.mk]
  cases xa ρ S with
  | stuck => exact .inl rfl
  | exc _ _ _ _ => exact .inl rfl
  | ok x S1 =>
    simp only [Rs.bind_ok]
    cases xb ρ S1 with
    | stuck => exact .inl rfl
    | exc _ _ _ _ => exact .inl rfl
    | ok y S2 =>
      simp only [Rs.bind_ok]
      cases h1 : lstOf S2 x with
      | none => exact .inr rfl
      | some xs =>
        cases h2 : lstOf S2 y with
        | none => exact .inr rfl
        | some ys =>
          simp only
          by_cases hl : xs.length + ys.length ≤ sizeLine
          · rw [if_pos hl, if_pos hl]; exact .inl rfl
          · rw [if_neg hl, if_neg hl]; exact .inl rfl
theorem snd_mulD (hK : X.K = G.K) (ha : PE X a (tE G W xa)) (hb : PE X b (tE G W xb)) :
    PE X (.BinOp a .Mult b pos) (tE G W fun ρ S => (xa ρ S).bind fun x S1 => (xb ρ S1).bind fun y S2 => match lstOf S2 x, y with
      | some xs, .int k => if small62 k && decide (xs.length * k.toNat ≤ sizeLine) then mkD live (.lst (List.replicate k.toNat xs).flatten) S2 else .stuck
      | _, _ => Rs.of S2 (o2 S2 .mul x y)) := by
  refine PE.alt (snd_rep (live := live) ha hb) (snd_bin (ok2_mul hK) ha hb) fun ρ S => ?_
  dsimp only [EV.mk]
  cases xa ρ S with
  | stuck => exact .inl rfl
  | exc _ _ _ _ => exact .inl rfl
  | ok x S1 =>
    simp only [Rs.bind_ok]
    cases xb ρ S1 with
    | stuck => exact .inl rfl
    | exc _ _ _ _ => exact .inl rfl
    | ok y S2 =>
      simp only [Rs.bind_ok]
      cases h1 : lstOf S2 x with
      | none => exact .inr rfl
      | some xs =>
        cases y with
        | int k =>
          simp only
          split
          · exact .inl rfl
          · exact .inl rfl
        | _ => exact .inr rfl
theorem snd_slD {lo hi : Option Expr} {p2 : Pos} {xl xh : Env' → Store → Rs (Option Int)} (hK : X.K = G.K) (ha : PE X a (tE G W xa)) (hl : PO X lo (tP G W xl)) (hh : PO X hi (tP G W xh)) :
    PE X (.Subscript a (.Slice lo hi none p2) pos) (tE G W fun ρ S => (xa ρ S).bind fun x S1 => (xl ρ S1).bind fun l S2 => (xh ρ S2).bind fun h S3 => match lstOf S3 x with
      | some xs => mkD live (.lst (cutL xs l h)) S3
      | none => Rs.of S3 (slV S3 x l h)) := by
  refine PE.alt (snd_slL (live := live) hK ha hl hh) (snd_sl hK ha hl hh) fun ρ S => ?_
  dsimp only [EV.mk]
  cases xa ρ S with
  | stuck => exact .inl rfl
  | exc _ _ _ _ => exact .inl rfl
  | ok x S1 =>
    simp only [Rs.bind_ok]
    cases xl ρ S1 with
    | stuck => exact .inl rfl
    | exc _ _ _ _ => exact .inl rfl
    | ok l S2 =>
      simp only [Rs.bind_ok]
      cases xh ρ S2 with
      | stuck => exact .inl rfl
      | exc _ _ _ _ => exact .inl rfl
      | ok h S3 =>
        simp only [Rs.bind_ok]
        cases h1 : lstOf S3 x with
        | none => exact .inr rfl
        | some xs => exact .inl rfl
/-- xs[::-1] -/
theorem snd_revL {k : Nat} {p1 p2 p3 : Pos} (hK : X.K = G.K) (ha : PE X a (tE G W xa)) :
    PE X (.Subscript a (.Slice none none (some (.UnaryOp .USub (.Constant (.int 1) k p1) p2)) p3) pos) (tE G W fun ρ S => (xa ρ S).bind fun x S1 => match lstOf S1 x with
      | some xs => mkD live (.lst xs.reverse) S1
      | none => .stuck) := by
  refine PE.imp (pe_revL ha) fun σ H Q h => ?_
  obtain ⟨p0, ρ0, rfl, ok0, re0, z0⟩ := h
  refine ⟨p0, ρ0, rfl, ok0, re0, (Post.seq (Rel := RelD G) ok0 z0).imp fun x H1 ⟨d, p1, e1, ok1, t1, r1, z1⟩ => ?_⟩
  subst e1
  cases h1 : lstOf p1.S d with
  | none => rw [h1] at z1; exact z1.elim
  | some ds =>
    rw [h1] at z1
    obtain ⟨ad, ys, rfl, g1, r2⟩ := lst_at ok1 h1 r1
    exact ⟨ad, ys, rfl, SqL.of g1, fun l hl => made_list ok1 hl r2.rev z1⟩
/-! ### dicts -/
abbrev RelKV (G : Gb) : Pt → List (Key × D) → List (V × V) → Prop := fun p r ps => ∃ kvs : List (Key × V), ps = kvs.map (fun kv => (kV kv.1, kv.2)) ∧ kvs.map (·.1) = r.map (·.1) ∧ RVs G p.H p.N p.α (r.map (·.2)) (kvs.map (·.2))
def PKV (G : Gn) (X : Cx) (W : WX) (pos : Pos) (keys : List (Option Expr)) (values : List Expr) (x : Env' → Store → Rs (List (Key × D))) : Prop := ∃ trs, PPs X pos keys values trs ∧
  ∀ (σ : L2.St) (H : Hp) (Q : List (V × V) → Hp → Prop), (∃ p ρ, p.H = H ∧ p.ok G ∧ RE G p ρ σ ∧ Post G (RelKV G) p (x ρ p.S) Q (fun c d H' => W c d σ H')) → tPairs trs σ H Q
theorem pkv_nil : PKV G X W pos [] [] (fun _ S => .ok [] S) := ⟨[], pps_nil, fun σ H Q ⟨p, ρ, e, ok, re, z⟩ => by
  subst e
  exact z [] p rfl ok Pt.to.refl ⟨[], rfl, rfl, .nil⟩⟩
theorem pkv_cons {ks : List (Option Expr)} {vs : List Expr} {xr : Env' → Store → Rs (List (Key × D))} (ha : PE X a (tE G W xa)) (hb : PE X b (tE G W xb)) (hr : PKV G X W pos ks vs xr) :
    PKV G X W pos (some a :: ks) (b :: vs) (fun ρ S => (xa ρ S).bind fun x S1 => (xb ρ S1).bind fun y S2 => (xr ρ S2).bind fun r S3 => match keyOf x with
      | some q => .ok ((q, y) :: r) S3
      | none => .stuck) := by
  obtain ⟨trs, h1, h2⟩ := hr
  refine ⟨_, pps_cons ha hb h1, fun σ H Q ⟨p0, ρ0, e, ok0, re0, z0⟩ => ?_⟩
  subst e
  refine ⟨p0, ρ0, rfl, ok0, re0, (Post.seq (Rel := RelD G) ok0 z0).imp fun x H1 ⟨dx, p1, e1, ok1, t1, r1, z1⟩ => ?_⟩
  subst e1
  refine ⟨p1, ρ0, rfl, ok1, re0.mono ok0 t1, (Post.seq (Rel := RelD G) ok1 z1).imp fun y H2 ⟨dy, p2, e2, ok2, t2, r2, z2⟩ => ?_⟩
  subst e2
  refine h2 σ _ _ ⟨p2, ρ0, rfl, ok2, (re0.mono ok0 t1).mono ok1 t2, (Post.seq (Rel := RelKV G) ok2 z2).imp fun ps H3 ⟨r, p3, e3, ok3, t3, r3, z3⟩ => ?_⟩
  subst e3
  cases hk : keyOf dx with
  | none => rw [hk] at z3; exact z3.elim
  | some q =>
    rw [hk] at z3
    obtain ⟨kvs, rfl, k1, k2⟩ := r3
    have ex : x = kV q := keyOf_kV hk r1
    subst ex
    exact z3 _ p3 rfl ok3 Pt.to.refl ⟨(q, y) :: kvs, rfl, by simp [k1], .cons (t3.rv ok2 r2) k2⟩
theorem merge_rv {p : Pt} : ∀ {kvs more : List (Key × V)} {ks : List Key} {ds : List D} {r : List (Key × D)}, kvs.map (·.1) = ks → RVs G p.H p.N p.α ds (kvs.map (·.2)) → more.map (·.1) = r.map (·.1) → RVs G p.H p.N p.α (r.map (·.2)) (more.map (·.2)) →
    (mergeK kvs more).map (·.1) = (r.foldl (fun p kv => putKV p.1 p.2 kv.1 kv.2) (ks, ds)).1 ∧ RVs G p.H p.N p.α (r.foldl (fun p kv => putKV p.1 p.2 kv.1 kv.2) (ks, ds)).2 ((mergeK kvs more).map (·.2))
  | kvs, [], ks, ds, [], h1, h2, _, _ => ⟨h1, h2⟩
  | _, [], _, _, _ :: _, _, _, h3, _ => by cases h3
  | _, _ :: _, _, _, [], _, _, h3, _ => by cases h3
  | kvs, m :: more, ks, ds, q :: r, h1, h2, h3, h4 => by
    simp only [List.map_cons, List.cons.injEq] at h3
    cases h4 with
    | cons g1 g2 =>
      obtain ⟨i1, i2⟩ := putKV_rv (p := p) (q := q.1) g1 h1 h2
      have e : m.1 = q.1 := h3.1
      have hh : mergeK kvs (m :: more) = mergeK (putK kvs q.1 m.2) more := by
        show mergeK (putK kvs m.1 m.2) more = _
        rw [e]
      rw [hh]
      exact merge_rv (p := p) (kvs := putK kvs q.1 m.2) (more := more) (ks := (putKV ks ds q.1 q.2).1) (ds := (putKV ks ds q.1 q.2).2) (r := r) i1 i2 h3.2 g2
theorem snd_ddisp {keys : List (Option Expr)} {values : List Expr} {xk : Env' → Store → Rs (List (Key × D))} (h : PKV G X W pos keys values xk) (hall : keys.all (·.isSome) = true) (hl : keys.length = values.length) (h0 : keys ≠ []) (h15 : keys.length ≤ 15) :
    PE X (.Dict keys values pos) (tE G W (mk live fun ρ S => (xk ρ S).bind fun r S1 => if r.length ≤ 15 then .ok (.dic (r.foldl (fun p kv => putKV p.1 p.2 kv.1 kv.2) ([], [])).1 (r.foldl (fun p kv => putKV p.1 p.2 kv.1 kv.2) ([], [])).2) S1 else .stuck)) := by
  obtain ⟨trs, h1, h2⟩ := h
  refine PE.imp (pe_disp h1 hall hl h0 h15) fun σ H Q h => ?_
  obtain ⟨p0, ρ0, rfl, ok0, re0, z0⟩ := h
  intro A hA
  obtain ⟨s1, s2⟩ := Own.start (x := .dK []) ok0 (fun _ z => nomatch z) hA
  have re1 := re0.mono ok0 s2.to_
  refine h2 σ _ _ ⟨⟨upd p0.H A (.dK []), plus p0.N A, p0.S, p0.α⟩, ρ0, rfl, s1, re1, ?_⟩
  have z0 : Post G (RelD G) p0 (((xk ρ0 p0.S).bind fun r S1 => if r.length ≤ 15 then Rs.ok (Cell.dic (r.foldl (fun p kv => putKV p.1 p.2 kv.1 kv.2) ([], [])).1 (r.foldl (fun p kv => putKV p.1 p.2 kv.1 kv.2) ([], [])).2) S1 else .stuck).bind fun x S1 => if live then .ok (.ref S1.length) (S1 ++ [some x]) else .ok (toD x) S1) Q _ := z0
  show Post G (RelKV G) _ (xk ρ0 p0.S) _ _
  cases hx : xk ρ0 p0.S with
  | stuck => rw [hx] at z0; exact z0.elim
  | exc c fs vs S' => rw [hx] at z0; exact fun cls dd q hS hq ht xr => z0 cls dd q hS hq (s2.to_.trans ok0 ht) xr
  | ok r S' =>
    rw [hx] at z0
    simp only [Rs.bind_ok] at z0
    intro ps q hS hq ht hr
    subst hS
    obtain ⟨kvs, rfl, k1, k2⟩ := hr
    have hA2 : q.H A = some (.dK []) := s2.has ht upd_same fun _ z => nomatch z
    have ow := s2.step ok0 s1 ht
    refine ⟨hA2, kvs, rfl, ?_⟩
    by_cases hl : r.length ≤ 15
    · rw [if_pos hl] at z0
      simp only [Rs.bind_ok] at z0
      have hlk : kvs.length = r.length := by have := congrArg List.length k1; simpa using this
      refine ⟨by omega, ?_⟩
      obtain ⟨w1, w2, w3⟩ := Own.write (x' := .dK (mergeK [] kvs)) hq ow hA2 plain_dK (fun _ z => nomatch z)
      obtain ⟨m1, m2⟩ := merge_rv (p := ⟨upd q.H A (.dK (mergeK [] kvs)), q.N, q.S, q.α⟩) (kvs := []) (more := kvs) (ks := []) (ds := []) rfl .nil k1 (k2.mono w3)
      cases live with
      | false =>
        obtain ⟨f1, f2, f3⟩ := Own.free ok0 w1 w2
        exact z0 (.ref A) ⟨upd q.H A (.dK (mergeK [] kvs)), fun b => q.N b ∧ b ≠ A, q.S, q.α⟩ rfl f1 f2 (.dic (.inl upd_same) (fun n => n.2 rfl) m1 (m2.mono f3))
      | true =>
        obtain ⟨f1, f2, f3⟩ := Own.live (c := .dic (r.foldl (fun p kv => putKV p.1 p.2 kv.1 kv.2) ([], [])).1 (r.foldl (fun p kv => putKV p.1 p.2 kv.1 kv.2) ([], [])).2) ok0 w1 w2 fun c => ⟨mergeK [] kvs, upd_same, m1, m2.mono c⟩
        exact z0 (.ref A) ⟨upd q.H A (.dK (mergeK [] kvs)), q.N, q.S ++ [some (.dic (r.foldl (fun p kv => putKV p.1 p.2 kv.1 kv.2) ([], [])).1 (r.foldl (fun p kv => putKV p.1 p.2 kv.1 kv.2) ([], [])).2)], q.α ++ [A]⟩ rfl f1 f2 (.ref f3)
    · rw [if_neg hl] at z0
      exact z0.elim
theorem snd_ddisp0 : PE X (.Dict [] [] pos) (tE G W (mk live fun _ S => .ok (.dic [] []) S)) := by
  refine PE.imp pe_dnewK fun σ H Q h => ?_
  obtain ⟨p0, ρ0, rfl, ok0, re0, z0⟩ := h
  exact fun A hA => made_dict ok0 hA rfl .nil z0
end
end EV
set_option Elab.async false
set_option linter.all false
set_option maxRecDepth 100000
/-! EV, part X: what a text must be, so that the small syntax tells of it: the signs of it that are not by the evaluator. -/
namespace EV
open PySem PySem.Spec PyProof.Rows L2 LamX RZ HT
section
variable {G : Gn} {X : Cx} {W : WX} {a b e : Expr} {xa xb : Env' → Store → Rs D} {pos : Pos}
def baseB : Expr → Bool
  | .Call _ _ _ _ => false
  | _ => true
def baseC : Expr → Bool
  | .Call (.Name _ _) [] [] _ => false
  | _ => true
theorem base_ok {env : Env} {f : Str} (h : baseC e = true) : attributeBase e f env (eval e env) = eval e env := by
  unfold attributeBase
  split
  · rename_i id p pos2
    cases h
  · rfl
/-- truth is that of the value -/
def valB : Expr → Bool
  | .UnaryOp .Not _ _ => false
  | .BoolOp _ _ _ => false
  | .IfExp _ _ _ _ => false
  | .Compare _ _ _ _ => false
  | _ => true
theorem val_ok {env : Env} (h : valB e = true) (whole : Sem Value) : isTrue e env whole = (do let v ← whole; standAt e.pos; holding [v] (truthy v)) := by
  cases e with
  | UnaryOp op x p => cases op <;> first | rfl | cases h
  | BoolOp _ _ _ => cases h
  | IfExp _ _ _ _ => cases h
  | Compare _ _ _ _ => cases h
  | _ => rfl
def ixB : Expr → Bool
  | .Slice _ _ _ _ => false
  | _ => true
theorem ix_ok (h : ixB e = true) : PlainIx e := by
  intro o i
  cases e with
  | Slice _ _ _ _ => cases h
  | _ => rfl
def noSetB : Expr → Bool
  | .Set _ _ _ => false
  | _ => true
theorem fold_ok {env : Env} (h : noSetB e = true) (x : Value) : foldedSetIterable e env x = pure x := by
  cases e with
  | Set _ _ _ => cases h
  | _ => rfl
theorem marks_ok {op : CmpOp} (h : noSetB e = true) : behindInMarks op e = false := by
  cases e with
  | Set _ _ _ => cases h
  | _ => rfl
/-- a comparison, as a test -/
theorem snd_testcmp {op : CmpOp} {g : Store → D → D → Option D} (ho : Ok2 G X (compareOp op) g) (hbl : ∀ S x y d, g S x y = some d → ∃ b, d = .bl b) (hm : behindInMarks op b = false) (ha : PE X a (tE G W xa)) (hb : PE X b (tE G W xb)) :
    PT X (.Compare a [op] [b] pos) (tT G W (test fun ρ S => (xa ρ S).bind fun x S1 => (xb ρ S1).bind fun y S2 => Rs.of S2 (g S2 x y))) := by
  refine PT.imp (pt_cmpR (r := fun x y H Q => ∃ r, OpR X (compareOp op) r ∧ r x y H Q) op_any ha hb hm) fun σ H Q h => ?_
  obtain ⟨p0, ρ0, rfl, ok0, re0, z0⟩ := h
  have z0 : Post G RelB p0 (((xa ρ0 p0.S).bind fun x S1 => (xb ρ0 S1).bind fun y S2 => Rs.of S2 (g S2 x y)).bind fun d S1 => Rs.of S1 (truth S1 d)) Q (fun c d H' => W c d σ H') := z0
  refine ⟨p0, ρ0, rfl, ok0, re0, ?_⟩
  cases hx : xa ρ0 p0.S with
  | stuck => rw [hx] at z0; exact z0
  | exc c fs vs S' => rw [hx] at z0; exact z0
  | ok dx S1 =>
    rw [hx] at z0
    simp only [Rs.bind_ok] at z0
    intro x p1 hS ok1 t1 rx
    subst hS
    refine ⟨p1, ρ0, rfl, ok1, re0.mono ok0 t1, ?_⟩
    have z1 := z0.step ok0 t1
    cases hy : xb ρ0 p1.S with
    | stuck => rw [hy] at z1; exact z1
    | exc c fs vs S' => rw [hy] at z1; exact z1
    | ok dy S2 =>
      rw [hy] at z1
      simp only [Rs.bind_ok] at z1
      intro y p2 hS2 ok2 t2 ry
      subst hS2
      have z2 := z1.step ok1 t2
      cases hg : g p2.S dx dy with
      | none => rw [hg] at z2; exact z2.elim
      | some d =>
        rw [hg] at z2
        obtain ⟨bb, rfl⟩ := hbl _ _ _ _ hg
        refine ho p2 x y dx dy _ _ ok2 (t2.rv ok1 rx) ry hg fun v q hS hq ht hr => ?_
        cases hr with
        | bl => exact ⟨bb, rfl, z2 bb q hS hq ht rfl⟩
theorem snd_max2 {p : Pos} (hc : X.calm = true) (hg : Gl X "max") (hm : X.mg "max" = none) (hs : notStar a = true) (hs2 : notStar b = true) (ha : PE X a (tE G W xa)) (hb : PE X b (tE G W xb)) :
    PE X (.Call (.Name "max" p) [a, b] [] pos) (tE G W fun ρ S => (xa ρ S).bind fun x S1 => (xb ρ S1).bind fun y S2 => Rs.of S2 (o2 S2 .max2 x y)) := by
  refine PE.imp (pe_callB (call_max2 hc) hg hm rfl (pa_cons ha (pa_cons hb pa_nil (starEach_plain hs2)) (starEach_plain hs)) (by decide) (by decide) (starEach_plain hs) (noStars (es := [b]) (by simp [hs2]))) fun σ H Q h => ?_
  obtain ⟨p0, ρ0, rfl, ok0, re0, z0⟩ := h
  refine ⟨p0, ρ0, rfl, ok0, re0, (Post.seq (Rel := RelD G) ok0 z0).imp fun x H1 ⟨dx, p1, e1, ok1, t1, rx, z1⟩ => ?_⟩
  subst e1
  refine ⟨p1, ρ0, rfl, ok1, re0.mono ok0 t1, (Post.seq (Rel := RelD G) ok1 z1).imp fun y H2 ⟨dy, p2, e2, ok2, t2, ry, z2⟩ => ?_⟩
  subst e2
  cases rx with
  | int i => cases ry with
    | int j => exact ⟨i, j, rfl, Post.here (Rel := RelD G) z2 ok2 (.int _)⟩
    | _ => exact z2.elim
  | _ => exact z2.elim
theorem snd_min2 {p : Pos} (hc : X.calm = true) (hg : Gl X "min") (hm : X.mg "min" = none) (hs : notStar a = true) (hs2 : notStar b = true) (ha : PE X a (tE G W xa)) (hb : PE X b (tE G W xb)) :
    PE X (.Call (.Name "min" p) [a, b] [] pos) (tE G W fun ρ S => (xa ρ S).bind fun x S1 => (xb ρ S1).bind fun y S2 => Rs.of S2 (o2 S2 .min2 x y)) := by
  refine PE.imp (pe_callB (call_min2 hc) hg hm rfl (pa_cons ha (pa_cons hb pa_nil (starEach_plain hs2)) (starEach_plain hs)) (by decide) (by decide) (starEach_plain hs) (noStars (es := [b]) (by simp [hs2]))) fun σ H Q h => ?_
  obtain ⟨p0, ρ0, rfl, ok0, re0, z0⟩ := h
  refine ⟨p0, ρ0, rfl, ok0, re0, (Post.seq (Rel := RelD G) ok0 z0).imp fun x H1 ⟨dx, p1, e1, ok1, t1, rx, z1⟩ => ?_⟩
  subst e1
  refine ⟨p1, ρ0, rfl, ok1, re0.mono ok0 t1, (Post.seq (Rel := RelD G) ok1 z1).imp fun y H2 ⟨dy, p2, e2, ok2, t2, ry, z2⟩ => ?_⟩
  subst e2
  cases rx with
  | int i => cases ry with
    | int j => exact ⟨i, j, rfl, Post.here (Rel := RelD G) z2 ok2 (.int _)⟩
    | _ => exact z2.elim
  | _ => exact z2.elim
theorem form_ok {es : List Expr} {env : Env} {p : Pos} (hs : es.all notStar = true) (hl : es.length < 30) : methodCallForm (es.length + ([] : List Keyword).length) (backTo p (starEach es env)) (backToKw p (keywordEach [] env)) = true := by
  unfold methodCallForm
  have h1 : (backTo p (starEach es env)).all (fun x => !x.1) = true := by
    have := noStars (pos := p) (env := env) hs
    rw [List.any_eq_false] at this
    rw [List.all_eq_true]
    intro x hx
    have := this x hx
    simpa using this
  rw [h1]
  show (true && true && decide (es.length + 0 + 0 < 30)) = true
  simpa using hl
theorem meth_eq {es : List Expr} {env : Env} {m : Str} {p pos : Pos} (hs : es.all notStar = true) (hl : es.length < 30) (hb : baseC e = true) (hline : p.endLine = pos.line) :
    eval (.Call (.Attribute e m p) es [] pos) env = (do
      let ov ← eval e env
      standAt p.atName
      let (f, first) ← holding [ov] (getMethod ov m (do return (← importBound e env).getD true))
      callWith pos f first (backTo pos (starEach es env)) (backToKw pos (keywordEach [] env))) := by
  have hf := form_ok (env := env) (p := pos) hs hl
  have key : ∀ ov, methodCall e m p pos env ov (es.length + ([] : List Keyword).length) (backTo pos (starEach es env)) (backToKw pos (keywordEach [] env)) = (do
      let (f, first) ← holding [ov] (getMethod ov m (do return (← importBound e env).getD true))
      callWith pos f first (backTo pos (starEach es env)) (backToKw pos (keywordEach [] env))) := fun ov => by
    unfold methodCall calleeOf methodCallPos
    rw [hf]
    have : (p.endLine == pos.line) = true := by simpa using hline
    rw [this]
    rfl
  show (do
    let ov ← attributeBase e m env (eval e env)
    standAt p.atName
    methodCall e m p pos env ov (es.length + ([] : List Keyword).length) (backTo pos (starEach es env)) (backToKw pos (keywordEach [] env))) = _
  rw [base_ok hb]
  simp only [key]
theorem pw_of {op : BoolOp} {vs : List Expr} {p : Pos} {t : TT} (h : PT X (.BoolOp op vs p) t) : PW X (.BoolOp op vs p) t := ⟨fun _ pins s σ H Q I q => h.run pins s σ H Q I q⟩
end
end EV
set_option Elab.async false
set_option linter.all false
set_option maxRecDepth 100000
/-! EV, part Y: whether the small syntax stands for a text. -/
namespace EV
open PySem PySem.Spec PyProof.Rows L2 LamX RZ HT
/-- the program's names, by number -/
structure PF where
  fnN : Nat → Option Str
  fa : Nat → Addr
  clN : Nat → Option Str
  glN : Nat → Option Str
  fld : Nat → Str
  tyN : List (Str × Ty)
  tys : List Ty
  bi : List Str
  thN : Nat → Option Str
  exN : Nat → Option Str
/-- what is known of the place -/
structure Sx where
  N : List Str
  names : List (Str × NameKind)
  hot : Bool := false
  all : Bool := true
  fnc : List Str := []
  ex : Option Nat := none
  lk : Bool := false
  th : Option Str := none
  lam : Bool := false
def fakeSc (S : Sx) : Scope := { kind := .function, names := S.names, isGenerator := false, isCoroutine := false }
def plainN (x : Str) : Bool := !(x == ("__debug__" : Str)) && !(x == ("__classdict__" : Str)) && !(decide (x = ("__name__" : Str)))
def visB (S : Sx) (i : Nat) (x : Str) : Bool := decide (S.N[i]? = some x) && (decide (S.names.lookup x = some .local) || decide (S.names.lookup x = some .cell) || decide (S.names.lookup x = some .free)) && plainN x
def glB (S : Sx) (x : Str) : Bool := decide (S.names.lookup x = some .globalImplicit) && plainN x
def biB (P : PF) (S : Sx) (x : Str) : Bool := glB S x && decide (x ∈ P.bi)
def okB (S : Sx) (i : Nat) : Bool := decide (S.ex ≠ some i) && (!S.lk || decide (i ≠ 0))
def tgB (S : Sx) (i : Nat) (x : Str) : Bool := decide (S.N[i]? = some x) && (decide (S.names.lookup x = some .local) || (decide (S.names.lookup x = some .cell) && (S.all || decide (x ∈ S.fnc)))) && plainN x && okB S i
def constB : D → Const → Bool
  | .non, .none => true
  | .bl b, .bool c => b == c
  | .int i, .int j => decide (i = j)
  | .str s, .str t => decide (s = t)
  | _, _ => false
def o1N : O1 → Option Str
  | .len => some "len" | .tuple => some "tuple" | .int => some "int" | .str => some "str" | .sum => some "sum" | .all => some "all" | .any => some "any" | .abs => some "abs"
  | .neg => none
def o1hot : O1 → Bool
  | .sum | .all | .any => true
  | _ => false
def bop : O2 → Option Operator
  | .add => some .Add | .sub => some .Sub | .mul => some .Mult | .fdiv => some .FloorDiv | .mod => some .Mod | .pow => some .Pow
  | _ => none
def cop : O2 → Option CmpOp
  | .eq => some .Eq | .ne => some .NotEq | .lt => some .Lt | .le => some .LtE | .gt => some .Gt | .ge => some .GtE | .in_ => some .In | .nin => some .NotIn | .is_ => some .Is | .isn => some .IsNot
  | _ => none
def isCmpB : Expr → Bool
  | .Compare _ _ _ _ => true
  | _ => false
def tyB (P : PF) (S : Sx) : List Expr → List Ty → Bool
  | [], [] => true
  | .Name x _ :: es, t :: ts => glB S x && decide (P.tyN.lookup x = some t) && tyB P S es ts
  | _, _ => false
def blkS (S : Sx) (scope : Scope) : Sx := { S with names := (relS scope (fakeSc S)).names, all := false, fnc := scope.names.filterMap fun y => if y.2 = .cell then some y.1 else none, th := none, lam := false }
def lamS (S : Sx) (scope : Scope) : Sx := { S with names := scope.names, all := false, fnc := [], th := none, lam := false, hot := false, ex := none }
def noParB (a : Arguments) : Bool := match a with
  | { posonlyargs := [], args := [], vararg := none, kwonlyargs := [], kw_defaults := [], kwarg := none, defaults := [] } => true
  | _ => false
def ownN (S : Sx) (own : List Nat) : List (Str × Nat) := own.map fun i => ((S.N[i]?).getD "", i)
mutual
def chkG (S : Sx) : MT → Expr → Bool
  | .v i, e => (match e with
    | .Name x _ => tgB S i x
    | _ => false)
  | .t ts, e => (match e with
    | .Tuple es _ _ => chkGs S ts es
    | _ => false)
def chkGs (S : Sx) : MTs → List Expr → Bool
  | .nil, es => (match es with
    | [] => true
    | _ => false)
  | .cons t ts, es => (match es with
    | e :: es => notStar e && chkG S t e && chkGs S ts es
    | [] => false)
end
mutual
/-- m stands for e; t: as a test -/
def chk (P : PF) (S : Sx) (t : Bool) : ME → Expr → Bool
  | .c d, e => (!t || valB e) && (match e with
    | .Constant c _ _ => constB d c
    | _ => false)
  | .v i, e => (!t || valB e) && (match e with
    | .Name x _ => visB S i x
    | _ => false)
  | .g n, e => (!t || valB e) && (match e with
    | .Name x _ => glB S x && decide (P.glN n = some x)
    | _ => false)
  | .o1 o a, e => (!t || valB e) && (match e with
    | .UnaryOp .USub x _ => decide (o = .neg) && chk P S false a x
    | .Call (.Name f _) [x] [] _ => biB P S f && decide (o1N o = some f) && notStar x && (!o1hot o || !S.hot) && chk P S false a x
    | _ => false)
  | .o2 o a b, e => (!t || valB e || isCmpB e) && (match e with
    | .BinOp x op y _ => decide (bop o = some op) && chk P S false a x && chk P S false b y
    | .Compare x [op] [y] _ => decide (cop o = some op) && noSetB y && chk P S false a x && chk P S false b y
    | .Subscript x y _ => decide (o = .idx) && ixB y && chk P S false a x && chk P S false b y
    | .Call (.Name f _) [x, y] [] _ => biB P S f && ((decide (o = .max2) && decide (f = ("max" : Str))) || (decide (o = .min2) && decide (f = ("min" : Str)))) && notStar x && notStar y && !S.hot && chk P S false a x && chk P S false b y
    | _ => false)
  | .isi a ts, e => (!t || valB e) && (match e with
    | .Call (.Name f _) [x, y] [] _ => biB P S f && decide (f = ("isinstance" : Str)) && notStar x && chk P S false a x && (match y with
      | .Tuple bs _ _ => tyB P S bs ts && decide (ts.length ≤ 100)
      | y => tyB P S [y] ts)
    | _ => false)
  | .and_ a b, e => (match e with
    | .BoolOp .And (x :: y :: r) p => chk P S t a x && (match r with
      | [] => chk P S t b y
      | z :: r => chk P S t b (.BoolOp .And (y :: z :: r) p))
    | _ => false)
  | .or_ a b, e => (match e with
    | .BoolOp .Or (x :: y :: r) p => chk P S t a x && (match r with
      | [] => chk P S t b y
      | z :: r => chk P S t b (.BoolOp .Or (y :: z :: r) p))
    | _ => false)
  | .not_ a, e => (match e with
    | .UnaryOp .Not x _ => chk P S t a x
    | _ => false)
  | .ite c a b, e => !t && (match e with
    | .IfExp x y z _ => chk P S true c x && chk P S false a y && chk P S false b z
    | _ => false)
  | .tup es, e => (!t || valB e) && (match e with
    | .Tuple xs _ _ => chkA P S es xs
    | _ => false)
  | .mk _ m, e => (!t || valB e) && chkC P S m e
  | .addD _ a b, e => (!t || valB e) && (match e with
    | .BinOp x .Add y _ => chk P S false a x && chk P S false b y
    | _ => false)
  | .mulD _ a b, e => (!t || valB e) && (match e with
    | .BinOp x .Mult y _ => chk P S false a x && chk P S false b y
    | _ => false)
  | .slD _ a lo hi, e => (!t || valB e) && (match e with
    | .Subscript x (.Slice l h none _) _ => chk P S false a x && chkO P S lo l && chkO P S hi h
    | _ => false)
  | .revL _ a, e => (!t || valB e) && (match e with
    | .Subscript x (.Slice none none (some (.UnaryOp .USub (.Constant (.int i) _ _) _)) _) _ => decide (i = 1) && chk P S false a x
    | _ => false)
  | .att a f, e => (!t || valB e) && (match e with
    | .Attribute x g _ => decide (g = P.fld f) && baseC x && chk P S false a x
    | _ => false)
  | .call f args, e => (!t || valB e) && (match e with
    | .Call (.Name x _) es [] _ => glB S x && decide (P.fnN f = some x) && !S.hot && chkA P S args es
    | _ => false)
  | .new c args, e => (!t || valB e) && (match e with
    | .Call (.Name x _) es [] _ => glB S x && decide (P.clN c = some x) && !S.hot && chkA P S args es
    | _ => false)
  | .meth a m args, e => (!t || valB e) && (match e with
    | .Call (.Attribute x g p) es [] q => decide (g = P.fld m) && baseC x && !S.hot && decide (p.endLine = q.line) && decide (es.length < 30) && chk P S false a x && chkA P S args es
    | _ => false)
  | .mut o a args, e => (!t || valB e) && (match e with
    | .Call (.Attribute x g p) es [] q => baseC x && decide (p.endLine = q.line) && chk P S false a x && chkA P S args es && (match o, es with
      | .append, [_] => decide (g = ("append" : Str))
      | .extend, [_] => decide (g = ("extend" : Str))
      | .pop0, [] => decide (g = ("pop" : Str))
      | .pop1, [_] => decide (g = ("pop" : Str))
      | _, _ => false)
    | _ => false)
  | .thunk f m, e => (!t || valB e) && (match e with
    | .Call (.Name x _) [.Lambda params b scope _] [] _ => S.lam && !S.hot && S.ex.isNone && glB S x && decide (P.thN f = some x) && lamSB (fakeSc S) scope && noParB params && chk P (lamS S scope) false m b
    | _ => false)
  | .callP, e => (!t || valB e) && (match e with
    | .Call (.Name x _) [] [] _ => decide (S.th = some x)
    | _ => false)
  | .exf f, e => (!t || valB e) && (match e with
    | .Attribute (.Name x _) g _ => decide (g = P.fld f) && (match S.ex with
      | some i => visB S i x
      | none => false)
    | _ => false)
  | .bad, _ => true
def chkA (P : PF) (S : Sx) : MEs → List Expr → Bool
  | .nil, es => (match es with
    | [] => true
    | _ => false)
  | .cons m ms, es => (match es with
    | e :: es => notStar e && chk P S false m e && chkA P S ms es
    | [] => false)
def chkK (P : PF) (S : Sx) : MKs → List (Option Expr) → List Expr → Bool
  | .nil, ks, vs => (match ks, vs with
    | [], [] => true
    | _, _ => false)
  | .cons k v r, ks, vs => (match ks, vs with
    | some a :: ks, b :: vs => chk P S false k a && chk P S false v b && chkK P S r ks vs
    | _, _ => false)
def chkO (P : PF) (S : Sx) : MO → Option Expr → Bool
  | .none, o => (match o with
    | none => true
    | some _ => false)
  | .some m, o => (match o with
    | some e => chk P S false m e
    | none => false)
def chkF (P : PF) (S : Sx) : MO → List Expr → Bool
  | .none, o => (match o with
    | [] => true
    | _ => false)
  | .some m, o => (match o with
    | [e] => chk P S true m e
    | _ => false)
def chkC (P : PF) (S : Sx) : MC → Expr → Bool
  | .disp es, e => (match e with
    | .List xs _ => chkA P S es xs
    | _ => false)
  | .lof a, e => (match e with
    | .Call (.Name f _) [x] [] _ => biB P S f && decide (f = ("list" : Str)) && notStar x && chk P S false a x
    | _ => false)
  | .ddisp kvs, e => (match e with
    | .Dict ks vs _ => chkK P S kvs ks vs && decide (ks.length ≤ 15)
    | _ => false)
  | .split a b, e => (match e with
    | .Call (.Attribute x g p) [y] [] q => decide (g = ("split" : Str)) && baseC x && decide (p.endLine = q.line) && notStar y && chk P S false a x && chk P S false b y
    | _ => false)
  | .comp elt tg it cond own, e => (match e with
    | .ListComp x [g] scope _ => !S.hot && S.ex.isNone && decide (g.is_async = 0) && noSetB g.iter && chkI P S it g.target g.iter && blkC S.N (fakeSc S) scope (ownN S own) && decide (∀ i ∈ varsT tg, i ∈ own) && own.all (okB S) &&
        chkG (blkS S scope) tg g.target && chkF P (blkS S scope) cond g.ifs && chk P (blkS S scope) false elt x
    | _ => false)
def chkI (P : PF) (S : Sx) : MI → Expr → Expr → Bool
  | .e a, _, e => chk P S false a e
  | .range1 a, _, e => (match e with
    | .Call (.Name f _) [x] [] _ => biB P S f && decide (f = ("range" : Str)) && notStar x && chk P S false a x
    | _ => false)
  | .range2 a b, _, e => (match e with
    | .Call (.Name f _) [x, y] [] _ => biB P S f && decide (f = ("range" : Str)) && notStar x && notStar y && chk P S false a x && chk P S false b y
    | _ => false)
  | .enum a, tg, e => (match tg, e with
    | .Tuple _ _ _, .Call (.Name f _) [x] [] _ => biB P S f && decide (f = ("enumerate" : Str)) && notStar x && chk P S false a x
    | _, _ => false)
  | .zip a b, tg, e => (match tg, e with
    | .Tuple _ _ _, .Call (.Name f _) [x, y] [] _ => biB P S f && decide (f = ("zip" : Str)) && notStar x && notStar y && chk P S false a x && chk P S false b y
    | _, _ => false)
end
end EV
set_option Elab.async false
set_option linter.all false
set_option maxRecDepth 100000
/-! EV, part Z: what stands for a text tells of it: expressions. -/
namespace EV
open PySem PySem.Spec PyProof.Rows L2 LamX RZ HT
/-- what the place must be -/
structure CxF0 (X : Cx) (G : Gn) (W : WX) (E : Ec) (P : PF) (S : Sx) : Prop where
  N : X.N = S.N
  nd : X.N.Nodup
  names : X.env.scope.names = S.names
  kind : X.env.scope.kind = .function
  K : X.K = G.K
  fld : G.fld = P.fld
  calm : S.hot = false → X.calm = true
  un : X.A.units + 65 < cLine
  tk : L2.Takes X W
  bi : ∀ x ∈ P.bi, X.mg x = none
  fn : S.hot = false → ∀ f x, P.fnN f = some x → X.mg x = some (.ref (P.fa f)) ∧ PySem.W.keepIn X.K (.ref (P.fa f)) = true ∧ ∀ m, Callee X G (P.fa f) (E.P.many f) (E.fn f) (E.P.dfl f m)
  me : S.hot = false → ∀ m c f, E.P.meth c m = some f → E.P.cls c = true ∧ L2.Meth G.K (G.cls c) (G.fld m) (P.fa f) ∧ ∀ i, Callee X G (P.fa f) (E.P.many f) (E.fn f) (E.P.dfl f i)
  nw : S.hot = false → ∀ c x, P.clN c = some x → ∃ f, E.P.init c = some f ∧ X.mg x = some (.ref (G.cls c)) ∧ PySem.W.keepIn X.K (.ref (G.cls c)) = true ∧ ∀ i, Maker X G (G.cls c) (E.P.many f) (E.fn f) (E.P.dfl f i)
  gl : ∀ n x, P.glN n = some x → ∃ v u, X.mg x = some u ∧ RelV v u ∧ ∀ (p : Pt) (d : D), E.P.glob n = some d → RV G p.H p.N p.α d v
  CF : ClsF G E.P.cls E.P.fok
  KF : KitF G E.P.cls P.tys
  ty : ∀ x t, P.tyN.lookup x = some t → t ∈ P.tys ∧ ∃ u, RelV (tyW G t) u ∧ (X.mg x = some u ∨ (X.mg x = none ∧ bootBuiltins x = some u))
  ex : ∀ i x f p1 p2, S.ex = some i → visB S i x = true → PE X (.Attribute (.Name x p2) (P.fld f) p1) (tE G W (ev E (.exf f)))
  th : ∀ x p1 p2 W' pn xe, S.th = some x → L2.Takes (X.tr pn xe) W' → PE (X.tr pn xe) (.Call (.Name x p1) [] [] p2) (tE G W' (ev E .callP))
  fnc : ∀ x, S.all = true ∨ x ∈ S.fnc → X.fn x = true
  ok : ∀ i, okB S i = true → G.okS i
structure CxF (X : Cx) (G : Gn) (W : WX) (E : Ec) (P : PF) (S : Sx) : Prop extends CxF0 X G W E P S where
  lm : S.lam = true → S.hot = false → ∀ (W' : WX) (pn : List (Addr × Obj)) (xe : Value → Shared → Prop), L2.Takes (X.tr pn xe) W' → ∀ (f : Nat) (x : Str) (m : ME) (scope : Scope) (b : Expr) (params : Arguments) (p lpos pos : Pos),
    P.thN f = some x → glB S x = true → LamS X.env.scope scope → noParB params = true → (∀ X' W'', CxF0 X' G W'' E P (lamS S scope) → PE X' b (tE G W'' (ev E m))) → PE (X.tr pn xe) (.Call (.Name x p) [.Lambda params b scope lpos] [] pos) (tE G W' (ev E (.thunk f m)))
section
variable {X : Cx} {G : Gn} {W : WX} {E : Ec} {P : PF} {S : Sx} {e : Expr}
def Tells (X : Cx) (G : Gn) (W : WX) (t : Bool) (e : Expr) (x : Env' → Store → Rs D) : Prop := match t with
  | false => PE X e (tE G W x)
  | true => PT X e (tT G W (test x))
theorem Tells.of {t : Bool} {x : Env' → Store → Rs D} (F : CxF X G W E P S) (hv : (!t || valB e) = true) (h : PE X e (tE G W x)) : Tells X G W t e x := by
  cases t with
  | false => exact h
  | true => exact snd_test F.K (fun whole => val_ok (by simpa using hv) whole) h
theorem plain_of {x : Str} (h : plainN x = true) : (x == ("__debug__" : Str)) = false ∧ (x == ("__classdict__" : Str)) = false ∧ x ≠ ("__name__" : Str) := by
  unfold plainN at h
  simp only [Bool.and_eq_true, Bool.not_eq_true', decide_eq_false_iff_not] at h
  exact ⟨h.1.1, h.1.2, h.2⟩
theorem CxF.vis (F : CxF X G W E P S) {i : Nat} {x : Str} (h : visB S i x = true) : X.N[i]? = some x ∧ Vis X.env.scope x ∧ (x == ("__debug__" : Str)) = false ∧ (x == ("__classdict__" : Str)) = false := by
  unfold visB at h
  simp only [Bool.and_eq_true, Bool.or_eq_true, decide_eq_true_eq] at h
  obtain ⟨⟨h1, h2⟩, h3⟩ := h
  obtain ⟨k1, k2, _⟩ := plain_of h3
  refine ⟨by rw [F.N]; exact h1, ?_, k1, k2⟩
  unfold Vis
  rw [F.names]
  rcases h2 with (h2 | h2) | h2
  · exact .inl h2
  · exact .inr (.inl h2)
  · exact .inr (.inr h2)
theorem CxF.glo (F : CxF X G W E P S) {x : Str} (h : glB S x = true) : Gl X x ∧ (x == ("__debug__" : Str)) = false ∧ x ≠ ("__name__" : Str) := by
  unfold glB at h
  simp only [Bool.and_eq_true, decide_eq_true_eq] at h
  obtain ⟨k1, _, k3⟩ := plain_of h.2
  refine ⟨?_, k1, k3⟩
  show X.env.scope.names.lookup x = _
  rw [F.names]
  exact h.1
theorem CxF.bif (F : CxF X G W E P S) {x : Str} (h : biB P S x = true) : Gl X x ∧ X.mg x = none ∧ (x == ("__debug__" : Str)) = false ∧ x ≠ ("__name__" : Str) := by
  unfold biB at h
  simp only [Bool.and_eq_true, decide_eq_true_eq] at h
  obtain ⟨k1, k2, k3⟩ := F.glo h.1
  exact ⟨k1, F.bi x h.2, k2, k3⟩
theorem CxF.tgt (F : CxF X G W E P S) {i : Nat} {x : Str} (h : tgB S i x = true) : X.N[i]? = some x ∧ Loc X.env.scope x ∧ (X.fn x = true ∨ X.env.scope.names.lookup x = some .local) ∧ G.okS i := by
  unfold tgB at h
  simp only [Bool.and_eq_true, Bool.or_eq_true, decide_eq_true_eq] at h
  obtain ⟨⟨⟨h1, h2⟩, h3⟩, h4⟩ := h
  refine ⟨by rw [F.N]; exact h1, ?_, ?_, F.ok i h4⟩
  · unfold L2.Loc
    rw [F.names]
    rcases h2 with h2 | h2
    · exact .inl h2
    · exact .inr h2.1
  · rw [F.names]
    rcases h2 with h2 | h2
    · exact .inr h2
    · exact .inl (F.fnc x h2.2)
theorem const_rv {d : D} {c : Const} (h : constB d c = true) {j : Nat} {pos : Pos} : ∃ v, PE X (.Constant c j pos) (tC v) ∧ ∀ p : Pt, RV G p.H p.N p.α d v := by
  cases d with
  | non => cases c <;> first | exact ⟨.non, pe_non, fun p => .non⟩ | cases h
  | bl b =>
    cases c with
    | bool b' =>
      have : b = b' := by simpa [constB] using h
      subst this
      exact ⟨.bl b, pe_bl, fun p => .bl b⟩
    | _ => cases h
  | int i =>
    cases c with
    | int i' =>
      have : i = i' := by simpa [constB] using h
      subst this
      exact ⟨.int i, pe_int, fun p => .int i⟩
    | _ => cases h
  | str s =>
    cases c with
    | str s' =>
      have : s = s' := by simpa [constB] using h
      subst this
      exact ⟨.str s, pe_str, fun p => .str s⟩
    | _ => cases h
  | _ => cases c <;> cases h
theorem ok_bop (F : CxF X G W E P S) {o : O2} {op : Operator} (h : bop o = some op) : Ok2 G X (binaryOp op) (fun S => o2 S o) := by
  cases o <;> first | (cases h; done) | (cases h; first | exact ok2_add F.K | exact ok2_sub | exact ok2_mul F.K | exact ok2_fdiv | exact ok2_mod | exact ok2_pow)
theorem ok_cop (F : CxF X G W E P S) {o : O2} {op : CmpOp} (h : cop o = some op) : Ok2 G X (compareOp op) (fun S => o2 S o) ∧ ∀ S x y d, o2 S o x y = some d → ∃ b, d = .bl b := by
  have hu := F.un
  have map_bl : ∀ {α : Type} {f : α → Bool} {oo : Option α} {d : D}, (oo.map fun r => D.bl (f r)) = some d → ∃ b, d = .bl b := fun {α f oo d} h => by
    cases oo with
    | none => cases h
    | some r => cases h; exact ⟨_, rfl⟩
  cases o <;> first | (cases h; done) | cases h
  · exact ⟨ok2_eq F.K (by omega), fun S x y d h => map_bl (f := id) h⟩
  · exact ⟨ok2_ne F.K (by omega), fun S x y d h => map_bl h⟩
  · exact ⟨ok2_lt, fun S x y d h => by cases x <;> cases y <;> first | (cases h; exact ⟨_, rfl⟩) | cases h⟩
  · exact ⟨ok2_le, fun S x y d h => by cases x <;> cases y <;> first | (cases h; exact ⟨_, rfl⟩) | cases h⟩
  · exact ⟨ok2_gt, fun S x y d h => by cases x <;> cases y <;> first | (cases h; exact ⟨_, rfl⟩) | cases h⟩
  · exact ⟨ok2_ge, fun S x y d h => by cases x <;> cases y <;> first | (cases h; exact ⟨_, rfl⟩) | cases h⟩
  · exact ⟨ok2_in F.K (by omega), fun S x y d h => map_bl (f := id) h⟩
  · exact ⟨ok2_nin F.K (by omega), fun S x y d h => map_bl h⟩
  · exact ⟨ok2_is, fun S x y d h => map_bl (f := id) h⟩
  · exact ⟨ok2_isn, fun S x y d h => map_bl h⟩
theorem snd_o1 (F : CxF X G W E P S) {o : O1} {f : Str} {x : Expr} {p pos : Pos} {xa : Env' → Store → Rs D} (hb : biB P S f = true) (hn : o1N o = some f) (hs : notStar x = true) (hh : (!o1hot o || !S.hot) = true) (ha : PE X x (tE G W xa)) :
    PE X (.Call (.Name f p) [x] [] pos) (tE G W fun ρ S => (xa ρ S).bind fun x S1 => Rs.of S1 (o1 S1 o x)) := by
  obtain ⟨k1, k2, k3, k4⟩ := F.bif hb
  have bl : ∀ {id : String}, bootBuiltins f = some (.builtin id) → ∀ {r : List V → Hp → VK → Prop}, CallR X (.builtin id) r → PE X (.Call (.Name f p) [x] [] pos) (tCB r (tCons (tE G W xa) tNil)) := fun hv => @fun r hr => pe_callB hr k1 k2 hv (pa_cons ha pa_nil (starEach_plain hs)) k4 k3 (starEach_plain hs) rfl
  have ty : ∀ {id : String}, bootBuiltins f = some (.type id) → ∀ {r : List V → Hp → VK → Prop}, CallR X (.type id) r → PE X (.Call (.Name f p) [x] [] pos) (tCB r (tCons (tE G W xa) tNil)) := fun hv => @fun r hr => pe_callTy hr k1 k2 hv (pa_cons ha pa_nil (starEach_plain hs)) k4 k3 (starEach_plain hs) rfl
  have cm : o1hot o = true → X.calm = true := fun z => F.calm (by rw [z] at hh; simpa using hh)
  cases o <;> first | (cases hn; done) | cases hn
  · exact snd_call1 (okc_len F.K) (bl rfl)
  · exact snd_call1 (okc_tuple F.K) (ty rfl)
  · exact snd_call1 okc_int (ty rfl)
  · exact snd_call1 okc_str_i (ty rfl)
  · exact snd_call1 (okc_sum F.K (cm rfl)) (bl rfl)
  · exact snd_call1 (okc_all F.K (cm rfl)) (bl rfl)
  · exact snd_call1 (okc_any F.K (cm rfl)) (bl rfl)
  · exact snd_call1 okc_abs (bl rfl)
/-- the place within a comprehension -/
theorem CxF.blk (F : CxF X G W E P S) {scope : Scope} {own : List (Str × Nat)} (hex : S.ex = none) (B : BlkOk X.N X.env.scope scope own) (s : Shared) (H : Hp) (C : Addr) (cl : List (Str × Addr)) (fp : List Addr) :
    CxF (X.blk s H scope (compEnvC scope cl C X.env) fp) G noX E P (blkS S scope) where
  N := F.N
  nd := F.nd
  names := by
    show (relS scope X.env.scope).names = (relS scope (fakeSc S)).names
    unfold relS
    rw [F.kind, F.names]
    rfl
  kind := B.kind
  K := F.K
  fld := F.fld
  calm := F.calm
  un := F.un
  tk := L2.takes0
  bi := F.bi
  fn := F.fn
  me := F.me
  nw := F.nw
  gl := F.gl
  CF := F.CF
  KF := F.KF
  ty := F.ty
  ex := fun i x f p1 p2 h => by
    have h : S.ex = some i := h
    rw [hex] at h; cases h
  th := fun x p1 p2 W' pn xe h => by cases h
  fnc := fun x h => by
    rcases h with h | h
    · cases h
    · have h : x ∈ scope.names.filterMap fun y => if y.2 = .cell then some y.1 else none := h
      obtain ⟨y, hy, e⟩ := List.mem_filterMap.mp h
      by_cases hc : y.2 = .cell
      · rw [if_pos hc] at e
        cases e
        show (scope.names.lookup y.1 == some NameKind.cell) = true
        rw [B.uniq y hy, hc]
        rfl
      · rw [if_neg hc] at e; cases e
  ok := fun i h => F.ok i h
  lm := fun h => by cases h
theorem lam_of (F : CxF X G W E P S) {scope : Scope} (h : lamSB (fakeSc S) scope = true) : LamS X.env.scope scope := by
  have L := lamS_by h
  exact ⟨L.kind, L.co, L.gen, L.own, fun y hy e => by rw [F.names]; exact L.free y hy e⟩
theorem blk_of (F : CxF X G W E P S) {scope : Scope} {own : List Nat} (h : blkC S.N (fakeSc S) scope (ownN S own) = true) : BlkOk X.N X.env.scope scope (ownN S own) := by
  have B := blkOk_by h
  exact ⟨B.kind, B.uniq, fun p hp => by rw [F.N]; exact B.ix p hp, fun y hy e => by rw [F.names]; exact B.free y hy e, fun y hy e => by rw [F.N]; exact B.own y hy e⟩
theorem ownN_map (S : Sx) (own : List Nat) : (ownN S own).map (·.2) = own := by
  unfold ownN
  rw [List.map_map]
  exact List.map_id' own
theorem tyB_ok (F : CxF X G W E P S) : ∀ {es : List Expr} {ts : List Ty}, tyB P S es ts = true → Paired (fun b t => PE X b (tC (tyW G t)) ∧ notStar b = true) es ts ∧ ∀ t ∈ ts, t ∈ P.tys := by
  intro es
  induction es with
  | nil =>
    intro ts h
    cases ts with
    | nil => exact ⟨.nil, fun _ z => by cases z⟩
    | cons _ _ => unfold tyB at h; cases h
  | cons e es ih =>
    intro ts h
    cases ts with
    | nil =>
      unfold tyB at h
      split at h
      · rename_i z _; cases z
      · rename_i z2; cases z2
      · cases h
    | cons t ts =>
      unfold tyB at h
      split at h
      · rename_i z _; cases z
      · rename_i x p es' t' ts' z1 z2
        cases z1
        cases z2
        simp only [Bool.and_eq_true, decide_eq_true_eq] at h
        obtain ⟨⟨h1, h2⟩, h3⟩ := h
        obtain ⟨k1, k2, k3⟩ := F.glo h1
        obtain ⟨m, u, r, q⟩ := F.ty x t h2
        obtain ⟨i1, i2⟩ := ih h3
        refine ⟨.cons ⟨?_, rfl⟩ i1, fun t' ht => ?_⟩
        · rcases q with q | ⟨q, q2⟩
          · exact pe_glob k1 q r k2
          · exact pe_bltn k1 q q2 r k3 k2
        · rcases List.mem_cons.mp ht with e | e
          · rw [e]; exact m
          · exact i2 t' e
      · cases h
end
end EV
set_option Elab.async false
set_option linter.all false
set_option maxRecDepth 100000
set_option maxHeartbeats 4000000
/-! EV, part Za: expressions, all of them. -/
namespace EV
open PySem PySem.Spec PyProof.Rows L2 LamX RZ HT
theorem chkA_star {P : PF} {S : Sx} : ∀ {ms : MEs} {es : List Expr}, chkA P S ms es = true → es.all notStar = true
  | .nil, es, h => by
    unfold chkA at h
    split at h
    · rfl
    · cases h
  | .cons m ms, es, h => by
    unfold chkA at h
    split at h
    · simp only [Bool.and_eq_true] at h
      rw [List.all_cons, h.1.1, chkA_star h.2]
      rfl
    · cases h
theorem chkA_nil {P : PF} {S : Sx} {E : Ec} {ms : MEs} {es : List Expr} (h : chkA P S ms es = true) (e : es = []) : ∀ ρ S, evs E ms ρ S = .ok [] S := by
  subst e
  cases ms with
  | nil => intro ρ S; rfl
  | cons _ _ => unfold chkA at h; cases h
theorem assignEach_plain {e : Expr} {es : List Expr} {env : Env} (h : notStar e = true) : assignEach (e :: es) env = (false, assign e env) :: assignEach es env := by
  cases e <;> first | rfl | cases h
mutual
theorem sndG {X : Cx} {G : Gn} {W : WX} {E : Ec} {P : PF} {S : Sx} (F : CxF X G W E P S) (hc : X.calm = true) : ∀ (t : MT) (e : Expr), chkG S t e = true → PG X e (gT G t)
  | .v i, e, h => by
    unfold chkG at h
    split at h
    · obtain ⟨k1, k2, k3, k4⟩ := F.tgt h
      exact snd_tv F.nd k1 k2 k3 k4
    · cases h
  | .t ts, e, h => by
    unfold chkG at h
    split at h
    · obtain ⟨k1, k2, k3⟩ := sndGs F hc ts _ h
      exact snd_ttup hc F.K k1 k2 k3
    · cases h
theorem sndGs {X : Cx} {G : Gn} {W : WX} {E : Ec} {P : PF} {S : Sx} (F : CxF X G W E P S) (hc : X.calm = true) : ∀ (ts : MTs) (es : List Expr), chkGs S ts es = true → PGs X es (gTs G ts) ∧ (assignEach es X.env).length = lenTs ts ∧ (assignEach es X.env).findIdx? (·.1) = none
  | .nil, es, h => by
    unfold chkGs at h
    split at h
    · exact ⟨snd_tnil, rfl, rfl⟩
    · cases h
  | .cons t ts, es, h => by
    unfold chkGs at h
    split at h
    · rename_i e es
      simp only [Bool.and_eq_true] at h
      have h1 := sndG F hc t e h.1.2
      obtain ⟨h2, h3, h4⟩ := sndGs F hc ts es h.2
      have hs := assignEach_plain (es := es) (env := X.env) h.1.1
      refine ⟨snd_tcons (fun w w' => pgs_cons w w' (by rw [hs]; rfl)) h1 h2, by rw [hs]; simp [lenTs, h3], ?_⟩
      rw [hs, List.findIdx?_cons]
      simp [h4]
    · cases h
end
theorem gen {X : Cx} {G : Gn} {W : WX} {E : Ec} {P : PF} {S : Sx} (F : CxF X G W E P S) {t : Bool} {e : Expr} {b : Bool} {x : Env' → Store → Rs D} (h : ((!t || valB e) && b) = true) (k : b = true → PE X e (tE G W x)) : Tells X G W t e x := by
  rw [Bool.and_eq_true] at h
  exact Tells.of F h.1 (k h.2)
theorem Tells.stuck {X : Cx} {G : Gn} {W : WX} {t : Bool} {e : Expr} : Tells X G W t e (fun _ _ => .stuck) := by
  cases t with
  | false => exact PE.stuck
  | true => exact ⟨fun pins s σ H Q I ⟨_, _, _, _, _, z⟩ => z.elim⟩
mutual
theorem sndE {X : Cx} {G : Gn} {W : WX} {E : Ec} {P : PF} {S : Sx} (F : CxF X G W E P S) (t : Bool) : ∀ (m : ME) (e : Expr), chk P S t m e = true → Tells X G W t e (ev E m)
  | .bad, e, h => Tells.stuck
  | .c d, e, h => by
    unfold chk at h
    refine gen F h fun h => ?_
    split at h
    · obtain ⟨v, h1, h2⟩ := const_rv h
      exact snd_const h1 h2
    · cases h
  | .v i, e, h => by
    unfold chk at h
    refine gen F h fun h => ?_
    split at h
    · obtain ⟨h1, h2, h3, h4⟩ := F.vis h
      exact snd_name h1 h2 h3 h4
    · cases h
  | .g n, e, h => by
    unfold chk at h
    refine gen F h fun h => ?_
    split at h
    · simp only [Bool.and_eq_true, decide_eq_true_eq] at h
      obtain ⟨k1, k2, k3⟩ := F.glo h.1
      obtain ⟨v, u, q1, q2, q3⟩ := F.gl n _ h.2
      exact snd_glob (pe_glob k1 q1 q2 k2) q3
    · cases h
  | .o1 o a, e, h => by
    unfold chk at h
    refine gen F h fun h => ?_
    split at h
    · simp only [Bool.and_eq_true, decide_eq_true_eq] at h
      obtain ⟨rfl, h2⟩ := h
      exact snd_neg (sndE F false a _ h2)
    · simp only [Bool.and_eq_true, decide_eq_true_eq] at h
      obtain ⟨⟨⟨⟨h1, h2⟩, h3⟩, h4⟩, h5⟩ := h
      exact snd_o1 F h1 h2 h3 h4 (sndE F false a _ h5)
    · cases h
  | .o2 o a b, e, h => by
    unfold chk at h
    rw [Bool.and_eq_true] at h
    obtain ⟨hv, h⟩ := h
    split at h
    · simp only [Bool.and_eq_true, decide_eq_true_eq] at h
      refine Tells.of F (by simpa [isCmpB] using hv) ?_
      exact snd_bin (ok_bop F h.1.1) (sndE F false a _ h.1.2) (sndE F false b _ h.2)
    · simp only [Bool.and_eq_true, decide_eq_true_eq] at h
      obtain ⟨⟨⟨h1, h2⟩, h3⟩, h4⟩ := h
      obtain ⟨k1, k2⟩ := ok_cop F h1
      have ha := sndE F false a _ h3
      have hb := sndE F false b _ h4
      cases t with
      | false => exact snd_cmp k1 (marks_ok h2) ha hb
      | true => exact snd_testcmp k1 k2 (marks_ok h2) ha hb
    · simp only [Bool.and_eq_true, decide_eq_true_eq] at h
      obtain ⟨⟨⟨rfl, h2⟩, h3⟩, h4⟩ := h
      refine Tells.of F (by simpa [isCmpB] using hv) ?_
      exact snd_ix (ok_ix F.K (by have := F.un; omega)) (ix_ok h2) (sndE F false a _ h3) (sndE F false b _ h4)
    · simp only [Bool.and_eq_true, Bool.or_eq_true, decide_eq_true_eq, Bool.not_eq_true'] at h
      obtain ⟨⟨⟨⟨⟨⟨h1, h2⟩, h3⟩, h4⟩, h5⟩, h6⟩, h7⟩ := h
      obtain ⟨k1, k2, k3, k4⟩ := F.bif h1
      refine Tells.of F (by simpa [isCmpB] using hv) ?_
      rcases h2 with ⟨rfl, rfl⟩ | ⟨rfl, rfl⟩
      · exact snd_max2 (F.calm h5) k1 k2 h3 h4 (sndE F false a _ h6) (sndE F false b _ h7)
      · exact snd_min2 (F.calm h5) k1 k2 h3 h4 (sndE F false a _ h6) (sndE F false b _ h7)
    · cases h
  | .isi a ts, e, h => by
    unfold chk at h
    refine gen F h fun h => ?_
    split at h
    · simp only [Bool.and_eq_true, decide_eq_true_eq] at h
      obtain ⟨⟨⟨⟨h1, rfl⟩, h3⟩, h4⟩, h5⟩ := h
      obtain ⟨k1, k2, k3, k4⟩ := F.bif h1
      have ha := sndE F false a _ h4
      split at h5
      · simp only [Bool.and_eq_true, decide_eq_true_eq] at h5
        obtain ⟨i1, i2⟩ := tyB_ok F h5.1
        exact snd_isiT F.K F.CF F.KF i2 h5.2 k1 k2 h3 ha i1
      · obtain ⟨i1, i2⟩ := tyB_ok F h5
        cases i1 with
        | cons q r =>
          cases r
          exact snd_isi1 F.K F.CF F.KF (i2 _ (List.mem_singleton.mpr rfl)) k1 k2 h3 q.2 ha q.1
    · cases h
  | .and_ a b, e, h => by
    unfold chk at h
    split at h
    · rename_i x y r p
      rw [Bool.and_eq_true] at h
      have ha := sndE F t a x h.1
      have h2 := h.2
      cases r with
      | nil =>
        have hb := sndE F t b y h2
        cases t with
        | false => exact snd_and F.K ha (snd_and1 hb)
        | true => exact (snd_test_and ha (snd_test_and1 hb)).pt
      | cons z r =>
        have hb := sndE F t b _ h2
        cases t with
        | false => exact snd_and F.K ha hb
        | true => exact (snd_test_and ha (pw_of hb)).pt
    · cases h
  | .or_ a b, e, h => by
    unfold chk at h
    split at h
    · rename_i x y r p
      rw [Bool.and_eq_true] at h
      have ha := sndE F t a x h.1
      have h2 := h.2
      cases r with
      | nil =>
        have hb := sndE F t b y h2
        cases t with
        | false => exact snd_or F.K ha (snd_or1 hb)
        | true => exact (snd_test_or ha (snd_test_or1 hb)).pt
      | cons z r =>
        have hb := sndE F t b _ h2
        cases t with
        | false => exact snd_or F.K ha hb
        | true => exact (snd_test_or ha (pw_of hb)).pt
    · cases h
  | .not_ a, e, h => by
    unfold chk at h
    split at h
    · have ha := sndE F t a _ h
      cases t with
      | false => exact snd_notV F.K ha
      | true => exact snd_test_not ha
    · cases h
  | .ite c a b, e, h => by
    unfold chk at h
    rw [Bool.and_eq_true] at h
    obtain ⟨ht, h⟩ := h
    have ht : t = false := by simpa using ht
    subst ht
    split at h
    · simp only [Bool.and_eq_true] at h
      exact snd_ite (sndE F true c _ h.1.1) (sndE F false a _ h.1.2) (sndE F false b _ h.2)
    · cases h
  | .tup es, e, h => by
    unfold chk at h
    refine gen F h fun h => ?_
    split at h
    · exact snd_tup (sndA F es _ h)
    · cases h
  | .mk live m, e, h => by
    unfold chk at h
    refine gen F h fun h => ?_
    exact sndC F live m e h
  | .addD live a b, e, h => by
    unfold chk at h
    refine gen F h fun h => ?_
    split at h
    · simp only [Bool.and_eq_true] at h
      exact snd_addD F.K (sndE F false a _ h.1) (sndE F false b _ h.2)
    · cases h
  | .mulD live a b, e, h => by
    unfold chk at h
    refine gen F h fun h => ?_
    split at h
    · simp only [Bool.and_eq_true] at h
      exact snd_mulD F.K (sndE F false a _ h.1) (sndE F false b _ h.2)
    · cases h
  | .slD live a lo hi, e, h => by
    unfold chk at h
    refine gen F h fun h => ?_
    split at h
    · simp only [Bool.and_eq_true] at h
      exact snd_slD F.K (sndE F false a _ h.1.1) (sndO F lo _ h.1.2) (sndO F hi _ h.2)
    · cases h
  | .revL live a, e, h => by
    unfold chk at h
    refine gen F h fun h => ?_
    split at h
    · simp only [Bool.and_eq_true, decide_eq_true_eq] at h
      obtain ⟨rfl, h2⟩ := h
      exact snd_revL F.K (sndE F false a _ h2)
    · cases h
  | .att a f, e, h => by
    unfold chk at h
    refine gen F h fun h => ?_
    split at h
    · simp only [Bool.and_eq_true, decide_eq_true_eq] at h
      obtain ⟨⟨rfl, h2⟩, h3⟩ := h
      rw [← F.fld]
      exact snd_att F.K F.CF (base_ok h2) (sndE F false a _ h3)
    · cases h
  | .call f args, e, h => by
    unfold chk at h
    refine gen F h fun h => ?_
    split at h
    · simp only [Bool.and_eq_true, decide_eq_true_eq, Bool.not_eq_true'] at h
      obtain ⟨⟨⟨h1, h2⟩, h3⟩, h4⟩ := h
      obtain ⟨k1, k2, k3⟩ := F.glo h1
      obtain ⟨q1, q2, q3⟩ := F.fn h3 f _ h2
      exact snd_call q3 k1 q1 q2 F.tk k2 (chkA_star h4) (sndA F args _ h4) (chkA_nil h4)
    · cases h
  | .new c args, e, h => by
    unfold chk at h
    refine gen F h fun h => ?_
    split at h
    · simp only [Bool.and_eq_true, decide_eq_true_eq, Bool.not_eq_true'] at h
      obtain ⟨⟨⟨h1, h2⟩, h3⟩, h4⟩ := h
      obtain ⟨k1, k2, k3⟩ := F.glo h1
      obtain ⟨f, hi, q1, q2, q3⟩ := F.nw h3 c _ h2
      refine PE.imp (snd_new (dfl := fun n => E.P.dfl f (n + 1)) (fun m => q3 (m + 1)) k1 q1 q2 F.tk k2 (chkA_star h4) (sndA F args _ h4) (chkA_nil h4)) fun σ H Q hh => ?_
      obtain ⟨p, ρ, q1, q2, q3, q4⟩ := hh
      refine ⟨p, ρ, q1, q2, q3, ?_⟩
      unfold ev at q4
      simp only [hi] at q4
      exact q4
    · cases h
  | .meth a m args, e, h => by
    unfold chk at h
    refine gen F h fun h => ?_
    split at h
    · simp only [Bool.and_eq_true, decide_eq_true_eq, Bool.not_eq_true'] at h
      obtain ⟨⟨⟨⟨⟨⟨rfl, h2⟩, h3⟩, h4⟩, h5⟩, h6⟩, h7⟩ := h
      rw [← F.fld]
      exact snd_meth F.K F.CF (F.me h3 m) F.tk (chkA_star h7) (sndE F false a _ h6) (sndA F args _ h7) (chkA_nil h7) (meth_eq (chkA_star h7) h5 h2 h4)
    · cases h
  | .mut o a args, e, h => by
    unfold chk at h
    refine gen F h fun h => ?_
    split at h
    · rename_i x g p es q h0
      simp only [Bool.and_eq_true, decide_eq_true_eq, Bool.not_eq_true'] at h
      obtain ⟨⟨⟨⟨h2, h3⟩, h4⟩, h5⟩, h6⟩ := h
      have ha := sndE F false a _ h4
      have hb := sndA F args _ h5
      have hs := chkA_star h5
      have hl : (p.endLine == q.line) = true := by simpa using h3
      have bm : ∀ {id : String} {name : Str} (y : Expr), es = [y] → g = name → Slot "list" name id → typeOf (.builtin id) = pure (.type "method_descriptor") → ∀ {r : V → List V → Hp → VK → Prop}, MtR X id r → PE X (.Call (.Attribute x g p) es [] q) (tBM X.K "list" r (tE G W (ev E a)) (tA G W (evs E args))) := fun y he hg sl ty => @fun r hr => by
        subst he
        subst hg
        have h1 : notStar y = true := by simpa using hs
        exact pe_bm PySem.F.plainAttrs_list sl ty hr ha hb (base_ok h2) (by rw [starEach_plain h1]; rfl) hl (starEach_plain h1) rfl
      split at h6
      · have h6 := of_decide_eq_true h6
        exact snd_mut F.K okm_append (bm _ rfl h6 PySem.F.slot_list_append PySem.F.type_list_append)
      · have h6 := of_decide_eq_true h6
        exact snd_mut F.K okm_extend (bm _ rfl h6 PySem.F.slot_list_extend PySem.F.type_list_extend)
      · have h6 := of_decide_eq_true h6
        subst h6
        refine PE.imp (snd_mut0 F.K okm_pop0 fun hr => pe_bm0 PySem.F.plainAttrs_list PySem.F.slot_list_pop PySem.F.type_list_pop hr ha (base_ok h2) hl) fun σ H Q hh => ?_
        obtain ⟨pp, ρ, q1, q2, q3, q4⟩ := hh
        refine ⟨pp, ρ, q1, q2, q3, ?_⟩
        unfold ev at q4
        simp only [chkA_nil h5 rfl] at q4
        exact q4
      · have h6 := of_decide_eq_true h6
        exact snd_mut F.K okm_pop1 (bm _ rfl h6 PySem.F.slot_list_pop PySem.F.type_list_pop)
      · cases h6
    · cases h
  | .thunk f m, e, h => by
    unfold chk at h
    refine gen F h fun h => ?_
    split at h
    · rename_i x p params b scope lpos pos h0
      simp only [Bool.and_eq_true, decide_eq_true_eq, Bool.not_eq_true'] at h
      obtain ⟨⟨⟨⟨⟨⟨⟨h1, h2⟩, h3⟩, h4⟩, h5⟩, h6⟩, h7⟩, h8⟩ := h
      exact F.lm h1 h2 W X.pn X.xe F.tk f x m scope b params p lpos pos h5 h4 (lam_of F h6) h7 fun X' W'' F' => sndE ⟨F', fun z => by cases z⟩ false m b h8
    · cases h
  | .callP, e, h => by
    unfold chk at h
    refine gen F h fun h => ?_
    split at h
    · exact F.th _ _ _ W X.pn X.xe (of_decide_eq_true h) F.tk
    · cases h
  | .exf f, e, h => by
    unfold chk at h
    refine gen F h fun h => ?_
    split at h
    · simp only [Bool.and_eq_true, decide_eq_true_eq] at h
      obtain ⟨rfl, h2⟩ := h
      split at h2
      · rename_i i hi
        exact F.ex i _ f _ _ hi h2
      · cases h2
    · cases h
theorem sndA {X : Cx} {G : Gn} {W : WX} {E : Ec} {P : PF} {S : Sx} (F : CxF X G W E P S) : ∀ (ms : MEs) (es : List Expr), chkA P S ms es = true → PA X es (tA G W (evs E ms))
  | .nil, es, h => by
    unfold chkA at h
    split at h
    · exact snd_nil
    · cases h
  | .cons m ms, es, h => by
    unfold chkA at h
    split at h
    · simp only [Bool.and_eq_true] at h
      exact snd_cons h.1.1 (sndE F false m _ h.1.2) (sndA F ms _ h.2)
    · cases h
theorem sndO {X : Cx} {G : Gn} {W : WX} {E : Ec} {P : PF} {S : Sx} (F : CxF X G W E P S) : ∀ (m : MO) (o : Option Expr), chkO P S m o = true → PO X o (tP G W (evO E m))
  | .none, o, h => by
    unfold chkO at h
    split at h
    · exact snd_po_none
    · cases h
  | .some m, o, h => by
    unfold chkO at h
    split at h
    · exact snd_po_some (sndE F false m _ h)
    · cases h
theorem sndC {X : Cx} {G : Gn} {W : WX} {E : Ec} {P : PF} {S : Sx} (F : CxF X G W E P S) (live : Bool) : ∀ (m : MC) (e : Expr), chkC P S m e = true → PE X e (tE G W (EV.mk live (evC E m)))
  | .disp es, e, h => by
    unfold chkC at h
    split at h
    · exact snd_disp (sndA F es _ h)
    · cases h
  | .lof a, e, h => by
    unfold chkC at h
    split at h
    · simp only [Bool.and_eq_true, decide_eq_true_eq] at h
      obtain ⟨⟨⟨h1, rfl⟩, h3⟩, h4⟩ := h
      obtain ⟨k1, k2, k3, k4⟩ := F.bif h1
      exact snd_lof F.K fun hr => pe_callTy hr k1 k2 rfl (pa_cons (sndE F false a _ h4) pa_nil (starEach_plain h3)) k4 k3 (starEach_plain h3) rfl
    · cases h
  | .ddisp kvs, e, h => by
    unfold chkC at h
    split at h
    · rename_i ks vs p
      simp only [Bool.and_eq_true, decide_eq_true_eq] at h
      cases ks with
      | nil =>
        cases kvs with
        | nil =>
          cases vs with
          | nil =>
            refine PE.imp (snd_ddisp0 (G := G) (W := W) (live := live)) fun σ H Q hh => ?_
            obtain ⟨pp, ρ, q1, q2, q3, q4⟩ := hh
            exact ⟨pp, ρ, q1, q2, q3, q4⟩
          | cons _ _ => have := h.1; unfold chkK at this; cases this
        | cons _ _ _ => have := h.1; unfold chkK at this; cases this
      | cons k ks =>
        obtain ⟨h1, h2, h3⟩ := sndK F kvs (k :: ks) vs p h.1
        exact snd_ddisp h1 h2 h3 (fun z => nomatch z) h.2
    · cases h
  | .split a b, e, h => by
    unfold chkC at h
    split at h
    · simp only [Bool.and_eq_true, decide_eq_true_eq] at h
      obtain ⟨⟨⟨⟨⟨rfl, h2⟩, h3⟩, h4⟩, h5⟩, h6⟩ := h
      exact snd_split (pe_split (sndE F false a _ h5) (sndE F false b _ h6) (by rw [starEach_plain h4]; rfl) (base_ok h2) (by simpa using h3))
    · cases h
  | .comp elt tg it cond own, e, h => by
    unfold chkC at h
    split at h
    · rename_i x g scope p
      simp only [Bool.and_eq_true, decide_eq_true_eq, Bool.not_eq_true', Option.isNone_iff_eq_none] at h
      obtain ⟨⟨⟨⟨⟨⟨⟨⟨⟨⟨h1, h2⟩, h3⟩, h4⟩, h5⟩, h6⟩, h7⟩, h8⟩, h9⟩, h10⟩, h11⟩ := h
      obtain ⟨tgt, iter, ifs, asy⟩ := g
      simp only at h3 h4 h5 h9 h10
      subst h3
      have B := blk_of F h6
      have hc := F.calm h1
      have hN := ownN_map S own
      refine PE.imp (pe_lc hc F.nd (sndI F it tgt iter h5) B (fun s H C cl fp => sndG (F.blk h2 B s H C cl fp) hc tg tgt h9) (fun s H C cl fp => sndF (F.blk h2 B s H C cl fp) cond ifs h10)
        (fun s H C cl fp => sndE (F.blk h2 B s H C cl fp) false elt x h11) (fold_ok h4)) fun σ H Q hh => ?_
      rw [hN]
      refine lc_sound (live := live) h7 (fun v hv => F.ok v ?_) ?_
      · rw [List.all_eq_true] at h8
        exact h8 v hv
      · obtain ⟨pp, ρ, q1, q2, q3, q4⟩ := hh
        exact ⟨pp, ρ, q1, q2, q3, q4⟩
    · cases h
theorem sndK {X : Cx} {G : Gn} {W : WX} {E : Ec} {P : PF} {S : Sx} (F : CxF X G W E P S) : ∀ (m : MKs) (ks : List (Option Expr)) (vs : List Expr) (pos : Pos), chkK P S m ks vs = true → PKV G X W pos ks vs (evKV E m) ∧ ks.all (·.isSome) = true ∧ ks.length = vs.length
  | .nil, ks, vs, pos, h => by
    unfold chkK at h
    split at h
    · exact ⟨pkv_nil, rfl, rfl⟩
    · cases h
  | .cons k v r, ks, vs, pos, h => by
    unfold chkK at h
    split at h
    · rename_i a ks b vs
      simp only [Bool.and_eq_true] at h
      obtain ⟨h1, h2, h3⟩ := sndK F r ks vs pos h.2
      exact ⟨pkv_cons (sndE F false k a h.1.1) (sndE F false v b h.1.2) h1, by simp [h2], by simp [h3]⟩
    · cases h
theorem sndF {X : Cx} {G : Gn} {W : WX} {E : Ec} {P : PF} {S : Sx} (F : CxF X G W E P S) : ∀ (m : MO) (ifs : List Expr), chkF P S m ifs = true → PTs X ifs (tT G W (evCond E m))
  | .none, ifs, h => by
    unfold chkF at h
    split at h
    · refine ⟨fun pins s σ H Q I hh => pts_nil.run pins s σ H Q I ?_⟩
      obtain ⟨p, ρ, rfl, q2, q3, q4⟩ := hh
      exact q4 true p rfl q2 Pt.to.refl rfl
    · cases h
  | .some m, ifs, h => by
    unfold chkF at h
    split at h
    · exact pts_one (sndE F true m _ h)
    · cases h
theorem sndI {X : Cx} {G : Gn} {W : WX} {E : Ec} {P : PF} {S : Sx} (F : CxF X G W E P S) : ∀ (m : MI) (tg e : Expr), chkI P S m tg e = true → PI X tg e (tI G W (evI E m))
  | .e a, tg, e, h => by
    unfold chkI at h
    exact sndI_e F.K (sndE F false a e h)
  | .range1 a, tg, e, h => by
    unfold chkI at h
    split at h
    · simp only [Bool.and_eq_true, decide_eq_true_eq] at h
      obtain ⟨⟨⟨h1, rfl⟩, h3⟩, h4⟩ := h
      obtain ⟨k1, k2, k3, k4⟩ := F.bif h1
      exact sndI_range1 k1 k2 h3 (sndE F false a _ h4)
    · cases h
  | .range2 a b, tg, e, h => by
    unfold chkI at h
    split at h
    · simp only [Bool.and_eq_true, decide_eq_true_eq] at h
      obtain ⟨⟨⟨⟨⟨h1, rfl⟩, h3⟩, h4⟩, h5⟩, h6⟩ := h
      obtain ⟨k1, k2, k3, k4⟩ := F.bif h1
      exact sndI_range2 k1 k2 h3 h4 (sndE F false a _ h5) (sndE F false b _ h6)
    · cases h
  | .enum a, tg, e, h => by
    unfold chkI at h
    split at h
    · simp only [Bool.and_eq_true, decide_eq_true_eq] at h
      obtain ⟨⟨⟨h1, rfl⟩, h3⟩, h4⟩ := h
      obtain ⟨k1, k2, k3, k4⟩ := F.bif h1
      exact sndI_enum F.K k1 k2 h3 (sndE F false a _ h4)
    · cases h
  | .zip a b, tg, e, h => by
    unfold chkI at h
    split at h
    · simp only [Bool.and_eq_true, decide_eq_true_eq] at h
      obtain ⟨⟨⟨⟨⟨h1, rfl⟩, h3⟩, h4⟩, h5⟩, h6⟩ := h
      obtain ⟨k1, k2, k3, k4⟩ := F.bif h1
      exact sndI_zip F.K k1 k2 h3 h4 (sndE F false a _ h5) (sndE F false b _ h6)
    · cases h
end
end EV
set_option Elab.async false
set_option linter.all false
set_option maxRecDepth 100000
/-! EV, part Zb: how stores go. -/
namespace EV
open PySem PySem.Spec PyProof.Rows L2 LamX RZ HT
def lcScope : Expr → Option Scope
  | .ListComp _ _ s _ => some s
  | .SetComp _ _ s _ => some s
  | .DictComp _ _ _ s _ => some s
  | _ => none
/-- a comprehension's value goes to the name within its block -/
def swT (S : Sx) (v tg : Expr) : Bool := match lcScope v with
  | none => false
  | some s => match tg with
    | .Name t p => decide (S.names.lookup t = some .local) && (p.line == v.pos.line) && !(s.names.any fun (n, k) => n == t && (k == .local || k == .cell))
    | _ => false
def isStarB : Expr → Bool
  | .Starred .. => true
  | _ => false
def nameOne (S : Sx) (line : Nat) : Expr → Option Str
  | .Name id pos => if S.names.lookup id == some .local && pos.line == line then some id else none
  | _ => none
def storesOf (S : Sx) (ts vs : List Expr) : Option (Option (List Str)) :=
  if !(ts.length == 2 || ts.length == 3) || vs.length != ts.length then some none else
  if vs.any isStarB then some none else
  let line := (ts.head?.map (·.pos.line)).getD 0
  let names := ts.filterMap (nameOne S line)
  if names.length != ts.length || names.eraseDups.length != names.length then some none else
  if vs.all (foldedForSure 8) then some none else
  if vs.all (constantsAlone 8) then none else
  some (some names)
section
variable {X : Cx} {G : Gn} {W : WX} {E : Ec} {P : PF} {S : Sx}
theorem CxF.block (F : CxF X G W E P S) : X.env.blockKind = .function := by
  unfold Env.blockKind
  rw [F.kind]
  rfl
theorem sw_ok (F : CxF X G W E P S) {v tg : Expr} {line : Nat} : swapsWith v (some tg) line X.env = pure (swT S v tg) := by
  have hb := F.block
  have key : ∀ (s : Scope), lcScope v = some s → swapsWith v (some tg) line X.env = (match tg with
      | .Name t pos => pure (X.env.blockKind == .function && X.env.kindOf t == some .local && pos.line == v.pos.line && !(s.names.any fun (n, k) => n == t && (k == .local || k == .cell)))
      | _ => pure false) := fun s hs => by
    cases v with
    | ListComp _ _ _ _ => cases hs; cases tg <;> rfl
    | SetComp _ _ _ _ => cases hs; cases tg <;> rfl
    | DictComp _ _ _ _ _ => cases hs; cases tg <;> rfl
    | _ => cases hs
  unfold swT
  cases hs : lcScope v with
  | none =>
    cases v with
    | ListComp _ _ _ _ => cases hs
    | SetComp _ _ _ _ => cases hs
    | DictComp _ _ _ _ _ => cases hs
    | _ => rfl
  | some s =>
    rw [key s hs]
    cases tg with
    | Name t p =>
      have hk : X.env.kindOf t = S.names.lookup t := by show X.env.scope.names.lookup t = _; rw [F.names]
      simp only [hb, hk]
      congr 1
      by_cases h : S.names.lookup t = some .local
      · simp [h]
      · simp [h]
    | _ => rfl
theorem sw0_ok {v : Expr} {line : Nat} {env : Env} (h : lcScope v = none) : swapsWith v none line env = pure false := by
  cases v with
  | ListComp _ _ _ _ => cases h
  | SetComp _ _ _ _ => cases h
  | DictComp _ _ _ _ _ => cases h
  | _ => rfl
theorem stores_ok (F : CxF X G W E P S) {ts vs : List Expr} {k k2 : Nat} {p p2 : Pos} {r : Option (List Str)} (h : storesOf S ts vs = some r) : swappedStores [.Tuple ts k p] (.Tuple vs k2 p2) X.env = pure r := by
  have hb := F.block
  have hk : ∀ t, X.env.kindOf t = S.names.lookup t := fun t => by show X.env.scope.names.lookup t = _; rw [F.names]
  have e : swappedStores [.Tuple ts k p] (.Tuple vs k2 p2) X.env = (
      if (!(ts.length == 2 || ts.length == 3) || vs.length != ts.length || X.env.blockKind != .function) = true then pure none else
      if (vs.any fun | .Starred .. => true | _ => false) = true then pure none else
      let line := (ts.head?.map (·.pos.line)).getD 0
      let names := ts.filterMap fun
        | .Name id pos => if X.env.kindOf id == some .local && pos.line == line then some id else none
        | _ => none
      if (names.length != ts.length || names.eraseDups.length != names.length) = true then pure none else
      if vs.all (foldedForSure 8) = true then pure none else
      if vs.all (constantsAlone 8) = true then (do unsupported "assign.tuple-of-constant-expressions:order-of-the-stores"; pure (some names)) else
      pure (some names)) := by rfl
  rw [e]
  have e2 : (vs.any fun | .Starred .. => true | _ => false) = vs.any isStarB := by
    congr 1
  have e3 : ∀ line : Nat, (ts.filterMap fun
        | .Name id pos => if X.env.kindOf id == some .local && pos.line == line then some id else none
        | _ => none) = ts.filterMap (nameOne S line) := fun line => by
    congr 1
    funext x
    cases x <;> first | rfl | (unfold nameOne; simp only [hk])
  simp only [hb, e2, e3]
  unfold storesOf at h
  simp only at h
  simp only [bne_self_eq_false, Bool.or_false]
  by_cases c1 : (!(ts.length == 2 || ts.length == 3) || vs.length != ts.length) = true
  · rw [if_pos c1] at h
    cases h
    rw [if_pos c1]
  · rw [if_neg c1] at h
    rw [if_neg c1]
    by_cases c2 : vs.any isStarB = true
    · rw [if_pos c2] at h
      cases h
      rw [if_pos c2]
    · rw [if_neg c2] at h
      rw [if_neg c2]
      by_cases c3 : ((ts.filterMap (nameOne S ((ts.head?.map (·.pos.line)).getD 0))).length != ts.length || (ts.filterMap (nameOne S ((ts.head?.map (·.pos.line)).getD 0))).eraseDups.length != (ts.filterMap (nameOne S ((ts.head?.map (·.pos.line)).getD 0))).length) = true
      · rw [if_pos c3] at h
        cases h
        rw [if_pos c3]
      · rw [if_neg c3] at h
        rw [if_neg c3]
        by_cases c4 : vs.all (foldedForSure 8) = true
        · rw [if_pos c4] at h
          cases h
          rw [if_pos c4]
        · rw [if_neg c4] at h
          rw [if_neg c4]
          by_cases c5 : vs.all (constantsAlone 8) = true
          · rw [if_pos c5] at h
            cases h
          · rw [if_neg c5] at h
            rw [if_neg c5]
            cases h
            rfl
/-- what is no tuple's store -/
def noTupB : Expr → Bool
  | .Tuple _ _ _ => false
  | .List _ _ => false
  | _ => true
theorem stores_no {tg v : Expr} {env : Env} (h : noTupB tg = true ∨ noTupB v = true) : swappedStores [tg] v env = pure none := by
  cases tg with
  | Tuple _ _ _ =>
    cases v with
    | Tuple _ _ _ => rcases h with h | h <;> cases h
    | _ => rfl
  | List _ _ =>
    cases v with
    | Tuple _ _ _ => rcases h with h | h <;> cases h
    | _ => rfl
  | _ => rfl
end
end EV
set_option Elab.async false
set_option linter.all false
set_option maxRecDepth 100000
set_option maxHeartbeats 4000000
/-! EV, part Zc: whether small statements stand for a text; what they tell. -/
namespace EV
open PySem PySem.Spec PyProof.Rows L2 LamX RZ HT
def augOp : O2 → Option Operator
  | .add => some .Add
  | .sub => some .Sub
  | _ => none
def isLC : Expr → Bool
  | .ListComp _ _ _ _ => true
  | _ => false
mutual
def chkM (P : PF) (S : Sx) : MG → Expr → Bool
  | .v i, e => (match e with
    | .Name x _ => tgB S i x
    | _ => false)
  | .att o f, e => (match e with
    | .Attribute x g _ => decide (g = P.fld f) && chk P S false o x
    | _ => false)
  | .ix o i, e => (match e with
    | .Subscript x y _ => ixB y && chk P S false o x && chk P S false i y
    | _ => false)
  | .t ts, e => (match e with
    | .Tuple es _ _ => !S.hot && chkMs P S ts es
    | _ => false)
def chkMs (P : PF) (S : Sx) : MGs → List Expr → Bool
  | .nil, es => (match es with
    | [] => true
    | _ => false)
  | .cons t ts, es => (match es with
    | e :: es => notStar e && chkM P S t e && chkMs P S ts es
    | [] => false)
end
/-- the names of a swapped store, in their slots -/
def parB (S : Sx) : List Nat → List Expr → List Str → Bool
  | [i, j], [.Name x _, .Name y _], [a, b] => tgB S i x && tgB S j y && decide (S.names.lookup x = some .local) && decide (S.names.lookup y = some .local) && decide (i ≠ j) && decide (a = x) && decide (b = y)
  | [i, j, l], [.Name x _, .Name y _, .Name z _], [a, b, c] => tgB S i x && tgB S j y && tgB S l z && decide (S.names.lookup x = some .local) && decide (S.names.lookup y = some .local) && decide (S.names.lookup z = some .local) &&
      decide (i ≠ j) && decide (i ≠ l) && decide (j ≠ l) && decide (a = x) && decide (b = y) && decide (c = z)
  | _, _, _ => false
def plainStore (S : Sx) (tg v : Expr) : Bool := !swT S v tg && (match tg, v with
  | .Tuple ts _ _, .Tuple vs _ _ => (match storesOf S ts vs with
    | some none => true
    | _ => false)
  | tg, v => noTupB tg || noTupB v)
mutual
def chkS (P : PF) (S : Sx) : MS → Stmt → Bool
  | .asg t e, st => (match st with
    | .Assign [tg] v _ => (plainStore S tg v && chkM P S t tg && chk P S false e v) || (swT S v tg && (match t, e, tg with
      | .v i, .mk _ m, .Name x _ => tgB S i x && decide (S.names.lookup x = some .local) && chkC P S m v && isLC v
      | _, _, _ => false))
    | _ => false)
  | .par is es, st => (match st with
    | .Assign [.Tuple ts _ _] (.Tuple vs _ _) _ => !S.hot && (match storesOf S ts vs with
      | some (some ns) => parB S is ts ns && chkA P S es vs && decide (vs.length = ts.length)
      | _ => false)
    | _ => false)
  | .augv i o e, st => (match st with
    | .AugAssign (.Name x _) op v _ => decide (augOp o = some op) && tgB S i x && chk P S false e v
    | _ => false)
  | .auga a f o e, st => (match st with
    | .AugAssign (.Attribute x g _) op v _ => decide (augOp o = some op) && decide (g = P.fld f) && chk P S false a x && chk P S false e v
    | _ => false)
  | .augx _ _ _ _, _ => false
  | .ex e, st => (match st with
    | .Expr v _ => (lcScope v).isNone && chk P S false e v
    | _ => false)
  | .ret e, st => (match st with
    | .Return (some v) _ => chk P S false e v
    | _ => false)
  | .retN, st => (match st with
    | .Return none _ => true
    | _ => false)
  | .if_ c a b, st => (match st with
    | .If x y z _ => chk P S true c x && chkB P S a y && chkB P S b z
    | _ => false)
  | .while_ c b, st => (match st with
    | .While x y [] _ => !S.hot && chk P S true c x && chkB P S b y
    | _ => false)
  | .for_ tg it b, st => (match st with
    | .For t i y [] _ => !S.hot && noSetB i && chkI P S it t i && chkG S tg t && chkB P S b y
    | _ => false)
  | .brk, st => (match st with
    | .Break _ => true
    | _ => false)
  | .cont, st => (match st with
    | .Continue _ => true
    | _ => false)
  | .pass, st => (match st with
    | .Pass _ => true
    | _ => false)
  | .raise c args, st => (match st with
    | .Raise (some (.Call (.Name x _) (e :: es) [] _)) none _ => !S.hot && glB S x && decide (P.exN c = some x) && chkA P S args (e :: es)
    | _ => false)
  | .try_ b hs, st => (match st with
    | .Try y (h :: r) [] [] _ => !S.hot && chkB P S b y && chkH P S hs (h :: r)
    | _ => false)
def chkB (P : PF) (S : Sx) : MB → List Stmt → Bool
  | .nil, ss => (match ss with
    | [] => true
    | _ => false)
  | .cons m ms, ss => (match ss with
    | s :: ss => chkS P S m s && chkB P S ms ss
    | [] => false)
def chkH (P : PF) (S : Sx) : MHs → List ExceptHandler → Bool
  | .nil, hs => (match hs with
    | [] => true
    | _ => false)
  | .cons c slot b r, hs => (match hs with
    | .ExceptHandler (some (.Name x _)) n (s :: ss) _ :: hs => glB S x && decide (P.exN c = some x) && (match n, slot with
        | none, none => true
        | some y, some i => decide (S.N[i]? = some y) && decide (S.names.lookup y = some .local) && okB S i
        | _, _ => false) && chkB P { S with hot := true, ex := slot, th := none } b (s :: ss) && chkH P S r hs
    | _ => false)
end
structure StF (X : Cx) (G : Gn) (W : WX) (E : Ec) (P : PF) (S : Sx) (sub : Nat → Nat → Option Bool) : Prop extends CxF X G W E P S where
  pass : S.hot = false → PassesOwn (model X.prog X.w) X.A X.env X.xe
  exc : S.hot = false → ∀ c x, P.exN c = some x → X.mg x = some (.ref (G.cls c)) ∧ ∃ fs, E.P.exf c = some fs ∧ ExC X G c fs
  hst : S.hot = false → X.stack = X.env :: X.outer ∧ X.env.frame = some X.env.locals ∧ G.cx = none ∧ S.ex = none
  SF : SubF G sub
  XF : ∀ c h, (sub c h).isSome = true → XfC G.K (G.cls c) ∧ ∀ f, E.P.fok c f = true → PySem.W.findIn G.K (.ref (G.cls c)) (G.fld f) = some none
section
variable {X : Cx} {G : Gn} {W : WX} {E : Ec} {P : PF} {S : Sx} {sub : Nat → Nat → Option Bool}
/-- within try -/
theorem StF.tr (F : StF X G W E P S sub) (hh : S.hot = false) {W' : WX} {pn : List (Addr × Obj)} {xe : Value → Shared → Prop} (tk : L2.Takes (X.tr pn xe) W') (hp : PassesOwn (model X.prog X.w) X.A X.env xe) : StF (X.tr pn xe) G W' E P S sub where
  N := F.N
  nd := F.nd
  names := F.names
  kind := F.kind
  K := F.K
  fld := F.fld
  calm := F.calm
  un := F.un
  tk := tk
  bi := F.bi
  fn := F.fn
  me := F.me
  nw := F.nw
  gl := F.gl
  CF := F.CF
  KF := F.KF
  ty := F.ty
  ex := fun i x f p1 p2 h => by rw [(F.hst hh).2.2.2] at h; cases h
  th := fun x p1 p2 W2 pn2 xe2 h t => F.th x p1 p2 W2 pn2 xe2 h t
  fnc := F.fnc
  ok := F.ok
  lm := fun h1 h2 W2 pn2 xe2 tk2 => F.lm h1 h2 W2 pn2 xe2 tk2
  pass := fun _ => hp
  exc := F.exc
  hst := F.hst
  SF := F.SF
  XF := F.XF
/-- within an except suite -/
theorem StF.suite (F : StF X G W E P S sub) (hh : S.hot = false) {slot : Option Nat} {a : Addr} {oe : Obj} {cls : Value} {d : Option Addr} {pn : List (Addr × Obj)} {c h : Nat} {fs : List Nat} {vs : List D} (hz : Zc cls d oe) (hf : ∃ vs, oe.data = .fields vs) (hc : cls = .ref (G.cls c)) (hs : (sub c h).isSome = true) :
    StF (X.suite a ((a, oe) :: pn)) (G.with slot a d c fs vs) noX { E with cur := some (c, fs, vs) } P { S with hot := true, ex := slot, th := none } sub where
  N := F.N
  nd := F.nd
  names := F.names
  kind := F.kind
  K := F.K
  fld := F.fld
  calm := fun z => by cases z
  un := F.un
  tk := L2.takes0
  bi := F.bi
  fn := fun z => by cases z
  me := fun z => by cases z
  nw := fun z => by cases z
  gl := F.gl
  CF := ⟨F.CF.inj, F.CF.cls, F.CF.no⟩
  KF := ⟨F.KF.kit, F.KF.at_, F.KF.mro, F.KF.get, F.KF.tk⟩
  ty := F.ty
  ex := fun i x f p1 p2 hi hv => by
    have hi : slot = some i := hi
    subst hi
    obtain ⟨k1, k2, k3, k4⟩ := F.vis (i := i) (x := x) hv
    obtain ⟨q1, q2⟩ := F.XF c h hs
    by_cases hfk : E.P.fok c f = true
    · have := snd_exf (X := X) (W := noX) (G := G.with (some i) a d c fs vs) (f := f) (pos := p1) (pos2 := p2) (oe := oe) (pn := pn) F.CF.inj rfl hc (by rw [F.K]; exact q1) (by rw [F.K]; exact q2 f hfk) hz hf k1 k2 k3 k4
      rw [show P.fld f = G.fld f from by rw [F.fld]]
      refine PE.imp this fun σ H Q hq => ?_
      obtain ⟨p, ρ, w1, w2, w3, w4⟩ := hq
      refine ⟨p, ρ, w1, w2, w3, ?_⟩
      unfold ev at w4
      simp only [hfk, if_true] at w4
      exact w4
    · refine PE.imp (PE.stuck (G := G.with (some i) a d c fs vs) (W := noX)) fun σ H Q hq => ?_
      obtain ⟨p, ρ, w1, w2, w3, w4⟩ := hq
      unfold ev at w4
      simp only [hfk] at w4
      exact w4.elim
  th := fun x p1 p2 W2 pn2 xe2 z => by cases z
  fnc := F.fnc
  ok := fun i z => by
    unfold okB at z
    simp only [Bool.and_eq_true, decide_eq_true_eq] at z
    have := F.ok i (by
      unfold okB
      rw [(F.hst hh).2.2.2]
      simpa using z.2)
    refine ⟨fun cc hcc => ?_, this.2⟩
    intro e
    subst e
    cases slot with
    | none => cases hcc
    | some j => cases hcc; exact z.1 rfl
  lm := fun _ z => by cases z
  pass := fun z => by cases z
  exc := fun z => by cases z
  hst := fun z => by cases z
  SF := F.SF
  XF := F.XF
theorem sub_assign {o i : Expr} {pos : Pos} {env : Env} (hi : ixB i = true) (v : Value) : assign (.Subscript o i pos) env v = (do
      let ov ← holding [v] (eval o env)
      let iv ← holding [v, ov] (eval i env)
      standAt pos
      holding [v, ov, iv] (setItem ov iv v)
      release [v, ov, iv] []) := by
  cases i <;> first | rfl | cases hi
theorem asg_one {t : Expr} {env : Env} (h : notStar t = true) : (assignEach [t] env).map (·.2) = [assign t env] := by
  rw [assignEach_plain h]
  rfl
theorem chkM_star {t : MG} {e : Expr} (h : chkM P S t e = true) : notStar e = true := by
  cases t <;> unfold chkM at h <;> (split at h <;> first | rfl | cases h)
mutual
theorem sndM (F : StF X G W E P S sub) : ∀ (t : MG) (e : Expr), chkM P S t e = true → PG X e (gA G (asg E t))
  | .v i, e, h => by
    unfold chkM at h
    split at h
    · obtain ⟨k1, k2, k3, k4⟩ := F.tgt h
      exact snd_gv F.nd k1 k2 k3 k4
    · cases h
  | .att o f, e, h => by
    unfold chkM at h
    split at h
    · simp only [Bool.and_eq_true, decide_eq_true_eq] at h
      obtain ⟨rfl, h2⟩ := h
      rw [← F.fld]
      exact snd_gatt F.K F.CF (sndE F.toCxF false o _ h2)
    · cases h
  | .ix o i, e, h => by
    unfold chkM at h
    split at h
    · simp only [Bool.and_eq_true] at h
      exact snd_gix (by have := F.un; omega) (sndE F.toCxF false o _ h.1.2) (sndE F.toCxF false i _ h.2) (sub_assign h.1.1)
    · cases h
  | .t ts, e, h => by
    unfold chkM at h
    split at h
    · simp only [Bool.and_eq_true, Bool.not_eq_true'] at h
      obtain ⟨k1, k2, k3⟩ := sndMs F ts _ h.2
      exact snd_gtup (F.calm h.1) F.K k1 k2 k3
    · cases h
theorem sndMs (F : StF X G W E P S sub) : ∀ (ts : MGs) (es : List Expr), chkMs P S ts es = true → PGs X es (gAs G (asgs E ts)) ∧ (assignEach es X.env).length = gLen ts ∧ (assignEach es X.env).findIdx? (·.1) = none
  | .nil, es, h => by
    unfold chkMs at h
    split at h
    · refine ⟨PGs.imp (snd_gnil (G := G)) fun vs σ H K hh => ?_, rfl, rfl⟩
      obtain ⟨p, ρ, ds, q1, q2, q3, q4, q5⟩ := hh
      refine ⟨p, ρ, ds, q1, q2, q3, q4, ?_⟩
      cases ds with
      | nil => unfold asgs at q5; exact q5
      | cons _ _ => unfold asgs at q5; exact q5
    · cases h
  | .cons t ts, es, h => by
    unfold chkMs at h
    split at h
    · rename_i e es
      simp only [Bool.and_eq_true] at h
      have h1 := sndM F t e h.1.2
      obtain ⟨h2, h3, h4⟩ := sndMs F ts es h.2
      have hs := assignEach_plain (es := es) (env := X.env) h.1.1
      refine ⟨PGs.imp (snd_gcons (fun w w' => pgs_cons w w' (by rw [hs]; rfl)) h1 h2) fun vs σ H K hh => ?_, by rw [hs]; simp [gLen, h3], ?_⟩
      · obtain ⟨p, ρ, ds, q1, q2, q3, q4, q5⟩ := hh
        refine ⟨p, ρ, ds, q1, q2, q3, q4, ?_⟩
        cases ds with
        | nil => unfold asgs at q5; exact q5
        | cons _ _ => unfold asgs at q5; exact q5
      · rw [hs, List.findIdx?_cons]
        simp [h4]
    · cases h
end
theorem plain_store (F : StF X G W E P S sub) {tg v : Expr} {line : Nat} (h : plainStore S tg v = true) : swapsWithSole [tg] v line X.env = pure false ∧ swappedStores [tg] v X.env = pure none := by
  unfold plainStore at h
  simp only [Bool.and_eq_true, Bool.not_eq_true'] at h
  refine ⟨by show swapsWith v (some tg) line X.env = _; rw [sw_ok F.toCxF, h.1], ?_⟩
  have h2 := h.2
  split at h2
  · split at h2
    · rename_i hs
      exact stores_ok F.toCxF hs
    · cases h2
  · exact stores_no (by simpa using h2)
theorem ok_aug (F : StF X G W E P S sub) {o : O2} {op : Operator} (h : augOp o = some op) : OkAug G X op o := by
  cases o <;> first | (cases h; done) | cases h
  · exact ok_augadd F.K
  · exact ok_augsub
end
end EV
set_option Elab.async false
set_option linter.all false
set_option maxRecDepth 100000
set_option maxHeartbeats 4000000
/-! EV, part Zd: statements, all of them. -/
namespace EV
open PySem PySem.Spec PyProof.Rows L2 LamX RZ HT
theorem PSs.cond {X : Cx} {s : List Stmt} {w : TS} {Q : Prop} (h : Q → PSs X s w) : PSs X s (fun Dn σ H => Q ∧ w Dn σ H) := ⟨fun pins st σ H D I ⟨q, z⟩ => (h q).run pins st σ H D I z⟩
theorem PS.of {X : Cx} {G : Gn} {W : WX} {s : Stmt} {x y : Env' → Store → Ro} (h : PS X s (tS G W x)) (e : ∀ ρ S, y ρ S = x ρ S) : PS X s (tS G W y) := by
  have : y = x := by funext ρ S; exact e ρ S
  rw [this]
  exact h
mutual
theorem sndS {X : Cx} {G : Gn} {W : WX} {E : Ec} {P : PF} {S : Sx} {sub : Nat → Nat → Option Bool} (F : StF X G W E P S sub) : ∀ (m : MS) (s : Stmt), chkS P S m s = true → PS X s (tS G W (exec E sub m))
  | .asg t e, s, h => by
    unfold chkS at h
    split at h
    · rename_i tg v pos
      rw [Bool.or_eq_true] at h
      rcases h with h | h
      · simp only [Bool.and_eq_true] at h
        obtain ⟨k1, k2⟩ := plain_store (line := pos.line) F h.1.1
        exact snd_asg (sndE F.toCxF false e v h.2) (sndM F t tg h.1.2) k1 k2 (asg_one (chkM_star h.1.2))
      · rw [Bool.and_eq_true] at h
        obtain ⟨hsw, h⟩ := h
        split at h
        · rename_i i live m x p
          simp only [Bool.and_eq_true, decide_eq_true_eq] at h
          obtain ⟨⟨⟨h1, h2⟩, h3⟩, h4⟩ := h
          obtain ⟨k1, k2, k3, k4⟩ := F.tgt h1
          have hsw' : swapsWith v (some (.Name x p)) pos.line X.env = pure true := by rw [sw_ok F.toCxF, hsw]
          cases m with
          | comp elt tg it cond own =>
            unfold chkC at h3
            split at h3
            · rename_i xx g scope pp
              simp only [Bool.and_eq_true, decide_eq_true_eq, Bool.not_eq_true', Option.isNone_iff_eq_none] at h3
              obtain ⟨⟨⟨⟨⟨⟨⟨⟨⟨⟨g1, g2⟩, g3⟩, g4⟩, g5⟩, g6⟩, g7⟩, g8⟩, g9⟩, g10⟩, g11⟩ := h3
              obtain ⟨tgt, iter, ifs, asy⟩ := g
              simp only at g3 g4 g5 g9 g10
              subst g3
              have B := blk_of F.toCxF g6
              have hc := F.calm g1
              have hN := ownN_map S own
              have r := snd_asgLc (live := live) (t := tg) (xi := evI E it) (xc := evCond E cond) (xe := ev E elt) hc F.nd k1 (by rw [F.names]; exact h2) hsw' (sndI F.toCxF it tgt iter g5) B (by rw [hN]; exact g7) (by
                  rw [hN]
                  intro w hw
                  rw [List.all_eq_true] at g8
                  exact F.ok w (g8 w hw)) k4
                (fun s H C cl fp => sndG (F.toCxF.blk g2 B s H C cl fp) hc tg tgt g9) (fun s H C cl fp => sndF (F.toCxF.blk g2 B s H C cl fp) cond ifs g10)
                (fun s H C cl fp => sndE (F.toCxF.blk g2 B s H C cl fp) false elt xx g11) (fold_ok g4)
              rw [hN] at r
              exact r
            · cases h3
          | disp es => unfold chkC at h3; split at h3 <;> first | (cases h4; done) | cases h3
          | lof a => unfold chkC at h3; split at h3 <;> first | (cases h4; done) | cases h3
          | ddisp kvs => unfold chkC at h3; split at h3 <;> first | (cases h4; done) | cases h3
          | split a b => unfold chkC at h3; split at h3 <;> first | (cases h4; done) | cases h3
        · cases h
    · cases h
  | .par is es, s, h => by
    unfold chkS at h
    split at h
    · rename_i ts k p vs k2 p2 pos
      rw [Bool.and_eq_true] at h
      obtain ⟨h0, h⟩ := h
      have hc := F.calm (by simpa using h0)
      split at h
      · rename_i ns hst
        simp only [Bool.and_eq_true, decide_eq_true_eq] at h
        obtain ⟨⟨h1, h2⟩, h3⟩ := h
        have hsw := stores_ok F.toCxF (k := k) (k2 := k2) (p := p) (p2 := p2) hst
        have hs1 : swapsWithSole [.Tuple ts k p] (.Tuple vs k2 p2) pos.line X.env = pure false := rfl
        have ha := sndA F.toCxF es vs h2
        unfold parB at h1
        split at h1
        · rename_i i j x px y py a b
          simp only [Bool.and_eq_true, decide_eq_true_eq] at h1
          obtain ⟨⟨⟨⟨⟨⟨t1, t2⟩, l1⟩, l2⟩, hij⟩, rfl⟩, rfl⟩ := h1
          obtain ⟨i1, _, _, i4⟩ := F.tgt t1
          obtain ⟨j1, _, _, j4⟩ := F.tgt t2
          match vs, h3, ha, hsw, hs1 with
          | [v1, v2], _, ha, hsw, hs1 => exact snd_par2 hc F.nd i1 j1 hij i4 j4 (by rw [F.names]; exact l1) (by rw [F.names]; exact l2) ha hsw hs1
        · rename_i i j l x px y py z pz a b c
          simp only [Bool.and_eq_true, decide_eq_true_eq] at h1
          obtain ⟨⟨⟨⟨⟨⟨⟨⟨⟨⟨⟨t1, t2⟩, t3⟩, l1⟩, l2⟩, l3⟩, hij⟩, hil⟩, hjl⟩, rfl⟩, rfl⟩, rfl⟩ := h1
          obtain ⟨i1, _, _, i4⟩ := F.tgt t1
          obtain ⟨j1, _, _, j4⟩ := F.tgt t2
          obtain ⟨m1, _, _, m4⟩ := F.tgt t3
          match vs, h3, ha, hsw, hs1 with
          | [v1, v2, v3], _, ha, hsw, hs1 => exact snd_par3 hc F.nd i1 j1 m1 hij hil hjl i4 j4 m4 (by rw [F.names]; exact l1) (by rw [F.names]; exact l2) (by rw [F.names]; exact l3) ha hsw hs1
        · cases h1
      · cases h
    · cases h
  | .augv i o e, s, h => by
    unfold chkS at h
    split at h
    · simp only [Bool.and_eq_true, decide_eq_true_eq] at h
      obtain ⟨k1, k2, k3, k4⟩ := F.tgt h.1.2
      exact snd_augv F.nd k1 k2 (sndE F.toCxF false e _ h.2) (ok_aug F h.1.1) k3 k4
    · cases h
  | .auga a f o e, s, h => by
    unfold chkS at h
    split at h
    · simp only [Bool.and_eq_true, decide_eq_true_eq] at h
      obtain ⟨⟨⟨h1, rfl⟩, h3⟩, h4⟩ := h
      rw [← F.fld]
      exact snd_auga F.K F.CF (sndE F.toCxF false a _ h3) (sndE F.toCxF false e _ h4) (ok_aug F h1)
    · cases h
  | .augx _ _ _ _, s, h => by
    unfold chkS at h
    cases h
  | .ex e, s, h => by
    unfold chkS at h
    split at h
    · simp only [Bool.and_eq_true, Option.isNone_iff_eq_none] at h
      exact snd_ex (sw0_ok h.1) (sndE F.toCxF false e _ h.2)
    · cases h
  | .ret e, s, h => by
    unfold chkS at h
    split at h
    · exact snd_ret (sndE F.toCxF false e _ h)
    · cases h
  | .retN, s, h => by
    unfold chkS at h
    split at h
    · exact snd_retN
    · cases h
  | .if_ c a b, s, h => by
    unfold chkS at h
    split at h
    · simp only [Bool.and_eq_true] at h
      exact snd_if (sndE F.toCxF true c _ h.1.1) (sndB F a _ h.1.2) (sndB F b _ h.2)
    · cases h
  | .while_ c b, s, h => by
    unfold chkS at h
    split at h
    · simp only [Bool.and_eq_true, Bool.not_eq_true'] at h
      exact snd_while (n := wFuel) (F.pass h.1.1) (sndE F.toCxF true c _ h.1.2) (sndB F b _ h.2)
    · cases h
  | .for_ tg it b, s, h => by
    unfold chkS at h
    split at h
    · simp only [Bool.and_eq_true, Bool.not_eq_true'] at h
      obtain ⟨⟨⟨⟨h1, h2⟩, h3⟩, h4⟩, h5⟩ := h
      exact snd_for (F.pass h1) (F.calm h1) (sndI F.toCxF it _ _ h3) (sndG F.toCxF (F.calm h1) tg _ h4) (sndB F b _ h5) (fold_ok h2)
    · cases h
  | .brk, s, h => by
    unfold chkS at h
    split at h
    · exact snd_brk
    · cases h
  | .cont, s, h => by
    unfold chkS at h
    split at h
    · exact snd_cont
    · cases h
  | .pass, s, h => by
    unfold chkS at h
    split at h
    · exact snd_pass
    · cases h
  | .raise c args, s, h => by
    unfold chkS at h
    split at h
    · simp only [Bool.and_eq_true, Bool.not_eq_true', decide_eq_true_eq] at h
      obtain ⟨⟨⟨h1, h2⟩, h3⟩, h4⟩ := h
      obtain ⟨k1, k2, k3⟩ := F.glo h2
      obtain ⟨q1, q2⟩ := F.exc h1 c _ h3
      have ha := sndA F.toCxF args _ h4
      obtain ⟨fs, hx, q2⟩ := q2
      · refine PS.of (snd_raise (F.calm h1) F.tk q2 k1 q1 k2 (chkA_star h4) ha) fun ρ S => ?_
        show (evs E args ρ S).ro ρ _ = _
        simp only [hx]
    · cases h
  | .try_ b hs, s, h => by
    unfold chkS at h
    split at h
    · simp only [Bool.and_eq_true, Bool.not_eq_true'] at h
      obtain ⟨⟨h1, h2⟩, h3⟩ := h
      obtain ⟨q1, q2, q3, q4⟩ := F.hst h1
      obtain ⟨w1, w2⟩ := sndH F h1 hs _ h3
      exact snd_try F.K q3 F.SF F.nd q1 q2 F.tk (fun W' pn xe tk hp => sndB (F.tr h1 tk hp) b _ h2) w1 w2
    · cases h
theorem sndB {X : Cx} {G : Gn} {W : WX} {E : Ec} {P : PF} {S : Sx} {sub : Nat → Nat → Option Bool} (F : StF X G W E P S sub) : ∀ (m : MB) (ss : List Stmt), chkB P S m ss = true → PSs X ss (tS G W (execs E sub m))
  | .nil, ss, h => by
    unfold chkB at h
    split at h
    · exact snd_ssnil
    · cases h
  | .cons m ms, ss, h => by
    unfold chkB at h
    split at h
    · simp only [Bool.and_eq_true] at h
      exact snd_sscons (sndS F m _ h.1) (sndB F ms _ h.2)
    · cases h
theorem sndH {X : Cx} {G : Gn} {W : WX} {E : Ec} {P : PF} {S : Sx} {sub : Nat → Nat → Option Bool} (F : StF X G W E P S sub) (hh : S.hot = false) : ∀ (m : MHs) (hds : List ExceptHandler), chkH P S m hds = true → ClOk X hds (clOf G E sub m) ∧ ∀ i ∈ slotsOf m, G.okS i
  | .nil, hds, h => by
    unfold chkH at h
    split at h
    · exact ⟨.nil, fun i z => by cases z⟩
    · cases h
  | .cons c slot b r, hds, h => by
    unfold chkH at h
    split at h
    · rename_i x np n s ss hp hds
      simp only [Bool.and_eq_true, decide_eq_true_eq] at h
      obtain ⟨⟨⟨⟨h1, h2⟩, h3⟩, h4⟩, h5⟩ := h
      obtain ⟨k1, k2, k3⟩ := F.glo h1
      obtain ⟨q1, q2⟩ := F.exc hh c _ h2
      obtain ⟨w1, w2⟩ := sndH F hh r hds h5
      refine ⟨.cons ⟨k1, k2, .inl q1⟩ ?_ (fun a oe cls d pn hz hf => PSs.ex fun e => PSs.ex fun fs => PSs.ex fun vs => PSs.cond fun hq => sndB (F.suite hh hz hf hq.1 hq.2) b _ h4) w1, fun i hi => ?_⟩
      · revert h3
        cases n with
        | none => cases slot with
          | none => exact fun _ => True.intro
          | some i => exact fun h3 => by cases h3
        | some y => cases slot with
          | none => exact fun h3 => by cases h3
          | some i =>
            intro h3
            simp only [Bool.and_eq_true, decide_eq_true_eq] at h3
            exact ⟨by rw [F.N]; exact h3.1.1, by show X.env.scope.names.lookup y = _; rw [F.names]; exact h3.1.2⟩
      · unfold slotsOf at hi
        rcases List.mem_append.mp hi with hi | hi
        · cases slot with
          | none => cases hi
          | some j =>
            have : i = j := by simpa using hi
            subst this
            cases n with
            | none => cases h3
            | some y =>
              simp only [Bool.and_eq_true, decide_eq_true_eq] at h3
              exact F.ok i h3.2
        · exact w2 i hi
    · cases h
end
end EV
set_option Elab.async false
set_option linter.all false
set_option maxRecDepth 100000
set_option maxHeartbeats 4000000
/-! EV, part Ze: defs, by levels. -/
namespace EV
open PySem PySem.Spec PyProof.Rows L2 LamX RZ HT
/-- what is known of the program as it stands behind its top -/
structure Facts (prog : Program) (w : World) (K : PySem.W.Frag) (mg : Str → Option Value) (base : Heap) (G : Gn) (Gp : Prog) (P : PF) where
  name : Nat → Str
  qual : Nat → Str
  params : Nat → Arguments
  body : Nat → List Stmt
  scope : Nat → Scope
  dvs : Nat → List V
  kws : Nat → List (Str × V)
  fd : Nat → FuncData
  ps : Nat → List Str
  N : Nat → List Str
  th : Nat → Option Str
  lam : Nat → Bool
  gK : G.K = K
  gfld : G.fld = P.fld
  gcx : G.cx = none
  gth : G.th = none
  bi : ∀ x ∈ P.bi, mg x = none
  fnm : ∀ f x, P.fnN f = some x → mg x = some (.ref (P.fa f)) ∧ ∃ F, Gp.fns f = some F ∧ Gp.P.many f = F.many ∧ th f = none
  fun_ : ∀ f F, Gp.fns f = some F → FunD K (name f) (qual f) (params f) (body f) (scope f) (dvs f) (kws f) (P.fa f) (fd f)
  sc : ∀ f F, Gp.fns f = some F → FnScope (N f) (ps f) (scope f) ∧ (ps f).length = F.many ∧ (N f).length = F.slots ∧ chkB P { N := N f, names := (scope f).names, lk := (th f).isSome, th := th f, lam := lam f } F.body (body f) = true
  bnd : ∀ f F m, Gp.fns f = some F → ∃ (dv : List V) (ds : List Value), ((Gp.P.dfl f m).length ≤ F.many → Binds K (fd f) (ps f) ds) ∧ Vals dv ds ∧ ∀ p : Pt, RVs G p.H p.N p.α (Gp.P.dfl f m) dv
  lamc : ∀ f, lam f = true → ∃ c Pt : Addr, (fd f).code = .ref c ∧ TabB base mg c Pt ∧ (Pt, (qual f ++ ".<locals>." : Str) ++ "<lambda>") ∈ G.T ∧ ∀ p ∈ G.T, p.1 = Pt → p.2 = (qual f ++ ".<locals>." : Str) ++ "<lambda>"
  thk : ∀ f x, P.thN f = some x → mg x = some (.ref (P.fa f)) ∧ ∃ F a, Gp.fns f = some F ∧ th f = some a ∧ lam f = false ∧ name f = x ∧ qual f = x ∧ ps f = [a] ∧ (N f)[0]? = some a ∧ Vis (scope f) a ∧ plainN a = true ∧ Binds K (fd f) [a] []
  me : ∀ m c f, Gp.P.meth c m = some f → Gp.P.cls c = true ∧ L2.Meth K (G.cls c) (G.fld m) (P.fa f) ∧ ∃ F, Gp.fns f = some F ∧ Gp.P.many f = F.many ∧ th f = none
  nw : ∀ c x, P.clN c = some x → ∃ f, Gp.P.init c = some f ∧ mg x = some (.ref (G.cls c)) ∧ PySem.W.keepIn K (.ref (G.cls c)) = true ∧ Mk K (G.cls c) (P.fa f) ∧ ∃ F, Gp.fns f = some F ∧ Gp.P.many f = F.many ∧ th f = none
  gl : ∀ n x, P.glN n = some x → ∃ v u, mg x = some u ∧ RelV v u ∧ ∀ (p : Pt) (d : D), Gp.P.glob n = some d → RV G p.H p.N p.α d v
  CF : ClsF G Gp.P.cls Gp.P.fok
  KF : KitF G Gp.P.cls P.tys
  ty : ∀ x t, P.tyN.lookup x = some t → t ∈ P.tys ∧ ∃ u, RelV (tyW G t) u ∧ (mg x = some u ∨ (mg x = none ∧ bootBuiltins x = some u))
  exc : ∀ c x, P.exN c = some x → mg x = some (.ref (G.cls c)) ∧ ∃ fs, Gp.P.exf c = some fs ∧ fs.length ≤ 900 ∧ OexC K (G.cls c) ∧
    ∃ fI fdI psI, PySem.W.findIn K (.ref (G.cls c)) "__init__" = some (some (.ref fI)) ∧ PySem.W.typeIn K (.ref fI) = some (.type "function") ∧ FnOk prog w K mg base (L2.CX prog w) 1 fI fdI psI (spEx G (G.cls c) fs) ∧ Binds K fdI psI []
  SF : SubF G Gp.sub
  XF : ∀ c h, (Gp.sub c h).isSome = true → XfC G.K (G.cls c) ∧ ∀ f, Gp.P.fok c f = true → PySem.W.findIn G.K (.ref (G.cls c)) (G.fld f) = some none
section
variable {prog : Program} {w : World} {K : PySem.W.Frag} {mg : Str → Option Value} {base : Heap} {G : Gn} {Gp : Prog} {P : PF}
/-- the slots at the entry -/
theorem re_start {p : Pt} {N : List Str} {vs : List V} {ds : List D} (hcx : G.cx = none) (hth : G.th = none) (hl : ds.length ≤ N.length) (r : RVs G p.H p.N p.α ds vs) :
    RE G p (ds.map some ++ List.replicate (N.length - ds.length) none) (L2.start N vs) := by
  have l := r.length
  refine ⟨?_, fun i d h => ?_, fun c hc => by (rw [hcx] at hc; cases hc), fun t ht => by (rw [hth] at ht; cases ht)⟩
  · simp [L2.start, l]
  · by_cases hi : i < ds.length
    · rw [List.getElem?_append_left (by simpa using hi)] at h
      rw [List.getElem?_map, Option.map_eq_some_iff] at h
      obtain ⟨d', h1, h2⟩ := h
      cases h2
      obtain ⟨v, h3, h4⟩ := r.get h1
      refine ⟨v, ?_, h4⟩
      unfold L2.start
      rw [List.getElem?_append_left (by simp; omega), List.getElem?_map, h3]
      rfl
    · rw [List.getElem?_append_right (by simpa using hi), List.getElem?_replicate] at h
      split at h <;> cases h
/-- the rule for defs at a level -/
abbrev LevOk (Z : Facts prog w K mg base G Gp P) (j : Nat) : Prop := ∀ f F, Gp.fns f = some F → Z.th f = none → FnOk prog w K mg base (L2.CX prog w) (4 * j + 1) (P.fa f) (Z.fd f) (Z.ps f) (spF G F.many (fnk Gp j f))
/-- what does not hang on the place -/
theorem Facts.cal (Z : Facts prog w K mg base G Gp P) {j : Nat} (ih : LevOk Z j) {X : Cx} {G' : Gn} (hG : G'.toGb = G.toGb) (e1 : X.prog = prog) (e2 : X.w = w) (e3 : X.K = K) (e4 : X.mg = mg) (e5 : X.base = base) (hr : Room (4 * j + 2) X.A) :
    ∀ g Fg, Gp.fns g = some Fg → Gp.P.many g = Fg.many → Z.th g = none → ∀ m, Callee X G' (P.fa g) (Gp.P.many g) (fnk Gp j g) (Gp.P.dfl g m) := by
  subst e1 e2 e3 e4 e5
  intro g Fg hg hm ht m
  obtain ⟨dv, ds, b1, b2, b3⟩ := Z.bnd g Fg m hg
  rw [hm]
  have h1 : spF G' Fg.many (fnk Gp j g) = spF G Fg.many (fnk Gp j g) := by
    unfold spF
    rw [hG]
  have F1 := ih g Fg hg ht
  exact ⟨4 * j + 1, Z.fd g, Z.ps g, dv, ds, by rw [h1]; exact F1, hr, b1, b2, fun p => by rw [hG]; exact b3 p⟩
theorem Facts.kp (Z : Facts prog w K mg base G Gp P) {g : Nat} {Fg : Fd} (hg : Gp.fns g = some Fg) : PySem.W.keepIn K (.ref (P.fa g)) = true := (Z.fun_ g Fg hg).kp
/-- the place of a body, be it a def's or a lambda's -/
theorem Facts.base0 (Z : Facts prog w K mg base G Gp P) {j : Nat} (ih : LevOk Z j) {X : Cx} {G' : Gn} {W : WX} {S : Sx} {th : Option (Store → Rs D)} (hG : G'.toGb = G.toGb) (e1 : X.prog = prog) (e2 : X.w = w) (e3 : X.K = K) (e4 : X.mg = mg) (e5 : X.base = base) (hr : Room (4 * j + 2) X.A)
    (hN : X.N = S.N) (nd : X.N.Nodup) (names : X.env.scope.names = S.names) (kind : X.env.scope.kind = .function) (calm : X.calm = true) (tk : L2.Takes X W) (hex : S.ex = none)
    (hth : ∀ x p1 p2 W' pn xe, S.th = some x → L2.Takes (X.tr pn xe) W' → PE (X.tr pn xe) (.Call (.Name x p1) [] [] p2) (tE G' W' (ev ⟨Gp.P, fnk Gp j, fnT Gp j, th, none⟩ .callP))) (fnc : ∀ x, S.all = true ∨ x ∈ S.fnc → X.fn x = true) (hok : ∀ i, okB S i = true → G'.okS i) :
    CxF0 X G' W ⟨Gp.P, fnk Gp j, fnT Gp j, th, none⟩ P S := by
  have cal := Z.cal ih (X := X) hG e1 e2 e3 e4 e5 hr
  obtain ⟨gb, cx0, th0⟩ := G'
  have hG : gb = G.toGb := hG
  subst hG
  refine { N := hN, nd := nd, names := names, kind := kind, K := e3.trans Z.gK.symm, fld := Z.gfld, calm := fun _ => calm, un := by (have := hr.un; omega), tk := tk, bi := by (rw [e4]; exact Z.bi), fn := fun _ g x hg => ?_, me := fun _ m c g hg => ?_, nw := fun _ c x hc => ?_, gl := by (rw [e4]; exact Z.gl), CF := ⟨Z.CF.inj, Z.CF.cls, Z.CF.no⟩, KF := ⟨Z.KF.kit, Z.KF.at_, Z.KF.mro, Z.KF.get, Z.KF.tk⟩, ty := by (rw [e4]; exact Z.ty), ex := fun i x f p1 p2 h => (by rw [hex] at h; cases h), th := hth, fnc := fnc, ok := hok }
  · obtain ⟨q1, Fg, q2, q3, q4⟩ := Z.fnm g x hg
    rw [e4, e3]
    exact ⟨q1, Z.kp q2, cal g Fg q2 q3 q4⟩
  · obtain ⟨q1, q2, Fg, q3, q4, q5⟩ := Z.me m c g hg
    exact ⟨q1, by show L2.Meth G.K _ _ _; rw [Z.gK]; exact q2, cal g Fg q3 q4 q5⟩
  · obtain ⟨g, q1, q2, q3, q4, Fg, q5, q6, q7⟩ := Z.nw c x hc
    rw [e4, e3]
    exact ⟨g, q1, q2, q3, fun i => ⟨P.fa g, by rw [e3]; exact q4, cal g Fg q5 q6 q7 i⟩⟩
theorem Facts.excs (Z : Facts prog w K mg base G Gp P) {X : Cx} {G' : Gn} (hG : G'.toGb = G.toGb) (e1 : X.prog = prog) (e2 : X.w = w) (e3 : X.K = K) (e4 : X.mg = mg) (e5 : X.base = base) (hr : Room 2 X.A) :
    ∀ c x, P.exN c = some x → X.mg x = some (.ref (G'.cls c)) ∧ ∃ fs, Gp.P.exf c = some fs ∧ ExC X G' c fs := by
  subst e1 e2 e3 e4 e5
  obtain ⟨gb, cx0, th0⟩ := G'
  have hG : gb = G.toGb := hG
  subst hG
  intro c x hc
  obtain ⟨q1, fs, q2, q3, q4, fI, fdI, psI, q5, q6, q7, q8⟩ := Z.exc c x hc
  exact ⟨q1, fs, q2, fI, 1, fdI, psI, q4, q5, q6, q7, hr, q8, q3⟩
/-- the place at the entry of a def that calls what it got -/
theorem Facts.placeT (Z : Facts prog w K mg base G Gp P) {j : Nat} (ih : LevOk Z j) {f : Nat} {F : Fd} {a : Str} (hF : Gp.fns f = some F) {G' : Gn} (hG : G'.toGb = G.toGb) (hcx : G'.cx = none) {t : Store → Rs D}
    {q : Str} {cdv : Value} {A : Around} {outer : List Env} {s : Shared} {H : Hp} {E : XK} (hr : Room (4 * j + 2) (A.deeper (envOfC q (Z.scope f) s.heap.objs.size (P.fa f) cdv)))
    (hact : ∀ (W : WX) (pn : List (Addr × Obj)) (xe : Value → Shared → Prop) (p1 p2 : Pos), L2.Takes ((cxOf (L2.CX prog w) prog w K mg base (Z.N f) q (Z.scope f) (P.fa f) cdv A outer s H E).tr pn xe) W →
        PE ((cxOf (L2.CX prog w) prog w K mg base (Z.N f) q (Z.scope f) (P.fa f) cdv A outer s H E).tr pn xe) (.Call (.Name a p1) [] [] p2) (tE G' W fun _ S => t S)) :
    StF (cxOf (L2.CX prog w) prog w K mg base (Z.N f) q (Z.scope f) (P.fa f) cdv A outer s H E) G' (fun c d _ H' => E c d H') ⟨Gp.P, fnk Gp j, fnT Gp j, some t, none⟩ P { N := Z.N f, names := (Z.scope f).names, lk := true, th := some a, lam := false } Gp.sub := by
  obtain ⟨sc1, sc2, sc3, sc4⟩ := Z.sc f F hF
  have B := Z.base0 ih (X := cxOf (L2.CX prog w) prog w K mg base (Z.N f) q (Z.scope f) (P.fa f) cdv A outer s H E) (G' := G') (W := fun c d _ H' => E c d H') (S := { N := Z.N f, names := (Z.scope f).names, lk := true, th := some a, lam := false }) (th := some t) hG rfl rfl rfl rfl rfl hr rfl sc1.nd rfl sc1.kind rfl (takes_of rfl rfl rfl rfl) rfl
    (fun x p1 p2 W' pn xe hx tk => by
      cases hx
      exact hact W' pn xe p1 p2 tk) (fun _ _ => rfl) (fun i hi => ⟨fun c hc => by (rw [hcx] at hc; cases hc), fun t' _ e => by
      subst e
      simp [okB] at hi⟩)
  refine { toCxF0 := B, lm := fun z => (by cases z), pass := fun _ => passes_of rfl, exc := fun _ => Z.excs hG rfl rfl rfl rfl rfl (hr.mono (by omega)), hst := fun _ => ⟨rfl, rfl, hcx, rfl⟩, SF := ?_, XF := ?_ }
  · rw [hG]; exact Z.SF
  · obtain ⟨gb, cx0, th0⟩ := G'
    have hG : gb = G.toGb := hG
    subst hG
    exact Z.XF
end
end EV
set_option Elab.async false
set_option linter.all false
set_option maxRecDepth 100000
set_option maxHeartbeats 4000000
/-! EV, part Zf: lambdas by levels; all defs by levels. -/
namespace EV
open PySem PySem.Spec PyProof.Rows L2 LamX RZ HT
section
variable {prog : Program} {w : World} {K : PySem.W.Frag} {mg : Str → Option Value} {base : Heap} {G : Gn} {Gp : Prog} {P : PF}
theorem noPar_ok {a : Arguments} (h : noParB a = true) : a = { posonlyargs := [], args := [], vararg := none, kwonlyargs := [], kw_defaults := [], kwarg := none, defaults := [] } := by
  unfold noParB at h
  split at h
  · rfl
  · cases h
/-- x(lambda: body), in the body of a def -/
theorem Facts.thunk (Z : Facts prog w K mg base G Gp P) : ∀ (j : Nat) (ih : ∀ i ≤ j, LevOk Z i) {X : Cx} {W : WX} {S : Sx} (e1 : X.prog = prog) (e2 : X.w = w) (e3 : X.K = K) (e4 : X.mg = mg) (e5 : X.base = base) (hr : Room (4 * j + 4) X.A)
    (hN : X.N = S.N) (nd : X.N.Nodup) (hglo : ∀ x, glB S x = true → Gl X x ∧ (x == ("__debug__" : Str)) = false) (tk : L2.Takes X W) {c Pt : Addr} (hcode : X.env.code = .ref c) (TB : TabB base mg c Pt) (hT : (Pt, X.env.qual ++ "<lambda>") ∈ G.T) (hu : ∀ p ∈ G.T, p.1 = Pt → p.2 = X.env.qual ++ "<lambda>")
    (f : Nat) (x : Str) (m : ME) (scope : Scope) (b : Expr) (params : Arguments) (p lpos pos : Pos) (hf : P.thN f = some x) (hg : glB S x = true) (L : LamS X.env.scope scope) (hp : noParB params = true)
    (hb : ∀ X' W'', CxF0 X' G W'' ⟨Gp.P, fnk Gp j, fnT Gp j, none, none⟩ P (lamS S scope) → PE X' b (tE G W'' (ev ⟨Gp.P, fnk Gp j, fnT Gp j, none, none⟩ m))),
    PE X (.Call (.Name x p) [.Lambda params b scope lpos] [] pos) (tE G W (ev ⟨Gp.P, fnk Gp j, fnT Gp j, none, none⟩ (.thunk f m)))
  | 0, ih, X, W, S, e1, e2, e3, e4, e5, hr, hN, nd, hglo, tk, c, Pt, hcode, TB, hT, hu, f, x, m, scope, b, params, p, lpos, pos, hf, hg, L, hp, hb => by
    refine PE.imp (PE.stuck (G := G) (W := W)) fun σ H Q hq => ?_
    obtain ⟨pp, ρ, w1, w2, w3, w4⟩ := hq
    exact w4.elim
  | i + 1, ih, X, W, S, e1, e2, e3, e4, e5, hr, hN, nd, hglo, tk, c, Pt, hcode, TB, hT, hu, f, x, m, scope, b, params, p, lpos, pos, hf, hg, L, hp, hb => by
    obtain ⟨q1, F, a, q2, q3, q4, q5, q6, q7, q8, q9, q10, q11⟩ := Z.thk f x hf
    obtain ⟨oc, od, dV, kV, doc, pm, an, cdv, ct, osl, efd, lk, hcd, _, _⟩ := (Z.fun_ f F q2).ex
    obtain ⟨sc1, sc2, sc3, sc4⟩ := Z.sc f F q2
    obtain ⟨g1, g2⟩ := hglo x hg
    obtain ⟨d1, d2, _⟩ := plain_of q10
    have hpar := noPar_ok hp
    rw [q5, q6] at efd
    rw [q6] at hcd
    rw [efd] at lk q11
    rw [q7] at sc1
    rw [q3, q4] at sc4
    subst e1 e2 e3 e4 e5
    have r := snd_thunk (X := X) (W := W) (G := G) (k := 4 * i + 6) (params := params) (body := b) (scope := scope) (p := p) (lpos := lpos) (pos := pos) (xb := ev ⟨Gp.P, fnk Gp (i + 1), fnT Gp (i + 1), none, none⟩ m) (xg := fun t => execs ⟨Gp.P, fnk Gp i, fnT Gp i, some t, none⟩ Gp.sub F.body)
      Z.gK.symm tk Z.gcx g1 q1 (Z.kp q2) lk hcd q11 sc1 q8 q9
      (fun G' fL c' p0 s H E t hG hcx hth hr2 hact => sndB (Z.placeT (ih i (Nat.le_succ _)) (a := a) q2 hG hcx (hr2.mono (by omega)) hact) F.body (Z.body f) sc4)
      TB hcode hT hu (hr.mono (by omega)) L (by rw [hpar]; rfl) (by rw [hpar]; exact fun _ _ _ _ _ => rfl)
      (fun E A outer s H fL c' hr3 => hb _ _ (Z.base0 (ih (i + 1) (Nat.le_refl _)) (G' := G) (S := lamS S scope) (th := none) rfl rfl rfl rfl rfl rfl (hr3.mono (by omega)) hN nd rfl L.kind rfl (takes_of rfl rfl rfl rfl) rfl
        (fun x p1 p2 W' pn xe hx => by cases hx) (fun x hx => by
          rcases hx with hx | hx
          · cases hx
          · cases hx) (fun i _ => ⟨fun c hc => by (rw [Z.gcx] at hc; cases hc), fun t ht => by (rw [Z.gth] at ht; cases ht)⟩)))
      g2 d1 d2
    refine PE.imp r fun σ H Q hq => ?_
    obtain ⟨pp, ρ, w1, w2, w3, w4⟩ := hq
    refine ⟨pp, ρ, w1, w2, w3, ?_⟩
    unfold ev at w4
    simp only [fnT, q2] at w4
    rw [sc3]
    exact w4
/-- the place at a def's entry -/
theorem Facts.place (Z : Facts prog w K mg base G Gp P) {j : Nat} (ih : ∀ i ≤ j, LevOk Z i) {f : Nat} {F : Fd} (hF : Gp.fns f = some F) (hth : Z.th f = none)
    {cdv : Value} (hcd : (Z.fd f).code = cdv) {A : Around} {outer : List Env} {s : Shared} {H : Hp} {E : XK} (hr : Room (4 * j + 4) (A.deeper (envOfC (Z.qual f) (Z.scope f) s.heap.objs.size (P.fa f) cdv))) :
    StF (cxOf (L2.CX prog w) prog w K mg base (Z.N f) (Z.qual f) (Z.scope f) (P.fa f) cdv A outer s H E) G (fun c d _ H' => E c d H') ⟨Gp.P, fnk Gp j, fnT Gp j, none, none⟩ P { N := Z.N f, names := (Z.scope f).names, lk := (Z.th f).isSome, th := Z.th f, lam := Z.lam f } Gp.sub := by
  obtain ⟨sc1, sc2, sc3, sc4⟩ := Z.sc f F hF
  rw [hth]
  have B := Z.base0 (ih j (Nat.le_refl _)) (X := cxOf (L2.CX prog w) prog w K mg base (Z.N f) (Z.qual f) (Z.scope f) (P.fa f) cdv A outer s H E) (G' := G) (W := fun c d _ H' => E c d H') (S := { N := Z.N f, names := (Z.scope f).names, lk := (none : Option Str).isSome, th := none, lam := Z.lam f }) (th := none) rfl rfl rfl rfl rfl rfl (hr.mono (by omega)) rfl sc1.nd rfl sc1.kind rfl (takes_of rfl rfl rfl rfl) rfl
    (fun x p1 p2 W' pn xe hx => by cases hx) (fun _ _ => rfl) (fun i _ => ⟨fun c hc => by (rw [Z.gcx] at hc; cases hc), fun t ht => by (rw [Z.gth] at ht; cases ht)⟩)
  refine { toCxF0 := B, lm := fun hl _ W' pn xe tk f' x m scope b params p lpos pos h1 h2 h3 h4 h5 => ?_, pass := fun _ => passes_of rfl, exc := fun _ => Z.excs rfl rfl rfl rfl rfl rfl (hr.mono (by omega)), hst := fun _ => ⟨rfl, rfl, Z.gcx, rfl⟩, SF := Z.SF, XF := Z.XF }
  obtain ⟨c, Pt, k1, k2, k3, k4⟩ := Z.lamc f hl
  refine Z.thunk j ih (X := (cxOf (L2.CX prog w) prog w K mg base (Z.N f) (Z.qual f) (Z.scope f) (P.fa f) cdv A outer s H E).tr pn xe) (W := W') (S := { N := Z.N f, names := (Z.scope f).names, lk := (none : Option Str).isSome, th := none, lam := Z.lam f }) (c := c) (Pt := Pt) rfl rfl rfl rfl rfl hr rfl sc1.nd (fun y hy => ?_) tk (hcd.symm.trans k1) k2 k3 k4 f' x m scope b params p lpos pos h1 h2 h3 h4 h5
  unfold glB at hy
  simp only [Bool.and_eq_true, decide_eq_true_eq] at hy
  exact ⟨hy.1, (plain_of hy.2).1⟩
theorem Facts.level (Z : Facts prog w K mg base G Gp P) (j : Nat) : ∀ i ≤ j, LevOk Z i := by
  induction j with
  | zero =>
    intro i hi f F hF _
    obtain rfl : i = 0 := by omega
    exact ⟨fun vs H Q E ⟨p, ds, _, _, hl, r, _⟩ => by rw [(Z.sc f F hF).2.1, ← r.length, hl], fun A outer s H args us vs Q E _ _ _ _ ⟨p, ds, _, _, _, _, z⟩ => by
      unfold fnk at z
      exact z.elim⟩
  | succ j ih =>
    intro i hi f F hF hth
    by_cases hij : i ≤ j
    · exact ih i hij f F hF hth
    obtain rfl : i = j + 1 := by omega
    obtain ⟨sc1, sc2, sc3, sc4⟩ := Z.sc f F hF
    obtain ⟨oc, od, dV, kV, doc, pm, an, cdv, ct, osl, efd, lk, hcd, _, _⟩ := (Z.fun_ f F hF).ex
    have hc : (Z.fd f).code = cdv := by rw [efd]
    rw [efd] at lk
    show FnOk prog w K mg base (L2.CX prog w) (4 * (j + 1) + 1) (P.fa f) (Z.fd f) (Z.ps f) (spF G F.many (fnk Gp (j + 1) f))
    rw [efd]
    refine fn_of (k := 4 * j + 4) lk hcd sc1 (fun vs H Q E ⟨p, ds, _, _, hl, r, _⟩ => by rw [sc2, ← r.length, hl]) fun A outer s H vs Q E hr h => ?_
    obtain ⟨p, ds, rfl, ok, hl, r, z⟩ := h
    have hpl : (Z.ps f).length ≤ (Z.N f).length := by have := congrArg List.length sc1.pre; rw [List.length_take] at this; omega
    have fin : ∀ {es : List D} {p' : Pt}, p'.H = p.H → p'.ok G → RVs G p'.H p'.N p'.α es vs → es.length = F.many →
        Post G (RelD G) p' (bodyOf (execs ⟨Gp.P, fnk Gp j, fnT Gp j, none, none⟩ Gp.sub F.body (fEnv F es) p'.S)) Q E →
        ∃ b, PSs (cxOf (L2.CX prog w) prog w K mg base (Z.N f) (Z.qual f) (Z.scope f) (P.fa f) cdv A outer s p.H E) (Z.body f) b ∧ b { nx := fun _ H' => Q .non H', rt := Q } (L2.start (Z.N f) vs) p.H := fun {es p'} hH ok' r' hl' z => by
      refine ⟨_, sndB (Z.place ih hF hth hc hr) F.body (Z.body f) sc4, p', fEnv F es, hH, ok', ?_, ?_⟩
      · have := re_start (G := G) (N := Z.N f) Z.gcx Z.gth (by omega) r'
        unfold fEnv
        rw [← sc3]
        exact this
      · cases hx : execs ⟨Gp.P, fnk Gp j, fnT Gp j, none, none⟩ Gp.sub F.body (fEnv F es) p'.S with
        | stuck => rw [hx] at z; exact z.elim
        | exc ρ' c fs vs S' => rw [hx] at z; exact fun σ' cls dd q hS hq ht _ xr => z cls dd q hS hq ht xr
        | fl fl S' =>
          rw [hx] at z
          cases fl with
          | nx ρ' => exact fun σ' q hS hq ht _ => z .non q hS hq ht .non
          | rt d => exact fun v q hS hq ht hv => z v q hS hq ht hv
          | bk ρ' => exact z.elim
          | ct ρ' => exact z.elim
    unfold fnk at z
    simp only [hF, hl, if_true] at z
    cases hm : F.mode with
    | plain =>
      rw [hm] at z
      exact fin rfl ok r hl z
    | trim =>
      rw [hm] at z
      exact fin rfl ok r hl (Post.trim ok z)
    | pure =>
      rw [hm] at z
      simp only at z
      cases he : ds.mapM (outV p.S 0 outF) with
      | none => rw [he] at z; exact z.elim
      | some es =>
        rw [he] at z
        have re := own_args ok r he
        exact fin (p' := ownPt p (lowDs 0 ds)) rfl (own_ok ok _) re (by rw [re.length, ← r.length, hl]) (Post.own ok z)
end
end EV
set_option Elab.async false
set_option linter.all false
set_option maxRecDepth 100000
/-! EV, part Zg: the law's end. -/
namespace EV
open PySem PySem.Spec PyProof.Rows L2 LamX RZ HT
section
variable {G : Gn} {fn : List D → Store → Rs D}
theorem ints_rv {p : Pt} : ∀ ns : List Int, RVs G p.H p.N p.α (ns.map D.int) (ns.map V.int)
  | [] => .nil
  | n :: ns => .cons (.int n) (ints_rv ns)
/-- the law's promise, from what the evaluator says of each script -/
theorem sp_law {K : PySem.W.Frag} {H : Hp} {a : Addr} {ns : List Int} (hK : G.K = K) (hcs : ∀ p ∈ G.T, H p.1 = some (.tbl #[])) (hS : SqL K H a (ns.map V.int)) (hev : ∃ S', fn [.scr (ns.map D.int)] [] = .ok (.bl true) S') :
    spF G 1 fn [.ref a] H (fun v _ => v = .bl true) fun _ _ _ => False := by
  obtain ⟨S', he⟩ := hev
  refine ⟨⟨H, fun _ => False, [], []⟩, [.scr (ns.map D.int)], rfl, ⟨rfl, fun n c e => by simp at e, fun i j b e => by simp at e, fun b n => n.elim, fun n b e => by simp at e, fun p hp => TabS.nil (hcs p hp)⟩, rfl, .cons (.scr ?_ (ints_rv ns)) .nil, ?_⟩
  · subst hK
    rcases hS with h | h
    · exact .inl ⟨h, fun z => z⟩
    · exact .inr (.inr h)
  · show Post G (RelD G) _ (fn [.scr (ns.map D.int)] []) _ _
    rw [he]
    intro v q _ _ _ r
    cases r
    rfl
end
end EV
set_option Elab.async false
set_option linter.all false
set_option maxRecDepth 100000
set_option maxHeartbeats 4000000
/-! EV, part Fa: what must be known of a program, from tables and a look at what stands behind its top. -/
namespace EV
open PySem PySem.Spec PyProof.Rows L2 LamX RZ HT
/-! ### binding -/
theorem zip_look : ∀ (ps : List Str) (us : List Value), us.length = ps.length → ∀ n ∈ ps, ((ps.zip us).lookup n).isNone = false
  | [], _, _, n, h => by cases h
  | p :: ps, [], hl, _, _ => by cases hl
  | p :: ps, u :: us, hl, n, h => by
    rw [List.zip_cons_cons, List.lookup_cons]
    by_cases e : n = p
    · subst e; simp
    · rw [show (n == p) = false by simpa using e]
      exact zip_look ps us (by simpa using hl) n (by simpa [e] using h)
theorem zip_binds : ∀ (ps : List Str) (us : List Value) (L : List (Str × Value)), us.length = ps.length → ps.Nodup → (∀ n ∈ ps, L.lookup n = none) → (ps.filterMap fun n => ((L ++ ps.zip us).lookup n).map fun x => (n, x)) = ps.zip us
  | [], us, _, _, _, _ => by simp
  | p :: ps, [], L, hl, _, _ => by cases hl
  | p :: ps, u :: us, L, hl, nd, h0 => by
    have lk : (L ++ (p :: ps).zip (u :: us)).lookup p = some u := by
      rw [List.lookup_append, h0 p (List.mem_cons_self ..)]
      simp
    have ih := zip_binds ps us (L ++ [(p, u)]) (by simpa using hl) (List.nodup_cons.mp nd).2 (fun n hn => by
      rw [List.lookup_append, h0 n (List.mem_cons_of_mem _ hn)]
      have : n ≠ p := fun e => (List.nodup_cons.mp nd).1 (e ▸ hn)
      have h2 : (n == p) = false := by simpa using this
      rw [List.lookup_cons, h2]
      rfl)
    rw [List.filterMap_cons, lk]
    simp only [Option.map_some, List.zip_cons_cons]
    rw [List.append_assoc] at ih
    simp only [List.singleton_append] at ih
    rw [ih]
def simpB (a : Arguments) (ps : List Str) : Bool := (match a with
  | { posonlyargs := [], args := _, vararg := none, kwonlyargs := [], kw_defaults := [], kwarg := none, defaults := _ } => true
  | _ => false) && decide (a.args.map (·.arg) = ps) && decide ps.Nodup
theorem bind_simple {x qual : Str} {params : Arguments} {body : List Stmt} {scope : Scope} {kV doc pm : Value} {an : Option Addr} {cdv ct : Value} {ps : List Str} (hs : simpB params ps = true) (us : List Value) (hl : us.length = ps.length) :
    bindArgs (PySem.W.fnOf x qual params body scope .none kV doc pm an cdv ct) ⟨us, []⟩ = pure (ps.zip us) := by
  unfold simpB at hs
  simp only [Bool.and_eq_true, decide_eq_true_eq] at hs
  obtain ⟨⟨hp, ha⟩, nd⟩ := hs
  split at hp
  · have hm : (ps.filter fun n => ((ps.zip us).lookup n).isNone) = [] := by
      rw [List.filter_eq_nil_iff]
      intro n hn
      rw [zip_look ps us hl n hn]
      simp
    have hb := zip_binds ps us [] hl nd (fun _ _ => rfl)
    simp only [List.nil_append] at hb
    simp only at ha
    have e0 : (notAStandIn Value.none : Sem Unit) = pure () := rfl
    unfold bindArgs
    simp [PySem.W.fnOf, seqItems?, ha, hl, hb, hm, e0]
  · cases hp
/-! ### tables -/
inductive Tr (α : Type) where
  | lf
  | nd (l : Tr α) (k : Nat) (v : α) (r : Tr α)
def Tr.get {α : Type} : Tr α → Nat → Option α
  | .lf, _ => none
  | .nd l k v r, n => cond (Nat.blt n k) (l.get n) (cond (Nat.blt k n) (r.get n) (some v))
def Tr.toList {α : Type} : Tr α → List (Nat × α)
  | .lf => []
  | .nd l k v r => l.toList ++ (k, v) :: r.toList
theorem Tr.mem {α : Type} : ∀ {t : Tr α} {n : Nat} {v : α}, t.get n = some v → (n, v) ∈ t.toList
  | .lf, _, _, h => by cases h
  | .nd l k x r, n, v, h => by
    unfold Tr.get at h
    unfold Tr.toList
    rw [List.mem_append, List.mem_cons]
    cases h1 : Nat.blt n k with
    | true => rw [h1] at h; exact .inl (Tr.mem h)
    | false =>
      rw [h1] at h
      cases h2 : Nat.blt k n with
      | true => rw [h2] at h; exact .inr (.inr (Tr.mem h))
      | false =>
        rw [h2] at h
        have e1 : ¬ n < k := fun q => by
          have : Nat.blt n k = true := Nat.ble_eq_true_of_le q
          rw [h1] at this; cases this
        have e2 : ¬ k < n := fun q => by
          have : Nat.blt k n = true := Nat.ble_eq_true_of_le q
          rw [h2] at this; cases this
        have : n = k := by omega
        cases h
        exact .inr (.inl (by rw [this]))
structure FnE where
  d : He.DefD
  N : List Str
  ps : List Str
  th : Option Str := none
  lam : Bool := false
/-- an error class and its own __init__ -/
structure ErE where
  c : Nat
  fs : List Nat
  e : FnE
structure FnR where
  e : FnE
  F : Fd
  dl : List D := []
structure Tb where
  fn : Tr FnR
  ers : List ErE
  cls : Tr Str
  fld : List Str
  glo : Tr (Str × D)
  bi : List Str
  tys : List (Str × Ty)
  mts : List (Nat × Nat × Nat)
  ini : List (Nat × Nat)
  fok : List (Nat × List Nat)
  exs : List Nat
  sub : List (Nat × Nat)
def fldOf (L : List Str) (n : Nat) : Str := match L[n]? with
  | some s => s
  | none => ⟨Array.replicate (n + 1) 0⟩
def fldB (L : List Str) : Bool := decide L.Nodup && L.all fun s => decide (s.cps.size ≠ 0) && decide (s.cps[0]? ≠ some 0)
theorem fldOf_inj {L : List Str} (h : fldB L = true) (f g : Nat) (e : fldOf L f = fldOf L g) : f = g := by
  unfold fldB at h
  simp only [Bool.and_eq_true, decide_eq_true_eq, List.all_eq_true] at h
  obtain ⟨nd, h⟩ := h
  have cross : ∀ {i j : Nat} {s : Str}, L[i]? = some s → s = (⟨Array.replicate (j + 1) 0⟩ : Str) → False := fun {i j s} hi hs => by
    have := (h s (List.mem_of_getElem? hi)).2
    rw [hs] at this
    simp at this
  unfold fldOf at e
  cases hf : L[f]? with
  | some s =>
    cases hg : L[g]? with
    | some t =>
      rw [hf, hg] at e
      simp only at e
      subst e
      have h1 := (List.getElem?_eq_some_iff.mp hf)
      have h2 := (List.getElem?_eq_some_iff.mp hg)
      obtain ⟨l1, e1⟩ := h1
      obtain ⟨l2, e2⟩ := h2
      exact (List.getElem?_inj l1 nd).mp (hf.trans hg.symm)
    | none =>
      rw [hf, hg] at e
      exact (cross hf e).elim
  | none =>
    cases hg : L[g]? with
    | some t =>
      rw [hf, hg] at e
      exact (cross hg e.symm).elim
    | none =>
      rw [hf, hg] at e
      have := congrArg (fun s : Str => s.cps.size) e
      simpa using this
section
variable (t : Tb)
def Tb.pg : Pg where
  glob n := (t.glo.get n).map (·.2)
  init c := t.ini.lookup c
  meth c m := (t.mts.find? fun x => x.1 == c && x.2.1 == m).map (·.2.2)
  exf c := (t.ers.find? fun x => x.c == c).map (·.fs)
  dfl f m := match t.fn.get f with
    | some r => r.dl.drop (r.dl.length - (r.F.many - m))
    | none => []
  cls c := (t.ini.lookup c).isSome
  fok c f := ((t.fok.lookup c).getD []).contains f
  many f := match t.fn.get f with
    | some r => r.F.many
    | none => 0
def Tb.subF (a b : Nat) : Option Bool := if (t.exs.contains a && t.exs.contains b) = true then some (t.sub.contains (a, b)) else none
def Tb.prog : Prog := { P := t.pg, sub := t.subF, fns := fun f => (t.fn.get f).map (·.F) }
def fnName (e : FnE) : Option Str := match e.d.at_.2, e.th with
  | none, none => some e.d.at_.1
  | _, _ => none
def thName (e : FnE) : Option Str := match e.d.at_.2, e.th with
  | none, some _ => some e.d.at_.1
  | _, _ => none
def Tb.pf (fa : Nat → Addr) : PF where
  fnN f := (t.fn.get f).bind fun r => fnName r.e
  fa := fa
  clN c := if (t.ini.lookup c).isSome = true then t.cls.get c else none
  glN n := (t.glo.get n).map (·.1)
  fld := fldOf t.fld
  tyN := t.tys
  tys := t.tys.map (·.2)
  bi := t.bi
  thN f := (t.fn.get f).bind fun r => thName r.e
  exN c := if (t.ers.any fun x => x.c == c) = true then t.cls.get c else none
def Tb.faK (K : PySem.W.Frag) (f : Nat) : Addr := match t.fn.get f with
  | some r => He.fAd K r.e.d.at_
  | none => 0
def Tb.fnl : List FnE := t.fn.toList.map (·.2.e)
def Tb.clsK (K : PySem.W.Frag) (c : Nat) : Addr := match t.cls.get c with
  | some x => He.ga K x
  | none => 0
def Tb.tf : List He.Defn := (t.fnl.filter (·.lam)).map (·.d.at_)
def Tb.tabs (K : PySem.W.Frag) : List (Addr × Str) := (t.fnl.filter (·.lam)).map fun e => ((He.cT K e.d.at_).2, (e.d.qual ++ ".<locals>." : Str) ++ "<lambda>")
def Tb.gn (K : PySem.W.Frag) : Gn := { K := K, cls := t.clsK K, fld := fldOf t.fld, T := t.tabs K, cx := none, th := none }
def tyName : Ty → Option Str
  | .int => some "int" | .str => some "str" | .bool => some "bool" | .list => some "list" | .tuple => some "tuple" | .dict => some "dict"
  | .own _ => none
def Tb.defs : List He.DefD := t.fnl.map (·.d) ++ t.ers.map (·.e.d)
def Tb.clsN (c : Nat) : Str := (t.cls.get c).getD ""
def Tb.facts : List He.Fa :=
  t.bi.map .free ++ (t.tys.filter fun x => (tyName x.2).isSome).map (fun x => .free x.1) ++
  (t.fnl.filter fun e => e.d.at_.2.isNone).map (fun e => .glo e.d.at_.1) ++ t.cls.toList.map (fun x => .glo x.2) ++
  (t.ini.map fun x => .cls (t.clsN x.1)) ++ (t.ini.map fun x => .mkr (t.clsN x.1)) ++
  (t.fok.flatMap fun x => x.2.map fun f => .noat (t.clsN x.1) (fldOf t.fld f)) ++
  (t.mts.map fun x => .meth (t.clsN x.1) (fldOf t.fld x.2.1)) ++
  (t.exs.flatMap fun a => t.exs.map fun b => .exm (t.clsN a) (t.clsN b) (t.sub.contains (a, b)))
/-! ### what else is looked at -/
mutual
def gvB (K : PySem.W.Frag) : D → Value → Bool
  | .non, u => (match u with
    | .none => true
    | _ => false)
  | .bl b, u => (match u with
    | .bool c => b == c
    | _ => false)
  | .int i, u => (match u with
    | .int j _ => decide (i = j)
    | _ => false)
  | .str s, u => (match u with
    | .str z _ => decide (s = z)
    | _ => false)
  | .tup ds, u => (match u with
    | .ref a => (match K.lookup a with
      | some ⟨.type c, _, .seq its _, _⟩ => decide (c = "tuple") && decide (its.size ≤ sizeLine) && gvsB K ds its.toList
      | _ => false)
    | _ => false)
  | .scr ds, u => (match u with
    | .ref a => (match K.lookup a with
      | some ⟨.type c, none, .seq its _, _⟩ => decide (c = "list") && decide (its.size ≤ sizeLine) && gvsB K ds its.toList
      | _ => false)
    | _ => false)
  | _, _ => false
def gvsB (K : PySem.W.Frag) : List D → List Value → Bool
  | [], us => us.isEmpty
  | d :: ds, us => (match us with
    | u :: us => gvB K d u && gvsB K ds us
    | [] => false)
end
mutual
theorem gv_ok {G : Gb} {K : PySem.W.Frag} (hK : G.K = K) {H : Hp} {N : Addr → Prop} {α : List Addr} : ∀ {d : D} {u : Value}, gvB K d u = true → ∃ v, RelV v u ∧ (∀ H N α, RV G H N α d v)
  | .non, u, h => by
    unfold gvB at h
    split at h
    · exact ⟨.non, rfl, fun _ _ _ => .non⟩
    · cases h
  | .bl b, u, h => by
    unfold gvB at h
    split at h
    · rw [beq_iff_eq] at h; subst h; exact ⟨.bl b, rfl, fun _ _ _ => .bl b⟩
    · cases h
  | .int i, u, h => by
    unfold gvB at h
    split at h
    · rw [decide_eq_true_eq] at h; subst h; exact ⟨.int i, ⟨_, rfl⟩, fun _ _ _ => .int i⟩
    · cases h
  | .str s, u, h => by
    unfold gvB at h
    split at h
    · rw [decide_eq_true_eq] at h; subst h; exact ⟨.str s, ⟨_, rfl⟩, fun _ _ _ => .str s⟩
    · cases h
  | .tup ds, u, h => by
    unfold gvB at h
    split at h
    · rename_i a
      split at h
      · rename_i c od its n osl hk
        simp only [Bool.and_eq_true, decide_eq_true_eq] at h
        obtain ⟨vs, h1, h2⟩ := gvs_ok hK (H := H) (N := N) (α := α) h.2
        exact ⟨.ref a, rfl, fun H N α => .tup (.inr (.inr ⟨_, its, n, by rw [hK]; exact hk, congrArg Value.type h.1.1, rfl, h.1.2, h1⟩)) (h2 H N α)⟩
      · cases h
    · cases h
  | .scr ds, u, h => by
    unfold gvB at h
    split at h
    · rename_i a
      split at h
      · rename_i c its n osl hk
        simp only [Bool.and_eq_true, decide_eq_true_eq] at h
        obtain ⟨vs, h1, h2⟩ := gvs_ok hK (H := H) (N := N) (α := α) h.2
        exact ⟨.ref a, rfl, fun H N α => .scr (.inr (.inr ⟨_, its, n, by rw [hK]; exact hk, congrArg Value.type h.1.1, rfl, rfl, h.1.2, h1⟩)) (h2 H N α)⟩
      · cases h
    · cases h
  | .lst _, u, h => by unfold gvB at h; cases h
  | .dic _ _, u, h => by unfold gvB at h; cases h
  | .obj _ _ _, u, h => by unfold gvB at h; cases h
  | .ref _, u, h => by unfold gvB at h; cases h
theorem gvs_ok {G : Gb} {K : PySem.W.Frag} (hK : G.K = K) {H : Hp} {N : Addr → Prop} {α : List Addr} : ∀ {ds : List D} {us : List Value}, gvsB K ds us = true → ∃ vs, Vals vs us ∧ (∀ H N α, RVs G H N α ds vs)
  | [], us, h => by
    unfold gvsB at h
    rw [List.isEmpty_iff.mp h]
    exact ⟨[], .nil, fun _ _ _ => .nil⟩
  | d :: ds, us, h => by
    unfold gvsB at h
    split at h
    · rename_i u us
      rw [Bool.and_eq_true] at h
      obtain ⟨v, h1, h2⟩ := gv_ok hK (H := H) (N := N) (α := α) h.1
      obtain ⟨vs, h3, h4⟩ := gvs_ok hK (H := H) (N := N) (α := α) h.2
      exact ⟨v :: vs, .cons h1 h3, fun H N α => .cons (h2 H N α) (h4 H N α)⟩
    · cases h
end
def gloB (K : PySem.W.Frag) (x : Str) (d : D) : Bool := match PySem.W.nsIn K mainGlobals x with
  | some (some u) => gvB K d u
  | _ => false
def tags : List Tg := [.non, .int, .str, .bool, .list, .tuple, .dict] ++ t.ini.map fun x => .own x.1
def Tb.kitB (K : PySem.W.Frag) : Bool := (tags t).all fun tg => t.tys.all fun y => decide (PySem.W.kitOne K (tgV (t.gn K) tg) (tyV' (t.gn K) y.2) = some (isTag tg y.2))
def Tb.ownB (K : PySem.W.Frag) : Bool := (t.ini.all fun x => decide (PySem.W.findIn K (.ref (t.clsK K x.1)) "__class__" = some (some (.builtin "object.__class__"))) && decide (PySem.W.mroIn K (t.clsK K x.1) (.type "object") = some true)) &&
  decide (PySem.W.specialIn K (.builtin "object.__class__") "__get__" = some (some (.builtin "getset_descriptor.__get__"))) && decide (PySem.W.takesIn K (.builtin "object.__class__") = some true)
def oexB (K : PySem.W.Frag) (C : Addr) : Bool := (match K.lookup C with
  | some ⟨.type ty, _, .cls cd, sl⟩ => decide (ty = "type") && (match cd.mro, sl.toList with
    | .ref C' :: bm, [_, _, _, _, some (.builtin n), _] => decide (C' = C) && decide (n = "ValueError.__new__") && !cd.hasDel && cd.hasDict && PySem.HandSPX.refsVE bm
    | _, _ => false)
  | _ => false) && decide (PySem.W.findIn K (.ref C) "__setattr__" = some (some (.builtin "object.__setattr__"))) && decide (PySem.W.subIn K (.ref C) (.type "BaseException") = some true) && decide (PySem.W.typeIn K (.ref C) = some (.type "type")) && PySem.W.keepIn K (.ref C)
theorem oex_ok {K : PySem.W.Frag} {C : Addr} (h : oexB K C = true) : OexC K C := by
  unfold oexB at h
  simp only [Bool.and_eq_true, decide_eq_true_eq] at h
  obtain ⟨⟨⟨⟨h1, h2⟩, h3⟩, h4⟩, h5⟩ := h
  refine ⟨?_, h2, h3, h4, h5⟩
  split at h1
  · rename_i ty dd cd sl hk
    simp only [Bool.and_eq_true, decide_eq_true_eq] at h1
    obtain ⟨rfl, h1⟩ := h1
    split at h1
    · rename_i C' bm k0 k1 k2 k3 n k5 hm hs
      simp only [Bool.and_eq_true, decide_eq_true_eq, Bool.not_eq_true'] at h1
      obtain ⟨⟨⟨⟨rfl, rfl⟩, hdel⟩, hdict⟩, ht⟩ := h1
      obtain ⟨nm, bs, mro, ns, qn, hd, sn, sub, ab, col, del⟩ := cd
      dsimp only at hm hdel hdict
      subst hm hdel hdict
      have hsl : sl = #[k0, k1, k2, k3, some (.builtin "ValueError.__new__"), k5] := by
        obtain ⟨l⟩ := sl
        simp only at hs
        rw [hs]
      subst hsl
      exact ⟨nm, qn, ns, bs, bm, sn, sub, ab, col, dd, k0, k1, k2, k3, k5, hk, ht⟩
    · cases h1
  · cases h1
def Tb.exsB (K : PySem.W.Frag) : Bool := (t.exs.all fun c => xfB K (t.clsK K c)) && t.ers.all fun x => oexB K (t.clsK K x.c) && decide (PySem.W.findIn K (.ref (t.clsK K x.c)) "__init__" = some (some (.ref (He.fAd K x.e.d.at_)))) && decide (PySem.W.typeIn K (.ref (He.fAd K x.e.d.at_)) = some (.type "function"))
def Tb.ex (K : PySem.W.Frag) : Bool := t.kitB K && t.ownB K && t.exsB K && (t.glo.toList.all fun x => gloB K x.2.1 x.2.2) && decide ((t.tabs K).map (·.1)).Nodup
/-! ### what is looked at without a heap -/
def scopeB (N ps : List Str) (sc : Scope) : Bool := decide (sc.kind = .function) && !sc.isCoroutine && !sc.isGenerator && decide N.Nodup && decide (N.take ps.length = ps) && (ps.all fun x => decide (sc.names.lookup x = some .local) || decide (sc.names.lookup x = some .cell)) && sc.names.all fun y => decide (y.2 ≠ .free)
theorem scope_ok {N ps : List Str} {sc : Scope} (h : scopeB N ps sc = true) : FnScope N ps sc := by
  unfold scopeB at h
  simp only [Bool.and_eq_true, decide_eq_true_eq, Bool.not_eq_true', List.all_eq_true, Bool.or_eq_true] at h
  obtain ⟨⟨⟨⟨⟨⟨h1, h2⟩, h3⟩, h4⟩, h5⟩, h6⟩, h7⟩ := h
  exact ⟨h1, h2, h3, h4, h5, h6, h7⟩
def visB' (sc : Scope) (a : Str) : Bool := decide (sc.names.lookup a = some .local) || decide (sc.names.lookup a = some .cell) || decide (sc.names.lookup a = some .free)
def Tb.fnB (P : PF) (e : FnE) (F : Fd) (dl : List D) : Bool := scopeB e.N e.ps e.d.scope && decide (e.ps.length = F.many) && decide (e.N.length = F.slots) && chkB P { N := e.N, names := e.d.scope.names, lk := e.th.isSome, th := e.th, lam := e.lam } F.body e.d.body &&
  (e.d.dfl.isEmpty == dl.isEmpty) && (!e.d.dfl.isEmpty || (simpB e.d.params e.ps && e.d.kwd.isEmpty)) && (match e.th with
    | none => true
    | some a => !e.lam && e.d.at_.2.isNone && decide (e.d.name = e.d.at_.1) && decide (e.d.qual = e.d.at_.1) && decide (e.ps = [a]) && decide (e.N[0]? = some a) && visB' e.d.scope a && plainN a && dl.isEmpty)
def Tb.fnsB (P : PF) : Bool := t.fn.toList.all fun x => Tb.fnB P x.2.e x.2.F x.2.dl
def Tb.erB (x : ErE) : Bool := scopeB x.e.N x.e.ps x.e.d.scope && decide (x.fs.length ≤ 900) && decide (x.fs ≠ []) && decide (x.e.ps.length = x.fs.length + 1) && exBody (fldOf t.fld) x.e.N x.e.d.scope.names 0 x.fs x.e.d.body && simpB x.e.d.params x.e.ps && x.e.d.dfl.isEmpty && x.e.d.kwd.isEmpty && t.exs.contains x.c &&
  x.fs.all (fun f => ((t.fok.lookup x.c).getD []).contains f) && decide ((t.cls.get x.c).isSome)
/-- everything but the defs' bodies -/
def Tb.staB : Bool := fldB t.fld && t.ers.all t.erB &&
  (t.ini.all fun x => (t.cls.get x.1).isSome && (match t.fn.get x.2 with
    | some r => r.e.th.isNone && decide (r.e.d.at_ = (t.clsN x.1, some ("__init__" : Str)))
    | none => false)) && decide (t.ini.map (·.1)).Nodup &&
  (t.mts.all fun x => (t.ini.lookup x.1).isSome && (match t.fn.get x.2.2 with
    | some r => r.e.th.isNone && decide (r.e.d.at_ = (t.clsN x.1, some (fldOf t.fld x.2.1)))
    | none => false)) &&
  (t.exs.all fun c => (t.cls.get c).isSome) && (t.tys.all fun x => (match x.2 with
    | .own c => (t.ini.lookup c).isSome && decide (t.cls.get c = some x.1)
    | y => decide (tyName y = some x.1))) && (t.fok.all fun x => (t.cls.get x.1).isSome)

end
section
variable {t : Tb} {prog : Program} {w : World} {K : PySem.W.Frag} {mg : Str → Option Value} {base h : Heap}
/-- what is known from the head -/
structure Hd (t : Tb) (K : PySem.W.Frag) (mg : Str → Option Value) (base : Heap) : Prop where
  fact : ∀ f ∈ t.facts, f.ok K = true
  defs : ∀ d ∈ t.defs, ∃ fd, FunD K d.name d.qual d.params d.body d.scope (d.dvs K) (d.kws K) (He.fAd K d.at_) fd
  ex : t.ex K = true
  sta : t.staB = true
  fns : ∀ fa, t.fnsB (t.pf fa) = true
  glo : ∀ x, He.Fa.ok K (.glo x) = true → mg x = some (.ref (He.ga K x))
  free : ∀ x, He.Fa.ok K (.free x) = true → mg x = none
  con : ∀ x u, PySem.W.nsIn K mainGlobals x = some (some u) → mg x = some u
  dfs : ∀ f r fd, t.fn.get f = some r → r.e.d.dfl ≠ [] → FunD K r.e.d.name r.e.d.qual r.e.d.params r.e.d.body r.e.d.scope (r.e.d.dvs K) (r.e.d.kws K) (He.fAd K r.e.d.at_) fd →
    ∀ m, ∃ (dv : List V) (ds : List Value), ((t.pg.dfl f m).length ≤ r.F.many → Binds K fd r.e.ps ds) ∧ Vals dv ds ∧ ∀ p : Pt, RVs (t.gn K) p.H p.N p.α (t.pg.dfl f m) dv
  tab : ∀ e ∈ t.fnl, e.lam = true → TabB base mg (He.cT K e.d.at_).1 (He.cT K e.d.at_).2
end
end EV
set_option Elab.async false
set_option linter.all false
set_option maxRecDepth 100000
set_option maxHeartbeats 4000000
/-! EV, part Fb: the facts. -/
namespace EV
open PySem PySem.Spec PyProof.Rows L2 LamX RZ HT
section
variable {t : Tb} {prog : Program} {w : World} {K : PySem.W.Frag} {mg : Str → Option Value} {base : Heap}
theorem boot_ty {y : Ty} {x : Str} (h : tyName y = some x) : ∃ u, RelV (tyW (t.gn K) y) u ∧ bootBuiltins x = some u := by
  cases y <;> cases h
  · exact ⟨.type "int", rfl, by decide +kernel⟩
  · exact ⟨.type "str", rfl, by decide +kernel⟩
  · exact ⟨.type "bool", rfl, by decide +kernel⟩
  · exact ⟨.type "list", rfl, by decide +kernel⟩
  · exact ⟨.type "tuple", rfl, by decide +kernel⟩
  · exact ⟨.type "dict", rfl, by decide +kernel⟩
theorem lookup_mem' {α β : Type} [BEq α] [LawfulBEq α] {a : α} {b : β} : ∀ {l : List (α × β)}, l.lookup a = some b → (a, b) ∈ l
  | [], h => by cases h
  | (x, y) :: r, h => by
    rw [List.lookup_cons] at h
    by_cases e : a = x
    · subst e
      simp at h
      subst h
      exact List.mem_cons_self ..
    · rw [show (a == x) = false by simpa using e] at h
      exact List.mem_cons_of_mem _ (lookup_mem' h)
namespace Hd
variable (Z : Hd t K mg base)
include Z
theorem staAll : fldB t.fld = true ∧ (∀ x ∈ t.ers, t.erB x = true) ∧
    (∀ x ∈ t.ini, (t.cls.get x.1).isSome = true ∧ ∃ r, t.fn.get x.2 = some r ∧ r.e.th = none ∧ r.e.d.at_ = (t.clsN x.1, some ("__init__" : Str))) ∧ (t.ini.map (·.1)).Nodup ∧
    (∀ x ∈ t.mts, (t.ini.lookup x.1).isSome = true ∧ ∃ r, t.fn.get x.2.2 = some r ∧ r.e.th = none ∧ r.e.d.at_ = (t.clsN x.1, some (fldOf t.fld x.2.1))) ∧
    (∀ c ∈ t.exs, (t.cls.get c).isSome = true) ∧ (∀ x ∈ t.tys, (∃ c, x.2 = .own c ∧ (t.ini.lookup c).isSome = true ∧ t.cls.get c = some x.1) ∨ tyName x.2 = some x.1) ∧ ∀ x ∈ t.fok, (t.cls.get x.1).isSome = true := by
  have h := Z.sta
  unfold Tb.staB at h
  simp only [Bool.and_eq_true, List.all_eq_true, decide_eq_true_eq] at h
  obtain ⟨⟨⟨⟨⟨⟨⟨h1, h2⟩, h3⟩, h4⟩, h5⟩, h6⟩, h7⟩, h8⟩ := h
  refine ⟨h1, h2, fun x hx => ?_, h4, fun x hx => ?_, h6, fun x hx => ?_, h8⟩
  · obtain ⟨q1, q2⟩ := h3 x hx
    refine ⟨q1, ?_⟩
    split at q2
    · rename_i e he
      simp only [Bool.and_eq_true, decide_eq_true_eq, Option.isNone_iff_eq_none] at q2
      exact ⟨e, he, q2.1, q2.2⟩
    · cases q2
  · obtain ⟨q1, q2⟩ := h5 x hx
    refine ⟨q1, ?_⟩
    split at q2
    · rename_i e he
      simp only [Bool.and_eq_true, decide_eq_true_eq, Option.isNone_iff_eq_none] at q2
      exact ⟨e, he, q2.1, q2.2⟩
    · cases q2
  · have q := h7 x hx
    split at q
    · rename_i c hc
      simp only [Bool.and_eq_true, decide_eq_true_eq] at q
      exact .inl ⟨c, hc, q.1, q.2⟩
    · exact .inr (of_decide_eq_true q)
theorem clsAt {c : Nat} (h : (t.cls.get c).isSome = true) : (t.gn K).cls c = He.ga K (t.clsN c) ∧ ∃ x ∈ t.cls.toList, x.2 = t.clsN c := by
  obtain ⟨x, hx⟩ := Option.isSome_iff_exists.mp h
  have e : t.clsN c = x := by unfold Tb.clsN; rw [hx]; rfl
  refine ⟨?_, ⟨(c, x), Tr.mem hx, e.symm⟩⟩
  show t.clsK K c = _
  unfold Tb.clsK
  rw [hx, e]
theorem fFree {x : Str} (h : x ∈ t.bi) : mg x = none := Z.free x (Z.fact _ (by unfold Tb.facts; simp [h]))
theorem fCls {x : Str} (h : ∃ y ∈ t.cls.toList, y.2 = x) : mg x = some (.ref (He.ga K x)) := Z.glo x (Z.fact _ (by
  obtain ⟨y, hy, rfl⟩ := h
  unfold Tb.facts
  simp only [List.mem_append, List.mem_map]
  exact .inl (.inl (.inl (.inl (.inl (.inr ⟨y, hy, rfl⟩)))))))
theorem fIni {x : Nat × Nat} (h : x ∈ t.ini) : Cls K (He.ga K (t.clsN x.1)) ∧ Mk K (He.ga K (t.clsN x.1)) (He.ma K (He.ga K (t.clsN x.1)) "__init__") :=
  ⟨He.cls_ok (Z.fact _ (by
    unfold Tb.facts
    simp only [List.mem_append, List.mem_map]
    exact .inl (.inl (.inl (.inl (.inr ⟨x, h, rfl⟩)))))), He.mkr_ok (Z.fact _ (by
    unfold Tb.facts
    simp only [List.mem_append, List.mem_map]
    exact .inl (.inl (.inl (.inr ⟨x, h, rfl⟩)))))⟩
theorem fNo {c f : Nat} (h : t.pg.fok c f = true) : NoAttr K ((t.gn K).cls c) ((t.gn K).fld f) := by
  have h : ((t.fok.lookup c).getD []).contains f = true := h
  cases e : t.fok.lookup c with
  | none => rw [e] at h; simp at h
  | some l =>
    rw [e] at h
    have hf : f ∈ l := by simpa using h
    have hm := lookup_mem' e
    rw [(Z.clsAt (Z.staAll.2.2.2.2.2.2.2 _ hm)).1]
    refine He.noat_ok (Z.fact _ ?_)
    unfold Tb.facts
    simp only [List.mem_append, List.mem_map, List.mem_flatMap]
    exact .inl (.inl (.inr ⟨(c, l), hm, f, hf, rfl⟩))
theorem fMeth {x : Nat × Nat × Nat} (h : x ∈ t.mts) : L2.Meth K (He.ga K (t.clsN x.1)) (fldOf t.fld x.2.1) (He.ma K (He.ga K (t.clsN x.1)) (fldOf t.fld x.2.1)) := by
  refine He.meth_ok (Z.fact _ ?_)
  unfold Tb.facts
  simp only [List.mem_append, List.mem_map]
  exact .inl (.inr ⟨x, h, rfl⟩)
theorem fExm {a b : Nat} (ha : a ∈ t.exs) (hb : b ∈ t.exs) : PySem.W.exmOne K (.ref (He.ga K (t.clsN a))) (.ref (He.ga K (t.clsN b))) = some (t.sub.contains (a, b)) := by
  refine He.exm_ok (Z.fact _ ?_)
  unfold Tb.facts
  simp only [List.mem_append, List.mem_map, List.mem_flatMap]
  exact .inr ⟨a, ha, b, hb, rfl⟩
theorem exAll : t.kitB K = true ∧ t.ownB K = true ∧ t.exsB K = true ∧ (∀ x ∈ t.glo.toList, gloB K x.2.1 x.2.2 = true) ∧ ((t.tabs K).map (·.1)).Nodup := by
  have h := Z.ex
  unfold Tb.ex at h
  simp only [Bool.and_eq_true, List.all_eq_true, decide_eq_true_eq] at h
  exact ⟨h.1.1.1.1, h.1.1.1.2, h.1.1.2, h.1.2, h.2⟩
theorem fDef {f : Nat} {r : FnR} (h : t.fn.get f = some r) : Tb.fnB (t.pf (t.faK K)) r.e r.F r.dl = true ∧ t.faK K f = He.fAd K r.e.d.at_ ∧ r.e ∈ t.fnl ∧ ∃ fd, FunD K r.e.d.name r.e.d.qual r.e.d.params r.e.d.body r.e.d.scope (r.e.d.dvs K) (r.e.d.kws K) (He.fAd K r.e.d.at_) fd := by
  have hm := Tr.mem h
  have h3 := List.all_eq_true.mp (Z.fns (t.faK K)) _ hm
  have he : r.e ∈ t.fnl := List.mem_map.mpr ⟨_, hm, rfl⟩
  refine ⟨h3, by unfold Tb.faK; rw [h], he, Z.defs r.e.d ?_⟩
  unfold Tb.defs
  rw [List.mem_append, List.mem_map]
  exact .inl ⟨r.e, he, rfl⟩
theorem fnbAll {P : PF} {e : FnE} {F : Fd} {d : List D} (h : Tb.fnB P e F d = true) : FnScope e.N e.ps e.d.scope ∧ e.ps.length = F.many ∧ e.N.length = F.slots ∧ chkB P { N := e.N, names := e.d.scope.names, lk := e.th.isSome, th := e.th, lam := e.lam } F.body e.d.body = true ∧
    (e.d.dfl = [] ↔ d = []) ∧ (e.d.dfl = [] → simpB e.d.params e.ps = true) ∧ ∀ a, e.th = some a → e.lam = false ∧ e.d.at_.2 = none ∧ e.d.name = e.d.at_.1 ∧ e.d.qual = e.d.at_.1 ∧ e.ps = [a] ∧ e.N[0]? = some a ∧ Vis e.d.scope a ∧ plainN a = true ∧ d = [] := by
  unfold Tb.fnB at h
  simp only [Bool.and_eq_true, decide_eq_true_eq] at h
  obtain ⟨⟨⟨⟨⟨⟨h1, h2⟩, h3⟩, h4⟩, h5⟩, h6⟩, h7⟩ := h
  refine ⟨scope_ok h1, h2, h3, h4, ?_, fun z => ?_, fun a ha => ?_⟩
  · rw [beq_iff_eq] at h5
    constructor
    · intro z
      rw [z] at h5
      exact List.isEmpty_iff.mp h5.symm
    · intro z
      rw [z] at h5
      exact List.isEmpty_iff.mp h5
  · rw [z] at h6
    simp at h6
    exact h6.1
  · rw [ha] at h7
    simp only [Bool.and_eq_true, decide_eq_true_eq, Bool.not_eq_true', Option.isNone_iff_eq_none, List.isEmpty_iff] at h7
    obtain ⟨⟨⟨⟨⟨⟨⟨⟨k1, k2⟩, k3⟩, k4⟩, k5⟩, k6⟩, k7⟩, k8⟩, k9⟩ := h7
    refine ⟨k1, k2, k3, k4, k5, k6, ?_, k8, k9⟩
    unfold visB' at k7
    simp only [Bool.or_eq_true, decide_eq_true_eq] at k7
    rcases k7 with (k7 | k7) | k7
    · exact .inl k7
    · exact .inr (.inl k7)
    · exact .inr (.inr k7)
theorem gloA {e : FnE} (h : e ∈ t.fnl) (hn : e.d.at_.2 = none) : mg e.d.at_.1 = some (.ref (He.fAd K e.d.at_)) := by
  have : He.Fa.ok K (.glo e.d.at_.1) = true := Z.fact _ (by
    unfold Tb.facts
    simp only [List.mem_append, List.mem_map, List.mem_filter]
    exact .inl (.inl (.inl (.inl (.inl (.inl (.inr ⟨e, ⟨h, by rw [hn]; rfl⟩, rfl⟩)))))))
  have e2 : He.fAd K e.d.at_ = He.ga K e.d.at_.1 := by
    unfold He.fAd
    rw [hn]
  rw [e2]
  exact Z.glo _ this
def noE : FnE := ⟨⟨("", none), "", "", ⟨[], [], none, [], [], none, []⟩, [], ⟨.function, [], false, false, []⟩, [], []⟩, [], [], none, false⟩
open Classical in
noncomputable def fe (_ : Hd t K mg base) (f : Nat) : FnE := match t.fn.get f with
  | some r => r.e
  | none => noE
open Classical in
noncomputable def fdc (Z : Hd t K mg base) (f : Nat) : FuncData := if h : ∃ fd, FunD K (Z.fe f).d.name (Z.fe f).d.qual (Z.fe f).d.params (Z.fe f).d.body (Z.fe f).d.scope ((Z.fe f).d.dvs K) ((Z.fe f).d.kws K) (t.faK K f) fd then choose h else
  PySem.W.fnOf "" "" ⟨[], [], none, [], [], none, []⟩ [] ⟨.function, [], false, false, []⟩ .none .none .none .none none .none .none
theorem at_e {f : Nat} {r : FnR} (h : t.fn.get f = some r) : Z.fe f = r.e := by unfold fe; rw [h]
theorem fdAt {f : Nat} {F : Fd} (h : t.prog.fns f = some F) : ∃ r, t.fn.get f = some r ∧ r.F = F := by
  have h : (t.fn.get f).map (·.F) = some F := h
  obtain ⟨r, h1, h2⟩ := Option.map_eq_some_iff.mp h
  exact ⟨r, h1, h2⟩
theorem fnsAt {f : Nat} {r : FnR} (h : t.fn.get f = some r) : t.prog.fns f = some r.F := by show (t.fn.get f).map (·.F) = _; rw [h]; rfl
theorem at_f {f : Nat} {r : FnR} (h : t.fn.get f = some r) : Tb.fnB (t.pf (t.faK K)) r.e r.F r.dl = true ∧ t.faK K f = He.fAd K r.e.d.at_ ∧
    FunD K r.e.d.name r.e.d.qual r.e.d.params r.e.d.body r.e.d.scope (r.e.d.dvs K) (r.e.d.kws K) (t.faK K f) (Z.fdc f) := by
  obtain ⟨h3, h4, _, fd, h5⟩ := Z.fDef h
  have he := Z.at_e h
  refine ⟨h3, h4, ?_⟩
  have hx : ∃ fd, FunD K (Z.fe f).d.name (Z.fe f).d.qual (Z.fe f).d.params (Z.fe f).d.body (Z.fe f).d.scope ((Z.fe f).d.dvs K) ((Z.fe f).d.kws K) (t.faK K f) fd := ⟨fd, by rw [he, h4]; exact h5⟩
  have hs : FunD K (Z.fe f).d.name (Z.fe f).d.qual (Z.fe f).d.params (Z.fe f).d.body (Z.fe f).d.scope ((Z.fe f).d.dvs K) ((Z.fe f).d.kws K) (t.faK K f) (Z.fdc f) := by
    unfold fdc
    rw [dif_pos hx]
    exact Classical.choose_spec hx
  generalize Z.fdc f = q at hs ⊢
  rw [he] at hs
  exact hs
theorem manyAt {f : Nat} {r : FnR} (h : t.fn.get f = some r) : t.pg.many f = r.F.many := by show (match t.fn.get f with | some r => r.F.many | none => 0) = _; rw [h]
noncomputable def facts (hK : (t.gn K).K = K) : Facts prog w K mg base (t.gn K) t.prog (t.pf (t.faK K)) where
  name f := (Z.fe f).d.name
  qual f := (Z.fe f).d.qual
  params f := (Z.fe f).d.params
  body f := (Z.fe f).d.body
  scope f := (Z.fe f).d.scope
  dvs f := (Z.fe f).d.dvs K
  kws f := (Z.fe f).d.kws K
  fd f := Z.fdc f
  ps f := (Z.fe f).ps
  N f := (Z.fe f).N
  th f := (Z.fe f).th
  lam f := (match t.fn.get f with
    | some r => r.e.lam
    | none => false)
  gK := rfl
  gfld := rfl
  gcx := rfl
  gth := rfl
  bi x hx := Z.fFree hx
  fnm f x h := by
    have h : (t.fn.get f).bind (fun r => fnName r.e) = some x := h
    obtain ⟨r, h1, h2⟩ := Option.bind_eq_some_iff.mp h
    unfold fnName at h2
    split at h2
    · rename_i e1 e2
      cases h2
      obtain ⟨q3, q4, q5⟩ := Z.at_f h1
      refine ⟨?_, r.F, Z.fnsAt h1, Z.manyAt h1, by rw [Z.at_e h1]; exact e2⟩
      show mg r.e.d.at_.1 = some (.ref (t.faK K f))
      rw [q4]
      exact Z.gloA (Z.fDef h1).2.2.1 e1
    · cases h2
  fun_ f F h := by
    obtain ⟨r, h1, rfl⟩ := Z.fdAt h
    rw [Z.at_e h1]
    exact (Z.at_f h1).2.2
  sc f F h := by
    obtain ⟨r, h1, rfl⟩ := Z.fdAt h
    obtain ⟨q3, q4, q5⟩ := Z.at_f h1
    obtain ⟨k1, k2, k3, k4, _⟩ := Z.fnbAll q3
    rw [Z.at_e h1]
    refine ⟨k1, k2, k3, ?_⟩
    rw [h1]
    exact k4
  bnd f F m h := by
    obtain ⟨r, h1, rfl⟩ := Z.fdAt h
    obtain ⟨q3, q4, q5⟩ := Z.at_f h1
    obtain ⟨k1, k2, k3, k4, k5, k6, _⟩ := Z.fnbAll q3
    rw [Z.at_e h1]
    by_cases hd : r.e.d.dfl = []
    · have hd2 := k5.mp hd
      have e0 : t.pg.dfl f m = [] := by show (match t.fn.get f with | some r => r.dl.drop (r.dl.length - (r.F.many - m)) | none => []) = []; rw [h1]; simp [hd2]
      show ∃ dv ds, ((t.pg.dfl f m).length ≤ r.F.many → Binds K (Z.fdc f) r.e.ps ds) ∧ Vals dv ds ∧ ∀ p : Pt, RVs (t.gn K) p.H p.N p.α (t.pg.dfl f m) dv
      rw [e0]
      refine ⟨[], [], fun _ => ?_, .nil, fun p => .nil⟩
      have q6 : FunD K r.e.d.name r.e.d.qual r.e.d.params r.e.d.body r.e.d.scope [] (r.e.d.kws K) (t.faK K f) (Z.fdc f) := by
        have : r.e.d.dvs K = [] := by unfold He.DefD.dvs; rw [hd]; rfl
        rw [this] at q5
        exact q5
      exact q6.bindsN fun _ _ _ _ _ _ us hl => bind_simple (k6 hd) us hl
    · rw [q4] at q5
      exact Z.dfs f r (Z.fdc f) h1 hd q5 m
  lamc f hl := by
    cases h1 : t.fn.get f with
    | none => rw [h1] at hl; cases hl
    | some r =>
      rw [h1] at hl
      have hl : r.e.lam = true := hl
      obtain ⟨q3, q4, q5⟩ := Z.at_f h1
      have he' := Z.at_e h1
      have hm := (Z.fDef h1).2.2.1
      obtain ⟨oc, od, dV, kV, doc, pm, an, cdv, ct, osl, e1, e2, e3, _, _⟩ := q5.ex
      obtain ⟨c, hc⟩ := He.codeIn_ref e3
      have hco : He.codeOf K r.e.d.at_ = c := by
        rw [q4] at e2
        exact He.codeOf_eq e2 (by rw [e1]; exact hc)
      have hT : ((He.cT K r.e.d.at_).2, (r.e.d.qual ++ ".<locals>." : Str) ++ "<lambda>") ∈ t.tabs K := by
        unfold Tb.tabs
        rw [List.mem_map]
        exact ⟨r.e, List.mem_filter.mpr ⟨hm, hl⟩, rfl⟩
      refine ⟨c, (He.cT K r.e.d.at_).2, by rw [e1]; exact hc, ?_, by rw [he']; exact hT, fun p hp hpe => ?_⟩
      · have := Z.tab r.e hm hl
        rw [show (He.cT K r.e.d.at_).1 = c from hco] at this
        exact this
      · rw [he']
        have nd := Z.exAll.2.2.2.2
        have hp : p ∈ t.tabs K := hp
        obtain ⟨i, hi, ei⟩ := List.mem_iff_getElem.mp hp
        obtain ⟨j, hj, ej⟩ := List.mem_iff_getElem.mp hT
        have h1 : ((t.tabs K).map (·.1))[i]? = ((t.tabs K).map (·.1))[j]? := by
          rw [List.getElem?_map, List.getElem?_map, List.getElem?_eq_getElem hi, List.getElem?_eq_getElem hj, ei, ej]
          simp [hpe]
        have h2 := (List.getElem?_inj (by simpa using hi) nd).mp h1
        subst h2
        rw [ei] at ej
        rw [ej]
  thk f x h := by
    have h : (t.fn.get f).bind (fun r => thName r.e) = some x := h
    obtain ⟨r, h1, h2⟩ := Option.bind_eq_some_iff.mp h
    unfold thName at h2
    split at h2
    · rename_i a e1 e2
      cases h2
      obtain ⟨q3, q4, q5⟩ := Z.at_f h1
      have he := Z.at_e h1
      obtain ⟨k1, k2, k3, k4, k5, k6, k7⟩ := Z.fnbAll q3
      obtain ⟨j1, j2, j3, j4, j5, j6, j7, j8, j9⟩ := k7 _ e2
      have hdn : r.e.d.dfl = [] := k5.mpr j9
      have q6 : FunD K r.e.d.name r.e.d.qual r.e.d.params r.e.d.body r.e.d.scope [] (r.e.d.kws K) (t.faK K f) (Z.fdc f) := by
        have : r.e.d.dvs K = [] := by unfold He.DefD.dvs; rw [hdn]; rfl
        rw [this] at q5
        exact q5
      refine ⟨?_, r.F, a, Z.fnsAt h1, by rw [he]; exact e2, by rw [h1]; exact j1, by rw [he]; exact j3, by rw [he]; exact j4, by rw [he]; exact j5, by rw [he]; exact j6, by rw [he]; exact j7, j8, ?_⟩
      · show mg r.e.d.at_.1 = some (.ref (t.faK K f))
        rw [q4]
        exact Z.gloA (Z.fDef h1).2.2.1 e1
      · exact q6.bindsN fun _ _ _ _ _ _ us hl => bind_simple (by rw [← j5]; exact k6 hdn) us hl
    · cases h2
  me m c f h := by
    have h : (t.mts.find? fun x => x.1 == c && x.2.1 == m).map (·.2.2) = some f := h
    obtain ⟨x, h1, h2⟩ := Option.map_eq_some_iff.mp h
    have hm := List.mem_of_find?_eq_some h1
    have hp := List.find?_some h1
    simp only [Bool.and_eq_true, beq_iff_eq] at hp
    obtain ⟨hc, hf⟩ := hp
    obtain ⟨s1, r, s2, s3, s4⟩ := Z.staAll.2.2.2.2.1 x hm
    obtain ⟨q3, q4, q5⟩ := Z.at_f s2
    have hi := Z.staAll.2.2.1
    subst hc hf h2
    obtain ⟨i, hi2⟩ := Option.isSome_iff_exists.mp s1
    have hcl := Z.clsAt (hi _ (lookup_mem' hi2)).1
    refine ⟨s1, ?_, r.F, Z.fnsAt s2, Z.manyAt s2, by rw [Z.at_e s2]; exact s3⟩
    have := Z.fMeth hm
    show L2.Meth K ((t.gn K).cls x.1) (fldOf t.fld x.2.1) (t.faK K x.2.2)
    rw [hcl.1, q4, s4]
    exact this
  nw c x h := by
    have h : (if (t.ini.lookup c).isSome = true then t.cls.get c else none) = some x := h
    split at h
    · rename_i hs
      obtain ⟨f, hf⟩ := Option.isSome_iff_exists.mp hs
      have hm := lookup_mem' hf
      obtain ⟨s1, r, s2, s3, s4⟩ := Z.staAll.2.2.1 _ hm
      have hcl := Z.clsAt s1
      have hx : t.clsN c = x := by unfold Tb.clsN; rw [h]; rfl
      obtain ⟨q3, q4, q5⟩ := Z.at_f s2
      have hk := (Z.fIni hm).2
      refine ⟨f, hf, ?_, ?_, ?_, r.F, Z.fnsAt s2, Z.manyAt s2, by rw [Z.at_e s2]; exact s3⟩
      · rw [hcl.1, ← hx]
        exact Z.fCls hcl.2
      · rw [hcl.1]
        exact hk.kp
      · show Mk K ((t.gn K).cls c) (t.faK K f)
        rw [hcl.1, q4, s4]
        exact hk
    · cases h
  gl n x h := by
    have h : (t.glo.get n).map (·.1) = some x := h
    obtain ⟨y, h1, h2⟩ := Option.map_eq_some_iff.mp h
    subst h2
    have := Z.exAll.2.2.2.1 _ (Tr.mem h1)
    unfold gloB at this
    split at this
    · rename_i u hu
      obtain ⟨v, r1, r2⟩ := gv_ok (G := (t.gn K).toGb) hK (H := fun _ => none) (N := fun _ => False) (α := []) this
      refine ⟨v, u, Z.con _ _ hu, r1, fun p d hd => ?_⟩
      have hd : (t.glo.get n).map (·.2) = some d := hd
      rw [h1] at hd
      cases hd
      exact r2 _ _ _
    · cases this
  CF := by
    refine ⟨fldOf_inj Z.staAll.1, fun c hc => ?_, fun c f h => Z.fNo h⟩
    have hc : (t.ini.lookup c).isSome = true := hc
    obtain ⟨f, hf⟩ := Option.isSome_iff_exists.mp hc
    have hm := lookup_mem' hf
    rw [(Z.clsAt (Z.staAll.2.2.1 _ hm).1).1]
    exact (Z.fIni hm).1
  KF := by
    have hk := Z.exAll.1
    have ho := Z.exAll.2.1
    unfold Tb.kitB at hk
    unfold Tb.ownB at ho
    simp only [List.all_eq_true, decide_eq_true_eq] at hk
    simp only [Bool.and_eq_true, List.all_eq_true, decide_eq_true_eq] at ho
    refine ⟨fun tg ty h1 h2 => ?_, fun c hc => ?_, fun c hc => ?_, ho.1.2, ho.2⟩
    · have h2 : ty ∈ t.tys.map (·.2) := h2
      obtain ⟨y, hy, rfl⟩ := List.mem_map.mp h2
      refine hk tg ?_ y hy
      unfold tags
      cases tg with
      | own c =>
        obtain ⟨f, hf⟩ := Option.isSome_iff_exists.mp (show (t.ini.lookup c).isSome = true from h1 c rfl)
        rw [List.mem_append, List.mem_map]
        exact .inr ⟨(c, f), lookup_mem' hf, rfl⟩
      | _ => simp
    · obtain ⟨f, hf⟩ := Option.isSome_iff_exists.mp (show (t.ini.lookup c).isSome = true from hc)
      exact (ho.1.1 _ (lookup_mem' hf)).1
    · obtain ⟨f, hf⟩ := Option.isSome_iff_exists.mp (show (t.ini.lookup c).isSome = true from hc)
      exact (ho.1.1 _ (lookup_mem' hf)).2
  ty x y h := by
    have h : t.tys.lookup x = some y := h
    have hm := lookup_mem' h
    refine ⟨List.mem_map.mpr ⟨_, hm, rfl⟩, ?_⟩
    rcases Z.staAll.2.2.2.2.2.2.1 _ hm with ⟨c, h1, h2, h3⟩ | h1
    · have h1 : y = .own c := h1
      subst h1
      have hcl := Z.clsAt (by rw [h3]; rfl : (t.cls.get c).isSome = true)
      have hx : t.clsN c = x := by unfold Tb.clsN; rw [h3]; rfl
      refine ⟨.ref ((t.gn K).cls c), rfl, .inl ?_⟩
      rw [hcl.1, hx]
      rw [← hx]
      exact Z.fCls hcl.2
    · obtain ⟨u, r1, r2⟩ := boot_ty (t := t) (K := K) h1
      refine ⟨u, r1, .inr ⟨Z.free x (Z.fact _ ?_), r2⟩⟩
      unfold Tb.facts
      simp only [List.mem_append, List.mem_map, List.mem_filter]
      exact .inl (.inl (.inl (.inl (.inl (.inl (.inl (.inr ⟨(x, y), ⟨hm, by rw [h1]; rfl⟩, rfl⟩)))))))
  exc c x h := by
    have h : (if (t.ers.any fun x => x.c == c) = true then t.cls.get c else none) = some x := h
    split at h
    · rename_i hs
      cases hf : t.ers.find? (fun x => x.c == c) with
      | none =>
        rw [List.any_eq_true] at hs
        obtain ⟨y, hy, hy2⟩ := hs
        exact absurd hy2 (List.find?_eq_none.mp hf y hy)
      | some er =>
        have hm := List.mem_of_find?_eq_some hf
        have hp : er.c = c := by simpa using List.find?_some hf
        subst hp
        have hb := Z.staAll.2.1 er hm
        unfold Tb.erB at hb
        simp only [Bool.and_eq_true, decide_eq_true_eq, List.isEmpty_iff, List.all_eq_true] at hb
        obtain ⟨⟨⟨⟨⟨⟨⟨⟨⟨⟨b1, b2⟩, b3⟩, b4⟩, b5⟩, b6⟩, b7⟩, b8⟩, b9⟩, b10⟩, b11⟩ := hb
        have hcl := Z.clsAt b11
        have hx : t.clsN er.c = x := by unfold Tb.clsN; rw [h]; rfl
        have hex := Z.exAll.2.2.1
        unfold Tb.exsB at hex
        simp only [Bool.and_eq_true, List.all_eq_true, decide_eq_true_eq] at hex
        obtain ⟨⟨x1, x2⟩, x3⟩ := hex.2 er hm
        obtain ⟨fd, hfd⟩ := Z.defs er.e.d (by unfold Tb.defs; rw [List.mem_append, List.mem_map]; exact .inr (List.mem_map.mpr ⟨er, hm, rfl⟩))
        have hfd2 : FunD K er.e.d.name er.e.d.qual er.e.d.params er.e.d.body er.e.d.scope [] (er.e.d.kws K) (He.fAd K er.e.d.at_) fd := by
          have : er.e.d.dvs K = [] := by unfold He.DefD.dvs; rw [b7]; rfl
          rw [this] at hfd
          exact hfd
        refine ⟨?_, er.fs, ?_, b2, oex_ok x1, He.fAd K er.e.d.at_, fd, er.e.ps, x2, x3, ?_, ?_⟩
        · rw [hcl.1, ← hx]
          exact Z.fCls hcl.2
        · show (t.ers.find? fun x => x.c == er.c).map (·.fs) = some er.fs
          rw [hf]
          rfl
        · exact exinit_ok (G := t.gn K) (k := 0) hfd (scope_ok b1) (oex_ok x1) (fun f hf2 => Z.fNo (c := er.c) (f := f) (b10 f hf2)) b2 b3 b4 b5
        · exact hfd2.bindsN fun _ _ _ _ _ _ us hl => bind_simple b6 us hl
    · cases h
  SF := by
    intro c h b e
    have e : (if (t.exs.contains c && t.exs.contains h) = true then some (t.sub.contains (c, h)) else none) = some b := e
    split at e
    · rename_i hs
      cases e
      rw [Bool.and_eq_true] at hs
      have h1 : c ∈ t.exs := by simpa using hs.1
      have h2 : h ∈ t.exs := by simpa using hs.2
      rw [(Z.clsAt (Z.staAll.2.2.2.2.2.1 _ h1)).1, (Z.clsAt (Z.staAll.2.2.2.2.2.1 _ h2)).1]
      exact Z.fExm h1 h2
    · cases e
  XF := by
    intro c h e
    have e : (if (t.exs.contains c && t.exs.contains h) = true then some (t.sub.contains (c, h)) else none).isSome = true := e
    split at e
    · rename_i hs
      rw [Bool.and_eq_true] at hs
      have h1 : c ∈ t.exs := by simpa using hs.1
      have hex := Z.exAll.2.2.1
      unfold Tb.exsB at hex
      simp only [Bool.and_eq_true, List.all_eq_true] at hex
      exact ⟨xfB_ok (hex.1 c h1), fun f hf => Z.fNo hf⟩
    · cases e
end Hd
end
end EV
set_option Elab.async false
set_option linter.all false
set_option maxRecDepth 100000
set_option maxHeartbeats 4000000
/-! EV, part Fc: defaults; the end. -/
namespace EV
open PySem PySem.Spec PyProof.Rows L2 LamX RZ HT
abbrev LoopS := List (Str × Value)
def loopB : Str × Value → LoopS → Sem (ForInStep LoopS) := fun x s => if (List.lookup x.fst s).isNone = true then pure (ForInStep.yield (s ++ [(x.fst, x.snd)])) else pure (ForInStep.yield s)
theorem loopA : ∀ (qs : List Str) (vs : List Value) (L : LoopS), qs.Nodup → (∀ n ∈ qs, L.lookup n = none) → forIn (qs.zip vs) L loopB = (pure (L ++ qs.zip vs) : Sem LoopS)
  | [], vs, L, _, _ => by simp
  | q :: qs, [], L, _, _ => by simp
  | q :: qs, v :: vs, L, nd, h => by
    rw [List.zip_cons_cons, List.forIn_cons]
    have : loopB (q, v) L = pure (ForInStep.yield (L ++ [(q, v)])) := by unfold loopB; rw [h q (List.mem_cons_self ..)]; rfl
    rw [this, pure_bind]
    have ih := loopA qs vs (L ++ [(q, v)]) (List.nodup_cons.mp nd).2 fun n hn => by
      rw [List.lookup_append, h n (List.mem_cons_of_mem _ hn)]
      have : n ≠ q := fun e => (List.nodup_cons.mp nd).1 (e ▸ hn)
      have h2 : (n == q) = false := by simpa using this
      rw [List.lookup_cons, h2]
      rfl
    simp only
    rw [ih]
    simp
theorem loopPA : ∀ (j : Nat) (qs : List Str) (vs : List Value) (L : LoopS), qs.Nodup → (∀ n ∈ qs.take j, (L.lookup n).isNone = false) → (∀ n ∈ qs.drop j, L.lookup n = none) → forIn (qs.zip vs) L loopB = (pure (L ++ (qs.drop j).zip (vs.drop j)) : Sem LoopS)
  | 0, qs, vs, L, nd, _, h => by simpa using loopA qs vs L nd (by simpa using h)
  | j + 1, [], vs, L, _, _, _ => by simp
  | j + 1, q :: qs, [], L, _, _, _ => by simp
  | j + 1, q :: qs, v :: vs, L, nd, h1, h2 => by
    rw [List.zip_cons_cons, List.forIn_cons]
    have : loopB (q, v) L = pure (ForInStep.yield L) := by unfold loopB; rw [h1 q (by simp)]; rfl
    rw [this, pure_bind]
    exact loopPA j qs vs L (List.nodup_cons.mp nd).2 (fun n hn => h1 n (by simp [hn])) fun n hn => h2 n (by simpa using hn)
theorem zip_lookE : ∀ (ps : List Str) (us : List Value) (n : Str), ps.Nodup → (n ∈ ps.take us.length → ((ps.zip us).lookup n).isNone = false) ∧ (n ∈ ps.drop us.length → (ps.zip us).lookup n = none)
  | [], us, n, _ => by simp
  | p :: ps, [], n, _ => by simp
  | p :: ps, u :: us, n, nd => by
    have nd' := List.nodup_cons.mp nd
    obtain ⟨i1, i2⟩ := zip_lookE ps us n nd'.2
    rw [List.zip_cons_cons, List.lookup_cons]
    by_cases e : n = p
    · subst e
      refine ⟨fun _ => by simp, fun h => ?_⟩
      have : n ∈ ps := List.mem_of_mem_drop (by simpa using h)
      exact absurd this nd'.1
    · rw [show (n == p) = false by simpa using e]
      exact ⟨fun h => i1 (by simpa [e] using h), fun h => i2 (by simpa using h)⟩
theorem bind_dfl {x qual : Str} {params : Arguments} {body : List Stmt} {scope : Scope} {kV doc pm : Value} {T : Addr} {an : Option Addr} {cdv ct : Value} {ps : List Str} (hs : simpB params ps = true) (us its : List Value) (j : Nat) (hi : its.length ≤ ps.length) (hj : j ≤ its.length) (hl : us.length = ps.length - its.length + j) :
    ∃ k, bindArgs (PySem.W.fnOf x qual params body scope (.ref T) kV doc pm an cdv ct) ⟨us, []⟩ = seqItems? (.ref T) >>= k ∧ k (some its.toArray) = pure (ps.zip (us ++ its.drop j)) := by
  unfold simpB at hs
  simp only [Bool.and_eq_true, decide_eq_true_eq] at hs
  obtain ⟨⟨hp, ha⟩, nd⟩ := hs
  split at hp
  · simp only at ha
    refine ⟨_, by unfold bindArgs; simp only [PySem.W.fnOf, List.forIn_nil, pure_bind]; rfl, ?_⟩
    have h2 : ¬ us.length > ps.length := by omega
    have h3 : its.length - ps.length = 0 := by omega
    have hfd : ps.length - its.length ≤ us.length := by omega
    have hm : ((ps.take (ps.length - its.length)).filter fun n => ((ps.zip us).lookup n).isNone) = [] := by
      rw [List.filter_eq_nil_iff]
      intro n hn
      have : n ∈ ps.take us.length := by
        have e : ps.take (ps.length - its.length) = (ps.take us.length).take (ps.length - its.length) := by rw [List.take_take, Nat.min_eq_left hfd]
        rw [e] at hn
        exact List.mem_of_mem_take hn
      rw [(zip_lookE ps us n nd).1 this]
      simp
    have hloop : forIn ((ps.drop (ps.length - its.length)).zip its) (ps.zip us) loopB = (pure (ps.zip us ++ (ps.drop us.length).zip (its.drop j)) : Sem LoopS) := by
      have := loopPA j (ps.drop (ps.length - its.length)) its (ps.zip us) (nd.sublist (List.drop_sublist _ _)) (fun n hn => by
        refine (zip_lookE ps us n nd).1 ?_
        rw [hl, List.take_add]
        exact List.mem_append_right _ hn) fun n hn => by
        rw [List.drop_drop, ← hl] at hn
        exact (zip_lookE ps us n nd).2 hn
      rw [this, List.drop_drop, ← hl]
    have hw : ps.zip us ++ (ps.drop us.length).zip (its.drop j) = ps.zip (us ++ its.drop j) := by
      conv => rhs; rw [← List.take_append_drop us.length ps]
      rw [List.zip_append (by simp; omega)]
      congr 1
      conv => lhs; rw [← List.take_append_drop us.length ps]
      conv => lhs; rw [← List.append_nil us]
      rw [List.zip_append (by simp; omega)]
      simp
    have hb := zip_binds ps (us ++ its.drop j) [] (by simp; omega) nd (fun _ _ => rfl)
    simp only [List.nil_append] at hb
    rw [← hw] at hb
    simp [ha, h2, h3, hm]
    show (fun a => List.filterMap (fun n => Option.map (fun x => (n, x)) (List.lookup n a)) ps) <$> forIn ((ps.drop (ps.length - its.length)).zip its) (ps.zip us) loopB = _
    rw [hloop, map_pure, hb, hw]
  · cases hp

def dvB : He.Dv → D → Bool
  | .non, .non => true
  | .bl b, .bl c => b == c
  | .int i, .int j => decide (i = j)
  | .str s, .str z => decide (s = z)
  | _, _ => false
theorem dv_ok {K : PySem.W.Frag} {G : Gb} {H : Hp} {N : Addr → Prop} {α : List Addr} {x : He.Dv} {d : D} (h : dvB x d = true) : RV G H N α d (x.v K) := by
  cases x <;> cases d <;> first | (cases h; done) | exact .non | (rename_i a b; have h : (a == b) = true := h; rw [beq_iff_eq] at h; subst h; exact .bl _) | (rename_i a b; have h := of_decide_eq_true h; subst h; first | exact .int _ | exact .str _)
def dvsB : List He.Dv → List D → Bool
  | [], [] => true
  | x :: xs, d :: ds => dvB x d && dvsB xs ds
  | _, _ => false
theorem dvs_ok {K : PySem.W.Frag} {G : Gb} {H : Hp} {N : Addr → Prop} {α : List Addr} : ∀ {xs : List He.Dv} {ds : List D}, dvsB xs ds = true → RVs G H N α ds (xs.map (He.Dv.v K))
  | [], [], _ => .nil
  | x :: xs, d :: ds, h => by
    have h : (dvB x d && dvsB xs ds) = true := h
    rw [Bool.and_eq_true] at h
    exact .cons (dv_ok h.1) (dvs_ok h.2)
  | [], _ :: _, h => by cases h
  | _ :: _, [], h => by cases h
theorem dvs_len : ∀ {xs : List He.Dv} {ds : List D}, dvsB xs ds = true → xs.length = ds.length
  | [], [], _ => rfl
  | x :: xs, d :: ds, h => by
    have h : (dvB x d && dvsB xs ds) = true := h
    rw [Bool.and_eq_true] at h
    simp [dvs_len h.2]
  | [], _ :: _, h => by cases h
  | _ :: _, [], h => by cases h
def Tb.dflsB (t : Tb) : Bool := t.fn.toList.all fun x => x.2.e.d.dfl.isEmpty || (dvsB x.2.e.d.dfl x.2.dl && simpB x.2.e.d.params x.2.e.ps && decide (x.2.e.d.dfl.length ≤ x.2.e.ps.length))
theorem dflsB_at {t : Tb} (hb : t.dflsB = true) {f : Nat} {r : FnR} (h : t.fn.get f = some r) (hn : r.e.d.dfl ≠ []) : dvsB r.e.d.dfl r.dl = true ∧ simpB r.e.d.params r.e.ps = true ∧ r.e.d.dfl.length ≤ r.e.ps.length := by
  have h1 := List.all_eq_true.mp hb _ (Tr.mem h)
  simp only [Bool.or_eq_true, Bool.and_eq_true, decide_eq_true_eq, List.isEmpty_iff] at h1
  rcases h1 with h1 | h1
  · exact absurd h1 hn
  · exact ⟨h1.1.1, h1.1.2, h1.2⟩
section
variable {t : Tb} {w : World} {K : PySem.W.Frag} {mg : Str → Option Value} {base h : Heap}
theorem hd_of (S : He.SaysX t.facts t.defs [] t.tf t.ex w h K) (KB : K.In base) (G : base.Ns mainGlobals mg) (TB : ∀ p ∈ t.tf.map (He.cT K), TabB base mg p.1 p.2) (sta : t.staB = true) (fns : ∀ fa, t.fnsB (t.pf fa) = true) (hdf : t.dflsB = true) : Hd t K mg base where
  fact f hf := S.t.d.facts hf
  defs d hd := S.t.d.defs hd
  ex := S.more
  sta := sta
  fns := fns
  glo x hx := He.glo_ok KB G hx
  free x hx := He.free_ok KB G hx
  con x u hx := PySem.W.mg_of KB G hx
  dfs f r fd h1 hne q m := by
    obtain ⟨k1, k2, k3⟩ := dflsB_at hdf h1 hne
    obtain ⟨oc, od, dV, kV, doc, pm, an, cdv, ct, osl, rfl, lk, hcd, hD, hK⟩ := q.ex
    have hlen := dvs_len k1
    have hdfl : t.pg.dfl f m = r.dl.drop (r.dl.length - (r.F.many - m)) := by
      show (match t.fn.get f with | some r => r.dl.drop (r.dl.length - (r.F.many - m)) | none => []) = _
      rw [h1]
    rcases hD with ⟨e0, _⟩ | ⟨_, T, o, its, n, rfl, lT, oT, rT⟩
    · unfold He.DefD.dvs at e0
      exact absurd (List.map_eq_nil_iff.mp e0) hne
    have hil : its.length = r.dl.length := by rw [← rT.length, ← hlen]; unfold He.DefD.dvs; simp
    refine ⟨(r.e.d.dvs K).drop (r.dl.length - (r.F.many - m)), its.drop (r.dl.length - (r.F.many - m)), fun _ => ?_, rT.drop _, fun p => ?_⟩
    · intro s us X hl
      have hl : (us ++ its.drop (r.dl.length - (r.F.many - m))).length = r.e.ps.length := hl
      rw [List.length_append, List.length_drop] at hl
      obtain ⟨k, e1, e2⟩ := bind_dfl (x := r.e.d.name) (qual := r.e.d.qual) (params := r.e.d.params) (body := r.e.d.body) (scope := r.e.d.scope) (kV := kV) (doc := doc) (pm := pm) (T := T) (an := an) (cdv := cdv) (ct := ct) k2 us its (r.dl.length - (r.F.many - m)) (by omega) (by omega) (by omega)
      refine BindsTo.of_looks fun M => ?_
      rw [e1]
      exact looks_items X lT oT (.of_pure e2)
    · rw [hdfl]
      exact (dvs_ok k1).drop _
  tab e he hl := TB _ (by
    unfold Tb.tf
    rw [List.mem_map]
    exact ⟨e.d.at_, List.mem_map.mpr ⟨e, List.mem_filter.mpr ⟨he, hl⟩, rfl⟩, rfl⟩)
/-- the end of a law -/
theorem ev_law {t : Tb} {l : PySem.W.OpenLaw} {q : Program} {loose : List Str} {XP : (Str → Option Value) → Heap → Prop} {d : DefRec} {depth j lawNo : Nat} {r : FnR} (hn : l.most = some 63) (hdn : d.params.defaults = []) (hr : Room (4 * j + 1) callerA) (hname : d.name = "law")
    (sta : t.staB = true) (fns : ∀ fa, t.fnsB (t.pf fa) = true) (hdf : t.dflsB = true)
    (he : t.fn.get lawNo = some r) (hat : r.e.d.at_ = (("law" : Str), none)) (hps : r.e.ps = [("script" : Str)]) (hth : r.e.th = none) (hdl : r.e.d.dfl = [])
    (hev : ∀ ns : List Int, ns.length ≤ 63 → (∀ z ∈ ns, Builtin.Int.intBits z ≤ 1048576) → ∃ S', fnk t.prog j lawNo [.scr (ns.map .int)] [] = .ok (.bl true) S') :
    PySem.W.WalkO q loose XP (He.hookX depth t.facts t.defs [] t.tf t.ex).says l.row.toRowW d [] (fun f vs => PySem.call f vs) := by
  refine walk_ofTsE (l := l) (n := 63) (k := 4 * j + 1) (CX := fun w => L2.CX l.prog w) (x := "script") hn (by decide) hdn hr ?_ ?_
  · rintro w mg fa h ⟨K, KX, S⟩ G hmg
    refine ⟨K, KX, ?_⟩
    have h3 := List.all_eq_true.mp (fns (t.faK K)) _ (Tr.mem he)
    have hem : r.e ∈ t.fnl := List.mem_map.mpr ⟨_, Tr.mem he, rfl⟩
    obtain ⟨fd, hfd⟩ := S.t.d.defs (d := r.e.d) (by unfold Tb.defs; rw [List.mem_append, List.mem_map]; exact .inl ⟨r.e, hem, rfl⟩)
    have hfd2 : FunD K r.e.d.name r.e.d.qual r.e.d.params r.e.d.body r.e.d.scope [] (r.e.d.kws K) (He.fAd K r.e.d.at_) fd := by
      have : r.e.d.dvs K = [] := by unfold He.DefD.dvs; rw [hdl]; rfl
      rw [this] at hfd
      exact hfd
    have hsimp : simpB r.e.d.params r.e.ps = true := by
      unfold Tb.fnB at h3
      simp only [Bool.and_eq_true] at h3
      have := h3.1.2
      rw [hdl] at this
      simp at this
      exact this.1
    have hmany : r.F.many = 1 := by
      unfold Tb.fnB at h3
      simp only [Bool.and_eq_true, decide_eq_true_eq] at h3
      rw [← h3.1.1.1.1.1.2, hps]
      rfl
    have hcs : ∀ p ∈ t.tf.map (He.cT K), ∃ x ∈ t.tf, He.cT K x = p := fun p hp => List.mem_map.mp hp
    refine ⟨fd, t.tf.map (He.cT K), spF (t.gn K) 1 (fnk t.prog j lawNo), fun p hp => ?_, fun p hp => ?_, fun p hp => ?_, fun s u => ?_, fun H a ns hl hbits hH hS => ?_, fun base KB GB TB => ?_⟩
    · obtain ⟨x, hx, rfl⟩ := hcs p hp
      exact S.empty x hx
    · obtain ⟨x, hx, rfl⟩ := hcs p hp
      exact S.out x hx
    · obtain ⟨x, hx, rfl⟩ := hcs p hp
      exact PySem.W.codeHd_of_K KX (S.hd x hx)
    · have := FunD.bindsA (ps := r.e.ps) hfd2 (fun _ _ _ _ _ _ us hl => bind_simple hsimp us hl) s [u] (by rw [hps]; rfl)
      rw [hps] at this
      exact this
    · refine sp_law (G := t.gn K) rfl (fun p hp => ?_) hS (hev ns hl hbits)
      have hp : p ∈ t.tabs K := hp
      unfold Tb.tabs at hp
      obtain ⟨x, hx, rfl⟩ := List.mem_map.mp hp
      refine hH (He.cT K x.d.at_) ?_
      unfold Tb.tf
      exact List.mem_map.mpr ⟨x.d.at_, List.mem_map.mpr ⟨x, hx, rfl⟩, rfl⟩
    · have Z := hd_of (w := w) (h := h) (mg := mg) S KB GB TB sta fns hdf
      have hlev := (Z.facts (prog := l.prog) (w := w) rfl).level j j (Nat.le_refl _) lawNo r.F (Z.fnsAt he) (by
        show (Z.fe lawNo).th = none
        rw [Z.at_e he, hth])
      obtain ⟨q3, q4, q5⟩ := Z.at_f he
      have hee := Z.at_e he
      have hfa : fa = t.faK K lawNo := by
        have h1 := Z.gloA hem (by rw [hat])
        rw [hname] at hmg
        rw [hat] at h1
        have h1 : mg "law" = some (.ref (He.fAd K (("law" : Str), none))) := h1
        rw [h1] at hmg
        cases hmg
        rw [q4, hat]
      have hfd3 : fd = Z.fdc lawNo := by
        obtain ⟨oc, od, dV, kV, doc, pm, an, cdv, ct, osl, _, lk, _⟩ := hfd.ex
        obtain ⟨oc', od', dV', kV', doc', pm', an', cdv', ct', osl', _, lk', _⟩ := q5.ex
        rw [q4, lk] at lk'
        cases lk'
        rfl
      rw [hfa, hfd3]
      have hps2 : (Z.fe lawNo).ps = [("script" : Str)] := by rw [hee, hps]
      rw [hmany] at hlev
      rw [← hps2]
      exact hlev
  · rintro w H s e s' ⟨a, B, H', cls, d, _, _, _, _, _, _, _, z⟩
    exact z
end
end EV
set_option Elab.async false
set_option linter.all false
set_option maxRecDepth 100000
set_option maxHeartbeats 4000000
/-! EV, part Lr: the evaluator, step by step: one rule a construct. -/
namespace EV
open PySem L2
section
variable {E : Ec} {sub : Nat → Nat → Option Bool} {ρ ρ' ρ1 : Env'} {S S1 S2 S3 S4 : Store} {a b c e : ME} {d x y z : D} {es : MEs} {ds : List D} {i f n : Nat} {live : Bool}
theorem r_c : ev E (.c d) ρ S = .ok d S := rfl
theorem r_v (h : ρ[i]? = some (some d)) : ev E (.v i) ρ S = .ok d S := by rw [ev, h]; rfl
theorem r_g (h : E.P.glob n = some d) : ev E (.g n) ρ S = .ok d S := by rw [ev, h]; rfl
theorem r_o1 {o : O1} (h : ev E a ρ S = .ok x S1) (h2 : o1 S1 o x = some z) : ev E (.o1 o a) ρ S = .ok z S1 := by rw [ev, h, Rs.bind_ok, h2]; rfl
theorem r_o2 {o : O2} (h : ev E a ρ S = .ok x S1) (h' : ev E b ρ S1 = .ok y S2) (h2 : o2 S2 o x y = some z) : ev E (.o2 o a b) ρ S = .ok z S2 := by rw [ev, h, Rs.bind_ok, h', Rs.bind_ok, h2]; rfl
theorem r_isi {ts : List Ty} {tg : Tg} {t : Bool} (h : ev E a ρ S = .ok x S1) (h2 : tagOf E.P.cls S1 x = some tg) (h3 : ts.any (isTag tg) = t) : ev E (.isi a ts) ρ S = .ok (.bl t) S1 := by rw [ev, h, Rs.bind_ok, h2, ← h3]
theorem r_and_t {r : Rs D} (h : ev E a ρ S = .ok x S1) (h2 : truth S1 x = some true) (h3 : ev E b ρ S1 = r) : ev E (.and_ a b) ρ S = r := by rw [ev, h, Rs.bind_ok, h2, ← h3]
theorem r_and_f (h : ev E a ρ S = .ok x S1) (h2 : truth S1 x = some false) : ev E (.and_ a b) ρ S = .ok x S1 := by rw [ev, h, Rs.bind_ok, h2]
theorem r_or_t (h : ev E a ρ S = .ok x S1) (h2 : truth S1 x = some true) : ev E (.or_ a b) ρ S = .ok x S1 := by rw [ev, h, Rs.bind_ok, h2]
theorem r_or_f {r : Rs D} (h : ev E a ρ S = .ok x S1) (h2 : truth S1 x = some false) (h3 : ev E b ρ S1 = r) : ev E (.or_ a b) ρ S = r := by rw [ev, h, Rs.bind_ok, h2, ← h3]
theorem r_not {t : Bool} (h : ev E a ρ S = .ok x S1) (h2 : truth S1 x = some t) : ev E (.not_ a) ρ S = .ok (.bl (!t)) S1 := by rw [ev, h, Rs.bind_ok, h2]; rfl
theorem r_ite_t {r : Rs D} (h : ev E c ρ S = .ok x S1) (h2 : truth S1 x = some true) (h3 : ev E a ρ S1 = r) : ev E (.ite c a b) ρ S = r := by rw [ev, h, Rs.bind_ok, h2, ← h3]
theorem r_ite_f {r : Rs D} (h : ev E c ρ S = .ok x S1) (h2 : truth S1 x = some false) (h3 : ev E b ρ S1 = r) : ev E (.ite c a b) ρ S = r := by rw [ev, h, Rs.bind_ok, h2, ← h3]
theorem r_tup (h : evs E es ρ S = .ok ds S1) (h2 : ds.length ≤ sizeLine) : ev E (.tup es) ρ S = .ok (.tup ds) S1 := by rw [ev, h, Rs.bind_ok, if_pos h2]
theorem r_mkv {m : MC} {q : Cell} (h : evC E m ρ S = .ok q S1) : ev E (.mk false m) ρ S = .ok (toD q) S1 := by rw [ev, h, Rs.bind_ok]; rfl
theorem r_mkl {m : MC} {q : Cell} (h : evC E m ρ S = .ok q S1) : ev E (.mk true m) ρ S = .ok (.ref S1.length) (S1 ++ [some q]) := by rw [ev, h, Rs.bind_ok]; rfl
theorem r_add (h : ev E a ρ S = .ok x S1) (h' : ev E b ρ S1 = .ok y S2) (hl : lstOf S2 x = none) (h2 : o2 S2 .add x y = some z) : ev E (.addD live a b) ρ S = .ok z S2 := by rw [ev, h, Rs.bind_ok, h', Rs.bind_ok, hl]; simp only [h2]; rfl
theorem r_addL {xs ys : List D} (h : ev E a ρ S = .ok x S1) (h' : ev E b ρ S1 = .ok y S2) (hl : lstOf S2 x = some xs) (hl' : lstOf S2 y = some ys) (hz : xs.length + ys.length ≤ sizeLine) : ev E (.addD false a b) ρ S = .ok (.lst (xs ++ ys)) S2 := by rw [ev, h, Rs.bind_ok, h', Rs.bind_ok, hl, hl']; simp only [if_pos hz]; rfl
theorem r_addLl {xs ys : List D} (h : ev E a ρ S = .ok x S1) (h' : ev E b ρ S1 = .ok y S2) (hl : lstOf S2 x = some xs) (hl' : lstOf S2 y = some ys) (hz : xs.length + ys.length ≤ sizeLine) : ev E (.addD true a b) ρ S = .ok (.ref S2.length) (S2 ++ [some (.lst (xs ++ ys))]) := by rw [ev, h, Rs.bind_ok, h', Rs.bind_ok, hl, hl']; simp only [if_pos hz]; rfl
theorem r_mul (h : ev E a ρ S = .ok x S1) (h' : ev E b ρ S1 = .ok y S2) (hl : lstOf S2 x = none) (h2 : o2 S2 .mul x y = some z) : ev E (.mulD live a b) ρ S = .ok z S2 := by rw [ev, h, Rs.bind_ok, h', Rs.bind_ok, hl]; simp only [h2]; rfl
theorem r_mulL {xs : List D} {k : Int} (h : ev E a ρ S = .ok x S1) (h' : ev E b ρ S1 = .ok (.int k) S2) (hl : lstOf S2 x = some xs) (hz : (small62 k && decide (xs.length * k.toNat ≤ sizeLine)) = true) : ev E (.mulD false a b) ρ S = .ok (.lst (List.replicate k.toNat xs).flatten) S2 := by rw [ev, h, Rs.bind_ok, h', Rs.bind_ok, hl]; simp only [if_pos hz]; rfl
theorem r_sl {lo hi : MO} {l r : Option Int} (h : ev E a ρ S = .ok x S1) (h1 : evO E lo ρ S1 = .ok l S2) (h2 : evO E hi ρ S2 = .ok r S3) (hl : lstOf S3 x = none) (hs : slV S3 x l r = some z) : ev E (.slD live a lo hi) ρ S = .ok z S3 := by rw [ev, h, Rs.bind_ok, h1, Rs.bind_ok, h2, Rs.bind_ok, hl]; simp only [hs]; rfl
theorem r_slL {lo hi : MO} {l r : Option Int} {xs : List D} (h : ev E a ρ S = .ok x S1) (h1 : evO E lo ρ S1 = .ok l S2) (h2 : evO E hi ρ S2 = .ok r S3) (hl : lstOf S3 x = some xs) : ev E (.slD false a lo hi) ρ S = .ok (.lst (cutL xs l r)) S3 := by rw [ev, h, Rs.bind_ok, h1, Rs.bind_ok, h2, Rs.bind_ok, hl]; rfl
theorem r_rev {xs : List D} (h : ev E a ρ S = .ok x S1) (hl : lstOf S1 x = some xs) : ev E (.revL false a) ρ S = .ok (.lst xs.reverse) S1 := by rw [ev, h, Rs.bind_ok, hl]; rfl
theorem r_att {cc : Nat} {fs : List Nat} {vs : List D} (h : ev E a ρ S = .ok x S1) (ho : objOf S1 x = some (cc, fs, vs)) (hc : (E.P.cls cc && E.P.fok cc f) = true) (hf : fieldOf fs vs f = some z) : ev E (.att a f) ρ S = .ok z S1 := by rw [ev, h, Rs.bind_ok, ho]; simp only [if_pos hc, hf]; rfl
theorem r_call {r : Rs D} (h : evs E es ρ S = .ok ds S1) (hl : (ds ++ E.P.dfl f ds.length).length = E.P.many f) (hr : E.fn f (ds ++ E.P.dfl f ds.length) S1 = r) : ev E (.call f es) ρ S = r := by rw [ev, h, Rs.bind_ok, if_pos hl, hr]
theorem r_new {cc g : Nat} (h : evs E es ρ S = .ok ds S1) (hi : E.P.init cc = some g) (hl : (ds ++ E.P.dfl g (ds.length + 1)).length + 1 = E.P.many g) (hr : E.fn g (.ref S1.length :: (ds ++ E.P.dfl g (ds.length + 1))) (S1 ++ [some (.obj cc [] [])]) = .ok .non S2) : ev E (.new cc es) ρ S = .ok (.ref S1.length) S2 := by
  rw [ev, h, Rs.bind_ok]
  simp only [hi, if_pos hl, hr, Rs.bind_ok]
theorem r_meth {m cc g : Nat} {fs : List Nat} {vs : List D} {r : Rs D} (h : ev E a ρ S = .ok x S1) (ho : objOf S1 x = some (cc, fs, vs)) (hn : fieldOf fs vs m = none) (hm : E.P.meth cc m = some g) (ha : evs E es ρ S1 = .ok ds S2) (hl : (ds ++ E.P.dfl g (ds.length + 1)).length + 1 = E.P.many g) (hr : E.fn g (x :: (ds ++ E.P.dfl g (ds.length + 1))) S2 = r) : ev E (.meth a m es) ρ S = r := by
  rw [ev, h, Rs.bind_ok, ho]
  simp only [hn, hm, ha, Rs.bind_ok, if_pos hl, hr]
theorem r_mut {o : OM} {xs ys : List D} {r : Rs D} (h : ev E a ρ S = .ok (.ref n) S1) (hc : cellOf S1 n = some (.lst xs)) (ha : evs E es ρ S1 = .ok ds S2) (hc2 : cellOf S2 n = some (.lst ys)) (hr : om S2 n o ys ds = r) : ev E (.mut o a es) ρ S = r := by
  rw [ev, h, Rs.bind_ok]
  simp only [hc, ha, Rs.bind_ok, hc2, hr]
theorem r_thunk {r : Rs D} (h : E.fnT f (fun S' => ev E e ρ S') S = r) : ev E (.thunk f e) ρ S = r := by rw [ev, h]
theorem rs_nil : evs E .nil ρ S = .ok [] S := rfl
theorem rs_cons (h : ev E e ρ S = .ok d S1) (h2 : evs E es ρ S1 = .ok ds S2) : evs E (.cons e es) ρ S = .ok (d :: ds) S2 := by rw [evs, h, Rs.bind_ok, h2]; rfl
theorem rO_none : evO E .none ρ S = .ok none S := rfl
theorem rO_some {k : Int} (h : ev E e ρ S = .ok (.int k) S1) : evO E (.some e) ρ S = .ok (some k) S1 := by rw [evO, h]; rfl
theorem rC_disp (h : evs E es ρ S = .ok ds S1) (hl : ds.length ≤ sizeLine) : evC E (.disp es) ρ S = .ok (.lst ds) S1 := by rw [evC, h, Rs.bind_ok, if_pos hl]
theorem rC_lof {xs : List D} (h : ev E a ρ S = .ok x S1) (hx : seqOf S1 x = some xs) : evC E (.lof a) ρ S = .ok (.lst xs) S1 := by rw [evC, h, Rs.bind_ok, hx]; rfl
theorem rI_e {r : List D × List Nat} (h : ev E a ρ S = .ok x S1) (hi : iterOf S1 x = some r) : evI E (.e a) ρ S = .ok r S1 := by rw [evI, h, Rs.bind_ok, hi]; rfl
theorem rI_range1 {j : Int} (h : ev E a ρ S = .ok (.int j) S1) (hs : small62 j = true) : evI E (.range1 a) ρ S = .ok (rangeD 0 j.toNat, []) S1 := by rw [evI, h, Rs.bind_ok]; simp only [hs, if_true]
theorem rI_range2 {i j : Int} (h : ev E a ρ S = .ok (.int i) S1) (h' : ev E b ρ S1 = .ok (.int j) S2) (hs : (small62 i && small62 j) = true) : evI E (.range2 a b) ρ S = .ok (rangeD i (j - i).toNat, []) S2 := by rw [evI, h, Rs.bind_ok, h', Rs.bind_ok]; simp only [hs, if_true]
theorem rI_enum {xs : List D} {l : List Nat} (h : ev E a ρ S = .ok x S1) (hi : iterL S1 x = some (xs, l)) : evI E (.enum a) ρ S = .ok (xs.mapIdx fun i x => .tup [.int (i : Nat), x], l) S1 := by rw [evI, h, Rs.bind_ok, hi]
theorem rI_zip {xs ys : List D} {l m : List Nat} (h : ev E a ρ S = .ok x S1) (h' : ev E b ρ S1 = .ok y S2) (ht : isTupD x = isTupD y) (hi : iterL S2 x = some (xs, l)) (hi' : iterL S2 y = some (ys, m)) : evI E (.zip a b) ρ S = .ok ((xs.zip ys).map fun p => .tup [p.1, p.2], l ++ m) S2 := by rw [evI, h, Rs.bind_ok, h', Rs.bind_ok, if_pos ht, hi, hi']
/-- a comprehension -/
def compF (E : Ec) (elt : ME) (tg : MT) (cond : MO) (own : List Nat) (ρ : Env') (x : D) (S' : Store) : Rs (Option D) := match bindT tg x (wipeD ρ own) with
  | some ρ' => (evCond E cond ρ' S').bind fun b S2 => match b with
    | true => (ev E elt ρ' S2).bind fun d S3 => .ok (some d) S3
    | false => .ok none S2
  | none => .stuck
theorem rC_comp {elt : ME} {tg : MT} {it : MI} {cond : MO} {own : List Nat} {xs : List D} {ls : List Nat} {q : Cell} (h : evI E it ρ S = .ok (xs, ls) S1) (hl : xs.length ≤ sizeLine)
    (hc : compL (compF E elt tg cond own ρ) xs (lock S1 ls) [] = .ok q S2) : evC E (.comp elt tg it cond own) ρ S = .ok q (unlock S1 S2 ls) := by
  rw [evC, h, Rs.bind_ok]
  simp only [if_pos hl]
  show (compL (compF E elt tg cond own ρ) xs (lock S1 ls) []).bind _ = _
  rw [hc]
  rfl
/-! ### statements -/
theorem xs_nil : execs E sub .nil ρ S = .fl (.nx ρ) S := rfl
theorem xs_cons {s : MS} {m : MB} {r : Ro} (h : exec E sub s ρ S = .fl (.nx ρ') S1) (h2 : execs E sub m ρ' S1 = r) : execs E sub (.cons s m) ρ S = r := by rw [execs, h, ← h2]; rfl
theorem xs_rt {s : MS} {m : MB} (h : exec E sub s ρ S = .fl (.rt d) S1) : execs E sub (.cons s m) ρ S = .fl (.rt d) S1 := by rw [execs, h]; rfl
theorem xs_exc {s : MS} {m : MB} {cc : Nat} {fs : List Nat} {vs : List D} (h : exec E sub s ρ S = .exc ρ' cc fs vs S1) : execs E sub (.cons s m) ρ S = .exc ρ' cc fs vs S1 := by rw [execs, h]; rfl
theorem xs_ct {s : MS} {m : MB} (h : exec E sub s ρ S = .fl (.ct ρ') S1) : execs E sub (.cons s m) ρ S = .fl (.ct ρ') S1 := by rw [execs, h]; rfl
theorem xs_bk {s : MS} {m : MB} (h : exec E sub s ρ S = .fl (.bk ρ') S1) : execs E sub (.cons s m) ρ S = .fl (.bk ρ') S1 := by rw [execs, h]; rfl
theorem x_asg {t : MG} (h : ev E e ρ S = .ok d S1) (h2 : asg E t d ρ S1 = .ok ρ' S2) : exec E sub (.asg t e) ρ S = .fl (.nx ρ') S2 := by rw [exec, h, Rs.ro_ok, h2]
theorem x_asg_exc {t : MG} {cc : Nat} {fs : List Nat} {vs : List D} (h : ev E e ρ S = .exc cc fs vs S1) : exec E sub (.asg t e) ρ S = .exc ρ cc fs vs S1 := by rw [exec, h]; rfl
theorem x_par {is : List Nat} (h : evs E es ρ S = .ok ds S1) (h2 : setAll is ds ρ = some ρ') : exec E sub (.par is es) ρ S = .fl (.nx ρ') S1 := by rw [exec, h, Rs.ro_ok, h2]
theorem x_augv {o : O2} (h0 : ρ[i]? = some (some x)) (h : ev E e ρ S = .ok y S1) (h2 : aug S1 o x y = some z) (hi : i < ρ.length) : exec E sub (.augv i o e) ρ S = .fl (.nx (ρ.set i (some z))) S1 := by rw [exec, h0]; simp only [Option.join_some, h, Rs.ro_ok, h2, if_pos hi]
theorem x_auga {o : O2} {cc : Nat} {fs : List Nat} {vs : List D} {w : D} (h : ev E a ρ S = .ok x S1) (ho : objOf S1 x = some (cc, fs, vs)) (hc : (E.P.cls cc && E.P.fok cc f) = true) (hf : fieldOf fs vs f = some y) (he : ev E e ρ S1 = .ok z S2) (hw : aug S2 o y z = some w) (hi : isCls S2 x cc = true) (hs : setF E.P S2 x f w = some S3) : exec E sub (.auga a f o e) ρ S = .fl (.nx ρ) S3 := by
  rw [exec, h, Rs.ro_ok, ho]
  simp only [if_pos hc, hf, he, Rs.ro_ok, hw, if_pos hi, hs]
theorem x_ex (h : ev E e ρ S = .ok d S1) : exec E sub (.ex e) ρ S = .fl (.nx ρ) S1 := by rw [exec, h]; rfl
theorem x_ex_exc {cc : Nat} {fs : List Nat} {vs : List D} (h : ev E e ρ S = .exc cc fs vs S1) : exec E sub (.ex e) ρ S = .exc ρ cc fs vs S1 := by rw [exec, h]; rfl
theorem x_ret (h : ev E e ρ S = .ok d S1) : exec E sub (.ret e) ρ S = .fl (.rt d) S1 := by rw [exec, h]; rfl
theorem x_ret_exc {cc : Nat} {fs : List Nat} {vs : List D} (h : ev E e ρ S = .exc cc fs vs S1) : exec E sub (.ret e) ρ S = .exc ρ cc fs vs S1 := by rw [exec, h]; rfl
theorem x_retN : exec E sub .retN ρ S = .fl (.rt .non) S := rfl
theorem x_pass : exec E sub .pass ρ S = .fl (.nx ρ) S := rfl
theorem x_brk : exec E sub .brk ρ S = .fl (.bk ρ) S := rfl
theorem x_cont : exec E sub .cont ρ S = .fl (.ct ρ) S := rfl
theorem x_if_t {A B : MB} {r : Ro} (h : ev E c ρ S = .ok x S1) (h2 : truth S1 x = some true) (h3 : execs E sub A ρ S1 = r) : exec E sub (.if_ c A B) ρ S = r := by rw [exec, h, Rs.ro_ok, h2, ← h3]
theorem x_if_f {A B : MB} {r : Ro} (h : ev E c ρ S = .ok x S1) (h2 : truth S1 x = some false) (h3 : execs E sub B ρ S1 = r) : exec E sub (.if_ c A B) ρ S = r := by rw [exec, h, Rs.ro_ok, h2, ← h3]
theorem x_for {tg : MT} {it : MI} {B : MB} {xs : List D} {ls : List Nat} {r : Ro} (h : evI E it ρ S = .ok (xs, ls) S1) (h2 : forL tg (fun ρ S => execs E sub B ρ S) xs ρ (lock S1 ls) = r) : exec E sub (.for_ tg it B) ρ S = r.mapS fun S2 => unlock S1 S2 ls := by rw [exec, h, Rs.ro_ok, h2]
theorem x_forN {tg : MT} {it : MI} {B : MB} {xs : List D} (h : evI E it ρ S = .ok (xs, []) S1) (h2 : forL tg (fun ρ S => execs E sub B ρ S) xs ρ S1 = .fl (.nx ρ') S2) : exec E sub (.for_ tg it B) ρ S = .fl (.nx ρ') S2 := by rw [x_for h h2]; rfl
theorem x_while {c : ME} {B : MB} {ro : Ro} (h : whileL (fun ρ S => (ev E c ρ S).bind fun x S1 => Rs.of S1 (truth S1 x)) (fun ρ S => execs E sub B ρ S) wFuel ρ S = ro) : exec E sub (.while_ c B) ρ S = ro := by rw [exec, h]
theorem c_of {c : ME} {x : D} {t : Bool} (h : ev E c ρ S = .ok x S1) (h2 : truth S1 x = some t) : ((ev E c ρ S).bind fun x S1 => Rs.of S1 (truth S1 x)) = .ok t S1 := by rw [h, Rs.bind_ok, h2]; rfl
theorem x_raise {cc : Nat} {fs : List Nat} (h : evs E es ρ S = .ok ds S1) (hf : E.P.exf cc = some fs) (hl : fs.length = ds.length) : exec E sub (.raise cc es) ρ S = .exc ρ cc fs.reverse ds.reverse S1 := by rw [exec, h, Rs.ro_ok, hf]; simp only [if_pos hl]
theorem a_v (h : i < ρ.length) : asg E (.v i) d ρ S = .ok (ρ.set i (some d)) S := by rw [asg, if_pos h]
theorem a_att {o : ME} (h : ev E o ρ S = .ok x S1) (h2 : setF E.P S1 x f d = some S2) : asg E (.att o f) d ρ S = .ok ρ S2 := by rw [asg, h, Rs.bind_ok, h2]
theorem a_ix {o i : ME} (h : ev E o ρ S = .ok x S1) (h' : ev E i ρ S1 = .ok y S2) (h2 : setX S2 x y d = some S3) : asg E (.ix o i) d ρ S = .ok ρ S3 := by rw [asg, h, Rs.bind_ok, h', Rs.bind_ok, h2]
theorem a_t {ts : MGs} (h : asgs E ts ds ρ S = .ok ρ' S1) : asg E (.t ts) (.tup ds) ρ S = .ok ρ' S1 := by rw [asg, h]
theorem as_nil : asgs E .nil [] ρ S = .ok ρ S := rfl
theorem as_cons {t : MG} {ts : MGs} (h : asg E t d ρ S = .ok ρ1 S1) (h2 : asgs E ts ds ρ1 S1 = .ok ρ' S2) : asgs E (.cons t ts) (d :: ds) ρ S = .ok ρ' S2 := by rw [asgs, h, Rs.bind_ok, h2]
end
/-! ### rules that look once -/
def addR (live : Bool) (x y : D) (S2 : Store) : Rs D := match lstOf S2 x, lstOf S2 y with
  | some xs, some ys => if xs.length + ys.length ≤ sizeLine then mkD live (.lst (xs ++ ys)) S2 else .stuck
  | _, _ => Rs.of S2 (o2 S2 .add x y)
def mulR (live : Bool) (x y : D) (S2 : Store) : Rs D := match lstOf S2 x, y with
  | some xs, .int k => if small62 k && decide (xs.length * k.toNat ≤ sizeLine) then mkD live (.lst (List.replicate k.toNat xs).flatten) S2 else .stuck
  | _, _ => Rs.of S2 (o2 S2 .mul x y)
def slR (live : Bool) (x : D) (l h : Option Int) (S3 : Store) : Rs D := match lstOf S3 x with
  | some xs => mkD live (.lst (cutL xs l h)) S3
  | none => Rs.of S3 (slV S3 x l h)
section
variable {E : Ec} {sub : Nat → Nat → Option Bool} {ρ ρ' ρ1 : Env'} {S S1 S2 S3 S4 : Store} {a b c e : ME} {d x y z : D} {es : MEs} {ds : List D} {i f n : Nat} {live : Bool} {r : Rs D} {ro : Ro} {t : Bool}
theorem r_addX (h : ev E a ρ S = .ok x S1) (h' : ev E b ρ S1 = .ok y S2) (h2 : addR live x y S2 = r) : ev E (.addD live a b) ρ S = r := by rw [ev, h, Rs.bind_ok, h', Rs.bind_ok, ← h2]; rfl
theorem r_mulX (h : ev E a ρ S = .ok x S1) (h' : ev E b ρ S1 = .ok y S2) (h2 : mulR live x y S2 = r) : ev E (.mulD live a b) ρ S = r := by rw [ev, h, Rs.bind_ok, h', Rs.bind_ok, ← h2]; rfl
theorem r_slX {lo hi : MO} {l u : Option Int} (h : ev E a ρ S = .ok x S1) (h1 : evO E lo ρ S1 = .ok l S2) (h2 : evO E hi ρ S2 = .ok u S3) (h3 : slR live x l u S3 = r) : ev E (.slD live a lo hi) ρ S = r := by rw [ev, h, Rs.bind_ok, h1, Rs.bind_ok, h2, Rs.bind_ok, ← h3]; rfl
theorem r_and (h : ev E a ρ S = .ok x S1) (h2 : truth S1 x = some t) (h3 : cond t (ev E b ρ S1) (.ok x S1) = r) : ev E (.and_ a b) ρ S = r := by rw [ev, h, Rs.bind_ok, h2, ← h3]; cases t <;> rfl
theorem r_or (h : ev E a ρ S = .ok x S1) (h2 : truth S1 x = some t) (h3 : cond t (.ok x S1) (ev E b ρ S1) = r) : ev E (.or_ a b) ρ S = r := by rw [ev, h, Rs.bind_ok, h2, ← h3]; cases t <;> rfl
theorem r_ite (h : ev E c ρ S = .ok x S1) (h2 : truth S1 x = some t) (h3 : cond t (ev E a ρ S1) (ev E b ρ S1) = r) : ev E (.ite c a b) ρ S = r := by rw [ev, h, Rs.bind_ok, h2, ← h3]; cases t <;> rfl
theorem x_if {A B : MB} (h : ev E c ρ S = .ok x S1) (h2 : truth S1 x = some t) (h3 : cond t (execs E sub A ρ S1) (execs E sub B ρ S1) = ro) : exec E sub (.if_ c A B) ρ S = ro := by rw [exec, h, Rs.ro_ok, h2, ← h3]; cases t <;> rfl
theorem xs_c {s : MS} {m : MB} {r1 : Ro} (h : exec E sub s ρ S = r1) (h2 : r1.nx (fun ρ' S' => execs E sub m ρ' S') = ro) : execs E sub (.cons s m) ρ S = ro := by rw [execs, h, ← h2]
theorem r_call0 (h : evs E es ρ S = .ok ds S1) (h0 : E.P.dfl f ds.length = []) (hl : ds.length = E.P.many f) (hr : E.fn f ds S1 = r) : ev E (.call f es) ρ S = r := by
  refine r_call h ?_ ?_
  · rw [h0, List.append_nil]; exact hl
  · rw [h0, List.append_nil]; exact hr
theorem add_int {i j : Int} : addR live (.int i) (.int j) S = .ok (.int (i + j)) S := rfl
theorem add_str {a b : Str} (h : a.length + b.length ≤ sizeLine) : addR live (.str a) (.str b) S = .ok (.str (a ++ b)) S := by
  show Rs.of S (if a.length + b.length ≤ sizeLine then some (D.str (a ++ b)) else none) = _
  rw [if_pos h]; rfl
theorem add_tup {a b : List D} (h : a.length + b.length ≤ sizeLine) : addR live (.tup a) (.tup b) S = .ok (.tup (a ++ b)) S := by
  show Rs.of S (if a.length + b.length ≤ sizeLine then some (D.tup (a ++ b)) else none) = _
  rw [if_pos h]; rfl
theorem add_lst {xs ys : List D} (hx : lstOf S x = some xs) (hy : lstOf S y = some ys) (h : xs.length + ys.length ≤ sizeLine) : addR live x y S = mkD live (.lst (xs ++ ys)) S := by
  unfold addR
  rw [hx, hy]
  simp only [if_pos h]
theorem mul_int {i j : Int} (h : o2 S .mul (.int i) (.int j) = some z) : mulR live (.int i) (.int j) S = .ok z S := by
  show Rs.of S (o2 S .mul (.int i) (.int j)) = _
  rw [h]; rfl
theorem add_lstv {xs ys : List D} (hx : lstOf S x = some xs) (hy : lstOf S y = some ys) (h : xs.length + ys.length ≤ sizeLine) : addR false x y S = .ok (.lst (xs ++ ys)) S := add_lst hx hy h
theorem mul_lstv {xs : List D} {k : Int} (hx : lstOf S x = some xs) (h : (small62 k && decide (xs.length * k.toNat ≤ sizeLine)) = true) : mulR false x (.int k) S = .ok (.lst (List.replicate k.toNat xs).flatten) S := by
  unfold mulR
  rw [hx]
  simp only [if_pos h]
  rfl
theorem mul_tup {xs : List D} {k : Int} (h : o2 S .mul (.tup xs) (.int k) = some z) : mulR live (.tup xs) (.int k) S = .ok z S := by
  show Rs.of S (o2 S .mul (.tup xs) (.int k)) = _
  rw [h]; rfl
end
/-! ### operators by values -/
section
variable {S : Store} {i j : Int} {s t : Str} {b c : Bool}
theorem eqD_int : eqD S (.int i) (.int j) = some (decide (i = j)) := by
  show some (PyData.eqv (.int i) (.int j)) = _
  by_cases h : i = j
  · subst h; simp [PyData.eqv]
  · simp [PyData.eqv, h]
theorem o_eqi : o2 S .eq (.int i) (.int j) = some (.bl (decide (i = j))) := by show (eqD S (.int i) (.int j)).map D.bl = _; rw [eqD_int]; rfl
theorem o_nei : o2 S .ne (.int i) (.int j) = some (.bl (!decide (i = j))) := by show (eqD S (.int i) (.int j)).map (fun r => D.bl (!r)) = _; rw [eqD_int]; rfl
theorem o_mulr (h : small64 j = true) : o2 S .mul (.int i) (.int j) = some (.int (i * j)) := by show (if (small64 i || small64 j) = true then _ else _) = _; rw [h, Bool.or_true]; rfl
theorem o_mull (h : small64 i = true) : o2 S .mul (.int i) (.int j) = some (.int (i * j)) := by show (if (small64 i || small64 j) = true then _ else _) = _; rw [h, Bool.true_or]; rfl
theorem o_mod (h : 0 < j) : o2 S .mod (.int i) (.int j) = some (.int (i % j)) := by show (if 0 < j then _ else _) = _; rw [if_pos h]
theorem o_fdiv (h : 0 < j) (h2 : j < 1073741824) : o2 S .fdiv (.int i) (.int j) = some (.int (i / j)) := by show (if 0 < j ∧ j < 1073741824 then _ else _) = _; rw [if_pos ⟨h, h2⟩]
theorem o_pow (h : 0 ≤ j) (h2 : j ≤ 1000000) (h3 : i.natAbs < 2 ^ 64) : o2 S .pow (.int i) (.int j) = some (.int (i ^ j.toNat)) := by show (if 0 ≤ j ∧ j ≤ 1000000 ∧ i.natAbs < 2 ^ 64 then _ else _) = _; rw [if_pos ⟨h, h2, h3⟩]
theorem t_tr {S : Store} {d : D} (h : truth S d = some true) : truth S d = some true := h
theorem t_fa {S : Store} {d : D} (h : truth S d = some false) : truth S d = some false := h
theorem t_bl {b c : Bool} (h : b = c) : truth S (.bl b) = some c := by subst h; rfl
end
theorem o_len {S : Store} {x : D} {xs : List D} (h : seqOf S x = some xs) : o1 S .len x = some (.int xs.length) := by
  cases x <;> first | (simp only [o1, h]; done) | (simp [seqOf] at h; done)
theorem o_lenS {S : Store} {s : Str} (h : s.length ≤ sizeLine) : o1 S .len (.str s) = some (.int s.length) := by
  simp only [o1, if_pos h]
/-! ### walks -/
theorem forL_inv {tg : MT} {b : Env' → Store → Ro} (P : Nat → Env' → Store → Prop) : ∀ (xs : List D) (i : Nat) (ρ : Env') (S : Store), P i ρ S →
    (∀ j x ρ S, xs[j]? = some x → P (i + j) ρ S → ∃ ρ1 ρ' S', bindT tg x ρ = some ρ1 ∧ b ρ1 S = .fl (.nx ρ') S' ∧ P (i + j + 1) ρ' S') →
    ∃ ρ' S', forL tg b xs ρ S = .fl (.nx ρ') S' ∧ P (i + xs.length) ρ' S'
  | [], i, ρ, S, h0, _ => ⟨ρ, S, rfl, h0⟩
  | x :: xs, i, ρ, S, h0, hs => by
    obtain ⟨ρ1, ρ', S', h1, h2, h3⟩ := hs 0 x ρ S rfl h0
    obtain ⟨ρ2, S2, k1, k2⟩ := forL_inv P xs (i + 1) ρ' S' h3 fun j y ρ S hj hp => by
      have := hs (j + 1) y ρ S (by simpa using hj) (by rw [show i + (j + 1) = i + 1 + j by omega]; exact hp)
      rw [show i + (j + 1) + 1 = i + 1 + j + 1 by omega] at this
      exact this
    refine ⟨ρ2, S2, ?_, by rw [show i + (x :: xs).length = i + 1 + xs.length by simp; omega]; exact k2⟩
    rw [forL, h1]
    simp only [h2]
    exact k1
/-- so many turns, then the end -/
theorem whileL_up {c : Env' → Store → Rs Bool} {b : Env' → Store → Ro} (P : Nat → Env' → Store → Prop) (m : Nat) (h : ∀ i ρ S, i < m → P i ρ S → ∃ S1 ρ' S2, c ρ S = .ok true S1 ∧ b ρ S1 = .fl (.nx ρ') S2 ∧ P (i + 1) ρ' S2) (Q : Env' → Store → Prop) (he : ∀ ρ S, P m ρ S → ∃ S1, c ρ S = .ok false S1 ∧ Q ρ S1) :
    ∀ (j n : Nat) (ρ : Env') (S : Store), j ≤ m → m - j < n → P j ρ S → ∃ ρ' S', whileL c b n ρ S = .fl (.nx ρ') S' ∧ Q ρ' S'
  | j, 0, ρ, S, _, hn, _ => absurd hn (by omega)
  | j, n + 1, ρ, S, hj, hn, hp => by
    by_cases e : j = m
    · subst e
      obtain ⟨S1, h1, h2⟩ := he ρ S hp
      exact ⟨ρ, S1, by rw [whileL, h1]; rfl, h2⟩
    · obtain ⟨S1, ρ', S2, h1, h2, h3⟩ := h j ρ S (by omega) hp
      obtain ⟨ρ2, S3, k1, k2⟩ := whileL_up P m h Q he (j + 1) n ρ' S2 (by omega) (by omega) h3
      exact ⟨ρ2, S3, by rw [whileL, h1]; simp only [Rs.ro_ok, h2]; exact k1, k2⟩
/-- turns by a measure -/
theorem whileL_lt {c : Env' → Store → Rs Bool} {b : Env' → Store → Ro} (P : Nat → Env' → Store → Prop) (R : Ro → Prop) (h : ∀ i ρ S, P i ρ S → (∃ S1, c ρ S = .ok false S1 ∧ R (.fl (.nx ρ) S1)) ∨
    ∃ S1, c ρ S = .ok true S1 ∧ ((∃ ρ' S2 i', b ρ S1 = .fl (.nx ρ') S2 ∧ i' < i ∧ P i' ρ' S2) ∨ ∃ ρ' cc fs vs S2, b ρ S1 = .exc ρ' cc fs vs S2 ∧ R (.exc ρ' cc fs vs S2))) :
    ∀ (n i : Nat) (ρ : Env') (S : Store), i < n → P i ρ S → R (whileL c b n ρ S)
  | 0, _, _, _, hi, _ => absurd hi (by omega)
  | n + 1, i, ρ, S, hi, hp => by
    rcases h i ρ S hp with ⟨S1, h1, h2⟩ | ⟨S1, h1, h2⟩
    · rw [whileL, h1]; exact h2
    · rcases h2 with ⟨ρ', S2, i', k1, k2, k3⟩ | ⟨ρ', cc, fs, vs, S2, k1, k2⟩
      · rw [whileL, h1]
        simp only [Rs.ro_ok, k1]
        exact whileL_lt P R h n i' ρ' S2 (by omega) k3
      · rw [whileL, h1]
        simp only [Rs.ro_ok, k1]
        exact k2
theorem compL_inv {f : D → Store → Rs (Option D)} (P : Nat → Store → List D → Prop) : ∀ (xs : List D) (i : Nat) (S : Store) (acc : List D), P i S acc →
    (∀ j x S acc, xs[j]? = some x → P (i + j) S acc → ∃ r S', f x S = .ok r S' ∧ P (i + j + 1) S' (acc ++ r.toList)) →
    ∃ S' acc', compL f xs S acc = .ok (.lst acc') S' ∧ P (i + xs.length) S' acc'
  | [], i, S, acc, h0, _ => ⟨S, acc, rfl, h0⟩
  | x :: xs, i, S, acc, h0, hs => by
    obtain ⟨r, S', h1, h3⟩ := hs 0 x S acc rfl h0
    obtain ⟨S2, acc2, k1, k2⟩ := compL_inv P xs (i + 1) S' (acc ++ r.toList) h3 fun j y S acc hj hp => by
      have := hs (j + 1) y S acc (by simpa using hj) (by rw [show i + (j + 1) = i + 1 + j by omega]; exact hp)
      rw [show i + (j + 1) + 1 = i + 1 + j + 1 by omega] at this
      exact this
    refine ⟨S2, acc2, ?_, by rw [show i + (x :: xs).length = i + 1 + xs.length by simp; omega]; exact k2⟩
    rw [compL, h1]
    cases r with
    | none => simpa using k1
    | some d => simpa using k1
theorem atI_of {α : Type} {xs : List α} {i : Int} {z : α} (h0 : 0 ≤ i) (h : xs[i.toNat]? = some z) : atI xs i = some z := by
  have hl := (List.getElem?_eq_some_iff.mp h).1
  unfold atI ixN
  first
    | (rw [if_pos (by omega)]; simpa using h)
    | (simp [h0]; first | exact h | (split <;> first | exact h | omega))
theorem o_idx {S : Store} {x : D} {xs : List D} {i : Int} {z : D} (hx : seqOf S x = some xs) (h0 : 0 ≤ i) (h : xs[i.toNat]? = some z) : o2 S .idx x (.int i) = some z := by
  show idxD S x (.int i) = _
  unfold idxD
  rw [hx]
  exact atI_of h0 h
theorem fnk_plain {G : Prog} {f j : Nat} {F : Fd} {ds : List D} {S : Store} (hF : G.fns f = some F) (hm : F.mode = .plain) (hl : ds.length = F.many) : fnk G (j + 1) f ds S = bodyOf (execs ⟨G.P, fnk G j, fnT G j, none, none⟩ G.sub F.body (fEnv F ds) S) := by
  conv => lhs; unfold fnk
  simp only [hF, hl, if_true, hm]
theorem fnk_pure {G : Prog} {f j : Nat} {F : Fd} {ds : List D} {S : Store} (hF : G.fns f = some F) (hm : F.mode = .pure) (hl : ds.length = F.many) {es : List D} (he : ds.mapM (outV S 0 outF) = some es) :
    fnk G (j + 1) f ds S = pureOut S (lowDs 0 ds) (bodyOf (execs ⟨G.P, fnk G j, fnT G j, none, none⟩ G.sub F.body (fEnv F es) [])) := by
  conv => lhs; unfold fnk
  simp only [hF, hl, if_true, hm, he]
theorem out_low {S : Store} {ds : List D} {n : Nat} (h : lowDs n ds = true) : ds.mapM (outV S n outF) = some ds := by
  induction ds with
  | nil => rfl
  | cons d ds ih =>
    have h : lowD n d = true ∧ lowDs n ds = true := by simpa [lowDs] using h
    rw [List.mapM_cons, ih h.2]
    have : outV S n outF d = some d := by unfold outF outV; rw [if_pos h.1]
    rw [this]
    rfl
theorem fnk_trim {G : Prog} {f j : Nat} {F : Fd} {ds : List D} {S : Store} (hF : G.fns f = some F) (hm : F.mode = .trim) (hl : ds.length = F.many) : fnk G (j + 1) f ds S = trimOut S.length (bodyOf (execs ⟨G.P, fnk G j, fnT G j, none, none⟩ G.sub F.body (fEnv F ds) S)) := by
  conv => lhs; unfold fnk
  simp only [hF, hl, if_true, hm]
/-- a def of its own frame does not look at the store -/
def Rs.at_ (S : Store) (r : Rs D) : Rs D := match r with
  | .ok d _ => .ok d S
  | .exc c fs vs _ => .exc c fs vs S
  | .stuck => .stuck
theorem pure_any {G : Prog} {k f : Nat} {F : Fd} {ds : List D} {S : Store} (hF : G.fns f = some F) (hm : F.mode = .pure) (hl : lowDs 0 ds = true) : fnk G k f ds S = (fnk G k f ds []).at_ S := by
  cases k with
  | zero => unfold fnk; rfl
  | succ k =>
    by_cases h : ds.length = F.many
    · rw [fnk_pure hF hm h (out_low hl), fnk_pure hF hm h (out_low hl)]
      generalize bodyOf _ = r
      cases r with
      | ok d S' =>
        simp only [pureOut]
        cases outV S' 0 outF d with
        | none => rfl
        | some e =>
          simp only
          by_cases c : (lowDs 0 ds || flat e) = true
          · rw [if_pos c, if_pos c]; rfl
          · rw [if_neg c, if_neg c]; rfl
      | exc cc fs vs S' =>
        simp only [pureOut]
        cases vs.mapM (outV S' 0 outF) with
        | none => rfl
        | some es =>
          simp only
          by_cases c : (lowDs 0 ds || es.all flat) = true
          · rw [if_pos c, if_pos c]; rfl
          · rw [if_neg c, if_neg c]; rfl
      | stuck => rfl
    · unfold fnk
      simp only [hF, if_neg h]
      rfl
theorem x_try {E : Ec} {sub : Nat → Nat → Option Bool} {b : MB} {hs : MHs} {ρ ρ' : Env'} {S S1 : Store} {c : Nat} {fs : List Nat} {vs : List D} {r : Ro} (h : execs E sub b ρ S = .exc ρ' c fs vs S1) (h2 : handle E sub hs ρ' c fs vs S1 = r) : exec E sub (.try_ b hs) ρ S = r := by rw [exec, h, ← h2]
theorem x_try_ok {E : Ec} {sub : Nat → Nat → Option Bool} {b : MB} {hs : MHs} {ρ : Env'} {S S1 : Store} {f : Fl} (h : execs E sub b ρ S = .fl f S1) : exec E sub (.try_ b hs) ρ S = .fl f S1 := by rw [exec, h]
theorem ex_and {α : Sort _} {p q : α → Prop} {a : α} (h : p a) (h2 : q a) : ∃ a, p a ∧ q a := ⟨a, h, h2⟩
theorem om_append {S : Store} {n : Nat} {xs : List D} {d : D} (h : xs.length < sizeLine) : om S n .append xs [d] = .ok .non (S.set n (some (.lst (xs ++ [d])))) := by
  show (if xs.length < sizeLine then _ else _) = _
  rw [if_pos h]
theorem pureOut_flat {S : Store} {r : Rs D} {e : D} {b c : Bool} (h : pureOut S b r = .ok e S) (hf : flat e = true) : pureOut S c r = .ok e S := by
  cases r with
  | ok d S' =>
    simp only [pureOut] at h ⊢
    cases he : outV S' 0 outF d with
    | none => rw [he] at h; cases h
    | some e' =>
      rw [he] at h
      simp only at h ⊢
      by_cases q : (b || flat e') = true
      · rw [if_pos q] at h
        cases h
        rw [hf, Bool.or_true, if_pos rfl]
      · rw [if_neg q] at h
        cases h
  | exc cc fs vs S' =>
    simp only [pureOut] at h
    cases he : vs.mapM (outV S' 0 outF) with
    | none => rw [he] at h; cases h
    | some es =>
      rw [he] at h
      simp only at h
      split at h <;> cases h
  | stuck => cases h
end EV
set_option Elab.async false
set_option linter.all false
set_option maxRecDepth 100000
set_option maxHeartbeats 4000000
/-! EV, part La: draws, the same in every law. -/
namespace EV
open PySem L2
local macro_rules | `(tactic| walk_at "t") => `(tactic| first
  | (refine t_tr ?_; rfl)
  | (refine t_fa ?_; rfl)
  | exact t_bl (decide_eq_true (by first | assumption | omega | (simp only [List.length_map] at *; omega)))
  | exact t_bl (decide_eq_false (by first | assumption | omega | (simp only [List.length_map] at *; omega))))
local macro_rules | `(tactic| walk_at "o") => `(tactic| first
  | exact o_eqi | exact o_nei
  | exact o_mulr (by decide) | exact o_mull (by decide)
  | exact o_mod (by first | decide | assumption | omega)
  | exact o_fdiv (by first | decide | assumption | omega) (by first | decide | assumption | omega)
  | exact rfl)
local macro_rules | `(tactic| walk_at "add") => `(tactic| first
  | exact add_int
  | exact add_str (by walk_at "size")
  | exact add_tup (by walk_at "size")
  | exact add_lst rfl rfl (by walk_at "size"))
local macro_rules | `(tactic| walk_at "size") => `(tactic| first | decide | (simp only [List.length_cons, List.length_nil, List.length_map, List.length_append, sizeLine]; omega))
local macro_rules | `(tactic| walk_at "mul") => `(tactic| (first | apply mul_int | apply mul_tup) <;> walk_at "o")
local macro_rules | `(tactic| walk_at "es") => `(tactic| first
  | exact rs_nil
  | (apply rs_cons; walk_at "e"; walk_at "es"))
local macro_rules | `(tactic| walk_at "eO") => `(tactic| first
  | exact rO_none
  | (apply rO_some; walk_at "e"))
local macro_rules | `(tactic| walk_at "eC") => `(tactic| first
  | (apply rC_disp; walk_at "es"; walk_at "size")
  | (apply rC_lof; walk_at "e"; exact rfl))
local macro_rules | `(tactic| walk_at "call") => `(tactic| assumption)
local macro_rules | `(tactic| walk_at "e") => `(tactic| first
  | exact r_c
  | exact r_v rfl
  | exact r_g rfl
  | (apply r_o2; walk_at "e"; walk_at "e"; walk_at "o")
  | (apply r_o1; walk_at "e"; walk_at "o")
  | (apply r_addX; walk_at "e"; walk_at "e"; walk_at "add")
  | (apply r_mulX; walk_at "e"; walk_at "e"; walk_at "mul")
  | (apply r_and; walk_at "e"; walk_at "t"; first | (show ev _ _ _ _ = _; walk_at "e") | exact rfl)
  | (apply r_or; walk_at "e"; walk_at "t"; first | (show ev _ _ _ _ = _; walk_at "e") | exact rfl)
  | (apply r_not; walk_at "e"; walk_at "t")
  | (apply r_ite; walk_at "e"; walk_at "t"; show ev _ _ _ _ = _; walk_at "e")
  | (apply r_isi; walk_at "e"; exact rfl; exact rfl)
  | (apply r_tup; walk_at "es"; walk_at "size")
  | (apply r_mkv; walk_at "eC")
  | (apply r_mkl; walk_at "eC")
  | (apply r_call; walk_at "es"; exact rfl; walk_at "call"))
local macro_rules | `(tactic| walk_at "asg") => `(tactic| first
  | exact a_v (by simp)
  | (apply a_ix; walk_at "e"; walk_at "e"; walk_at "set")
  | (apply a_att; walk_at "e"; walk_at "set")
  | (apply a_t; walk_at "asgs"))
local macro_rules | `(tactic| walk_at "asgs") => `(tactic| first
  | exact as_nil
  | (apply as_cons; walk_at "asg"; walk_at "asgs"))
local macro_rules | `(tactic| walk_at "set") => `(tactic| exact rfl)
local macro_rules | `(tactic| walk_at "x") => `(tactic| first
  | (apply x_asg; walk_at "e"; walk_at "asg")
  | (apply x_ret; walk_at "e")
  | exact x_retN
  | (apply x_ex; walk_at "e")
  | (apply x_if; walk_at "e"; walk_at "t"; show execs _ _ _ _ _ = _; walk_at "xs"))
local macro_rules | `(tactic| walk_at "xs") => `(tactic| first
  | exact xs_nil
  | (apply xs_c; walk_at "x"; first | exact Ro.nx_rt _ _ _ | (rewrite [Ro.nx_nx]; walk_at "xs")))
/-- _law_pen -/
def penB : MB := .cons (.asg (.v 1) (.c (.int 59))) (.cons (.for_ (.v 2) (.e (.v 0)) (.cons (.asg (.v 1) (.o2 .mod (.o1 .int (.addD false (.mulD false (.v 1) (.c (.int 199))) (.v 2))) (.c (.int 1000000663)))) (.nil))) (.cons (.ret (.mk true (.ddisp (.cons (.c (.str ⟨#[99, 101, 108, 108, 115]⟩)) (.mk false (.lof (.v 0))) (.cons (.c (.str ⟨#[97, 116]⟩)) (.c (.int 0)) (.cons (.c (.str ⟨#[100, 105, 103, 105, 116, 115]⟩)) (.c (.int 0)) (.cons (.c (.str ⟨#[99, 111, 117, 110, 116]⟩)) (.c (.int 0)) (.cons (.c (.str ⟨#[102, 111, 108, 100]⟩)) (.v 1) (.nil))))))))) (.nil)))
/-- _law_draw -/
def drawB : MB := .cons (.asg (.ix (.v 0) (.c (.str ⟨#[99, 111, 117, 110, 116]⟩))) (.addD false (.o2 .idx (.v 0) (.c (.str ⟨#[99, 111, 117, 110, 116]⟩))) (.c (.int 1)))) (.cons (.if_ (.and_ (.o2 .eq (.o2 .idx (.v 0) (.c (.str ⟨#[100, 105, 103, 105, 116, 115]⟩))) (.c (.int 0))) (.o2 .lt (.o2 .idx (.v 0) (.c (.str ⟨#[97, 116]⟩))) (.o1 .len (.o2 .idx (.v 0) (.c (.str ⟨#[99, 101, 108, 108, 115]⟩)))))) (.cons (.asg (.v 3) (.o2 .idx (.o2 .idx (.v 0) (.c (.str ⟨#[99, 101, 108, 108, 115]⟩))) (.o2 .idx (.v 0) (.c (.str ⟨#[97, 116]⟩))))) (.cons (.asg (.ix (.v 0) (.c (.str ⟨#[97, 116]⟩))) (.addD false (.o2 .idx (.v 0) (.c (.str ⟨#[97, 116]⟩))) (.c (.int 1)))) (.cons (.if_ (.o2 .ge (.v 3) (.o2 .pow (.c (.int 10)) (.c (.int 18)))) (.cons (.asg (.ix (.v 0) (.c (.str ⟨#[100, 105, 103, 105, 116, 115]⟩))) (.o2 .sub (.v 3) (.o2 .pow (.c (.int 10)) (.c (.int 18))))) (.nil)) (.cons (.asg (.ix (.v 0) (.c (.str ⟨#[102, 111, 108, 100]⟩))) (.o2 .mod (.o1 .int (.addD false (.mulD false (.o2 .idx (.v 0) (.c (.str ⟨#[102, 111, 108, 100]⟩))) (.c (.int 70229))) (.v 3))) (.c (.int 2147482817)))) (.nil))) (.nil)))) (.nil)) (.cons (.if_ (.o2 .gt (.o2 .idx (.v 0) (.c (.str ⟨#[100, 105, 103, 105, 116, 115]⟩))) (.c (.int 0))) (.cons (.asg (.v 4) (.o2 .mod (.o1 .int (.o2 .idx (.v 0) (.c (.str ⟨#[100, 105, 103, 105, 116, 115]⟩)))) (.v 1))) (.cons (.asg (.ix (.v 0) (.c (.str ⟨#[100, 105, 103, 105, 116, 115]⟩))) (.o2 .fdiv (.o2 .idx (.v 0) (.c (.str ⟨#[100, 105, 103, 105, 116, 115]⟩))) (.v 1))) (.cons (.ret (.v 4)) (.nil)))) (.nil)) (.cons (.asg (.v 2) (.addD false (.addD false (.o2 .idx (.v 0) (.c (.str ⟨#[102, 111, 108, 100]⟩))) (.mulD false (.o2 .idx (.v 0) (.c (.str ⟨#[99, 111, 117, 110, 116]⟩))) (.c (.int 7963)))) (.c (.int 127)))) (.cons (.ret (.o2 .mod (.o2 .fdiv (.o1 .int (.o2 .mod (.o2 .pow (.v 2) (.c (.int 17))) (.c (.int 2305843009213693951)))) (.c (.int 128))) (.v 1))) (.nil)))))
abbrev kCells : Key := .inr ⟨#[99, 101, 108, 108, 115]⟩
abbrev kAt : Key := .inr ⟨#[97, 116]⟩
abbrev kDigits : Key := .inr ⟨#[100, 105, 103, 105, 116, 115]⟩
abbrev kCount : Key := .inr ⟨#[99, 111, 117, 110, 116]⟩
abbrev kFold : Key := .inr ⟨#[102, 111, 108, 100]⟩
def penC (cells : List Int) (at_ digits count fold : Int) : Cell := .dic [kCells, kAt, kDigits, kCount, kFold] [.lst (cells.map .int), .int at_, .int digits, .int count, .int fold]
structure Pen (k : Nat) (c : Cell) : Prop where
  ex : ∃ (cells : List Int) (at_ digits count fold : Int), c = penC cells at_ digits count fold ∧ 0 ≤ at_ ∧ at_ ≤ cells.length ∧ cells.length ≤ 63 ∧ 0 ≤ digits ∧ 0 ≤ count ∧ count ≤ k ∧ 0 ≤ fold ∧ fold < 2147482817
theorem cellOf_set {S : Store} {n : Nat} {c : Cell} (h : n < S.length) : cellOf (S.set n (some c)) n = some c := by
  unfold cellOf
  rw [List.getElem?_set_self h]
  rfl
theorem cellOf_lt {S : Store} {n : Nat} {c : Cell} (h : cellOf S n = some c) : n < S.length := by
  unfold cellOf at h
  cases e : S[n]? with
  | none => rw [e] at h; cases h
  | some o => exact (List.getElem?_eq_some_iff.mp e).1
section
variable {S : Store} {n : Nat} {cells : List Int} {at_ digits count fold : Int}
theorem pen_idx {v : D} {k : Key} {ks : Str} (hk : k = .inr ks) (hS : cellOf S n = some (penC cells at_ digits count fold)) (hv : lookKV [kCells, kAt, kDigits, kCount, kFold] [.lst (cells.map .int), .int at_, .int digits, .int count, .int fold] k = some v) : idxD S (.ref n) (.str ks) = some v := by
  subst hk
  unfold idxD
  simp only [seqOf, hS, penC, dicOf, keyOf]
  exact hv
theorem pen_cells (hS : cellOf S n = some (penC cells at_ digits count fold)) : idxD S (.ref n) (.str ⟨#[99, 101, 108, 108, 115]⟩) = some (.lst (cells.map .int)) := pen_idx rfl hS rfl
theorem pen_at (hS : cellOf S n = some (penC cells at_ digits count fold)) : idxD S (.ref n) (.str ⟨#[97, 116]⟩) = some (.int at_) := pen_idx rfl hS rfl
theorem pen_digits (hS : cellOf S n = some (penC cells at_ digits count fold)) : idxD S (.ref n) (.str ⟨#[100, 105, 103, 105, 116, 115]⟩) = some (.int digits) := pen_idx rfl hS rfl
theorem pen_count (hS : cellOf S n = some (penC cells at_ digits count fold)) : idxD S (.ref n) (.str ⟨#[99, 111, 117, 110, 116]⟩) = some (.int count) := pen_idx rfl hS rfl
theorem pen_fold (hS : cellOf S n = some (penC cells at_ digits count fold)) : idxD S (.ref n) (.str ⟨#[102, 111, 108, 100]⟩) = some (.int fold) := pen_idx rfl hS rfl
theorem pen_set {ks : Str} {c' : Cell} {v : D} (hS : cellOf S n = some (penC cells at_ digits count fold)) (hv : putKV [kCells, kAt, kDigits, kCount, kFold] [.lst (cells.map .int), .int at_, .int digits, .int count, .int fold] (.inr ks) v = ([kCells, kAt, kDigits, kCount, kFold], (match c' with | .dic _ vs => vs | _ => []))) (hc : ∃ vs, c' = .dic [kCells, kAt, kDigits, kCount, kFold] vs) : setX S (.ref n) (.str ks) v = some (S.set n (some c')) := by
  obtain ⟨vs, rfl⟩ := hc
  unfold setX
  simp only [hS, penC, keyOf]
  rw [if_pos (by simp [sizeLine])]
  simp only [hv]
theorem pen_set_at {v : Int} (hS : cellOf S n = some (penC cells at_ digits count fold)) : setX S (.ref n) (.str ⟨#[97, 116]⟩) (.int v) = some (S.set n (some (penC cells v digits count fold))) := pen_set hS rfl ⟨_, rfl⟩
theorem pen_set_digits {v : Int} (hS : cellOf S n = some (penC cells at_ digits count fold)) : setX S (.ref n) (.str ⟨#[100, 105, 103, 105, 116, 115]⟩) (.int v) = some (S.set n (some (penC cells at_ v count fold))) := pen_set hS rfl ⟨_, rfl⟩
theorem pen_set_count {v : Int} (hS : cellOf S n = some (penC cells at_ digits count fold)) : setX S (.ref n) (.str ⟨#[99, 111, 117, 110, 116]⟩) (.int v) = some (S.set n (some (penC cells at_ digits v fold))) := pen_set hS rfl ⟨_, rfl⟩
theorem pen_set_fold {v : Int} (hS : cellOf S n = some (penC cells at_ digits count fold)) : setX S (.ref n) (.str ⟨#[102, 111, 108, 100]⟩) (.int v) = some (S.set n (some (penC cells at_ digits count v))) := pen_set hS rfl ⟨_, rfl⟩
end

local macro_rules | `(tactic| walk_at "cell") => `(tactic| first | assumption | exact cellOf_set (by first | assumption | (simp only [List.length_set]; assumption)))
local macro_rules | `(tactic| walk_at "o") => `(tactic| first
  | exact pen_cells (by walk_at "cell") | exact pen_at (by walk_at "cell") | exact pen_digits (by walk_at "cell") | exact pen_count (by walk_at "cell") | exact pen_fold (by walk_at "cell"))
local macro_rules | `(tactic| walk_at "set") => `(tactic| first
  | exact pen_set_at (by walk_at "cell") | exact pen_set_digits (by walk_at "cell") | exact pen_set_count (by walk_at "cell") | exact pen_set_fold (by walk_at "cell"))
theorem o_p18 {S : Store} : o2 S .pow (.int 10) (.int 18) = some (.int 1000000000000000000) := rfl
local macro_rules | `(tactic| walk_at "o") => `(tactic| first
  | exact o_idx rfl (by assumption) (by assumption)
  | exact o_p18
  | exact o_pow (by decide) (by decide) (by omega))
def dHd : MB → MS
  | .cons s _ => s
  | .nil => .pass
def dTl : MB → MB
  | .cons _ b => b
  | .nil => .nil
theorem set_same {α : Type} {l : List α} {n : Nat} {a : α} (h : l[n]? = some a) : l.set n a = l := by
  obtain ⟨h1, h2⟩ := List.getElem?_eq_some_iff.mp h
  rw [← h2]
  exact List.set_getElem_self h1
theorem draw_first {E : Ec} {sub : Nat → Nat → Option Bool} {n : Nat} {S : Store} {cells : List Int} {at_ digits count fold many : Int} (hS : cellOf S n = some (penC cells at_ digits count fold))
    (h1 : 0 ≤ at_) (h2 : at_ ≤ cells.length) (h3 : cells.length ≤ 63) (h4 : 0 ≤ digits) (h5 : 0 ≤ count) (h6 : count < 2 ^ 40) (h7 : 0 ≤ fold) (h8 : fold < 2147482817) :
    ∃ (a' g' f' : Int) (ρ3 : Option D), 0 ≤ a' ∧ a' ≤ cells.length ∧ 0 ≤ g' ∧ 0 ≤ f' ∧ f' < 2147482817 ∧ ∀ b r, execs E sub b [some (.ref n), some (.int many), none, ρ3, none] (S.set n (some (penC cells a' g' (count + 1) f'))) = r →
      execs E sub (.cons (dHd drawB) (.cons (dHd (dTl drawB)) b)) [some (.ref n), some (.int many), none, none, none] S = r := by
  have hn := cellOf_lt hS
  have e18 : (10 : Int) ^ (18 : Int).toNat = 1000000000000000000 := by decide
  by_cases c1 : digits = 0
  · by_cases c2 : at_ < cells.length
    · obtain ⟨cell, hcell⟩ : ∃ cell, (cells.map D.int)[at_.toNat]? = some (.int cell) := by
        refine ⟨cells[at_.toNat]'(by omega), ?_⟩
        rw [List.getElem?_map, List.getElem?_eq_getElem (by omega)]
        rfl
      by_cases c3 : cell ≥ 1000000000000000000
      · refine ⟨at_ + 1, cell - 1000000000000000000, fold, some (.int cell), by omega, by omega, by omega, h7, h8, fun b r h => ?_⟩
        refine xs_cons (by walk_at "x") ?_
        refine xs_cons (by walk_at "x") ?_
        simpa using h
      · refine ⟨at_ + 1, digits, (fold * 70229 + cell) % 2147482817, some (.int cell), by omega, by omega, by omega, by omega, by omega, fun b r h => ?_⟩
        refine xs_cons (by walk_at "x") ?_
        refine xs_cons (by walk_at "x") ?_
        simpa using h
    · refine ⟨at_, digits, fold, none, h1, h2, h4, h7, h8, fun b r h => ?_⟩
      refine xs_cons (by walk_at "x") ?_
      refine xs_cons (by walk_at "x") ?_
      exact h
  · refine ⟨at_, digits, fold, none, h1, h2, h4, h7, h8, fun b r h => ?_⟩
    refine xs_cons (by walk_at "x") ?_
    refine xs_cons (by walk_at "x") ?_
    exact h
theorem draw_last {E : Ec} {sub : Nat → Nat → Option Bool} {n : Nat} {S : Store} {cells : List Int} {at_ digits count fold many : Int} {ρ3 : Option D} (hS : cellOf S n = some (penC cells at_ digits count fold))
    (h4 : 0 ≤ digits) (h5 : 0 ≤ count) (h6 : count ≤ 2 ^ 40) (h7 : 0 ≤ fold) (h8 : fold < 2147482817) (h9 : 0 < many) (h10 : many < 1073741824) :
    ∃ d g' : Int, 0 ≤ d ∧ d < many ∧ 0 ≤ g' ∧ bodyOf (execs E sub (dTl (dTl drawB)) [some (.ref n), some (.int many), none, ρ3, none] S) = .ok (.int d) (S.set n (some (penC cells at_ g' count fold))) := by
  have hn := cellOf_lt hS
  by_cases c1 : digits > 0
  · refine ⟨digits % many, digits / many, Int.emod_nonneg _ (by omega), Int.emod_lt_of_pos _ h9, Int.ediv_nonneg h4 (by omega), ?_⟩
    have e : execs E sub (dTl (dTl drawB)) [some (.ref n), some (.int many), none, ρ3, none] S = .fl (.rt (.int (digits % many))) (S.set n (some (penC cells at_ (digits / many) count fold))) := by
      refine xs_rt ?_
      walk_at "x"
    rw [e]
    rfl
  · refine ⟨(fold + count * 7963 + 127) ^ (17 : Int).toNat % 2305843009213693951 / 128 % many, digits, Int.emod_nonneg _ (by omega), Int.emod_lt_of_pos _ h9, h4, ?_⟩
    have e : execs E sub (dTl (dTl drawB)) [some (.ref n), some (.int many), none, ρ3, none] S = .fl (.rt (.int ((fold + count * 7963 + 127) ^ (17 : Int).toNat % 2305843009213693951 / 128 % many))) S := by
      refine xs_cons (by walk_at "x") ?_
      refine xs_cons (by walk_at "x") ?_
      refine xs_rt ?_
      walk_at "x"
    rw [e]
    have e2 : S.set n (some (penC cells at_ digits count fold)) = S := by
      unfold cellOf at hS
      refine set_same ?_
      cases e : S[n]? with
      | none => rw [e] at hS; cases hS
      | some o => rw [e] at hS; cases o with
        | none => cases hS
        | some x => cases hS; rfl
    rw [e2]
    rfl
theorem draw_spec {G : Prog} {f j n k : Nat} {S : Store} {c : Cell} {many : Int} (hF : G.fns f = some ⟨2, 5, drawB, .plain⟩) (hp : Pen k c) (hk : k < 2 ^ 40) (h9 : 0 < many) (h10 : many < 1073741824) (hS : cellOf S n = some c) :
    ∃ d c', 0 ≤ d ∧ d < many ∧ Pen (k + 1) c' ∧ fnk G (j + 1) f [.ref n, .int many] S = .ok (.int d) (S.set n (some c')) := by
  obtain ⟨cells, at_, digits, count, fold, rfl, h1, h2, h3, h4, h5, h6, h7, h8⟩ := hp
  obtain ⟨a', g', f', ρ3, k1, k2, k3, k4, k5, k6⟩ := draw_first (E := ⟨G.P, fnk G j, fnT G j, none, none⟩) (sub := G.sub) (many := many) hS h1 h2 h3 h4 h5 (by omega) h7 h8
  have hn := cellOf_lt hS
  have hS2 : cellOf (S.set n (some (penC cells a' g' (count + 1) f'))) n = some (penC cells a' g' (count + 1) f') := cellOf_set hn
  obtain ⟨d, g2, l1, l2, l3, l4⟩ := draw_last (E := ⟨G.P, fnk G j, fnT G j, none, none⟩) (sub := G.sub) (ρ3 := ρ3) hS2 k3 (by omega) (by omega) k4 k5 h9 h10
  refine ⟨d, penC cells a' g2 (count + 1) f', l1, l2, ⟨cells, a', g2, count + 1, f', rfl, k1, k2, h3, l3, by omega, by omega, k4, k5⟩, ?_⟩
  rw [fnk_plain hF rfl rfl]
  have e := k6 (dTl (dTl drawB)) _ rfl
  show bodyOf (execs _ _ (.cons (dHd drawB) (.cons (dHd (dTl drawB)) (dTl (dTl drawB)))) [some (.ref n), some (.int many), none, none, none] S) = _
  rw [e, l4]
  simp
/-- _law_pick -/
def pickB (f : Nat) : MB := .cons (.ret (.o2 .idx (.v 1) (.call f (.cons (.v 0) (.cons (.o1 .len (.v 1)) (.nil)))))) (.nil)
structure PenFns (G : Prog) (pen draw pick : Nat) : Prop where
  hpen : G.fns pen = some ⟨1, 3, penB, .plain⟩
  hdraw : G.fns draw = some ⟨2, 5, drawB, .plain⟩
  hpick : G.fns pick = some ⟨2, 2, pickB draw, .plain⟩
  dd : G.P.dfl draw 2 = []
  dm : G.P.many draw = 2
section
variable {G : Prog} {pen draw pick j n k : Nat} {S : Store} {c : Cell}
theorem PenFns.draw_ (Z : PenFns G pen draw pick) {many : Int} (hp : Pen k c) (hk : k < 2 ^ 40) (h9 : 0 < many) (h10 : many < 1073741824) (hS : cellOf S n = some c) :
    ∃ d c', 0 ≤ d ∧ d < many ∧ Pen (k + 1) c' ∧ fnk G (j + 1) draw [.ref n, .int many] S = .ok (.int d) (S.set n (some c')) := draw_spec Z.hdraw hp hk h9 h10 hS
theorem PenFns.pick_ (Z : PenFns G pen draw pick) {x : D} {xs : List D} (hp : Pen k c) (hk : k < 2 ^ 40) (hS : cellOf S n = some c) (hx : seqOf S x = some xs) (hx' : ∀ c', seqOf (S.set n (some c')) x = some xs) (h0 : 0 < xs.length) (h10 : xs.length < 1073741824) :
    ∃ (i : Nat) (z : D) (c' : Cell), xs[i]? = some z ∧ Pen (k + 1) c' ∧ fnk G (j + 2) pick [.ref n, x] S = .ok z (S.set n (some c')) := by
  obtain ⟨d, c', h1, h2, h3, h4⟩ := Z.draw_ (j := j) (many := xs.length) hp hk (by omega) (by omega) hS
  have hd : xs[d.toNat]? = some (xs[d.toNat]'(by omega)) := List.getElem?_eq_getElem (by omega)
  refine ⟨d.toNat, _, c', hd, h3, ?_⟩
  rw [fnk_plain Z.hpick rfl rfl]
  have hl : o1 S .len x = some (.int xs.length) := o_len hx
  have e : ev ⟨G.P, fnk G (j + 1), fnT G (j + 1), none, none⟩ (.o2 .idx (.v 1) (.call draw (.cons (.v 0) (.cons (.o1 .len (.v 1)) (.nil))))) [some (.ref n), some x] S = .ok (xs[d.toNat]'(by omega)) (S.set n (some c')) := by
    refine r_o2 (r_v rfl) (r_call (rs_cons (r_v rfl) (rs_cons (r_o1 (r_v rfl) hl) rs_nil)) ?_ ?_) (o_idx (hx' c') h1 hd)
    · show ([D.ref n, D.int xs.length] ++ G.P.dfl draw 2).length = G.P.many draw
      rw [Z.dd, Z.dm]
      rfl
    · show fnk G (j + 1) draw ([D.ref n, D.int xs.length] ++ G.P.dfl draw 2) S = _
      rw [Z.dd]
      exact h4
  show bodyOf (execs _ _ (pickB draw) [some (.ref n), some x] S) = _
  unfold pickB
  rw [xs_rt (x_ret e)]
  rfl
theorem PenFns.pen_ (Z : PenFns G pen draw pick) {ns : List Int} (hl : ns.length ≤ 63) : ∃ c, Pen 0 c ∧ fnk G (j + 1) pen [.scr (ns.map .int)] S = .ok (.ref S.length) (S ++ [some c]) := by
  rw [fnk_plain Z.hpen rfl rfl]
  have hloop : ∀ E : Ec, ∃ ρ' S', forL (.v 2) (fun ρ S => execs E G.sub (.cons (.asg (.v 1) (.o2 .mod (.o1 .int (.addD false (.mulD false (.v 1) (.c (.int 199))) (.v 2))) (.c (.int 1000000663)))) (.nil)) ρ S) (ns.map .int) [some (.scr (ns.map .int)), some (.int 59), none] S = .fl (.nx ρ') S' ∧
      (∃ (f : Int) (r2 : Option D), ρ' = [some (.scr (ns.map .int)), some (.int f), r2] ∧ 0 ≤ f ∧ f < 1000000663 ∧ S' = S) := fun E => by
    have := forL_inv (tg := .v 2) (b := fun ρ S => execs E G.sub (.cons (.asg (.v 1) (.o2 .mod (.o1 .int (.addD false (.mulD false (.v 1) (.c (.int 199))) (.v 2))) (.c (.int 1000000663)))) (.nil)) ρ S)
      (fun _ ρ' S' => ∃ (f : Int) (r2 : Option D), ρ' = [some (.scr (ns.map .int)), some (.int f), r2] ∧ 0 ≤ f ∧ f < 1000000663 ∧ S' = S) (ns.map .int) 0 [some (.scr (ns.map .int)), some (.int 59), none] S ⟨59, none, rfl, by omega, by omega, rfl⟩ (by
        rintro i x ρ S1 hx ⟨f, r2, rfl, f1, f2, rfl⟩
        rw [List.getElem?_map, Option.map_eq_some_iff] at hx
        obtain ⟨v, _, rfl⟩ := hx
        refine ⟨_, _, _, rfl, ?_, (f * 199 + v) % 1000000663, some (.int v), rfl, by omega, by omega, rfl⟩
        walk_at "xs")
    exact this
  obtain ⟨ρ', S', h1, f, r2, rfl, f1, f2, rfl⟩ := hloop ⟨G.P, fnk G j, fnT G j, none, none⟩
  refine ⟨penC ns 0 0 0 f, ⟨ns, 0, 0, 0, f, rfl, by omega, by omega, hl, by omega, by omega, by omega, f1, by omega⟩, ?_⟩
  show bodyOf (execs _ _ penB [some (.scr (ns.map .int)), none, none] S') = _
  unfold penB
  rw [xs_cons (by walk_at "x") (xs_cons (x_forN (by apply rI_e; walk_at "e"; exact rfl) h1) (xs_rt (x_ret (r_mkl (q := penC ns 0 0 0 f) (S1 := S') ?_))))]
  · rfl
  · rfl
end
end EV
set_option Elab.async false
set_option linter.all false
set_option maxRecDepth 100000
set_option maxHeartbeats 4000000
/-! EV, part Lb: _law_same, _law_equal of what is the same. -/
namespace EV
open PySem L2
local macro_rules | `(tactic| walk_at "t") => `(tactic| first
  | (refine t_tr ?_; rfl)
  | (refine t_fa ?_; rfl)
  | exact t_bl (decide_eq_true (by first | assumption | omega | (simp only [List.length_map] at *; omega)))
  | exact t_bl (decide_eq_false (by first | assumption | omega | (simp only [List.length_map] at *; omega))))
local macro_rules | `(tactic| walk_at "o") => `(tactic| first
  | exact o_eqi | exact o_nei
  | exact o_mulr (by decide) | exact o_mull (by decide)
  | exact o_mod (by first | decide | assumption | omega)
  | exact o_fdiv (by first | decide | assumption | omega) (by first | decide | assumption | omega)
  | exact rfl)
local macro_rules | `(tactic| walk_at "add") => `(tactic| first
  | exact add_int
  | exact add_str (by walk_at "size")
  | exact add_tup (by walk_at "size")
  | exact add_lst rfl rfl (by walk_at "size"))
local macro_rules | `(tactic| walk_at "size") => `(tactic| first | decide | (simp only [List.length_cons, List.length_nil, List.length_map, List.length_append, sizeLine]; omega))
local macro_rules | `(tactic| walk_at "mul") => `(tactic| (first | apply mul_int | apply mul_tup) <;> walk_at "o")
local macro_rules | `(tactic| walk_at "es") => `(tactic| first
  | exact rs_nil
  | (apply rs_cons; walk_at "e"; walk_at "es"))
local macro_rules | `(tactic| walk_at "eO") => `(tactic| first
  | exact rO_none
  | (apply rO_some; walk_at "e"))
local macro_rules | `(tactic| walk_at "eC") => `(tactic| first
  | (apply rC_disp; walk_at "es"; walk_at "size")
  | (apply rC_lof; walk_at "e"; exact rfl))
local macro_rules | `(tactic| walk_at "call") => `(tactic| assumption)
local macro_rules | `(tactic| walk_at "e") => `(tactic| first
  | exact r_c
  | exact r_v rfl
  | exact r_g rfl
  | (apply r_o2; walk_at "e"; walk_at "e"; walk_at "o")
  | (apply r_o1; walk_at "e"; walk_at "o")
  | (apply r_addX; walk_at "e"; walk_at "e"; walk_at "add")
  | (apply r_mulX; walk_at "e"; walk_at "e"; walk_at "mul")
  | (apply r_and; walk_at "e"; walk_at "t"; first | (show ev _ _ _ _ = _; walk_at "e") | exact rfl)
  | (apply r_or; walk_at "e"; walk_at "t"; first | (show ev _ _ _ _ = _; walk_at "e") | exact rfl)
  | (apply r_not; walk_at "e"; walk_at "t")
  | (apply r_ite; walk_at "e"; walk_at "t"; show ev _ _ _ _ = _; walk_at "e")
  | (apply r_isi; walk_at "e"; exact rfl; exact rfl)
  | (apply r_tup; walk_at "es"; walk_at "size")
  | (apply r_mkv; walk_at "eC")
  | (apply r_mkl; walk_at "eC")
  | (apply r_call; walk_at "es"; exact rfl; walk_at "call"))
local macro_rules | `(tactic| walk_at "asg") => `(tactic| first
  | exact a_v (by simp)
  | (apply a_ix; walk_at "e"; walk_at "e"; walk_at "set")
  | (apply a_att; walk_at "e"; walk_at "set")
  | (apply a_t; walk_at "asgs"))
local macro_rules | `(tactic| walk_at "asgs") => `(tactic| first
  | exact as_nil
  | (apply as_cons; walk_at "asg"; walk_at "asgs"))
local macro_rules | `(tactic| walk_at "set") => `(tactic| exact rfl)
local macro_rules | `(tactic| walk_at "x") => `(tactic| first
  | (apply x_asg; walk_at "e"; walk_at "asg")
  | (apply x_ret; walk_at "e")
  | exact x_retN
  | (apply x_ex; walk_at "e")
  | (apply x_if; walk_at "e"; walk_at "t"; show execs _ _ _ _ _ = _; walk_at "xs"))
local macro_rules | `(tactic| walk_at "xs") => `(tactic| first
  | exact xs_nil
  | (apply xs_c; walk_at "x"; first | exact Ro.nx_rt _ _ _ | (rewrite [Ro.nx_nx]; walk_at "xs")))

/-- _law_same -/
def sameB (f : Nat) : MB := .cons (.if_ (.isi (.v 1) [.tuple]) (.cons (.ret (.and_ (.isi (.v 0) [.tuple]) (.and_ (.o2 .eq (.o1 .len (.v 0)) (.o1 .len (.v 1))) (.o1 .all (.mk false (.comp (.call f (.cons (.v 2) (.cons (.v 3) (.nil)))) (.t (.cons (.v 2) (.cons (.v 3) (.nil)))) (.zip (.v 0) (.v 1)) .none [2, 3])))))) (.nil)) (.nil)) (.cons (.if_ (.o2 .is_ (.v 1) (.c .non)) (.cons (.ret (.o2 .is_ (.v 0) (.c .non))) (.nil)) (.nil)) (.cons (.if_ (.o2 .is_ (.v 1) (.c (.bl true))) (.cons (.ret (.o2 .is_ (.v 0) (.c (.bl true)))) (.nil)) (.nil)) (.cons (.if_ (.o2 .is_ (.v 1) (.c (.bl false))) (.cons (.ret (.o2 .is_ (.v 0) (.c (.bl false)))) (.nil)) (.nil)) (.cons (.if_ (.isi (.v 1) [.int]) (.cons (.ret (.and_ (.isi (.v 0) [.int]) (.and_ (.not_ (.isi (.v 0) [.bool])) (.o2 .eq (.v 0) (.v 1))))) (.nil)) (.nil)) (.cons (.ret (.and_ (.isi (.v 0) [.str]) (.o2 .eq (.v 0) (.v 1)))) (.nil))))))
/-- _law_equal -/
def equalB (f : Nat) : MB := .cons (.if_ (.and_ (.isi (.v 0) [.tuple, .list]) (.isi (.v 1) [.tuple, .list])) (.cons (.if_ (.or_ (.o2 .ne (.isi (.v 0) [.tuple]) (.isi (.v 1) [.tuple])) (.o2 .ne (.o1 .len (.v 0)) (.o1 .len (.v 1)))) (.cons (.ret (.c (.bl false))) (.nil)) (.nil)) (.cons (.ret (.o1 .all (.mk false (.comp (.call f (.cons (.v 2) (.cons (.v 3) (.nil)))) (.t (.cons (.v 2) (.cons (.v 3) (.nil)))) (.zip (.v 0) (.v 1)) .none [2, 3])))) (.nil))) (.nil)) (.cons (.if_ (.o2 .ne (.isi (.v 0) [.bool]) (.isi (.v 1) [.bool])) (.cons (.ret (.c (.bl false))) (.nil)) (.nil)) (.cons (.ret (.o2 .eq (.v 0) (.v 1))) (.nil)))
mutual
/-- what is told by value -/
def plainD (l : Bool) : D → Bool
  | .non => true
  | .bl _ => true
  | .int _ => true
  | .str s => PyData.canLay0 (.str s)
  | .tup xs => decide (xs.length ≤ sizeLine) && plainDs l xs
  | .lst xs => l && decide (xs.length ≤ sizeLine) && plainDs l xs
  | .scr _ => false
  | .dic _ _ => false
  | .obj _ _ _ => false
  | .ref _ => false
def plainDs (l : Bool) : List D → Bool
  | [] => true
  | d :: ds => plainD l d && plainDs l ds
end
mutual
def depthD : D → Nat
  | .tup xs => depthDs xs + 1
  | .lst xs => depthDs xs + 1
  | _ => 0
def depthDs : List D → Nat
  | [] => 0
  | d :: ds => max (depthD d) (depthDs ds)
end
theorem plainDs_all {l : Bool} : ∀ {ds : List D}, plainDs l ds = true → ∀ d ∈ ds, plainD l d = true
  | [], _, d, h => by cases h
  | e :: ds, h, d, hd => by
    have h : plainD l e = true ∧ plainDs l ds = true := by simpa [plainDs] using h
    rcases List.mem_cons.mp hd with rfl | hd
    · exact h.1
    · exact plainDs_all h.2 d hd
theorem depthDs_all : ∀ {ds : List D} {d : D}, d ∈ ds → depthD d ≤ depthDs ds
  | e :: ds, d, hd => by
    unfold depthDs
    rcases List.mem_cons.mp hd with rfl | hd
    · exact Nat.le_max_left _ _
    · exact Nat.le_trans (depthDs_all hd) (Nat.le_max_right _ _)
mutual
theorem plain_low {l : Bool} {n : Nat} : ∀ {d : D}, plainD l d = true → lowD n d = true
  | .non, _ => rfl
  | .bl _, _ => rfl
  | .int _, _ => rfl
  | .str _, _ => rfl
  | .tup xs, h => by
    have h : xs.length ≤ sizeLine ∧ plainDs l xs = true := by simpa [plainD] using h
    unfold lowD
    exact plain_lows h.2
  | .lst xs, h => by
    have h : (l = true ∧ xs.length ≤ sizeLine) ∧ plainDs l xs = true := by simpa [plainD] using h
    unfold lowD
    exact plain_lows h.2
  | .scr _, h => by unfold plainD at h; cases h
  | .dic _ _, h => by unfold plainD at h; cases h
  | .obj _ _ _, h => by unfold plainD at h; cases h
  | .ref _, h => by unfold plainD at h; cases h
theorem plain_lows {l : Bool} {n : Nat} : ∀ {ds : List D}, plainDs l ds = true → lowDs n ds = true
  | [], _ => rfl
  | d :: ds, h => by
    have h : plainD l d = true ∧ plainDs l ds = true := by simpa [plainDs] using h
    unfold lowDs
    rw [plain_low h.1, plain_lows h.2]
    rfl
end
theorem blOf_reps (n : Nat) : (List.replicate n (D.bl true)).mapM blOf = some (List.replicate n true) := by
  induction n with
  | zero => rfl
  | succ n ih => rw [List.replicate_succ, List.mapM_cons, ih]; rfl
theorem all_reps {S : Store} (n : Nat) : o1 S .all (.lst (List.replicate n (.bl true))) = some (.bl true) := by
  show ((List.replicate n (D.bl true)).mapM blOf).map (fun bs => D.bl (bs.all id)) = _
  rw [blOf_reps]
  simp
theorem eqv_str (s : Str) : PyData.eqv (.str s) (.str s) = true := by simp [PyData.eqv]
theorem o_eqs {S : Store} {s t : Str} (hs : PyData.canLay0 (.str s) = true) (ht : PyData.canLay0 (.str t) = true) : o2 S .eq (.str s) (.str t) = some (.bl (decide (s = t))) := by
  show (eqD S (.str s) (.str t)).map D.bl = _
  unfold eqD
  simp only [deep]
  have h1 : SeqAt.shaped (.str s) = true := by unfold SeqAt.shaped; rw [hs]; rfl
  have h2 : SeqAt.shaped (.str t) = true := by unfold SeqAt.shaped; rw [ht]; rfl
  simp only [h1, h2, Bool.and_self, if_true, Option.map_some]
  by_cases h : s = t
  · subst h; simp [PyData.eqv]
  · simp [PyData.eqv, h]
theorem o_eqb {S : Store} {b c : Bool} : o2 S .eq (.bl b) (.bl c) = some (.bl (b == c)) := by cases b <;> cases c <;> rfl
theorem o_eqn {S : Store} : o2 S .eq .non .non = some (.bl true) := rfl
/-- one look at each of both -/
theorem comp_same {E : Ec} {f : Nat} {S : Store} {xs : List D} {a b : Option D} {r : List (Option D)} (hl : ([D.non, D.non] ++ E.P.dfl f 2).length = E.P.many f) (h0 : E.P.dfl f 2 = []) (h : ∀ x ∈ xs, E.fn f [x, x] S = .ok (.bl true) S) :
    compL (compF E (.call f (.cons (.v 2) (.cons (.v 3) .nil))) (.t (.cons (.v 2) (.cons (.v 3) .nil))) .none [2, 3] (a :: b :: none :: none :: r)) ((xs.zip xs).map fun p => .tup [p.1, p.2]) S [] = .ok (.lst (List.replicate xs.length (.bl true))) S := by
  obtain ⟨S', acc', h1, h2, h3⟩ := compL_inv (f := compF E (.call f (.cons (.v 2) (.cons (.v 3) .nil))) (.t (.cons (.v 2) (.cons (.v 3) .nil))) .none [2, 3] (a :: b :: none :: none :: r)) (fun i S' acc => S' = S ∧ acc = List.replicate i (.bl true)) ((xs.zip xs).map fun p => .tup [p.1, p.2]) 0 S [] ⟨rfl, rfl⟩ (by
    rintro j x S1 acc hx ⟨rfl, rfl⟩
    rw [List.getElem?_map, Option.map_eq_some_iff] at hx
    obtain ⟨⟨p, q⟩, hp, rfl⟩ := hx
    rw [List.getElem?_zip_eq_some] at hp
    obtain ⟨e1, e2⟩ := hp
    simp only at e1 e2
    rw [e1] at e2
    cases e2
    refine ⟨some (.bl true), S1, ?_, rfl, ?_⟩
    · have e : ev E (.call f (.cons (.v 2) (.cons (.v 3) .nil))) (a :: b :: some p :: some p :: r) S1 = .ok (.bl true) S1 := by
        refine r_call (rs_cons (r_v rfl) (rs_cons (r_v rfl) rs_nil)) ?_ ?_
        · rw [← hl]; show ([p, p] ++ E.P.dfl f 2).length = _; simp
        · show E.fn f ([p, p] ++ E.P.dfl f 2) S1 = _
          rw [h0]
          exact h p (List.mem_of_getElem? e1)
      show ((ev E (.call f (.cons (.v 2) (.cons (.v 3) .nil))) (a :: b :: some p :: some p :: r) S1).bind fun d S3 => .ok (some d) S3) = _
      rw [e]
      rfl
    · show List.replicate (0 + j) (D.bl true) ++ [D.bl true] = _
      rw [List.replicate_succ'])
  rw [h1, h2, h3]
  simp
local macro_rules | `(tactic| walk_at "o") => `(tactic| first
  | exact o_eqs (by assumption) (by assumption)
  | exact o_eqb)
theorem o_neb {S : Store} {b c : Bool} : o2 S .ne (.bl b) (.bl c) = some (.bl (!(b == c))) := by cases b <;> cases c <;> rfl
local macro_rules | `(tactic| walk_at "o") => `(tactic| first
  | exact o_neb
  | exact o_eqn
  | exact o_len rfl)
structure SameFns (G : Prog) (same : Nat) : Prop where
  hs : G.fns same = some ⟨2, 4, sameB same, .pure⟩
  sd : G.P.dfl same 2 = []
  sm : G.P.many same = 2
structure EqualFns (G : Prog) (equal : Nat) : Prop where
  hs : G.fns equal = some ⟨2, 4, equalB equal, .pure⟩
  sd : G.P.dfl equal 2 = []
  sm : G.P.many equal = 2
section
variable {G : Prog} {same : Nat}
theorem pure_bl {S : Store} {b : Bool} {fl : Bool} : pureOut S fl (.ok (.bl b) []) = .ok (.bl b) S := by
  cases fl <;> rfl
theorem comp_lst {E : Ec} {f : Nat} {S : Store} {xs : List D} {x : D} {r : List (Option D)} (hl : ([D.non, D.non] ++ E.P.dfl f 2).length = E.P.many f) (h0 : E.P.dfl f 2 = []) (h : ∀ x ∈ xs, E.fn f [x, x] S = .ok (.bl true) S) (hz : xs.length ≤ sizeLine) (hx : iterL S x = some (xs, [])) :
    ev E (.o1 .all (.mk false (.comp (.call f (.cons (.v 2) (.cons (.v 3) .nil))) (.t (.cons (.v 2) (.cons (.v 3) .nil))) (.zip (.v 0) (.v 1)) .none [2, 3]))) (some x :: some x :: none :: none :: r) S = .ok (.bl true) S := by
  refine r_o1 (r_mkv (rC_comp (S1 := S) (ls := []) (rI_zip (r_v rfl) (r_v rfl) rfl hx hx) ?_ (comp_same hl h0 h))) (all_reps _)
  simp
  exact hz
/-- no lists within -/
theorem SameFns.refl (Z : SameFns G same) : ∀ (j : Nat) (d : D) (S : Store), plainD false d = true → depthD d ≤ j → fnk G (j + 1) same [d, d] S = .ok (.bl true) S
  | j, d, S, hp, hd => by
    rw [fnk_pure Z.hs rfl rfl (out_low (n := 0) (by unfold lowDs lowDs lowDs; rw [plain_low hp]; rfl : lowDs 0 [d, d] = true))]
    generalize hE : (⟨G.P, fnk G j, fnT G j, none, none⟩ : Ec) = E
    have fin : ∀ {b : Bool}, execs E G.sub (sameB same) [some d, some d, none, none] [] = .fl (.rt (.bl b)) [] → b = true → pureOut S (lowDs 0 [d, d]) (bodyOf (execs E G.sub (sameB same) (fEnv ⟨2, 4, sameB same, .pure⟩ [d, d]) [])) = .ok (.bl true) S := fun {b} e hb => by
      subst hb
      show pureOut S _ (bodyOf (execs E G.sub (sameB same) [some d, some d, none, none] [])) = _
      rw [e]
      exact pure_bl
    cases d with
    | non => exact fin (by unfold sameB; walk_at "xs") rfl
    | bl b => cases b <;> exact fin (by unfold sameB; walk_at "xs") rfl
    | int i => exact fin (b := decide (i = i)) (by unfold sameB; walk_at "xs") (by simp)
    | str s => exact fin (b := decide (s = s)) (by
        have hs : PyData.canLay0 (.str s) = true := hp
        unfold sameB
        walk_at "xs") (by simp)
    | tup xs =>
      have hp' : xs.length ≤ sizeLine ∧ plainDs false xs = true := by simpa [plainD] using hp
      have hd' : depthDs xs + 1 ≤ j := hd
      refine fin (b := true) ?_ rfl
      unfold sameB
      refine xs_rt (x_if (r_isi (r_v rfl) rfl rfl) (t_bl (c := true) rfl) (xs_rt (x_ret (r_and (r_isi (r_v rfl) rfl rfl) (t_bl (c := true) rfl) (r_and (r_o2 (r_o1 (r_v rfl) (o_len rfl)) (r_o1 (r_v rfl) (o_len rfl)) o_eqi) (t_bl (c := true) (by simp)) ?_)))))
      obtain ⟨i, rfl⟩ : ∃ i, j = i + 1 := ⟨j - 1, by omega⟩
      subst hE
      refine comp_lst ?_ Z.sd (fun x hx => ?_) hp'.1 rfl
      · show ([D.non, D.non] ++ G.P.dfl same 2).length = G.P.many same
        rw [Z.sd, Z.sm]
        rfl
      · have := depthDs_all hx
        exact SameFns.refl Z i x [] (plainDs_all hp'.2 x hx) (by omega)
    | lst _ => simp [plainD] at hp
    | scr _ => simp [plainD] at hp
    | dic _ _ => simp [plainD] at hp
    | obj _ _ _ => simp [plainD] at hp
    | ref _ => simp [plainD] at hp
theorem EqualFns.refl {equal : Nat} (Z : EqualFns G equal) : ∀ (j : Nat) (d : D) (S : Store), plainD true d = true → depthD d ≤ j → fnk G (j + 1) equal [d, d] S = .ok (.bl true) S
  | j, d, S, hp, hd => by
    rw [fnk_pure Z.hs rfl rfl (out_low (n := 0) (by unfold lowDs lowDs lowDs; rw [plain_low hp]; rfl : lowDs 0 [d, d] = true))]
    generalize hE : (⟨G.P, fnk G j, fnT G j, none, none⟩ : Ec) = E
    have fin : ∀ {b : Bool}, execs E G.sub (equalB equal) [some d, some d, none, none] [] = .fl (.rt (.bl b)) [] → b = true → pureOut S (lowDs 0 [d, d]) (bodyOf (execs E G.sub (equalB equal) (fEnv ⟨2, 4, equalB equal, .pure⟩ [d, d]) [])) = .ok (.bl true) S := fun {b} e hb => by
      subst hb
      show pureOut S _ (bodyOf (execs E G.sub (equalB equal) [some d, some d, none, none] [])) = _
      rw [e]
      exact pure_bl
    have seq : ∀ xs, (xs.length ≤ sizeLine ∧ plainDs true xs = true) → depthDs xs + 1 ≤ j → (d = .tup xs ∨ d = .lst xs) → pureOut S (lowDs 0 [d, d]) (bodyOf (execs E G.sub (equalB equal) (fEnv ⟨2, 4, equalB equal, .pure⟩ [d, d]) [])) = .ok (.bl true) S := fun xs hp' hd' hx => by
      refine fin (b := true) ?_ rfl
      have hl : seqOf [] d = some xs := by rcases hx with rfl | rfl <;> rfl
      have hi : iterL [] d = some (xs, []) := by rcases hx with rfl | rfl <;> rfl
      obtain ⟨tg, ht, h1⟩ : ∃ tg, tagOf E.P.cls [] d = some tg ∧ (tg = .tuple ∨ tg = .list) := by
        rcases hx with rfl | rfl
        · exact ⟨_, rfl, .inl rfl⟩
        · exact ⟨_, rfl, .inr rfl⟩
      have h2 : [Ty.tuple, Ty.list].any (isTag tg) = true := by rcases h1 with rfl | rfl <;> rfl
      unfold equalB
      refine xs_rt (x_if_t (r_and_t (r_isi (r_v rfl) ht h2) (t_tr rfl) (r_isi (r_v rfl) ht h2)) (t_tr rfl) ?_)
      refine xs_cons (ρ' := [some d, some d, none, none]) (S1 := []) (x_if_f (r_or_f (r_o2 (r_isi (r_v rfl) ht rfl) (r_isi (r_v rfl) ht rfl) o_neb) (t_bl (by simp)) (r_o2 (r_o1 (r_v rfl) (o_len hl)) (r_o1 (r_v rfl) (o_len hl)) o_nei)) (t_bl (by simp)) xs_nil) ?_
      refine xs_rt (x_ret ?_)
      obtain ⟨i, rfl⟩ : ∃ i, j = i + 1 := ⟨j - 1, by omega⟩
      subst hE
      refine comp_lst ?_ Z.sd (fun x hx => ?_) hp'.1 hi
      · show ([D.non, D.non] ++ G.P.dfl equal 2).length = G.P.many equal
        rw [Z.sd, Z.sm]
        rfl
      · have := depthDs_all hx
        exact EqualFns.refl Z i x [] (plainDs_all hp'.2 x hx) (by omega)
    cases d with
    | non => exact fin (b := true) (by unfold equalB; walk_at "xs") rfl
    | bl b => cases b <;> exact fin (b := true) (by unfold equalB; walk_at "xs") rfl
    | int i => exact fin (b := decide (i = i)) (by unfold equalB; walk_at "xs") (by simp)
    | str s => exact fin (b := decide (s = s)) (by
        have hs : PyData.canLay0 (.str s) = true := hp
        unfold equalB
        walk_at "xs") (by simp)
    | tup xs => exact seq xs (by simpa [plainD] using hp) hd (.inl rfl)
    | lst xs => exact seq xs (by simpa [plainD] using hp) hd (.inr rfl)
    | scr _ => simp [plainD] at hp
    | dic _ _ => simp [plainD] at hp
    | obj _ _ _ => simp [plainD] at hp
    | ref _ => simp [plainD] at hp
theorem outs_low {S : Store} {n f : Nat} : ∀ {xs : List D}, lowDs n xs = true → xs.mapM (outV S n (f + 1)) = some xs
  | [], _ => rfl
  | x :: xs, h => by
    have h : lowD n x = true ∧ lowDs n xs = true := by simpa [lowDs] using h
    rw [List.mapM_cons, outs_low h.2]
    have : outV S n (f + 1) x = some x := by unfold outV; rw [if_pos h.1]
    rw [this]
    rfl
theorem out_live {S : Store} {n : Nat} {xs : List D} (hS : cellOf S n = some (.lst xs)) (hl : lowDs 0 xs = true) : outV S 0 outF (.ref n) = some (.lst xs) := by
  unfold outF outV
  rw [if_neg (by simp [lowD])]
  simp only [hS]
  rw [outs_low hl]
  rfl
theorem EqualFns.live_refl {equal : Nat} (Z : EqualFns G equal) {j n : Nat} {xs : List D} {S : Store} (hS : cellOf S n = some (.lst xs)) (hp : plainD true (.lst xs) = true) (hd : depthD (.lst xs) ≤ j) : fnk G (j + 1) equal [.ref n, .lst xs] S = .ok (.bl true) S := by
  have hl : lowD 0 (.lst xs) = true := plain_low hp
  have hl' : lowDs 0 xs = true := hl
  have h := EqualFns.refl Z j (.lst xs) S hp hd
  rw [fnk_pure Z.hs rfl rfl (out_low (n := 0) (by unfold lowDs lowDs lowDs; rw [hl]; rfl : lowDs 0 [.lst xs, .lst xs] = true))] at h
  have e : [D.ref n, D.lst xs].mapM (outV S 0 outF) = some [.lst xs, .lst xs] := by
    rw [List.mapM_cons, out_live hS hl', out_low (n := 0) (by unfold lowDs lowDs; rw [hl]; rfl : lowDs 0 [.lst xs] = true)]
    rfl
  rw [fnk_pure Z.hs rfl rfl e]
  exact pureOut_flat h rfl
end
end EV
set_option Elab.async false
set_option linter.all false
set_option maxRecDepth 100000
set_option maxHeartbeats 4000000
/-! EV, part Tx: texts as lists of signs. -/
namespace EV
open PySem
/-- a text of these signs -/
abbrev sl (l : List Nat) : Str := ⟨l.toArray⟩
theorem sl_len (l : List Nat) : (sl l).length = l.length := by simp [Str.length]
theorem sl_inj {a b : List Nat} : sl a = sl b ↔ a = b := by simp
theorem sl_app (a b : List Nat) : sl a ++ sl b = sl (a ++ b) := by
  show Str.mk (_ ++ _) = _
  simp
theorem str_sl (s : Str) : s = sl s.cps.toList := by cases s; simp
theorem in_one (l : List Nat) (c : Nat) : strIn (sl [c]) (sl l) = decide (c ∈ l) := by
  unfold strIn
  have := StrLaws.found_one (sl l) c
  simpa using this
theorem o_in1 {S : Store} (l : List Nat) (c : Nat) : o2 S .in_ (.str (sl [c])) (.str (sl l)) = some (.bl (decide (c ∈ l))) := by
  show ((inD S (.str (sl [c])) (.str (sl l))).map D.bl) = _
  show (some (strIn (sl [c]) (sl l))).map D.bl = _
  rw [in_one]
  rfl
theorem o_nin1 {S : Store} (l : List Nat) (c : Nat) : o2 S .nin (.str (sl [c])) (.str (sl l)) = some (.bl (!decide (c ∈ l))) := by
  show ((inD S (.str (sl [c])) (.str (sl l))).map fun r => D.bl (!r)) = _
  show (some (strIn (sl [c]) (sl l))).map (fun r => D.bl (!r)) = _
  rw [in_one]
  rfl
theorem o_sign {S : Store} {l : List Nat} {i : Int} {c : Nat} (h0 : 0 ≤ i) (h : l[i.toNat]? = some c) (hl : l.length ≤ sizeLine) : o2 S .idx (.str (sl l)) (.int i) = some (.str (sl [c])) := by
  show idxD S (.str (sl l)) (.int i) = _
  unfold idxD
  show (if (sl l).length ≤ sizeLine then _ else _) = _
  rw [sl_len, if_pos hl]
  have : L2.atI l i = some c := atI_of h0 h
  simp only [this]
  rfl
theorem sIx_some {n d : Nat} {i : Int} (h0 : 0 ≤ i) (h1 : i ≤ n) : HT.sIx n d (some i) = i.toNat := by
  unfold HT.sIx
  simp only
  first
    | omega
    | (split <;> omega)
    | (simp; omega)
theorem cut_sl (l : List Nat) (lo hi : Option Int) : L2.cutS (sl l) lo hi = sl ((l.drop (HT.sIx l.length 0 lo)).take (HT.sIx l.length l.length hi - HT.sIx l.length 0 lo)) := by
  unfold L2.cutS
  rw [sl_len]
/-- l split at each c -/
def splitL (c : Nat) : List Nat → List (List Nat)
  | [] => [[]]
  | x :: xs => if x = c then [] :: splitL c xs else match splitL c xs with
    | [] => [[x]]
    | p :: ps => (x :: p) :: ps
theorem splitL_ne (c : Nat) (l : List Nat) : splitL c l ≠ [] := by
  cases l with
  | nil => simp [splitL]
  | cons x xs =>
    unfold splitL
    split
    · simp
    · split <;> simp
theorem splitL_none {c : Nat} : ∀ {l : List Nat}, c ∉ l → splitL c l = [l]
  | [], _ => rfl
  | x :: xs, h => by
    have h1 : x ≠ c := fun e => h (by simp [e])
    unfold splitL
    rw [if_neg h1, splitL_none fun q => h (by simp [q])]
theorem splitL_at {c : Nat} : ∀ {p r : List Nat}, c ∉ p → splitL c (p ++ c :: r) = p :: splitL c r
  | [], r, _ => by
    show splitL c (c :: r) = _
    conv => lhs; unfold splitL
    rw [if_pos rfl]
  | x :: xs, r, h => by
    have h1 : x ≠ c := fun e => h (by simp [e])
    show splitL c (x :: (xs ++ c :: r)) = _
    conv => lhs; unfold splitL
    rw [if_neg h1, splitL_at fun q => h (by simp [q])]
theorem splitL_head (c : Nat) (l : List Nat) : (splitL c l)[0]? = some (l.takeWhile fun x => x != c) := by
  induction l with
  | nil => rfl
  | cons x xs ih =>
    unfold splitL
    by_cases h : x = c
    · rw [if_pos h]; simp [h]
    · rw [if_neg h]
      cases e : splitL c xs with
      | nil => exact absurd e (splitL_ne c xs)
      | cons p ps =>
        rw [e] at ih
        simp at ih
        simp [h, ih]
open StrLaws Builtin.Str in
theorem at_one {l : List Nat} {c i : Nat} : At (sl l) (sl [c]) (sl l).length i ↔ l[i]? = some c := by
  unfold At subAt
  rw [sl_len, sl_len]
  simp only [List.length_singleton, beq_iff_eq]
  constructor
  · rintro ⟨h1, h2⟩
    have h3 := congrArg Array.toList h2
    simp at h3
    have : (l.drop i)[0]? = some c := by
      have h4 : ((l.drop i).take 1)[0]? = some c := by
        rw [h3]; rfl
      rw [List.getElem?_take_of_lt (by omega)] at h4
      exact h4
    simpa using this
  · intro h
    have h1 := (List.getElem?_eq_some_iff.mp h).1
    refine ⟨by omega, ?_⟩
    apply Array.ext'
    simp
    obtain ⟨h2, h3⟩ := List.getElem?_eq_some_iff.mp h
    rw [List.drop_eq_getElem_cons h2, h3]
    rfl
/-- the pieces from a on, cut at cuts -/
def pieces (l : List Nat) : Nat → List Nat → List (List Nat)
  | a, [] => [l.drop a]
  | a, c :: r => ((l.drop a).take (c - a)) :: pieces l (c + 1) r
open StrLaws Builtin.Str in
theorem pieces_of {l : List Nat} {c : Nat} : ∀ {cuts : List Nat} {a f : Nat}, ChainG (sl l) (sl [c]) (sl l).length a cuts f → (∀ k, f ≤ k → ¬ At (sl l) (sl [c]) (sl l).length k) → pieces l a cuts = splitL c (l.drop a)
  | [], a, f, h, hf => by
    obtain rfl : f = a := h
    unfold pieces
    rw [splitL_none]
    intro hm
    obtain ⟨i, hi⟩ := List.getElem?_of_mem hm
    rw [List.getElem?_drop] at hi
    exact hf (f + i) (by omega) (at_one.mpr hi)
  | q :: r, a, f, h, hf => by
    obtain ⟨h1, h2, h3, h4⟩ := h
    have h2 := at_one.mp h2
    have hq := (List.getElem?_eq_some_iff.mp h2)
    obtain ⟨hq1, hq2⟩ := hq
    have ih := pieces_of (a := q + 1) h4 hf
    unfold pieces
    rw [ih]
    have e : l.drop a = (l.drop a).take (q - a) ++ c :: l.drop (q + 1) := by
      conv => lhs; rw [← List.take_append_drop (q - a) (l.drop a)]
      rw [List.drop_drop, show a + (q - a) = q by omega, List.drop_eq_getElem_cons hq1, hq2]
    conv => rhs; rw [e]
    rw [splitL_at]
    intro hm
    obtain ⟨i, hi⟩ := List.getElem?_of_mem hm
    have hi2 := (List.getElem?_eq_some_iff.mp hi).1
    simp at hi2
    rw [List.getElem?_take_of_lt (by omega), List.getElem?_drop] at hi
    exact h3 (a + i) (by omega) (by omega) (at_one.mpr hi)
open StrLaws Builtin.Str in
theorem parts_eq (l : List Nat) : ∀ (cuts : List Nat) (a : Nat), ((a :: cuts.map (· + 1)).zip (cuts ++ [l.length])).map (fun (i, j) => strSub (sl l) i j) = (pieces l a cuts).map sl
  | [], a => by
    simp [pieces, strSub]
    rw [List.take_of_length_le]
    simp
  | c :: r, a => by
    have ih := parts_eq l r (c + 1)
    simp only [List.map_cons, List.cons_append, List.zip_cons_cons, pieces]
    rw [← ih]
    simp [strSub]
theorem split_one (l : List Nat) (c : Nat) (hc : c < 256) : Txt.split (sl l) (sl [c]) = (splitL c l).map sl := by
  have key : Builtin.Str.partsBetween (sl l) (Builtin.Str.occurrences (sl l) (sl [c]) 0 (sl l).length ((sl l).length + 1)) (sl [c]).length = (splitL c l).map sl := by
    obtain ⟨f, h1, h2⟩ := StrLaws.occ_tight (sl l) (sl [c]) (by rw [sl_len]; simp)
    have h3 := pieces_of h1 h2
    rw [List.drop_zero] at h3
    rw [← h3, ← parts_eq l _ 0]
    unfold Builtin.Str.partsBetween
    rw [sl_len, sl_len]
    rfl
  unfold Txt.split
  have hk : Builtin.Str.strKind (sl [c]) = 1 := by
    unfold Builtin.Str.strKind
    rw [if_pos]
    simp [hc]
  have hk2 : ¬ Builtin.Str.strKind (sl l) < Builtin.Str.strKind (sl [c]) := by
    rw [hk]
    unfold Builtin.Str.strKind
    split
    · omega
    · split <;> omega
  by_cases hl : (sl l).length < (sl [c]).length
  · rw [sl_len, sl_len] at hl
    have : l = [] := by
      cases l with
      | nil => rfl
      | cons x xs => simp at hl
    subst this
    rw [if_pos (by simp [sl_len])]
    rfl
  · rw [if_neg (by simp [hl, hk2])]
    split
    · rename_i he
      rw [List.isEmpty_iff.mp he] at key
      rw [← key]
      unfold Builtin.Str.partsBetween
      simp [Builtin.Str.strSub, sl_len]
    · exact key
end EV
set_option Elab.async false
set_option linter.all false
set_option maxRecDepth 100000
set_option maxHeartbeats 4000000
/-! EV, part Tk: the tokens of a text. -/
namespace EVU
open PySem EV
/-- is_run_sign: 1 parameters, 1 slots ['sign'] -/
def b27 : MB := .cons (.ret (.or_ (.o2 .in_ (.v 0) (.g 2)) (.o2 .in_ (.v 0) (.g 3)))) (.nil)
/-- is_numeral: 1 parameters, 2 slots ['run', 'sign'] -/
def b28 : MB := .cons (.if_ (.or_ (.not_ (.o1 .all (.mk false (.comp (.o2 .in_ (.v 1) (.g 3)) (.v 1) (.e (.v 0)) .none [1])))) (.o2 .gt (.o1 .len (.v 0)) (.g 5))) (.cons (.ret (.c (.bl false))) (.nil)) (.nil)) (.cons (.ret (.or_ (.o2 .eq (.v 0) (.c (.str ⟨#[48]⟩))) (.o2 .ne (.o2 .idx (.v 0) (.c (.int 0))) (.c (.str ⟨#[48]⟩))))) (.nil))
/-- kind_of: 1 parameters, 1 slots ['run'] -/
def b29 : MB := .cons (.if_ (.o2 .in_ (.v 0) (.g 0)) (.cons (.ret (.c (.str ⟨#[107, 101, 121]⟩))) (.nil)) (.nil)) (.cons (.if_ (.o2 .in_ (.o2 .idx (.v 0) (.c (.int 0))) (.g 2)) (.cons (.ret (.ite (.o2 .le (.o1 .len (.v 0)) (.g 4)) (.c (.str ⟨#[110, 97, 109, 101]⟩)) (.c .non))) (.nil)) (.nil)) (.cons (.ret (.ite (.call 28 (.cons (.v 0) (.nil))) (.c (.str ⟨#[110, 117, 109, 98, 101, 114]⟩)) (.c .non))) (.nil)))
/-- is_name: 1 parameters, 2 slots ['value', 'sign'] -/
def b30 : MB := .cons (.if_ (.or_ (.not_ (.isi (.v 0) [.str])) (.or_ (.o2 .eq (.v 0) (.c (.str ⟨#[]⟩))) (.not_ (.o1 .all (.mk false (.comp (.call 27 (.cons (.v 1) (.nil))) (.v 1) (.e (.v 0)) .none [1])))))) (.cons (.ret (.c (.bl false))) (.nil)) (.nil)) (.cons (.ret (.o2 .eq (.call 29 (.cons (.v 0) (.nil))) (.c (.str ⟨#[110, 97, 109, 101]⟩)))) (.nil))
/-- Scanner.__init__: 2 parameters, 2 slots ['self', 'text'] -/
def b31 : MB := .cons (.asg (.att (.v 0) 19) (.v 1)) (.cons (.asg (.att (.v 0) 20) (.c (.int 0))) (.cons (.asg (.att (.v 0) 0) (.c (.int 1))) (.cons (.asg (.att (.v 0) 2) (.c (.int 1))) (.nil))))
/-- Scanner.is_over: 1 parameters, 1 slots ['self'] -/
def b32 : MB := .cons (.ret (.o2 .eq (.att (.v 0) 20) (.o1 .len (.att (.v 0) 19)))) (.nil)
/-- Scanner.skip: 2 parameters, 2 slots ['self', 'many'] -/
def b33 : MB := .cons (.auga (.v 0) 20 .add (.v 1)) (.cons (.auga (.v 0) 2 .add (.v 1)) (.nil))
/-- Scanner.pass_gap: 1 parameters, 2 slots ['self', 'sign'] -/
def b34 : MB := .cons (.asg (.v 1) (.o2 .idx (.att (.v 0) 19) (.att (.v 0) 20))) (.cons (.if_ (.o2 .eq (.v 1) (.c (.str ⟨#[10]⟩))) (.cons (.asg (.t (.cons (.att (.v 0) 20) (.cons (.att (.v 0) 0) (.cons (.att (.v 0) 2) (.nil))))) (.tup (.cons (.addD false (.att (.v 0) 20) (.c (.int 1))) (.cons (.addD false (.att (.v 0) 0) (.c (.int 1))) (.cons (.c (.int 1)) (.nil)))))) (.nil)) (.cons (.if_ (.o2 .eq (.v 1) (.c (.str ⟨#[32]⟩))) (.cons (.ex (.meth (.v 0) 21 (.cons (.c (.int 1)) (.nil)))) (.nil)) (.cons (.if_ (.o2 .eq (.v 1) (.c (.str ⟨#[35]⟩))) (.cons (.ex (.meth (.v 0) 21 (.cons (.o1 .len (.o2 .idx (.mk false (.split (.slD false (.att (.v 0) 19) (.some (.att (.v 0) 20)) .none) (.c (.str ⟨#[10]⟩)))) (.c (.int 0)))) (.nil)))) (.nil)) (.nil)) (.nil))) (.nil))) (.cons (.ret (.o2 .in_ (.v 1) (.c (.str ⟨#[10, 32, 35]⟩)))) (.nil)))
/-- Scanner.token: 1 parameters, 5 slots ['self', 'word', 'kind', 'place', 'many'] -/
def b35 : MB := .cons (.par [3, 4] (.cons (.tup (.cons (.att (.v 0) 0) (.cons (.att (.v 0) 2) (.nil)))) (.cons (.c (.int 0)) (.nil)))) (.cons (.while_ (.and_ (.o2 .lt (.addD false (.att (.v 0) 20) (.v 4)) (.o1 .len (.att (.v 0) 19))) (.call 27 (.cons (.o2 .idx (.att (.v 0) 19) (.addD false (.att (.v 0) 20) (.v 4))) (.nil)))) (.cons (.augv 4 .add (.c (.int 1))) (.nil))) (.cons (.asg (.v 1) (.slD false (.att (.v 0) 19) (.some (.att (.v 0) 20)) (.some (.addD false (.att (.v 0) 20) (.o2 .max2 (.c (.int 1)) (.v 4)))))) (.cons (.asg (.v 2) (.ite (.o2 .gt (.v 4) (.c (.int 0))) (.call 29 (.cons (.v 1) (.nil))) (.ite (.o2 .in_ (.v 1) (.g 1)) (.c (.str ⟨#[115, 105, 103, 110]⟩)) (.c .non)))) (.cons (.if_ (.o2 .is_ (.v 2) (.c .non)) (.cons (.raise 2 (.cons (.att (.v 0) 0) (.cons (.att (.v 0) 2) (.nil)))) (.nil)) (.nil)) (.cons (.ex (.meth (.v 0) 21 (.cons (.o1 .len (.v 1)) (.nil)))) (.cons (.ret (.tup (.cons (.v 2) (.cons (.v 1) (.cons (.v 3) (.nil)))))) (.nil)))))))
/-- tokens: 1 parameters, 3 slots ['text', 'scanner', 'found'] -/
def b36 : MB := .cons (.if_ (.not_ (.isi (.v 0) [.str])) (.cons (.raise 2 (.cons (.c (.int 0)) (.cons (.c (.int 0)) (.nil)))) (.nil)) (.nil)) (.cons (.par [1, 2] (.cons (.new 20 (.cons (.v 0) (.nil))) (.cons (.mk true (.disp (.nil))) (.nil)))) (.cons (.while_ (.not_ (.meth (.v 1) 22 (.nil))) (.cons (.if_ (.not_ (.meth (.v 1) 23 (.nil))) (.cons (.ex (.mut .append (.v 2) (.cons (.meth (.v 1) 25 (.nil)) (.nil)))) (.nil)) (.nil)) (.nil))) (.cons (.ex (.mut .append (.v 2) (.cons (.tup (.cons (.c (.str ⟨#[101, 110, 100]⟩)) (.cons (.c (.str ⟨#[]⟩)) (.cons (.tup (.cons (.att (.v 1) 0) (.cons (.att (.v 1) 2) (.nil)))) (.nil))))) (.nil)))) (.cons (.ret (.o1 .tuple (.v 2))) (.nil)))))

end EVU
namespace EV
open PySem
local macro_rules | `(tactic| walk_at "t") => `(tactic| first
  | (refine t_tr ?_; rfl)
  | (refine t_fa ?_; rfl)
  | exact t_bl (decide_eq_true (by first | assumption | omega | (simp only [List.length_map] at *; omega)))
  | exact t_bl (decide_eq_false (by first | assumption | omega | (simp only [List.length_map] at *; omega))))
local macro_rules | `(tactic| walk_at "o") => `(tactic| first
  | exact o_eqi | exact o_nei
  | exact o_idx rfl (by first | assumption | decide | omega) (by first | assumption | exact rfl)
  | exact o_p18
  | exact o_eqb | exact o_neb
  | exact o_eqs (by first | assumption | decide) (by first | assumption | decide)
  | exact o_mulr (by decide) | exact o_mull (by decide)
  | exact o_mod (by first | decide | assumption | omega)
  | exact o_fdiv (by first | decide | assumption | omega) (by first | decide | assumption | omega)
  | exact rfl)
local macro_rules | `(tactic| walk_at "add") => `(tactic| first
  | exact add_int
  | exact add_str (by walk_at "size")
  | exact add_tup (by walk_at "size")
  | exact add_lstv rfl rfl (by walk_at "size")
  | exact add_lst rfl rfl (by walk_at "size"))
local macro_rules | `(tactic| walk_at "size") => `(tactic| first | decide | exact Nat.le_of_ble_eq_true rfl | (simp only [List.length_cons, List.length_nil, List.length_map, List.length_append, sizeLine]; omega))
local macro_rules | `(tactic| walk_at "mul") => `(tactic| first
  | exact mul_lstv rfl (by first | decide | exact rfl)
  | ((first | apply mul_int | apply mul_tup) <;> walk_at "o"))
local macro_rules | `(tactic| walk_at "es") => `(tactic| first
  | with_reducible exact rs_nil
  | ((with_reducible apply rs_cons); walk_at "e"; walk_at "es"))
local macro_rules | `(tactic| walk_at "eO") => `(tactic| first
  | with_reducible exact rO_none
  | ((with_reducible apply rO_some); walk_at "e"))
local macro_rules | `(tactic| walk_at "eC") => `(tactic| first
  | ((with_reducible apply rC_disp); walk_at "es"; walk_at "size")
  | ((with_reducible apply rC_lof); walk_at "e"; exact rfl))
local macro_rules | `(tactic| walk_at "call") => `(tactic| assumption)
local macro_rules | `(tactic| walk_at "e") => `(tactic| first
  | with_reducible exact r_c
  | ((with_reducible apply r_v); exact rfl)
  | ((with_reducible apply r_g); exact rfl)
  | ((with_reducible apply r_o2); walk_at "e"; walk_at "e"; walk_at "o")
  | ((with_reducible apply r_o1); walk_at "e"; walk_at "o")
  | ((with_reducible apply r_addX); walk_at "e"; walk_at "e"; walk_at "add")
  | ((with_reducible apply r_mulX); walk_at "e"; walk_at "e"; walk_at "mul")
  | ((with_reducible apply r_and); walk_at "e"; walk_at "t"; first | (show ev _ _ _ _ = _; walk_at "e") | exact rfl)
  | ((with_reducible apply r_or); walk_at "e"; walk_at "t"; first | (show ev _ _ _ _ = _; walk_at "e") | exact rfl)
  | ((with_reducible apply r_not); walk_at "e"; walk_at "t")
  | ((with_reducible apply r_ite); walk_at "e"; walk_at "t"; show ev _ _ _ _ = _; walk_at "e")
  | ((with_reducible apply r_isi); walk_at "e"; exact rfl; exact rfl)
  | ((with_reducible apply r_tup); walk_at "es"; walk_at "size")
  | ((with_reducible apply r_mkv); walk_at "eC")
  | ((with_reducible apply r_mkl); walk_at "eC")
  | ((with_reducible apply r_att); walk_at "e"; exact rfl; exact rfl; exact rfl)
  | ((with_reducible apply r_call0); walk_at "es"; exact rfl; exact rfl; walk_at "call")
  | ((with_reducible apply r_call); walk_at "es"; exact rfl; walk_at "call"))
local macro_rules | `(tactic| walk_at "asg") => `(tactic| first
  | ((with_reducible apply a_v); simp)
  | ((with_reducible apply a_ix); walk_at "e"; walk_at "e"; walk_at "set")
  | ((with_reducible apply a_att); walk_at "e"; walk_at "set")
  | ((with_reducible apply a_t); walk_at "asgs"))
local macro_rules | `(tactic| walk_at "asgs") => `(tactic| first
  | with_reducible exact as_nil
  | ((with_reducible apply as_cons); walk_at "asg"; walk_at "asgs"))
local macro_rules | `(tactic| walk_at "set") => `(tactic| exact rfl)
local macro_rules | `(tactic| walk_at "x") => `(tactic| first
  | ((with_reducible apply x_asg); walk_at "e"; walk_at "asg")
  | ((with_reducible apply x_ret); walk_at "e")
  | with_reducible exact x_retN
  | ((with_reducible apply x_ex); walk_at "e")
  | ((with_reducible apply x_par); walk_at "es"; exact rfl)
  | ((with_reducible apply x_if); walk_at "e"; walk_at "t"; show execs _ _ _ _ _ = _; walk_at "xs"))
local macro_rules | `(tactic| walk_at "xs") => `(tactic| first
  | with_reducible exact xs_nil
  | ((with_reducible apply xs_c); walk_at "x"; first | (with_reducible exact Ro.nx_rt _ _ _) | (rewrite [Ro.nx_nx]; walk_at "xs")))

/-! ### what tokens are -/
def keysL : List (List Nat) := [[100, 101, 101, 100], [107, 101, 112, 116], [112, 97, 115, 115, 105, 110, 103], [98, 111, 120], [112, 97, 114, 116], [115, 101, 116], [112, 111, 115, 116], [105, 102], [101, 108, 115, 101]]
def signsL : List (List Nat) := [[123], [125], [44], [59], [61], [60], [43], [45]]
def lettersL : List Nat := [97, 98, 99, 100, 101, 102, 103, 104, 105, 106, 107, 108, 109, 110, 111, 112, 113, 114, 115, 116, 117, 118, 119, 120, 121, 122]
def figuresL : List Nat := [48, 49, 50, 51, 52, 53, 54, 55, 56, 57]
def txs (ws : List (List Nat)) : List D := ws.map fun w => .str (sl w)
def isRun (c : Nat) : Bool := decide (c ∈ lettersL) || decide (c ∈ figuresL)
def nKey : List Nat := [107, 101, 121]
def nName : List Nat := [110, 97, 109, 101]
def nNumber : List Nat := [110, 117, 109, 98, 101, 114]
def nSign : List Nat := [115, 105, 103, 110]
def nEnd : List Nat := [101, 110, 100]
def numeral (w : List Nat) : Bool := (w.all fun c => decide (c ∈ figuresL)) && decide (w.length ≤ 3) && (decide (w = [48]) || decide (w.head? ≠ some 48))
/-- the kind of a run -/
def kindR (w : List Nat) : Option (List Nat) := if w ∈ keysL then some nKey else if w.head?.any (fun c => decide (c ∈ lettersL)) then (if w.length ≤ 12 then some nName else none) else if numeral w then some nNumber else none
def optS : Option (List Nat) → D
  | some w => .str (sl w)
  | none => .non
/-- what the tokens' defs ask of a program -/
structure TokF (G : Prog) : Prop where
  f27 : G.fns 27 = some ⟨1, 1, EVU.b27, .plain⟩
  f28 : G.fns 28 = some ⟨1, 2, EVU.b28, .plain⟩
  f29 : G.fns 29 = some ⟨1, 1, EVU.b29, .plain⟩
  f30 : G.fns 30 = some ⟨1, 2, EVU.b30, .plain⟩
  f31 : G.fns 31 = some ⟨2, 2, EVU.b31, .plain⟩
  f32 : G.fns 32 = some ⟨1, 1, EVU.b32, .plain⟩
  f33 : G.fns 33 = some ⟨2, 2, EVU.b33, .plain⟩
  f34 : G.fns 34 = some ⟨1, 2, EVU.b34, .plain⟩
  f35 : G.fns 35 = some ⟨1, 5, EVU.b35, .plain⟩
  f36 : G.fns 36 = some ⟨1, 3, EVU.b36, .pure⟩
  g0 : G.P.glob 0 = some (.tup (txs keysL))
  g1 : G.P.glob 1 = some (.tup (txs signsL))
  g2 : G.P.glob 2 = some (.str (sl lettersL))
  g3 : G.P.glob 3 = some (.str (sl figuresL))
  g4 : G.P.glob 4 = some (.int 12)
  g5 : G.P.glob 5 = some (.int 3)
  d : ∀ f n, 27 ≤ f → f ≤ 36 → G.P.dfl f n = []
  m1 : ∀ f, f ∈ [27, 28, 29, 30, 32, 34, 35, 36] → G.P.many f = 1
  m2 : ∀ f, f ∈ [31, 33] → G.P.many f = 2
  cls : G.P.cls 20 = true
  fok : ∀ f ∈ [19, 20, 0, 2], G.P.fok 20 f = true
  me22 : G.P.meth 20 22 = some 32
  me23 : G.P.meth 20 23 = some 34
  me21 : G.P.meth 20 21 = some 33
  me25 : G.P.meth 20 25 = some 35
  ini : G.P.init 20 = some 31
  exf : G.P.exf 2 = some [0, 2]
/-! ### operators on texts -/
def okT (w : List Nat) : Prop := ∀ c ∈ w, c < 1114112
theorem can_str {w : List Nat} (h : okT w) : PyData.canLay0 (.str (sl w)) = true := by
  show PyData.strOk (sl w) = true
  unfold PyData.strOk
  rw [Array.all_eq_true]
  intro i hi
  simp at hi ⊢
  exact h _ (List.getElem_mem hi)
theorem o_eqS {S : Store} {a b : List Nat} (ha : okT a) (hb : okT b) : o2 S .eq (.str (sl a)) (.str (sl b)) = some (.bl (decide (a = b))) := by
  rw [o_eqs (can_str ha) (can_str hb)]
  congr 2
  simp
theorem o_neS {S : Store} {a b : List Nat} (ha : okT a) (hb : okT b) : o2 S .ne (.str (sl a)) (.str (sl b)) = some (.bl (!decide (a = b))) := by
  have h := o_eqS (S := S) ha hb
  have e : eqD S (.str (sl a)) (.str (sl b)) = some (decide (a = b)) := by
    have h : (eqD S (.str (sl a)) (.str (sl b))).map D.bl = _ := h
    cases q : eqD S (.str (sl a)) (.str (sl b)) with
    | none => rw [q] at h; cases h
    | some v => rw [q] at h; simp at h; rw [h]
  show (eqD S (.str (sl a)) (.str (sl b))).map (fun r => D.bl (!r)) = _
  rw [e]
  rfl
theorem deep_strs {S : Store} {f : Nat} : ∀ ws : List (List Nat), (txs ws).mapM (deep S (f + 1)) = some (ws.map fun w => PyData.str (sl w))
  | [] => rfl
  | w :: ws => by
    unfold txs
    rw [List.map_cons, List.mapM_cons]
    show (deep S (f + 1) (.str (sl w))).bind _ = _
    have := deep_strs (S := S) (f := f) ws
    unfold txs at this
    rw [this]
    rfl
theorem o_inT {S : Store} {w : List Nat} {ws : List (List Nat)} (hw : okT w) (hs : SeqAt.shaped (.tuple (ws.map fun w => PyData.str (sl w))) = true) : o2 S .in_ (.str (sl w)) (.tup (txs ws)) = some (.bl (decide (w ∈ ws))) := by
  show ((inD S (.str (sl w)) (.tup (txs ws))).map D.bl) = _
  have h1 : SeqAt.shaped (.str (sl w)) = true := by unfold SeqAt.shaped; rw [can_str hw]; rfl
  have e1 : deep S 60 (.str (sl w)) = some (.str (sl w)) := rfl
  have e2 : deep S 60 (.tup (txs ws)) = some (.tuple (ws.map fun w => PyData.str (sl w))) := by
    show ((txs ws).mapM (deep S 59)).map PyData.tuple = _
    rw [deep_strs]
    rfl
  unfold inD
  simp only [dicOf, e1, e2, h1, hs, Bool.and_self, if_true, Option.map_some]
  congr 2
  rw [Bool.eq_iff_iff, List.any_map, List.any_eq_true, decide_eq_true_eq]
  constructor
  · rintro ⟨z, hz, h⟩
    have h : (sl z == sl w) = true := h
    rw [beq_iff_eq, sl_inj] at h
    subst h
    exact hz
  · intro h
    refine ⟨w, h, ?_⟩
    show (sl w == sl w) = true
    simp

set_option hygiene false in
local macro_rules | `(tactic| walk_at "e") => `(tactic| ((with_reducible apply r_g); first | exact Z.g0 | exact Z.g1 | exact Z.g2 | exact Z.g3 | exact Z.g4 | exact Z.g5))
local macro_rules | `(tactic| walk_at "o") => `(tactic| first
  | with_reducible exact o_in1 _ _ | with_reducible exact o_nin1 _ _)
local macro_rules | `(tactic| walk_at "o") => `(tactic| first
  | ((with_reducible apply o_eqS) <;> first | assumption | decide)
  | ((with_reducible apply o_neS) <;> first | assumption | decide)
  | ((with_reducible apply o_inT) <;> first | assumption | decide +kernel))
section
variable {G : Prog} {k : Nat} {S : Store}
theorem TokF.run (Z : TokF G) (c : Nat) : fnk G (k + 1) 27 [.str (sl [c])] S = .ok (.bl (isRun c)) S := by
  rw [fnk_plain Z.f27 rfl rfl]
  show bodyOf (execs _ _ EVU.b27 [some (.str (sl [c]))] S) = _
  unfold EVU.b27 isRun
  by_cases h : c ∈ lettersL
  · rw [xs_rt (x_ret (r_or_t (r_o2 (r_v rfl) (r_g Z.g2) (o_in1 _ _)) (t_bl (decide_eq_true h))))]
    simp [bodyOf, h]
  · rw [xs_rt (x_ret (r_or_f (r_o2 (r_v rfl) (r_g Z.g2) (o_in1 _ _)) (t_bl (decide_eq_false h)) (r_o2 (r_v rfl) (r_g Z.g3) (o_in1 _ _))))]
    simp [bodyOf, h]
/-- all signs of a text pass a test -/
theorem comp_all {E : Ec} {elt : ME} {r : List (Option D)} {p : Nat → Bool} (l : List Nat) {a : Option D} (h : ∀ c ∈ l, ev E elt (a :: some (.str (sl [c])) :: r) S = .ok (.bl (p c)) S) :
    compL (compF E elt (.v 1) .none [1] (a :: none :: r)) (l.map fun c => D.str (sl [c])) S [] = .ok (.lst (l.map fun c => D.bl (p c))) S := by
  suffices ∀ acc, compL (compF E elt (.v 1) .none [1] (a :: none :: r)) (l.map fun c => D.str (sl [c])) S acc = .ok (.lst (acc ++ l.map fun c => D.bl (p c))) S by simpa using this []
  induction l with
  | nil => intro acc; simp [compL]
  | cons c l ih =>
    intro acc
    have e : compF E elt (.v 1) .none [1] (a :: none :: r) (.str (sl [c])) S = .ok (some (.bl (p c))) S := by
      show ((ev E elt (a :: some (.str (sl [c])) :: r) S).bind fun d S3 => .ok (some d) S3) = _
      rw [h c (List.mem_cons_self ..)]
      rfl
    rw [List.map_cons, compL, e]
    simp only
    rw [ih (fun c hc => h c (List.mem_cons_of_mem _ hc))]
    simp
theorem all_bls (S : Store) (p : Nat → Bool) (l : List Nat) : o1 S .all (.lst (l.map fun c => D.bl (p c))) = some (.bl (l.all p)) := by
  show ((l.map fun c => D.bl (p c)).mapM blOf).map (fun bs => D.bl (bs.all id)) = _
  have : (l.map fun c => D.bl (p c)).mapM blOf = some (l.map p) := by
    induction l with
    | nil => rfl
    | cons c l ih => rw [List.map_cons, List.mapM_cons, ih]; rfl
  rw [this]
  simp [List.all_map]
theorem iter_str (S : Store) (l : List Nat) : iterOf S (.str (sl l)) = some (l.map fun c => D.str (sl [c]), []) := rfl
theorem TokF.num (Z : TokF G) {w : List Nat} (hw : okT w) (h0 : w ≠ []) (hl : w.length ≤ sizeLine) : fnk G (k + 1) 28 [.str (sl w)] S = .ok (.bl (numeral w)) S := by
  rw [fnk_plain Z.f28 rfl rfl]
  show bodyOf (execs _ _ EVU.b28 [some (.str (sl w)), none] S) = _
  have hall : ∀ E, E.P = G.P → ev E (.o1 .all (.mk false (.comp (.o2 .in_ (.v 1) (.g 3)) (.v 1) (.e (.v 0)) .none [1]))) [some (.str (sl w)), none] S = .ok (.bl (w.all fun c => decide (c ∈ figuresL))) S := fun E hE =>
    r_o1 (r_mkv (rC_comp (S1 := S) (ls := []) (rI_e (r_v rfl) (iter_str S w)) (by simpa using hl) (comp_all w fun c _ => r_o2 (r_v rfl) (r_g (by rw [hE]; exact Z.g3)) (o_in1 _ _)))) (all_bls _ _ _)
  have hlen : ∀ E : Ec, E.P = G.P → ev E (.o2 .gt (.o1 .len (.v 0)) (.g 5)) [some (.str (sl w)), none] S = .ok (.bl (decide ((3 : Int) < (w.length : Nat)))) S := fun E hE => by
    have e : o1 S .len (.str (sl w)) = some (.int (w.length : Nat)) := by rw [o_lenS (by rw [sl_len]; exact hl), sl_len]
    exact r_o2 (r_o1 (r_v rfl) e) (r_g (by rw [hE]; exact Z.g5)) rfl
  generalize hE : (⟨G.P, fnk G k, fnT G k, none, none⟩ : Ec) = E
  have hP : E.P = G.P := by rw [← hE]
  obtain ⟨c, r, rfl⟩ : ∃ c r, w = c :: r := by cases w with
    | nil => exact absurd rfl h0
    | cons c r => exact ⟨c, r, rfl⟩
  have ok1 : okT [c] := fun x hx => hw x (by simp at hx; simp [hx])
  have ok0 : okT [48] := by intro x hx; simp at hx; omega
  have fin : ∀ b, execs E G.sub EVU.b28 [some (.str (sl (c :: r))), none] S = .fl (.rt (.bl b)) S → b = numeral (c :: r) → bodyOf (execs E G.sub EVU.b28 [some (.str (sl (c :: r))), none] S) = .ok (.bl (numeral (c :: r))) S := fun b e hb => by rw [e, hb]; rfl
  have hall := hall E hP
  have hlen := hlen E hP
  have hsig : ev E (.o2 .ne (.o2 .idx (.v 0) (.c (.int 0))) (.c (.str (sl [48])))) [some (.str (sl (c :: r))), none] S = .ok (.bl (!decide ([c] = [48]))) S := r_o2 (r_o2 (r_v rfl) r_c (o_sign (i := 0) (by decide) rfl hl)) r_c (o_neS ok1 ok0)
  have heq : ev E (.o2 .eq (.v 0) (.c (.str (sl [48])))) [some (.str (sl (c :: r))), none] S = .ok (.bl (decide (c :: r = [48]))) S := r_o2 (r_v rfl) r_c (o_eqS hw ok0)
  unfold EVU.b28 at fin
  by_cases h1 : ((c :: r).all fun c => decide (c ∈ figuresL)) = true
  · by_cases h2 : (c :: r).length ≤ 3
    · have h3 : ¬ ((3 : Int) < ((c :: r).length : Nat)) := by omega
      have hif := x_if_f (sub := G.sub) (A := .cons (.ret (.c (.bl false))) .nil) (r_or_f (r_not hall (t_bl h1)) (t_fa rfl) hlen) (t_bl (decide_eq_false h3)) xs_nil
      by_cases h4 : c :: r = [48]
      · refine fin _ (xs_cons hif (xs_rt (x_ret (r_or_t heq (t_bl (decide_eq_true h4)))))) ?_
        unfold numeral
        simp only [h1, h2, h4]
        rfl
      · refine fin _ (xs_cons hif (xs_rt (x_ret (r_or_f heq (t_bl (decide_eq_false h4)) hsig)))) ?_
        unfold numeral
        simp only [h1, h2, h4]
        simp
    · have h3 : ((3 : Int) < ((c :: r).length : Nat)) := by omega
      have hif := x_if_t (sub := G.sub) (B := .nil) (r_or_f (r_not hall (t_bl h1)) (t_fa rfl) hlen) (t_bl (decide_eq_true h3)) (xs_rt (m := .nil) (x_ret (r_c (d := .bl false))))
      refine fin false (xs_rt hif) ?_
      unfold numeral
      simp only [h1, h2]
      rfl
  · have h1 : ((c :: r).all fun c => decide (c ∈ figuresL)) = false := by simpa using h1
    have hif := x_if_t (sub := G.sub) (B := .nil) (r_or_t (b := .o2 .gt (.o1 .len (.v 0)) (.g 5)) (r_not hall (t_bl h1)) (t_tr rfl)) (t_tr rfl) (xs_rt (m := .nil) (x_ret (r_c (d := .bl false))))
    refine fin false (xs_rt hif) ?_
    unfold numeral
    simp only [h1]
    rfl
theorem TokF.kind (Z : TokF G) {w : List Nat} (hw : okT w) (h0 : w ≠ []) (hl : w.length ≤ sizeLine) : fnk G (k + 2) 29 [.str (sl w)] S = .ok (optS (kindR w)) S := by
  rw [fnk_plain Z.f29 rfl rfl]
  show bodyOf (execs _ _ EVU.b29 [some (.str (sl w))] S) = _
  generalize hE : (⟨G.P, fnk G (k + 1), fnT G (k + 1), none, none⟩ : Ec) = E
  have hP : E.P = G.P := by rw [← hE]
  have h28 : E.fn 28 [.str (sl w)] S = .ok (.bl (numeral w)) S := by rw [← hE]; exact Z.num hw h0 hl
  have fin : ∀ d, execs E G.sub EVU.b29 [some (.str (sl w))] S = .fl (.rt d) S → d = optS (kindR w) → bodyOf (execs E G.sub EVU.b29 [some (.str (sl w))] S) = .ok (optS (kindR w)) S := fun d e hd => by rw [e, hd]; rfl
  obtain ⟨c, r, rfl⟩ : ∃ c r, w = c :: r := by cases w with
    | nil => exact absurd rfl h0
    | cons c r => exact ⟨c, r, rfl⟩
  have hkey : ev E (.o2 .in_ (.v 0) (.g 0)) [some (.str (sl (c :: r)))] S = .ok (.bl (decide (c :: r ∈ keysL))) S := r_o2 (r_v rfl) (r_g (by rw [hP]; exact Z.g0)) (o_inT hw (by decide +kernel))
  have hlet : ev E (.o2 .in_ (.o2 .idx (.v 0) (.c (.int 0))) (.g 2)) [some (.str (sl (c :: r)))] S = .ok (.bl (decide (c ∈ lettersL))) S := r_o2 (r_o2 (r_v rfl) r_c (o_sign (i := 0) (by decide) rfl hl)) (r_g (by rw [hP]; exact Z.g2)) (o_in1 _ _)
  have hlen : ev E (.o2 .le (.o1 .len (.v 0)) (.g 4)) [some (.str (sl (c :: r)))] S = .ok (.bl (decide (((c :: r).length : Nat) ≤ (12 : Int)))) S := by
    have e : o1 S .len (.str (sl (c :: r))) = some (.int ((c :: r).length : Nat)) := by rw [o_lenS (by rw [sl_len]; exact hl), sl_len]
    exact r_o2 (r_o1 (r_v rfl) e) (r_g (by rw [hP]; exact Z.g4)) rfl
  have hnum : ev E (.call 28 (.cons (.v 0) .nil)) [some (.str (sl (c :: r)))] S = .ok (.bl (numeral (c :: r))) S := r_call0 (rs_cons (r_v rfl) rs_nil) (by rw [hP]; exact Z.d _ _ (by omega) (by omega)) (by rw [hP, Z.m1 28 (by decide)]; rfl) h28
  unfold EVU.b29 at fin
  by_cases h1 : c :: r ∈ keysL
  · refine fin _ (xs_rt (x_if_t hkey (t_bl (decide_eq_true h1)) (xs_rt (x_ret r_c)))) ?_
    unfold kindR
    rw [if_pos h1]
    rfl
  · have f1 := x_if_f (sub := G.sub) (A := .cons (.ret (.c (.str ⟨#[107, 101, 121]⟩))) .nil) hkey (t_bl (decide_eq_false h1)) xs_nil
    by_cases h2 : c ∈ lettersL
    · by_cases h3 : (c :: r).length ≤ 12
      · refine fin _ (xs_cons f1 (xs_rt (x_if_t hlet (t_bl (decide_eq_true h2)) (xs_rt (x_ret (r_ite_t hlen (t_bl (decide_eq_true (by omega))) r_c)))))) ?_
        unfold kindR
        rw [if_neg h1]
        simp only [List.head?_cons, Option.any_some, h2, decide_true, if_true, if_pos h3]
        rfl
      · refine fin _ (xs_cons f1 (xs_rt (x_if_t hlet (t_bl (decide_eq_true h2)) (xs_rt (x_ret (r_ite_f hlen (t_bl (decide_eq_false (by omega))) r_c)))))) ?_
        unfold kindR
        rw [if_neg h1]
        simp only [List.head?_cons, Option.any_some, h2, decide_true, if_true, if_neg h3]
        rfl
    · have f2 := x_if_f (sub := G.sub) (A := .cons (.ret (.ite (.o2 .le (.o1 .len (.v 0)) (.g 4)) (.c (.str ⟨#[110, 97, 109, 101]⟩)) (.c .non))) .nil) hlet (t_bl (decide_eq_false h2)) xs_nil
      cases h3 : numeral (c :: r) with
      | true =>
        refine fin _ (xs_cons f1 (xs_cons f2 (xs_rt (x_ret (r_ite_t hnum (t_bl h3) r_c))))) ?_
        unfold kindR
        rw [if_neg h1]
        simp only [List.head?_cons, Option.any_some, h2, h3, decide_false, if_true]
        rfl
      | false =>
        refine fin _ (xs_cons f1 (xs_cons f2 (xs_rt (x_ret (r_ite_f hnum (t_bl h3) r_c))))) ?_
        unfold kindR
        rw [if_neg h1]
        simp only [List.head?_cons, Option.any_some, h2, h3, decide_false]
        rfl
/-! ### the scanner -/
def scO (l : List Nat) (p ln co : Int) : Cell := .obj 20 [19, 20, 0, 2] [.str (sl l), .int p, .int ln, .int co]
section
variable {E : Ec} {n : Nat} {l : List Nat} {p ln co : Int} {ρ : Env'}
theorem TokF.fk (Z : TokF G) (hP : E.P = G.P) {f : Nat} (hf : f ∈ [19, 20, 0, 2]) : (E.P.cls 20 && E.P.fok 20 f) = true := by rw [hP, Z.cls, Z.fok f hf]; rfl
theorem obj_at' {c : Nat} {fs : List Nat} {vs : List D} (h : cellOf S n = some (.obj c fs vs)) : objOf S (.ref n) = some (c, fs, vs) := by
  show (match cellOf S n with | some (.obj c fs vs) => some (c, fs, vs) | _ => none) = _
  rw [h]
theorem TokF.text (Z : TokF G) (hP : E.P = G.P) (h0 : ρ[0]? = some (some (.ref n))) (h : cellOf S n = some (scO l p ln co)) : ev E (.att (.v 0) 19) ρ S = .ok (.str (sl l)) S := r_att (r_v h0) (obj_at' h) (Z.fk hP (by decide)) rfl
theorem TokF.at_ (Z : TokF G) (hP : E.P = G.P) (h0 : ρ[0]? = some (some (.ref n))) (h : cellOf S n = some (scO l p ln co)) : ev E (.att (.v 0) 20) ρ S = .ok (.int p) S := r_att (r_v h0) (obj_at' h) (Z.fk hP (by decide)) rfl
theorem TokF.line (Z : TokF G) (hP : E.P = G.P) (h0 : ρ[0]? = some (some (.ref n))) (h : cellOf S n = some (scO l p ln co)) : ev E (.att (.v 0) 0) ρ S = .ok (.int ln) S := r_att (r_v h0) (obj_at' h) (Z.fk hP (by decide)) rfl
theorem TokF.col (Z : TokF G) (hP : E.P = G.P) (h0 : ρ[0]? = some (some (.ref n))) (h : cellOf S n = some (scO l p ln co)) : ev E (.att (.v 0) 2) ρ S = .ok (.int co) S := r_att (r_v h0) (obj_at' h) (Z.fk hP (by decide)) rfl
theorem setF_of {P : Pg} {c f : Nat} {fs : List Nat} {vs : List D} {d : D} (h : cellOf S n = some (.obj c fs vs)) (hk : (P.cls c && P.fok c f) = true) (hl : fs.length < 900) : setF P S (.ref n) f d = some (S.set n (some (.obj c (putField fs vs f d).1 (putField fs vs f d).2))) := by
  show (match cellOf S n with | some (.obj c fs vs) => _ | _ => none) = _
  rw [h]
  simp only [hk, hl, decide_true, Bool.and_self, if_true]
theorem TokF.set20 (Z : TokF G) (hP : E.P = G.P) {q : Int} (h : cellOf S n = some (scO l p ln co)) : setF E.P S (.ref n) 20 (.int q) = some (S.set n (some (scO l q ln co))) := setF_of h (Z.fk hP (by decide)) (by decide)
theorem TokF.set0 (Z : TokF G) (hP : E.P = G.P) {q : Int} (h : cellOf S n = some (scO l p ln co)) : setF E.P S (.ref n) 0 (.int q) = some (S.set n (some (scO l p q co))) := setF_of h (Z.fk hP (by decide)) (by decide)
theorem TokF.set2 (Z : TokF G) (hP : E.P = G.P) {q : Int} (h : cellOf S n = some (scO l p ln co)) : setF E.P S (.ref n) 2 (.int q) = some (S.set n (some (scO l p ln q))) := setF_of h (Z.fk hP (by decide)) (by decide)
theorem cls_at {c : Nat} {fs : List Nat} {vs : List D} (h : cellOf S n = some (.obj c fs vs)) : isCls S (.ref n) c = true := by
  unfold isCls
  rw [obj_at' h]
  simp
/-- skip -/
theorem TokF.skip (Z : TokF G) {m : Int} (h : cellOf S n = some (scO l p ln co)) : fnk G (k + 1) 33 [.ref n, .int m] S = .ok .non (S.set n (some (scO l (p + m) ln (co + m)))) := by
  rw [fnk_plain Z.f33 rfl rfl]
  show bodyOf (execs _ _ EVU.b33 [some (.ref n), some (.int m)] S) = _
  have hn := cellOf_lt h
  have h2 : cellOf (S.set n (some (scO l (p + m) ln co))) n = some (scO l (p + m) ln co) := cellOf_set hn
  unfold EVU.b33
  rw [xs_cons (x_auga (r_v rfl) (obj_at' h) (Z.fk rfl (by decide)) (y := .int p) rfl (r_v rfl) (w := .int (p + m)) rfl (cls_at h) (Z.set20 rfl h)) (xs_cons (x_auga (r_v rfl) (obj_at' h2) (Z.fk rfl (by decide)) (y := .int co) rfl (r_v rfl) (w := .int (co + m)) rfl (cls_at h2) (Z.set2 rfl h2)) xs_nil)]
  simp [bodyOf]
/-- is_over -/
theorem TokF.over (Z : TokF G) (h : cellOf S n = some (scO l p ln co)) (hl : l.length ≤ sizeLine) : fnk G (k + 1) 32 [.ref n] S = .ok (.bl (decide (p = (l.length : Nat)))) S := by
  rw [fnk_plain Z.f32 rfl rfl]
  show bodyOf (execs _ _ EVU.b32 [some (.ref n)] S) = _
  unfold EVU.b32
  have e : o1 S .len (.str (sl l)) = some (.int (l.length : Nat)) := by rw [o_lenS (by rw [sl_len]; exact hl), sl_len]
  rw [xs_rt (x_ret (r_o2 (Z.at_ rfl rfl h) (r_o1 (Z.text rfl rfl h) e) o_eqi))]
  rfl
/-- the signs up to the line's end -/
def rest (l : List Nat) : List Nat := l.takeWhile fun x => x != 10
/-- behind a gap -/
def gapAt (l : List Nat) (p ln co : Nat) (c : Nat) : Option (Nat × Nat × Nat) :=
  if c = 10 then some (p + 1, ln + 1, 1) else if c = 32 then some (p + 1, ln, co + 1) else if c = 35 then some (p + (rest (l.drop p)).length, ln, co + (rest (l.drop p)).length) else none
theorem TokF.gap (Z : TokF G) {p ln co c : Nat} (hl : l.length ≤ 100000) (hok : okT l) (h : cellOf S n = some (scO l p ln co)) (hc : l[p]? = some c) :
    fnk G (k + 2) 34 [.ref n] S = .ok (.bl (gapAt l p ln co c).isSome) (match gapAt l p ln co c with
      | some (p', ln', co') => S.set n (some (scO l p' ln' co'))
      | none => S) := by
  rw [fnk_plain Z.f34 rfl rfl]
  show bodyOf (execs _ _ EVU.b34 [some (.ref n), none] S) = _
  generalize hE : (⟨G.P, fnk G (k + 1), fnT G (k + 1), none, none⟩ : Ec) = E
  have hP : E.P = G.P := by rw [← hE]
  have hn := cellOf_lt h
  have hz : l.length ≤ sizeLine := Nat.le_trans hl (by decide)
  have okc : okT [c] := by
    intro x hx
    simp at hx
    subst hx
    exact hok _ (List.mem_of_getElem? hc)
  have ok1 : ∀ d : Nat, d < 100 → okT [d] := fun d hd x hx => by simp at hx; omega
  have hsg : ev E (.o2 .idx (.att (.v 0) 19) (.att (.v 0) 20)) [some (.ref n), none] S = .ok (.str (sl [c])) S :=
    r_o2 (Z.text hP rfl h) (Z.at_ hP rfl h) (o_sign (by omega) (by simpa using hc) hz)
  have s1 : exec E G.sub (.asg (.v 1) (.o2 .idx (.att (.v 0) 19) (.att (.v 0) 20))) [some (.ref n), none] S = .fl (.nx [some (.ref n), some (.str (sl [c]))]) S := x_asg hsg (a_v (by simp))
  have heq : ∀ (d : Nat) (S' : Store), d < 100 → ev E (.o2 .eq (.v 1) (.c (.str (sl [d])))) [some (.ref n), some (.str (sl [c]))] S' = .ok (.bl (decide ([c] = [d]))) S' := fun d S' hd => r_o2 (r_v rfl) r_c (o_eqS okc (ok1 d hd))
  have hret : ∀ S' : Store, exec E G.sub (.ret (.o2 .in_ (.v 1) (.c (.str (sl [10, 32, 35]))))) [some (.ref n), some (.str (sl [c]))] S' = .fl (.rt (.bl (decide (c ∈ [10, 32, 35])))) S' := fun S' => x_ret (r_o2 (r_v rfl) r_c (o_in1 _ _))
  have hskip : ∀ m : Int, E.fn 33 [.ref n, .int m] S = .ok .non (S.set n (some (scO l (p + m) ln (co + m)))) := fun m => by rw [← hE]; exact Z.skip h
  have fin : ∀ (b : Bool) (S' : Store), execs E G.sub EVU.b34 [some (.ref n), none] S = .fl (.rt (.bl b)) S' → b = (gapAt l p ln co c).isSome → S' = (match gapAt l p ln co c with
      | some (p', ln', co') => S.set n (some (scO l p' ln' co'))
      | none => S) → bodyOf (execs E G.sub EVU.b34 [some (.ref n), none] S) = .ok (.bl (gapAt l p ln co c).isSome) (match gapAt l p ln co c with
      | some (p', ln', co') => S.set n (some (scO l p' ln' co'))
      | none => S) := fun b S' e hb hS => by rw [e, hb, hS]; rfl
  unfold EVU.b34 at fin
  by_cases c1 : c = 10
  · subst c1
    have h2 : cellOf (S.set n (some (scO l (p + 1) ln co))) n = some (scO l (p + 1) ln co) := cellOf_set hn
    have h3 : cellOf ((S.set n (some (scO l (p + 1) ln co))).set n (some (scO l (p + 1) (ln + 1) co))) n = some (scO l (p + 1) (ln + 1) co) := cellOf_set (by simpa using hn)
    refine fin _ _ (xs_cons s1 (xs_cons (x_if_t (heq 10 S (by omega)) (t_bl (by simp)) (xs_cons (x_asg (r_tup (rs_cons (r_addX (Z.at_ hP rfl h) r_c add_int) (rs_cons (r_addX (Z.line hP rfl h) r_c add_int) (rs_cons r_c rs_nil))) (Nat.le_of_ble_eq_true rfl))
      (a_t (as_cons (a_att (r_v rfl) (Z.set20 hP h)) (as_cons (a_att (r_v rfl) (Z.set0 hP h2)) (as_cons (a_att (r_v rfl) (Z.set2 hP h3)) as_nil))))) xs_nil)) (xs_rt (hret _)))) ?_ ?_
    · simp [gapAt]
    · simp [gapAt]
  · have e1 : decide ([c] = [10]) = false := by simp [c1]
    by_cases c2 : c = 32
    · subst c2
      refine fin _ _ (xs_cons s1 (xs_cons (x_if_f (heq 10 S (by omega)) (t_bl e1) (xs_cons (x_if_t (heq 32 S (by omega)) (t_bl (by simp)) (xs_cons (x_ex (r_meth (r_v rfl) (obj_at' h) rfl (by rw [hP]; exact Z.me21) (rs_cons r_c rs_nil)
        (by rw [hP, Z.d 33 _ (by omega) (by omega), Z.m2 33 (by decide)]; rfl) (by rw [hP, Z.d 33 _ (by omega) (by omega)]; exact hskip 1))) xs_nil)) xs_nil)) (xs_rt (hret _)))) ?_ ?_
      · simp [gapAt]
      · simp [gapAt]
    · have e2 : decide ([c] = [32]) = false := by simp [c2]
      by_cases c3 : c = 35
      · subst c3
        have hsl : ev E (.slD false (.att (.v 0) 19) (.some (.att (.v 0) 20)) .none) [some (.ref n), some (.str (sl [35]))] S = .ok (.str (sl (l.drop p))) S := by
          refine r_sl (Z.text hP rfl h) (rO_some (Z.at_ hP rfl h)) rO_none rfl ?_
          show (if (sl l).length ≤ sizeLine then some (D.str (L2.cutS (sl l) (some (p : Int)) none)) else none) = _
          rw [sl_len, if_pos hz, cut_sl]
          have hp : p < l.length := (List.getElem?_eq_some_iff.mp hc).1
          rw [sIx_some (by omega) (by omega)]
          have : HT.sIx l.length l.length none = l.length := rfl
          rw [this, Int.toNat_natCast]
          congr 3
          rw [List.take_of_length_le]
          simp
        have hsp : ev E (.mk false (.split (.slD false (.att (.v 0) 19) (.some (.att (.v 0) 20)) .none) (.c (.str (sl [10]))))) [some (.ref n), some (.str (sl [35]))] S = .ok (.lst ((splitL 10 (l.drop p)).map fun w => .str (sl w))) S := by
          refine r_mkv (q := .lst ((splitL 10 (l.drop p)).map fun w => .str (sl w))) ?_
          rw [evC, hsl]
          simp only [Rs.bind_ok, ev]
          have hd : (l.drop p).length ≤ 100000 := by simp; omega
          rw [if_pos]
          · rw [split_one _ _ (by omega)]
            simp
          · rw [sl_len, sl_len]
            simp only [List.length_singleton, Bool.and_eq_true, decide_eq_true_eq]
            refine ⟨by decide, ?_⟩
            have : sizeLine = 16777216 := rfl
            omega
        have hlen : ev E (.o1 .len (.o2 .idx (.mk false (.split (.slD false (.att (.v 0) 19) (.some (.att (.v 0) 20)) .none) (.c (.str (sl [10]))))) (.c (.int 0)))) [some (.ref n), some (.str (sl [35]))] S = .ok (.int ((rest (l.drop p)).length : Nat)) S := by
          refine r_o1 (r_o2 hsp r_c (o_idx (z := .str (sl (rest (l.drop p)))) rfl (by decide) ?_)) ?_
          · rw [show (0 : Int).toNat = 0 from rfl, List.getElem?_map, splitL_head]
            rfl
          · rw [o_lenS, sl_len]
            rw [sl_len]
            have : (rest (l.drop p)).length ≤ (l.drop p).length := List.Sublist.length_le (List.takeWhile_sublist _)
            simp at this
            omega
        have e3 : ([35] : List Nat) = [35] := rfl
        refine fin _ _ (xs_cons s1 (xs_cons (x_if_f (heq 10 S (by omega)) (t_bl e1) (xs_cons (x_if_f (heq 32 S (by omega)) (t_bl e2) (xs_cons (x_if_t (heq 35 S (by omega)) (t_bl (by simp)) (xs_cons (x_ex (r_meth (r_v rfl) (obj_at' h) rfl (by rw [hP]; exact Z.me21) (rs_cons hlen rs_nil)
          (by rw [hP, Z.d 33 _ (by omega) (by omega), Z.m2 33 (by decide)]; rfl) (by rw [hP, Z.d 33 _ (by omega) (by omega)]; exact hskip _))) xs_nil)) xs_nil)) xs_nil)) (xs_rt (hret _)))) ?_ ?_
        · simp [gapAt]
        · simp [gapAt]
      · have e3 : decide ([c] = [35]) = false := by simp [c3]
        refine fin _ _ (xs_cons s1 (xs_cons (x_if_f (heq 10 S (by omega)) (t_bl e1) (xs_cons (x_if_f (heq 32 S (by omega)) (t_bl e2) (xs_cons (x_if_f (heq 35 S (by omega)) (t_bl e3) xs_nil) xs_nil)) xs_nil)) (xs_rt (hret _)))) ?_ ?_
        · simp [gapAt, c1, c2, c3]
        · simp [gapAt, c1, c2, c3]
def wordAt (l : List Nat) (p c : Nat) : List Nat := if isRun c then (l.drop p).takeWhile isRun else [c]
def kindAt (l : List Nat) (p c : Nat) : Option (List Nat) := if isRun c then kindR ((l.drop p).takeWhile isRun) else if [c] ∈ signsL then some nSign else none
def rowD (kd w : List Nat) (ln co : Int) : D := .tup [.str (sl kd), .str (sl w), .tup [.int ln, .int co]]
theorem takeWhile_get {q : Nat → Bool} : ∀ {l : List Nat} {i : Nat}, i < (l.takeWhile q).length → ∃ c, l[i]? = some c ∧ q c = true
  | [], i, h => by simp at h
  | x :: xs, i, h => by
    by_cases hx : q x = true
    · rw [List.takeWhile_cons_of_pos hx] at h
      cases i with
      | zero => exact ⟨x, rfl, hx⟩
      | succ i =>
        obtain ⟨c, h1, h2⟩ := takeWhile_get (l := xs) (i := i) (by simpa using h)
        exact ⟨c, by simpa using h1, h2⟩
    · rw [List.takeWhile_cons_of_neg hx] at h
      simp at h
theorem takeWhile_end {q : Nat → Bool} : ∀ {l : List Nat}, l[(l.takeWhile q).length]? = none ∨ ∃ c, l[(l.takeWhile q).length]? = some c ∧ q c = false
  | [] => by simp
  | x :: xs => by
    by_cases hx : q x = true
    · rw [List.takeWhile_cons_of_pos hx]
      rcases takeWhile_end (q := q) (l := xs) with h | ⟨c, h1, h2⟩
      · exact .inl (by simpa using h)
      · exact .inr ⟨c, by simpa using h1, h2⟩
    · rw [List.takeWhile_cons_of_neg hx]
      exact .inr ⟨x, rfl, by simpa using hx⟩
theorem take_takeWhile {q : Nat → Bool} : ∀ (l : List Nat), l.take (l.takeWhile q).length = l.takeWhile q
  | [] => rfl
  | x :: xs => by
    by_cases hx : q x = true
    · rw [List.takeWhile_cons_of_pos hx]; simp [take_takeWhile xs]
    · rw [List.takeWhile_cons_of_neg hx]; rfl
theorem TokF.token (Z : TokF G) {p ln co c : Nat} (hl : l.length ≤ 100000) (hok : okT l) (h : cellOf S n = some (scO l p ln co)) (hc : l[p]? = some c) :
    fnk G (k + 3) 35 [.ref n] S = (match kindAt l p c with
      | some kd => .ok (rowD kd (wordAt l p c) ln co) (S.set n (some (scO l (p + (wordAt l p c).length : Nat) ln (co + (wordAt l p c).length : Nat))))
      | none => .exc 2 [2, 0] [.int co, .int ln] S) := by
  rw [fnk_plain Z.f35 rfl rfl]
  show bodyOf (execs _ _ EVU.b35 [some (.ref n), none, none, none, none] S) = _
  generalize hE : (⟨G.P, fnk G (k + 2), fnT G (k + 2), none, none⟩ : Ec) = E
  have hP : E.P = G.P := by rw [← hE]
  have hn := cellOf_lt h
  have hz : l.length ≤ sizeLine := Nat.le_trans hl (by decide)
  have hp : p < l.length := (List.getElem?_eq_some_iff.mp hc).1
  have hd0 : (l.drop p)[0]? = some c := by rw [List.getElem?_drop]; simpa using hc
  have hm : ((l.drop p).takeWhile isRun).length ≤ (l.drop p).length := List.Sublist.length_le (List.takeWhile_sublist _)
  have hm2 : p + ((l.drop p).takeWhile isRun).length ≤ l.length := by simp at hm; omega
  generalize hM : ((l.drop p).takeWhile isRun).length = m at hm2
  have s1 : exec E G.sub (.par [3, 4] (.cons (.tup (.cons (.att (.v 0) 0) (.cons (.att (.v 0) 2) .nil))) (.cons (.c (.int 0)) .nil))) [some (.ref n), none, none, none, none] S = .fl (.nx [some (.ref n), none, none, some (.tup [.int ln, .int co]), some (.int 0)]) S :=
    x_par (rs_cons (r_tup (rs_cons (Z.line hP rfl h) (rs_cons (Z.col hP rfl h) rs_nil)) (Nat.le_of_ble_eq_true rfl)) (rs_cons r_c rs_nil)) rfl
  have hlen : ∀ ρ : Env', ρ[0]? = some (some (.ref n)) → ev E (.o1 .len (.att (.v 0) 19)) ρ S = .ok (.int (l.length : Nat)) S := fun ρ h0 => by
    have e : o1 S .len (.str (sl l)) = some (.int (l.length : Nat)) := by rw [o_lenS (by rw [sl_len]; exact hz), sl_len]
    exact r_o1 (Z.text hP h0 h) e
  have hadd : ∀ (ρ : Env') (i : Nat), ρ[0]? = some (some (.ref n)) → ρ[4]? = some (some (.int i)) → ev E (.addD false (.att (.v 0) 20) (.v 4)) ρ S = .ok (.int (p + i)) S := fun ρ i h0 h4 => r_addX (Z.at_ hP h0 h) (r_v h4) add_int
  have hlt : ∀ (ρ : Env') (i : Nat), ρ[0]? = some (some (.ref n)) → ρ[4]? = some (some (.int i)) → ev E (.o2 .lt (.addD false (.att (.v 0) 20) (.v 4)) (.o1 .len (.att (.v 0) 19))) ρ S = .ok (.bl (decide ((p : Int) + i < (l.length : Nat)))) S := fun ρ i h0 h4 => r_o2 (hadd ρ i h0 h4) (hlen ρ h0) rfl
  have hrun : ∀ (ρ : Env') (i x : Nat), ρ[0]? = some (some (.ref n)) → ρ[4]? = some (some (.int i)) → l[p + i]? = some x → ev E (.call 27 (.cons (.o2 .idx (.att (.v 0) 19) (.addD false (.att (.v 0) 20) (.v 4))) .nil)) ρ S = .ok (.bl (isRun x)) S := fun ρ i x h0 h4 hx =>
    r_call0 (rs_cons (r_o2 (Z.text hP h0 h) (hadd ρ i h0 h4) (o_sign (by omega) (by rw [show ((p : Int) + i).toNat = p + i by omega]; exact hx) hz)) rs_nil) (by rw [hP]; exact Z.d _ _ (by omega) (by omega)) (by rw [hP, Z.m1 27 (by decide)]; rfl) (by rw [← hE]; exact Z.run x)
  obtain ⟨ρ2, S2, hw, e2, e3⟩ := whileL_up (c := fun ρ S => (ev E (.and_ (.o2 .lt (.addD false (.att (.v 0) 20) (.v 4)) (.o1 .len (.att (.v 0) 19))) (.call 27 (.cons (.o2 .idx (.att (.v 0) 19) (.addD false (.att (.v 0) 20) (.v 4))) .nil))) ρ S).bind fun x S1 => Rs.of S1 (truth S1 x))
    (b := fun ρ S => execs E G.sub (.cons (.augv 4 .add (.c (.int 1))) .nil) ρ S) (fun i ρ S' => S' = S ∧ ρ = [some (.ref n), none, none, some (.tup [.int ln, .int co]), some (.int i)]) m (by
      rintro i ρ S' hi ⟨rfl, rfl⟩
      obtain ⟨x, hx, hr⟩ := takeWhile_get (q := isRun) (l := l.drop p) (i := i) (by omega)
      rw [List.getElem?_drop] at hx
      have hpi := (List.getElem?_eq_some_iff.mp hx).1
      refine ⟨S', _, _, c_of (r_and_t (hlt _ i rfl rfl) (t_bl (decide_eq_true (by omega))) (hrun _ i x rfl rfl hx)) (t_bl hr), xs_cons (x_augv rfl r_c (z := .int (i + 1)) rfl (by simp)) xs_nil, rfl, ?_⟩
      simp) (fun ρ S' => S' = S ∧ ρ = [some (.ref n), none, none, some (.tup [.int ln, .int co]), some (.int m)]) (by
      rintro ρ S' ⟨rfl, rfl⟩
      rcases takeWhile_end (q := isRun) (l := l.drop p) with hx | ⟨x, hx, hr⟩
      · rw [hM, List.getElem?_drop, List.getElem?_eq_none_iff] at hx
        exact ⟨S', c_of (r_and_f (hlt _ m rfl rfl) (t_bl (decide_eq_false (by omega)))) (t_bl (decide_eq_false (by omega))), rfl, rfl⟩
      · rw [hM, List.getElem?_drop] at hx
        have hpi := (List.getElem?_eq_some_iff.mp hx).1
        exact ⟨S', c_of (r_and_t (hlt _ m rfl rfl) (t_bl (decide_eq_true (by omega))) (hrun _ m x rfl rfl hx)) (t_bl hr), rfl, rfl⟩) 0 wFuel [some (.ref n), none, none, some (.tup [.int ln, .int co]), some (.int 0)] S (Nat.zero_le _) (by show m - 0 < 1000000; omega) ⟨rfl, rfl⟩
  subst e2 e3
  have hmax : (p : Int) + (if (m : Int) > 1 then (m : Int) else 1) = ((p + max 1 m : Nat) : Int) := by
    by_cases q : (m : Int) > 1
    · rw [if_pos q]; omega
    · rw [if_neg q]; omega
  have hword : (l.drop p).take (max 1 m) = wordAt l p c := by
    unfold wordAt
    by_cases hr : isRun c = true
    · rw [if_pos hr]
      have h1 : 1 ≤ m := by
        rw [← hM]
        cases hq : l.drop p with
        | nil => rw [hq] at hd0; cases hd0
        | cons y ys =>
          rw [hq] at hd0
          cases hd0
          rw [List.takeWhile_cons_of_pos hr]
          simp
      rw [Nat.max_eq_right h1, ← hM, take_takeWhile]
    · rw [if_neg hr]
      have h0 : m = 0 := by
        rw [← hM]
        cases hq : l.drop p with
        | nil => rfl
        | cons y ys =>
          rw [hq] at hd0
          cases hd0
          rw [List.takeWhile_cons_of_neg hr]
          rfl
      subst h0
      cases hq : l.drop p with
      | nil => rw [hq] at hd0; cases hd0
      | cons y ys =>
        rw [hq] at hd0
        cases hd0
        rfl
  generalize hW : wordAt l p c = w at hword
  have hwlen : w.length = max 1 m := by
    rw [← hword, List.length_take, List.length_drop]
    have : 1 ≤ l.length - p := by omega
    omega
  have hwok : okT w := fun x hx => by
    rw [← hword] at hx
    exact hok x (List.mem_of_mem_drop (List.mem_of_mem_take hx))
  have hsl : ev E (.slD false (.att (.v 0) 19) (.some (.att (.v 0) 20)) (.some (.addD false (.att (.v 0) 20) (.o2 .max2 (.c (.int 1)) (.v 4))))) [some (.ref n), none, none, some (.tup [.int ln, .int co]), some (.int m)] S2 = .ok (.str (sl w)) S2 := by
    refine r_sl (Z.text hP rfl h) (rO_some (Z.at_ hP rfl h)) (rO_some (r_addX (Z.at_ hP rfl h) (r_o2 r_c (r_v rfl) rfl) add_int)) rfl ?_
    show (if (sl l).length ≤ sizeLine then some (D.str (L2.cutS (sl l) (some (p : Int)) (some ((p : Int) + if (m : Int) > 1 then (m : Int) else 1)))) else none) = _
    rw [sl_len, if_pos hz, cut_sl, hmax, sIx_some (by omega) (by omega), sIx_some (by omega) (by omega), Int.toNat_natCast, Int.toNat_natCast, ← hword]
    congr 3
    congr 1
    omega
  have s3 : exec E G.sub (.asg (.v 1) (.slD false (.att (.v 0) 19) (.some (.att (.v 0) 20)) (.some (.addD false (.att (.v 0) 20) (.o2 .max2 (.c (.int 1)) (.v 4)))))) [some (.ref n), none, none, some (.tup [.int ln, .int co]), some (.int m)] S2 = .fl (.nx [some (.ref n), some (.str (sl w)), none, some (.tup [.int ln, .int co]), some (.int m)]) S2 := x_asg hsl (a_v (by simp))
  have hkd : ev E (.ite (.o2 .gt (.v 4) (.c (.int 0))) (.call 29 (.cons (.v 1) .nil)) (.ite (.o2 .in_ (.v 1) (.g 1)) (.c (.str ⟨#[115, 105, 103, 110]⟩)) (.c .non))) [some (.ref n), some (.str (sl w)), none, some (.tup [.int ln, .int co]), some (.int m)] S2 = .ok (optS (kindAt l p c)) S2 := by
    have hgt : ev E (.o2 .gt (.v 4) (.c (.int 0))) [some (.ref n), some (.str (sl w)), none, some (.tup [.int ln, .int co]), some (.int m)] S2 = .ok (.bl (decide ((0 : Int) < m))) S2 := r_o2 (r_v rfl) r_c rfl
    by_cases hr : isRun c = true
    · have hw2 : w = (l.drop p).takeWhile isRun := by rw [← hW]; unfold wordAt; rw [if_pos hr]
      have h1 : 0 < m := by
        rw [← hM, ← hw2]
        omega
      have hne : w ≠ [] := fun e => by rw [e] at hwlen; simp at hwlen; omega
      refine r_ite_t hgt (t_bl (decide_eq_true (by omega))) (r_call0 (rs_cons (r_v rfl) rs_nil) (by rw [hP]; exact Z.d _ _ (by omega) (by omega)) (by rw [hP, Z.m1 29 (by decide)]; rfl) ?_)
      rw [← hE]
      have hwl : w.length ≤ sizeLine := by rw [hwlen]; have : sizeLine = 16777216 := rfl; omega
      show fnk G (k + 2) 29 [.str (sl w)] S2 = _
      rw [Z.kind hwok hne hwl]
      unfold kindAt
      rw [if_pos hr, hw2]
    · have hw2 : w = [c] := by rw [← hW]; unfold wordAt; rw [if_neg hr]
      have h0 : ¬ (0 : Int) < m := by
        have : max 1 m = 1 := by rw [← hwlen, hw2]; rfl
        have h2 : m = 0 := by
          rw [← hM]
          cases hq : l.drop p with
          | nil => rfl
          | cons y ys =>
            rw [hq] at hd0
            cases hd0
            rw [List.takeWhile_cons_of_neg hr]
            rfl
        omega
      subst hw2
      have hin : ev E (.o2 .in_ (.v 1) (.g 1)) [some (.ref n), some (.str (sl [c])), none, some (.tup [.int ln, .int co]), some (.int m)] S2 = .ok (.bl (decide ([c] ∈ signsL))) S2 := r_o2 (r_v rfl) (r_g (by rw [hP]; exact Z.g1)) (o_inT hwok (by decide +kernel))
      unfold kindAt
      rw [if_neg hr]
      by_cases hs : [c] ∈ signsL
      · rw [if_pos hs]
        exact r_ite_f hgt (t_bl (decide_eq_false h0)) (r_ite_t hin (t_bl (decide_eq_true hs)) r_c)
      · rw [if_neg hs]
        exact r_ite_f hgt (t_bl (decide_eq_false h0)) (r_ite_f hin (t_bl (decide_eq_false hs)) r_c)
  have s4 : exec E G.sub (.asg (.v 2) (.ite (.o2 .gt (.v 4) (.c (.int 0))) (.call 29 (.cons (.v 1) .nil)) (.ite (.o2 .in_ (.v 1) (.g 1)) (.c (.str ⟨#[115, 105, 103, 110]⟩)) (.c .non)))) [some (.ref n), some (.str (sl w)), none, some (.tup [.int ln, .int co]), some (.int m)] S2 = .fl (.nx [some (.ref n), some (.str (sl w)), some (optS (kindAt l p c)), some (.tup [.int ln, .int co]), some (.int m)]) S2 := x_asg hkd (a_v (by simp))
  have s2 := x_while (sub := G.sub) hw
  unfold EVU.b35
  cases hk : kindAt l p c with
  | none =>
    rw [hk] at s4
    rw [xs_cons s1 (xs_cons s2 (xs_cons s3 (xs_cons s4 (xs_exc (x_if_t (r_o2 (r_v rfl) r_c rfl) (t_tr rfl) (xs_exc (x_raise (rs_cons (Z.line hP rfl h) (rs_cons (Z.col hP rfl h) rs_nil)) (by rw [hP]; exact Z.exf) rfl)))))))]
    rfl
  | some kd =>
    rw [hk] at s4
    have hlw : ∀ ρ : Env', ρ[1]? = some (some (.str (sl w))) → ev E (.o1 .len (.v 1)) ρ S2 = .ok (.int (w.length : Nat)) S2 := fun ρ h1 => by
      have e : o1 S2 .len (.str (sl w)) = some (.int (w.length : Nat)) := by rw [o_lenS (by rw [sl_len, hwlen]; have : sizeLine = 16777216 := rfl; omega), sl_len]
      exact r_o1 (r_v h1) e
    have hsk : E.fn 33 [.ref n, .int (w.length : Nat)] S2 = .ok .non (S2.set n (some (scO l ((p : Int) + (w.length : Nat)) ln ((co : Int) + (w.length : Nat))))) := by rw [← hE]; exact Z.skip h
    rw [xs_cons s1 (xs_cons s2 (xs_cons s3 (xs_cons s4 (xs_cons (x_if_f (r_o2 (r_v rfl) r_c rfl) (t_fa rfl) xs_nil) (xs_cons (x_ex (r_meth (r_v rfl) (obj_at' h) rfl (by rw [hP]; exact Z.me21) (rs_cons (hlw _ rfl) rs_nil)
        (by rw [hP, Z.d 33 _ (by omega) (by omega), Z.m2 33 (by decide)]; rfl) (by rw [hP, Z.d 33 _ (by omega) (by omega)]; exact hsk))) (xs_rt (x_ret (r_tup (rs_cons (r_v rfl) (rs_cons (r_v rfl) (rs_cons (r_v rfl) rs_nil))) (Nat.le_of_ble_eq_true rfl)))))))))]
    simp only [bodyOf, Int.natCast_add]
    rfl
end
end
/-! ### all tokens -/
def endRow (ln co : Int) : D := rowD nEnd [] ln co
/-- the rows from the place p on, or where it is wrong -/
def scan (l : List Nat) : Nat → Nat → Nat → Nat → List D → List D ⊕ (Nat × Nat)
  | 0, _, _, _, acc => .inl acc
  | n + 1, p, ln, co, acc => match l[p]? with
    | none => .inl (acc ++ [endRow ln co])
    | some c => match gapAt l p ln co c with
      | some (p', ln', co') => scan l n p' ln' co' acc
      | none => match kindAt l p c with
        | some kd => scan l n (p + (wordAt l p c).length) ln (co + (wordAt l p c).length) (acc ++ [rowD kd (wordAt l p c) ln co])
        | none => .inr (ln, co)
theorem rest_pos {l : List Nat} {p c : Nat} (h : l[p]? = some c) (hc : c ≠ 10) : 0 < (rest (l.drop p)).length := by
  have h0 : (l.drop p)[0]? = some c := by rw [List.getElem?_drop]; simpa using h
  cases hq : l.drop p with
  | nil => rw [hq] at h0; cases h0
  | cons y ys =>
    rw [hq] at h0
    cases h0
    unfold rest
    rw [List.takeWhile_cons_of_pos (by simpa using hc)]
    simp
theorem rest_le {l : List Nat} {p : Nat} : (rest (l.drop p)).length ≤ l.length - p := by
  have : (rest (l.drop p)).length ≤ (l.drop p).length := List.Sublist.length_le (List.takeWhile_sublist _)
  simpa using this
theorem gap_lt {l : List Nat} {p ln co c p' ln' co' : Nat} (h : l[p]? = some c) (hg : gapAt l p ln co c = some (p', ln', co')) : p < p' ∧ p' ≤ l.length := by
  have hp := (List.getElem?_eq_some_iff.mp h).1
  have hr := rest_le (l := l) (p := p)
  unfold gapAt at hg
  by_cases h1 : c = 10
  · rw [if_pos h1] at hg; cases hg; omega
  · rw [if_neg h1] at hg
    have hq := rest_pos h h1
    by_cases h2 : c = 32
    · rw [if_pos h2] at hg; cases hg; omega
    · rw [if_neg h2] at hg
      by_cases h3 : c = 35
      · rw [if_pos h3] at hg; cases hg; omega
      · rw [if_neg h3] at hg; cases hg
theorem word_lt {l : List Nat} {p c : Nat} (h : l[p]? = some c) : 0 < (wordAt l p c).length ∧ p + (wordAt l p c).length ≤ l.length := by
  have hp := (List.getElem?_eq_some_iff.mp h).1
  have h0 : (l.drop p)[0]? = some c := by rw [List.getElem?_drop]; simpa using h
  unfold wordAt
  by_cases hr : isRun c = true
  · rw [if_pos hr]
    have h2 : ((l.drop p).takeWhile isRun).length ≤ (l.drop p).length := List.Sublist.length_le (List.takeWhile_sublist _)
    have h3 : 0 < ((l.drop p).takeWhile isRun).length := by
      cases hq : l.drop p with
      | nil => rw [hq] at h0; cases h0
      | cons y ys =>
        rw [hq] at h0
        cases h0
        rw [List.takeWhile_cons_of_pos hr]
        simp
    simp at h2
    omega
  · rw [if_neg hr]
    simp
    omega
/-- enough turns are enough -/
theorem scan_fuel (l : List Nat) : ∀ (n m p ln co : Nat) (acc : List D), p ≤ l.length → l.length - p < n → l.length - p < m → scan l n p ln co acc = scan l m p ln co acc
  | 0, _, _, _, _, _, _, h, _ => absurd h (by omega)
  | _, 0, _, _, _, _, _, _, h => absurd h (by omega)
  | n + 1, m + 1, p, ln, co, acc, hp, hn, hm => by
    unfold scan
    cases h : l[p]? with
    | none => rfl
    | some c =>
      simp only
      have hlt := (List.getElem?_eq_some_iff.mp h).1
      cases hg : gapAt l p ln co c with
      | some t =>
        obtain ⟨p', ln', co'⟩ := t
        have := gap_lt h hg
        exact scan_fuel l n m p' ln' co' acc (by omega) (by omega) (by omega)
      | none =>
        simp only
        have := word_lt h
        cases hk : kindAt l p c with
        | none => rfl
        | some kd => exact scan_fuel l n m _ _ _ _ (by omega) (by omega) (by omega)
def scanAll (l : List Nat) : List D ⊕ (Nat × Nat) := scan l (l.length + 1) 0 1 1 []
theorem scan_len {l : List Nat} : ∀ (n p ln co : Nat) (acc rows : List D), scan l n p ln co acc = .inl rows → rows.length ≤ acc.length + n
  | 0, p, ln, co, acc, rows, h => by cases h; omega
  | n + 1, p, ln, co, acc, rows, h => by
    unfold scan at h
    split at h
    · cases h; simp
    · split at h
      · have := scan_len n _ _ _ _ _ h; omega
      · split at h
        · have := scan_len n _ _ _ _ _ h
          simp at this
          omega
        · cases h
theorem lowD_row {kd w : List Nat} {ln co : Int} : lowD 0 (rowD kd w ln co) = true := rfl
theorem lowDs_app {n : Nat} : ∀ {a b : List D}, lowDs n a = true → lowDs n b = true → lowDs n (a ++ b) = true
  | [], _, _, h => h
  | d :: a, b, h1, h2 => by
    have h : lowD n d = true ∧ lowDs n a = true := by simpa [lowDs] using h1
    show (lowD n d && lowDs n (a ++ b)) = true
    rw [h.1, lowDs_app h.2 h2]
    rfl
section
variable {G : Prog} {k : Nat} {S : Store}
theorem TokF.init (Z : TokF G) {n : Nat} {l : List Nat} (h : cellOf S n = some (.obj 20 [] [])) : fnk G (k + 1) 31 [.ref n, .str (sl l)] S = .ok .non (S.set n (some (scO l 0 1 1))) := by
  rw [fnk_plain Z.f31 rfl rfl]
  show bodyOf (execs _ _ EVU.b31 [some (.ref n), some (.str (sl l))] S) = _
  have hn := cellOf_lt h
  have h1 : cellOf (S.set n (some (.obj 20 [19] [.str (sl l)]))) n = some (.obj 20 [19] [.str (sl l)]) := cellOf_set hn
  have h2 : cellOf ((S.set n (some (.obj 20 [19] [.str (sl l)]))).set n (some (.obj 20 [19, 20] [.str (sl l), .int 0]))) n = some (.obj 20 [19, 20] [.str (sl l), .int 0]) := cellOf_set (by simpa using hn)
  have h3 : cellOf (((S.set n (some (.obj 20 [19] [.str (sl l)]))).set n (some (.obj 20 [19, 20] [.str (sl l), .int 0]))).set n (some (.obj 20 [19, 20, 0] [.str (sl l), .int 0, .int 1]))) n = some (.obj 20 [19, 20, 0] [.str (sl l), .int 0, .int 1]) := cellOf_set (by simpa using hn)
  generalize hE : (⟨G.P, fnk G k, fnT G k, none, none⟩ : Ec) = E
  have hP : E.P = G.P := by rw [← hE]
  have t1 : exec E G.sub (.asg (.att (.v 0) 19) (.v 1)) [some (.ref n), some (.str (sl l))] S = .fl (.nx [some (.ref n), some (.str (sl l))]) (S.set n (some (.obj 20 [19] [.str (sl l)]))) := x_asg (r_v rfl) (a_att (r_v rfl) (setF_of h (Z.fk hP (by decide)) (by decide)))
  have t2 : exec E G.sub (.asg (.att (.v 0) 20) (.c (.int 0))) [some (.ref n), some (.str (sl l))] _ = .fl (.nx [some (.ref n), some (.str (sl l))]) ((S.set n (some (.obj 20 [19] [.str (sl l)]))).set n (some (.obj 20 [19, 20] [.str (sl l), .int 0]))) := x_asg r_c (a_att (r_v rfl) (setF_of h1 (Z.fk hP (by decide)) (by decide)))
  have t3 : exec E G.sub (.asg (.att (.v 0) 0) (.c (.int 1))) [some (.ref n), some (.str (sl l))] _ = .fl (.nx [some (.ref n), some (.str (sl l))]) (((S.set n (some (.obj 20 [19] [.str (sl l)]))).set n (some (.obj 20 [19, 20] [.str (sl l), .int 0]))).set n (some (.obj 20 [19, 20, 0] [.str (sl l), .int 0, .int 1]))) := x_asg r_c (a_att (r_v rfl) (setF_of h2 (Z.fk hP (by decide)) (by decide)))
  have t4 : exec E G.sub (.asg (.att (.v 0) 2) (.c (.int 1))) [some (.ref n), some (.str (sl l))] _ = .fl (.nx [some (.ref n), some (.str (sl l))]) ((((S.set n (some (.obj 20 [19] [.str (sl l)]))).set n (some (.obj 20 [19, 20] [.str (sl l), .int 0]))).set n (some (.obj 20 [19, 20, 0] [.str (sl l), .int 0, .int 1]))).set n (some (scO l 0 1 1))) := x_asg r_c (a_att (r_v rfl) (setF_of h3 (Z.fk hP (by decide)) (by decide)))
  unfold EVU.b31
  rw [xs_cons t1 (xs_cons t2 (xs_cons t3 (xs_cons t4 xs_nil)))]
  simp only [bodyOf, List.set_set]
theorem TokF.tokens (Z : TokF G) {l : List Nat} (hl : l.length ≤ 100000) (hok : okT l) : fnk G (k + 4) 36 [.str (sl l)] S = (match scanAll l with
    | .inl rows => .ok (.tup rows) S
    | .inr (ln, co) => .exc 2 [2, 0] [.int co, .int ln] S) := by
  rw [fnk_pure Z.f36 rfl rfl (out_low (n := 0) rfl)]
  show pureOut S true (bodyOf (execs _ _ EVU.b36 [some (.str (sl l)), none, none] [])) = _
  generalize hE : (⟨G.P, fnk G (k + 3), fnT G (k + 3), none, none⟩ : Ec) = E
  have hP : E.P = G.P := by rw [← hE]
  have hz : l.length ≤ sizeLine := Nat.le_trans hl (by decide)
  have hz2 : (100001 : Nat) < sizeLine := by decide
  have s1 : exec E G.sub (.if_ (.not_ (.isi (.v 0) [.str])) (.cons (.raise 2 (.cons (.c (.int 0)) (.cons (.c (.int 0)) .nil))) .nil) .nil) [some (.str (sl l)), none, none] [] = .fl (.nx [some (.str (sl l)), none, none]) [] :=
    x_if_f (r_not (r_isi (r_v rfl) (tg := .str) rfl rfl) (t_bl rfl)) (t_bl rfl) xs_nil
  have hi : E.fn 31 [.ref 0, .str (sl l)] [some (.obj 20 [] [])] = .ok .non [some (scO l 0 1 1)] := by rw [← hE]; exact Z.init rfl
  have s2 : exec E G.sub (.par [1, 2] (.cons (.new 20 (.cons (.v 0) .nil)) (.cons (.mk true (.disp .nil)) .nil))) [some (.str (sl l)), none, none] [] = .fl (.nx [some (.str (sl l)), some (.ref 0), some (.ref 1)]) [some (scO l 0 1 1), some (.lst [])] :=
    x_par (rs_cons (r_new (rs_cons (r_v rfl) rs_nil) (by rw [hP]; exact Z.ini) (by rw [hP, Z.d 31 _ (by omega) (by omega), Z.m2 31 (by decide)]; rfl) (by rw [hP, Z.d 31 _ (by omega) (by omega)]; exact hi)) (rs_cons (r_mkl (rC_disp rs_nil (Nat.zero_le _))) rs_nil)) rfl
  have hover : ∀ (p ln co : Nat) (acc : List D), ev E (.not_ (.meth (.v 1) 22 .nil)) [some (.str (sl l)), some (.ref 0), some (.ref 1)] [some (scO l p ln co), some (.lst acc)] = .ok (.bl (!decide ((p : Int) = (l.length : Nat)))) [some (scO l p ln co), some (.lst acc)] := fun p ln co acc =>
    r_not (r_meth (r_v rfl) (obj_at' rfl) rfl (by rw [hP]; exact Z.me22) rs_nil (by rw [hP, Z.d 32 _ (by omega) (by omega), Z.m1 32 (by decide)]; rfl) (by rw [hP, Z.d 32 _ (by omega) (by omega), ← hE]; exact Z.over rfl hz)) (t_bl rfl)
  have key := whileL_lt (c := fun ρ S => (ev E (.not_ (.meth (.v 1) 22 .nil)) ρ S).bind fun x S1 => Rs.of S1 (truth S1 x))
    (b := fun ρ S => execs E G.sub (.cons (.if_ (.not_ (.meth (.v 1) 23 .nil)) (.cons (.ex (.mut .append (.v 2) (.cons (.meth (.v 1) 25 .nil) .nil))) .nil) .nil) .nil) ρ S)
    (fun i ρ S => ∃ (p ln co : Nat) (acc : List D), ρ = [some (.str (sl l)), some (.ref 0), some (.ref 1)] ∧ S = [some (scO l p ln co), some (.lst acc)] ∧ p + i = l.length ∧ acc.length ≤ p ∧ lowDs 0 acc = true ∧ scan l (l.length + 1) p ln co acc = scanAll l)
    (fun ro => (∃ (p ln co : Nat) (acc : List D), ro = .fl (.nx [some (.str (sl l)), some (.ref 0), some (.ref 1)]) [some (scO l p ln co), some (.lst acc)] ∧ acc.length ≤ l.length ∧ lowDs 0 acc = true ∧ scanAll l = .inl (acc ++ [endRow ln co])) ∨ ∃ (ln co : Nat) (ρ' : Env') (S' : Store), ro = .exc ρ' 2 [2, 0] [.int co, .int ln] S' ∧ scanAll l = .inr (ln, co)) (by
      rintro i ρ S' ⟨p, ln, co, acc, rfl, rfl, hp, ha, hlow, hsc⟩
      by_cases hi : i = 0
      · subst hi
        have hpl : p = l.length := by omega
        refine .inl ⟨_, c_of (hover p ln co acc) (t_bl (by rw [hpl]; simp)), .inl ⟨p, ln, co, acc, rfl, by omega, hlow, ?_⟩⟩
        rw [← hsc, scan, List.getElem?_eq_none (by omega)]
      · have hpl : p < l.length := by omega
        have hc : l[p]? = some l[p] := List.getElem?_eq_getElem hpl
        refine .inr ⟨_, c_of (hover p ln co acc) (t_bl (by rw [decide_eq_false (by omega)]; rfl)), ?_⟩
        generalize l[p] = c at hc
        have hgap : ev E (.not_ (.meth (.v 1) 23 .nil)) [some (.str (sl l)), some (.ref 0), some (.ref 1)] [some (scO l p ln co), some (.lst acc)] = .ok (.bl (!(gapAt l p ln co c).isSome)) (match gapAt l p ln co c with
          | some (p', ln', co') => [some (scO l p' ln' co'), some (.lst acc)]
          | none => [some (scO l p ln co), some (.lst acc)]) := by
          refine r_not (r_meth (r_v rfl) (obj_at' rfl) rfl (by rw [hP]; exact Z.me23) rs_nil (by rw [hP, Z.d 34 _ (by omega) (by omega), Z.m1 34 (by decide)]; rfl) (by rw [hP, Z.d 34 _ (by omega) (by omega), ← hE]; exact Z.gap hl hok rfl hc)) (t_bl (b := (gapAt l p ln co c).isSome) rfl) |>.trans ?_
          · cases gapAt l p ln co c <;> rfl
        rw [scan, hc] at hsc
        simp only at hsc
        cases hg : gapAt l p ln co c with
        | some t =>
          obtain ⟨p', ln', co'⟩ := t
          rw [hg] at hgap hsc
          have hlt := gap_lt hc hg
          refine .inl ⟨_, _, l.length - p', xs_cons (x_if_f hgap (t_bl rfl) xs_nil) xs_nil, by omega, p', ln', co', acc, rfl, rfl, by omega, by omega, hlow, ?_⟩
          rw [← hsc]
          exact scan_fuel l _ _ p' ln' co' acc (by omega) (by omega) (by omega)
        | none =>
          rw [hg] at hgap hsc
          simp only at hsc
          have htok : E.fn 35 [.ref 0] [some (scO l p ln co), some (.lst acc)] = (match kindAt l p c with
            | some kd => .ok (rowD kd (wordAt l p c) ln co) [some (scO l (p + (wordAt l p c).length : Nat) ln (co + (wordAt l p c).length : Nat)), some (.lst acc)]
            | none => .exc 2 [2, 0] [.int co, .int ln] [some (scO l p ln co), some (.lst acc)]) := by
            rw [← hE]
            exact Z.token hl hok rfl hc
          have hm : ∀ r, E.fn 35 [.ref 0] [some (scO l p ln co), some (.lst acc)] = r → ev E (.meth (.v 1) 25 .nil) [some (.str (sl l)), some (.ref 0), some (.ref 1)] [some (scO l p ln co), some (.lst acc)] = r := fun r hr =>
            r_meth (r_v rfl) (obj_at' rfl) rfl (by rw [hP]; exact Z.me25) rs_nil (by rw [hP, Z.d 35 _ (by omega) (by omega), Z.m1 35 (by decide)]; rfl) (by rw [hP, Z.d 35 _ (by omega) (by omega)]; exact hr)
          have hw := word_lt hc
          cases hk : kindAt l p c with
          | none =>
            rw [hk] at htok hsc
            have e : ev E (.mut .append (.v 2) (.cons (.meth (.v 1) 25 .nil) .nil)) [some (.str (sl l)), some (.ref 0), some (.ref 1)] [some (scO l p ln co), some (.lst acc)] = .exc 2 [2, 0] [.int co, .int ln] [some (scO l p ln co), some (.lst acc)] := by
              rw [ev, r_v (d := .ref 1) rfl]
              simp only [Rs.bind_ok]
              rw [show cellOf [some (scO l p ln co), some (.lst acc)] 1 = some (.lst acc) from rfl]
              simp only [evs, hm _ htok]
              rfl
            exact .inr ⟨_, _, _, _, _, xs_exc (x_if_t hgap (t_bl rfl) (xs_exc (x_ex_exc e))), .inr ⟨ln, co, _, _, rfl, hsc.symm⟩⟩
          | some kd =>
            rw [hk] at htok hsc
            refine .inl ⟨_, _, l.length - (p + (wordAt l p c).length), xs_cons (x_if_t hgap (t_bl rfl) (xs_cons (x_ex (r_mut (r_v rfl) rfl (rs_cons (hm _ htok) rs_nil) rfl (om_append (by omega)))) xs_nil)) xs_nil, by omega, p + (wordAt l p c).length, ln, co + (wordAt l p c).length, acc ++ [rowD kd (wordAt l p c) ln co], rfl, rfl, by omega, by simp; omega, lowDs_app hlow rfl, ?_⟩
            rw [← hsc]
            exact scan_fuel l _ _ _ _ _ _ (by omega) (by omega) (by omega)) wFuel l.length [some (.str (sl l)), some (.ref 0), some (.ref 1)] [some (scO l 0 1 1), some (.lst [])] (by show l.length < 1000000; omega) ⟨0, 1, 1, [], rfl, rfl, by omega, by simp, rfl, rfl⟩
  unfold EVU.b36
  rcases key with ⟨p, ln, co, acc, hr, ha, hlow, hsc⟩ | ⟨ln, co, ρ', S', hr, hsc⟩
  · have hrow : ev E (.tup (.cons (.c (.str ⟨#[101, 110, 100]⟩)) (.cons (.c (.str ⟨#[]⟩)) (.cons (.tup (.cons (.att (.v 1) 0) (.cons (.att (.v 1) 2) .nil))) .nil)))) [some (.str (sl l)), some (.ref 0), some (.ref 1)] [some (scO l p ln co), some (.lst acc)] = .ok (endRow ln co) [some (scO l p ln co), some (.lst acc)] :=
      r_tup (rs_cons r_c (rs_cons r_c (rs_cons (r_tup (rs_cons (r_att (r_v rfl) (obj_at' rfl) (Z.fk hP (by decide)) rfl) (rs_cons (r_att (r_v rfl) (obj_at' rfl) (Z.fk hP (by decide)) rfl) rs_nil)) (Nat.le_of_ble_eq_true rfl)) rs_nil))) (Nat.le_of_ble_eq_true rfl)
    have hlow2 := lowDs_app (b := [endRow ln co]) hlow rfl
    rw [xs_cons s1 (xs_cons s2 (xs_cons (x_while hr) (xs_cons (x_ex (r_mut (r_v rfl) rfl (rs_cons hrow rs_nil) rfl (om_append (by omega)))) (xs_rt (x_ret (r_o1 (r_v rfl) (z := .tup (acc ++ [endRow ln co])) rfl))))))]
    rw [hsc]
    show pureOut S true (.ok (.tup (acc ++ [endRow ln co])) _) = _
    unfold pureOut
    simp only [outV, outF, show lowD 0 (.tup (acc ++ [endRow ln co])) = true from hlow2, if_true, Bool.true_or]
  · rw [xs_cons s1 (xs_cons s2 (xs_exc (x_while hr)))]
    rw [hsc]
    rfl
end
end EV
set_option Elab.async false
set_option linter.all false
set_option maxRecDepth 100000
set_option maxHeartbeats 4000000
/-! EV, part Lc: drawn rows and names. -/
namespace EVU
open PySem EV
/-- _law_shuffled: 2 parameters, 5 slots ['pen', 'some', 'lap', 'left', 'found'] -/
def b37 : MB := .cons (.par [3, 4] (.cons (.mk true (.lof (.v 1))) (.cons (.mk true (.disp (.nil))) (.nil)))) (.cons (.for_ (.v 2) (.range1 (.o1 .len (.v 1))) (.cons (.ex (.mut .append (.v 4) (.cons (.mut .pop1 (.v 3) (.cons (.call 19 (.cons (.v 0) (.cons (.o1 .len (.v 3)) (.nil)))) (.nil))) (.nil)))) (.nil))) (.cons (.ret (.v 4)) (.nil)))
/-- _law_name: 2 parameters, 5 slots ['pen', 'index', 'word', 'spot', 'place'] -/
def b38 : MB := .cons (.asg (.v 2) (.c (.str ⟨#[]⟩))) (.cons (.for_ (.v 3) (.range1 (.addD false (.c (.int 1)) (.call 19 (.cons (.v 0) (.cons (.c (.int 8)) (.nil)))))) (.cons (.asg (.v 2) (.addD false (.v 2) (.o2 .idx (.c (.str ⟨#[97, 98, 99, 100, 101, 102, 103, 104, 105, 106, 107, 108, 109, 110, 111, 112, 113, 114, 115, 116, 117, 118, 119, 120, 121, 122]⟩)) (.call 19 (.cons (.v 0) (.cons (.c (.int 26)) (.nil))))))) (.nil))) (.cons (.asg (.v 4) (.addD false (.c (.int 1)) (.call 19 (.cons (.v 0) (.cons (.o1 .len (.v 2)) (.nil)))))) (.cons (.ret (.addD false (.addD false (.slD false (.v 2) .none (.some (.v 4))) (.o1 .str (.v 1))) (.slD false (.v 2) (.some (.v 4)) .none))) (.nil))))
/-- _law_names: 2 parameters, 3 slots ['pen', 'many', 'index'] -/
def b39 : MB := .cons (.ret (.call 37 (.cons (.v 0) (.cons (.mk false (.comp (.call 38 (.cons (.v 0) (.cons (.v 2) (.nil)))) (.v 2) (.range1 (.v 1)) .none [2])) (.nil))))) (.nil)
/-- _law_keys: 0 parameters, 0 slots [] -/
def b41 : MB := .cons (.ret (.mk false (.disp (.cons (.c (.str ⟨#[100, 101, 101, 100]⟩)) (.cons (.c (.str ⟨#[107, 101, 112, 116]⟩)) (.cons (.c (.str ⟨#[112, 97, 115, 115, 105, 110, 103]⟩)) (.cons (.c (.str ⟨#[98, 111, 120]⟩)) (.cons (.c (.str ⟨#[112, 97, 114, 116]⟩)) (.cons (.c (.str ⟨#[115, 101, 116]⟩)) (.cons (.c (.str ⟨#[112, 111, 115, 116]⟩)) (.cons (.c (.str ⟨#[105, 102]⟩)) (.cons (.c (.str ⟨#[101, 108, 115, 101]⟩)) (.nil))))))))))))) (.nil)
end EVU
namespace EV
open PySem
local macro_rules | `(tactic| walk_at "t") => `(tactic| first
  | (refine t_tr ?_; rfl)
  | (refine t_fa ?_; rfl)
  | exact t_bl (decide_eq_true (by first | assumption | omega | (simp only [List.length_map] at *; omega)))
  | exact t_bl (decide_eq_false (by first | assumption | omega | (simp only [List.length_map] at *; omega))))
local macro_rules | `(tactic| walk_at "o") => `(tactic| first
  | exact o_eqi | exact o_nei
  | exact o_idx rfl (by first | assumption | decide | omega) (by first | assumption | exact rfl)
  | exact o_p18
  | exact o_eqb | exact o_neb
  | exact o_eqs (by first | assumption | decide) (by first | assumption | decide)
  | exact o_mulr (by decide) | exact o_mull (by decide)
  | exact o_mod (by first | decide | assumption | omega)
  | exact o_fdiv (by first | decide | assumption | omega) (by first | decide | assumption | omega)
  | exact rfl)
local macro_rules | `(tactic| walk_at "add") => `(tactic| first
  | exact add_int
  | exact add_str (by walk_at "size")
  | exact add_tup (by walk_at "size")
  | exact add_lstv rfl rfl (by walk_at "size")
  | exact add_lst rfl rfl (by walk_at "size"))
local macro_rules | `(tactic| walk_at "size") => `(tactic| first | decide | exact Nat.le_of_ble_eq_true rfl | (simp only [List.length_cons, List.length_nil, List.length_map, List.length_append, sizeLine]; omega))
local macro_rules | `(tactic| walk_at "mul") => `(tactic| first
  | exact mul_lstv rfl (by first | decide | exact rfl)
  | ((first | apply mul_int | apply mul_tup) <;> walk_at "o"))
local macro_rules | `(tactic| walk_at "es") => `(tactic| first
  | with_reducible exact rs_nil
  | ((with_reducible apply rs_cons); walk_at "e"; walk_at "es"))
local macro_rules | `(tactic| walk_at "eO") => `(tactic| first
  | with_reducible exact rO_none
  | ((with_reducible apply rO_some); walk_at "e"))
local macro_rules | `(tactic| walk_at "eC") => `(tactic| first
  | ((with_reducible apply rC_disp); walk_at "es"; walk_at "size")
  | ((with_reducible apply rC_lof); walk_at "e"; exact rfl))
local macro_rules | `(tactic| walk_at "call") => `(tactic| assumption)
local macro_rules | `(tactic| walk_at "e") => `(tactic| first
  | with_reducible exact r_c
  | ((with_reducible apply r_v); exact rfl)
  | ((with_reducible apply r_g); exact rfl)
  | ((with_reducible apply r_o2); walk_at "e"; walk_at "e"; walk_at "o")
  | ((with_reducible apply r_o1); walk_at "e"; walk_at "o")
  | ((with_reducible apply r_addX); walk_at "e"; walk_at "e"; walk_at "add")
  | ((with_reducible apply r_mulX); walk_at "e"; walk_at "e"; walk_at "mul")
  | ((with_reducible apply r_and); walk_at "e"; walk_at "t"; first | (show ev _ _ _ _ = _; walk_at "e") | exact rfl)
  | ((with_reducible apply r_or); walk_at "e"; walk_at "t"; first | (show ev _ _ _ _ = _; walk_at "e") | exact rfl)
  | ((with_reducible apply r_not); walk_at "e"; walk_at "t")
  | ((with_reducible apply r_ite); walk_at "e"; walk_at "t"; show ev _ _ _ _ = _; walk_at "e")
  | ((with_reducible apply r_isi); walk_at "e"; exact rfl; exact rfl)
  | ((with_reducible apply r_tup); walk_at "es"; walk_at "size")
  | ((with_reducible apply r_mkv); walk_at "eC")
  | ((with_reducible apply r_mkl); walk_at "eC")
  | ((with_reducible apply r_att); walk_at "e"; exact rfl; exact rfl; exact rfl)
  | ((with_reducible apply r_call0); walk_at "es"; exact rfl; exact rfl; walk_at "call")
  | ((with_reducible apply r_call); walk_at "es"; exact rfl; walk_at "call"))
local macro_rules | `(tactic| walk_at "asg") => `(tactic| first
  | ((with_reducible apply a_v); simp)
  | ((with_reducible apply a_ix); walk_at "e"; walk_at "e"; walk_at "set")
  | ((with_reducible apply a_att); walk_at "e"; walk_at "set")
  | ((with_reducible apply a_t); walk_at "asgs"))
local macro_rules | `(tactic| walk_at "asgs") => `(tactic| first
  | with_reducible exact as_nil
  | ((with_reducible apply as_cons); walk_at "asg"; walk_at "asgs"))
local macro_rules | `(tactic| walk_at "set") => `(tactic| exact rfl)
local macro_rules | `(tactic| walk_at "x") => `(tactic| first
  | ((with_reducible apply x_asg); walk_at "e"; walk_at "asg")
  | ((with_reducible apply x_ret); walk_at "e")
  | with_reducible exact x_retN
  | ((with_reducible apply x_ex); walk_at "e")
  | ((with_reducible apply x_par); walk_at "es"; exact rfl)
  | ((with_reducible apply x_if); walk_at "e"; walk_at "t"; show execs _ _ _ _ _ = _; walk_at "xs"))
local macro_rules | `(tactic| walk_at "xs") => `(tactic| first
  | with_reducible exact xs_nil
  | ((with_reducible apply xs_c); walk_at "x"; first | (with_reducible exact Ro.nx_rt _ _ _) | (rewrite [Ro.nx_nx]; walk_at "xs")))

theorem lowDs_ints {n : Nat} : ∀ {cells : List Int}, lowDs n (cells.map .int) = true
  | [] => rfl
  | c :: cs => by show (true && lowDs n (cs.map .int)) = true; rw [lowDs_ints]; rfl
theorem Pen.low {k n : Nat} {c : Cell} (h : Pen k c) : lowC n (some c) = true := by
  obtain ⟨cells, a, b, d, e, rfl, _⟩ := h
  show (lowDs n (cells.map .int) && _) = true
  rw [lowDs_ints]
  rfl
/-- the store holds nothing that is not there -/
def okS (S : Store) : Prop := S.all (lowC S.length) = true
theorem okS_set {S : Store} {n : Nat} {c : Cell} (h : okS S) (hc : lowC S.length (some c) = true) : okS (S.set n (some c)) := by
  unfold okS at *
  rw [List.length_set]
  rw [List.all_eq_true] at *
  intro x hx
  rcases List.mem_or_eq_of_mem_set hx with hx | rfl
  · exact h x hx
  · exact hc
theorem Pen.okS_set {k n : Nat} {c : Cell} {S : Store} (h : Pen k c) (hS : okS S) : okS (S.set n (some c)) := EV.okS_set hS h.low
theorem plainDs_of {l : Bool} : ∀ {ds : List D}, (∀ d ∈ ds, plainD l d = true) → plainDs l ds = true
  | [], _ => rfl
  | d :: ds, h => by
    show (plainD l d && plainDs l ds) = true
    rw [h d (List.mem_cons_self ..), plainDs_of fun x hx => h x (List.mem_cons_of_mem _ hx)]
    rfl
/-- what the makers of names ask of a program -/
structure NameF (G : Prog) : Prop where
  pen : PenFns G 18 19 20
  f37 : G.fns 37 = some ⟨2, 5, EVU.b37, .trim⟩
  f38 : G.fns 38 = some ⟨2, 5, EVU.b38, .plain⟩
  f39 : G.fns 39 = some ⟨2, 3, EVU.b39, .plain⟩
  d37 : G.P.dfl 37 2 = []
  d38 : G.P.dfl 38 2 = []
  d39 : G.P.dfl 39 2 = []
  m37 : G.P.many 37 = 2
  m38 : G.P.many 38 = 2
  m39 : G.P.many 39 = 2
section
variable {G : Prog} {k : Nat} {S : Store} {n j : Nat} {c : Cell}
theorem NameF.call19 (Z : NameF G) {E : Ec} (hE : E = ⟨G.P, fnk G (j + 1), fnT G (j + 1), none, none⟩) {ρ : Env'} {a b : ME} {many : Int} {S0 S1 : Store} (ha : ev E a ρ S0 = .ok (.ref n) S1) (hb : ev E b ρ S1 = .ok (.int many) S) (hp : Pen k c) (hk : k < 2 ^ 40) (h9 : 0 < many) (h10 : many < 1073741824) (hS : cellOf S n = some c) :
    ∃ d c', 0 ≤ d ∧ d < many ∧ Pen (k + 1) c' ∧ ev E (.call 19 (.cons a (.cons b .nil))) ρ S0 = .ok (.int d) (S.set n (some c')) := by
  obtain ⟨d, c', h1, h2, h3, h4⟩ := Z.pen.draw_ (j := j) hp hk h9 h10 hS
  refine ⟨d, c', h1, h2, h3, r_call0 (rs_cons ha (rs_cons hb rs_nil)) ?_ ?_ ?_⟩
  · rw [hE]; exact Z.pen.dd
  · rw [hE]; exact Z.pen.dm.symm
  · rw [hE]; exact h4
theorem app_cell {S T : Store} {m : Nat} (h : m < S.length) : cellOf (S ++ T) m = cellOf S m := by
  unfold cellOf
  rw [List.getElem?_append_left h]
theorem app_cell' {S T : Store} {m : Nat} : cellOf (S ++ T) (S.length + m) = cellOf T m := by
  unfold cellOf
  rw [List.getElem?_append_right (by omega)]
  congr 2
  omega
theorem om_pop {S : Store} {n : Nat} {xs : List D} {i : Int} (h0 : 0 ≤ i) (h1 : i.toNat < xs.length) (h2 : xs.length < 2 ^ 62) : om S n .pop1 xs [.int i] = .ok (xs[i.toNat]) (S.set n (some (.lst (xs.eraseIdx i.toNat)))) := by
  have hs : small62 i = true := by
    unfold small62
    simp only [Bool.and_eq_true, decide_eq_true_eq]
    have : (2 : Int) ^ 62 = 4611686018427387904 := rfl
    have : (2 : Nat) ^ 62 = 4611686018427387904 := rfl
    constructor <;> omega
  show (if small62 i = true then _ else _) = _
  rw [if_pos hs]
  have : L2.ixN xs.length i = some i.toNat := by
    unfold L2.ixN
    simp only [h0, if_true]
    rw [if_pos (by omega)]
  rw [this]
  simp only [List.getElem?_eq_getElem h1]
theorem get_eraseIdx_perm {α : Type} : ∀ {l : List α} {i : Nat} (h : i < l.length), (l[i] :: l.eraseIdx i).Perm l
  | [], _, h => absurd h (by simp)
  | a :: l, 0, _ => .refl _
  | a :: l, i + 1, h => by
    have := get_eraseIdx_perm (l := l) (i := i) (by simpa using h)
    exact (List.Perm.swap _ _ _).trans (this.cons a)
theorem perm_pop {α : Type} {left found : List α} {i : Nat} (h : i < left.length) : (left.eraseIdx i ++ (found ++ [left[i]])).Perm (left ++ found) := by
  have h1 : (left[i] :: left.eraseIdx i).Perm left := by
    exact get_eraseIdx_perm h
  refine .trans ?_ (List.Perm.append_right found h1)
  rw [← List.append_assoc]
  exact List.perm_append_comm
/-- a drawn order -/
theorem NameF.shuffled (Z : NameF G) {x : D} {xs : List D} (hp : Pen k c) (hk : k + xs.length < 2 ^ 40) (hn : xs.length < 100000) (hS : cellOf S n = some c) (hok : okS S) (hx : x = .lst xs ∨ x = .tup xs) (hpl : plainDs true xs = true) :
    ∃ ys c', ys.Perm xs ∧ Pen (k + xs.length) c' ∧ fnk G (j + 2) 37 [.ref n, x] S = .ok (.lst ys) (S.set n (some c')) := by
  have hseq : ∀ S, seqOf S x = some xs := fun S => by rcases hx with rfl | rfl <;> rfl
  have hl := cellOf_lt hS
  have hz : (100000 : Nat) < sizeLine := by decide
  generalize hE : (⟨G.P, fnk G (j + 1), fnT G (j + 1), none, none⟩ : Ec) = E
  have s1 : exec E G.sub (.par [3, 4] (.cons (.mk true (.lof (.v 1))) (.cons (.mk true (.disp .nil)) .nil))) [some (.ref n), some x, none, none, none] S = .fl (.nx [some (.ref n), some x, none, some (.ref S.length), some (.ref (S.length + 1))]) (S ++ [some (.lst xs), some (.lst [])]) := by
    have e := x_par (E := E) (sub := G.sub) (is := [3, 4]) (ρ := [some (.ref n), some x, none, none, none]) (rs_cons (r_mkl (rC_lof (a := .v 1) (r_v (S := S) rfl) (hseq S))) (rs_cons (r_mkl (rC_disp (es := .nil) rs_nil (Nat.zero_le _))) rs_nil)) rfl
    rw [e]
    simp
  obtain ⟨ρ', S', h1, r2, left, found, c', rfl, rfl, h2, h3, h4, h5⟩ := forL_inv (tg := .v 2) (b := fun ρ S => execs E G.sub (.cons (.ex (.mut .append (.v 4) (.cons (.mut .pop1 (.v 3) (.cons (.call 19 (.cons (.v 0) (.cons (.o1 .len (.v 3)) .nil))) .nil)) .nil))) .nil) ρ S)
    (fun i ρ S' => ∃ (r2 : Option D) (left found : List D) (c' : Cell), ρ = [some (.ref n), some x, r2, some (.ref S.length), some (.ref (S.length + 1))] ∧ S' = S.set n (some c') ++ [some (.lst left), some (.lst found)] ∧ left.length + i = xs.length ∧ found.length = i ∧ (left ++ found).Perm xs ∧ Pen (k + i) c')
    (rangeD 0 xs.length) 0 [some (.ref n), some x, none, some (.ref S.length), some (.ref (S.length + 1))] (S ++ [some (.lst xs), some (.lst [])]) ⟨none, xs, [], c, rfl, by
      have : S.set n (some c) = S := by
        apply List.ext_getElem? 
        intro i
        rw [List.getElem?_set]
        by_cases e : n = i
        · subst e
          have : S[n]? = some (some c) := by
            unfold cellOf at hS
            cases q : S[n]? with
            | none => rw [q] at hS; cases hS
            | some o => rw [q] at hS; simp at hS; rw [hS]
          rw [if_pos rfl, if_pos hl, this]
        · rw [if_neg e]
      rw [this], rfl, rfl, by simp, by simpa using hp⟩ (by
      rintro i y ρ S' hi ⟨r2, left, found, c', rfl, rfl, h2, h3, h4, h5⟩
      have hi' : i < xs.length := by
        have := (List.getElem?_eq_some_iff.mp hi).1
        simpa [rangeD] using this
      have hll : (S.set n (some c')).length = S.length := List.length_set ..
      have hc3 : cellOf (S.set n (some c') ++ [some (.lst left), some (.lst found)]) S.length = some (.lst left) := by rw [← hll]; exact app_cell' (m := 0)
      have hc0 : cellOf (S.set n (some c') ++ [some (.lst left), some (.lst found)]) n = some c' := by rw [app_cell (by rw [hll]; exact hl)]; exact cellOf_set hl
      have hlen : o1 (S.set n (some c') ++ [some (.lst left), some (.lst found)]) .len (.ref S.length) = some (.int left.length) := o_len (by show (match cellOf _ S.length with | some (.lst xs) => some xs | _ => none) = _; rw [hc3])
      obtain ⟨d, c2, d1, d2, d3, d4⟩ := Z.call19 (j := j) (E := E) hE.symm (ρ := [some (.ref n), some x, some y, some (.ref S.length), some (.ref (S.length + 1))]) (a := .v 0) (b := .o1 .len (.v 3)) (r_v rfl) (r_o1 (r_v rfl) hlen) h5 (by omega) (by omega) (by omega) hc0
      have hst : (S.set n (some c') ++ [some (Cell.lst left), some (Cell.lst found)]).set n (some c2) = S.set n (some c2) ++ [some (Cell.lst left), some (Cell.lst found)] := by
        rw [List.set_append_left _ _ (by rw [hll]; exact hl), List.set_set]
      rw [hst] at d4
      have hll2 : (S.set n (some c2)).length = S.length := List.length_set ..
      have hc4 : cellOf (S.set n (some c2) ++ [some (.lst left), some (.lst found)]) S.length = some (.lst left) := by rw [← hll2]; exact app_cell' (m := 0)
      have hdn : d.toNat < left.length := by omega
      have hpop : ev E (.mut .pop1 (.v 3) (.cons (.call 19 (.cons (.v 0) (.cons (.o1 .len (.v 3)) .nil))) .nil)) [some (.ref n), some x, some y, some (.ref S.length), some (.ref (S.length + 1))] (S.set n (some c') ++ [some (.lst left), some (.lst found)]) = .ok left[d.toNat] (S.set n (some c2) ++ [some (.lst (left.eraseIdx d.toNat)), some (.lst found)]) := by
        rw [r_mut (r_v rfl) hc3 (rs_cons d4 rs_nil) hc4 (om_pop d1 hdn (by have : (2 : Nat) ^ 62 = 4611686018427387904 := rfl; omega))]
        rw [List.set_append_right _ _ (by omega)]
        rw [hll2, Nat.sub_self]
        rfl
      have hc5 : cellOf (S.set n (some c') ++ [some (.lst left), some (.lst found)]) (S.length + 1) = some (.lst found) := by rw [← hll]; exact app_cell' (m := 1)
      have hc6 : cellOf (S.set n (some c2) ++ [some (.lst (left.eraseIdx d.toNat)), some (.lst found)]) (S.length + 1) = some (.lst found) := by rw [← hll2]; exact app_cell' (m := 1)
      refine ⟨_, _, _, rfl, xs_cons (x_ex (r_mut (r_v rfl) hc5 (rs_cons hpop rs_nil) hc6 (om_append (by omega)))) xs_nil, some y, left.eraseIdx d.toNat, found ++ [left[d.toNat]], c2, rfl, ?_, ?_, ?_, ?_, ?_⟩
      · rw [List.set_append_right _ _ (by omega), hll2, show S.length + 1 - S.length = 1 by omega]
        rfl
      · rw [List.length_eraseIdx, if_pos hdn]; omega
      · simp [h3]
      · exact (perm_pop hdn).trans h4
      · exact d3)
  have hrl : (rangeD 0 xs.length).length = xs.length := by simp [rangeD]
  rw [hrl, Nat.zero_add] at h2 h3 h5
  have hleft : left = [] := List.eq_nil_of_length_eq_zero (by omega)
  subst hleft
  refine ⟨found, c', by simpa using h4, h5, ?_⟩
  rw [fnk_trim Z.f37 rfl rfl]
  show trimOut S.length (bodyOf (execs _ _ EVU.b37 [some (.ref n), some x, none, none, none] S)) = _
  rw [hE]
  unfold EVU.b37
  have hlen0 : o1 (S ++ [some (.lst xs), some (.lst [])]) .len x = some (.int xs.length) := o_len (hseq _)
  rw [xs_cons s1 (xs_cons (x_forN (rI_range1 (r_o1 (r_v rfl) hlen0) (by
    unfold small62
    simp only [Bool.and_eq_true, decide_eq_true_eq]
    have : (2 : Int) ^ 62 = 4611686018427387904 := rfl
    constructor <;> omega)) h1) (xs_rt (x_ret (r_v rfl))))]
  have hll : (S.set n (some c')).length = S.length := List.length_set ..
  have hc5 : cellOf (S.set n (some c') ++ [some (.lst []), some (.lst found)]) (S.length + 1) = some (.lst found) := by rw [← hll]; exact app_cell' (m := 1)
  have hfl : lowDs S.length found = true := by
    refine plain_lows (l := true) (plainDs_of fun d hd => plainDs_all hpl d ?_)
    exact (h4.mem_iff).mp (by simpa using hd)
  show (match outV _ S.length outF (.ref (S.length + 1)) with | some e => _ | none => _) = _
  have ho : outV (S.set n (some c') ++ [some (.lst []), some (.lst found)]) S.length outF (.ref (S.length + 1)) = some (.lst found) := by
    unfold outF outV
    rw [if_neg (by simp [lowD])]
    simp only [hc5]
    rw [outs_low hfl]
    rfl
  rw [ho]
  simp only
  rw [show (S.set n (some c') ++ [some (Cell.lst []), some (Cell.lst found)]).take S.length = S.set n (some c') by rw [← hll, List.take_left']; rfl]
  have := h5.okS_set (n := n) hok
  unfold okS at this
  rw [hll] at this
  rw [if_pos this]

/-! ### names -/
theorem body_rt {r : Ro} {d : D} {S : Store} (h : r = .fl (.rt d) S) : bodyOf r = .ok d S := by rw [h]; rfl
theorem body_exc {r : Ro} {ρ : Env'} {cc : Nat} {fs : List Nat} {vs : List D} {S : Store} (h : r = .exc ρ cc fs vs S) : bodyOf r = .exc cc fs vs S := by rw [h]; rfl
def figs (i : Nat) : List Nat := ((toString (i : Int) : PySem.Str)).cps.toList
theorem str_figs (i : Nat) : (toString (i : Int) : PySem.Str) = sl (figs i) := str_sl _
theorem figs_ok : ∀ i < 100, figs i ≠ [] ∧ (figs i).length ≤ 2 ∧ ∀ c ∈ figs i, c ∈ figuresL := by decide +kernel
structure NameW (i : Nat) (w : List Nat) : Prop where
  ex : ∃ p r, w = p ++ figs i ++ r ∧ p ≠ [] ∧ (∀ c ∈ p, c ∈ lettersL) ∧ (∀ c ∈ r, c ∈ lettersL) ∧ p.length + r.length ≤ 8
theorem let_lt : ∀ c ∈ lettersL, c < 1114112 := by decide
theorem fig_lt : ∀ c ∈ figuresL, c < 1114112 := by decide
theorem NameW.run {i : Nat} {w : List Nat} (h : NameW i w) (hi : i < 100) : (∀ c ∈ w, c ∈ lettersL ∨ c ∈ figuresL) ∧ w.length ≤ 10 ∧ w ≠ [] := by
  obtain ⟨p, r, rfl, h1, h2, h3, h4⟩ := h
  obtain ⟨k1, k2, k3⟩ := figs_ok i hi
  refine ⟨fun c hc => ?_, by simp; omega, by simp [h1]⟩
  simp only [List.mem_append] at hc
  rcases hc with (hc | hc) | hc
  · exact .inl (h2 c hc)
  · exact .inr (k3 c hc)
  · exact .inl (h3 c hc)
theorem NameW.okT {i : Nat} {w : List Nat} (h : NameW i w) (hi : i < 100) : okT w := fun c hc => by
  rcases (h.run hi).1 c hc with h | h
  · exact let_lt c h
  · exact fig_lt c h
theorem cut_to {w : List Nat} {m : Nat} (h : m ≤ w.length) : L2.cutS (sl w) none (some (m : Int)) = sl (w.take m) := by
  rw [cut_sl, sIx_some (by omega) (by omega)]
  rfl
theorem cut_from {w : List Nat} {m : Nat} (h : m ≤ w.length) : L2.cutS (sl w) (some (m : Int)) none = sl (w.drop m) := by
  rw [cut_sl, sIx_some (by omega) (by omega), Int.toNat_natCast]
  have : HT.sIx w.length w.length none = w.length := rfl
  rw [this, List.take_of_length_le (by simp)]
theorem r_slS {E : Ec} {ρ : Env'} {S0 S1 S2 S3 : Store} {a : ME} {lo hi : MO} {l u : Option Int} {w v : List Nat} {live : Bool} (h : ev E a ρ S0 = .ok (.str (sl w)) S1) (h1 : evO E lo ρ S1 = .ok l S2) (h2 : evO E hi ρ S2 = .ok u S3) (hz : w.length ≤ sizeLine) (hc : L2.cutS (sl w) l u = sl v) :
    ev E (.slD live a lo hi) ρ S0 = .ok (.str (sl v)) S3 := by
  refine r_sl h h1 h2 rfl ?_
  show (if (sl w).length ≤ sizeLine then some (D.str (L2.cutS (sl w) l u)) else none) = _
  rw [sl_len, if_pos hz, hc]
theorem NameF.name (Z : NameF G) {i : Nat} (hi : i < 100) (hp : Pen k c) (hk : k + 20 < 2 ^ 40) (hS : cellOf S n = some c) :
    ∃ w c' m, NameW i w ∧ Pen m c' ∧ m ≤ k + 10 ∧ fnk G (j + 2) 38 [.ref n, .int i] S = .ok (.str (sl w)) (S.set n (some c')) := by
  have hl := cellOf_lt hS
  have hz : (100000 : Nat) < sizeLine := by decide
  generalize hE : (⟨G.P, fnk G (j + 1), fnT G (j + 1), none, none⟩ : Ec) = E
  obtain ⟨d, c1, d1, d2, d3, d4⟩ := Z.call19 (j := j) (E := E) hE.symm (ρ := [some (.ref n), some (.int i), some (.str (sl [])), none, none]) (a := .v 0) (b := .c (.int 8)) (r_v rfl) r_c hp (by omega) (by omega) (by omega) hS
  obtain ⟨ρ', S', h1, w, r3, c', rfl, rfl, h2, h3, h4⟩ := forL_inv (tg := .v 3) (b := fun ρ S => execs E G.sub (.cons (.asg (.v 2) (.addD false (.v 2) (.o2 .idx (.c (.str (sl lettersL))) (.call 19 (.cons (.v 0) (.cons (.c (.int 26)) .nil)))))) .nil) ρ S)
    (fun q ρ S' => ∃ (w : List Nat) (r3 : Option D) (c' : Cell), ρ = [some (.ref n), some (.int i), some (.str (sl w)), r3, none] ∧ S' = S.set n (some c') ∧ w.length = q ∧ (∀ c ∈ w, c ∈ lettersL) ∧ Pen (k + 1 + q) c')
    (rangeD 0 ((1 : Int) + d).toNat) 0 [some (.ref n), some (.int i), some (.str (sl [])), none, none] (S.set n (some c1)) ⟨[], none, c1, rfl, rfl, rfl, by simp, d3⟩ (by
      rintro q y ρ S' hq ⟨w, r3, c', rfl, rfl, h2, h3, h4⟩
      have hq' : q < ((1 : Int) + d).toNat := by
        have := (List.getElem?_eq_some_iff.mp hq).1
        simpa [rangeD] using this
      obtain ⟨e, c2, e1, e2, e3, e4⟩ := Z.call19 (j := j) (E := E) hE.symm (ρ := [some (.ref n), some (.int i), some (.str (sl w)), some y, none]) (a := .v 0) (b := .c (.int 26)) (r_v rfl) r_c h4 (by omega) (by omega) (by omega) (cellOf_set hl)
      rw [List.set_set] at e4
      have hlet : lettersL[e.toNat]? = some (lettersL[e.toNat]'(by show e.toNat < 26; omega)) := List.getElem?_eq_getElem _
      generalize lettersL[e.toNat]'(by show e.toNat < 26; omega) = x at hlet
      have hx : ev E (.addD false (.v 2) (.o2 .idx (.c (.str (sl lettersL))) (.call 19 (.cons (.v 0) (.cons (.c (.int 26)) .nil))))) [some (.ref n), some (.int i), some (.str (sl w)), some y, none] (S.set n (some c')) = .ok (.str (sl (w ++ [x]))) (S.set n (some c2)) := by
        rw [← sl_app]
        exact r_addX (r_v rfl) (r_o2 r_c e4 (o_sign e1 hlet (by decide))) (add_str (by rw [sl_len, sl_len]; simp; omega))
      refine ⟨_, _, _, rfl, xs_cons (x_asg hx (a_v (by simp))) xs_nil, w ++ [x], some y, c2, rfl, rfl, by simp [h2], ?_, e3⟩
      intro z hz
      rcases List.mem_append.mp hz with hz | hz
      · exact h3 z hz
      · simp at hz
        subst hz
        exact List.mem_of_getElem? hlet)
  have hrl : (rangeD 0 ((1 : Int) + d).toNat).length = ((1 : Int) + d).toNat := by simp [rangeD]
  rw [hrl, Nat.zero_add] at h2 h4
  have hlen : ∀ ρ : Env', ρ[2]? = some (some (.str (sl w))) → ev E (.o1 .len (.v 2)) ρ (S.set n (some c')) = .ok (.int (w.length : Nat)) (S.set n (some c')) := fun ρ h2 => by
    have e : o1 (S.set n (some c')) .len (.str (sl w)) = some (.int (w.length : Nat)) := by rw [o_lenS (by rw [sl_len]; omega), sl_len]
    exact r_o1 (r_v h2) e
  obtain ⟨e, c2, e1, e2, e3, e4⟩ := Z.call19 (j := j) (E := E) hE.symm (ρ := [some (.ref n), some (.int i), some (.str (sl w)), r3, none]) (a := .v 0) (b := .o1 .len (.v 2)) (r_v rfl) (hlen _ rfl) h4 (by omega) (by omega) (by omega) (cellOf_set hl)
  rw [List.set_set] at e4
  obtain ⟨k1, k2, k3⟩ := figs_ok i hi
  have hw0 : w ≠ [] := fun q => by rw [q] at h2; simp at h2; omega
  have hpl : (1 : Int) + e = ((e.toNat + 1 : Nat) : Int) := by omega
  have hcut : ((e.toNat + 1 : Nat)) ≤ w.length := by omega
  refine ⟨w.take (e.toNat + 1) ++ figs i ++ w.drop (e.toNat + 1), c2, _, ⟨_, _, rfl, ?_, ?_, ?_, ?_⟩, e3, by omega, ?_⟩
  · simp [hw0]
  · exact fun c hc => h3 c (List.mem_of_mem_take hc)
  · exact fun c hc => h3 c (List.mem_of_mem_drop hc)
  · simp; omega
  · rw [fnk_plain Z.f38 rfl rfl]
    show bodyOf (execs _ _ EVU.b38 [some (.ref n), some (.int i), none, none, none] S) = _
    rw [hE]
    unfold EVU.b38
    have hret : ev E (.addD false (.addD false (.slD false (.v 2) .none (.some (.v 4))) (.o1 .str (.v 1))) (.slD false (.v 2) (.some (.v 4)) .none)) [some (.ref n), some (.int i), some (.str (sl w)), r3, some (.int ((1 : Int) + e))] (S.set n (some c2)) = .ok (.str (sl (w.take (e.toNat + 1) ++ figs i ++ w.drop (e.toNat + 1)))) (S.set n (some c2)) := by
      rw [← sl_app, ← sl_app]
      have hs : o1 (S.set n (some c2)) .str (.int i) = some (.str (sl (figs i))) := by
        show (if (i : Int).natAbs.log2 < 1920 then some (D.str (toString (i : Int))) else none) = _
        rw [if_pos, str_figs]
        have : (i : Int).natAbs.log2 ≤ i := by rw [Int.natAbs_natCast]; exact Nat.log2_le_self i
        omega
      refine r_addX (r_addX (r_slS (r_v rfl) rO_none (rO_some (r_v rfl)) (by omega) (v := w.take (e.toNat + 1)) ?_) (r_o1 (r_v rfl) hs) (add_str ?_)) (r_slS (r_v rfl) (rO_some (r_v rfl)) rO_none (by omega) (v := w.drop (e.toNat + 1)) ?_) (add_str ?_)
      · rw [hpl]; exact cut_to hcut
      · rw [sl_len, sl_len]; simp; omega
      · rw [hpl]; exact cut_from hcut
      · rw [sl_app, sl_len, sl_len]; simp; omega
    have s0 : exec E G.sub (.asg (.v 2) (.c (.str (sl [])))) [some (.ref n), some (.int i), none, none, none] S = .fl (.nx [some (.ref n), some (.int i), some (.str (sl [])), none, none]) S := x_asg r_c (a_v (by simp))
    have hr : small62 ((1 : Int) + d) = true := by
      unfold small62
      simp only [Bool.and_eq_true, decide_eq_true_eq]
      have : (2 : Int) ^ 62 = 4611686018427387904 := rfl
      constructor <;> omega
    have s1 := x_forN (sub := G.sub) (rI_range1 (r_addX (live := false) r_c d4 add_int) hr) h1
    have s2 : exec E G.sub (.asg (.v 4) (.addD false (.c (.int 1)) (.call 19 (.cons (.v 0) (.cons (.o1 .len (.v 2)) .nil))))) [some (.ref n), some (.int i), some (.str (sl w)), r3, none] (S.set n (some c')) = .fl (.nx [some (.ref n), some (.int i), some (.str (sl w)), r3, some (.int ((1 : Int) + e))]) (S.set n (some c2)) := x_asg (r_addX r_c e4 add_int) (a_v (by simp))
    exact body_rt (xs_cons s0 (xs_cons s1 (xs_cons s2 (xs_rt (x_ret hret)))))
theorem perm_txs {ys : List D} {l : List (List Nat)} (h : ys.Perm (txs l)) : ∃ ws, ys = txs ws ∧ ws.Perm l := by
  let g : D → List Nat := fun d => match d with
    | .str s => s.cps.toList
    | _ => []
  have hg : ∀ l : List (List Nat), (txs l).map g = l := fun l => by
    induction l with
    | nil => rfl
    | cons a l ih =>
      show g (.str (sl a)) :: (txs l).map g = _
      rw [ih]
  refine ⟨ys.map g, ?_, by rw [← hg l]; exact h.map g⟩
  have hm : ∀ y ∈ ys, ∃ w, y = .str (sl w) := fun y hy => by
    obtain ⟨w, _, rfl⟩ := List.mem_map.mp ((h.mem_iff).mp hy)
    exact ⟨w, rfl⟩
  clear h
  induction ys with
  | nil => rfl
  | cons y ys ih =>
    obtain ⟨w, rfl⟩ := hm y (List.mem_cons_self ..)
    show _ = .str (sl (g (.str (sl w)))) :: txs (ys.map g)
    rw [← ih fun y hy => hm y (List.mem_cons_of_mem _ hy)]
/-- so many names, in a drawn order -/
theorem NameF.names (Z : NameF G) {m : Nat} (hm : m < 100) (hp : Pen k c) (hk : k + 2000 < 2 ^ 40) (hS : cellOf S n = some c) (hok : okS S) :
    ∃ (ws vs : List (List Nat)) (c' : Cell) (q : Nat), vs.length = m ∧ (∀ i w, vs[i]? = some w → NameW i w) ∧ ws.Perm vs ∧ Pen q c' ∧ q ≤ k + 11 * m ∧ fnk G (j + 3) 39 [.ref n, .int m] S = .ok (.lst (txs ws)) (S.set n (some c')) := by
  have hl := cellOf_lt hS
  have hz : (100000 : Nat) < sizeLine := by decide
  generalize hE : (⟨G.P, fnk G (j + 2), fnT G (j + 2), none, none⟩ : Ec) = E
  have hP : E.P = G.P := by rw [← hE]
  have same : S.set n (some c) = S := by
    apply List.ext_getElem?
    intro i
    rw [List.getElem?_set]
    by_cases e : n = i
    · subst e
      have : S[n]? = some (some c) := by
        unfold cellOf at hS
        cases q : S[n]? with
        | none => rw [q] at hS; cases hS
        | some o => rw [q] at hS; simp at hS; rw [hS]
      rw [if_pos rfl, if_pos hl, this]
    · rw [if_neg e]
  obtain ⟨S', acc, h1, vs, c1, q, rfl, rfl, h2, h3, h4, h5⟩ := compL_inv (f := compF E (.call 38 (.cons (.v 0) (.cons (.v 2) .nil))) (.v 2) .none [2] [some (.ref n), some (.int m), none])
    (fun i S' acc => ∃ (vs : List (List Nat)) (c1 : Cell) (q : Nat), acc = txs vs ∧ S' = S.set n (some c1) ∧ vs.length = i ∧ (∀ i w, vs[i]? = some w → NameW i w) ∧ Pen q c1 ∧ q ≤ k + 10 * i) (rangeD 0 m) 0 S [] ⟨[], c, k, rfl, same.symm, rfl, by simp, hp, by omega⟩ (by
      rintro i y S' acc hi ⟨vs, c1, q, rfl, rfl, h2, h3, h4, h5⟩
      have hi' : i < m := by
        have := (List.getElem?_eq_some_iff.mp hi).1
        simpa [rangeD] using this
      have hy : y = .int i := by
        unfold rangeD at hi
        rw [List.getElem?_map, List.getElem?_range hi'] at hi
        simp at hi
        exact hi.symm
      subst hy
      obtain ⟨w, c2, q2, w1, w2, w3, w4⟩ := Z.name (j := j) (S := S.set n (some c1)) (i := i) (by omega) h4 (by omega) (cellOf_set hl)
      rw [List.set_set] at w4
      refine ⟨some (.str (sl w)), S.set n (some c2), ?_, vs ++ [w], c2, q2, by simp [txs], rfl, by simp [h2], ?_, w2, by omega⟩
      · show ((ev E (.call 38 (.cons (.v 0) (.cons (.v 2) .nil))) [some (.ref n), some (.int m), some (.int i)] (S.set n (some c1))).bind fun d S3 => .ok (some d) S3) = _
        have e : ev E (.call 38 (.cons (.v 0) (.cons (.v 2) .nil))) [some (.ref n), some (.int m), some (.int i)] (S.set n (some c1)) = .ok (.str (sl w)) (S.set n (some c2)) := r_call0 (rs_cons (r_v rfl) (rs_cons (r_v rfl) rs_nil)) (by rw [hP]; exact Z.d38) (by rw [hP]; exact Z.m38.symm) (by rw [← hE]; exact w4)
        rw [e]
        rfl
      · intro a b hab
        rw [List.getElem?_append] at hab
        by_cases e : a < vs.length
        · rw [if_pos e] at hab; exact h3 a b hab
        · rw [if_neg e] at hab
          rw [List.getElem?_singleton] at hab
          split at hab
          · cases hab
            have : a = i := by omega
            rw [this]; exact w1
          · cases hab)
  have hrl : (rangeD 0 m).length = m := by simp [rangeD]
  rw [hrl, Nat.zero_add] at h2 h5
  have hpt : plainDs true (txs vs) = true := plainDs_of fun d hd => by
    obtain ⟨w, hw, rfl⟩ := List.mem_map.mp hd
    obtain ⟨i, hi⟩ := List.mem_iff_getElem?.mp hw
    have := (List.getElem?_eq_some_iff.mp hi).1
    exact can_str ((h3 i w hi).okT (by omega))
  have hok1 : okS (S.set n (some c1)) := h4.okS_set hok
  have htl : (txs vs).length = m := by simp [txs, h2]
  obtain ⟨ys, c2, y1, y2, y3⟩ := Z.shuffled (j := j) (S := S.set n (some c1)) (x := .lst (txs vs)) h4 (by rw [htl]; omega) (by rw [htl]; omega) (cellOf_set hl) hok1 (.inl rfl) hpt
  rw [List.set_set] at y3
  obtain ⟨ws, rfl, hws⟩ : ∃ ws, ys = txs ws ∧ ws.Perm vs := by
    exact perm_txs y1
  refine ⟨ws, vs, c2, _, h2, h3, hws, y2, by rw [htl]; omega, ?_⟩
  rw [fnk_plain Z.f39 rfl rfl]
  show bodyOf (execs _ _ EVU.b39 [some (.ref n), some (.int m), none] S) = _
  rw [hE]
  unfold EVU.b39
  have hr : small62 (m : Int) = true := by
    unfold small62
    simp only [Bool.and_eq_true, decide_eq_true_eq]
    have : (2 : Int) ^ 62 = 4611686018427387904 := rfl
    constructor <;> omega
  have hc : ev E (.mk false (.comp (.call 38 (.cons (.v 0) (.cons (.v 2) .nil))) (.v 2) (.range1 (.v 1)) .none [2])) [some (.ref n), some (.int m), none] S = .ok (.lst (txs vs)) (S.set n (some c1)) :=
    r_mkv (rC_comp (S1 := S) (ls := []) (rI_range1 (r_v rfl) hr) (by show (rangeD 0 m).length ≤ sizeLine; rw [hrl]; omega) h1)
  exact body_rt (xs_rt (x_ret (r_call0 (rs_cons (r_v rfl) (rs_cons hc rs_nil)) (by rw [hP]; exact Z.d37) (by rw [hP]; exact Z.m37.symm) (by rw [← hE]; exact y3))))
end
end EV
set_option Elab.async false
set_option linter.all false
set_option maxRecDepth 100000
set_option maxHeartbeats 4000000
/-! EV, part Ld: == and in, of plain data. -/
namespace EV
open PySem
mutual
def pd : D → PyData
  | .non => .none
  | .bl b => .bool b
  | .int i => .int i
  | .str s => .str s
  | .tup xs => .tuple (pds xs)
  | .lst xs => .list (pds xs)
  | _ => .none
def pds : List D → List PyData
  | [] => []
  | d :: ds => pd d :: pds ds
end
mutual
/-- == of plain data -/
def eqp : D → D → Bool
  | .non, .non => true
  | .bl a, .bl b => a == b
  | .bl a, .int j => (if a = true then 1 else 0) == j
  | .int i, .bl b => i == if b = true then 1 else 0
  | .int i, .int j => i == j
  | .str x, .str y => x == y
  | .lst xs, .lst ys => eqps xs ys
  | .tup xs, .tup ys => eqps xs ys
  | _, _ => false
def eqps : List D → List D → Bool
  | [], [] => true
  | x :: xs, y :: ys => eqp x y && eqps xs ys
  | _, _ => false
end
mutual
theorem eqv_pd {l : Bool} : ∀ {x y : D}, plainD l x = true → plainD l y = true → PyData.eqv (pd x) (pd y) = eqp x y
  | .tup xs, y, hx, hy => by
    have h : xs.length ≤ sizeLine ∧ plainDs l xs = true := by simpa [plainD] using hx
    cases y with
    | tup ys =>
      have k : ys.length ≤ sizeLine ∧ plainDs l ys = true := by simpa [plainD] using hy
      rw [pd, pd, PyData.eqv, eqp]
      exact eqv_pds h.2 k.2
    | scr _ => simp [plainD] at hy
    | dic _ _ => simp [plainD] at hy
    | obj _ _ _ => simp [plainD] at hy
    | ref _ => simp [plainD] at hy
    | _ => simp [pd, PyData.eqv, eqp]
  | .lst xs, y, hx, hy => by
    have h : (l = true ∧ xs.length ≤ sizeLine) ∧ plainDs l xs = true := by simpa [plainD] using hx
    cases y with
    | lst ys =>
      have k : (l = true ∧ ys.length ≤ sizeLine) ∧ plainDs l ys = true := by simpa [plainD] using hy
      rw [pd, pd, PyData.eqv, eqp]
      exact eqv_pds h.2 k.2
    | scr _ => simp [plainD] at hy
    | dic _ _ => simp [plainD] at hy
    | obj _ _ _ => simp [plainD] at hy
    | ref _ => simp [plainD] at hy
    | _ => simp [pd, PyData.eqv, eqp]
  | .non, y, hx, hy => by
    cases y with
    | scr _ => simp [plainD] at hy
    | dic _ _ => simp [plainD] at hy
    | obj _ _ _ => simp [plainD] at hy
    | ref _ => simp [plainD] at hy
    | _ => simp [pd, PyData.eqv, eqp]
  | .bl b, y, hx, hy => by
    cases y with
    | scr _ => simp [plainD] at hy
    | dic _ _ => simp [plainD] at hy
    | obj _ _ _ => simp [plainD] at hy
    | ref _ => simp [plainD] at hy
    | _ => simp [pd, PyData.eqv, eqp]
  | .int i, y, hx, hy => by
    cases y with
    | scr _ => simp [plainD] at hy
    | dic _ _ => simp [plainD] at hy
    | obj _ _ _ => simp [plainD] at hy
    | ref _ => simp [plainD] at hy
    | _ => simp [pd, PyData.eqv, eqp]
  | .str s, y, hx, hy => by
    cases y with
    | scr _ => simp [plainD] at hy
    | dic _ _ => simp [plainD] at hy
    | obj _ _ _ => simp [plainD] at hy
    | ref _ => simp [plainD] at hy
    | _ => simp [pd, PyData.eqv, eqp]
  | .scr _, _, h, _ => by unfold plainD at h; cases h
  | .dic _ _, _, h, _ => by unfold plainD at h; cases h
  | .obj _ _ _, _, h, _ => by unfold plainD at h; cases h
  | .ref _, _, h, _ => by unfold plainD at h; cases h
theorem eqv_pds {l : Bool} : ∀ {xs ys : List D}, plainDs l xs = true → plainDs l ys = true → PyData.eqvAll (pds xs) (pds ys) = eqps xs ys
  | [], [], _, _ => by rw [pds, PyData.eqvAll, eqps]
  | [], y :: ys, _, _ => by rw [pds, pds, PyData.eqvAll, eqps]; all_goals simp
  | x :: xs, [], _, _ => by rw [pds, pds, PyData.eqvAll, eqps]; all_goals simp
  | x :: xs, y :: ys, h, k => by
    have h : plainD l x = true ∧ plainDs l xs = true := by simpa [plainDs] using h
    have k : plainD l y = true ∧ plainDs l ys = true := by simpa [plainDs] using k
    rw [pds, pds, PyData.eqvAll, eqps, eqv_pd h.1 k.1, eqv_pds h.2 k.2]
end
mutual
theorem eqp_refl {l : Bool} : ∀ {x : D}, plainD l x = true → eqp x x = true
  | .non, _ => by rw [eqp]
  | .bl b, _ => by rw [eqp]; simp
  | .int i, _ => by rw [eqp]; simp
  | .str s, _ => by rw [eqp]; simp
  | .tup xs, h => by
    have h : xs.length ≤ sizeLine ∧ plainDs l xs = true := by simpa [plainD] using h
    rw [eqp]; exact eqps_refl h.2
  | .lst xs, h => by
    have h : (l = true ∧ xs.length ≤ sizeLine) ∧ plainDs l xs = true := by simpa [plainD] using h
    rw [eqp]; exact eqps_refl h.2
  | .scr _, h => by unfold plainD at h; cases h
  | .dic _ _, h => by unfold plainD at h; cases h
  | .obj _ _ _, h => by unfold plainD at h; cases h
  | .ref _, h => by unfold plainD at h; cases h
theorem eqps_refl {l : Bool} : ∀ {xs : List D}, plainDs l xs = true → eqps xs xs = true
  | [], _ => by rw [eqps]
  | x :: xs, h => by
    have h : plainD l x = true ∧ plainDs l xs = true := by simpa [plainDs] using h
    rw [eqps, eqp_refl h.1, eqps_refl h.2]
    rfl
end
mutual
theorem deep_pd {l : Bool} {S : Store} : ∀ {x : D} {f : Nat}, plainD l x = true → depthD x < f → deep S f x = some (pd x)
  | .non, f + 1, _, _ => rfl
  | .bl b, f + 1, _, _ => rfl
  | .int i, f + 1, _, _ => rfl
  | .str s, f + 1, _, _ => rfl
  | .tup xs, f + 1, h, hd => by
    have h : xs.length ≤ sizeLine ∧ plainDs l xs = true := by simpa [plainD] using h
    show ((xs.mapM (deep S f)).map PyData.tuple) = _
    rw [deep_pds h.2 (by simpa [depthD] using hd)]
    rw [pd]; rfl
  | .lst xs, f + 1, h, hd => by
    have h : (l = true ∧ xs.length ≤ sizeLine) ∧ plainDs l xs = true := by simpa [plainD] using h
    show ((xs.mapM (deep S f)).map PyData.list) = _
    rw [deep_pds h.2 (by simpa [depthD] using hd)]
    rw [pd]; rfl
  | .scr _, _, h, _ => by unfold plainD at h; cases h
  | .dic _ _, _, h, _ => by unfold plainD at h; cases h
  | .obj _ _ _, _, h, _ => by unfold plainD at h; cases h
  | .ref _, _, h, _ => by unfold plainD at h; cases h
theorem deep_pds {l : Bool} {S : Store} : ∀ {xs : List D} {f : Nat}, plainDs l xs = true → depthDs xs < f → xs.mapM (deep S f) = some (pds xs)
  | [], _, _, _ => rfl
  | x :: xs, f, h, hd => by
    have h : plainD l x = true ∧ plainDs l xs = true := by simpa [plainDs] using h
    have hd : max (depthD x) (depthDs xs) < f := hd
    rw [List.mapM_cons, deep_pd h.1 (by omega), deep_pds h.2 (by omega), pds]
    rfl
end
mutual
theorem can_pd {l : Bool} : ∀ {x : D}, plainD l x = true → PyData.canLay0 (pd x) = true
  | .non, _ => rfl
  | .bl b, _ => rfl
  | .int i, _ => rfl
  | .str s, h => h
  | .tup xs, h => by
    have h : xs.length ≤ sizeLine ∧ plainDs l xs = true := by simpa [plainD] using h
    rw [pd, PyData.canLay0]
    exact can_pds h.2
  | .lst xs, h => by
    have h : (l = true ∧ xs.length ≤ sizeLine) ∧ plainDs l xs = true := by simpa [plainD] using h
    rw [pd, PyData.canLay0]
    exact can_pds h.2
  | .scr _, h => by unfold plainD at h; cases h
  | .dic _ _, h => by unfold plainD at h; cases h
  | .obj _ _ _, h => by unfold plainD at h; cases h
  | .ref _, h => by unfold plainD at h; cases h
theorem can_pds {l : Bool} : ∀ {xs : List D}, plainDs l xs = true → PyData.canLayAll0 (pds xs) = true
  | [], _ => rfl
  | x :: xs, h => by
    have h : plainD l x = true ∧ plainDs l xs = true := by simpa [plainDs] using h
    rw [pds, PyData.canLayAll0, can_pd h.1, can_pds h.2]
    rfl
end
mutual
theorem depth_pd : ∀ {x : D}, (pd x).depth = depthD x
  | .non => rfl
  | .bl b => rfl
  | .int i => rfl
  | .str s => rfl
  | .tup xs => by rw [pd, PyData.depth, depthD, depth_pds]
  | .lst xs => by rw [pd, PyData.depth, depthD, depth_pds]
  | .scr _ => rfl
  | .dic _ _ => rfl
  | .obj _ _ _ => rfl
  | .ref _ => rfl
theorem depth_pds : ∀ {xs : List D}, PyData.depthAll (pds xs) = depthDs xs
  | [] => rfl
  | x :: xs => by rw [pds, PyData.depthAll, depthDs, depth_pd, depth_pds]
end
theorem shaped_pd {x : D} (h : plainD true x = true) (hd : depthD x < 60) : SeqAt.shaped (pd x) = true := by
  unfold SeqAt.shaped
  rw [can_pd h, depth_pd, decide_eq_true (by omega)]
  rfl
theorem eqD_plain {S : Store} {x y : D} (hx : plainD true x = true) (hy : plainD true y = true) (dx : depthD x < 60) (dy : depthD y < 60) : eqD S x y = some (eqp x y) := by
  unfold eqD
  rw [deep_pd hx dx, deep_pd hy dy]
  simp only [shaped_pd hx dx, shaped_pd hy dy, Bool.and_self, if_true, eqv_pd hx hy]
theorem o_eqp {S : Store} {x y : D} (hx : plainD true x = true) (hy : plainD true y = true) (dx : depthD x < 60) (dy : depthD y < 60) : o2 S .eq x y = some (.bl (eqp x y)) := by
  show (eqD S x y).map D.bl = _
  rw [eqD_plain hx hy dx dy]
  rfl
theorem o_nep {S : Store} {x y : D} (hx : plainD true x = true) (hy : plainD true y = true) (dx : depthD x < 60) (dy : depthD y < 60) : o2 S .ne x y = some (.bl (!eqp x y)) := by
  show (eqD S x y).map (fun r => D.bl (!r)) = _
  rw [eqD_plain hx hy dx dy]
  rfl
theorem any_pd {x : D} (hx : plainD true x = true) : ∀ {xs : List D}, plainDs true xs = true → ((pds xs).any fun z => PyData.eqv z (pd x)) = xs.any fun z => eqp z x
  | [], _ => rfl
  | a :: xs, h => by
    have h : plainD true a = true ∧ plainDs true xs = true := by simpa [plainDs] using h
    rw [pds, List.any_cons, List.any_cons, any_pd hx h.2, eqv_pd h.1 hx]
theorem inD_plain {S : Store} {x y : D} {xs : List D} (hy : y = .lst xs ∨ y = .tup xs) (hx : plainD true x = true) (hy' : plainD true y = true) (dx : depthD x < 60) (dy : depthD y < 60) : inD S x y = some (xs.any fun z => eqp z x) := by
  have e1 := deep_pd (S := S) hx dx
  have e2 := deep_pd (S := S) hy' dy
  have h1 := shaped_pd hx dx
  have h2 := shaped_pd hy' dy
  rcases hy with rfl | rfl
  · have h : (true = true ∧ xs.length ≤ sizeLine) ∧ plainDs true xs = true := by simpa [plainD] using hy'
    rw [pd] at e2 h2
    unfold inD
    simp only [dicOf, e1, e2, h1, h2, Bool.and_self, if_true, any_pd hx h.2]
  · have h : xs.length ≤ sizeLine ∧ plainDs true xs = true := by simpa [plainD] using hy'
    rw [pd] at e2 h2
    unfold inD
    simp only [dicOf, e1, e2, h1, h2, Bool.and_self, if_true, any_pd hx h.2]
theorem o_inp {S : Store} {x y : D} {xs : List D} (hy : y = .lst xs ∨ y = .tup xs) (hx : plainD true x = true) (hy' : plainD true y = true) (dx : depthD x < 60) (dy : depthD y < 60) : o2 S .in_ x y = some (.bl (xs.any fun z => eqp z x)) := by
  show (inD S x y).map D.bl = _
  rw [inD_plain hy hx hy' dx dy]
  rfl
theorem o_ninp {S : Store} {x y : D} {xs : List D} (hy : y = .lst xs ∨ y = .tup xs) (hx : plainD true x = true) (hy' : plainD true y = true) (dx : depthD x < 60) (dy : depthD y < 60) : o2 S .nin x y = some (.bl (!(xs.any fun z => eqp z x))) := by
  show (inD S x y).map (fun r => D.bl (!r)) = _
  rw [inD_plain hy hx hy' dx dy]
  rfl
theorem eqp_str {a b : List Nat} : eqp (.str (sl a)) (.str (sl b)) = decide (a = b) := by
  rw [eqp, Bool.eq_iff_iff]; simp
theorem plain_txs {ws : List (List Nat)} (h : ∀ w ∈ ws, okT w) : plainDs true (txs ws) = true := by
  induction ws with
  | nil => rfl
  | cons w ws ih =>
    show (plainD true (.str (sl w)) && plainDs true (txs ws)) = true
    rw [ih fun w hw => h w (List.mem_cons_of_mem _ hw)]
    have : plainD true (.str (sl w)) = true := can_str (h w (List.mem_cons_self ..))
    rw [this]
    rfl
theorem depth_txs (ws : List (List Nat)) : depthDs (txs ws) = 0 := by
  induction ws with
  | nil => rfl
  | cons w ws ih =>
    show max (depthD (.str (sl w))) (depthDs (txs ws)) = 0
    rw [ih]; rfl
theorem any_txs {ws : List (List Nat)} {w : List Nat} : ((txs ws).any fun z => eqp z (.str (sl w))) = decide (w ∈ ws) := by
  induction ws with
  | nil => rfl
  | cons v ws ih =>
    show (eqp (.str (sl v)) (.str (sl w)) || (txs ws).any fun z => eqp z (.str (sl w))) = _
    rw [ih, eqp_str, Bool.eq_iff_iff]
    simp only [Bool.or_eq_true, decide_eq_true_eq, List.mem_cons]
    exact ⟨fun h => h.elim (fun e => .inl e.symm) .inr, fun h => h.elim (fun e => .inl e.symm) .inr⟩
theorem plain_str {w : List Nat} (h : okT w) : plainD true (.str (sl w)) = true := can_str h
theorem plainL {xs : List D} (h : plainDs true xs = true) (hl : xs.length ≤ sizeLine) : plainD true (.lst xs) = true := by
  show (true && decide (xs.length ≤ sizeLine) && plainDs true xs) = true
  rw [h, decide_eq_true hl]; rfl
theorem plainT {xs : List D} (h : plainDs true xs = true) (hl : xs.length ≤ sizeLine) : plainD true (.tup xs) = true := by
  show (decide (xs.length ≤ sizeLine) && plainDs true xs) = true
  rw [h, decide_eq_true hl]; rfl
theorem txs_len (ws : List (List Nat)) : (txs ws).length = ws.length := by simp [txs]
/-- a text in a row of texts -/
theorem o_inW {S : Store} {w : List Nat} {ws : List (List Nat)} {y : D} (hy : y = .lst (txs ws) ∨ y = .tup (txs ws)) (hw : okT w) (hs : ∀ w ∈ ws, okT w) (hl : ws.length ≤ sizeLine) : o2 S .in_ (.str (sl w)) y = some (.bl (decide (w ∈ ws))) := by
  have hp := plain_txs hs
  have hl' : (txs ws).length ≤ sizeLine := by simpa [txs] using hl
  rw [o_inp hy (plain_str hw) ?_ (Nat.le_of_ble_eq_true rfl) ?_, any_txs]
  · rcases hy with rfl | rfl
    · exact plainL hp hl'
    · exact plainT hp hl'
  · rcases hy with rfl | rfl
    · show depthDs (txs ws) + 1 < 60; rw [depth_txs]; decide
    · show depthDs (txs ws) + 1 < 60; rw [depth_txs]; decide
theorem o_eqL {S : Store} {ws vs : List (List Nat)} (hw : ∀ w ∈ ws, okT w) (hv : ∀ w ∈ vs, okT w) (hl : ws.length ≤ sizeLine) (hl' : vs.length ≤ sizeLine) : o2 S .eq (.lst (txs ws)) (.lst (txs vs)) = some (.bl (decide (ws = vs))) := by
  rw [o_eqp (plainL (plain_txs hw) (by rw [txs_len]; exact hl)) (plainL (plain_txs hv) (by rw [txs_len]; exact hl')) (by show depthDs (txs ws) + 1 < 60; rw [depth_txs]; decide) (by show depthDs (txs vs) + 1 < 60; rw [depth_txs]; decide)]
  congr 2
  rw [eqp]
  clear hl hl' hw hv
  induction ws generalizing vs with
  | nil => cases vs with
    | nil => rw [txs, List.map_nil, eqps]; rfl
    | cons v vs => show eqps [] (_ :: _) = _; rw [eqps]; rfl; all_goals simp
  | cons w ws ih => cases vs with
    | nil => show eqps (_ :: _) [] = _; rw [eqps]; rfl; all_goals simp
    | cons v vs =>
      show eqps (.str (sl w) :: txs ws) (.str (sl v) :: txs vs) = _
      rw [eqps, ih, eqp_str, Bool.eq_iff_iff]
      simp
end EV
set_option Elab.async false
set_option linter.all false
set_option maxRecDepth 100000
set_option maxHeartbeats 0
namespace EVU
open PySem
/-- the fields' names, by number -/
def fields : List Str := (["line", "word", "column", "why", "name", "what", "number", "row", "many", "limit", "rows", "places"] : List Str) ++ (["rounds", "cuts", "papers", "cells", "stop", "paper", "append", "text", "at", "skip", "is_over", "pass_gap"] : List Str) ++ (["pop", "token", "split", "parts", "extend", "join", "head", "place", "first", "statements", "is_closed", "tree"] : List Str) ++ (["takes", "of_kind", "need", "refuse", "plain", "value", "sees", "test", "statement", "end_body", "cell_rows", "body"] : List Str) ++ (["boxes", "found", "check_all", "check_unlike", "check_few", "check_statements", "is_great", "tell", "update", "index", "check_known", "items"] : List Str) ++ (["steps", "kept", "deed", "part", "passing", "begin", "settle", "next_row", "go", "attributes", "holds", "going"] : List Str) ++ (["is_between", "begun", "posts", "ended", "next_rows", "enter", "follow", "write", "close", "words", "one_of", "seen"] : List Str) ++ (["integer", "numbers", "levels", "last", "path", "differences", "ends", "left", "held", "whole", "second", "following"] : List Str) ++ (["since", "on", "posted", "take", "push", "round_from", "do", "twin", "say", "case", "get", "is_due"] : List Str) ++ (["fresh", "log", "stance", "code", "begins", "clear", "keeps", "alikes", "insert", "replace", "texts", "runs"] : List Str) ++ (["ahead", "behind", "deeds", "is_attempt", "_shot", "_past", "_ahead", "_deeds", "_depth", "_do", "put", "undo"] : List Str) ++ (["redo", "drop", "rename", "can", "next", "keep", "free", "attempt", "trial", "_note", "done_steps", "numeral"] : List Str)
end EVU
set_option Elab.async false
set_option linter.all false
set_option maxRecDepth 100000
set_option maxHeartbeats 0
namespace EVU
open PySem EV
/-- _law_pen: slots script fold cell -/
def b18 : MB := .cons (.asg (.v 1) (.c (.int 59))) (.cons (.for_ (.v 2) (.e (.v 0)) (.cons (.asg (.v 1) (.o2 .mod (.o1 .int (.addD false (.mulD false (.v 1) (.c (.int 199))) (.v 2))) (.c (.int 1000000663)))) (.nil))) (.cons (.ret (.mk true (.ddisp (.cons (.c (.str ⟨#[99, 101, 108, 108, 115]⟩)) (.mk false (.lof (.v 0))) (.cons (.c (.str ⟨#[97, 116]⟩)) (.c (.int 0)) (.cons (.c (.str ⟨#[100, 105, 103, 105, 116, 115]⟩)) (.c (.int 0)) (.cons (.c (.str ⟨#[99, 111, 117, 110, 116]⟩)) (.c (.int 0)) (.cons (.c (.str ⟨#[102, 111, 108, 100]⟩)) (.v 1) (.nil))))))))) (.nil)))
/-- _law_draw: slots pen many blend cell digit -/
def b19 : MB := .cons (.asg (.ix (.v 0) (.c (.str ⟨#[99, 111, 117, 110, 116]⟩))) (.addD false (.o2 .idx (.v 0) (.c (.str ⟨#[99, 111, 117, 110, 116]⟩))) (.c (.int 1)))) (.cons (.if_ (.and_ (.o2 .eq (.o2 .idx (.v 0) (.c (.str ⟨#[100, 105, 103, 105, 116, 115]⟩))) (.c (.int 0))) (.o2 .lt (.o2 .idx (.v 0) (.c (.str ⟨#[97, 116]⟩))) (.o1 .len (.o2 .idx (.v 0) (.c (.str ⟨#[99, 101, 108, 108, 115]⟩)))))) (.cons (.asg (.v 3) (.o2 .idx (.o2 .idx (.v 0) (.c (.str ⟨#[99, 101, 108, 108, 115]⟩))) (.o2 .idx (.v 0) (.c (.str ⟨#[97, 116]⟩))))) (.cons (.asg (.ix (.v 0) (.c (.str ⟨#[97, 116]⟩))) (.addD false (.o2 .idx (.v 0) (.c (.str ⟨#[97, 116]⟩))) (.c (.int 1)))) (.cons (.if_ (.o2 .ge (.v 3) (.o2 .pow (.c (.int 10)) (.c (.int 18)))) (.cons (.asg (.ix (.v 0) (.c (.str ⟨#[100, 105, 103, 105, 116, 115]⟩))) (.o2 .sub (.v 3) (.o2 .pow (.c (.int 10)) (.c (.int 18))))) (.nil)) (.cons (.asg (.ix (.v 0) (.c (.str ⟨#[102, 111, 108, 100]⟩))) (.o2 .mod (.o1 .int (.addD false (.mulD false (.o2 .idx (.v 0) (.c (.str ⟨#[102, 111, 108, 100]⟩))) (.c (.int 70229))) (.v 3))) (.c (.int 2147482817)))) (.nil))) (.nil)))) (.nil)) (.cons (.if_ (.o2 .gt (.o2 .idx (.v 0) (.c (.str ⟨#[100, 105, 103, 105, 116, 115]⟩))) (.c (.int 0))) (.cons (.asg (.v 4) (.o2 .mod (.o1 .int (.o2 .idx (.v 0) (.c (.str ⟨#[100, 105, 103, 105, 116, 115]⟩)))) (.v 1))) (.cons (.asg (.ix (.v 0) (.c (.str ⟨#[100, 105, 103, 105, 116, 115]⟩))) (.o2 .fdiv (.o2 .idx (.v 0) (.c (.str ⟨#[100, 105, 103, 105, 116, 115]⟩))) (.v 1))) (.cons (.ret (.v 4)) (.nil)))) (.nil)) (.cons (.asg (.v 2) (.addD false (.addD false (.o2 .idx (.v 0) (.c (.str ⟨#[102, 111, 108, 100]⟩))) (.mulD false (.o2 .idx (.v 0) (.c (.str ⟨#[99, 111, 117, 110, 116]⟩))) (.c (.int 7963)))) (.c (.int 127)))) (.cons (.ret (.o2 .mod (.o2 .fdiv (.o1 .int (.o2 .mod (.o2 .pow (.v 2) (.c (.int 17))) (.c (.int 2305843009213693951)))) (.c (.int 128))) (.v 1))) (.nil)))))
/-- _law_pick: slots pen some -/
def b20 : MB := .cons (.ret (.o2 .idx (.v 1) (.call 19 (.cons (.v 0) (.cons (.o1 .len (.v 1)) (.nil)))))) (.nil)
/-- _law_same: slots told due one two -/
def b21 : MB := .cons (.if_ (.isi (.v 1) [.tuple]) (.cons (.ret (.and_ (.isi (.v 0) [.tuple]) (.and_ (.o2 .eq (.o1 .len (.v 0)) (.o1 .len (.v 1))) (.o1 .all (.mk false (.comp (.call 21 (.cons (.v 2) (.cons (.v 3) (.nil)))) (.t (.cons (.v 2) (.cons (.v 3) (.nil)))) (.zip (.v 0) (.v 1)) .none [2, 3])))))) (.nil)) (.nil)) (.cons (.if_ (.o2 .is_ (.v 1) (.c .non)) (.cons (.ret (.o2 .is_ (.v 0) (.c .non))) (.nil)) (.nil)) (.cons (.if_ (.o2 .is_ (.v 1) (.c (.bl true))) (.cons (.ret (.o2 .is_ (.v 0) (.c (.bl true)))) (.nil)) (.nil)) (.cons (.if_ (.o2 .is_ (.v 1) (.c (.bl false))) (.cons (.ret (.o2 .is_ (.v 0) (.c (.bl false)))) (.nil)) (.nil)) (.cons (.if_ (.isi (.v 1) [.int]) (.cons (.ret (.and_ (.isi (.v 0) [.int]) (.and_ (.not_ (.isi (.v 0) [.bool])) (.o2 .eq (.v 0) (.v 1))))) (.nil)) (.nil)) (.cons (.ret (.and_ (.isi (.v 0) [.str]) (.o2 .eq (.v 0) (.v 1)))) (.nil))))))
/-- _law_why: slots call found error -/
def b40 : MB := .cons (.asg (.v 1) (.c .non)) (.cons (.try_ (.cons (.ex (.callP)) (.nil)) (.cons 2 (some 2) (.cons (.asg (.v 1) (.mk false (.disp (.cons (.c (.str ⟨#[114, 101, 97, 100]⟩)) (.cons (.exf 0) (.cons (.exf 2) (.nil))))))) (.nil)) (.cons 3 (some 2) (.cons (.asg (.v 1) (.mk false (.disp (.cons (.c (.str ⟨#[112, 108, 97, 99, 101, 100]⟩)) (.cons (.exf 0) (.cons (.exf 2) (.cons (.exf 3) (.cons (.exf 4) (.nil))))))))) (.nil)) (.cons 1 (some 2) (.cons (.asg (.v 1) (.mk false (.disp (.cons (.c (.str ⟨#[116, 101, 120, 116]⟩)) (.cons (.exf 0) (.cons (.exf 1) (.nil))))))) (.nil)) (.cons 4 (some 2) (.cons (.asg (.v 1) (.bad)) (.nil)) (.cons 10 (some 2) (.cons (.asg (.v 1) (.bad)) (.nil)) (.cons 8 (some 2) (.cons (.asg (.v 1) (.bad)) (.nil)) (.cons 5 (some 2) (.cons (.asg (.v 1) (.bad)) (.nil)) (.cons 6 (some 2) (.cons (.asg (.v 1) (.bad)) (.nil)) (.cons 9 (some 2) (.cons (.asg (.v 1) (.mk false (.disp (.cons (.c (.str ⟨#[117, 110, 108, 105, 107, 101]⟩)) (.cons (.exf 5) (.nil)))))) (.nil)) (.cons 11 (some 2) (.cons (.asg (.v 1) (.mk false (.disp (.cons (.c (.str ⟨#[109, 97, 110, 121]⟩)) (.cons (.exf 5) (.cons (.exf 8) (.cons (.exf 9) (.nil)))))))) (.nil)) (.nil)))))))))))) (.cons (.ret (.v 1)) (.nil)))
/-- _law_is_name: slots value sign -/
def b42 : MB := .cons (.if_ (.or_ (.not_ (.isi (.v 0) [.str])) (.or_ (.o2 .eq (.v 0) (.c (.str ⟨#[]⟩))) (.or_ (.o2 .gt (.o1 .len (.v 0)) (.c (.int 12))) (.or_ (.o2 .in_ (.v 0) (.call 41 (.nil))) (.o2 .in_ (.o2 .idx (.v 0) (.c (.int 0))) (.c (.str ⟨#[48, 49, 50, 51, 52, 53, 54, 55, 56, 57]⟩))))))) (.cons (.ret (.c (.bl false))) (.nil)) (.nil)) (.cons (.ret (.o2 .eq (.mk false (.comp (.v 1) (.v 1) (.e (.v 0)) (.some (.o2 .nin (.v 1) (.c (.str ⟨#[97, 98, 99, 100, 101, 102, 103, 104, 105, 106, 107, 108, 109, 110, 111, 112, 113, 114, 115, 116, 117, 118, 119, 120, 121, 122, 48, 49, 50, 51, 52, 53, 54, 55, 56, 57]⟩)))) [1])) (.mk false (.disp (.nil))))) (.nil))
/-- _law_is_number: slots word sign -/
def b43 : MB := .cons (.ret (.and_ (.o2 .ne (.v 0) (.c (.str ⟨#[]⟩))) (.and_ (.o2 .lt (.o1 .len (.v 0)) (.c (.int 4))) (.and_ (.o2 .eq (.mk false (.comp (.v 1) (.v 1) (.e (.v 0)) (.some (.o2 .nin (.v 1) (.c (.str ⟨#[48, 49, 50, 51, 52, 53, 54, 55, 56, 57]⟩)))) [1])) (.mk false (.disp (.nil)))) (.or_ (.o2 .eq (.v 0) (.c (.str ⟨#[48]⟩))) (.o2 .ne (.o2 .idx (.v 0) (.c (.int 0))) (.c (.str ⟨#[48]⟩)))))))) (.nil)
/-- _law_kind_of_word: slots word -/
def b44 : MB := .cons (.if_ (.o2 .in_ (.v 0) (.call 41 (.nil))) (.cons (.ret (.c (.str ⟨#[107, 101, 121]⟩))) (.nil)) (.nil)) (.cons (.if_ (.call 42 (.cons (.v 0) (.nil))) (.cons (.ret (.c (.str ⟨#[110, 97, 109, 101]⟩))) (.nil)) (.nil)) (.cons (.ret (.ite (.call 43 (.cons (.v 0) (.nil))) (.c (.str ⟨#[110, 117, 109, 98, 101, 114]⟩)) (.c .non))) (.nil)))
/-- _law_due: slots text lap found line column at run sign many word kind step -/
def b45 : MB := .cons (.asg (.t (.cons (.v 2) (.cons (.v 3) (.cons (.v 4) (.cons (.v 5) (.cons (.v 6) (.nil))))))) (.tup (.cons (.mk true (.disp (.nil))) (.cons (.c (.int 1)) (.cons (.c (.int 1)) (.cons (.c (.int 0)) (.cons (.c (.str ⟨#[97, 98, 99, 100, 101, 102, 103, 104, 105, 106, 107, 108, 109, 110, 111, 112, 113, 114, 115, 116, 117, 118, 119, 120, 121, 122, 48, 49, 50, 51, 52, 53, 54, 55, 56, 57]⟩)) (.nil)))))))) (.cons (.for_ (.v 1) (.range1 (.addD false (.o1 .len (.v 0)) (.c (.int 1)))) (.cons (.if_ (.o2 .ge (.v 5) (.o1 .len (.v 0))) (.cons (.brk) (.nil)) (.nil)) (.cons (.asg (.v 7) (.o2 .idx (.v 0) (.v 5))) (.cons (.if_ (.o2 .eq (.v 7) (.c (.str ⟨#[35]⟩))) (.cons (.asg (.v 8) (.o1 .len (.o2 .idx (.mk false (.split (.slD false (.v 0) (.some (.v 5)) .none) (.c (.str ⟨#[10]⟩)))) (.c (.int 0))))) (.cons (.par [5, 4] (.cons (.addD false (.v 5) (.v 8)) (.cons (.addD false (.v 4) (.v 8)) (.nil)))) (.cons (.cont) (.nil)))) (.nil)) (.cons (.if_ (.o2 .in_ (.v 7) (.c (.str ⟨#[32, 10]⟩))) (.cons (.asg (.t (.cons (.v 3) (.cons (.v 4) (.nil)))) (.ite (.o2 .eq (.v 7) (.c (.str ⟨#[10]⟩))) (.tup (.cons (.addD false (.v 3) (.c (.int 1))) (.cons (.c (.int 1)) (.nil)))) (.tup (.cons (.v 3) (.cons (.addD false (.v 4) (.c (.int 1))) (.nil)))))) (.cons (.asg (.v 5) (.addD false (.v 5) (.c (.int 1)))) (.cons (.cont) (.nil)))) (.nil)) (.cons (.asg (.v 8) (.c (.int 1))) (.cons (.if_ (.o2 .in_ (.v 7) (.v 6)) (.cons (.for_ (.v 11) (.range1 (.o1 .len (.v 0))) (.cons (.if_ (.and_ (.o2 .lt (.addD false (.v 5) (.v 8)) (.o1 .len (.v 0))) (.o2 .in_ (.o2 .idx (.v 0) (.addD false (.v 5) (.v 8))) (.v 6))) (.cons (.asg (.v 8) (.addD false (.v 8) (.c (.int 1)))) (.nil)) (.nil)) (.nil))) (.nil)) (.nil)) (.cons (.asg (.v 9) (.slD false (.v 0) (.some (.v 5)) (.some (.addD false (.v 5) (.v 8))))) (.cons (.asg (.v 10) (.ite (.o2 .in_ (.v 9) (.mk false (.disp (.cons (.c (.str ⟨#[123]⟩)) (.cons (.c (.str ⟨#[125]⟩)) (.cons (.c (.str ⟨#[61]⟩)) (.cons (.c (.str ⟨#[59]⟩)) (.cons (.c (.str ⟨#[44]⟩)) (.cons (.c (.str ⟨#[43]⟩)) (.cons (.c (.str ⟨#[45]⟩)) (.cons (.c (.str ⟨#[60]⟩)) (.nil)))))))))))) (.c (.str ⟨#[115, 105, 103, 110]⟩)) (.ite (.o2 .in_ (.v 7) (.v 6)) (.call 44 (.cons (.v 9) (.nil))) (.c .non)))) (.cons (.if_ (.o2 .is_ (.v 10) (.c .non)) (.cons (.ret (.tup (.cons (.mk false (.disp (.cons (.c (.str ⟨#[114, 101, 97, 100]⟩)) (.cons (.v 3) (.cons (.v 4) (.nil)))))) (.cons (.c .non) (.nil))))) (.nil)) (.nil)) (.cons (.ex (.mut .append (.v 2) (.cons (.tup (.cons (.v 10) (.cons (.v 9) (.cons (.tup (.cons (.v 3) (.cons (.v 4) (.nil)))) (.nil))))) (.nil)))) (.cons (.par [5, 4] (.cons (.addD false (.v 5) (.v 8)) (.cons (.addD false (.v 4) (.v 8)) (.nil)))) (.nil))))))))))))) (.cons (.ret (.tup (.cons (.c .non) (.cons (.o1 .tuple (.addD false (.v 2) (.mk false (.disp (.cons (.tup (.cons (.c (.str ⟨#[101, 110, 100]⟩)) (.cons (.c (.str ⟨#[]⟩)) (.cons (.tup (.cons (.v 3) (.cons (.v 4) (.nil)))) (.nil))))) (.nil)))))) (.nil))))) (.nil)))
/-- _law_is_told: slots text told due -/
def b46 : MB := .cons (.asg (.t (.cons (.v 1) (.cons (.v 2) (.nil)))) (.tup (.cons (.mk true (.disp (.nil))) (.cons (.call 45 (.cons (.v 0) (.nil))) (.nil))))) (.cons (.if_ (.o2 .ne (.thunk 40 (.mut .append (.v 1) (.cons (.call 36 (.cons (.v 0) (.nil))) (.nil)))) (.o2 .idx (.v 2) (.c (.int 0)))) (.cons (.ret (.c (.bl false))) (.nil)) (.nil)) (.cons (.ret (.or_ (.o2 .isn (.o2 .idx (.v 2) (.c (.int 0))) (.c .non)) (.call 21 (.cons (.o2 .idx (.v 1) (.c (.int 0))) (.cons (.o2 .idx (.v 2) (.c (.int 1))) (.nil)))))) (.nil)))
/-- law: slots script pen lap value odd names right wrong text turn word -/
def b47 : MB := .cons (.asg (.v 1) (.call 18 (.cons (.v 0) (.nil)))) (.cons (.for_ (.v 2) (.range1 (.c (.int 6))) (.cons (.asg (.v 5) (.call 39 (.cons (.v 1) (.cons (.c (.int 3)) (.nil))))) (.cons (.asg (.v 6) (.addD false (.addD false (.v 5) (.call 41 (.nil))) (.mk false (.disp (.cons (.c (.str ⟨#[48]⟩)) (.cons (.c (.str ⟨#[55]⟩)) (.cons (.c (.str ⟨#[49, 48]⟩)) (.cons (.c (.str ⟨#[51, 48, 53]⟩)) (.cons (.c (.str ⟨#[57, 57, 57]⟩)) (.cons (.c (.str ⟨#[123]⟩)) (.cons (.c (.str ⟨#[125]⟩)) (.cons (.c (.str ⟨#[61]⟩)) (.cons (.c (.str ⟨#[59]⟩)) (.cons (.c (.str ⟨#[44]⟩)) (.cons (.c (.str ⟨#[43]⟩)) (.cons (.c (.str ⟨#[45]⟩)) (.cons (.c (.str ⟨#[60]⟩)) (.cons (.c (.str ⟨#[97, 98, 99, 100, 101, 102, 103, 104, 105, 106, 107, 108]⟩)) (.nil))))))))))))))))))) (.cons (.asg (.v 7) (.mk false (.disp (.cons (.c (.str ⟨#[48, 49]⟩)) (.cons (.c (.str ⟨#[48, 48]⟩)) (.cons (.c (.str ⟨#[49, 48, 48, 48]⟩)) (.cons (.c (.str ⟨#[49, 97]⟩)) (.cons (.c (.str ⟨#[97, 98, 99, 100, 101, 102, 103, 104, 105, 106, 107, 108, 109]⟩)) (.cons (.c (.str ⟨#[100, 101, 101, 100, 100, 101, 101, 100, 100, 101, 101, 100, 49]⟩)) (.cons (.c (.str ⟨#[65]⟩)) (.cons (.c (.str ⟨#[95]⟩)) (.cons (.c (.str ⟨#[97, 46, 98]⟩)) (.cons (.c (.str ⟨#[46]⟩)) (.cons (.c (.str ⟨#[91]⟩)) (.cons (.c (.str ⟨#[9]⟩)) (.cons (.c (.str ⟨#[42]⟩)) (.cons (.c (.str ⟨#[97, 95]⟩)) (.nil)))))))))))))))))) (.cons (.asg (.v 8) (.c (.str ⟨#[]⟩))) (.cons (.for_ (.v 9) (.range1 (.call 19 (.cons (.v 1) (.cons (.c (.int 25)) (.nil))))) (.cons (.asg (.v 10) (.ite (.o2 .gt (.call 19 (.cons (.v 1) (.cons (.c (.int 12)) (.nil)))) (.c (.int 0))) (.call 20 (.cons (.v 1) (.cons (.v 6) (.nil)))) (.call 20 (.cons (.v 1) (.cons (.v 7) (.nil)))))) (.cons (.asg (.v 8) (.addD false (.addD false (.v 8) (.v 10)) (.call 20 (.cons (.v 1) (.cons (.mk false (.disp (.cons (.c (.str ⟨#[32]⟩)) (.cons (.c (.str ⟨#[32]⟩)) (.cons (.c (.str ⟨#[10]⟩)) (.cons (.c (.str ⟨#[]⟩)) (.cons (.c (.str ⟨#[32, 32]⟩)) (.cons (.c (.str ⟨#[32, 35, 32, 120, 32, 125, 32, 48, 49, 10]⟩)) (.cons (.c (.str ⟨#[35, 10]⟩)) (.cons (.c (.str ⟨#[10, 10]⟩)) (.nil))))))))))) (.nil)))))) (.nil)))) (.cons (.if_ (.or_ (.not_ (.call 46 (.cons (.v 8) (.nil)))) (.not_ (.call 46 (.cons (.addD false (.v 8) (.call 20 (.cons (.v 1) (.cons (.mk false (.disp (.cons (.c (.str ⟨#[35]⟩)) (.cons (.c (.str ⟨#[35, 32, 101, 110, 100]⟩)) (.cons (.c (.str ⟨#[32]⟩)) (.cons (.c (.str ⟨#[10]⟩)) (.cons (.c (.str ⟨#[10, 32]⟩)) (.cons (.c (.str ⟨#[35, 32, 97, 10, 35, 98]⟩)) (.nil))))))))) (.nil))))) (.nil))))) (.cons (.ret (.c (.bl false))) (.nil)) (.nil)) (.nil)))))))) (.cons (.for_ (.v 3) (.e (.mk false (.disp (.cons (.c (.str ⟨#[]⟩)) (.cons (.c (.str ⟨#[32]⟩)) (.cons (.c (.str ⟨#[10]⟩)) (.cons (.c (.str ⟨#[35]⟩)) (.cons (.c (.str ⟨#[97, 35, 98, 10, 99]⟩)) (.cons (.c (.str ⟨#[123, 125, 61, 59, 44, 43, 45, 60]⟩)) (.cons (.c (.str ⟨#[97, 45, 49]⟩)) (.cons (.c (.str ⟨#[100, 101, 101, 100, 50]⟩)) (.cons (.c (.str ⟨#[50, 100, 101, 101, 100]⟩)) (.cons (.c (.str ⟨#[107, 101, 112, 116]⟩)) (.cons (.c (.str ⟨#[107, 101, 112, 116, 120]⟩)) (.nil))))))))))))))) (.cons (.if_ (.not_ (.call 46 (.cons (.v 3) (.nil)))) (.cons (.ret (.c (.bl false))) (.nil)) (.nil)) (.nil))) (.cons (.asg (.v 4) (.call 20 (.cons (.v 1) (.cons (.mk false (.disp (.cons (.c .non) (.cons (.c (.int 5)) (.cons (.tup (.nil)) (.cons (.mk false (.disp (.cons (.c (.str ⟨#[100, 101, 101, 100]⟩)) (.nil)))) (.cons (.c (.bl true)) (.cons (.mk false (.ddisp (.nil))) (.nil))))))))) (.nil))))) (.cons (.if_ (.o2 .ne (.thunk 40 (.call 36 (.cons (.v 4) (.nil)))) (.mk false (.disp (.cons (.c (.str ⟨#[114, 101, 97, 100]⟩)) (.cons (.c (.int 0)) (.cons (.c (.int 0)) (.nil))))))) (.cons (.ret (.c (.bl false))) (.nil)) (.nil)) (.cons (.for_ (.v 3) (.e (.addD false (.addD false (.call 39 (.cons (.v 1) (.cons (.c (.int 3)) (.nil)))) (.call 41 (.nil))) (.mk false (.disp (.cons (.c (.str ⟨#[]⟩)) (.cons (.mulD false (.c (.str ⟨#[97]⟩)) (.c (.int 12))) (.cons (.mulD false (.c (.str ⟨#[97]⟩)) (.c (.int 13))) (.cons (.c (.str ⟨#[49, 97]⟩)) (.cons (.c (.str ⟨#[97, 49]⟩)) (.cons (.c (.str ⟨#[65]⟩)) (.cons (.c (.str ⟨#[97, 32, 98]⟩)) (.cons (.c (.str ⟨#[97, 10]⟩)) (.cons (.c .non) (.cons (.c (.int 5)) (.cons (.c (.bl true)) (.cons (.tup (.nil)) (.cons (.mk false (.disp (.cons (.c (.str ⟨#[97]⟩)) (.nil)))) (.cons (.c (.str ⟨#[55]⟩)) (.cons (.c (.str ⟨#[45]⟩)) (.nil)))))))))))))))))))) (.cons (.if_ (.not_ (.call 21 (.cons (.call 30 (.cons (.v 3) (.nil))) (.cons (.call 42 (.cons (.v 3) (.nil))) (.nil))))) (.cons (.ret (.c (.bl false))) (.nil)) (.nil)) (.nil))) (.cons (.ret (.c (.bl true))) (.nil)))))))
end EVU
namespace K02
open PySem PySem.Spec PyProof.Rows L2 EV
def top (i : Nat) : Stmt := PySem.Challenge.pw_evenifstopped_k02_whole_tokens.main.body.getD i (.Pass ⟨0, 0, 0, 0⟩)
/-- is_run_sign -/
def r27 : FnR := ⟨{ d := ⟨("is_run_sign", none), "is_run_sign", "is_run_sign", defArgs (top 19), defBody (top 19), defScope (top 19), [], []⟩, N := ["sign"], ps := ["sign"], th := none, lam := false }, ⟨1, 1, EVU.b27, .plain⟩, []⟩
/-- is_numeral -/
def r28 : FnR := ⟨{ d := ⟨("is_numeral", none), "is_numeral", "is_numeral", defArgs (top 20), defBody (top 20), defScope (top 20), [], []⟩, N := ["run", "sign"], ps := ["run"], th := none, lam := false }, ⟨1, 2, EVU.b28, .plain⟩, []⟩
/-- kind_of -/
def r29 : FnR := ⟨{ d := ⟨("kind_of", none), "kind_of", "kind_of", defArgs (top 21), defBody (top 21), defScope (top 21), [], []⟩, N := ["run"], ps := ["run"], th := none, lam := false }, ⟨1, 1, EVU.b29, .plain⟩, []⟩
/-- is_name -/
def r30 : FnR := ⟨{ d := ⟨("is_name", none), "is_name", "is_name", defArgs (top 22), defBody (top 22), defScope (top 22), [], []⟩, N := ["value", "sign"], ps := ["value"], th := none, lam := false }, ⟨1, 2, EVU.b30, .plain⟩, []⟩
/-- Scanner.__init__ -/
def r31 : FnR := ⟨{ d := ⟨("Scanner", some "__init__"), "__init__", "Scanner.__init__", defArgs (inClass (top 23) 0), defBody (inClass (top 23) 0), defScope (inClass (top 23) 0), [], []⟩, N := ["self", "text"], ps := ["self", "text"], th := none, lam := false }, ⟨2, 2, EVU.b31, .plain⟩, []⟩
/-- Scanner.is_over -/
def r32 : FnR := ⟨{ d := ⟨("Scanner", some "is_over"), "is_over", "Scanner.is_over", defArgs (inClass (top 23) 1), defBody (inClass (top 23) 1), defScope (inClass (top 23) 1), [], []⟩, N := ["self"], ps := ["self"], th := none, lam := false }, ⟨1, 1, EVU.b32, .plain⟩, []⟩
/-- Scanner.skip -/
def r33 : FnR := ⟨{ d := ⟨("Scanner", some "skip"), "skip", "Scanner.skip", defArgs (inClass (top 23) 2), defBody (inClass (top 23) 2), defScope (inClass (top 23) 2), [], []⟩, N := ["self", "many"], ps := ["self", "many"], th := none, lam := false }, ⟨2, 2, EVU.b33, .plain⟩, []⟩
/-- Scanner.pass_gap -/
def r34 : FnR := ⟨{ d := ⟨("Scanner", some "pass_gap"), "pass_gap", "Scanner.pass_gap", defArgs (inClass (top 23) 3), defBody (inClass (top 23) 3), defScope (inClass (top 23) 3), [], []⟩, N := ["self", "sign"], ps := ["self"], th := none, lam := false }, ⟨1, 2, EVU.b34, .plain⟩, []⟩
/-- Scanner.token -/
def r35 : FnR := ⟨{ d := ⟨("Scanner", some "token"), "token", "Scanner.token", defArgs (inClass (top 23) 4), defBody (inClass (top 23) 4), defScope (inClass (top 23) 4), [], []⟩, N := ["self", "word", "kind", "place", "many"], ps := ["self"], th := none, lam := false }, ⟨1, 5, EVU.b35, .plain⟩, []⟩
/-- tokens -/
def r36 : FnR := ⟨{ d := ⟨("tokens", none), "tokens", "tokens", defArgs (top 24), defBody (top 24), defScope (top 24), [], []⟩, N := ["text", "scanner", "found"], ps := ["text"], th := none, lam := false }, ⟨1, 3, EVU.b36, .pure⟩, []⟩
/-- _law_pen -/
def r18 : FnR := ⟨{ d := ⟨("_law_pen", none), "_law_pen", "_law_pen", defArgs (top 26), defBody (top 26), defScope (top 26), [], []⟩, N := ["script", "fold", "cell"], ps := ["script"], th := none, lam := false }, ⟨1, 3, EVU.b18, .plain⟩, []⟩
/-- _law_draw -/
def r19 : FnR := ⟨{ d := ⟨("_law_draw", none), "_law_draw", "_law_draw", defArgs (top 27), defBody (top 27), defScope (top 27), [], []⟩, N := ["pen", "many", "blend", "cell", "digit"], ps := ["pen", "many"], th := none, lam := false }, ⟨2, 5, EVU.b19, .plain⟩, []⟩
/-- _law_pick -/
def r20 : FnR := ⟨{ d := ⟨("_law_pick", none), "_law_pick", "_law_pick", defArgs (top 28), defBody (top 28), defScope (top 28), [], []⟩, N := ["pen", "some"], ps := ["pen", "some"], th := none, lam := false }, ⟨2, 2, EVU.b20, .plain⟩, []⟩
/-- _law_shuffled -/
def r37 : FnR := ⟨{ d := ⟨("_law_shuffled", none), "_law_shuffled", "_law_shuffled", defArgs (top 29), defBody (top 29), defScope (top 29), [], []⟩, N := ["pen", "some", "lap", "left", "found"], ps := ["pen", "some"], th := none, lam := false }, ⟨2, 5, EVU.b37, .trim⟩, []⟩
/-- _law_name -/
def r38 : FnR := ⟨{ d := ⟨("_law_name", none), "_law_name", "_law_name", defArgs (top 30), defBody (top 30), defScope (top 30), [], []⟩, N := ["pen", "index", "word", "spot", "place"], ps := ["pen", "index"], th := none, lam := false }, ⟨2, 5, EVU.b38, .plain⟩, []⟩
/-- _law_names -/
def r39 : FnR := ⟨{ d := ⟨("_law_names", none), "_law_names", "_law_names", defArgs (top 31), defBody (top 31), defScope (top 31), [], []⟩, N := ["pen", "many", "index"], ps := ["pen", "many"], th := none, lam := false }, ⟨2, 3, EVU.b39, .plain⟩, []⟩
/-- _law_same -/
def r21 : FnR := ⟨{ d := ⟨("_law_same", none), "_law_same", "_law_same", defArgs (top 32), defBody (top 32), defScope (top 32), [], []⟩, N := ["told", "due", "one", "two"], ps := ["told", "due"], th := none, lam := false }, ⟨2, 4, EVU.b21, .pure⟩, []⟩
/-- _law_why -/
def r40 : FnR := ⟨{ d := ⟨("_law_why", none), "_law_why", "_law_why", defArgs (top 33), defBody (top 33), defScope (top 33), [], []⟩, N := ["call", "found", "error"], ps := ["call"], th := some "call", lam := false }, ⟨1, 3, EVU.b40, .plain⟩, []⟩
/-- _law_keys -/
def r41 : FnR := ⟨{ d := ⟨("_law_keys", none), "_law_keys", "_law_keys", defArgs (top 34), defBody (top 34), defScope (top 34), [], []⟩, N := [], ps := [], th := none, lam := false }, ⟨0, 0, EVU.b41, .plain⟩, []⟩
/-- _law_is_name -/
def r42 : FnR := ⟨{ d := ⟨("_law_is_name", none), "_law_is_name", "_law_is_name", defArgs (top 35), defBody (top 35), defScope (top 35), [], []⟩, N := ["value", "sign"], ps := ["value"], th := none, lam := false }, ⟨1, 2, EVU.b42, .plain⟩, []⟩
/-- _law_is_number -/
def r43 : FnR := ⟨{ d := ⟨("_law_is_number", none), "_law_is_number", "_law_is_number", defArgs (top 36), defBody (top 36), defScope (top 36), [], []⟩, N := ["word", "sign"], ps := ["word"], th := none, lam := false }, ⟨1, 2, EVU.b43, .plain⟩, []⟩
/-- _law_kind_of_word -/
def r44 : FnR := ⟨{ d := ⟨("_law_kind_of_word", none), "_law_kind_of_word", "_law_kind_of_word", defArgs (top 37), defBody (top 37), defScope (top 37), [], []⟩, N := ["word"], ps := ["word"], th := none, lam := false }, ⟨1, 1, EVU.b44, .plain⟩, []⟩
/-- _law_due -/
def r45 : FnR := ⟨{ d := ⟨("_law_due", none), "_law_due", "_law_due", defArgs (top 38), defBody (top 38), defScope (top 38), [], []⟩, N := ["text", "lap", "found", "line", "column", "at", "run", "sign", "many", "word", "kind", "step"], ps := ["text"], th := none, lam := false }, ⟨1, 12, EVU.b45, .pure⟩, []⟩
/-- _law_is_told -/
def r46 : FnR := ⟨{ d := ⟨("_law_is_told", none), "_law_is_told", "_law_is_told", defArgs (top 39), defBody (top 39), defScope (top 39), [], []⟩, N := ["text", "told", "due"], ps := ["text"], th := none, lam := true }, ⟨1, 3, EVU.b46, .pure⟩, []⟩
/-- law -/
def r47 : FnR := ⟨{ d := ⟨("law", none), "law", "law", defArgs (top 40), defBody (top 40), defScope (top 40), [], []⟩, N := ["script", "pen", "lap", "value", "odd", "names", "right", "wrong", "text", "turn", "word"], ps := ["script"], th := none, lam := true }, ⟨1, 11, EVU.b47, .plain⟩, []⟩
def er0 : ErE := { c := 1, fs := [0, 1], e := { d := ⟨("BadText", some "__init__"), "__init__", "BadText.__init__", defArgs (inClass (top 2) 0), defBody (inClass (top 2) 0), defScope (inClass (top 2) 0), [], []⟩, N := ["self", "line", "word"], ps := ["self", "line", "word"], th := none, lam := false } }
def er1 : ErE := { c := 2, fs := [0, 2], e := { d := ⟨("Misread", some "__init__"), "__init__", "Misread.__init__", defArgs (inClass (top 3) 0), defBody (inClass (top 3) 0), defScope (inClass (top 3) 0), [], []⟩, N := ["self", "line", "column"], ps := ["self", "line", "column"], th := none, lam := false } }
def er2 : ErE := { c := 3, fs := [0, 2, 3, 4], e := { d := ⟨("Misplaced", some "__init__"), "__init__", "Misplaced.__init__", defArgs (inClass (top 4) 0), defBody (inClass (top 4) 0), defScope (inClass (top 4) 0), [], []⟩, N := ["self", "line", "column", "why", "name"], ps := ["self", "line", "column", "why", "name"], th := none, lam := false } }
def er3 : ErE := { c := 4, fs := [4], e := { d := ⟨("BadName", some "__init__"), "__init__", "BadName.__init__", defArgs (inClass (top 5) 0), defBody (inClass (top 5) 0), defScope (inClass (top 5) 0), [], []⟩, N := ["self", "name"], ps := ["self", "name"], th := none, lam := false } }
def er4 : ErE := { c := 5, fs := [5, 6], e := { d := ⟨("BadNumber", some "__init__"), "__init__", "BadNumber.__init__", defArgs (inClass (top 6) 0), defBody (inClass (top 6) 0), defScope (inClass (top 6) 0), [], []⟩, N := ["self", "what", "number"], ps := ["self", "what", "number"], th := none, lam := false } }
def er5 : ErE := { c := 6, fs := [5, 7], e := { d := ⟨("BadRow", some "__init__"), "__init__", "BadRow.__init__", defArgs (inClass (top 7) 0), defBody (inClass (top 7) 0), defScope (inClass (top 7) 0), [], []⟩, N := ["self", "what", "row"], ps := ["self", "what", "row"], th := none, lam := false } }
def er6 : ErE := { c := 8, fs := [4], e := { d := ⟨("TakenName", some "__init__"), "__init__", "TakenName.__init__", defArgs (inClass (top 8) 0), defBody (inClass (top 8) 0), defScope (inClass (top 8) 0), [], []⟩, N := ["self", "name"], ps := ["self", "name"], th := none, lam := false } }
def er7 : ErE := { c := 9, fs := [5], e := { d := ⟨("Unlike", some "__init__"), "__init__", "Unlike.__init__", defArgs (inClass (top 9) 0), defBody (inClass (top 9) 0), defScope (inClass (top 9) 0), [], []⟩, N := ["self", "what"], ps := ["self", "what"], th := none, lam := false } }
def er8 : ErE := { c := 10, fs := [5], e := { d := ⟨("NotThere", some "__init__"), "__init__", "NotThere.__init__", defArgs (inClass (top 10) 0), defBody (inClass (top 10) 0), defScope (inClass (top 10) 0), [], []⟩, N := ["self", "what"], ps := ["self", "what"], th := none, lam := false } }
def er9 : ErE := { c := 11, fs := [5, 8, 9], e := { d := ⟨("TooMany", some "__init__"), "__init__", "TooMany.__init__", defArgs (inClass (top 11) 0), defBody (inClass (top 11) 0), defScope (inClass (top 11) 0), [], []⟩, N := ["self", "what", "many", "limit"], ps := ["self", "what", "many", "limit"], th := none, lam := false } }
def g0 : D := (.tup [(.str ⟨#[100, 101, 101, 100]⟩), (.str ⟨#[107, 101, 112, 116]⟩), (.str ⟨#[112, 97, 115, 115, 105, 110, 103]⟩), (.str ⟨#[98, 111, 120]⟩), (.str ⟨#[112, 97, 114, 116]⟩), (.str ⟨#[115, 101, 116]⟩), (.str ⟨#[112, 111, 115, 116]⟩), (.str ⟨#[105, 102]⟩), (.str ⟨#[101, 108, 115, 101]⟩)])
def g1 : D := (.tup [(.str ⟨#[123]⟩), (.str ⟨#[125]⟩), (.str ⟨#[44]⟩), (.str ⟨#[59]⟩), (.str ⟨#[61]⟩), (.str ⟨#[60]⟩), (.str ⟨#[43]⟩), (.str ⟨#[45]⟩)])
def g2 : D := (.str ⟨#[97, 98, 99, 100, 101, 102, 103, 104, 105, 106, 107, 108, 109, 110, 111, 112, 113, 114, 115, 116, 117, 118, 119, 120, 121, 122]⟩)
def g3 : D := (.str ⟨#[48, 49, 50, 51, 52, 53, 54, 55, 56, 57]⟩)
def g4 : D := (.int 12)
def g5 : D := (.int 3)
def tb : Tb where
  fn := (.nd (.nd (.nd (.nd (.nd .lf 18 r18 .lf) 19 r19 (.nd .lf 20 r20 .lf)) 21 r21 (.nd (.nd .lf 27 r27 .lf) 28 r28 .lf)) 29 r29 (.nd (.nd (.nd .lf 30 r30 .lf) 31 r31 .lf) 32 r32 (.nd (.nd .lf 33 r33 .lf) 34 r34 .lf))) 35 r35 (.nd (.nd (.nd (.nd .lf 36 r36 .lf) 37 r37 (.nd .lf 38 r38 .lf)) 39 r39 (.nd (.nd .lf 40 r40 .lf) 41 r41 .lf)) 42 r42 (.nd (.nd (.nd .lf 43 r43 .lf) 44 r44 .lf) 45 r45 (.nd (.nd .lf 46 r46 .lf) 47 r47 .lf))))
  ers := ([er0, er1, er2, er3, er4, er5, er6, er7, er8, er9] : List ErE)
  cls := (.nd (.nd (.nd (.nd .lf 0 "DeedError" .lf) 1 "BadText" (.nd .lf 2 "Misread" .lf)) 3 "Misplaced" (.nd (.nd .lf 4 "BadName" .lf) 5 "BadNumber" .lf)) 6 "BadRow" (.nd (.nd (.nd .lf 8 "TakenName" .lf) 9 "Unlike" .lf) 10 "NotThere" (.nd (.nd .lf 11 "TooMany" .lf) 20 "Scanner" .lf)))
  fld := EVU.fields
  glo := (.nd (.nd (.nd .lf 0 ("KEYS", g0) .lf) 1 ("SIGNS", g1) (.nd .lf 2 ("LETTERS", g2) .lf)) 3 ("FIGURES", g3) (.nd (.nd .lf 4 ("LONGEST_NAME", g4) .lf) 5 ("LONGEST_NUMBER", g5) .lf))
  bi := (["len", "tuple", "int", "str", "all", "list", "max", "isinstance", "range", "zip", "repr", "bool"] : List Str)
  tys := ([("tuple", .tuple), ("int", .int), ("str", .str), ("bool", .bool)] : List (Str × Ty))
  mts := ([(20, 22, 32), (20, 21, 33), (20, 23, 34), (20, 25, 35)] : List (Nat × Nat × Nat))
  ini := ([(20, 31)] : List (Nat × Nat))
  fok := ([(0, []), (1, [0, 1]), (2, [0, 2]), (3, [0, 2, 3, 4]), (4, [4]), (5, [5, 6]), (6, [5, 7]), (8, [4]), (9, [5]), (10, [5]), (11, [5, 8, 9]), (20, [19, 20, 0, 2])] : List (Nat × List Nat))
  exs := [0, 1, 2, 3, 4, 5, 6, 8, 9, 10, 11]
  sub := ([(0, 0), (1, 1), (1, 0), (2, 2), (2, 0), (3, 3), (3, 0), (4, 4), (4, 0), (5, 5), (5, 0), (6, 6)] : List (Nat × Nat)) ++ ([(6, 0), (8, 8), (8, 0), (9, 9), (9, 0), (10, 10), (10, 0), (11, 11), (11, 0)] : List (Nat × Nat))
def lawNo : Nat := 47
def names : List Str := (["DeedError", "BadText", "Misread", "Misplaced", "BadName", "BadNumber", "BadRow", "TakenName", "Unlike", "NotThere", "TooMany", "KEYS"] : List Str) ++ (["SIGNS", "LETTERS", "FIGURES", "LONGEST_NAME", "LONGEST_NUMBER", "is_run_sign", "is_numeral", "kind_of", "is_name", "Scanner", "tokens", "_law_pen"] : List Str) ++ (["_law_draw", "_law_pick", "_law_shuffled", "_law_name", "_law_names", "_law_same", "_law_why", "_law_keys", "_law_is_name", "_law_is_number", "_law_kind_of_word", "_law_due"] : List Str) ++ (["_law_is_told"] : List Str)
def prog : Prog := tb.prog
def law (k : Nat) (ns : List Int) : Rs D := fnk prog k lawNo [.scr (ns.map .int)] []
end K02
set_option Elab.async false
set_option linter.all false
set_option maxRecDepth 100000
set_option maxHeartbeats 4000000
namespace K02
open PySem EV
local macro_rules | `(tactic| walk_at "t") => `(tactic| first
  | (refine t_tr ?_; rfl)
  | (refine t_fa ?_; rfl)
  | exact t_bl (decide_eq_true (by first | assumption | omega | (simp only [List.length_map] at *; omega)))
  | exact t_bl (decide_eq_false (by first | assumption | omega | (simp only [List.length_map] at *; omega))))
local macro_rules | `(tactic| walk_at "o") => `(tactic| first
  | exact o_eqi | exact o_nei
  | exact o_idx rfl (by first | assumption | decide | omega) (by first | assumption | exact rfl)
  | exact o_p18
  | exact o_eqb | exact o_neb
  | exact o_eqs (by first | assumption | decide) (by first | assumption | decide)
  | exact o_mulr (by decide) | exact o_mull (by decide)
  | exact o_mod (by first | decide | assumption | omega)
  | exact o_fdiv (by first | decide | assumption | omega) (by first | decide | assumption | omega)
  | exact rfl)
local macro_rules | `(tactic| walk_at "add") => `(tactic| first
  | exact add_int
  | exact add_str (by walk_at "size")
  | exact add_tup (by walk_at "size")
  | exact add_lstv rfl rfl (by walk_at "size")
  | exact add_lst rfl rfl (by walk_at "size"))
local macro_rules | `(tactic| walk_at "size") => `(tactic| first | decide | exact Nat.le_of_ble_eq_true rfl | (simp only [List.length_cons, List.length_nil, List.length_map, List.length_append, sizeLine]; omega))
local macro_rules | `(tactic| walk_at "mul") => `(tactic| first
  | exact mul_lstv rfl (by first | decide | exact rfl)
  | ((first | apply mul_int | apply mul_tup) <;> walk_at "o"))
local macro_rules | `(tactic| walk_at "es") => `(tactic| first
  | with_reducible exact rs_nil
  | ((with_reducible apply rs_cons); walk_at "e"; walk_at "es"))
local macro_rules | `(tactic| walk_at "eO") => `(tactic| first
  | with_reducible exact rO_none
  | ((with_reducible apply rO_some); walk_at "e"))
local macro_rules | `(tactic| walk_at "eC") => `(tactic| first
  | ((with_reducible apply rC_disp); walk_at "es"; walk_at "size")
  | ((with_reducible apply rC_lof); walk_at "e"; exact rfl))
local macro_rules | `(tactic| walk_at "call") => `(tactic| assumption)
local macro_rules | `(tactic| walk_at "e") => `(tactic| first
  | with_reducible exact r_c
  | ((with_reducible apply r_v); exact rfl)
  | ((with_reducible apply r_g); exact rfl)
  | ((with_reducible apply r_o2); walk_at "e"; walk_at "e"; walk_at "o")
  | ((with_reducible apply r_o1); walk_at "e"; walk_at "o")
  | ((with_reducible apply r_addX); walk_at "e"; walk_at "e"; walk_at "add")
  | ((with_reducible apply r_mulX); walk_at "e"; walk_at "e"; walk_at "mul")
  | ((with_reducible apply r_and); walk_at "e"; walk_at "t"; first | (show ev _ _ _ _ = _; walk_at "e") | exact rfl)
  | ((with_reducible apply r_or); walk_at "e"; walk_at "t"; first | (show ev _ _ _ _ = _; walk_at "e") | exact rfl)
  | ((with_reducible apply r_not); walk_at "e"; walk_at "t")
  | ((with_reducible apply r_ite); walk_at "e"; walk_at "t"; show ev _ _ _ _ = _; walk_at "e")
  | ((with_reducible apply r_isi); walk_at "e"; exact rfl; exact rfl)
  | ((with_reducible apply r_tup); walk_at "es"; walk_at "size")
  | ((with_reducible apply r_mkv); walk_at "eC")
  | ((with_reducible apply r_mkl); walk_at "eC")
  | ((with_reducible apply r_att); walk_at "e"; exact rfl; exact rfl; exact rfl)
  | ((with_reducible apply r_call0); walk_at "es"; exact rfl; exact rfl; walk_at "call")
  | ((with_reducible apply r_call); walk_at "es"; exact rfl; walk_at "call"))
local macro_rules | `(tactic| walk_at "asg") => `(tactic| first
  | ((with_reducible apply a_v); simp)
  | ((with_reducible apply a_ix); walk_at "e"; walk_at "e"; walk_at "set")
  | ((with_reducible apply a_att); walk_at "e"; walk_at "set")
  | ((with_reducible apply a_t); walk_at "asgs"))
local macro_rules | `(tactic| walk_at "asgs") => `(tactic| first
  | with_reducible exact as_nil
  | ((with_reducible apply as_cons); walk_at "asg"; walk_at "asgs"))
local macro_rules | `(tactic| walk_at "set") => `(tactic| exact rfl)
local macro_rules | `(tactic| walk_at "x") => `(tactic| first
  | ((with_reducible apply x_asg); walk_at "e"; walk_at "asg")
  | ((with_reducible apply x_ret); walk_at "e")
  | with_reducible exact x_retN
  | ((with_reducible apply x_ex); walk_at "e")
  | ((with_reducible apply x_par); walk_at "es"; exact rfl)
  | ((with_reducible apply x_if); walk_at "e"; walk_at "t"; show execs _ _ _ _ _ = _; walk_at "xs"))
local macro_rules | `(tactic| walk_at "xs") => `(tactic| first
  | with_reducible exact xs_nil
  | ((with_reducible apply xs_c); walk_at "x"; first | (with_reducible exact Ro.nx_rt _ _ _) | (rewrite [Ro.nx_nx]; walk_at "xs")))

structure LawF (G : Prog) : Prop where
  tok : TokF G
  nam : NameF G
  same : SameFns G 21
  f40 : G.fns 40 = some ⟨1, 3, EVU.b40, .plain⟩
  f41 : G.fns 41 = some ⟨0, 0, EVU.b41, .plain⟩
  f42 : G.fns 42 = some ⟨1, 2, EVU.b42, .plain⟩
  f43 : G.fns 43 = some ⟨1, 2, EVU.b43, .plain⟩
  f44 : G.fns 44 = some ⟨1, 1, EVU.b44, .plain⟩
  f45 : G.fns 45 = some ⟨1, 12, EVU.b45, .pure⟩
  f46 : G.fns 46 = some ⟨1, 3, EVU.b46, .pure⟩
  sub22 : G.sub 2 2 = some true
  fok2 : ∀ f ∈ [0, 2], G.P.fok 2 f = true
  d : ∀ f n, 40 ≤ f → f ≤ 46 → G.P.dfl f n = []
  m0 : G.P.many 41 = 0
  m1 : ∀ f, f ∈ [40, 42, 43, 44, 45, 46] → G.P.many f = 1
section
variable {G : Prog} {k : Nat} {S : Store}
theorem LawF.keys (Z : LawF G) : fnk G (k + 1) 41 [] S = .ok (.lst (txs keysL)) S := by
  rw [fnk_plain Z.f41 rfl rfl]
  exact body_rt (xs_rt (x_ret (r_mkv (rC_disp (ds := txs keysL) (rs_cons r_c (rs_cons r_c (rs_cons r_c (rs_cons r_c (rs_cons r_c (rs_cons r_c (rs_cons r_c (rs_cons r_c (rs_cons r_c rs_nil))))))))) (Nat.le_of_ble_eq_true rfl)))))
theorem keys_ok : ∀ w ∈ keysL, okT w := by unfold okT; decide
/-- the signs that fail a test -/
theorem comp_fil {E : Ec} {e : ME} {r : List (Option D)} {p : Nat → Bool} (l : List Nat) {a : Option D} (h : ∀ c ∈ l, ev E e (a :: some (.str (sl [c])) :: r) S = .ok (.bl (p c)) S) :
    compL (compF E (.v 1) (.v 1) (.some e) [1] (a :: none :: r)) (l.map fun c => D.str (sl [c])) S [] = .ok (.lst (txs ((l.filter p).map fun c => [c]))) S := by
  suffices ∀ acc, compL (compF E (.v 1) (.v 1) (.some e) [1] (a :: none :: r)) (l.map fun c => D.str (sl [c])) S acc = .ok (.lst (acc ++ txs ((l.filter p).map fun c => [c]))) S by simpa using this []
  induction l with
  | nil => intro acc; simp [compL, txs]
  | cons c l ih =>
    intro acc
    have e' : compF E (.v 1) (.v 1) (.some e) [1] (a :: none :: r) (.str (sl [c])) S = .ok (if p c then some (.str (sl [c])) else none) S := by
      show ((evCond E (.some e) (a :: some (.str (sl [c])) :: r) S).bind fun b S2 => match b with
        | true => (ev E (.v 1) (a :: some (.str (sl [c])) :: r) S2).bind fun d S3 => .ok (some d) S3
        | false => .ok none S2) = _
      show (((ev E e (a :: some (.str (sl [c])) :: r) S).bind fun d S1 => Rs.of S1 (truth S1 d)).bind _) = _
      rw [h c (List.mem_cons_self ..)]
      cases p c <;> rfl
    rw [List.map_cons, compL, e']
    cases hp : p c with
    | true =>
      simp only [if_true]
      rw [ih (fun c hc => h c (List.mem_cons_of_mem _ hc))]
      simp [hp, txs]
    | false =>
      simp only [Bool.false_eq_true, if_false]
      rw [ih (fun c hc => h c (List.mem_cons_of_mem _ hc))]
      simp [hp, txs]
theorem fil_all (p : Nat → Bool) (l : List Nat) : decide ((l.filter p).map (fun c => [c]) = []) = l.all fun c => !p c := by
  rw [Bool.eq_iff_iff]
  simp [List.filter_eq_nil_iff]
theorem ok_fil {p : Nat → Bool} {l : List Nat} (h : okT l) : ∀ w ∈ (l.filter p).map (fun c => [c]), okT w := by
  intro w hw
  obtain ⟨c, hc, rfl⟩ := List.mem_map.mp hw
  intro x hx
  simp at hx
  subst hx
  exact h x (List.mem_filter.mp hc).1
/-- whether all signs of a text stand in a row of signs -/
theorem r_nofil {E : Ec} {w row : List Nat} {r : List (Option D)} (hw : okT w) (hl : w.length ≤ 16777216) : ev E (.o2 .eq (.mk false (.comp (.v 1) (.v 1) (.e (.v 0)) (.some (.o2 .nin (.v 1) (.c (.str (sl row))))) [1])) (.mk false (.disp .nil))) (some (.str (sl w)) :: none :: r) S = .ok (.bl (w.all fun c => decide (c ∈ row))) S := by
  have h1 : ev E (.mk false (.comp (.v 1) (.v 1) (.e (.v 0)) (.some (.o2 .nin (.v 1) (.c (.str (sl row))))) [1])) (some (.str (sl w)) :: none :: r) S = .ok (.lst (txs ((w.filter fun c => !decide (c ∈ row)).map fun c => [c]))) S :=
    r_mkv (rC_comp (S1 := S) (ls := []) (rI_e (r_v rfl) (iter_str S w)) (by rw [List.length_map]; exact hl) (comp_fil w fun c _ => r_o2 (r_v rfl) r_c (o_nin1 _ _)))
  have h2 := o_eqL (S := S) (ws := (w.filter fun c => !decide (c ∈ row)).map fun c => [c]) (vs := []) (ok_fil hw) (by simp) (by
    have := List.length_filter_le (fun c => !decide (c ∈ row)) w
    simp only [List.length_map]
    have : sizeLine = 16777216 := rfl
    omega) (Nat.zero_le _)
  rw [fil_all] at h2
  have e : (w.all fun c => !!decide (c ∈ row)) = w.all fun c => decide (c ∈ row) := by simp
  rw [e] at h2
  exact r_o2 h1 (r_mkv (rC_disp rs_nil (Nat.zero_le _))) h2
def nameB (w : List Nat) : Bool := !decide (w = []) && w.all isRun && decide (kindR w = some nName)
def lnameB (w : List Nat) : Bool := !(decide (w = []) || (decide (12 < w.length) || (decide (w ∈ keysL) || w.head?.any fun c => decide (c ∈ figuresL)))) && w.all fun c => decide (c ∈ lettersL ++ figuresL)
def lnumB (w : List Nat) : Bool := !decide (w = []) && (decide (w.length < 4) && ((w.all fun c => decide (c ∈ figuresL)) && (decide (w = [48]) || !decide (w.head? = some 48))))
theorem fig_not_let : ∀ c ∈ figuresL, c ∉ lettersL := by decide
theorem isRun_iff (c : Nat) : isRun c = true ↔ c ∈ lettersL ∨ c ∈ figuresL := by simp [isRun]
theorem name_same (w : List Nat) : nameB w = lnameB w := by
  cases w with
  | nil => rfl
  | cons c r =>
    have e : ((c :: r).all fun c => decide (c ∈ lettersL ++ figuresL)) = (c :: r).all isRun := by
      congr 1
      funext c
      rw [Bool.eq_iff_iff, isRun_iff]
      simp
    unfold nameB lnameB
    rw [e]
    cases ha : (c :: r).all isRun with
    | false => simp
    | true =>
      have hc : isRun c = true := (List.all_eq_true.mp ha) c (List.mem_cons_self ..)
      rw [isRun_iff] at hc
      unfold kindR
      by_cases h1 : c :: r ∈ keysL
      · rw [if_pos h1]
        have : nKey ≠ nName := by decide
        simp [h1, this]
      · rw [if_neg h1]
        simp only [List.head?_cons, Option.any_some]
        by_cases h2 : c ∈ lettersL
        · have h3 : c ∉ figuresL := fun q => fig_not_let c q h2
          simp only [h2, h3, decide_true, if_true]
          by_cases h4 : (c :: r).length ≤ 12
          · rw [if_pos h4]
            have h5 : ¬ 12 < (c :: r).length := by omega
            simp only [h5, h1]
            simp
          · rw [if_neg h4]
            have h5 : 12 < (c :: r).length := by omega
            simp only [h5]
            simp
        · have h3 : c ∈ figuresL := hc.resolve_left h2
          simp only [h2, h3]
          have : ∀ b : Bool, (if b = true then some nNumber else none) ≠ some nName := fun b => by cases b <;> decide
          simp [this]
theorem kind_same {w : List Nat} (h0 : w ≠ []) (ha : w.all isRun = true) : kindR w = if w ∈ keysL then some nKey else if lnameB w then some nName else if lnumB w then some nNumber else none := by
  obtain ⟨c, r, rfl⟩ : ∃ c r, w = c :: r := by cases w with
    | nil => exact absurd rfl h0
    | cons c r => exact ⟨c, r, rfl⟩
  have hc : isRun c = true := (List.all_eq_true.mp ha) c (List.mem_cons_self ..)
  rw [isRun_iff] at hc
  rw [← name_same]
  unfold nameB kindR
  rw [ha]
  by_cases h1 : c :: r ∈ keysL
  · rw [if_pos h1, if_pos h1]
  · rw [if_neg h1, if_neg h1]
    simp only [List.head?_cons, Option.any_some]
    by_cases h2 : c ∈ lettersL
    · have h3 : c ∉ figuresL := fun q => fig_not_let c q h2
      simp only [h2, decide_true, if_true]
      by_cases h4 : (c :: r).length ≤ 12
      · simp only [if_pos h4]
        simp
      · simp only [if_neg h4]
        have : lnumB (c :: r) = false := by
          unfold lnumB
          simp [h3]
        rw [this]
        simp
    · have h3 : c ∈ figuresL := hc.resolve_left h2
      simp only [h2]
      have e : numeral (c :: r) = lnumB (c :: r) := by
        unfold numeral lnumB
        rw [Bool.eq_iff_iff]
        simp only [Bool.and_eq_true, Bool.or_eq_true, decide_eq_true_eq, Bool.not_eq_true', decide_eq_false_iff_not]
        constructor
        · rintro ⟨⟨a, b⟩, c⟩; exact ⟨by simp, by omega, a, c⟩
        · rintro ⟨_, b, a, c⟩; exact ⟨⟨a, by omega⟩, c⟩
      rw [e]
      cases lnumB (c :: r) with
      | true =>
        have : nNumber ≠ nName := by decide
        simp [this]
      | false => simp
/-! ### the law's looks -/
theorem ok0 : okT [] := by intro x hx; cases hx
theorem ok48 : okT [48] := by intro x hx; simp at hx; omega
theorem LawF.isname (Z : LawF G) {w : List Nat} (hw : okT w) (hl : w.length ≤ 16777216) : fnk G (k + 2) 42 [.str (sl w)] S = .ok (.bl (lnameB w)) S := by
  rw [fnk_plain Z.f42 rfl rfl]
  show bodyOf (execs _ _ EVU.b42 [some (.str (sl w)), none] S) = _
  generalize hE : (⟨G.P, fnk G (k + 1), fnT G (k + 1), none, none⟩ : Ec) = E
  have hP : E.P = G.P := by rw [← hE]
  have hz : w.length ≤ sizeLine := hl
  have hi : ev E (.not_ (.isi (.v 0) [.str])) [some (.str (sl w)), none] S = .ok (.bl false) S := r_not (r_isi (r_v rfl) (tg := .str) rfl rfl) (t_bl rfl)
  have he : ev E (.o2 .eq (.v 0) (.c (.str (sl [])))) [some (.str (sl w)), none] S = .ok (.bl (decide (w = []))) S := r_o2 (r_v rfl) r_c (o_eqS hw ok0)
  have hln : ev E (.o2 .gt (.o1 .len (.v 0)) (.c (.int 12))) [some (.str (sl w)), none] S = .ok (.bl (decide ((12 : Int) < (w.length : Nat)))) S := by
    have e : o1 S .len (.str (sl w)) = some (.int (w.length : Nat)) := by rw [o_lenS (by rw [sl_len]; exact hz), sl_len]
    exact r_o2 (r_o1 (r_v rfl) e) r_c rfl
  have hk : ev E (.o2 .in_ (.v 0) (.call 41 .nil)) [some (.str (sl w)), none] S = .ok (.bl (decide (w ∈ keysL))) S :=
    r_o2 (r_v rfl) (r_call0 rs_nil (by rw [hP]; exact Z.d _ _ (by omega) (by omega)) (by rw [hP]; exact Z.m0.symm) (by rw [← hE]; exact Z.keys)) (o_inW (.inl rfl) hw keys_ok (by decide))
  have hrest := r_nofil (E := E) (S := S) (row := lettersL ++ figuresL) (r := []) hw hl
  have out : ∀ b c : Bool, ev E (.or_ (.not_ (.isi (.v 0) [.str])) (.or_ (.o2 .eq (.v 0) (.c (.str (sl [])))) (.or_ (.o2 .gt (.o1 .len (.v 0)) (.c (.int 12))) (.or_ (.o2 .in_ (.v 0) (.call 41 .nil)) (.o2 .in_ (.o2 .idx (.v 0) (.c (.int 0))) (.c (.str (sl figuresL)))))))) [some (.str (sl w)), none] S = .ok (.bl b) S →
      c = (!b && w.all fun c => decide (c ∈ lettersL ++ figuresL)) → bodyOf (execs E G.sub EVU.b42 [some (.str (sl w)), none] S) = .ok (.bl c) S := fun b c hb hc => by
    subst hc
    cases b with
    | true => exact body_rt (xs_rt (x_if_t hb (t_bl rfl) (xs_rt (x_ret r_c))))
    | false =>
      rw [Bool.not_false, Bool.true_and]
      exact body_rt (xs_cons (x_if_f hb (t_bl rfl) xs_nil) (xs_rt (x_ret hrest)))
  cases w with
  | nil => exact out true _ (r_or_f hi (t_bl rfl) (r_or_t he (t_bl rfl))) rfl
  | cons c r =>
    have hf : ev E (.o2 .in_ (.o2 .idx (.v 0) (.c (.int 0))) (.c (.str (sl figuresL)))) [some (.str (sl (c :: r))), none] S = .ok (.bl (decide (c ∈ figuresL))) S := r_o2 (r_o2 (r_v rfl) r_c (o_sign (i := 0) (by decide) rfl hz)) r_c (o_in1 _ _)
    have h12 : (12 : Int) < ((c :: r).length : Nat) ↔ 12 < (c :: r).length := by omega
    by_cases h1 : 12 < (c :: r).length
    · exact out true _ (r_or_f hi (t_bl rfl) (r_or_f he (t_bl rfl) (r_or_t hln (t_bl (decide_eq_true (h12.mpr h1)))) |>.trans (by rw [decide_eq_true (h12.mpr h1)]))) (by unfold lnameB; rw [decide_eq_true h1]; simp)
    · have hln' : ev E (.o2 .gt (.o1 .len (.v 0)) (.c (.int 12))) [some (.str (sl (c :: r))), none] S = .ok (.bl false) S := by rw [hln, decide_eq_false (fun q => h1 (h12.mp q))]
      by_cases h2 : c :: r ∈ keysL
      · rw [decide_eq_true h2] at hk
        exact out true _ (r_or_f hi (t_bl rfl) (r_or_f he (t_bl rfl) (r_or_f hln' (t_bl rfl) (r_or_t hk (t_bl rfl))))) (by unfold lnameB; rw [decide_eq_true h2]; simp)
      · rw [decide_eq_false h2] at hk
        exact out _ _ (r_or_f hi (t_bl rfl) (r_or_f he (t_bl rfl) (r_or_f hln' (t_bl rfl) (r_or_f hk (t_bl rfl) hf)))) (by unfold lnameB; rw [decide_eq_false h2, decide_eq_false h1]; simp)
theorem LawF.isnumber (Z : LawF G) {w : List Nat} (hw : okT w) (hl : w.length ≤ 16777216) : fnk G (k + 1) 43 [.str (sl w)] S = .ok (.bl (lnumB w)) S := by
  rw [fnk_plain Z.f43 rfl rfl]
  show bodyOf (execs _ _ EVU.b43 [some (.str (sl w)), none] S) = _
  generalize hE : (⟨G.P, fnk G k, fnT G k, none, none⟩ : Ec) = E
  have hz : w.length ≤ sizeLine := hl
  have he : ev E (.o2 .ne (.v 0) (.c (.str (sl [])))) [some (.str (sl w)), none] S = .ok (.bl (!decide (w = []))) S := r_o2 (r_v rfl) r_c (o_neS hw ok0)
  have hln : ev E (.o2 .lt (.o1 .len (.v 0)) (.c (.int 4))) [some (.str (sl w)), none] S = .ok (.bl (decide (((w.length : Nat) : Int) < 4))) S := by
    have e : o1 S .len (.str (sl w)) = some (.int (w.length : Nat)) := by rw [o_lenS (by rw [sl_len]; exact hz), sl_len]
    exact r_o2 (r_o1 (r_v rfl) e) r_c rfl
  have hrest := r_nofil (E := E) (S := S) (row := figuresL) (r := []) hw hl
  have h0 : ev E (.o2 .eq (.v 0) (.c (.str (sl [48])))) [some (.str (sl w)), none] S = .ok (.bl (decide (w = [48]))) S := r_o2 (r_v rfl) r_c (o_eqS hw ok48)
  have hd : decide (((w.length : Nat) : Int) < 4) = decide (w.length < 4) := by rw [Bool.eq_iff_iff]; simp; omega
  rw [hd] at hln
  have out : ∀ b c : Bool, ev E (.and_ (.o2 .ne (.v 0) (.c (.str (sl [])))) (.and_ (.o2 .lt (.o1 .len (.v 0)) (.c (.int 4))) (.and_ (.o2 .eq (.mk false (.comp (.v 1) (.v 1) (.e (.v 0)) (.some (.o2 .nin (.v 1) (.c (.str (sl figuresL))))) [1])) (.mk false (.disp .nil))) (.or_ (.o2 .eq (.v 0) (.c (.str (sl [48])))) (.o2 .ne (.o2 .idx (.v 0) (.c (.int 0))) (.c (.str (sl [48])))))))) [some (.str (sl w)), none] S = .ok (.bl b) S →
      c = b → bodyOf (execs E G.sub EVU.b43 [some (.str (sl w)), none] S) = .ok (.bl c) S := fun b c hb hc => by
    subst hc
    exact body_rt (xs_rt (x_ret hb))
  cases w with
  | nil => exact out false _ (r_and_f he (t_bl rfl)) rfl
  | cons c r =>
    have hc : okT [c] := fun x hx => hw x (by simp at hx; simp [hx])
    have hf : ev E (.o2 .ne (.o2 .idx (.v 0) (.c (.int 0))) (.c (.str (sl [48])))) [some (.str (sl (c :: r))), none] S = .ok (.bl (!decide ([c] = [48]))) S := r_o2 (r_o2 (r_v rfl) r_c (o_sign (i := 0) (by decide) rfl hz)) r_c (o_neS hc ok48)
    by_cases h1 : (c :: r).length < 4
    · rw [decide_eq_true h1] at hln
      cases h2 : (c :: r).all fun c => decide (c ∈ figuresL) with
      | false =>
        rw [h2] at hrest
        exact out false _ (r_and_t he (t_bl rfl) (r_and_t hln (t_bl rfl) (r_and_f hrest (t_bl rfl)))) (by unfold lnumB; rw [h2]; simp)
      | true =>
        rw [h2] at hrest
        by_cases h3 : c :: r = [48]
        · rw [decide_eq_true h3] at h0
          exact out true _ (r_and_t he (t_bl rfl) (r_and_t hln (t_bl rfl) (r_and_t hrest (t_bl rfl) (r_or_t h0 (t_bl rfl))))) (by unfold lnumB; rw [h2, decide_eq_true h1, decide_eq_true h3]; simp)
        · rw [decide_eq_false h3] at h0
          exact out _ _ (r_and_t he (t_bl rfl) (r_and_t hln (t_bl rfl) (r_and_t hrest (t_bl rfl) (r_or_f h0 (t_bl rfl) hf)))) (by unfold lnumB; rw [h2, decide_eq_true h1, decide_eq_false h3]; simp)
    · rw [decide_eq_false h1] at hln
      exact out false _ (r_and_t he (t_bl rfl) (r_and_f hln (t_bl rfl))) (by unfold lnumB; rw [decide_eq_false h1]; simp)
theorem LawF.kindw (Z : LawF G) {w : List Nat} (hw : okT w) (hl : w.length ≤ 16777216) (h0 : w ≠ []) (ha : w.all isRun = true) : fnk G (k + 3) 44 [.str (sl w)] S = .ok (optS (kindR w)) S := by
  rw [fnk_plain Z.f44 rfl rfl, kind_same h0 ha]
  show bodyOf (execs _ _ EVU.b44 [some (.str (sl w))] S) = _
  generalize hE : (⟨G.P, fnk G (k + 2), fnT G (k + 2), none, none⟩ : Ec) = E
  have hP : E.P = G.P := by rw [← hE]
  have hk : ev E (.o2 .in_ (.v 0) (.call 41 .nil)) [some (.str (sl w))] S = .ok (.bl (decide (w ∈ keysL))) S :=
    r_o2 (r_v rfl) (r_call0 rs_nil (by rw [hP]; exact Z.d _ _ (by omega) (by omega)) (by rw [hP]; exact Z.m0.symm) (by rw [← hE]; exact Z.keys)) (o_inW (.inl rfl) hw keys_ok (by decide))
  have hn : ev E (.call 42 (.cons (.v 0) .nil)) [some (.str (sl w))] S = .ok (.bl (lnameB w)) S := r_call0 (rs_cons (r_v rfl) rs_nil) (by rw [hP]; exact Z.d _ _ (by omega) (by omega)) (by rw [hP]; exact (Z.m1 42 (by decide)).symm) (by rw [← hE]; exact Z.isname hw hl)
  have hm : ev E (.call 43 (.cons (.v 0) .nil)) [some (.str (sl w))] S = .ok (.bl (lnumB w)) S := r_call0 (rs_cons (r_v rfl) rs_nil) (by rw [hP]; exact Z.d _ _ (by omega) (by omega)) (by rw [hP]; exact (Z.m1 43 (by decide)).symm) (by rw [← hE]; exact Z.isnumber hw hl)
  by_cases h1 : w ∈ keysL
  · rw [if_pos h1]
    exact body_rt (xs_rt (x_if_t hk (t_bl (decide_eq_true h1)) (xs_rt (x_ret r_c))))
  · rw [if_neg h1]
    have f1 := x_if_f (sub := G.sub) (A := .cons (.ret (.c (.str ⟨#[107, 101, 121]⟩))) .nil) hk (t_bl (decide_eq_false h1)) xs_nil
    cases h2 : lnameB w with
    | true =>
      rw [h2] at hn
      exact body_rt (xs_cons f1 (xs_rt (x_if_t hn (t_bl rfl) (xs_rt (x_ret r_c)))))
    | false =>
      rw [h2] at hn
      have f2 := x_if_f (sub := G.sub) (A := .cons (.ret (.c (.str ⟨#[110, 97, 109, 101]⟩))) .nil) hn (t_bl rfl) xs_nil
      cases h3 : lnumB w with
      | true =>
        rw [h3] at hm
        exact body_rt (xs_cons f1 (xs_cons f2 (xs_rt (x_ret (r_ite_t hm (t_bl rfl) r_c)))))
      | false =>
        rw [h3] at hm
        exact body_rt (xs_cons f1 (xs_cons f2 (xs_rt (x_ret (r_ite_f hm (t_bl rfl) r_c)))))
end
end K02
set_option Elab.async false
set_option linter.all false
set_option maxRecDepth 100000
set_option maxHeartbeats 4000000
namespace EV
open PySem
/-- the n-th statement -/
def _root_.EV.MB.nth : MB → Nat → MS
  | .cons s _, 0 => s
  | .cons _ m, n + 1 => m.nth n
  | .nil, _ => .pass
/-- what stands within -/
def _root_.EV.MS.inn : MS → MB
  | .for_ _ _ b => b
  | .while_ _ b => b
  | .if_ _ a _ => a
  | _ => .nil
def _root_.EV.MS.els : MS → MB
  | .if_ _ _ b => b
  | _ => .nil
def _root_.EV.MS.exp : MS → ME
  | .asg _ e => e
  | .ret e => e
  | .ex e => e
  | .if_ c _ _ => c
  | .while_ c _ => c
  | _ => .bad
/-- walks that break, go on, return -/
theorem forL_gen {tg : MT} {b : Env' → Store → Ro} (P : Nat → Env' → Store → Prop) (R : Ro → Prop) : ∀ (xs : List D) (i : Nat) (ρ : Env') (S : Store), P i ρ S →
    (∀ j x ρ S, xs[j]? = some x → P (i + j) ρ S → ∃ ρ1, bindT tg x ρ = some ρ1 ∧ ((∃ ρ' S', (b ρ1 S = .fl (.nx ρ') S' ∨ b ρ1 S = .fl (.ct ρ') S') ∧ P (i + j + 1) ρ' S') ∨ (∃ ρ' S', b ρ1 S = .fl (.bk ρ') S' ∧ R (.fl (.nx ρ') S')) ∨ (∃ d S', b ρ1 S = .fl (.rt d) S' ∧ R (.fl (.rt d) S')) ∨ ∃ ρ' cc fs vs S', b ρ1 S = .exc ρ' cc fs vs S' ∧ R (.exc ρ' cc fs vs S'))) →
    (∀ ρ S, P (i + xs.length) ρ S → R (.fl (.nx ρ) S)) → R (forL tg b xs ρ S)
  | [], i, ρ, S, h0, _, he => he ρ S h0
  | x :: xs, i, ρ, S, h0, hs, he => by
    obtain ⟨ρ1, h1, h2⟩ := hs 0 x ρ S rfl h0
    have next : ∀ ρ' S', P (i + 0 + 1) ρ' S' → R (forL tg b xs ρ' S') := fun ρ' S' hp => by
      refine forL_gen P R xs (i + 1) ρ' S' hp (fun j y ρ S hj hp => ?_) fun ρ S hp => he ρ S ?_
      · have := hs (j + 1) y ρ S (by simpa using hj) (by rw [show i + (j + 1) = i + 1 + j by omega]; exact hp)
        rw [show i + (j + 1) + 1 = i + 1 + j + 1 by omega] at this
        exact this
      · rw [show i + (x :: xs).length = i + 1 + xs.length by simp; omega]; exact hp
    rcases h2 with ⟨ρ', S', h2 | h2, h3⟩ | ⟨ρ', S', h2, h3⟩ | ⟨d, S', h2, h3⟩ | ⟨ρ', cc, fs, vs, S', h2, h3⟩
    · rw [forL, h1]; simp only [h2]; exact next ρ' S' h3
    · rw [forL, h1]; simp only [h2]; exact next ρ' S' h3
    · rw [forL, h1]; simp only [h2]; exact h3
    · rw [forL, h1]; simp only [h2]; exact h3
    · rw [forL, h1]; simp only [h2]; exact h3
end EV
namespace K02
open PySem EV
local macro_rules | `(tactic| walk_at "t") => `(tactic| first
  | (refine t_tr ?_; rfl)
  | (refine t_fa ?_; rfl)
  | exact t_bl (decide_eq_true (by first | assumption | omega | (simp only [List.length_map] at *; omega)))
  | exact t_bl (decide_eq_false (by first | assumption | omega | (simp only [List.length_map] at *; omega))))
local macro_rules | `(tactic| walk_at "o") => `(tactic| first
  | exact o_eqi | exact o_nei
  | exact o_idx rfl (by first | assumption | decide | omega) (by first | assumption | exact rfl)
  | exact o_p18
  | exact o_eqb | exact o_neb
  | exact o_eqs (by first | assumption | decide) (by first | assumption | decide)
  | exact o_mulr (by decide) | exact o_mull (by decide)
  | exact o_mod (by first | decide | assumption | omega)
  | exact o_fdiv (by first | decide | assumption | omega) (by first | decide | assumption | omega)
  | exact rfl)
local macro_rules | `(tactic| walk_at "add") => `(tactic| first
  | exact add_int
  | exact add_str (by walk_at "size")
  | exact add_tup (by walk_at "size")
  | exact add_lstv rfl rfl (by walk_at "size")
  | exact add_lst rfl rfl (by walk_at "size"))
local macro_rules | `(tactic| walk_at "size") => `(tactic| first | decide | exact Nat.le_of_ble_eq_true rfl | (simp only [List.length_cons, List.length_nil, List.length_map, List.length_append, sizeLine]; omega))
local macro_rules | `(tactic| walk_at "mul") => `(tactic| first
  | exact mul_lstv rfl (by first | decide | exact rfl)
  | ((first | apply mul_int | apply mul_tup) <;> walk_at "o"))
local macro_rules | `(tactic| walk_at "es") => `(tactic| first
  | with_reducible exact rs_nil
  | ((with_reducible apply rs_cons); walk_at "e"; walk_at "es"))
local macro_rules | `(tactic| walk_at "eO") => `(tactic| first
  | with_reducible exact rO_none
  | ((with_reducible apply rO_some); walk_at "e"))
local macro_rules | `(tactic| walk_at "eC") => `(tactic| first
  | ((with_reducible apply rC_disp); walk_at "es"; walk_at "size")
  | ((with_reducible apply rC_lof); walk_at "e"; exact rfl))
local macro_rules | `(tactic| walk_at "call") => `(tactic| assumption)
local macro_rules | `(tactic| walk_at "e") => `(tactic| first
  | with_reducible exact r_c
  | ((with_reducible apply r_v); exact rfl)
  | ((with_reducible apply r_g); exact rfl)
  | ((with_reducible apply r_o2); walk_at "e"; walk_at "e"; walk_at "o")
  | ((with_reducible apply r_o1); walk_at "e"; walk_at "o")
  | ((with_reducible apply r_addX); walk_at "e"; walk_at "e"; walk_at "add")
  | ((with_reducible apply r_mulX); walk_at "e"; walk_at "e"; walk_at "mul")
  | ((with_reducible apply r_and); walk_at "e"; walk_at "t"; first | (show ev _ _ _ _ = _; walk_at "e") | exact rfl)
  | ((with_reducible apply r_or); walk_at "e"; walk_at "t"; first | (show ev _ _ _ _ = _; walk_at "e") | exact rfl)
  | ((with_reducible apply r_not); walk_at "e"; walk_at "t")
  | ((with_reducible apply r_ite); walk_at "e"; walk_at "t"; show ev _ _ _ _ = _; walk_at "e")
  | ((with_reducible apply r_isi); walk_at "e"; exact rfl; exact rfl)
  | ((with_reducible apply r_tup); walk_at "es"; walk_at "size")
  | ((with_reducible apply r_mkv); walk_at "eC")
  | ((with_reducible apply r_mkl); walk_at "eC")
  | ((with_reducible apply r_att); walk_at "e"; exact rfl; exact rfl; exact rfl)
  | ((with_reducible apply r_call0); walk_at "es"; exact rfl; exact rfl; walk_at "call")
  | ((with_reducible apply r_call); walk_at "es"; exact rfl; walk_at "call"))
local macro_rules | `(tactic| walk_at "asg") => `(tactic| first
  | ((with_reducible apply a_v); simp)
  | ((with_reducible apply a_ix); walk_at "e"; walk_at "e"; walk_at "set")
  | ((with_reducible apply a_att); walk_at "e"; walk_at "set")
  | ((with_reducible apply a_t); walk_at "asgs"))
local macro_rules | `(tactic| walk_at "asgs") => `(tactic| first
  | with_reducible exact as_nil
  | ((with_reducible apply as_cons); walk_at "asg"; walk_at "asgs"))
local macro_rules | `(tactic| walk_at "set") => `(tactic| exact rfl)
local macro_rules | `(tactic| walk_at "x") => `(tactic| first
  | ((with_reducible apply x_asg); walk_at "e"; walk_at "asg")
  | ((with_reducible apply x_ret); walk_at "e")
  | with_reducible exact x_retN
  | ((with_reducible apply x_ex); walk_at "e")
  | ((with_reducible apply x_par); walk_at "es"; exact rfl)
  | ((with_reducible apply x_if); walk_at "e"; walk_at "t"; show execs _ _ _ _ _ = _; walk_at "xs"))
local macro_rules | `(tactic| walk_at "xs") => `(tactic| first
  | with_reducible exact xs_nil
  | ((with_reducible apply xs_c); walk_at "x"; first | (with_reducible exact Ro.nx_rt _ _ _) | (rewrite [Ro.nx_nx]; walk_at "xs")))

section
variable {G : Prog} {k : Nat} {S : Store}
def lsigns : List (List Nat) := [[123], [125], [61], [59], [44], [43], [45], [60]]
theorem lsigns_same (w : List Nat) : decide (w ∈ lsigns) = decide (w ∈ signsL) := by
  rw [Bool.eq_iff_iff]
  unfold lsigns signsL
  simp only [List.mem_cons, decide_eq_true_eq]
  constructor
  · rintro (h | h | h | h | h | h | h | h | h) <;> simp [h]
  · rintro (h | h | h | h | h | h | h | h | h) <;> simp [h]
theorem takeWhile_mem {q : Nat → Bool} {x : Nat} : ∀ {l : List Nat}, x ∈ l.takeWhile q → q x = true
  | [], h => by simp at h
  | y :: ys, h => by
    by_cases hy : q y = true
    · rw [List.takeWhile_cons_of_pos hy] at h
      rcases List.mem_cons.mp h with rfl | h
      · exact hy
      · exact takeWhile_mem h
    · rw [List.takeWhile_cons_of_neg hy] at h
      cases h
theorem lsigns_ok : ∀ w ∈ lsigns, okT w := by unfold okT; decide
abbrev lb : MB := (EVU.b45.nth 1).inn
def env (l : List Nat) (ln co p : Nat) (r1 r7 r8 r9 r10 r11 : Option D) : Env' := [some (.str (sl l)), r1, some (.ref 0), some (.int ln), some (.int co), some (.int p), some (.str (sl (lettersL ++ figuresL))), r7, r8, r9, r10, r11]
theorem inRun (c : Nat) : decide (c ∈ lettersL ++ figuresL) = isRun c := by
  rw [Bool.eq_iff_iff, isRun_iff]; simp
/-- the run's length, sign by sign -/
theorem inner {E : Ec} {l : List Nat} {p ln co m c : Nat} {acc : List D} {r1 r9 r10 r11 : Option D} (hz : l.length ≤ sizeLine) (hm : ((l.drop p).takeWhile isRun).length = m) (h1 : 1 ≤ m) (hp : p + m ≤ l.length) :
    ∃ r, forL (.v 11) (fun ρ S => execs E G.sub ((lb.nth 5).inn.nth 0).inn ρ S) (rangeD 0 l.length) (env l ln co p r1 (some (.str (sl [c]))) (some (.int 1)) r9 r10 r11) [some (.lst acc)] = .fl (.nx (env l ln co p r1 (some (.str (sl [c]))) (some (.int m)) r9 r10 r)) [some (.lst acc)] := by
  obtain ⟨ρ', S', h, q1, r, rfl, rfl, h2⟩ := forL_inv (tg := .v 11) (b := fun ρ S => execs E G.sub ((lb.nth 5).inn.nth 0).inn ρ S)
    (fun i ρ S' => ∃ (q : Nat) (r : Option D), ρ = env l ln co p r1 (some (.str (sl [c]))) (some (.int q)) r9 r10 r ∧ S' = [some (.lst acc)] ∧ q = min (i + 1) m) (rangeD 0 l.length) 0 (env l ln co p r1 (some (.str (sl [c]))) (some (.int 1)) r9 r10 r11) [some (.lst acc)] ⟨1, r11, rfl, rfl, by omega⟩ (by
      rintro i y ρ S' hi ⟨q, r, rfl, rfl, hq⟩
      have hlen : ∀ ρ : Env', ρ[0]? = some (some (.str (sl l))) → ev E (.o1 .len (.v 0)) ρ [some (.lst acc)] = .ok (.int (l.length : Nat)) [some (.lst acc)] := fun ρ h0 => by
        have e : o1 [some (.lst acc)] .len (.str (sl l)) = some (.int (l.length : Nat)) := by rw [o_lenS (by rw [sl_len]; exact hz), sl_len]
        exact r_o1 (r_v h0) e
      have hlt : ev E (.o2 .lt (.addD false (.v 5) (.v 8)) (.o1 .len (.v 0))) (env l ln co p r1 (some (.str (sl [c]))) (some (.int q)) r9 r10 (some y)) [some (.lst acc)] = .ok (.bl (decide ((p : Int) + q < (l.length : Nat)))) [some (.lst acc)] := r_o2 (r_addX (r_v rfl) (r_v rfl) add_int) (hlen _ rfl) rfl
      by_cases e : q = m
      · subst e
        refine ⟨_, env l ln co p r1 (some (.str (sl [c]))) (some (.int q)) r9 r10 (some y), _, rfl, xs_cons ?_ xs_nil, q, some y, rfl, rfl, by omega⟩
        rcases takeWhile_end (q := isRun) (l := l.drop p) with hx | ⟨x, hx, hr⟩
        · rw [hm, List.getElem?_drop, List.getElem?_eq_none_iff] at hx
          exact x_if_f (r_and_f hlt (t_bl (decide_eq_false (by omega)))) (t_bl (decide_eq_false (by omega))) xs_nil
        · rw [hm, List.getElem?_drop] at hx
          have hpi := (List.getElem?_eq_some_iff.mp hx).1
          exact x_if_f (r_and_t hlt (t_bl (decide_eq_true (by omega))) (r_o2 (r_o2 (r_v rfl) (r_addX (r_v rfl) (r_v rfl) add_int) (o_sign (by omega) (by rw [show ((p : Int) + q).toNat = p + q by omega]; exact hx) hz)) (r_v rfl) (o_in1 _ _))) (t_bl ((inRun x).trans hr)) xs_nil
      · have hqm : q < m := by omega
        obtain ⟨x, hx, hr⟩ := takeWhile_get (q := isRun) (l := l.drop p) (i := q) (by omega)
        rw [List.getElem?_drop] at hx
        have hpi := (List.getElem?_eq_some_iff.mp hx).1
        refine ⟨_, env l ln co p r1 (some (.str (sl [c]))) (some (.int ((q + 1 : Nat)))) r9 r10 (some y), _, rfl, xs_cons ?_ xs_nil, q + 1, some y, rfl, rfl, by omega⟩
        exact x_if_t (r_and_t hlt (t_bl (decide_eq_true (by omega))) (r_o2 (r_o2 (r_v rfl) (r_addX (r_v rfl) (r_v rfl) add_int) (o_sign (by omega) (by rw [show ((p : Int) + q).toNat = p + q by omega]; exact hx) hz)) (r_v rfl) (o_in1 _ _))) (t_bl ((inRun x).trans hr)) (xs_cons (x_asg (r_addX (r_v rfl) r_c add_int) (a_v (Nat.le_of_ble_eq_true rfl))) xs_nil))
  refine ⟨r, ?_⟩
  have hr : (rangeD 0 l.length).length = l.length := by simp [rangeD]
  rw [hr] at h2
  have : q1 = m := by omega
  subst this
  exact h
theorem LawF.due (Z : LawF G) {l : List Nat} (hl : l.length ≤ 100000) (hok : okT l) : fnk G (k + 4) 45 [.str (sl l)] S = .ok (match scanAll l with
    | .inl rows => .tup [.non, .tup rows]
    | .inr (ln, co) => .tup [.lst [.str (sl [114, 101, 97, 100]), .int ln, .int co], .non]) S := by
  rw [fnk_pure Z.f45 rfl rfl (out_low (n := 0) rfl)]
  show pureOut S true (bodyOf (execs _ _ EVU.b45 [some (.str (sl l)), none, none, none, none, none, none, none, none, none, none, none] [])) = _
  generalize hE : (⟨G.P, fnk G (k + 3), fnT G (k + 3), none, none⟩ : Ec) = E
  have hP : E.P = G.P := by rw [← hE]
  have hz : l.length ≤ sizeLine := Nat.le_trans hl (by decide)
  have hz2 : sizeLine = 16777216 := rfl
  have hlen : ∀ (ρ : Env') (S : Store), ρ[0]? = some (some (.str (sl l))) → ev E (.o1 .len (.v 0)) ρ S = .ok (.int (l.length : Nat)) S := fun ρ S h0 => by
    have e : o1 S .len (.str (sl l)) = some (.int (l.length : Nat)) := by rw [o_lenS (by rw [sl_len]; exact hz), sl_len]
    exact r_o1 (r_v h0) e
  have s1 : exec E G.sub (EVU.b45.nth 0) [some (.str (sl l)), none, none, none, none, none, none, none, none, none, none, none] [] = .fl (.nx (env l 1 1 0 none none none none none none)) [some (.lst [])] :=
    x_asg (r_tup (rs_cons (r_mkl (rC_disp rs_nil (Nat.zero_le _))) (rs_cons r_c (rs_cons r_c (rs_cons r_c (rs_cons r_c rs_nil))))) (Nat.le_of_ble_eq_true rfl))
      (a_t (as_cons (a_v (Nat.le_of_ble_eq_true rfl)) (as_cons (a_v (Nat.le_of_ble_eq_true rfl)) (as_cons (a_v (Nat.le_of_ble_eq_true rfl)) (as_cons (a_v (Nat.le_of_ble_eq_true rfl)) (as_cons (a_v (Nat.le_of_ble_eq_true rfl)) as_nil))))))
  have key := forL_gen (tg := .v 1) (b := fun ρ S => execs E G.sub lb ρ S)
    (fun i ρ S => ∃ (p ln co : Nat) (acc : List D) (r1 r7 r8 r9 r10 r11 : Option D), ρ = env l ln co p r1 r7 r8 r9 r10 r11 ∧ S = [some (.lst acc)] ∧ i ≤ p ∧ p ≤ l.length ∧ acc.length ≤ p ∧ lowDs 0 acc = true ∧ scan l (l.length + 1) p ln co acc = scanAll l)
    (fun ro => (∃ (p ln co : Nat) (acc : List D) (r1 r7 r8 r9 r10 r11 : Option D), ro = .fl (.nx (env l ln co p r1 r7 r8 r9 r10 r11)) [some (.lst acc)] ∧ acc.length ≤ l.length ∧ lowDs 0 acc = true ∧ scanAll l = .inl (acc ++ [endRow ln co])) ∨ ∃ (ln co : Nat) (S' : Store), ro = .fl (.rt (.tup [.lst [.str (sl [114, 101, 97, 100]), .int ln, .int co], .non])) S' ∧ scanAll l = .inr (ln, co))
    (rangeD 0 (l.length + 1)) 0 (env l 1 1 0 none none none none none none) [some (.lst [])] ⟨0, 1, 1, [], none, none, none, none, none, none, rfl, rfl, by omega, by omega, by simp, rfl, rfl⟩ (by
      rintro j y ρ S hj ⟨p, ln, co, acc, r1, r7, r8, r9, r10, r11, rfl, rfl, hjp, hp, ha, hlow, hsc⟩
      refine ⟨env l ln co p (some y) r7 r8 r9 r10 r11, rfl, ?_⟩
      have hge : ev E (.o2 .ge (.v 5) (.o1 .len (.v 0))) (env l ln co p (some y) r7 r8 r9 r10 r11) [some (.lst acc)] = .ok (.bl (decide (((l.length : Nat) : Int) ≤ p))) [some (.lst acc)] := r_o2 (r_v rfl) (hlen _ _ rfl) rfl
      by_cases hpe : p = l.length
      · refine .inr (.inl ⟨env l ln co p (some y) r7 r8 r9 r10 r11, _, xs_bk (x_if_t hge (t_bl (decide_eq_true (by omega))) (xs_bk x_brk)), .inl ⟨p, ln, co, acc, _, _, _, _, _, _, rfl, by omega, hlow, ?_⟩⟩)
        rw [← hsc, scan, List.getElem?_eq_none (by omega)]
      have hpl : p < l.length := by omega
      have hc : l[p]? = some l[p] := List.getElem?_eq_getElem hpl
      generalize l[p] = c at hc
      have okc : okT [c] := by
        intro x hx
        simp at hx
        subst hx
        exact hok _ (List.mem_of_getElem? hc)
      rw [scan, hc] at hsc
      simp only at hsc
      have t1 : exec E G.sub (lb.nth 0) (env l ln co p (some y) r7 r8 r9 r10 r11) [some (.lst acc)] = .fl (.nx (env l ln co p (some y) r7 r8 r9 r10 r11)) [some (.lst acc)] := x_if_f hge (t_bl (decide_eq_false (by omega))) xs_nil
      have t2 : exec E G.sub (lb.nth 1) (env l ln co p (some y) r7 r8 r9 r10 r11) [some (.lst acc)] = .fl (.nx (env l ln co p (some y) (some (.str (sl [c]))) r8 r9 r10 r11)) [some (.lst acc)] := x_asg (r_o2 (r_v rfl) (r_v rfl) (o_sign (by omega) (by simpa using hc) hz)) (a_v (Nat.le_of_ble_eq_true rfl))
      have heq : ∀ (d : Nat) (ρ : Env'), d < 100 → ρ[7]? = some (some (.str (sl [c]))) → ev E (.o2 .eq (.v 7) (.c (.str (sl [d])))) ρ [some (.lst acc)] = .ok (.bl (decide (c = d))) [some (.lst acc)] := fun d ρ hd h7 => by
        have := r_o2 (E := E) (ρ := ρ) (S := [some (.lst acc)]) (a := .v 7) (b := .c (.str (sl [d]))) (r_v h7) r_c (o_eqS okc (fun x hx => by simp at hx; omega))
        rw [this]
        congr 2
        simp
      by_cases c35 : c = 35
      · subst c35
        have hr : (rest (l.drop p)).length ≤ (l.drop p).length := List.Sublist.length_le (List.takeWhile_sublist _)
        have hr' : (rest (l.drop p)).length ≤ l.length - p := by simpa using hr
        have hslice : ev E (.slD false (.v 0) (.some (.v 5)) .none) (env l ln co p (some y) (some (.str (sl [35]))) r8 r9 r10 r11) [some (.lst acc)] = .ok (.str (sl (l.drop p))) [some (.lst acc)] := r_slS (r_v rfl) (rO_some (r_v rfl)) rO_none hz (cut_from hp)
        have hsp : ev E (.mk false (.split (.slD false (.v 0) (.some (.v 5)) .none) (.c (.str (sl [10]))))) (env l ln co p (some y) (some (.str (sl [35]))) r8 r9 r10 r11) [some (.lst acc)] = .ok (.lst ((splitL 10 (l.drop p)).map fun w => .str (sl w))) [some (.lst acc)] := by
          refine r_mkv (q := .lst ((splitL 10 (l.drop p)).map fun w => .str (sl w))) ?_
          rw [evC, hslice]
          simp only [Rs.bind_ok, ev]
          have hd : (l.drop p).length ≤ 100000 := by simp; omega
          rw [if_pos]
          · rw [split_one _ _ (by omega)]
            simp
          · rw [sl_len, sl_len]
            simp only [List.length_singleton, Bool.and_eq_true, decide_eq_true_eq]
            exact ⟨by decide, by omega⟩
        have hlen2 : ev E (.o1 .len (.o2 .idx (.mk false (.split (.slD false (.v 0) (.some (.v 5)) .none) (.c (.str (sl [10]))))) (.c (.int 0)))) (env l ln co p (some y) (some (.str (sl [35]))) r8 r9 r10 r11) [some (.lst acc)] = .ok (.int ((rest (l.drop p)).length : Nat)) [some (.lst acc)] := by
          refine r_o1 (r_o2 hsp r_c (o_idx (z := .str (sl (rest (l.drop p)))) rfl (by decide) ?_)) ?_
          · rw [show (0 : Int).toNat = 0 from rfl, List.getElem?_map, splitL_head]
            rfl
          · rw [o_lenS, sl_len]
            rw [sl_len]
            omega
        have hg : gapAt l p ln co 35 = some (p + (rest (l.drop p)).length, ln, co + (rest (l.drop p)).length) := by simp [gapAt]
        have hlt := gap_lt hc hg
        rw [hg] at hsc
        refine .inl ⟨env l ln (co + (rest (l.drop p)).length : Nat) (p + (rest (l.drop p)).length : Nat) (some y) (some (.str (sl [35]))) (some (.int ((rest (l.drop p)).length : Nat))) r9 r10 r11, _, .inr (xs_cons t1 (xs_cons t2 (xs_ct (x_if_t (heq 35 _ (by omega) rfl) (t_bl (decide_eq_true rfl)) (xs_cons (x_asg hlen2 (a_v (Nat.le_of_ble_eq_true rfl))) (xs_cons (x_par (rs_cons (r_addX (r_v rfl) (r_v rfl) add_int) (rs_cons (r_addX (r_v rfl) (r_v rfl) add_int) rs_nil)) rfl) (xs_ct x_cont))))))), ?_⟩
        refine ⟨p + (rest (l.drop p)).length, ln, co + (rest (l.drop p)).length, acc, _, _, _, _, _, _, rfl, rfl, by omega, by omega, by omega, hlow, ?_⟩
        rw [← hsc]
        exact scan_fuel l _ _ _ _ _ _ (by omega) (by omega) (by omega)
      have t3 : exec E G.sub (lb.nth 2) (env l ln co p (some y) (some (.str (sl [c]))) r8 r9 r10 r11) [some (.lst acc)] = .fl (.nx (env l ln co p (some y) (some (.str (sl [c]))) r8 r9 r10 r11)) [some (.lst acc)] := x_if_f (heq 35 _ (by omega) rfl) (t_bl (decide_eq_false c35)) xs_nil
      have hin : ev E (.o2 .in_ (.v 7) (.c (.str (sl [32, 10])))) (env l ln co p (some y) (some (.str (sl [c]))) r8 r9 r10 r11) [some (.lst acc)] = .ok (.bl (decide (c ∈ [32, 10]))) [some (.lst acc)] := r_o2 (r_v rfl) r_c (o_in1 _ _)
      by_cases c10 : c = 10
      · subst c10
        have hg : gapAt l p ln co 10 = some (p + 1, ln + 1, 1) := by simp [gapAt]
        rw [hg] at hsc
        refine .inl ⟨env l (ln + 1 : Nat) 1 (p + 1 : Nat) (some y) (some (.str (sl [10]))) r8 r9 r10 r11, _, .inr (xs_cons t1 (xs_cons t2 (xs_cons t3 (xs_ct (x_if_t hin (t_bl (by decide)) (xs_cons (x_asg (r_ite_t (heq 10 _ (by omega) rfl) (t_bl (decide_eq_true rfl)) (r_tup (rs_cons (r_addX (r_v rfl) r_c add_int) (rs_cons r_c rs_nil)) (Nat.le_of_ble_eq_true rfl))) (a_t (as_cons (a_v (Nat.le_of_ble_eq_true rfl)) (as_cons (a_v (Nat.le_of_ble_eq_true rfl)) as_nil)))) (xs_cons (x_asg (r_addX (r_v rfl) r_c add_int) (a_v (Nat.le_of_ble_eq_true rfl))) (xs_ct x_cont)))))))), ?_⟩
        refine ⟨p + 1, ln + 1, 1, acc, _, _, _, _, _, _, rfl, rfl, by omega, by omega, by omega, hlow, ?_⟩
        rw [← hsc]
        exact scan_fuel l _ _ _ _ _ _ (by omega) (by omega) (by omega)
      by_cases c32 : c = 32
      · subst c32
        have hg : gapAt l p ln co 32 = some (p + 1, ln, co + 1) := by simp [gapAt]
        rw [hg] at hsc
        refine .inl ⟨env l ln (co + 1 : Nat) (p + 1 : Nat) (some y) (some (.str (sl [32]))) r8 r9 r10 r11, _, .inr (xs_cons t1 (xs_cons t2 (xs_cons t3 (xs_ct (x_if_t hin (t_bl (by decide)) (xs_cons (x_asg (r_ite_f (heq 10 _ (by omega) rfl) (t_bl (decide_eq_false (by decide))) (r_tup (rs_cons (r_v rfl) (rs_cons (r_addX (r_v rfl) r_c add_int) rs_nil)) (Nat.le_of_ble_eq_true rfl))) (a_t (as_cons (a_v (Nat.le_of_ble_eq_true rfl)) (as_cons (a_v (Nat.le_of_ble_eq_true rfl)) as_nil)))) (xs_cons (x_asg (r_addX (r_v rfl) r_c add_int) (a_v (Nat.le_of_ble_eq_true rfl))) (xs_ct x_cont)))))))), ?_⟩
        refine ⟨p + 1, ln, co + 1, acc, _, _, _, _, _, _, rfl, rfl, by omega, by omega, by omega, hlow, ?_⟩
        rw [← hsc]
        exact scan_fuel l _ _ _ _ _ _ (by omega) (by omega) (by omega)
      have hg : gapAt l p ln co c = none := by simp [gapAt, c10, c32, c35]
      rw [hg] at hsc
      simp only at hsc
      have t4 : exec E G.sub (lb.nth 3) (env l ln co p (some y) (some (.str (sl [c]))) r8 r9 r10 r11) [some (.lst acc)] = .fl (.nx (env l ln co p (some y) (some (.str (sl [c]))) r8 r9 r10 r11)) [some (.lst acc)] := x_if_f hin (t_bl (decide_eq_false (by simp [c10, c32]))) xs_nil
      have t5 : exec E G.sub (lb.nth 4) (env l ln co p (some y) (some (.str (sl [c]))) r8 r9 r10 r11) [some (.lst acc)] = .fl (.nx (env l ln co p (some y) (some (.str (sl [c]))) (some (.int 1)) r9 r10 r11)) [some (.lst acc)] := x_asg r_c (a_v (Nat.le_of_ble_eq_true rfl))
      have hw := word_lt hc
      have hrn : ∀ (ρ : Env'), ρ[7]? = some (some (.str (sl [c]))) → ρ[6]? = some (some (.str (sl (lettersL ++ figuresL)))) → ev E (.o2 .in_ (.v 7) (.v 6)) ρ [some (.lst acc)] = .ok (.bl (isRun c)) [some (.lst acc)] := fun ρ h7 h6 => by
        have := r_o2 (E := E) (ρ := ρ) (S := [some (.lst acc)]) (a := .v 7) (b := .v 6) (r_v h7) (r_v h6) (o_in1 (lettersL ++ figuresL) c)
        rw [this, inRun]
      obtain ⟨r11', t6⟩ : ∃ r, exec E G.sub (lb.nth 5) (env l ln co p (some y) (some (.str (sl [c]))) (some (.int 1)) r9 r10 r11) [some (.lst acc)] = .fl (.nx (env l ln co p (some y) (some (.str (sl [c]))) (some (.int ((wordAt l p c).length : Nat))) r9 r10 r)) [some (.lst acc)] := by
        cases hr : isRun c with
        | true =>
          have e : wordAt l p c = (l.drop p).takeWhile isRun := by unfold wordAt; rw [if_pos hr]
          rw [e] at hw ⊢
          obtain ⟨r, h⟩ := inner (G := G) (E := E) (l := l) (p := p) (ln := ln) (co := co) (c := c) (acc := acc) (r1 := some y) (r9 := r9) (r10 := r10) (r11 := r11) hz rfl hw.1 hw.2
          have hsm : small62 ((l.length : Nat) : Int) = true := by
            unfold small62
            simp only [Bool.and_eq_true, decide_eq_true_eq]
            have : (2 : Int) ^ 62 = 4611686018427387904 := rfl
            constructor <;> omega
          exact ⟨r, x_if_t (hrn _ rfl rfl) (t_bl hr) (xs_cons (x_forN (rI_range1 (hlen _ _ rfl) hsm) h) xs_nil)⟩
        | false =>
          have e : wordAt l p c = [c] := by unfold wordAt; rw [if_neg (by rw [hr]; decide)]
          rw [e]
          exact ⟨r11, x_if_f (hrn _ rfl rfl) (t_bl hr) xs_nil⟩
      have hword : (l.drop p).take (wordAt l p c).length = wordAt l p c := by
        unfold wordAt
        by_cases hr : isRun c = true
        · rw [if_pos hr, take_takeWhile]
        · rw [if_neg hr]
          have hd0 : (l.drop p)[0]? = some c := by rw [List.getElem?_drop]; simpa using hc
          cases hq : l.drop p with
          | nil => rw [hq] at hd0; cases hd0
          | cons y ys => rw [hq] at hd0; cases hd0; rfl
      have hww : okT (wordAt l p c) := fun x hx => by
        rw [← hword] at hx
        exact hok x (List.mem_of_mem_drop (List.mem_of_mem_take hx))
      have t7 : exec E G.sub (lb.nth 6) (env l ln co p (some y) (some (.str (sl [c]))) (some (.int ((wordAt l p c).length : Nat))) r9 r10 r11') [some (.lst acc)] = .fl (.nx (env l ln co p (some y) (some (.str (sl [c]))) (some (.int ((wordAt l p c).length : Nat))) (some (.str (sl (wordAt l p c)))) r10 r11')) [some (.lst acc)] := by
        refine x_asg (r_slS (r_v rfl) (rO_some (r_v rfl)) (rO_some (r_addX (r_v rfl) (r_v rfl) add_int)) hz ?_) (a_v (Nat.le_of_ble_eq_true rfl))
        rw [cut_sl, ← Int.natCast_add, sIx_some (by omega) (by omega), sIx_some (by omega) (by omega), Int.toNat_natCast, Int.toNat_natCast]
        congr 1
        rw [show p + (wordAt l p c).length - p = (wordAt l p c).length by omega, hword]
      have hkd : ∀ ρ : Env', ρ[9]? = some (some (.str (sl (wordAt l p c)))) → ρ[7]? = some (some (.str (sl [c]))) → ρ[6]? = some (some (.str (sl (lettersL ++ figuresL)))) → ev E (lb.nth 7).exp ρ [some (.lst acc)] = .ok (optS (kindAt l p c)) [some (.lst acc)] := fun ρ h9 h7 h6 => by
        have hls : ev E (.o2 .in_ (.v 9) (.mk false (.disp (.cons (.c (.str ⟨#[123]⟩)) (.cons (.c (.str ⟨#[125]⟩)) (.cons (.c (.str ⟨#[61]⟩)) (.cons (.c (.str ⟨#[59]⟩)) (.cons (.c (.str ⟨#[44]⟩)) (.cons (.c (.str ⟨#[43]⟩)) (.cons (.c (.str ⟨#[45]⟩)) (.cons (.c (.str ⟨#[60]⟩)) (.nil)))))))))))) ρ [some (.lst acc)] = .ok (.bl (decide (wordAt l p c ∈ signsL))) [some (.lst acc)] := by
          rw [← lsigns_same]
          exact r_o2 (r_v h9) (r_mkv (rC_disp (ds := txs lsigns) (rs_cons r_c (rs_cons r_c (rs_cons r_c (rs_cons r_c (rs_cons r_c (rs_cons r_c (rs_cons r_c (rs_cons r_c rs_nil)))))))) (Nat.le_of_ble_eq_true rfl))) (o_inW (.inl rfl) hww lsigns_ok (by decide))
        cases hr : isRun c with
        | true =>
          have e : wordAt l p c = (l.drop p).takeWhile isRun := by unfold wordAt; rw [if_pos hr]
          have hall : (wordAt l p c).all isRun = true := by
            rw [e, List.all_eq_true]
            exact fun x hx => takeWhile_mem hx
          have hns : wordAt l p c ∉ signsL := fun q => by
            have : ∀ w ∈ signsL, w.all isRun = false := by decide
            rw [this _ q] at hall
            cases hall
          have hne : wordAt l p c ≠ [] := fun q => by rw [q] at hw; exact absurd hw.1 (by decide)
          have hk : kindAt l p c = kindR (wordAt l p c) := by unfold kindAt; rw [if_pos hr, e]
          rw [hk]
          refine r_ite_f hls (t_bl (decide_eq_false hns)) (r_ite_t (hrn _ h7 h6) (t_bl hr) (r_call0 (rs_cons (r_v h9) rs_nil) (by rw [hP]; exact Z.d _ _ (by omega) (by omega)) (by rw [hP]; exact (Z.m1 44 (by decide)).symm) ?_))
          rw [← hE]
          exact Z.kindw hww (by omega) hne hall
        | false =>
          have e : wordAt l p c = [c] := by unfold wordAt; rw [if_neg (by rw [hr]; decide)]
          have hk : kindAt l p c = if [c] ∈ signsL then some nSign else none := by unfold kindAt; rw [if_neg (by rw [hr]; decide)]
          rw [hk]
          rw [e] at hls
          by_cases hs : [c] ∈ signsL
          · rw [if_pos hs]
            exact r_ite_t hls (t_bl (decide_eq_true hs)) r_c
          · rw [if_neg hs]
            exact r_ite_f hls (t_bl (decide_eq_false hs)) (r_ite_f (hrn _ h7 h6) (t_bl hr) r_c)
      have t8 : exec E G.sub (lb.nth 7) (env l ln co p (some y) (some (.str (sl [c]))) (some (.int ((wordAt l p c).length : Nat))) (some (.str (sl (wordAt l p c)))) r10 r11') [some (.lst acc)] = .fl (.nx (env l ln co p (some y) (some (.str (sl [c]))) (some (.int ((wordAt l p c).length : Nat))) (some (.str (sl (wordAt l p c)))) (some (optS (kindAt l p c))) r11')) [some (.lst acc)] := x_asg (hkd _ rfl rfl rfl) (a_v (Nat.le_of_ble_eq_true rfl))
      cases hk : kindAt l p c with
      | none =>
        rw [hk] at t8 hsc
        refine .inr (.inr (.inl ⟨_, _, xs_cons t1 (xs_cons t2 (xs_cons t3 (xs_cons t4 (xs_cons t5 (xs_cons t6 (xs_cons t7 (xs_cons t8 (xs_rt (x_if_t (r_o2 (r_v rfl) r_c rfl) (t_tr rfl) (xs_rt (x_ret (r_tup (rs_cons (r_mkv (rC_disp (rs_cons r_c (rs_cons (r_v rfl) (rs_cons (r_v rfl) rs_nil))) (Nat.le_of_ble_eq_true rfl))) (rs_cons r_c rs_nil)) (Nat.le_of_ble_eq_true rfl))))))))))))), .inr ⟨ln, co, _, rfl, hsc.symm⟩⟩))
      | some kd =>
        rw [hk] at t8 hsc
        refine .inl ⟨env l ln (co + (wordAt l p c).length : Nat) (p + (wordAt l p c).length : Nat) (some y) (some (.str (sl [c]))) (some (.int ((wordAt l p c).length : Nat))) (some (.str (sl (wordAt l p c)))) (some (.str (sl kd))) r11', [some (.lst (acc ++ [rowD kd (wordAt l p c) ln co]))], .inl (xs_cons t1 (xs_cons t2 (xs_cons t3 (xs_cons t4 (xs_cons t5 (xs_cons t6 (xs_cons t7 (xs_cons t8 (xs_cons (x_if_f (r_o2 (r_v rfl) r_c rfl) (t_fa rfl) xs_nil) (xs_cons (x_ex (r_mut (n := 0) (r_v rfl) rfl (rs_cons (r_tup (rs_cons (r_v rfl) (rs_cons (r_v rfl) (rs_cons (r_tup (rs_cons (r_v rfl) (rs_cons (r_v rfl) rs_nil)) (Nat.le_of_ble_eq_true rfl)) rs_nil))) (Nat.le_of_ble_eq_true rfl)) rs_nil) rfl (om_append (by omega)))) (xs_cons (x_par (rs_cons (r_addX (r_v rfl) (r_v rfl) add_int) (rs_cons (r_addX (r_v rfl) (r_v rfl) add_int) rs_nil)) rfl) xs_nil))))))))))), ?_⟩
        refine ⟨p + (wordAt l p c).length, ln, co + (wordAt l p c).length, acc ++ [rowD kd (wordAt l p c) ln co], _, _, _, _, _, _, rfl, rfl, by omega, by omega, by simp; omega, lowDs_app hlow rfl, ?_⟩
        rw [← hsc]
        exact scan_fuel l _ _ _ _ _ _ (by omega) (by omega) (by omega)) (by
      rintro ρ S ⟨p, ln, co, acc, r1, r7, r8, r9, r10, r11, rfl, rfl, hjp, hp, ha, hlow, hsc⟩
      have : (rangeD 0 (l.length + 1)).length = l.length + 1 := by simp [rangeD]
      omega)
  have hsm : small62 (((l.length : Nat) : Int) + 1) = true := by
    unfold small62
    simp only [Bool.and_eq_true, decide_eq_true_eq]
    have : (2 : Int) ^ 62 = 4611686018427387904 := rfl
    constructor <;> omega
  have hit : evI E (.range1 (.addD false (.o1 .len (.v 0)) (.c (.int 1)))) (env l 1 1 0 none none none none none none) [some (.lst [])] = .ok (rangeD 0 (l.length + 1), []) [some (.lst [])] := rI_range1 (r_addX (hlen _ _ rfl) r_c add_int) hsm
  rcases key with ⟨p, ln, co, acc, r1, r7, r8, r9, r10, r11, hr, ha, hlow, hsc⟩ | ⟨ln, co, S', hr, hsc⟩
  · have hlow2 := lowDs_app (b := [endRow ln co]) hlow rfl
    have hb : bodyOf (execs E G.sub EVU.b45 [some (.str (sl l)), none, none, none, none, none, none, none, none, none, none, none] []) = .ok (.tup [.non, .tup (acc ++ [endRow ln co])]) [some (.lst acc)] :=
      body_rt (xs_cons s1 (xs_cons (x_forN hit hr) (xs_rt (x_ret (r_tup (rs_cons r_c (rs_cons (r_o1 (r_addX (r_v rfl) (r_mkv (rC_disp (rs_cons (r_tup (rs_cons r_c (rs_cons r_c (rs_cons (r_tup (rs_cons (r_v rfl) (rs_cons (r_v rfl) rs_nil)) (Nat.le_of_ble_eq_true rfl)) rs_nil))) (Nat.le_of_ble_eq_true rfl)) rs_nil) (Nat.le_of_ble_eq_true rfl))) (add_lstv (xs := acc) (ys := [endRow ln co]) rfl rfl (by show acc.length + 1 ≤ sizeLine; omega))) (z := .tup (acc ++ [endRow ln co])) rfl) rs_nil)) (Nat.le_of_ble_eq_true rfl))))))
    rw [hb, hsc]
    have hlow3 : lowD 0 (.tup [.non, .tup (acc ++ [endRow ln co])]) = true := by
      show (true && (lowDs 0 (acc ++ [endRow ln co]) && true)) = true
      rw [hlow2]; rfl
    unfold pureOut
    simp only [outV, outF, hlow3, if_true, Bool.true_or]
  · have hb : bodyOf (execs E G.sub EVU.b45 [some (.str (sl l)), none, none, none, none, none, none, none, none, none, none, none] []) = .ok (.tup [.lst [.str (sl [114, 101, 97, 100]), .int ln, .int co], .non]) S' := by
      have hx := x_for (tg := .v 1) (B := lb) hit (r := .fl (.rt (.tup [.lst [.str (sl [114, 101, 97, 100]), .int ln, .int co], .non])) S') hr
      exact body_rt (xs_cons s1 (xs_rt hx))
    rw [hb, hsc]
    rfl
end
end K02
set_option Elab.async false
set_option linter.all false
set_option maxRecDepth 100000
set_option maxHeartbeats 4000000
namespace K02
open PySem EV
local macro_rules | `(tactic| walk_at "t") => `(tactic| first
  | (refine t_tr ?_; rfl)
  | (refine t_fa ?_; rfl)
  | exact t_bl (decide_eq_true (by first | assumption | omega | (simp only [List.length_map] at *; omega)))
  | exact t_bl (decide_eq_false (by first | assumption | omega | (simp only [List.length_map] at *; omega))))
local macro_rules | `(tactic| walk_at "o") => `(tactic| first
  | exact o_eqi | exact o_nei
  | exact o_idx rfl (by first | assumption | decide | omega) (by first | assumption | exact rfl)
  | exact o_p18
  | exact o_eqb | exact o_neb
  | exact o_eqs (by first | assumption | decide) (by first | assumption | decide)
  | exact o_mulr (by decide) | exact o_mull (by decide)
  | exact o_mod (by first | decide | assumption | omega)
  | exact o_fdiv (by first | decide | assumption | omega) (by first | decide | assumption | omega)
  | exact rfl)
local macro_rules | `(tactic| walk_at "add") => `(tactic| first
  | exact add_int
  | exact add_str (by walk_at "size")
  | exact add_tup (by walk_at "size")
  | exact add_lstv rfl rfl (by walk_at "size")
  | exact add_lst rfl rfl (by walk_at "size"))
local macro_rules | `(tactic| walk_at "size") => `(tactic| first | decide | exact Nat.le_of_ble_eq_true rfl | (simp only [List.length_cons, List.length_nil, List.length_map, List.length_append, sizeLine]; omega))
local macro_rules | `(tactic| walk_at "mul") => `(tactic| first
  | exact mul_lstv rfl (by first | decide | exact rfl)
  | ((first | apply mul_int | apply mul_tup) <;> walk_at "o"))
local macro_rules | `(tactic| walk_at "es") => `(tactic| first
  | with_reducible exact rs_nil
  | ((with_reducible apply rs_cons); walk_at "e"; walk_at "es"))
local macro_rules | `(tactic| walk_at "eO") => `(tactic| first
  | with_reducible exact rO_none
  | ((with_reducible apply rO_some); walk_at "e"))
local macro_rules | `(tactic| walk_at "eC") => `(tactic| first
  | ((with_reducible apply rC_disp); walk_at "es"; walk_at "size")
  | ((with_reducible apply rC_lof); walk_at "e"; exact rfl))
local macro_rules | `(tactic| walk_at "call") => `(tactic| assumption)
local macro_rules | `(tactic| walk_at "e") => `(tactic| first
  | with_reducible exact r_c
  | ((with_reducible apply r_v); exact rfl)
  | ((with_reducible apply r_g); exact rfl)
  | ((with_reducible apply r_o2); walk_at "e"; walk_at "e"; walk_at "o")
  | ((with_reducible apply r_o1); walk_at "e"; walk_at "o")
  | ((with_reducible apply r_addX); walk_at "e"; walk_at "e"; walk_at "add")
  | ((with_reducible apply r_mulX); walk_at "e"; walk_at "e"; walk_at "mul")
  | ((with_reducible apply r_and); walk_at "e"; walk_at "t"; first | (show ev _ _ _ _ = _; walk_at "e") | exact rfl)
  | ((with_reducible apply r_or); walk_at "e"; walk_at "t"; first | (show ev _ _ _ _ = _; walk_at "e") | exact rfl)
  | ((with_reducible apply r_not); walk_at "e"; walk_at "t")
  | ((with_reducible apply r_ite); walk_at "e"; walk_at "t"; show ev _ _ _ _ = _; walk_at "e")
  | ((with_reducible apply r_isi); walk_at "e"; exact rfl; exact rfl)
  | ((with_reducible apply r_tup); walk_at "es"; walk_at "size")
  | ((with_reducible apply r_mkv); walk_at "eC")
  | ((with_reducible apply r_mkl); walk_at "eC")
  | ((with_reducible apply r_att); walk_at "e"; exact rfl; exact rfl; exact rfl)
  | ((with_reducible apply r_call0); walk_at "es"; exact rfl; exact rfl; walk_at "call")
  | ((with_reducible apply r_call); walk_at "es"; exact rfl; walk_at "call"))
local macro_rules | `(tactic| walk_at "asg") => `(tactic| first
  | ((with_reducible apply a_v); simp)
  | ((with_reducible apply a_ix); walk_at "e"; walk_at "e"; walk_at "set")
  | ((with_reducible apply a_att); walk_at "e"; walk_at "set")
  | ((with_reducible apply a_t); walk_at "asgs"))
local macro_rules | `(tactic| walk_at "asgs") => `(tactic| first
  | with_reducible exact as_nil
  | ((with_reducible apply as_cons); walk_at "asg"; walk_at "asgs"))
local macro_rules | `(tactic| walk_at "set") => `(tactic| exact rfl)
local macro_rules | `(tactic| walk_at "x") => `(tactic| first
  | ((with_reducible apply x_asg); walk_at "e"; walk_at "asg")
  | ((with_reducible apply x_ret); walk_at "e")
  | with_reducible exact x_retN
  | ((with_reducible apply x_ex); walk_at "e")
  | ((with_reducible apply x_par); walk_at "es"; exact rfl)
  | ((with_reducible apply x_if); walk_at "e"; walk_at "t"; show execs _ _ _ _ _ = _; walk_at "xs"))
local macro_rules | `(tactic| walk_at "xs") => `(tactic| first
  | with_reducible exact xs_nil
  | ((with_reducible apply xs_c); walk_at "x"; first | (with_reducible exact Ro.nx_rt _ _ _) | (rewrite [Ro.nx_nx]; walk_at "xs")))

section
variable {G : Prog} {k : Nat} {S : Store}
theorem r_exf {E : Ec} {ρ : Env'} {f cc : Nat} {fs : List Nat} {vs : List D} {z : D} (hc : E.cur = some (cc, fs, vs)) (hk : E.P.fok cc f = true) (hf : fieldOf fs vs f = some z) : ev E (.exf f) ρ S = .ok z S := by
  rw [ev, hc]
  simp only [hk, if_true, hf]
  rfl
theorem h_hit {E : Ec} {sub : Nat → Nat → Option Bool} {ρ ρ' : Env'} {slot : Option Nat} {b : MB} {hs : MHs} {c hd : Nat} {fs : List Nat} {vs : List D} {S S' : Store} (h : sub c hd = some true) (hi : inSlot slot ρ = true) (hx : execs { E with cur := some (c, fs, vs) } sub b (clr slot ρ) S = .fl (.nx ρ') S') : handle E sub (.cons hd slot b hs) ρ c fs vs S = .fl (.nx (clr slot ρ')) S' := by
  rw [handle, h]
  simp only [hi, if_true]
  rw [hx]
theorem h_miss {E : Ec} {sub : Nat → Nat → Option Bool} {ρ : Env'} {slot : Option Nat} {b : MB} {hs : MHs} {c hd : Nat} {fs : List Nat} {vs : List D} {S : Store} {r : Ro} (h : sub c hd = some false) (hx : handle E sub hs ρ c fs vs S = r) : handle E sub (.cons hd slot b hs) ρ c fs vs S = r := by
  rw [handle, h]
  exact hx
abbrev readD (ln co : Int) : D := .lst [.str (sl [114, 101, 97, 100]), .int ln, .int co]
theorem LawF.why_ok (Z : LawF G) {t : Store → Rs D} {d : D} {S1 : Store} (h : t S = .ok d S1) : fnT G (k + 1) 40 t S = .ok .non S1 := by
  unfold fnT
  rw [Z.f40]
  show bodyOf (execs _ _ EVU.b40 [none, none, none] S) = _
  have e : ev ⟨G.P, fnk G k, fnT G k, some t, none⟩ .callP [none, some .non, none] S = .ok d S1 := h
  exact body_rt (xs_cons (x_asg r_c (a_v (Nat.le_of_ble_eq_true rfl))) (xs_cons (x_try_ok (xs_cons (x_ex e) xs_nil)) (xs_rt (x_ret (r_v rfl)))))
theorem LawF.why_read (Z : LawF G) {t : Store → Rs D} {ln co : Int} {S1 : Store} (h : t S = .exc 2 [2, 0] [.int co, .int ln] S1) : fnT G (k + 1) 40 t S = .ok (readD ln co) S1 := by
  unfold fnT
  rw [Z.f40]
  show bodyOf (execs _ _ EVU.b40 [none, none, none] S) = _
  have e : ev ⟨G.P, fnk G k, fnT G k, some t, none⟩ .callP [none, some .non, none] S = .exc 2 [2, 0] [.int co, .int ln] S1 := h
  refine body_rt (xs_cons (x_asg r_c (a_v (Nat.le_of_ble_eq_true rfl))) (xs_cons (ρ' := [none, some (readD ln co), none]) (S1 := S1) (x_try (xs_exc (x_ex_exc e)) ?_) (xs_rt (x_ret (r_v rfl)))))
  exact h_hit Z.sub22 rfl (xs_cons (x_asg (r_mkv (rC_disp (rs_cons r_c (rs_cons (r_exf rfl (Z.fok2 0 (by decide)) rfl) (rs_cons (r_exf rfl (Z.fok2 2 (by decide)) rfl) rs_nil))) (Nat.le_of_ble_eq_true rfl))) (a_v (Nat.le_of_ble_eq_true rfl))) xs_nil)
theorem plain_rows {l : List Nat} (hok : okT l) : ∀ (n p ln co : Nat) (acc rows : List D), (∀ d ∈ acc, plainD false d = true ∧ depthD d ≤ 2) → scan l n p ln co acc = .inl rows → ∀ d ∈ rows, plainD false d = true ∧ depthD d ≤ 2
  | 0, p, ln, co, acc, rows, ha, h => by cases h; exact ha
  | n + 1, p, ln, co, acc, rows, ha, h => by
    have row : ∀ (kd w : List Nat) (a b : Nat), okT kd → okT w → plainD false (rowD kd w a b) = true ∧ depthD (rowD kd w a b) ≤ 2 := fun kd w a b h1 h2 => by
      refine ⟨?_, Nat.le_of_ble_eq_true rfl⟩
      have e1 : plainD false (.str (sl kd)) = true := can_str h1
      have e2 : plainD false (.str (sl w)) = true := can_str h2
      unfold rowD
      rw [plainD, plainDs, plainDs, plainDs, plainDs, e1, e2]
      rfl
    have app : ∀ d, (plainD false d = true ∧ depthD d ≤ 2) → ∀ x ∈ acc ++ [d], plainD false x = true ∧ depthD x ≤ 2 := fun d hd x hx => by
      rcases List.mem_append.mp hx with hx | hx
      · exact ha x hx
      · simp at hx; subst hx; exact hd
    unfold scan at h
    cases hc : l[p]? with
    | none =>
      rw [hc] at h
      cases h
      exact app _ (row _ _ _ _ (by unfold okT; decide) (by unfold okT; decide))
    | some c =>
      rw [hc] at h
      simp only at h
      cases hg : gapAt l p ln co c with
      | some t =>
        rw [hg] at h
        exact plain_rows hok n _ _ _ acc rows ha h
      | none =>
        rw [hg] at h
        simp only at h
        cases hk : kindAt l p c with
        | none => rw [hk] at h; cases h
        | some kd =>
          rw [hk] at h
          refine plain_rows hok n _ _ _ _ rows (app _ (row _ _ _ _ ?_ ?_)) h
          · have all : ∀ w, kindR w = some kd → okT kd := fun w h => by
              unfold kindR at h
              have k1 : okT nKey := by unfold okT; decide
              have k2 : okT nName := by unfold okT; decide
              have k3 : okT nNumber := by unfold okT; decide
              split at h
              · cases h; exact k1
              · split at h
                · split at h
                  · cases h; exact k2
                  · cases h
                · split at h
                  · cases h; exact k3
                  · cases h
            unfold kindAt at hk
            split at hk
            · exact all _ hk
            · split at hk
              · cases hk; unfold okT; decide
              · cases hk
          · unfold wordAt
            split
            · exact fun x hx => hok x (List.mem_of_mem_drop (List.takeWhile_sublist _ |>.mem hx))
            · intro x hx
              simp at hx
              subst hx
              exact hok _ (List.mem_of_getElem? hc)
theorem LawF.told (Z : LawF G) {l : List Nat} (hl : l.length ≤ 100000) (hok : okT l) : fnk G (k + 5) 46 [.str (sl l)] S = .ok (.bl true) S := by
  rw [fnk_pure Z.f46 rfl rfl (out_low (n := 0) rfl)]
  show pureOut S true (bodyOf (execs _ _ EVU.b46 [some (.str (sl l)), none, none] [])) = _
  generalize hE : (⟨G.P, fnk G (k + 4), fnT G (k + 4), none, none⟩ : Ec) = E
  have hP : E.P = G.P := by rw [← hE]
  have hz2 : sizeLine = 16777216 := rfl
  have hdue := Z.due (S := [some (.lst [])]) (k := k) hl hok
  have htok := Z.tok.tokens (S := [some (.lst [])]) (k := k) hl hok
  have hrun : ∀ ρ S', ρ[0]? = some (some (.str (sl l))) → ev E (.call 36 (.cons (.v 0) .nil)) ρ S' = E.fn 36 [.str (sl l)] S' := fun ρ S' h0 =>
    r_call0 (rs_cons (r_v h0) rs_nil) (by rw [hP]; exact Z.tok.d _ _ (by omega) (by omega)) (by rw [hP]; exact (Z.tok.m1 36 (by decide)).symm) rfl
  have d45 : ∀ d, fnk G (k + 4) 45 [.str (sl l)] [some (.lst [])] = .ok d [some (.lst [])] → exec E G.sub (EVU.b46.nth 0) [some (.str (sl l)), none, none] [] = .fl (.nx [some (.str (sl l)), some (.ref 0), some d]) [some (.lst [])] := fun d hd =>
    x_asg (r_tup (rs_cons (r_mkl (rC_disp rs_nil (Nat.zero_le _))) (rs_cons (r_call0 (rs_cons (r_v rfl) rs_nil) (by rw [hP]; exact Z.d _ _ (by omega) (by omega)) (by rw [hP]; exact (Z.m1 45 (by decide)).symm) (by rw [← hE]; exact hd)) rs_nil)) (Nat.le_of_ble_eq_true rfl)) (a_t (as_cons (a_v (Nat.le_of_ble_eq_true rfl)) (as_cons (a_v (Nat.le_of_ble_eq_true rfl)) as_nil)))
  cases hs : scanAll l with
  | inl rows =>
    rw [hs] at hdue htok
    have s1 := d45 _ hdue
    have hrl : rows.length ≤ l.length + 1 := by
      have := scan_len (l := l) (l.length + 1) 0 1 1 [] rows hs
      simpa using this
    have hpl := plain_rows hok (l.length + 1) 0 1 1 [] rows (by simp) hs
    have happ : ev E (.mut .append (.v 1) (.cons (.call 36 (.cons (.v 0) .nil)) .nil)) [some (.str (sl l)), some (.ref 0), some (.tup [.non, .tup rows])] [some (.lst [])] = .ok .non [some (.lst [.tup rows])] :=
      r_mut (r_v rfl) rfl (rs_cons ((hrun _ _ rfl).trans (by rw [← hE]; exact htok)) rs_nil) rfl (om_append (xs := []) (by decide))
    have hwhy : ev E (.thunk 40 (.mut .append (.v 1) (.cons (.call 36 (.cons (.v 0) .nil)) .nil))) [some (.str (sl l)), some (.ref 0), some (.tup [.non, .tup rows])] [some (.lst [])] = .ok .non [some (.lst [.tup rows])] :=
      r_thunk (by rw [← hE] at happ ⊢; exact Z.why_ok happ)
    have hp : plainD false (.tup rows) = true := by
      rw [plainD, decide_eq_true (by omega)]
      have : ∀ {ds : List D}, (∀ d ∈ ds, plainD false d = true) → plainDs false ds = true := plainDs_of
      rw [this fun d hd => (hpl d hd).1]
      rfl
    have hdp : depthD (.tup rows) ≤ 3 := by
      show depthDs rows + 1 ≤ 3
      have : ∀ {ds : List D}, (∀ d ∈ ds, depthD d ≤ 2) → depthDs ds ≤ 2 := fun {ds} h => by
        induction ds with
        | nil => exact Nat.zero_le _
        | cons d ds ih =>
          have h1 := h d (List.mem_cons_self ..)
          have h2 := ih fun x hx => h x (List.mem_cons_of_mem _ hx)
          show max (depthD d) (depthDs ds) ≤ 2
          omega
      have := this fun d hd => (hpl d hd).2
      omega
    have hsame := Z.same.refl (k + 3) (.tup rows) [some (.lst [.tup rows])] hp (by omega)
    have hb : bodyOf (execs E G.sub EVU.b46 [some (.str (sl l)), none, none] []) = .ok (.bl true) [some (.lst [.tup rows])] :=
      body_rt (xs_cons s1 (xs_cons (x_if_f (r_o2 hwhy (r_o2 (r_v rfl) r_c (o_idx (z := .non) rfl (by decide) rfl)) rfl) (t_fa rfl) xs_nil) (xs_rt (x_ret (r_or_f (r_o2 (r_o2 (r_v rfl) r_c (o_idx (z := .non) rfl (by decide) rfl)) r_c rfl) (t_fa rfl)
        (r_call0 (rs_cons (r_o2 (r_v rfl) r_c (o_idx (z := .tup rows) rfl (by decide) rfl)) (rs_cons (r_o2 (r_v rfl) r_c (o_idx (z := .tup rows) rfl (by decide) rfl)) rs_nil)) (by rw [hP]; exact Z.same.sd) (by rw [hP]; exact Z.same.sm.symm) (by rw [← hE]; exact hsame)))))))
    rw [hb]
    rfl
  | inr t =>
    obtain ⟨ln, co⟩ := t
    rw [hs] at hdue htok
    have s1 := d45 _ hdue
    have happ : ev E (.mut .append (.v 1) (.cons (.call 36 (.cons (.v 0) .nil)) .nil)) [some (.str (sl l)), some (.ref 0), some (.tup [readD ln co, .non])] [some (.lst [])] = .exc 2 [2, 0] [.int co, .int ln] [some (.lst [])] := by
      have e : ev E (.call 36 (.cons (.v 0) .nil)) [some (.str (sl l)), some (.ref 0), some (.tup [readD ln co, .non])] [some (.lst [])] = .exc 2 [2, 0] [.int co, .int ln] [some (.lst [])] := (hrun _ _ rfl).trans (by rw [← hE]; exact htok)
      rw [ev, r_v (d := .ref 0) rfl]
      simp only [Rs.bind_ok]
      rw [show EV.cellOf [some (.lst [])] 0 = some (.lst []) from rfl]
      simp only [evs, e]
      rfl
    have hwhy : ev E (.thunk 40 (.mut .append (.v 1) (.cons (.call 36 (.cons (.v 0) .nil)) .nil))) [some (.str (sl l)), some (.ref 0), some (.tup [readD ln co, .non])] [some (.lst [])] = .ok (readD ln co) [some (.lst [])] :=
      r_thunk (by rw [← hE] at happ ⊢; exact Z.why_read happ)
    have pr : plainD true (readD ln co) = true := by
      have e : plainD true (.str (sl [114, 101, 97, 100])) = true := plain_str (by unfold okT; decide)
      unfold readD
      rw [plainD, plainDs, plainDs, plainDs, plainDs, e]
      rfl
    have hne : o2 [some (.lst [])] .ne (readD ln co) (readD ln co) = some (.bl false) := by
      rw [o_nep pr pr (Nat.le_of_ble_eq_true rfl) (Nat.le_of_ble_eq_true rfl), eqp_refl pr]
      rfl
    have hb : bodyOf (execs E G.sub EVU.b46 [some (.str (sl l)), none, none] []) = .ok (.bl true) [some (.lst [])] :=
      body_rt (xs_cons s1 (xs_cons (x_if_f (r_o2 hwhy (r_o2 (r_v rfl) r_c (o_idx (z := readD ln co) rfl (by decide) rfl)) hne) (t_fa rfl) xs_nil) (xs_rt (x_ret (r_or_t (r_o2 (r_o2 (r_v rfl) r_c (o_idx (z := readD ln co) rfl (by decide) rfl)) r_c rfl) (t_tr rfl))))))
    rw [hb]
    rfl
end
end K02
set_option Elab.async false
set_option linter.all false
set_option maxRecDepth 100000
set_option maxHeartbeats 4000000
namespace EV
open PySem
theorem Pen.mono {k j : Nat} {c : Cell} (h : Pen k c) (hk : k ≤ j) : Pen j c := by
  obtain ⟨a, b, d, e, f, rfl, h1, h2, h3, h4, h5, h6, h7, h8⟩ := h
  exact ⟨a, b, d, e, f, rfl, h1, h2, h3, h4, h5, by omega, h7, h8⟩
theorem Pen.okS1 {k : Nat} {c : Cell} (h : Pen k c) : okS [some c] := by
  unfold okS
  show (lowC 1 (some c) && true) = true
  rw [h.low]; rfl
/-- a drawn text of a row -/
theorem NameF.call20 {G : Prog} (Z : NameF G) (hd : G.P.dfl 20 2 = []) (hm : G.P.many 20 = 2) {E : Ec} {j k : Nat} {c : Cell} (hE : E = ⟨G.P, fnk G (j + 2), fnT G (j + 2), none, none⟩) {ρ : Env'} {a b : ME} {x : D} {xs : List D} {S0 : Store} (ha : ev E a ρ S0 = .ok (.ref 0) S0) (hb : ev E b ρ S0 = .ok x [some c]) (hx : x = .lst xs ∨ x = .tup xs) (hp : Pen k c) (hk : k < 2 ^ 40) (h0 : 0 < xs.length) (h10 : xs.length < 1073741824) :
    ∃ z c', z ∈ xs ∧ Pen (k + 1) c' ∧ ev E (.call 20 (.cons a (.cons b .nil))) ρ S0 = .ok z [some c'] := by
  have hs : ∀ S, seqOf S x = some xs := fun S => by rcases hx with rfl | rfl <;> rfl
  obtain ⟨i, z, c', h1, h2, h3⟩ := Z.pen.pick_ (j := j) (S := [some c]) (n := 0) hp hk rfl (hs _) (fun c' => hs _) h0 h10
  refine ⟨z, c', List.mem_of_getElem? h1, h2, r_call0 (rs_cons ha (rs_cons hb rs_nil)) ?_ ?_ ?_⟩
  · rw [hE]; exact hd
  · rw [hE]; exact hm.symm
  · rw [hE]; exact h3
end EV
namespace K02
open PySem EV
local macro_rules | `(tactic| walk_at "t") => `(tactic| first
  | (refine t_tr ?_; rfl)
  | (refine t_fa ?_; rfl)
  | exact t_bl (decide_eq_true (by first | assumption | omega | (simp only [List.length_map] at *; omega)))
  | exact t_bl (decide_eq_false (by first | assumption | omega | (simp only [List.length_map] at *; omega))))
local macro_rules | `(tactic| walk_at "o") => `(tactic| first
  | exact o_eqi | exact o_nei
  | exact o_idx rfl (by first | assumption | decide | omega) (by first | assumption | exact rfl)
  | exact o_p18
  | exact o_eqb | exact o_neb
  | exact o_eqs (by first | assumption | decide) (by first | assumption | decide)
  | exact o_mulr (by decide) | exact o_mull (by decide)
  | exact o_mod (by first | decide | assumption | omega)
  | exact o_fdiv (by first | decide | assumption | omega) (by first | decide | assumption | omega)
  | exact rfl)
local macro_rules | `(tactic| walk_at "add") => `(tactic| first
  | exact add_int
  | exact add_str (by walk_at "size")
  | exact add_tup (by walk_at "size")
  | exact add_lstv rfl rfl (by walk_at "size")
  | exact add_lst rfl rfl (by walk_at "size"))
local macro_rules | `(tactic| walk_at "size") => `(tactic| first | decide | exact Nat.le_of_ble_eq_true rfl | (simp only [List.length_cons, List.length_nil, List.length_map, List.length_append, sizeLine]; omega))
local macro_rules | `(tactic| walk_at "mul") => `(tactic| first
  | exact mul_lstv rfl (by first | decide | exact rfl)
  | ((first | apply mul_int | apply mul_tup) <;> walk_at "o"))
local macro_rules | `(tactic| walk_at "es") => `(tactic| first
  | with_reducible exact rs_nil
  | ((with_reducible apply rs_cons); walk_at "e"; walk_at "es"))
local macro_rules | `(tactic| walk_at "eO") => `(tactic| first
  | with_reducible exact rO_none
  | ((with_reducible apply rO_some); walk_at "e"))
local macro_rules | `(tactic| walk_at "eC") => `(tactic| first
  | ((with_reducible apply rC_disp); walk_at "es"; walk_at "size")
  | ((with_reducible apply rC_lof); walk_at "e"; exact rfl))
local macro_rules | `(tactic| walk_at "call") => `(tactic| assumption)
local macro_rules | `(tactic| walk_at "e") => `(tactic| first
  | with_reducible exact r_c
  | ((with_reducible apply r_v); exact rfl)
  | ((with_reducible apply r_g); exact rfl)
  | ((with_reducible apply r_o2); walk_at "e"; walk_at "e"; walk_at "o")
  | ((with_reducible apply r_o1); walk_at "e"; walk_at "o")
  | ((with_reducible apply r_addX); walk_at "e"; walk_at "e"; walk_at "add")
  | ((with_reducible apply r_mulX); walk_at "e"; walk_at "e"; walk_at "mul")
  | ((with_reducible apply r_and); walk_at "e"; walk_at "t"; first | (show ev _ _ _ _ = _; walk_at "e") | exact rfl)
  | ((with_reducible apply r_or); walk_at "e"; walk_at "t"; first | (show ev _ _ _ _ = _; walk_at "e") | exact rfl)
  | ((with_reducible apply r_not); walk_at "e"; walk_at "t")
  | ((with_reducible apply r_ite); walk_at "e"; walk_at "t"; show ev _ _ _ _ = _; walk_at "e")
  | ((with_reducible apply r_isi); walk_at "e"; exact rfl; exact rfl)
  | ((with_reducible apply r_tup); walk_at "es"; walk_at "size")
  | ((with_reducible apply r_mkv); walk_at "eC")
  | ((with_reducible apply r_mkl); walk_at "eC")
  | ((with_reducible apply r_att); walk_at "e"; exact rfl; exact rfl; exact rfl)
  | ((with_reducible apply r_call0); walk_at "es"; exact rfl; exact rfl; walk_at "call")
  | ((with_reducible apply r_call); walk_at "es"; exact rfl; walk_at "call"))
local macro_rules | `(tactic| walk_at "asg") => `(tactic| first
  | ((with_reducible apply a_v); simp)
  | ((with_reducible apply a_ix); walk_at "e"; walk_at "e"; walk_at "set")
  | ((with_reducible apply a_att); walk_at "e"; walk_at "set")
  | ((with_reducible apply a_t); walk_at "asgs"))
local macro_rules | `(tactic| walk_at "asgs") => `(tactic| first
  | with_reducible exact as_nil
  | ((with_reducible apply as_cons); walk_at "asg"; walk_at "asgs"))
local macro_rules | `(tactic| walk_at "set") => `(tactic| exact rfl)
local macro_rules | `(tactic| walk_at "x") => `(tactic| first
  | ((with_reducible apply x_asg); walk_at "e"; walk_at "asg")
  | ((with_reducible apply x_ret); walk_at "e")
  | with_reducible exact x_retN
  | ((with_reducible apply x_ex); walk_at "e")
  | ((with_reducible apply x_par); walk_at "es"; exact rfl)
  | ((with_reducible apply x_if); walk_at "e"; walk_at "t"; show execs _ _ _ _ _ = _; walk_at "xs"))
local macro_rules | `(tactic| walk_at "xs") => `(tactic| first
  | with_reducible exact xs_nil
  | ((with_reducible apply xs_c); walk_at "x"; first | (with_reducible exact Ro.nx_rt _ _ _) | (rewrite [Ro.nx_nx]; walk_at "xs")))

section
variable {G : Prog} {k : Nat} {S : Store}
/-- is_name, of a text -/
theorem LawF.isname' (Z : LawF G) {w : List Nat} (hw : okT w) (hl : w.length ≤ 16777216) : fnk G (k + 3) 30 [.str (sl w)] S = .ok (.bl (nameB w)) S := by
  rw [fnk_plain Z.tok.f30 rfl rfl]
  show bodyOf (execs _ _ EVU.b30 [some (.str (sl w)), none] S) = _
  generalize hE : (⟨G.P, fnk G (k + 2), fnT G (k + 2), none, none⟩ : Ec) = E
  have hP : E.P = G.P := by rw [← hE]
  have hi : ev E (.not_ (.isi (.v 0) [.str])) [some (.str (sl w)), none] S = .ok (.bl false) S := r_not (r_isi (r_v rfl) (tg := .str) rfl rfl) (t_bl rfl)
  have he : ev E (.o2 .eq (.v 0) (.c (.str (sl [])))) [some (.str (sl w)), none] S = .ok (.bl (decide (w = []))) S := r_o2 (r_v rfl) r_c (o_eqS hw ok0)
  have hall : ev E (.not_ (.o1 .all (.mk false (.comp (.call 27 (.cons (.v 1) .nil)) (.v 1) (.e (.v 0)) .none [1])))) [some (.str (sl w)), none] S = .ok (.bl (!(w.all isRun))) S :=
    r_not (r_o1 (r_mkv (rC_comp (S1 := S) (ls := []) (rI_e (r_v rfl) (iter_str S w)) (by rw [List.length_map]; exact hl) (comp_all w fun c _ => r_call0 (rs_cons (r_v rfl) rs_nil) (by rw [hP]; exact Z.tok.d _ _ (by omega) (by omega)) (by rw [hP]; exact (Z.tok.m1 27 (by decide)).symm) (by rw [← hE]; exact Z.tok.run c)))) (all_bls _ _ _)) (t_bl rfl)
  cases w with
  | nil => exact body_rt (xs_rt (x_if_t (r_or_f hi (t_bl rfl) (r_or_t he (t_bl rfl))) (t_bl rfl) (xs_rt (x_ret r_c))))
  | cons c r =>
    cases ha : (c :: r).all isRun with
    | false =>
      rw [ha] at hall
      have : nameB (c :: r) = false := by unfold nameB; rw [ha]; simp
      rw [this]
      exact body_rt (xs_rt (x_if_t (r_or_f hi (t_bl rfl) (r_or_f he (t_bl rfl) hall)) (t_bl rfl) (xs_rt (x_ret r_c))))
    | true =>
      rw [ha] at hall
      have e : nameB (c :: r) = decide (kindR (c :: r) = some nName) := by unfold nameB; rw [ha]; simp
      rw [e]
      have hk : ev E (.call 29 (.cons (.v 0) .nil)) [some (.str (sl (c :: r))), none] S = .ok (optS (kindR (c :: r))) S := r_call0 (rs_cons (r_v rfl) rs_nil) (by rw [hP]; exact Z.tok.d _ _ (by omega) (by omega)) (by rw [hP]; exact (Z.tok.m1 29 (by decide)).symm) (by rw [← hE]; exact Z.tok.kind hw (by simp) hl)
      have hq : o2 S .eq (optS (kindR (c :: r))) (.str (sl nName)) = some (.bl (decide (kindR (c :: r) = some nName))) := by
        have kn : okT nName := by unfold okT; decide
        have pn := plain_str kn
        cases hkr : kindR (c :: r) with
        | none =>
          rw [o_eqp (by rw [optS, plainD]) pn (Nat.le_of_ble_eq_true rfl) (Nat.le_of_ble_eq_true rfl)]
          rfl
        | some kd =>
          have ok : okT kd := by
            unfold kindR at hkr
            have k1 : okT nKey := by unfold okT; decide
            have k3 : okT nNumber := by unfold okT; decide
            split at hkr
            · cases hkr; exact k1
            · split at hkr
              · split at hkr
                · cases hkr; exact kn
                · cases hkr
              · split at hkr
                · cases hkr; exact k3
                · cases hkr
          show o2 S .eq (.str (sl kd)) (.str (sl nName)) = _
          rw [o_eqS ok kn]
          simp
      exact body_rt (xs_cons (x_if_f (r_or_f hi (t_bl rfl) (r_or_f he (t_bl rfl) hall)) (t_bl rfl) xs_nil) (xs_rt (x_ret (r_o2 hk r_c hq))))
/-- what is no text -/
def noStr (z : D) : Prop := lowD 0 z = true ∧ ∀ (cls : Nat → Bool) (S : Store), ∃ tg, tagOf cls S z = some tg ∧ isTag tg .str = false
theorem LawF.no30 (Z : LawF G) {z : D} (h : noStr z) : fnk G (k + 1) 30 [z] S = .ok (.bl false) S := by
  rw [fnk_plain Z.tok.f30 rfl rfl]
  obtain ⟨tg, h1, h2⟩ := h.2 G.P.cls S
  exact body_rt (xs_rt (x_if_t (r_or_t (r_not (r_isi (r_v rfl) h1 (t := false) (by simp [h2])) (t_bl rfl)) (t_tr rfl)) (t_tr rfl) (xs_rt (x_ret r_c))))
theorem LawF.no42 (Z : LawF G) {z : D} (h : noStr z) : fnk G (k + 1) 42 [z] S = .ok (.bl false) S := by
  rw [fnk_plain Z.f42 rfl rfl]
  obtain ⟨tg, h1, h2⟩ := h.2 G.P.cls S
  exact body_rt (xs_rt (x_if_t (r_or_t (r_not (r_isi (r_v rfl) h1 (t := false) (by simp [h2])) (t_bl rfl)) (t_tr rfl)) (t_tr rfl) (xs_rt (x_ret r_c))))
theorem LawF.no36 (Z : LawF G) {z : D} (h : noStr z) : fnk G (k + 1) 36 [z] S = .exc 2 [2, 0] [.int 0, .int 0] S := by
  have hl : lowDs 0 [z] = true := by show (lowD 0 z && true) = true; rw [h.1]; rfl
  rw [fnk_pure Z.tok.f36 rfl rfl (out_low hl), hl]
  obtain ⟨tg, h1, h2⟩ := h.2 G.P.cls []
  have hb : bodyOf (execs ⟨G.P, fnk G k, fnT G k, none, none⟩ G.sub EVU.b36 [some z, none, none] []) = .exc 2 [2, 0] [.int 0, .int 0] [] :=
    body_exc (xs_exc (x_if_t (r_not (r_isi (r_v rfl) h1 (t := false) (by simp [h2])) (t_bl rfl)) (t_tr rfl) (xs_exc (x_raise (fs := [0, 2]) (ds := [.int 0, .int 0]) (rs_cons r_c (rs_cons r_c rs_nil)) Z.tok.exf rfl))))
  show pureOut S true (bodyOf (execs ⟨G.P, fnk G k, fnT G k, none, none⟩ G.sub EVU.b36 [some z, none, none] [])) = _
  rw [hb]
  rfl
/-! ### the law -/
def rightL : List (List Nat) := [[48], [55], [49, 48], [51, 48, 53], [57, 57, 57], [123], [125], [61], [59], [44], [43], [45], [60], [97, 98, 99, 100, 101, 102, 103, 104, 105, 106, 107, 108]]
def wrongL : List (List Nat) := [[48, 49], [48, 48], [49, 48, 48, 48], [49, 97], [97, 98, 99, 100, 101, 102, 103, 104, 105, 106, 107, 108, 109], [100, 101, 101, 100, 100, 101, 101, 100, 100, 101, 101, 100, 49], [65], [95], [97, 46, 98], [46], [91], [9], [42], [97, 95]]
def gapL : List (List Nat) := [[32], [32], [10], [], [32, 32], [32, 35, 32, 120, 32, 125, 32, 48, 49, 10], [35, 10], [10, 10]]
def endL : List (List Nat) := [[35], [35, 32, 101, 110, 100], [32], [10], [10, 32], [35, 32, 97, 10, 35, 98]]
def valL : List (List Nat) := [[], [32], [10], [35], [97, 35, 98, 10, 99], [123, 125, 61, 59, 44, 43, 45, 60], [97, 45, 49], [100, 101, 101, 100, 50], [50, 100, 101, 101, 100], [107, 101, 112, 116], [107, 101, 112, 116, 120]]
def small (ws : List (List Nat)) : Prop := ∀ w ∈ ws, okT w ∧ w.length ≤ 20
theorem small_r : small rightL := by unfold small okT; decide
theorem small_w : small wrongL := by unfold small okT; decide
theorem small_g : small gapL := by unfold small okT; decide
theorem small_e : small endL := by unfold small okT; decide
theorem small_v : small valL := by unfold small okT; decide
theorem small_k : small keysL := by unfold small okT; decide
theorem small_app {a b : List (List Nat)} (ha : small a) (hb : small b) : small (a ++ b) := fun w hw => by
  rcases List.mem_append.mp hw with h | h
  · exact ha w h
  · exact hb w h
theorem txs_app (a b : List (List Nat)) : txs (a ++ b) = txs a ++ txs b := List.map_append ..
theorem mem_txs {z : D} {ws : List (List Nat)} (h : z ∈ txs ws) : ∃ w ∈ ws, z = .str (sl w) := by
  obtain ⟨w, h1, h2⟩ := List.mem_map.mp h
  exact ⟨w, h1, h2.symm⟩
structure LawG (G : Prog) : Prop extends LawF G where
  f47 : G.fns 47 = some ⟨1, 11, EVU.b47, .plain⟩
  d' : ∀ f n, 18 ≤ f → f ≤ 47 → G.P.dfl f n = []
  n20 : G.P.many 20 = 2
  n18 : G.P.many 18 = 1
abbrev lE (G : Prog) : Ec := ⟨G.P, fnk G 9, fnT G 9, none, none⟩
abbrev lap : MB := (EVU.b47.nth 1).inn
abbrev turn : MB := (lap.nth 4).inn
def lenv (ns : List Int) (r2 r3 r4 r5 r6 r7 r8 r9 r10 : Option D) : Env' := [some (.scr (ns.map .int)), some (.ref 0), r2, r3, r4, r5, r6, r7, r8, r9, r10]
theorem names_small {ws vs : List (List Nat)} (h1 : ∀ i w, vs[i]? = some w → NameW i w) (h2 : ws.Perm vs) (h3 : vs.length ≤ 90) : small ws := fun w hw => by
  obtain ⟨i, hi⟩ := List.mem_iff_getElem?.mp ((h2.mem_iff).mp hw)
  have := (List.getElem?_eq_some_iff.mp hi).1
  have hn := h1 i w hi
  exact ⟨hn.okT (by omega), by have := (hn.run (by omega)).2.1; omega⟩
theorem LawG.names3 (Z : LawG G) {ρ : Env'} {c : Cell} (h1 : ρ[1]? = some (some (.ref 0))) (hp : Pen k c) (hk : k < 100000) : ∃ ws c', small ws ∧ ws.length = 3 ∧ Pen (k + 33) c' ∧ ev (lE G) (.call 39 (.cons (.v 1) (.cons (.c (.int 3)) .nil))) ρ [some c] = .ok (.lst (txs ws)) [some c'] := by
  obtain ⟨ws, vs, c', q, a1, a2, a3, a4, a5, a6⟩ := Z.nam.names (j := 6) (S := [some c]) (n := 0) (m := 3) (by omega) hp (by omega) rfl hp.okS1
  exact ⟨ws, c', names_small a2 a3 (by omega), by rw [a3.length_eq, a1], a4.mono (by omega), r_call0 (rs_cons (r_v h1) (rs_cons r_c rs_nil)) Z.nam.d39 Z.nam.m39.symm a6⟩
theorem LawG.pick (Z : LawG G) {ρ : Env'} {c : Cell} {b : ME} {ws : List (List Nat)} (h1 : ρ[1]? = some (some (.ref 0))) (hb : ev (lE G) b ρ [some c] = .ok (.lst (txs ws)) [some c]) (hp : Pen k c) (hk : k < 100000) (h0 : 0 < ws.length) (h10 : ws.length < 1000) : ∃ w c', w ∈ ws ∧ Pen (k + 1) c' ∧ ev (lE G) (.call 20 (.cons (.v 1) (.cons b .nil))) ρ [some c] = .ok (.str (sl w)) [some c'] := by
  obtain ⟨z, c', a1, a2, a3⟩ := Z.nam.call20 (Z.d' 20 2 (by omega) (by omega)) Z.n20 (E := lE G) (j := 7) rfl (r_v h1) hb (.inl rfl) hp (by omega) (by rw [txs_len]; omega) (by rw [txs_len]; omega)
  obtain ⟨w, hw, rfl⟩ := mem_txs a1
  exact ⟨w, c', hw, a2, a3⟩
theorem LawG.draw (Z : LawG G) {ρ : Env'} {c : Cell} {many : Int} (h1 : ρ[1]? = some (some (.ref 0))) (hp : Pen k c) (hk : k < 100000) (h9 : 0 < many) (h10 : many < 1000) : ∃ d c', 0 ≤ d ∧ d < many ∧ Pen (k + 1) c' ∧ ev (lE G) (.call 19 (.cons (.v 1) (.cons (.c (.int many)) .nil))) ρ [some c] = .ok (.int d) [some c'] := by
  obtain ⟨d, c', a1, a2, a3, a4⟩ := Z.nam.call19 (j := 8) (E := lE G) rfl (n := 0) (S := [some c]) (r_v h1) r_c hp (by omega) h9 (by omega) rfl
  exact ⟨d, c', a1, a2, a3, a4⟩
theorem LawG.keys' (Z : LawG G) {ρ : Env'} : ev (lE G) (.call 41 .nil) ρ S = .ok (.lst (txs keysL)) S := r_call0 rs_nil (Z.d 41 0 (by omega) (by omega)) Z.m0.symm Z.keys
theorem LawG.told' (Z : LawG G) {ρ : Env'} {e : ME} {S0 : Store} {l : List Nat} (he : ev (lE G) e ρ S0 = .ok (.str (sl l)) S) (hl : l.length ≤ 100000) (hok : okT l) : ev (lE G) (.not_ (.call 46 (.cons e .nil))) ρ S0 = .ok (.bl false) S :=
  r_not (r_call0 (rs_cons he rs_nil) (Z.d 46 1 (by omega) (by omega)) (Z.m1 46 (by decide)).symm (Z.told (k := 4) hl hok)) (t_bl rfl)
theorem okT_app {a b : List Nat} (ha : okT a) (hb : okT b) : okT (a ++ b) := fun c hc => by
  rcases List.mem_append.mp hc with h | h
  · exact ha c h
  · exact hb c h
theorem LawG.turns (Z : LawG G) {ns : List Int} {c : Cell} {m : Nat} {r2 r3 r4 r5 r9 r10 : Option D} {ws : List (List Nat)} (hws : small ws) (h0 : 0 < ws.length) (h1 : ws.length < 1000) (hp : Pen k c) (hk : k < 90000) (hm : m < 25) :
    ∃ r9' r10' l c', forL (.v 9) (fun ρ S => execs (lE G) G.sub turn ρ S) (rangeD 0 m) (lenv ns r2 r3 r4 r5 (some (.lst (txs ws))) (some (.lst (txs wrongL))) (some (.str (sl []))) r9 r10) [some c] = .fl (.nx (lenv ns r2 r3 r4 r5 (some (.lst (txs ws))) (some (.lst (txs wrongL))) (some (.str (sl l))) r9' r10')) [some c'] ∧ okT l ∧ l.length ≤ 40 * m ∧ Pen (k + 3 * m) c' := by
  obtain ⟨ρ', S', h, r9', r10', l, c', rfl, rfl, h2, h3, h4⟩ := forL_inv (tg := .v 9) (b := fun ρ S => execs (lE G) G.sub turn ρ S)
    (fun i ρ S' => ∃ (r9' r10' : Option D) (l : List Nat) (c' : Cell), ρ = lenv ns r2 r3 r4 r5 (some (.lst (txs ws))) (some (.lst (txs wrongL))) (some (.str (sl l))) r9' r10' ∧ S' = [some c'] ∧ okT l ∧ l.length ≤ 40 * i ∧ Pen (k + 3 * i) c') (rangeD 0 m) 0 (lenv ns r2 r3 r4 r5 (some (.lst (txs ws))) (some (.lst (txs wrongL))) (some (.str (sl []))) r9 r10) [some c] ⟨r9, r10, [], c, rfl, rfl, ok0, by simp, hp⟩ (by
      rintro i y ρ S' hi ⟨r9', r10', l, c', rfl, rfl, h2, h3, h4⟩
      have hi' : i < m := by
        have := (List.getElem?_eq_some_iff.mp hi).1
        simpa [rangeD] using this
      obtain ⟨d, c1, d1, d2, d3, d4⟩ := Z.draw (ρ := lenv ns r2 r3 r4 r5 (some (.lst (txs ws))) (some (.lst (txs wrongL))) (some (.str (sl l))) (some y) r10') (many := 12) rfl h4 (by omega) (by omega) (by omega)
      have hgt := r_o2 (o := .gt) d4 (r_c (d := .int 0)) (z := .bl (decide ((0 : Int) < d))) rfl
      obtain ⟨w, c2, w1, w2, w3⟩ : ∃ w c2, (okT w ∧ w.length ≤ 20) ∧ Pen (k + 3 * (0 + i) + 1 + 1) c2 ∧ ev (lE G) (turn.nth 0).exp (lenv ns r2 r3 r4 r5 (some (.lst (txs ws))) (some (.lst (txs wrongL))) (some (.str (sl l))) (some y) r10') [some c'] = .ok (.str (sl w)) [some c2] := by
        by_cases e : (0 : Int) < d
        · obtain ⟨w, c2, a1, a2, a3⟩ := Z.pick (ρ := lenv ns r2 r3 r4 r5 (some (.lst (txs ws))) (some (.lst (txs wrongL))) (some (.str (sl l))) (some y) r10') (b := .v 6) (ws := ws) rfl (r_v rfl) d3 (by omega) h0 h1
          exact ⟨w, c2, hws w a1, a2, r_ite_t hgt (t_bl (decide_eq_true e)) a3⟩
        · obtain ⟨w, c2, a1, a2, a3⟩ := Z.pick (ρ := lenv ns r2 r3 r4 r5 (some (.lst (txs ws))) (some (.lst (txs wrongL))) (some (.str (sl l))) (some y) r10') (b := .v 7) (ws := wrongL) rfl (r_v rfl) d3 (by omega) (by decide) (by decide)
          exact ⟨w, c2, small_w w a1, a2, r_ite_f hgt (t_bl (decide_eq_false e)) a3⟩
      obtain ⟨g, c3, g1, g2, g3⟩ := Z.pick (ρ := lenv ns r2 r3 r4 r5 (some (.lst (txs ws))) (some (.lst (txs wrongL))) (some (.str (sl l))) (some y) (some (.str (sl w)))) (b := .mk false (.disp (.cons (.c (.str (sl [32]))) (.cons (.c (.str (sl [32]))) (.cons (.c (.str (sl [10]))) (.cons (.c (.str (sl []))) (.cons (.c (.str (sl [32, 32]))) (.cons (.c (.str (sl [32, 35, 32, 120, 32, 125, 32, 48, 49, 10]))) (.cons (.c (.str (sl [35, 10]))) (.cons (.c (.str (sl [10, 10]))) .nil)))))))))) (ws := gapL) rfl
        (r_mkv (rC_disp (ds := txs gapL) (rs_cons r_c (rs_cons r_c (rs_cons r_c (rs_cons r_c (rs_cons r_c (rs_cons r_c (rs_cons r_c (rs_cons r_c rs_nil)))))))) (Nat.le_of_ble_eq_true rfl))) w2 (by omega) (by decide) (by decide)
      have hg := small_g g g1
      have hz : sizeLine = 16777216 := rfl
      refine ⟨_, lenv ns r2 r3 r4 r5 (some (.lst (txs ws))) (some (.lst (txs wrongL))) (some (.str (sl (l ++ w ++ g)))) (some y) (some (.str (sl w))), [some c3], rfl, xs_cons (x_asg w3 (a_v (Nat.le_of_ble_eq_true rfl))) (xs_cons (x_asg (r_addX (r_addX (r_v rfl) (r_v rfl) (add_str (by rw [sl_len, sl_len]; omega))) g3 ?_) (a_v (Nat.le_of_ble_eq_true rfl))) xs_nil), some y, some (.str (sl w)), l ++ w ++ g, c3, rfl, rfl, okT_app (okT_app h2 w1.1) hg.1, by simp; omega, g2.mono (by omega)⟩
      rw [sl_app, add_str (by rw [sl_len, sl_len]; simp; omega), sl_app])
  have hr : (rangeD 0 m).length = m := by simp [rangeD]
  rw [hr, Nat.zero_add] at h3 h4
  exact ⟨r9', r10', l, c', h, h2, h3, h4⟩
end
end K02
set_option Elab.async false
set_option linter.all false
set_option maxRecDepth 100000
set_option maxHeartbeats 4000000
namespace K02
open PySem EV
section
variable {G : Prog} {k : Nat} {S : Store}
theorem LawG.lap_ (Z : LawG G) {ns : List Int} {c : Cell} {r2 r3 r4 r5 r6 r7 r8 r9 r10 : Option D} (hp : Pen k c) (hk : k < 80000) :
    ∃ q5 q6 q7 q8 q9 q10 c', execs (lE G) G.sub lap (lenv ns r2 r3 r4 r5 r6 r7 r8 r9 r10) [some c] = .fl (.nx (lenv ns r2 r3 r4 q5 q6 q7 q8 q9 q10)) [some c'] ∧ Pen (k + 200) c' := by
  have hz : sizeLine = 16777216 := rfl
  obtain ⟨ws, c1, n1, n2, n3, n4⟩ := Z.names3 (ρ := lenv ns r2 r3 r4 r5 r6 r7 r8 r9 r10) rfl hp (by omega)
  have s0 : exec (lE G) G.sub (lap.nth 0) (lenv ns r2 r3 r4 r5 r6 r7 r8 r9 r10) [some c] = .fl (.nx (lenv ns r2 r3 r4 (some (.lst (txs ws))) r6 r7 r8 r9 r10)) [some c1] := x_asg n4 (a_v (Nat.le_of_ble_eq_true rfl))
  have s1 : exec (lE G) G.sub (lap.nth 1) (lenv ns r2 r3 r4 (some (.lst (txs ws))) r6 r7 r8 r9 r10) [some c1] = .fl (.nx (lenv ns r2 r3 r4 (some (.lst (txs ws))) (some (.lst (txs (ws ++ keysL ++ rightL)))) r7 r8 r9 r10)) [some c1] := by
    rw [txs_app, txs_app]
    exact x_asg (r_addX (r_addX (r_v rfl) Z.keys' (add_lstv rfl rfl (by rw [txs_len, txs_len, n2]; decide))) (r_mkv (rC_disp (ds := txs rightL) (rs_cons r_c (rs_cons r_c (rs_cons r_c (rs_cons r_c (rs_cons r_c (rs_cons r_c (rs_cons r_c (rs_cons r_c (rs_cons r_c (rs_cons r_c (rs_cons r_c (rs_cons r_c (rs_cons r_c (rs_cons r_c rs_nil)))))))))))))) (Nat.le_of_ble_eq_true rfl))) (add_lstv rfl rfl (by rw [List.length_append, txs_len, txs_len, txs_len, n2]; decide))) (a_v (Nat.le_of_ble_eq_true rfl))
  have s2 : exec (lE G) G.sub (lap.nth 2) (lenv ns r2 r3 r4 (some (.lst (txs ws))) (some (.lst (txs (ws ++ keysL ++ rightL)))) r7 r8 r9 r10) [some c1] = .fl (.nx (lenv ns r2 r3 r4 (some (.lst (txs ws))) (some (.lst (txs (ws ++ keysL ++ rightL)))) (some (.lst (txs wrongL))) r8 r9 r10)) [some c1] :=
    x_asg (r_mkv (rC_disp (ds := txs wrongL) (rs_cons r_c (rs_cons r_c (rs_cons r_c (rs_cons r_c (rs_cons r_c (rs_cons r_c (rs_cons r_c (rs_cons r_c (rs_cons r_c (rs_cons r_c (rs_cons r_c (rs_cons r_c (rs_cons r_c (rs_cons r_c rs_nil)))))))))))))) (Nat.le_of_ble_eq_true rfl))) (a_v (Nat.le_of_ble_eq_true rfl))
  have s3 : exec (lE G) G.sub (lap.nth 3) (lenv ns r2 r3 r4 (some (.lst (txs ws))) (some (.lst (txs (ws ++ keysL ++ rightL)))) (some (.lst (txs wrongL))) r8 r9 r10) [some c1] = .fl (.nx (lenv ns r2 r3 r4 (some (.lst (txs ws))) (some (.lst (txs (ws ++ keysL ++ rightL)))) (some (.lst (txs wrongL))) (some (.str (sl []))) r9 r10)) [some c1] :=
    x_asg r_c (a_v (Nat.le_of_ble_eq_true rfl))
  obtain ⟨d, c2, d1, d2, d3, d4⟩ := Z.draw (ρ := lenv ns r2 r3 r4 (some (.lst (txs ws))) (some (.lst (txs (ws ++ keysL ++ rightL)))) (some (.lst (txs wrongL))) (some (.str (sl []))) r9 r10) (many := 25) rfl n3 (by omega) (by omega) (by omega)
  obtain ⟨r9', r10', l, c3, t1, t2, t3, t4⟩ := Z.turns (ns := ns) (m := d.toNat) (r2 := r2) (r3 := r3) (r4 := r4) (r5 := some (.lst (txs ws))) (r9 := r9) (r10 := r10) (small_app (small_app n1 small_k) small_r) (by simp [n2, keysL, rightL]) (by simp [n2, keysL, rightL]) d3 (by omega) (by omega)
  have hsm : small62 d = true := by
    unfold small62
    simp only [Bool.and_eq_true, decide_eq_true_eq]
    have : (2 : Int) ^ 62 = 4611686018427387904 := rfl
    constructor <;> omega
  have s4 := x_forN (sub := G.sub) (rI_range1 d4 hsm) t1
  obtain ⟨e, c4, e1, e2, e3⟩ := Z.pick (ρ := lenv ns r2 r3 r4 (some (.lst (txs ws))) (some (.lst (txs (ws ++ keysL ++ rightL)))) (some (.lst (txs wrongL))) (some (.str (sl l))) r9' r10') (b := (.mk false (.disp (.cons (.c (.str (sl [35]))) (.cons (.c (.str (sl [35, 32, 101, 110, 100]))) (.cons (.c (.str (sl [32]))) (.cons (.c (.str (sl [10]))) (.cons (.c (.str (sl [10, 32]))) (.cons (.c (.str (sl [35, 32, 97, 10, 35, 98]))) .nil))))))))) (ws := endL) rfl (r_mkv (rC_disp (ds := txs endL) (rs_cons r_c (rs_cons r_c (rs_cons r_c (rs_cons r_c (rs_cons r_c (rs_cons r_c rs_nil)))))) (Nat.le_of_ble_eq_true rfl))) t4 (by omega) (by decide) (by decide)
  have he := small_e e e1
  have hadd : ev (lE G) (.addD false (.v 8) (.call 20 (.cons (.v 1) (.cons (.mk false (.disp (.cons (.c (.str (sl [35]))) (.cons (.c (.str (sl [35, 32, 101, 110, 100]))) (.cons (.c (.str (sl [32]))) (.cons (.c (.str (sl [10]))) (.cons (.c (.str (sl [10, 32]))) (.cons (.c (.str (sl [35, 32, 97, 10, 35, 98]))) .nil)))))))) .nil)))) (lenv ns r2 r3 r4 (some (.lst (txs ws))) (some (.lst (txs (ws ++ keysL ++ rightL)))) (some (.lst (txs wrongL))) (some (.str (sl l))) r9' r10') [some c3] = .ok (.str (sl (l ++ e))) [some c4] := by
    rw [← sl_app]
    exact r_addX (r_v rfl) e3 (add_str (by rw [sl_len, sl_len]; omega))
  have g1 := Z.told' (ρ := lenv ns r2 r3 r4 (some (.lst (txs ws))) (some (.lst (txs (ws ++ keysL ++ rightL)))) (some (.lst (txs wrongL))) (some (.str (sl l))) r9' r10') (e := .v 8) (S0 := [some c3]) (r_v rfl) (by omega) t2
  have g2 := Z.told' hadd (by simp; omega) (okT_app t2 he.1)
  refine ⟨_, _, _, _, _, _, _, xs_cons s0 (xs_cons s1 (xs_cons s2 (xs_cons s3 (xs_cons s4 (xs_cons (x_if_f (r_or_f g1 (t_bl rfl) g2) (t_bl rfl) xs_nil) xs_nil))))), e2.mono (by omega)⟩
def oddL : List D := [.non, .int 5, .tup [], .lst [.str (sl [100, 101, 101, 100])], .bl true, .dic [] []]
theorem odd_no : ∀ z ∈ oddL, noStr z := by
  intro z hz
  unfold oddL at hz
  simp only [List.mem_cons, List.not_mem_nil, or_false] at hz
  rcases hz with rfl | rfl | rfl | rfl | rfl | rfl
  · exact ⟨rfl, fun _ _ => ⟨_, rfl, rfl⟩⟩
  · exact ⟨rfl, fun _ _ => ⟨_, rfl, rfl⟩⟩
  · exact ⟨rfl, fun _ _ => ⟨_, rfl, rfl⟩⟩
  · exact ⟨rfl, fun _ _ => ⟨_, rfl, rfl⟩⟩
  · exact ⟨rfl, fun _ _ => ⟨_, rfl, rfl⟩⟩
  · exact ⟨rfl, fun _ _ => ⟨_, rfl, rfl⟩⟩
/-- the values that is_name is asked -/
def askL : List D := [.str (sl []), .str (sl (List.replicate 12 97)), .str (sl (List.replicate 13 97)), .str (sl [49, 97]), .str (sl [97, 49]), .str (sl [65]), .str (sl [97, 32, 98]), .str (sl [97, 10]), .non, .int 5, .bl true, .tup [], .lst [.str (sl [97])], .str (sl [55]), .str (sl [45])]
def asked (z : D) : Prop := noStr z ∨ ∃ w, z = .str (sl w) ∧ okT w ∧ w.length ≤ 20
theorem asked_str {w : List Nat} (h : okT w ∧ w.length ≤ 20) : asked (.str (sl w)) := .inr ⟨w, rfl, h.1, h.2⟩
theorem ask_ok : ∀ z ∈ askL, asked z := by
  intro z hz
  unfold askL at hz
  simp only [List.mem_cons, List.not_mem_nil, or_false] at hz
  rcases hz with rfl | rfl | rfl | rfl | rfl | rfl | rfl | rfl | rfl | rfl | rfl | rfl | rfl | rfl | rfl
  · exact asked_str (by unfold okT; decide)
  · exact asked_str (by unfold okT; decide)
  · exact asked_str (by unfold okT; decide)
  · exact asked_str (by unfold okT; decide)
  · exact asked_str (by unfold okT; decide)
  · exact asked_str (by unfold okT; decide)
  · exact asked_str (by unfold okT; decide)
  · exact asked_str (by unfold okT; decide)
  · exact .inl ⟨rfl, fun _ _ => ⟨_, rfl, rfl⟩⟩
  · exact .inl ⟨rfl, fun _ _ => ⟨_, rfl, rfl⟩⟩
  · exact .inl ⟨rfl, fun _ _ => ⟨_, rfl, rfl⟩⟩
  · exact .inl ⟨rfl, fun _ _ => ⟨_, rfl, rfl⟩⟩
  · exact .inl ⟨rfl, fun _ _ => ⟨_, rfl, rfl⟩⟩
  · exact asked_str (by unfold okT; decide)
  · exact asked_str (by unfold okT; decide)
theorem LawG.ask (Z : LawG G) {ρ : Env'} {z : D} (h3 : ρ[3]? = some (some z)) (hz : asked z) : ev (lE G) (.not_ (.call 21 (.cons (.call 30 (.cons (.v 3) .nil)) (.cons (.call 42 (.cons (.v 3) .nil)) .nil)))) ρ S = .ok (.bl false) S := by
  obtain ⟨b, h30, h42⟩ : ∃ b, fnk G 9 30 [z] S = .ok (.bl b) S ∧ fnk G 9 42 [z] S = .ok (.bl b) S := by
    rcases hz with hz | ⟨w, rfl, h1, h2⟩
    · exact ⟨false, Z.no30 (k := 8) hz, Z.no42 (k := 8) hz⟩
    · exact ⟨nameB w, Z.isname' (k := 6) h1 (by omega), by rw [name_same]; exact Z.isname (k := 7) h1 (by omega)⟩
  have hs : fnk G 9 21 [.bl b, .bl b] S = .ok (.bl true) S := Z.same.refl 8 (.bl b) S (by rw [plainD]) (Nat.zero_le _)
  have e30 : ev (lE G) (.call 30 (.cons (.v 3) .nil)) ρ S = .ok (.bl b) S := r_call0 (rs_cons (r_v h3) rs_nil) (Z.tok.d 30 1 (by omega) (by omega)) (Z.tok.m1 30 (by decide)).symm h30
  have e42 : ev (lE G) (.call 42 (.cons (.v 3) .nil)) ρ S = .ok (.bl b) S := r_call0 (rs_cons (r_v h3) rs_nil) (Z.d 42 1 (by omega) (by omega)) (Z.m1 42 (by decide)).symm h42
  exact r_not (r_call0 (rs_cons e30 (rs_cons e42 rs_nil)) Z.same.sd Z.same.sm.symm hs) (t_bl rfl)
theorem mul12 (S : Store) : o2 S .mul (.str (sl [97])) (.int 12) = some (.str (sl (List.replicate 12 97))) := by rfl
theorem mul13 (S : Store) : o2 S .mul (.str (sl [97])) (.int 13) = some (.str (sl (List.replicate 13 97))) := by rfl
theorem mul12' (S : Store) : mulR false (.str (sl [97])) (.int 12) S = .ok (.str (sl (List.replicate 12 97))) S := by
  unfold mulR
  rw [mul12]
  rfl
theorem mul13' (S : Store) : mulR false (.str (sl [97])) (.int 13) S = .ok (.str (sl (List.replicate 13 97))) S := by
  unfold mulR
  rw [mul13]
  rfl
theorem LawG.law (Z : LawG G) {ns : List Int} (hl : ns.length ≤ 63) : ∃ S', fnk G 10 47 [.scr (ns.map .int)] [] = .ok (.bl true) S' := by
  have hz : sizeLine = 16777216 := rfl
  rw [fnk_plain Z.f47 rfl rfl]
  show ∃ S', bodyOf (execs (lE G) G.sub EVU.b47 [some (.scr (ns.map .int)), none, none, none, none, none, none, none, none, none, none] []) = _
  obtain ⟨c0, p0, p1⟩ := Z.nam.pen.pen_ (j := 8) (S := []) hl
  have s0 : exec (lE G) G.sub (EVU.b47.nth 0) [some (.scr (ns.map .int)), none, none, none, none, none, none, none, none, none, none] [] = .fl (.nx (lenv ns none none none none none none none none none)) [some c0] :=
    x_asg (r_call0 (rs_cons (r_v rfl) rs_nil) (Z.d' 18 1 (by omega) (by omega)) Z.n18.symm p1) (a_v (Nat.le_of_ble_eq_true rfl))
  obtain ⟨ρ1, S1, h1, r2, r5, r6, r7, r8, r9, r10, c1, rfl, rfl, q1⟩ := forL_inv (tg := .v 2) (b := fun ρ S => execs (lE G) G.sub lap ρ S)
    (fun i ρ S' => ∃ (r2 r5 r6 r7 r8 r9 r10 : Option D) (c' : Cell), ρ = lenv ns r2 none none r5 r6 r7 r8 r9 r10 ∧ S' = [some c'] ∧ Pen (200 * i) c') (rangeD 0 6) 0 (lenv ns none none none none none none none none none) [some c0] ⟨_, _, _, _, _, _, _, c0, rfl, rfl, p0⟩ (by
      rintro i y ρ S' hi ⟨r2, r5, r6, r7, r8, r9, r10, c', rfl, rfl, hp⟩
      have hi' : i < 6 := by
        have := (List.getElem?_eq_some_iff.mp hi).1
        simpa [rangeD] using this
      obtain ⟨r5', r6', r7', r8', r9', r10', c2, e1, e2⟩ := Z.lap_ (ns := ns) (r2 := some y) (r3 := none) (r4 := none) (r5 := r5) (r6 := r6) (r7 := r7) (r8 := r8) (r9 := r9) (r10 := r10) hp (by omega)
      exact ⟨_, _, _, rfl, e1, _, _, _, _, _, _, _, _, rfl, rfl, e2.mono (by omega)⟩)
  have s1 := x_forN (sub := G.sub) (rI_range1 (E := lE G) (ρ := lenv ns none none none none none none none none none) (S := [some c0]) (r_c (d := .int 6)) rfl) h1
  have q1 : Pen 1200 c1 := q1.mono (by simp [rangeD])
  obtain ⟨ρ2, S2, h2, r3, rfl, rfl⟩ := forL_inv (tg := .v 3) (b := fun ρ S => execs (lE G) G.sub (EVU.b47.nth 2).inn ρ S)
    (fun i ρ S' => ∃ r3, ρ = lenv ns r2 r3 none r5 r6 r7 r8 r9 r10 ∧ S' = [some c1]) (txs valL) 0 (lenv ns r2 none none r5 r6 r7 r8 r9 r10) [some c1] ⟨_, rfl, rfl⟩ (by
      rintro i y ρ S' hi ⟨r3, rfl, rfl⟩
      obtain ⟨w, hw, rfl⟩ := mem_txs (List.mem_of_getElem? hi)
      have := small_v w hw
      refine ⟨_, lenv ns r2 (some (.str (sl w))) none r5 r6 r7 r8 r9 r10, _, rfl, xs_cons (x_if_f (Z.told' (e := .v 3) (r_v rfl) (by omega) this.1) (t_bl rfl) xs_nil) xs_nil, _, rfl, rfl⟩)
  have s2 := x_forN (sub := G.sub) (rI_e (E := lE G) (ρ := lenv ns r2 none none r5 r6 r7 r8 r9 r10) (S := [some c1]) (r := (txs valL, [])) (r_mkv (rC_disp (ds := txs valL) (rs_cons r_c (rs_cons r_c (rs_cons r_c (rs_cons r_c (rs_cons r_c (rs_cons r_c (rs_cons r_c (rs_cons r_c (rs_cons r_c (rs_cons r_c (rs_cons r_c rs_nil))))))))))) (Nat.le_of_ble_eq_true rfl))) rfl) h2
  have hodd : ev (lE G) (.mk false (.disp (.cons (.c .non) (.cons (.c (.int 5)) (.cons (.tup (.nil)) (.cons (.mk false (.disp (.cons (.c (.str ⟨#[100, 101, 101, 100]⟩)) (.nil)))) (.cons (.c (.bl true)) (.cons (.mk false (.ddisp (.nil))) (.nil))))))))) (lenv ns r2 r3 none r5 r6 r7 r8 r9 r10) [some c1] = .ok (.lst oddL) [some c1] :=
    r_mkv (rC_disp (ds := oddL) (rs_cons r_c (rs_cons r_c (rs_cons (r_tup rs_nil (Nat.zero_le _)) (rs_cons (r_mkv (rC_disp (rs_cons r_c rs_nil) (Nat.le_of_ble_eq_true rfl))) (rs_cons r_c (rs_cons (r_mkv (q := .dic [] []) rfl) rs_nil)))))) (Nat.le_of_ble_eq_true rfl))
  obtain ⟨z, c2, z1, z2, z3⟩ := Z.nam.call20 (Z.d' 20 2 (by omega) (by omega)) Z.n20 (E := lE G) (j := 7) (ρ := lenv ns r2 r3 none r5 r6 r7 r8 r9 r10) rfl (r_v (i := 1) rfl) hodd (.inl rfl) q1 (by omega) (by decide) (by decide)
  have s3 : exec (lE G) G.sub (EVU.b47.nth 3) (lenv ns r2 r3 none r5 r6 r7 r8 r9 r10) [some c1] = .fl (.nx (lenv ns r2 r3 (some z) r5 r6 r7 r8 r9 r10)) [some c2] := x_asg z3 (a_v (Nat.le_of_ble_eq_true rfl))
  have h36 : ∀ S, ev (lE G) (.call 36 (.cons (.v 4) .nil)) (lenv ns r2 r3 (some z) r5 r6 r7 r8 r9 r10) S = .exc 2 [2, 0] [.int 0, .int 0] S := fun S =>
    r_call0 (rs_cons (r_v rfl) rs_nil) (Z.tok.d 36 1 (by omega) (by omega)) (Z.tok.m1 36 (by decide)).symm (Z.no36 (k := 8) (odd_no z z1))
  have hwhy : ev (lE G) (.thunk 40 (.call 36 (.cons (.v 4) .nil))) (lenv ns r2 r3 (some z) r5 r6 r7 r8 r9 r10) [some c2] = .ok (readD 0 0) [some c2] := r_thunk (Z.why_read (k := 8) (h36 _))
  have pr : plainD true (readD 0 0) = true := by
    have e : plainD true (.str (sl [114, 101, 97, 100])) = true := plain_str (by unfold okT; decide)
    unfold readD
    rw [plainD, plainDs, plainDs, plainDs, plainDs, e]
    rfl
  have hne : o2 [some c2] .ne (readD 0 0) (readD 0 0) = some (.bl false) := by
    rw [o_nep pr pr (Nat.le_of_ble_eq_true rfl) (Nat.le_of_ble_eq_true rfl), eqp_refl pr]
    rfl
  have s4 : exec (lE G) G.sub (EVU.b47.nth 4) (lenv ns r2 r3 (some z) r5 r6 r7 r8 r9 r10) [some c2] = .fl (.nx (lenv ns r2 r3 (some z) r5 r6 r7 r8 r9 r10)) [some c2] :=
    x_if_f (r_o2 hwhy (r_mkv (rC_disp (ds := [.str (sl [114, 101, 97, 100]), .int 0, .int 0]) (rs_cons r_c (rs_cons r_c (rs_cons r_c rs_nil))) (Nat.le_of_ble_eq_true rfl))) hne) (t_bl rfl) xs_nil
  obtain ⟨ws, c3, n1, n2, n3, n4⟩ := Z.names3 (ρ := lenv ns r2 r3 (some z) r5 r6 r7 r8 r9 r10) rfl z2 (by omega)
  obtain ⟨ρ3, S3, h3, r3', rfl, rfl⟩ := forL_inv (tg := .v 3) (b := fun ρ S => execs (lE G) G.sub (EVU.b47.nth 5).inn ρ S)
    (fun i ρ S' => ∃ r3, ρ = lenv ns r2 r3 (some z) r5 r6 r7 r8 r9 r10 ∧ S' = [some c3]) (txs ws ++ txs keysL ++ askL) 0 (lenv ns r2 r3 (some z) r5 r6 r7 r8 r9 r10) [some c3] ⟨_, rfl, rfl⟩ (by
      rintro i y ρ S' hi ⟨r3, rfl, rfl⟩
      have hy : asked y := by
        have := List.mem_of_getElem? hi
        rcases List.mem_append.mp this with h | h
        · rcases List.mem_append.mp h with h | h
          · obtain ⟨w, hw, rfl⟩ := mem_txs h
            exact asked_str (n1 w hw)
          · obtain ⟨w, hw, rfl⟩ := mem_txs h
            exact asked_str (small_k w hw)
        · exact ask_ok y h
      exact ⟨_, lenv ns r2 (some y) (some z) r5 r6 r7 r8 r9 r10, _, rfl, xs_cons (x_if_f (Z.ask rfl hy) (t_bl rfl) xs_nil) xs_nil, _, rfl, rfl⟩)
  have s5 : exec (lE G) G.sub (EVU.b47.nth 5) (lenv ns r2 r3 (some z) r5 r6 r7 r8 r9 r10) [some c2] = .fl (.nx (lenv ns r2 r3' (some z) r5 r6 r7 r8 r9 r10)) [some c3] := by
    refine x_forN (rI_e (r := (txs ws ++ txs keysL ++ askL, [])) (r_addX (r_addX n4 Z.keys' (add_lstv rfl rfl (by rw [txs_len, txs_len, n2]; decide))) (r_mkv (rC_disp (ds := askL) ?_ (Nat.le_of_ble_eq_true rfl))) (add_lstv rfl rfl (by rw [List.length_append, txs_len, txs_len, n2]; decide))) rfl) h3
    exact rs_cons r_c (rs_cons (r_mulX r_c r_c (mul12' _)) (rs_cons (r_mulX r_c r_c (mul13' _)) (rs_cons r_c (rs_cons r_c (rs_cons r_c (rs_cons r_c (rs_cons r_c (rs_cons r_c (rs_cons r_c (rs_cons r_c (rs_cons (r_tup rs_nil (Nat.zero_le _)) (rs_cons (r_mkv (rC_disp (rs_cons r_c rs_nil) (Nat.le_of_ble_eq_true rfl))) (rs_cons r_c (rs_cons r_c rs_nil))))))))))))))
  exact ⟨_, body_rt (xs_cons s0 (xs_cons s1 (xs_cons s2 (xs_cons s3 (xs_cons s4 (xs_cons s5 (xs_rt (x_ret r_c))))))))⟩
end
end K02
set_option Elab.async false
set_option linter.all false
set_option maxRecDepth 100000
set_option maxHeartbeats 4000000
namespace EV
open PySem
/-- no def has defaults -/
def _root_.EV.Tb.noDfl (t : Tb) (m : Nat) : Bool := (List.range m).all fun f => match t.fn.get f with
  | some r => r.dl.isEmpty
  | none => true
theorem noDfl_at {t : Tb} {m f n : Nat} (h : t.noDfl m = true) (hf : f < m) : t.prog.P.dfl f n = [] := by
  have h1 := List.all_eq_true.mp h f (List.mem_range.mpr hf)
  show (match t.fn.get f with | some r => r.dl.drop (r.dl.length - (r.F.many - n)) | none => []) = []
  cases e : t.fn.get f with
  | none => rfl
  | some r =>
    rw [e] at h1
    have : r.dl = [] := by simpa using h1
    simp [this]
end EV
namespace K02
open PySem EV
theorem nodfl : tb.noDfl 60 = true := by decide +kernel
theorem tokF : TokF prog where
  f27 := rfl
  f28 := rfl
  f29 := rfl
  f30 := rfl
  f31 := rfl
  f32 := rfl
  f33 := rfl
  f34 := rfl
  f35 := rfl
  f36 := rfl
  g0 := rfl
  g1 := rfl
  g2 := rfl
  g3 := rfl
  g4 := rfl
  g5 := rfl
  d := fun f n h1 h2 => noDfl_at nodfl (by omega)
  m1 := by decide
  m2 := by decide
  cls := rfl
  fok := by decide
  me22 := rfl
  me23 := rfl
  me21 := rfl
  me25 := rfl
  ini := rfl
  exf := rfl
theorem namF : NameF prog where
  pen := ⟨rfl, rfl, rfl, noDfl_at nodfl (by omega), rfl⟩
  f37 := rfl
  f38 := rfl
  f39 := rfl
  d37 := noDfl_at nodfl (by omega)
  d38 := noDfl_at nodfl (by omega)
  d39 := noDfl_at nodfl (by omega)
  m37 := rfl
  m38 := rfl
  m39 := rfl
theorem lawG : LawG prog where
  tok := tokF
  nam := namF
  same := ⟨rfl, noDfl_at nodfl (by omega), rfl⟩
  f40 := rfl
  f41 := rfl
  f42 := rfl
  f43 := rfl
  f44 := rfl
  f45 := rfl
  f46 := rfl
  sub22 := rfl
  fok2 := by decide
  d := fun f n h1 h2 => noDfl_at nodfl (by omega)
  m0 := rfl
  m1 := by decide
  f47 := rfl
  d' := fun f n h1 h2 => noDfl_at nodfl (by omega)
  n20 := rfl
  n18 := rfl
def lawFuel : Nat := 10
theorem law_true (ns : List Int) (hl : ns.length ≤ 63) (hb : ∀ z ∈ ns, Builtin.Int.intBits z ≤ 1048576) : ∃ S', fnk tb.prog lawFuel lawNo [.scr (ns.map .int)] [] = .ok (.bl true) S' := lawG.law hl
end K02
set_option Elab.async false
set_option linter.all false
set_option maxRecDepth 100000
set_option maxHeartbeats 0
namespace K02
open PySem PySem.Spec PyProof.Rows L2 EV
theorem sta : tb.staB = true := by decide +kernel
theorem fns_ok : ∀ fa, tb.fnsB (tb.pf fa) = true := fun fa => by kernel_rfl
theorem dfl_ok : tb.dflsB = true := by decide +kernel
end K02
set_option Elab.async false
set_option linter.all false
set_option maxRecDepth 100000
set_option maxHeartbeats 0
namespace K02
open PySem PySem.Spec PyProof.Rows L2 EV
abbrev R : PySem.W.OpenRow := PySem.W.OpenLaw.row PySem.Challenge.rw_evenifstopped_k02_whole_tokens
abbrev hk : PySem.W.Hook := He.hookX 6 tb.facts tb.defs [] tb.tf tb.ex
def ob (s : PySem.W.SharedT) : He.AlX := He.obsX 6 tb.facts tb.defs [] tb.tf tb.ex (HandSHeadRun.getT s)
theorem ob_eq (s : PySem.W.SharedT) : ob s = hk.obs s.abs := He.obsX_eq (HandSHeadRun.getT_eq s)
theorem run (w : World) : HandSHeadRun.RunEq R (PySem.W.view R.prog [40]) hk ob 20000 names w := by
  intro os
  kernel_rfl
end K02
set_option Elab.async false
set_option linter.all false
set_option maxRecDepth 100000
set_option maxHeartbeats 0
open PySem PySem.W PySem.Calls PyProof.Rows EV
theorem PySem.Challenge.cw_evenifstopped_k02_whole_tokens_holds : PySem.Challenge.rw_evenifstopped_k02_whole_tokens.Holds := by
  w_on; o_law
  refine HandSHeadRun.head_any (r := OpenLaw.row PySem.Challenge.rw_evenifstopped_k02_whole_tokens) (q := view (OpenLaw.row PySem.Challenge.rw_evenifstopped_k02_whole_tokens).prog [40]) (H := K02.hk) (ob := K02.ob) (M := 20000) (loose := K02.names) (d := HandSHeadRun.topDef (OpenLaw.row PySem.Challenge.rw_evenifstopped_k02_whole_tokens).prog 40) (kwd := []) K02.ob_eq
    (by kernel_rfl) (fun s => by kernel_rfl) K02.run (by kernel_rfl) (by kernel_rfl) (by kernel_rfl) (by rfl) (by first | assumption | decide +kernel) (by decide +kernel) ⟨rfl, rfl, rfl, rfl, rfl, by decide +kernel⟩ ?hw ?hc
  case hw => w_witness2
  case hc =>
    exact ev_law (j := K02.lawFuel) (lawNo := K02.lawNo) (r := K02.r47) rfl (by kernel_rfl) ⟨by decide, by decide, by decide⟩ (by kernel_rfl) K02.sta K02.fns_ok K02.dfl_ok rfl rfl rfl rfl rfl K02.law_true
