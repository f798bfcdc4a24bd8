import PyProof.Rows.All
import Wide.All
import OpenK.AllK
import Wide.FinOn
import HandS.ForMost
import HandS.Deep
import HandS.TupAny
import KE.KEqNest
import KE.DataCmp
import HandS.Star
import HandS.Style
import HandS.Conv
import HandS.Codes
import HandS.NoneIn
import HandS.Zip
import HandS.Iter
import HandS.Comp
import HandS.Small
import HandS.DictComp
import HandS.IsInst
import HandS.More
import HandS.ListItems
import KE.SortData
import PySem.Challenge.RW_partedstock_k29_main_two_lives_make_two
set_option Elab.async false
set_option linter.all false
set_option maxRecDepth 100000
set_option maxHeartbeats 0
namespace DV
open PySem PySem.Spec PyProof.Rows L2

abbrev D := PyData
/-- the slots' values -/
abbrev Sg := L2.St

/-- a value being worked at: frozen data, or an object of one's own -/
inductive T where
  | fz (d : D) | lst (l : List T) | tup (l : List T) | dic (k : Bool) (l : List (D × T))

mutual
def T.d : T → D
  | .fz d => d
  | .lst l => .list (T.ds l)
  | .tup l => .tuple (T.ds l)
  | .dic _ l => .dict (T.kds l)
def T.ds : List T → List D
  | [] => []
  | t :: l => t.d :: T.ds l
def T.kds : List (D × T) → List (D × D)
  | [] => []
  | (k, t) :: l => (k, t.d) :: T.kds l
end
theorem T.ds_map : ∀ l : List T, T.ds l = l.map T.d
  | [] => by simp [T.ds]
  | t :: l => by simp [T.ds, T.ds_map l]
theorem T.kds_map : ∀ l : List (D × T), T.kds l = l.map fun p => (p.1, p.2.d)
  | [] => by simp [T.kds]
  | (k, t) :: l => by simp [T.kds, T.kds_map l]
@[simp] theorem T.d_fz (d : D) : (T.fz d).d = d := by simp [T.d]
@[simp] theorem T.d_lst (l : List T) : (T.lst l).d = .list (l.map T.d) := by simp [T.d, T.ds_map]
@[simp] theorem T.d_tup (l : List T) : (T.tup l).d = .tuple (l.map T.d) := by simp [T.d, T.ds_map]
@[simp] theorem T.d_dic (k : Bool) (k : Bool) (l : List (D × T)) : (T.dic k l).d = .dict (l.map fun p => (p.1, p.2.d)) := by simp [T.d, T.kds_map]

theorem T.kds_ne {l : List (D × T)} (h : l ≠ []) : T.kds l ≠ [] := by
  cases l with
  | nil => exact absurd rfl h
  | cons p l => obtain ⟨k, t⟩ := p; rw [T.kds]; exact List.cons_ne_nil _ _
def keyD : Key → D
  | .inl i => .int i
  | .inr x => .str x
def keyTD (k : List Key) : D := .tuple (k.map keyD)

mutual
/-- v stands for d, by the cells of G -/
inductive Fz (K : PySem.W.Frag) (G : Hp) : V → D → Prop
  | non : Fz K G .non .none
  | bl (b : Bool) : Fz K G (.bl b) (.bool b)
  | int (i : Int) : Fz K G (.int i) (.int i)
  | str (x : Str) : Fz K G (.str x) (.str x)
  | lst {a : Addr} {vs : List V} {ds : List D} : G a = some (.lst vs) → FzA K G vs ds → Fz K G (.ref a) (.list ds)
  | tup {a : Addr} {vs : List V} {ds : List D} : G a = some (.tup vs) → FzA K G vs ds → Fz K G (.ref a) (.tuple ds)
  | dk {a : Addr} {kvs : List (Key × V)} {l : List (D × D)} : G a = some (.dK kvs) → FzK K G kvs l → Fz K G (.ref a) (.dict l)
  | dt {a : Addr} {kvs : List (List Key × V)} {l : List (D × D)} : G a = some (.dT kvs) → FzT K G kvs l → l ≠ [] → Fz K G (.ref a) (.dict l)
inductive FzA (K : PySem.W.Frag) (G : Hp) : List V → List D → Prop
  | nil : FzA K G [] []
  | cons {v : V} {d : D} {vs : List V} {ds : List D} : Fz K G v d → FzA K G vs ds → FzA K G (v :: vs) (d :: ds)
inductive FzK (K : PySem.W.Frag) (G : Hp) : List (Key × V) → List (D × D) → Prop
  | nil : FzK K G [] []
  | cons {k : Key} {v : V} {d : D} {vs : List (Key × V)} {ds : List (D × D)} : Fz K G v d → FzK K G vs ds → FzK K G ((k, v) :: vs) ((keyD k, d) :: ds)
inductive FzT (K : PySem.W.Frag) (G : Hp) : List (List Key × V) → List (D × D) → Prop
  | nil : FzT K G [] []
  | cons {k : List Key} {v : V} {d : D} {vs : List (List Key × V)} {ds : List (D × D)} : Fz K G v d → FzT K G vs ds → FzT K G ((k, v) :: vs) ((keyTD k, d) :: ds)
end

/-- more cells -/
def Le (G G' : Hp) : Prop := ∀ a o, G a = some o → G' a = some o
theorem Le.refl (G : Hp) : Le G G := fun _ _ h => h
theorem Le.trans {G G1 G2 : Hp} (a : Le G G1) (b : Le G1 G2) : Le G G2 := fun c o h => b c o (a c o h)

mutual
theorem Fz.mono {K : PySem.W.Frag} {G G' : Hp} (le : Le G G') : ∀ {v : V} {d : D}, Fz K G v d → Fz K G' v d
  | _, _, .non => .non
  | _, _, .bl b => .bl b
  | _, _, .int i => .int i
  | _, _, .str x => .str x
  | _, _, .lst h r => .lst (le _ _ h) (FzA.mono le r)
  | _, _, .tup h r => .tup (le _ _ h) (FzA.mono le r)
  | _, _, .dk h r => .dk (le _ _ h) (FzK.mono le r)
  | _, _, .dt h r n => .dt (le _ _ h) (FzT.mono le r) n
theorem FzA.mono {K : PySem.W.Frag} {G G' : Hp} (le : Le G G') : ∀ {vs : List V} {ds : List D}, FzA K G vs ds → FzA K G' vs ds
  | _, _, .nil => .nil
  | _, _, .cons h r => .cons (Fz.mono le h) (FzA.mono le r)
theorem FzK.mono {K : PySem.W.Frag} {G G' : Hp} (le : Le G G') : ∀ {vs : List (Key × V)} {ds : List (D × D)}, FzK K G vs ds → FzK K G' vs ds
  | _, _, .nil => .nil
  | _, _, .cons h r => .cons (Fz.mono le h) (FzK.mono le r)
theorem FzT.mono {K : PySem.W.Frag} {G G' : Hp} (le : Le G G') : ∀ {vs : List (List Key × V)} {ds : List (D × D)}, FzT K G vs ds → FzT K G' vs ds
  | _, _, .nil => .nil
  | _, _, .cons h r => .cons (Fz.mono le h) (FzT.mono le r)
end

/-- a heap as it is read: a locked dict is told as it is -/
def unl : HO → HO
  | .frz x (.dK kvs) => .dK kvs
  | .frz x (.dT kvs) => .dT kvs
  | o => o
def U (H : Hp) : Hp := fun a => (H a).map unl
theorem U_of {H : Hp} {a : Addr} {o : HO} (h : H a = some o) (n : ∀ x u, o ≠ .frz x u) : U H a = some o := by
  unfold U; rw [h]; cases o <;> first | rfl | exact absurd rfl (n _ _)
theorem U_lst {H : Hp} {a : Addr} {vs : List V} (h : U H a = some (.lst vs)) : H a = some (.lst vs) := by
  unfold U at h
  cases e : H a with
  | none => rw [e] at h; cases h
  | some o =>
    rw [e] at h
    have h : unl o = .lst vs := Option.some.inj h
    unfold unl at h
    split at h
    · cases h
    · cases h
    · subst h; rfl
theorem U_dK {H : Hp} {a : Addr} {vs : List (Key × V)} (h : U H a = some (.dK vs)) : Rd H a (.dK vs) := by
  unfold U at h
  cases e : H a with
  | none => rw [e] at h; cases h
  | some o =>
    rw [e] at h
    have h : unl o = .dK vs := Option.some.inj h
    unfold unl at h
    split at h
    · cases h; exact .inr ⟨_, e⟩
    · cases h
    · subst h; exact .inl e
theorem U_dT {H : Hp} {a : Addr} {vs : List (List Key × V)} (h : U H a = some (.dT vs)) : Rd H a (.dT vs) := by
  unfold U at h
  cases e : H a with
  | none => rw [e] at h; cases h
  | some o =>
    rw [e] at h
    have h : unl o = .dT vs := Option.some.inj h
    unfold unl at h
    split at h
    · cases h
    · cases h; exact .inr ⟨_, e⟩
    · subst h; exact .inl e
theorem U_tup {H : Hp} {a : Addr} {vs : List V} (h : U H a = some (.tup vs)) : H a = some (.tup vs) := by
  unfold U at h
  cases e : H a with
  | none => rw [e] at h; cases h
  | some o =>
    rw [e] at h
    have h : unl o = .tup vs := Option.some.inj h
    unfold unl at h
    split at h
    · cases h
    · cases h
    · subst h; rfl
theorem U_le {H H' : Hp} {a : Addr} {u : HO} (same : ∀ o, H a = some o → H' a = some o) (h : U H a = some u) : U H' a = some u := by
  unfold U at h ⊢
  cases e : H a with
  | none => rw [e] at h; cases h
  | some o => rw [same _ e]; rw [e] at h; exact h

/-- G's cells stand in H -/
def Sub (G H : Hp) : Prop := Le G (U H)

/-- the stream's two cells -/
abbrev Stm := Option (Addr × Addr)
def inS (st : Stm) (a : Addr) : Prop := match st with
  | none => False
  | some (x, y) => a = x ∨ a = y

mutual
/-- v stands for t: frozen by G, one's own cells F in H -/
inductive Ow (K : PySem.W.Frag) (st : Stm) (G H : Hp) : V → T → List Addr → Prop
  | fz {v : V} {d : D} : Fz K G v d → Ow K st G H v (.fz d) []
  | lst {a : Addr} {vs : List V} {ts : List T} {F : List Addr} : ¬ inS st a → H a = some (.lst vs) → OwA K st G H vs ts F → Ow K st G H (.ref a) (.lst ts) (a :: F)
  | tup {a : Addr} {vs : List V} {ts : List T} {F : List Addr} : ¬ inS st a → H a = some (.tup vs) → OwA K st G H vs ts F → Ow K st G H (.ref a) (.tup ts) (a :: F)
  | dk {a : Addr} {kvs : List (Key × V)} {l : List (D × T)} {F : List Addr} : ¬ inS st a → H a = some (.dK kvs) → OwK K st G H kvs l F → Ow K st G H (.ref a) (.dic false l) (a :: F)
  | dt {a : Addr} {kvs : List (List Key × V)} {l : List (D × T)} {F : List Addr} : ¬ inS st a → H a = some (.dT kvs) → OwT K st G H kvs l F → l ≠ [] → Ow K st G H (.ref a) (.dic true l) (a :: F)
inductive OwA (K : PySem.W.Frag) (st : Stm) (G H : Hp) : List V → List T → List Addr → Prop
  | nil : OwA K st G H [] [] []
  | cons {v : V} {t : T} {vs : List V} {ts : List T} {F F' : List Addr} : Ow K st G H v t F → OwA K st G H vs ts F' → OwA K st G H (v :: vs) (t :: ts) (F ++ F')
inductive OwK (K : PySem.W.Frag) (st : Stm) (G H : Hp) : List (Key × V) → List (D × T) → List Addr → Prop
  | nil : OwK K st G H [] [] []
  | cons {k : Key} {v : V} {t : T} {vs : List (Key × V)} {ts : List (D × T)} {F F' : List Addr} : Ow K st G H v t F → OwK K st G H vs ts F' → OwK K st G H ((k, v) :: vs) ((keyD k, t) :: ts) (F ++ F')
inductive OwT (K : PySem.W.Frag) (st : Stm) (G H : Hp) : List (List Key × V) → List (D × T) → List Addr → Prop
  | nil : OwT K st G H [] [] []
  | cons {k : List Key} {v : V} {t : T} {vs : List (List Key × V)} {ts : List (D × T)} {F F' : List Addr} : Ow K st G H v t F → OwT K st G H vs ts F' → OwT K st G H ((k, v) :: vs) ((keyTD k, t) :: ts) (F ++ F')
end

section
variable {K : PySem.W.Frag} {st : Stm} {G G' H H' : Hp}
mutual
/-- carried to another heap in which the own cells are kept -/
theorem Ow.keep (le : Le G G') : ∀ {v : V} {t : T} {F : List Addr}, Ow K st G H v t F → (∀ a ∈ F, ∀ o, H a = some o → H' a = some o) → Ow K st G' H' v t F
  | _, _, _, .fz h, _ => .fz (h.mono le)
  | _, _, _, .lst n h r, k => .lst n (k _ List.mem_cons_self _ h) (OwA.keep le r fun a ha => k a (List.mem_cons_of_mem _ ha))
  | _, _, _, .tup n h r, k => .tup n (k _ List.mem_cons_self _ h) (OwA.keep le r fun a ha => k a (List.mem_cons_of_mem _ ha))
  | _, _, _, .dk n h r, k => .dk n (k _ List.mem_cons_self _ h) (OwK.keep le r fun a ha => k a (List.mem_cons_of_mem _ ha))
  | _, _, _, .dt n h r ne, k => .dt n (k _ List.mem_cons_self _ h) (OwT.keep le r fun a ha => k a (List.mem_cons_of_mem _ ha)) ne
theorem OwA.keep (le : Le G G') : ∀ {v : List V} {t : List T} {F : List Addr}, OwA K st G H v t F → (∀ a ∈ F, ∀ o, H a = some o → H' a = some o) → OwA K st G' H' v t F
  | _, _, _, .nil, _ => .nil
  | _, _, _, .cons h r, k => .cons (Ow.keep le h fun a ha => k a (List.mem_append_left _ ha)) (OwA.keep le r fun a ha => k a (List.mem_append_right _ ha))
theorem OwK.keep (le : Le G G') : ∀ {v : List (Key × V)} {t : List (D × T)} {F : List Addr}, OwK K st G H v t F → (∀ a ∈ F, ∀ o, H a = some o → H' a = some o) → OwK K st G' H' v t F
  | _, _, _, .nil, _ => .nil
  | _, _, _, .cons h r, k => .cons (Ow.keep le h fun a ha => k a (List.mem_append_left _ ha)) (OwK.keep le r fun a ha => k a (List.mem_append_right _ ha))
theorem OwT.keep (le : Le G G') : ∀ {v : List (List Key × V)} {t : List (D × T)} {F : List Addr}, OwT K st G H v t F → (∀ a ∈ F, ∀ o, H a = some o → H' a = some o) → OwT K st G' H' v t F
  | _, _, _, .nil, _ => .nil
  | _, _, _, .cons h r, k => .cons (Ow.keep le h fun a ha => k a (List.mem_append_left _ ha)) (OwT.keep le r fun a ha => k a (List.mem_append_right _ ha))
end
mutual
/-- own cells that a heap of data holds, too: frozen -/
theorem Ow.toFz (le : Le G G') : ∀ {v : V} {t : T} {F : List Addr}, Ow K st G H v t F → (∀ a ∈ F, ∀ o, H a = some o → G' a = some o) → Fz K G' v t.d
  | _, _, _, .fz h, _ => by rw [T.d]; exact h.mono le
  | _, _, _, .lst n h r, k => by rw [T.d]; exact .lst (k _ List.mem_cons_self _ h) (OwA.toFz le r fun a ha => k a (List.mem_cons_of_mem _ ha))
  | _, _, _, .tup n h r, k => by rw [T.d]; exact .tup (k _ List.mem_cons_self _ h) (OwA.toFz le r fun a ha => k a (List.mem_cons_of_mem _ ha))
  | _, _, _, .dk n h r, k => by rw [T.d]; exact .dk (k _ List.mem_cons_self _ h) (OwK.toFz le r fun a ha => k a (List.mem_cons_of_mem _ ha))
  | _, _, _, .dt n h r ne, k => by rw [T.d]; exact .dt (k _ List.mem_cons_self _ h) (OwT.toFz le r fun a ha => k a (List.mem_cons_of_mem _ ha)) (T.kds_ne ne)
theorem OwA.toFz (le : Le G G') : ∀ {v : List V} {t : List T} {F : List Addr}, OwA K st G H v t F → (∀ a ∈ F, ∀ o, H a = some o → G' a = some o) → FzA K G' v (T.ds t)
  | _, _, _, .nil, _ => by rw [T.ds]; exact .nil
  | _, _, _, .cons h r, k => by rw [T.ds]; exact .cons (Ow.toFz le h fun a ha => k a (List.mem_append_left _ ha)) (OwA.toFz le r fun a ha => k a (List.mem_append_right _ ha))
theorem OwK.toFz (le : Le G G') : ∀ {v : List (Key × V)} {t : List (D × T)} {F : List Addr}, OwK K st G H v t F → (∀ a ∈ F, ∀ o, H a = some o → G' a = some o) → FzK K G' v (T.kds t)
  | _, _, _, .nil, _ => by rw [T.kds]; exact .nil
  | _, _, _, .cons h r, k => by rw [T.kds]; exact .cons (Ow.toFz le h fun a ha => k a (List.mem_append_left _ ha)) (OwK.toFz le r fun a ha => k a (List.mem_append_right _ ha))
theorem OwT.toFz (le : Le G G') : ∀ {v : List (List Key × V)} {t : List (D × T)} {F : List Addr}, OwT K st G H v t F → (∀ a ∈ F, ∀ o, H a = some o → G' a = some o) → FzT K G' v (T.kds t)
  | _, _, _, .nil, _ => by rw [T.kds]; exact .nil
  | _, _, _, .cons h r, k => by rw [T.kds]; exact .cons (Ow.toFz le h fun a ha => k a (List.mem_append_left _ ha)) (OwT.toFz le r fun a ha => k a (List.mem_append_right _ ha))
end
mutual
theorem Ow.there : ∀ {v : V} {t : T} {F : List Addr}, Ow K st G H v t F → ∀ a ∈ F, ¬ inS st a ∧ ∃ o, H a = some o ∧ ∀ x u, o ≠ .frz x u
  | _, _, _, .fz _, a, h => by simp at h
  | _, _, _, .lst n h r, a, ha => by
    rcases List.mem_cons.mp ha with rfl | ha
    · exact ⟨n, _, h, fun _ _ z => by cases z⟩
    · exact OwA.there r a ha
  | _, _, _, .tup n h r, a, ha => by
    rcases List.mem_cons.mp ha with rfl | ha
    · exact ⟨n, _, h, fun _ _ z => by cases z⟩
    · exact OwA.there r a ha
  | _, _, _, .dk n h r, a, ha => by
    rcases List.mem_cons.mp ha with rfl | ha
    · exact ⟨n, _, h, fun _ _ z => by cases z⟩
    · exact OwK.there r a ha
  | _, _, _, .dt n h r ne, a, ha => by
    rcases List.mem_cons.mp ha with rfl | ha
    · exact ⟨n, _, h, fun _ _ z => by cases z⟩
    · exact OwT.there r a ha
theorem OwA.there : ∀ {v : List V} {t : List T} {F : List Addr}, OwA K st G H v t F → ∀ a ∈ F, ¬ inS st a ∧ ∃ o, H a = some o ∧ ∀ x u, o ≠ .frz x u
  | _, _, _, .nil, a, h => by simp at h
  | _, _, _, .cons h r, a, ha => (List.mem_append.mp ha).elim (Ow.there h a) (OwA.there r a)
theorem OwK.there : ∀ {v : List (Key × V)} {t : List (D × T)} {F : List Addr}, OwK K st G H v t F → ∀ a ∈ F, ¬ inS st a ∧ ∃ o, H a = some o ∧ ∀ x u, o ≠ .frz x u
  | _, _, _, .nil, a, h => by simp at h
  | _, _, _, .cons h r, a, ha => (List.mem_append.mp ha).elim (Ow.there h a) (OwK.there r a)
theorem OwT.there : ∀ {v : List (List Key × V)} {t : List (D × T)} {F : List Addr}, OwT K st G H v t F → ∀ a ∈ F, ¬ inS st a ∧ ∃ o, H a = some o ∧ ∀ x u, o ≠ .frz x u
  | _, _, _, .nil, a, h => by simp at h
  | _, _, _, .cons h r, a, ha => (List.mem_append.mp ha).elim (Ow.there h a) (OwT.there r a)
end
end

/-- the stream of draws -/
structure S where
  left : List Int
  rest : Int
  cnt : Int
  mix : Int

def Strm (st : Stm) (S : S) (H : Hp) : Prop := match st with
  | none => True
  | some (a, b) => a ≠ b ∧ H a = some (.lst [.ref b, .int S.rest, .int S.cnt, .int S.mix]) ∧ H b = some (.lst (S.left.map V.int)) ∧ S.left.length ≤ 63

/-- a slot: the stream, or a value -/
inductive Sl where
  | s | t (t : T)
abbrev Gm := List (Option Sl)

inductive RA (K : PySem.W.Frag) (st : Stm) (G H : Hp) : Gm → Sg → List Addr → Prop
  | nil : RA K st G H [] [] []
  | non {g : Gm} {σ : Sg} {O : List Addr} {x : Option V} : RA K st G H g σ O → RA K st G H (none :: g) (x :: σ) O
  | s {g : Gm} {σ : Sg} {O : List Addr} {a b : Addr} : st = some (a, b) → RA K st G H g σ O → RA K st G H (some .s :: g) (some (.ref a) :: σ) O
  | t {g : Gm} {σ : Sg} {O F : List Addr} {v : V} {t : T} : Ow K st G H v t F → RA K st G H g σ O → RA K st G H (some (.t t) :: g) (some v :: σ) (F ++ O)

/-- the state between two steps: G the frozen cells, O the own ones -/
structure St0 (K : PySem.W.Frag) (st : Stm) (g : Gm) (S : S) (σ : Sg) (H G : Hp) (O : List Addr) : Prop where
  sub : Sub G H
  ra : RA K st G H g σ O
  nd : O.Nodup
  ap : ∀ a ∈ O, G a = none
  sg : ∀ a, inS st a → G a = none
  strm : Strm st S H

/-- an expression's value: one's own tree or data, or a look at a slot's own tree -/
inductive Rv where
  | t (t : T) | tmp (t : T)
def Rv.tr : Rv → T
  | .t x => x
  | .tmp x => x
def Rv.d : Rv → D
  | .t x => x.d
  | .tmp x => x.d

def RvOk (K : PySem.W.Frag) (st : Stm) (G H : Hp) (v : V) (r : Rv) (F : List Addr) : Prop := match r with
  | .t t => Ow K st G H v t F
  | .tmp t => F = [] ∧ ∃ F', Ow K st G H v t F' ∧ ∀ a ∈ F', G a = none

/-- from (H, G) to (H', G'): what stood is kept but the stream's cells, what is new is new -/
structure Grow (st : Stm) (H G H' G' : Hp) : Prop where
  le : Le G G'
  sub : Sub G' H'
  same : ∀ a o, ¬ inS st a → H a = some o → H' a = some o
  new : ∀ a, G a = none → G' a ≠ none → H a = none
  sg : ∀ a, inS st a → G' a = none
  back : ∀ a, H' a = none → H a = none

structure PostE (K : PySem.W.Frag) (st : Stm) (H G : Hp) (r : Rv) (S' : S) (v : V) (H' G' : Hp) (F : List Addr) : Prop where
  gr : Grow st H G H' G'
  ok : RvOk K st G' H' v r F
  nd : F.Nodup
  ap : ∀ a ∈ F, H a = none ∧ G' a = none
  strm : Strm st S' H'

abbrev ME := Gm → S → Option (Rv × S)
def tE (K : PySem.W.Frag) (st : Stm) (m : ME) : TE := fun σ H Q =>
  ∃ g S r S' G O, m g S = some (r, S') ∧ St0 K st g S σ H G O ∧ ∀ v H' G' F, PostE K st H G r S' v H' G' F → Q v H'
/-- the expression e gives what m tells -/
structure SE (X : Cx) (st : Stm) (e : Expr) (m : ME) : Prop where
  run : PE X e (tE X.K st m)
theorem _root_.L2.PE.imp {X : Cx} {e : Expr} {t t' : TE} (h : PE X e t) (i : ∀ σ H Q, t' σ H Q → t σ H Q) : PE X e t' :=
  ⟨fun pins s σ H Q I q => h.run pins s σ H Q I (i σ H Q q)⟩

section
variable {K : PySem.W.Frag} {st : Stm} {g : Gm} {s s' s1 s2 : S} {σ : Sg} {H H' G G' H1 G1 H2 G2 : Hp} {O F : List Addr}
theorem Grow.refl (sub : Sub G H) (sg : ∀ a, inS st a → G a = none) : Grow st H G H G := ⟨.refl G, sub, fun _ _ _ h => h, fun _ h n => absurd h n, sg, fun _ h => h⟩
theorem Grow.trans (a : Grow st H G H1 G1) (b : Grow st H1 G1 H2 G2) : Grow st H G H2 G2 where
  le := a.le.trans b.le
  sub := b.sub
  same := fun x o n h => b.same x o n (a.same x o n h)
  new := fun x h n => by
    cases e : G1 x with
    | none => exact a.back x (b.new x e n)
    | some o => exact a.new x h (by rw [e]; exact fun z => by cases z)
  sg := b.sg
  back := fun x h => a.back x (b.back x h)
theorem RA.keep (le : Le G G') (k : ∀ a ∈ O, ∀ o, H a = some o → H' a = some o) (r : RA K st G H g σ O) : RA K st G' H' g σ O := by
  induction r with
  | nil => exact .nil
  | non _ ih => exact .non (ih k)
  | s e _ ih => exact .s e (ih k)
  | t h _ ih => exact .t (h.keep le fun a ha => k a (List.mem_append_left _ ha)) (ih fun a ha => k a (List.mem_append_right _ ha))
theorem RA.there (r : RA K st G H g σ O) : ∀ a ∈ O, ¬ inS st a ∧ ∃ o, H a = some o ∧ ∀ x u, o ≠ .frz x u := by
  induction r with
  | nil => intro a h; simp at h
  | non _ ih => exact ih
  | s _ _ ih => exact ih
  | t h _ ih => exact fun a ha => (List.mem_append.mp ha).elim (h.there a) (ih a)
/-- the state behind an expression -/
theorem St0.grow (h : St0 K st g s σ H G O) (gr : Grow st H G H' G') (q : Strm st s' H') : St0 K st g s' σ H' G' O where
  sub := gr.sub
  ra := h.ra.keep gr.le fun a ha o e => gr.same a o (h.ra.there a ha).1 e
  nd := h.nd
  ap := fun a ha => by
    cases e : G' a with
    | none => rfl
    | some o =>
      obtain ⟨_, o', e', _⟩ := h.ra.there a ha
      have := gr.new a (h.ap a ha) (by rw [e]; exact fun z => by cases z)
      rw [e'] at this; cases this
  sg := gr.sg
  strm := q
theorem RvOk.keep {v : V} {r : Rv} (x : RvOk K st G H v r F) (gr : Grow st H G H' G') : RvOk K st G' H' v r F := by
  cases r with
  | t t =>
    have y : Ow K st G H v t F := x
    exact y.keep gr.le fun a ha o e => gr.same a o (y.there a ha).1 e
  | tmp t =>
    obtain ⟨rfl, F', x, ap⟩ := x
    refine ⟨rfl, F', x.keep gr.le fun a ha o e => gr.same a o (x.there a ha).1 e, fun a ha => ?_⟩
    cases e : G' a with
    | none => rfl
    | some o =>
      obtain ⟨_, o', e', _⟩ := x.there a ha
      have := gr.new a (ap a ha) (by rw [e]; exact fun z => by cases z)
      rw [e'] at this; cases this
/-- read off the heap -/
theorem RvOk.rd {v : V} {r : Rv} (sub : Sub G H) (x : RvOk K st G H v r F) : Fz K (U H) v r.d := by
  cases r with
  | t t =>
    have y : Ow K st G H v t F := x
    exact Ow.toFz sub y fun a ha o e => by
      obtain ⟨_, o', e', n⟩ := y.there a ha
      rw [e] at e'; cases e'
      exact U_of e n
  | tmp t =>
    obtain ⟨rfl, F', x, _⟩ := x
    exact Ow.toFz sub x fun a ha o e => by
      obtain ⟨_, o', e', n⟩ := x.there a ha
      rw [e] at e'; cases e'
      exact U_of e n
end
end DV

namespace DV
open PySem PySem.Spec PyProof.Rows L2

structure At (st : Stm) (s : S) (H G : Hp) : Prop where
  sub : Sub G H
  sg : ∀ a, inS st a → G a = none
  strm : Strm st s H
section
variable {K : PySem.W.Frag} {st : Stm} {g : Gm} {s s' s1 s2 : S} {σ : Sg} {H H' G G' H1 G1 H2 G2 : Hp} {O F : List Addr} {v : V} {r : Rv}
theorem St0.at (h : St0 K st g s σ H G O) : At st s H G := ⟨h.sub, h.sg, h.strm⟩
theorem PostE.at (h : PostE K st H G r s' v H' G' F) : At st s' H' G' := ⟨h.gr.sub, h.gr.sg, h.strm⟩
theorem At.grow (h : At st s H G) : Grow st H G H G := .refl h.sub h.sg
/-- behind more growth -/
theorem PostE.after (gr : Grow st H G H1 G1) (p : PostE K st H1 G1 r s' v H' G' F) : PostE K st H G r s' v H' G' F :=
  ⟨gr.trans p.gr, p.ok, p.nd, fun a ha => ⟨gr.back a (p.ap a ha).1, (p.ap a ha).2⟩, p.strm⟩
theorem Grow.none_of (gr : Grow st H G H' G') {a : Addr} {o : HO} (h : H a = some o) (n : G a = none) : G' a = none := by
  cases e : G' a with
  | none => rfl
  | some u =>
    have := gr.new a n (by rw [e]; exact fun z => by cases z)
    rw [h] at this; cases this
theorem Strm.of_ne {a : Addr} {o : HO} (h : Strm st s H) (n : ¬ inS st a) : Strm st s (upd H a o) := by
  cases st with
  | none => trivial
  | some p =>
    obtain ⟨x, y⟩ := p
    obtain ⟨h1, h2, h3, h4⟩ := h
    refine ⟨h1, ?_, ?_, h4⟩
    · rw [upd_ne (fun z => n (.inl z.symm))]; exact h2
    · rw [upd_ne (fun z => n (.inr z.symm))]; exact h3
theorem Strm.there {a : Addr} (h : Strm st s H) (i : inS st a) : ∃ o, H a = some o := by
  cases st with
  | none => exact i.elim
  | some p =>
    obtain ⟨x, y⟩ := p
    obtain ⟨h1, h2, h3, h4⟩ := h
    rcases i with rfl | rfl
    · exact ⟨_, h2⟩
    · exact ⟨_, h3⟩
theorem At.fresh_ns (h : At st s H G) {p : Addr} (n : H p = none) : ¬ inS st p := fun i => by
  obtain ⟨o, e⟩ := h.strm.there i
  rw [n] at e; cases e
theorem Sub.none (h : Sub G H) {p : Addr} (n : H p = none) : G p = none := by
  cases e : G p with
  | none => rfl
  | some o =>
    have := h p o e
    unfold U at this
    rw [n] at this; cases this
/-- a new cell -/
theorem At.grow_upd (h : At st s H G) {p : Addr} {o : HO} (n : H p = none) : Grow st H G (upd H p o) G where
  le := .refl G
  sub := fun a u e => by
    have hp : a ≠ p := fun z => by rw [z, h.sub.none n] at e; cases e
    refine U_le (fun o' e' => ?_) (h.sub a u e)
    rw [upd_ne hp]; exact e'
  same := fun a u _ e => by rw [upd_ne (ne_of_none e n)]; exact e
  new := fun a e n' => absurd e n'
  sg := h.sg
  back := fun a e => by
    by_cases z : a = p
    · rw [z]; exact n
    · rw [upd_ne z] at e; exact e
theorem At.grow_upd2 (h : At st s H G) {p : Addr} {o : HO} (n : H p = none) (nf : ∀ x u, o ≠ .frz x u) : Grow st H G (upd H p o) (upd G p o) where
  le := fun a u e => by rw [upd_ne (ne_of_none e (h.sub.none n))]; exact e
  sub := fun a u e => by
    by_cases z : a = p
    · subst z; rw [upd_same] at e; cases e; exact U_of upd_same nf
    · rw [upd_ne z] at e
      refine U_le (fun o' e' => ?_) (h.sub a u e)
      rw [upd_ne z]; exact e'
  same := fun a u _ e => by rw [upd_ne (ne_of_none e n)]; exact e
  new := fun a e n' => by
    by_cases z : a = p
    · rw [z]; exact n
    · rw [upd_ne z] at n'; exact absurd e n'
  sg := fun a i => by
    rw [upd_ne (fun z => by subst z; exact h.fresh_ns n i)]; exact h.sg a i
  back := fun a e => by
    by_cases z : a = p
    · rw [z]; exact n
    · rw [upd_ne z] at e; exact e
theorem PostE.scalar (h : At st s H G) {d : D} (f : Fz K G v d) : PostE K st H G (.t (.fz d)) s v H G [] :=
  ⟨h.grow, .fz f, .nil, fun a ha => by simp at ha, h.strm⟩
theorem PostE.tmp (h : At st s H G) {t : T} {F' : List Addr} (f : Ow K st G H v t F') (ap : ∀ a ∈ F', G a = none) : PostE K st H G (.tmp t) s v H G [] :=
  ⟨h.grow, ⟨rfl, F', f, ap⟩, .nil, fun a ha => by simp at ha, h.strm⟩
theorem PostE.newFz (h : At st s H G) {p : Addr} {o : HO} {d : D} (n : H p = none) (nf : ∀ x u, o ≠ .frz x u) (f : Fz K (upd G p o) (.ref p) d) :
    PostE K st H G (.t (.fz d)) s (.ref p) (upd H p o) (upd G p o) [] :=
  ⟨h.grow_upd2 n nf, .fz f, .nil, fun a ha => by simp at ha, h.strm.of_ne (h.fresh_ns n)⟩
theorem PostE.newOw (h : At st s H G) {p : Addr} {o : HO} {t : T} (n : H p = none) (f : Ow K st G (upd H p o) (.ref p) t (p :: F)) (nd : (p :: F).Nodup) (ap : ∀ a ∈ F, H1 a = none ∧ G a = none) (gr : Grow st H1 G1 H G) :
    PostE K st H1 G1 (.t t) s (.ref p) (upd H p o) G (p :: F) :=
  ⟨gr.trans (h.grow_upd n), f, nd, fun a ha => by
    rcases List.mem_cons.mp ha with rfl | ha
    · exact ⟨gr.back _ n, h.sub.none n⟩
    · exact ap a ha, h.strm.of_ne (h.fresh_ns n)⟩

/-- one's own value, frozen -/
theorem PostE.freeze {t : T} (p : PostE K st H G (.t t) s' v H' G' F) : ∃ G2, Fz K G2 v t.d ∧ Le G' G2 ∧ PostE K st H G (.t (.fz t.d)) s' v H' G2 [] := by
  have y : Ow K st G' H' v t F := p.ok
  let G2 : Hp := fun a => if a ∈ F then H' a else G' a
  have le : Le G' G2 := fun a o e => by
    show (if a ∈ F then H' a else G' a) = some o
    rw [if_neg (fun hm => by rw [(p.ap a hm).2] at e; cases e)]
    exact e
  have fz : Fz K G2 v t.d := y.toFz le fun a ha o e => by
    show (if a ∈ F then H' a else G' a) = some o
    rw [if_pos ha]; exact e
  refine ⟨G2, fz, le, ⟨⟨p.gr.le.trans le, fun a o e => ?_, p.gr.same, fun a e n => ?_, fun a i => ?_, p.gr.back⟩, .fz fz, .nil, fun a ha => by simp at ha, p.strm⟩⟩
  · by_cases ha : a ∈ F
    · have e' : H' a = some o := by
        have : (if a ∈ F then H' a else G' a) = some o := e
        rwa [if_pos ha] at this
      obtain ⟨_, o', e2, nf⟩ := y.there a ha
      rw [e'] at e2; cases e2
      exact U_of e' nf
    · have e' : G' a = some o := by
        have : (if a ∈ F then H' a else G' a) = some o := e
        rwa [if_neg ha] at this
      exact p.gr.sub a o e'
  · by_cases ha : a ∈ F
    · exact (p.ap a ha).1
    · refine p.gr.new a e ?_
      have : (if a ∈ F then H' a else G' a) ≠ none := n
      rwa [if_neg ha] at this
  · show (if a ∈ F then H' a else G' a) = none
    rw [if_neg (fun ha => (y.there a ha).1 i)]
    exact p.gr.sg a i
end

def mVar (i : Nat) : ME := fun g s => match g[i]? with
  | some (some (.t t)) => match t with
    | .fz d => some (.t (.fz d), s)
    | t => some (.tmp t, s)
  | _ => none
def mC (d : D) : ME := fun _ s => some (.t (.fz d), s)

theorem RA.get {K : PySem.W.Frag} {st : Stm} {G H : Hp} : ∀ {g : Gm} {σ : Sg} {O : List Addr}, RA K st G H g σ O → ∀ {i : Nat} {x : T}, g[i]? = some (some (.t x)) →
    ∃ v F, σ[i]? = some (some v) ∧ Ow K st G H v x F ∧ ∀ a ∈ F, a ∈ O
  | _, _, _, .nil, i, x, e => by simp at e
  | _, _, _, .non r, 0, x, e => by simp at e
  | _, _, _, .non r, i + 1, x, e => by simpa using RA.get r (i := i) (by simpa using e)
  | _, _, _, .s _ r, 0, x, e => by simp at e
  | _, _, _, .s _ r, i + 1, x, e => by simpa using RA.get r (i := i) (by simpa using e)
  | _, _, _, .t h r, 0, x, e => by
    simp at e; subst e
    exact ⟨_, _, rfl, h, fun a ha => List.mem_append_left _ ha⟩
  | _, _, _, .t h r, i + 1, x, e => by
    obtain ⟨v, F, e1, o, m⟩ := RA.get r (i := i) (by simpa using e)
    exact ⟨v, F, by simpa using e1, o, fun a ha => List.mem_append_right _ (m a ha)⟩
theorem RA.getS {K : PySem.W.Frag} {st : Stm} {G H : Hp} : ∀ {g : Gm} {σ : Sg} {O : List Addr}, RA K st G H g σ O → ∀ {i : Nat}, g[i]? = some (some .s) →
    ∃ a b, st = some (a, b) ∧ σ[i]? = some (some (.ref a))
  | _, _, _, .nil, i, e => by simp at e
  | _, _, _, .non r, 0, e => by simp at e
  | _, _, _, .non r, i + 1, e => by simpa using RA.getS r (i := i) (by simpa using e)
  | _, _, _, .s h r, 0, e => ⟨_, _, h, rfl⟩
  | _, _, _, .s _ r, i + 1, e => by simpa using RA.getS r (i := i) (by simpa using e)
  | _, _, _, .t h r, 0, e => by simp at e
  | _, _, _, .t h r, i + 1, e => by simpa using RA.getS r (i := i) (by simpa using e)

section
variable {X : Cx} {st : Stm} {a b c e : Expr} {ma mb mc m : ME} {pos : Pos} {es : List Expr}
theorem se_var {i : Nat} {x : Str} {pos : Pos} (h : PE X (.Name x pos) (tVar i)) : SE X st (.Name x pos) (mVar i) := by
  refine ⟨h.imp fun σ H Q ⟨g, s, r, s', G, O, e, z, q⟩ => ?_⟩
  unfold mVar at e
  cases eg : g[i]? with
  | none => rw [eg] at e; cases e
  | some o =>
    cases o with
    | none => rw [eg] at e; cases e
    | some l =>
      cases l with
      | s => rw [eg] at e; cases e
      | t t =>
        obtain ⟨v, F, ev, ow, mem⟩ := z.ra.get eg
        refine ⟨v, ev, ?_⟩
        rw [eg] at e
        cases t with
        | fz d => cases e; cases ow with | fz f => exact q v H G [] (.scalar z.at f)
        | lst l => cases e; exact q v H G [] (.tmp z.at ow fun a ha => z.ap a (mem a ha))
        | tup l => cases e; exact q v H G [] (.tmp z.at ow fun a ha => z.ap a (mem a ha))
        | dic k l => cases e; exact q v H G [] (.tmp z.at ow fun a ha => z.ap a (mem a ha))
theorem se_c {v : V} {d : D} (h : PE X e (tC v)) (f : ∀ G, Fz X.K G v d) : SE X st e (mC d) :=
  ⟨h.imp fun σ H Q ⟨g, s, r, s', G, O, e, z, q⟩ => by cases e; exact q v H G [] (.scalar z.at (f G))⟩
theorem se_int {i : Int} {j pos} : SE X st (.Constant (.int i) j pos) (mC (.int i)) := se_c pe_int fun _ => .int i
theorem se_bl {i : Bool} {j pos} : SE X st (.Constant (.bool i) j pos) (mC (.bool i)) := se_c pe_bl fun _ => .bl i
theorem se_str {i : Str} {j pos} : SE X st (.Constant (.str i) j pos) (mC (.str i)) := se_c pe_str fun _ => .str i
theorem se_non {j pos} : SE X st (.Constant .none j pos) (mC .none) := se_c pe_non fun _ => .non

def mFz (m : ME) : ME := fun g s => match m g s with
  | some (.t t, s') => some (.t (.fz t.d), s')
  | _ => none
theorem se_fz (h : SE X st e m) : SE X st e (mFz m) := by
  refine ⟨h.run.imp fun σ H Q ⟨g, s, r, s', G, O, e, z, q⟩ => ?_⟩
  unfold mFz at e
  cases em : m g s with
  | none => rw [em] at e; cases e
  | some p =>
    obtain ⟨r0, s0⟩ := p
    rw [em] at e
    cases r0 with
    | tmp t => cases e
    | t t =>
      cases e
      refine ⟨g, s, _, _, G, O, em, z, fun v H' G' F p => ?_⟩
      obtain ⟨G2, _, _, p2⟩ := p.freeze
      exact q v H' G2 [] p2

inductive RvA (K : PySem.W.Frag) (st : Stm) (G H : Hp) : List V → List Rv → List Addr → Prop
  | nil : RvA K st G H [] [] []
  | cons {v : V} {r : Rv} {vs : List V} {rs : List Rv} {F F' : List Addr} : RvOk K st G H v r F → RvA K st G H vs rs F' → RvA K st G H (v :: vs) (r :: rs) (F ++ F')
structure PostA (K : PySem.W.Frag) (st : Stm) (H G : Hp) (rs : List Rv) (s' : S) (vs : List V) (H' G' : Hp) (F : List Addr) : Prop where
  gr : Grow st H G H' G'
  ok : RvA K st G' H' vs rs F
  nd : F.Nodup
  ap : ∀ a ∈ F, H a = none ∧ G' a = none
  strm : Strm st s' H'
abbrev MA := Gm → S → Option (List Rv × S)
def mNil : MA := fun _ s => some ([], s)
def mCons (m : ME) (ms : MA) : MA := fun g s => match m g s with
  | none => none
  | some (r, s1) => match ms g s1 with
    | none => none
    | some (rs, s2) => some (r :: rs, s2)
def tA (K : PySem.W.Frag) (st : Stm) (m : MA) : TA := fun σ H Q =>
  ∃ g s rs s' G O, m g s = some (rs, s') ∧ St0 K st g s σ H G O ∧ ∀ vs H' G' F, PostA K st H G rs s' vs H' G' F → Q vs H'
structure SA (X : Cx) (st : Stm) (es : List Expr) (m : MA) : Prop where
  run : PA X es (tA X.K st m)
theorem _root_.L2.PA.imp {X : Cx} {e : List Expr} {t t' : TA} (h : PA X e t) (i : ∀ σ H Q, t' σ H Q → t σ H Q) : PA X e t' :=
  ⟨fun pos pins s σ H Q I q => h.run pos pins s σ H Q I (i σ H Q q)⟩
theorem RvOk.there {K : PySem.W.Frag} {st : Stm} {G H : Hp} {v : V} {r : Rv} {F : List Addr} (h : RvOk K st G H v r F) : ∀ a ∈ F, ¬ inS st a ∧ ∃ o, H a = some o ∧ ∀ x u, o ≠ .frz x u := by
  cases r with
  | t t => exact Ow.there (show Ow K st G H v t F from h)
  | tmp t => obtain ⟨rfl, _⟩ := h; intro a ha; simp at ha
theorem PostA.cons {K : PySem.W.Frag} {st : Stm} {s1 s2 : S} {H G H1 G1 H2 G2 : Hp} {v : V} {r : Rv} {vs : List V} {rs : List Rv} {F F' : List Addr}
    (p : PostE K st H G r s1 v H1 G1 F) (q : PostA K st H1 G1 rs s2 vs H2 G2 F') : PostA K st H G (r :: rs) s2 (v :: vs) H2 G2 (F ++ F') where
  gr := p.gr.trans q.gr
  ok := .cons (p.ok.keep q.gr) q.ok
  nd := List.nodup_append.mpr ⟨p.nd, q.nd, fun a ha b hb e => by
    subst e
    obtain ⟨_, o, h, _⟩ := p.ok.there a ha
    rw [(q.ap a hb).1] at h; cases h⟩
  ap := fun a ha => by
    rcases List.mem_append.mp ha with ha | ha
    · obtain ⟨_, o, h, _⟩ := p.ok.there a ha
      exact ⟨(p.ap a ha).1, q.gr.none_of h (p.ap a ha).2⟩
    · exact ⟨p.gr.back a (q.ap a ha).1, (q.ap a ha).2⟩
  strm := q.strm
theorem sa_nil : SA X st [] mNil := ⟨pa_nil.imp fun σ H Q ⟨g, s, rs, s', G, O, e, z, q⟩ => by
  cases e
  exact q [] H G [] ⟨z.at.grow, .nil, .nil, fun a ha => by simp at ha, z.strm⟩⟩
theorem sa_cons {ms : MA} (h : SE X st e m) (hr : SA X st es ms) (hs : starEach (e :: es) X.env = (false, eval e X.env) :: starEach es X.env := by rfl) : SA X st (e :: es) (mCons m ms) := by
  refine ⟨(pa_cons h.run hr.run hs).imp fun σ H Q ⟨g, s, rs, s', G, O, e, z, q⟩ => ?_⟩
  unfold mCons at e
  cases em : m g s with
  | none => rw [em] at e; cases e
  | some p =>
    obtain ⟨r, s1⟩ := p
    rw [em] at e
    simp only at e
    cases ems : ms g s1 with
    | none => rw [ems] at e; cases e
    | some p =>
      obtain ⟨rs', s2⟩ := p
      rw [ems] at e
      cases e
      refine ⟨g, s, r, s1, G, O, em, z, fun v H1 G1 F p1 => ?_⟩
      refine ⟨g, s1, rs', _, G1, O, ems, z.grow p1.gr p1.strm, fun vs H2 G2 F' p2 => ?_⟩
      exact q _ H2 G2 _ (PostA.cons p1 p2)

def m2 (ma mb : ME) (k : Rv → Rv → Option Rv) : ME := fun g s => match ma g s with
  | none => none
  | some (x, s1) => match mb g s1 with
    | none => none
    | some (y, s2) => match k x y with
      | none => none
      | some z => some (z, s2)
/-- two operands have come: what an operation on them may use -/
structure Two (K : PySem.W.Frag) (st : Stm) (x y : Rv) (s : S) (v u : V) (H G : Hp) (F F' : List Addr) : Prop where
  at_ : At st s H G
  ox : RvOk K st G H v x F
  oy : RvOk K st G H u y F'
  ax : ∀ a ∈ F, G a = none
  ay : ∀ a ∈ F', G a = none
theorem two {K : PySem.W.Frag} {k : Rv → Rv → Option Rv} {σ : Sg} {H : Hp} {Q : VK} {R : V → V → Hp → Prop} (h : tE K st (m2 ma mb k) σ H Q)
    (f : ∀ x y z s2 v u H2 G2 F F', k x y = some z → Two K st x y s2 v u H2 G2 F F' → (∀ w H' G' F, PostE K st H2 G2 z s2 w H' G' F → Q w H') → R v u H2) :
    tE K st ma σ H fun v H1 => tE K st mb σ H1 fun u H2 => R v u H2 := by
  obtain ⟨g, s, r, s', G, O, e, z, q⟩ := h
  unfold m2 at e
  cases ea : ma g s with
  | none => rw [ea] at e; cases e
  | some p =>
    obtain ⟨x, s1⟩ := p
    rw [ea] at e
    simp only at e
    cases eb : mb g s1 with
    | none => rw [eb] at e; cases e
    | some p =>
      obtain ⟨y, s2⟩ := p
      rw [eb] at e
      simp only at e
      cases ek : k x y with
      | none => rw [ek] at e; cases e
      | some w =>
        rw [ek] at e
        cases e
        refine ⟨g, s, x, s1, G, O, ea, z, fun v H1 G1 F p1 => ?_⟩
        refine ⟨g, s1, y, _, G1, O, eb, z.grow p1.gr p1.strm, fun u H2 G2 F' p2 => ?_⟩
        refine f x y _ _ v u H2 G2 F F' ek ⟨p2.at, p1.ok.keep p2.gr, p2.ok, fun a ha => ?_, fun a ha => (p2.ap a ha).2⟩ fun w H' G' F'' p3 => q w H' G' F'' (p3.after (p1.gr.trans p2.gr))
        obtain ⟨_, o, h, _⟩ := p1.ok.there a ha
        exact p2.gr.none_of h (p1.ap a ha).2

/-- an operation on ints -/
def kI (f : Int → Int → Option D) : Rv → Rv → Option Rv := fun x y => match x.d, y.d with
  | .int i, .int j => (f i j).map fun d => .t (.fz d)
  | _, _ => none
theorem Two.dx {K : PySem.W.Frag} {x y : Rv} {s : S} {v u : V} {H G : Hp} {F F' : List Addr} (h : Two K st x y s v u H G F F') : Fz K (U H) v x.d := h.ox.rd h.at_.sub
theorem Two.dy {K : PySem.W.Frag} {x y : Rv} {s : S} {v u : V} {H G : Hp} {F F' : List Addr} (h : Two K st x y s v u H G F F') : Fz K (U H) u y.d := h.oy.rd h.at_.sub
theorem Fz.int_inv {K : PySem.W.Frag} {G : Hp} {v : V} {i : Int} (h : Fz K G v (.int i)) : v = .int i := by cases h; rfl
theorem Fz.str_inv {K : PySem.W.Frag} {G : Hp} {v : V} {i : Str} (h : Fz K G v (.str i)) : v = .str i := by cases h; rfl
theorem Fz.bl_inv {K : PySem.W.Frag} {G : Hp} {v : V} {i : Bool} (h : Fz K G v (.bool i)) : v = .bl i := by cases h; rfl
theorem Fz.non_inv {K : PySem.W.Frag} {G : Hp} {v : V} (h : Fz K G v .none) : v = .non := by cases h; rfl
theorem kI_some {f : Int → Int → Option D} {x y z : Rv} (h : kI f x y = some z) : ∃ i j d, x.d = .int i ∧ y.d = .int j ∧ f i j = some d ∧ z = .t (.fz d) := by
  unfold kI at h
  split at h
  · rename_i i j e1 e2
    cases e : f i j with
    | none => rw [e] at h; cases h
    | some d => rw [e] at h; cases h; exact ⟨i, j, d, e1, e2, e, rfl⟩
  · cases h
theorem se_opI {op : Operator} {r : R2} {f : Int → Int → Option D} {v : Int → Int → V} (ho : OpR X (binaryOp op) r) (ha : SE X st a ma) (hb : SE X st b mb)
    (hr : ∀ i j d H Q, f i j = some d → (∀ G, Fz X.K G (v i j) d) ∧ (Q (v i j) H → r (.int i) (.int j) H Q)) : SE X st (.BinOp a op b pos) (m2 ma mb (kI f)) := by
  refine ⟨(pe_op ho ha.run hb.run).imp fun σ H Q h => two h fun x y z s2 v' u' H2 G2 F F' ek t q => ?_⟩
  obtain ⟨i, j, d, e1, e2, e3, rfl⟩ := kI_some ek
  have h1 := t.dx; rw [e1] at h1; cases h1.int_inv
  have h2 := t.dy; rw [e2] at h2; cases h2.int_inv
  obtain ⟨hf, hq⟩ := hr i j d H2 Q e3
  exact hq (q _ H2 G2 [] (.scalar t.at_ (hf G2)))
def mAddI (ma mb : ME) : ME := m2 ma mb (kI fun i j => some (.int (i + j)))
def mSubI (ma mb : ME) : ME := m2 ma mb (kI fun i j => some (.int (i - j)))
def sm64 (i : Int) : Bool := decide (-(2 ^ 64) < i ∧ i < 2 ^ 64)
def mMulI (ma mb : ME) : ME := m2 ma mb (kI fun i j => if sm64 i || sm64 j then some (.int (i * j)) else none)
def mDivI (ma mb : ME) : ME := m2 ma mb (kI fun i j => if 0 < j ∧ j < 1073741824 then some (.int (i / j)) else none)
def mModI (ma mb : ME) : ME := m2 ma mb (kI fun i j => if 0 < j then some (.int (i % j)) else none)
def mPowI (ma mb : ME) : ME := m2 ma mb (kI fun i j => if 0 ≤ j ∧ j ≤ 1000000 ∧ i.natAbs < 2 ^ 64 then some (.int (i ^ j.toNat)) else none)
theorem se_addI (ha : SE X st a ma) (hb : SE X st b mb) : SE X st (.BinOp a .Add b pos) (mAddI ma mb) :=
  se_opI (v := fun i j => .int (i + j)) op_add ha hb fun i j d H Q e => by cases e; exact ⟨fun G => .int _, fun q => ⟨i, j, rfl, rfl, q⟩⟩
theorem se_subI (ha : SE X st a ma) (hb : SE X st b mb) : SE X st (.BinOp a .Sub b pos) (mSubI ma mb) :=
  se_opI (v := fun i j => .int (i - j)) op_sub ha hb fun i j d H Q e => by cases e; exact ⟨fun G => .int _, fun q => ⟨i, j, rfl, rfl, q⟩⟩
theorem se_mulI (ha : SE X st a ma) (hb : SE X st b mb) : SE X st (.BinOp a .Mult b pos) (mMulI ma mb) :=
  se_opI (v := fun i j => .int (i * j)) op_mul ha hb fun i j d H Q e => by
    by_cases c : (sm64 i || sm64 j) = true
    · rw [if_pos c] at e; cases e
      refine ⟨fun G => .int _, fun q => ⟨i, j, rfl, rfl, ?_, q⟩⟩
      rcases Bool.or_eq_true_iff.mp c with c | c
      · exact .inl (of_decide_eq_true c)
      · exact .inr (of_decide_eq_true c)
    · rw [if_neg c] at e; cases e
theorem se_divI (ha : SE X st a ma) (hb : SE X st b mb) : SE X st (.BinOp a .FloorDiv b pos) (mDivI ma mb) :=
  se_opI (v := fun i j => .int (i / j)) op_fdiv ha hb fun i j d H Q e => by
    by_cases c : 0 < j ∧ j < 1073741824
    · rw [if_pos c] at e; cases e
      exact ⟨fun G => .int _, fun q => ⟨i, j, rfl, rfl, c, q⟩⟩
    · rw [if_neg c] at e; cases e
theorem se_modI (ha : SE X st a ma) (hb : SE X st b mb) : SE X st (.BinOp a .Mod b pos) (mModI ma mb) :=
  se_opI (v := fun i j => .int (i % j)) op_mod ha hb fun i j d H Q e => by
    by_cases c : 0 < j
    · rw [if_pos c] at e; cases e
      exact ⟨fun G => .int _, fun q => ⟨i, j, rfl, rfl, c, q⟩⟩
    · rw [if_neg c] at e; cases e
theorem se_powI (ha : SE X st a ma) (hb : SE X st b mb) : SE X st (.BinOp a .Pow b pos) (mPowI ma mb) :=
  se_opI (v := fun i j => .int (i ^ j.toNat)) op_pow ha hb fun i j d H Q e => by
    by_cases c : 0 ≤ j ∧ j ≤ 1000000 ∧ i.natAbs < 2 ^ 64
    · rw [if_pos c] at e; cases e
      exact ⟨fun G => .int _, fun q => ⟨i, j, rfl, rfl, c, q⟩⟩
    · rw [if_neg c] at e; cases e
end
end DV

namespace DV
open PySem PySem.Spec PyProof.Rows L2

mutual
/-- no dict within -/
def nod : D → Bool
  | .list l => nodA l
  | .tuple l => nodA l
  | .dict _ => false
  | _ => true
def nodA : List D → Bool
  | [] => true
  | d :: l => nod d && nodA l
end
theorem nodA_all : ∀ l : List D, nodA l = l.all nod
  | [] => by simp [nodA]
  | d :: l => by simp [nodA, nodA_all l]

section
variable {X : Cx} {pins : List (Addr × Obj)} {σ : Sg} {H : Hp} {s : Shared}
mutual
theorem Fz.dp : ∀ (d : D) {v : V}, Fz X.K (U H) v d → nod d = true → Dp X.K H v d
  | .none, _, h, _ => by cases h; exact .non
  | .bool b, _, h, _ => by cases h; exact .bl b
  | .int i, _, h, _ => by cases h; exact .int i
  | .str x, _, h, _ => by cases h; exact .str x
  | .list ds, _, h, n => by
    cases h with
    | lst e r => exact .lst (.inl (.inl (U_lst e))) (FzA.dp ds r (by rw [nod] at n; exact n))
  | .tuple ds, _, h, n => by
    cases h with
    | tup e r => exact .tup (.inl (.inl (U_tup e))) (FzA.dp ds r (by rw [nod] at n; exact n))
  | .dict l, _, h, n => by rw [nod] at n; cases n
theorem FzA.dp : ∀ (ds : List D) {vs : List V}, FzA X.K (U H) vs ds → nodA ds = true → DpAll X.K H vs ds
  | [], _, h, _ => by cases h; exact .nil
  | d :: ds, _, h, n => by
    cases h with
    | cons h1 h2 =>
      rw [nodA, Bool.and_eq_true] at n
      exact .cons (Fz.dp d h1 n.1) (FzA.dp ds h2 n.2)
end
theorem Fz.reads (I : Inv X pins σ H s) {d : D} {v : V} {u : Value} (h : Fz X.K (U H) v d) (n : nod d = true) (r : RelV v u) : ∃ as, Reads s.heap u d as :=
  Dp.reads I d v u (h.dp d n) r
end

/-- an operation whose operands are read as data, its answer a bool -/
def rD (K : PySem.W.Frag) (f : D → D → Option Bool) : R2 := fun x y H Q => ∃ d e b, Fz K (U H) x d ∧ Fz K (U H) y e ∧ f d e = some b ∧ Q (.bl b) H

def dsm (d : D) : Bool := nod d && decide (d.depth ≤ 60)
def dLt : D → D → Option Bool
  | .int i, .int j => some (decide (i < j))
  | .str x, .str y => some (decide (x.cps.toList < y.cps.toList))
  | d, e => if dsm d && dsm e && PySem.W.alike d e then match d with | .none => none | _ => some (PySem.W.dataLt d e) else none
def dGt (d e : D) : Option Bool := match d, e with
  | .int i, .int j => some (decide (j < i))
  | .str x, .str y => some (decide (y.cps.toList < x.cps.toList))
  | d, e => if dsm d && dsm e && PySem.W.alike d e then match d with | .none => none | _ => some (PySem.W.dataLt e d) else none
def dLe (d e : D) : Option Bool := match d, e with
  | .int i, .int j => some (decide (i ≤ j))
  | .str x, .str y => some (!decide (y.cps.toList < x.cps.toList))
  | d, e => if dsm d && dsm e && PySem.W.alike d e then match d with | .none => none | _ => some (!PySem.W.dataLt e d) else none
def dGe (d e : D) : Option Bool := match d, e with
  | .int i, .int j => some (decide (j ≤ i))
  | .str x, .str y => some (!decide (x.cps.toList < y.cps.toList))
  | d, e => if dsm d && dsm e && PySem.W.alike d e then match d with | .none => none | _ => some (!PySem.W.dataLt d e) else none

section
variable {X : Cx} {st : Stm} {a b c e : Expr} {ma mb mc m : ME} {pos : Pos} {es : List Expr}
theorem room_dsm {A : Around} {d e : D} (hu : A.units + 100 < cLine) (h : dsm d = true) : A.units + min d.depth e.depth < cLine := by
  unfold dsm at h
  rw [Bool.and_eq_true] at h
  have h1 := of_decide_eq_true h.2
  have h2 : min d.depth e.depth ≤ d.depth := Nat.min_le_left _ _
  omega
/-- the road of the ordered data -/
theorem ord_ok {op : CmpOp} {f : D → D → Option Bool} {h : D → D → Bool} (hu : X.A.units + 100 < cLine)
    (hI : ∀ (i j : Int) (b : Bool), f (.int i) (.int j) = some b → ∀ t u (s : Shared) (Q E : Value → Shared → Prop), Q (.bool b) s → wpAny (model X.prog X.w) X.A (compareOp op (.int i t) (.int j u)) Q E s)
    (hS : ∀ (i j : Str) (b : Bool), f (.str i) (.str j) = some b → ∀ t u (s : Shared) (Q E : Value → Shared → Prop), Q (.bool b) s → wpAny (model X.prog X.w) X.A (compareOp op (.str i t) (.str j u)) Q E s)
    (hf : ∀ d e b, f d e = some b → (∃ i j, d = .int i ∧ e = .int j) ∨ (∃ i j, d = .str i ∧ e = .str j) ∨ (dsm d = true ∧ dsm e = true ∧ PySem.W.alike d e = true ∧ d ≠ .none ∧ b = h d e))
    (hD : ∀ (d e : D) (s : Shared) (u w : Value) (as bs : List Addr) (Q E : Value → Shared → Prop), Reads s.heap u d as → Reads s.heap w e bs → PySem.W.alike d e = true → d ≠ .none → X.A.units + min d.depth e.depth < cLine → Q (.bool (h d e)) s → wpAny (model X.prog X.w) X.A (compareOp op u w) Q E s) :
    OpR X (compareOp op) (rD X.K f) := by
  intro pins s σ H x y v u Q I rx ry ⟨d, e, b, hd, he, hfe, q⟩
  rcases hf d e b hfe with ⟨i, j, rfl, rfl⟩ | ⟨i, j, rfl, rfl⟩ | ⟨s1, s2, al, nn, rfl⟩
  · cases hd; cases he
    obtain ⟨t, rfl⟩ := rx
    obtain ⟨t', rfl⟩ := ry
    exact hI i j b hfe t t' s _ _ ⟨.bl b, H, I, rfl, q⟩
  · cases hd; cases he
    obtain ⟨t, rfl⟩ := rx
    obtain ⟨t', rfl⟩ := ry
    exact hS i j b hfe t t' s _ _ ⟨.bl b, H, I, rfl, q⟩
  · obtain ⟨as, r1⟩ := hd.reads I (by unfold dsm at s1; rw [Bool.and_eq_true] at s1; exact s1.1) rx
    obtain ⟨bs, r2⟩ := he.reads I (by unfold dsm at s2; rw [Bool.and_eq_true] at s2; exact s2.1) ry
    exact hD d e s v u as bs _ _ r1 r2 al nn (room_dsm hu s1) ⟨.bl _, H, I, rfl, q⟩
theorem op_ltD (hu : X.A.units + 100 < cLine) : OpR X (compareOp .Lt) (rD X.K dLt) := by
  refine ord_ok (h := fun d e => PySem.W.dataLt d e) hu (fun i j b hb t u s Q E q => ?_) (fun i j b hb t u s Q E q => ?_) (fun d e b hb => ?_) (fun d e s u w as bs Q E r1 r2 al nn hr q => PySem.W.lt_data r1 r2 al nn hr q)
  · cases hb; exact lt_int q
  · cases hb; exact lt_str q
  · unfold dLt at hb
    split at hb
    · exact .inl ⟨_, _, rfl, rfl⟩
    · exact .inr (.inl ⟨_, _, rfl, rfl⟩)
    · split at hb
      · rename_i hc
        simp only [Bool.and_eq_true] at hc
        split at hb
        · cases hb
        · rename_i hn
          cases hb; exact .inr (.inr ⟨hc.1.1, hc.1.2, hc.2, hn, rfl⟩)
      · cases hb
theorem op_gtD (hu : X.A.units + 100 < cLine) : OpR X (compareOp .Gt) (rD X.K dGt) := by
  refine ord_ok (h := fun d e => PySem.W.dataLt e d) hu (fun i j b hb t u s Q E q => ?_) (fun i j b hb t u s Q E q => ?_) (fun d e b hb => ?_) (fun d e s u w as bs Q E r1 r2 al nn hr q => PySem.W.gt_data r1 r2 al nn hr q)
  · cases hb; exact gt_int q
  · cases hb; exact PySem.P.gt_str q
  · unfold dGt at hb
    split at hb
    · exact .inl ⟨_, _, rfl, rfl⟩
    · exact .inr (.inl ⟨_, _, rfl, rfl⟩)
    · split at hb
      · rename_i hc
        simp only [Bool.and_eq_true] at hc
        split at hb
        · cases hb
        · rename_i hn
          cases hb; exact .inr (.inr ⟨hc.1.1, hc.1.2, hc.2, hn, rfl⟩)
      · cases hb
theorem op_leD (hu : X.A.units + 100 < cLine) : OpR X (compareOp .LtE) (rD X.K dLe) := by
  refine ord_ok (h := fun d e => !PySem.W.dataLt e d) hu (fun i j b hb t u s Q E q => ?_) (fun i j b hb t u s Q E q => ?_) (fun d e b hb => ?_) (fun d e s u w as bs Q E r1 r2 al nn hr q => PySem.W.le_data r1 r2 al nn hr q)
  · cases hb; exact le_int q
  · cases hb; exact PySem.P.le_str q
  · unfold dLe at hb
    split at hb
    · exact .inl ⟨_, _, rfl, rfl⟩
    · exact .inr (.inl ⟨_, _, rfl, rfl⟩)
    · split at hb
      · rename_i hc
        simp only [Bool.and_eq_true] at hc
        split at hb
        · cases hb
        · rename_i hn
          cases hb; exact .inr (.inr ⟨hc.1.1, hc.1.2, hc.2, hn, rfl⟩)
      · cases hb
theorem op_geD (hu : X.A.units + 100 < cLine) : OpR X (compareOp .GtE) (rD X.K dGe) := by
  refine ord_ok (h := fun d e => !PySem.W.dataLt d e) hu (fun i j b hb t u s Q E q => ?_) (fun i j b hb t u s Q E q => ?_) (fun d e b hb => ?_) (fun d e s u w as bs Q E r1 r2 al nn hr q => PySem.W.ge_data r1 r2 al nn hr q)
  · cases hb; exact ge_int q
  · cases hb; exact PySem.P.ge_str q
  · unfold dGe at hb
    split at hb
    · exact .inl ⟨_, _, rfl, rfl⟩
    · exact .inr (.inl ⟨_, _, rfl, rfl⟩)
    · split at hb
      · rename_i hc
        simp only [Bool.and_eq_true] at hc
        split at hb
        · cases hb
        · rename_i hn
          cases hb; exact .inr (.inr ⟨hc.1.1, hc.1.2, hc.2, hn, rfl⟩)
      · cases hb
end
end DV

namespace DV
open PySem PySem.Spec PyProof.Rows L2

def kOf : D → Option Key
  | .int i => some (.inl i)
  | .str x => some (.inr x)
  | _ => none
def ksOf : List D → Option (List Key)
  | [] => some []
  | d :: l => match kOf d, ksOf l with
    | some k, some r => some (k :: r)
    | _, _ => none
theorem kOf_some {d : D} {k : Key} (h : kOf d = some k) : d = keyD k := by
  unfold kOf at h; split at h <;> cases h <;> rfl
theorem kOf_keyD (k : Key) : kOf (keyD k) = some k := by cases k <;> rfl
theorem ksOf_some : ∀ {l : List D} {ks : List Key}, ksOf l = some ks → l = ks.map keyD
  | [], ks, h => by unfold ksOf at h; cases h; rfl
  | d :: l, ks, h => by
    unfold ksOf at h
    split at h
    · rename_i k r e1 e2
      cases h
      rw [kOf_some e1, ksOf_some e2]; rfl
    · cases h
theorem eqv_key (a b : Key) : PyData.eqv (keyD a) (keyD b) = decide (a = b) := by
  cases a <;> cases b <;> simp [keyD, PyData.eqv, Bool.beq_eq_decide_eq]
theorem eqvAll_keys : ∀ a b : List Key, PyData.eqvAll (a.map keyD) (b.map keyD) = decide (a = b)
  | [], [] => by simp [PyData.eqvAll]
  | [], _ :: _ => by simp [PyData.eqvAll]
  | _ :: _, [] => by simp [PyData.eqvAll]
  | x :: xs, y :: ys => by
    rw [List.map_cons, List.map_cons, PyData.eqvAll, eqv_key, eqvAll_keys xs ys]
    simp
theorem eqv_keyT (a b : List Key) : PyData.eqv (keyTD a) (keyTD b) = decide (a = b) := by
  unfold keyTD; rw [PyData.eqv, eqvAll_keys]

def dLook (l : List (D × D)) (k : D) : Option D := (l.find? fun p => PyData.eqv p.1 k).map (·.2)

section
variable {K : PySem.W.Frag} {G : Hp}
theorem look_k {k : Key} : ∀ {kvs : List (Key × V)} {l : List (D × D)}, FzK K G kvs l →
    (∃ v d, valV kvs k = some v ∧ dLook l (keyD k) = some d ∧ Fz K G v d) ∨ (valV kvs k = none ∧ dLook l (keyD k) = none)
  | _, _, .nil => .inr ⟨rfl, rfl⟩
  | _, _, @FzK.cons _ _ k' v d vs ds h r => by
    by_cases e : k' = k
    · subst e
      refine .inl ⟨v, d, valV_pos rfl, ?_, h⟩
      unfold dLook
      rw [List.find?_cons_of_pos (by simp [eqv_key])]; rfl
    · have n1 : valV ((k', v) :: vs) k = valV vs k := valV_neg e
      have n2 : dLook ((keyD k', d) :: ds) (keyD k) = dLook ds (keyD k) := by
        unfold dLook
        rw [List.find?_cons_of_neg (by simp [eqv_key, e])]
      rw [n1, n2]
      exact look_k r
theorem look_t {k : List Key} : ∀ {kvs : List (List Key × V)} {l : List (D × D)}, FzT K G kvs l →
    (∃ v d, valV kvs k = some v ∧ dLook l (keyTD k) = some d ∧ Fz K G v d) ∨ (valV kvs k = none ∧ dLook l (keyTD k) = none)
  | _, _, .nil => .inr ⟨rfl, rfl⟩
  | _, _, @FzT.cons _ _ k' v d vs ds h r => by
    by_cases e : k' = k
    · subst e
      refine .inl ⟨v, d, valV_pos rfl, ?_, h⟩
      unfold dLook
      rw [List.find?_cons_of_pos (by simp [eqv_keyT])]; rfl
    · have n1 : valV ((k', v) :: vs) k = valV vs k := valV_neg e
      have n2 : dLook ((keyTD k', d) :: ds) (keyTD k) = dLook ds (keyTD k) := by
        unfold dLook
        rw [List.find?_cons_of_neg (by simp [eqv_keyT, e])]
      rw [n1, n2]
      exact look_t r
theorem FzK.len : ∀ {kvs : List (Key × V)} {l : List (D × D)}, FzK K G kvs l → kvs.length = l.length
  | _, _, .nil => rfl
  | _, _, .cons _ r => congrArg (· + 1) (FzK.len r)
theorem FzT.len : ∀ {kvs : List (List Key × V)} {l : List (D × D)}, FzT K G kvs l → kvs.length = l.length
  | _, _, .nil => rfl
  | _, _, .cons _ r => congrArg (· + 1) (FzT.len r)
theorem FzA.len : ∀ {vs : List V} {l : List D}, FzA K G vs l → vs.length = l.length
  | _, _, .nil => rfl
  | _, _, .cons _ r => congrArg (· + 1) (FzA.len r)
theorem FzA.get : ∀ {vs : List V} {l : List D}, FzA K G vs l → ∀ {i : Nat} {d : D}, l[i]? = some d → ∃ v, vs[i]? = some v ∧ Fz K G v d
  | _, _, .nil, i, d, e => by simp at e
  | _, _, .cons h _, 0, d, e => by simp at e; subst e; exact ⟨_, rfl, h⟩
  | _, _, .cons _ r, i + 1, d, e => by simpa using FzA.get r (i := i) (by simpa using e)
theorem FzA.getV : ∀ {vs : List V} {l : List D}, FzA K G vs l → ∀ {i : Nat} {v : V}, vs[i]? = some v → ∃ d, l[i]? = some d ∧ Fz K G v d
  | _, _, .nil, i, d, e => by simp at e
  | _, _, .cons h _, 0, d, e => by simp at e; subst e; exact ⟨_, rfl, h⟩
  | _, _, .cons _ r, i + 1, d, e => by simpa using FzA.getV r (i := i) (by simpa using e)
end

def scD : D → Bool
  | .none | .bool _ | .int _ | .str _ => true
  | _ => false
/-- scalars that == tells apart as data does -/
def scPair : D → D → Bool
  | .bool _, .int _ => false
  | .int _, .bool _ => false
  | d, e => scD d && scD e
def keysK (l : List (D × D)) : Bool := l.all fun p => (kOf p.1).isSome
def valsN (l : List (D × D)) : Bool := l.all fun p => SeqAt.shaped p.2
def eqDic (l m : List (D × D)) : Bool := l.length == m.length && l.all fun p => match dLook m p.1 with
  | some y => PyData.eqv p.2 y
  | none => false
def dEq (d e : D) : Option Bool := match d, e with
  | .dict l, .dict m => if keysK l && keysK m && valsN l && valsN m then some (eqDic l m) else none
  | d, e => if scPair d e || (SeqAt.shaped d && SeqAt.shaped e) then some (PyData.eqv d e) else none
def dNe (d e : D) : Option Bool := (dEq d e).map not

theorem nod_of_lay : ∀ d : D, d.canLay0 = true → nod d = true
  | .none, _ => by rw [nod] <;> intros <;> contradiction
  | .bool _, _ => by rw [nod] <;> intros <;> contradiction
  | .int _, _ => by rw [nod] <;> intros <;> contradiction
  | .str _, _ => by rw [nod] <;> intros <;> contradiction
  | .list l, h => by
    rw [nod]
    rw [PyData.canLay0] at h
    exact go l h
  | .tuple l, h => by
    rw [nod]
    rw [PyData.canLay0] at h
    exact go l h
  | .dict _, h => by rw [PyData.canLay0] at h; cases h
where go : ∀ l : List D, PyData.canLayAll0 l = true → nodA l = true
  | [], _ => by rw [nodA]
  | d :: l, h => by
    rw [PyData.canLayAll0, Bool.and_eq_true] at h
    rw [nodA, nod_of_lay d h.1, go l h.2]; rfl

section
variable {X : Cx} {pins : List (Addr × Obj)} {σ : Sg} {H : Hp} {s : Shared} {A : Around}
theorem sc_eq {d e : D} {v u : V} (h : scPair d e = true) (h1 : Fz X.K (U H) v d) (h2 : Fz X.K (U H) u e) : scal v u = true ∧ decide (v = u) = PyData.eqv d e := by
  cases d <;> cases e <;> first
    | (simp [scPair, scD] at h; done)
    | (cases h1; cases h2; simp [scal, PyData.eqv, Bool.beq_eq_decide_eq])

theorem hits_of (I : Inv X pins σ H s) (hu : A.units + 64 < cLine) {m : List (D × D)} {kvs2 : List (Key × V)} {vb : List (Key × Value)} (fm : FzK X.K (U H) kvs2 m) (rb : KV kvs2 vb) (nm : valsN m = true) :
    ∀ {l : List (D × D)} {kvs : List (Key × V)} {va : List (Key × Value)}, FzK X.K (U H) kvs l → KV kvs va → valsN l = true →
      PySem.W.KeqHits A s vb va (l.all fun p => match dLook m p.1 with | some y => PyData.eqv p.2 y | none => false)
  | _, _, _, .nil, t, _ => by cases t; exact .nil
  | _, _, _, @FzK.cons _ _ k v d vs ds h r, t, n => by
    cases t with
    | @cons _ b _ _ e t =>
    obtain ⟨e1, e2⟩ := e
    obtain ⟨kb, ub⟩ := b
    have e1 : k = kb := e1
    subst e1
    have n' : SeqAt.shaped d = true ∧ valsN ds = true := by
      unfold valsN at n ⊢
      rw [List.all_cons, Bool.and_eq_true] at n
      exact n
    have ih := hits_of I hu fm rb nm r t n'.2
    rw [List.all_cons]
    have rel := rb.val k
    rcases look_k (k := k) fm with ⟨w, y, ew, ey, fw⟩ | ⟨ew, ey⟩
    · rw [ew] at rel
      obtain ⟨uy, euy, ry⟩ := rel.some_of
      have sy : SeqAt.shaped y = true := by
        unfold valsN at nm
        rw [List.all_eq_true] at nm
        unfold dLook at ey
        obtain ⟨p, hp, hp2⟩ := Option.map_eq_some_iff.mp ey
        rw [← hp2]
        exact nm p (List.mem_of_find?_eq_some hp)
      obtain ⟨as, r1⟩ := h.reads I (nod_of_lay _ (SeqAt.canLay_of_shaped n'.1)) e2
      obtain ⟨bs, r2⟩ := fw.reads I (nod_of_lay _ (SeqAt.canLay_of_shaped sy)) ry
      have := SeqAt.eqAt_reads d y A s ub uy as bs r1 r2 (SeqAt.canLay_of_shaped n'.1) (SeqAt.canLay_of_shaped sy) (SeqAt.room_of_shaped n'.1 hu)
      simp only [ey]
      exact .hit euy this ih
    · rw [ew] at rel
      have e := rel.none_of
      simp only [ey, Bool.false_and]
      exact .miss e

/-- a dict that is read, with keys ints and texts -/
theorem Fz.dictK (I : Inv X pins σ H s) {v : V} {u : Value} {l : List (D × D)} (h : Fz X.K (U H) v (.dict l)) (n : keysK l = true) (r : RelV v u) :
    ∃ a kvs vs, v = .ref a ∧ u = .ref a ∧ FzK X.K (U H) kvs l ∧ KV kvs vs ∧ (a == sysModules) = false ∧ s.heap.DictOf (mixKind X.prog X.w) a vs ∧ kvs.length ≤ sizeLine := by
  cases h with
  | dk e f =>
    rename_i a kvs
    cases r
    obtain ⟨z, y, vs, kv, dd⟩ := dk_rd I.hok (U_dK e)
    exact ⟨a, kvs, vs, rfl, rfl, f, kv, y, dd, z⟩
  | dt e f ne =>
    rename_i a kvs
    cases r
    cases f with
    | nil =>
      obtain ⟨z, y, xs, kt, o, es, ep, h1, h2, h3, h4, h5, h6⟩ := dt_rd I.hok (U_dT e)
      cases kt
      refine ⟨a, [], [], rfl, rfl, .nil, .nil, y, ⟨o, es, ep, h1, h2, h3, ?_, ?_, .nil⟩, Nat.zero_le _⟩
      · intro e he
        have h4' : es.toList = [] := h4
        have : e ∈ es.toList := by simpa using he
        rw [h4'] at this; simp at this
      · have h4' : es.toList = [] := h4
        rw [h4']; exact .nil
    | cons hv hr =>
      unfold keysK at n
      rw [List.all_cons, Bool.and_eq_true] at n
      have := n.1
      simp [keyTD, kOf] at this
theorem op_eqDD (hu : X.A.units + 100 < cLine) : OpR X (compareOp .Eq) (rD X.K dEq) := by
  intro pins s σ H x y v u Q I rx ry ⟨d, e, b, hd, he, hf, q⟩
  unfold dEq at hf
  split at hf
  · rename_i l m
    split at hf
    · rename_i hc
      simp only [Bool.and_eq_true] at hc
      cases hf
      obtain ⟨a, kvs, va, rfl, rfl, f1, k1, y1, d1, _⟩ := hd.dictK I hc.1.1.1 rx
      obtain ⟨a2, kvs2, vb, rfl, rfl, f2, k2, y2, d2, _⟩ := he.dictK I hc.1.1.2 ry
      have hl1 : va.length = l.length := by rw [← k1.length, f1.len]
      have hl2 : vb.length = m.length := by rw [← k2.length, f2.len]
      refine PySem.W.keq_eq y1 y2 d1 d2 (by omega) (fun _ => hits_of I (A := X.A.in1) (by show X.A.units + 1 + 64 < cLine; omega) f2 k2 hc.2 f1 k1 hc.1.2) ?_
      refine fin_bl I q ?_
      rw [hl1, hl2]; rfl
    · cases hf
  · split at hf
    · rename_i hc
      cases hf
      by_cases hs : scPair d e = true
      · obtain ⟨h1, h2⟩ := sc_eq hs hd he
        exact op_eq pins s σ H x y v u Q I rx ry ⟨h1, by rw [h2]; exact q⟩
      · rw [Bool.or_eq_true, Bool.and_eq_true] at hc
        obtain ⟨s1, s2⟩ := hc.resolve_left hs
        exact op_eqD (by omega) pins s σ H x y v u Q I rx ry ⟨d, e, hd.dp d (nod_of_lay _ (SeqAt.canLay_of_shaped s1)), he.dp e (nod_of_lay _ (SeqAt.canLay_of_shaped s2)), s1, s2, q⟩
    · cases hf
theorem op_neDD (hu : X.A.units + 100 < cLine) : OpR X (compareOp .NotEq) (rD X.K dNe) := by
  intro pins s σ H x y v u Q I rx ry ⟨d, e, b, hd, he, hf, q⟩
  unfold dNe at hf
  obtain ⟨b', hf2, hb⟩ := Option.map_eq_some_iff.mp hf
  clear hf
  subst hb
  unfold dEq at hf2
  split at hf2
  · rename_i l m
    split at hf2
    · rename_i hc
      simp only [Bool.and_eq_true] at hc
      have hf := Option.some.inj hf2
      subst hf
      obtain ⟨a, kvs, va, rfl, rfl, f1, k1, y1, d1, _⟩ := hd.dictK I hc.1.1.1 rx
      obtain ⟨a2, kvs2, vb, rfl, rfl, f2, k2, y2, d2, _⟩ := he.dictK I hc.1.1.2 ry
      have hl1 : va.length = l.length := by rw [← k1.length, f1.len]
      have hl2 : vb.length = m.length := by rw [← k2.length, f2.len]
      refine PySem.W.keq_ne y1 y2 d1 d2 (by omega) (fun _ => hits_of I (A := X.A.in1) (by show X.A.units + 1 + 64 < cLine; omega) f2 k2 hc.2 f1 k1 hc.1.2) ?_
      refine fin_bl I q ?_
      rw [hl1, hl2]; rfl
    · cases hf2
  · split at hf2
    · rename_i hc
      have hf := Option.some.inj hf2
      subst hf
      by_cases hs : scPair d e = true
      · obtain ⟨h1, h2⟩ := sc_eq hs hd he
        exact op_ne pins s σ H x y v u Q I rx ry ⟨h1, by rw [h2]; exact q⟩
      · rw [Bool.or_eq_true, Bool.and_eq_true] at hc
        obtain ⟨s1, s2⟩ := hc.resolve_left hs
        exact op_neD (by omega) pins s σ H x y v u Q I rx ry ⟨d, e, hd.dp d (nod_of_lay _ (SeqAt.canLay_of_shaped s1)), he.dp e (nod_of_lay _ (SeqAt.canLay_of_shaped s2)), s1, s2, q⟩
    · cases hf2
end
end DV

namespace DV
open PySem PySem.Spec PyProof.Rows L2

def keysT (l : List (D × D)) : Bool := l.all fun p => match p.1 with
  | .tuple ks => (ksOf ks).isSome
  | _ => false
def layS (d : D) : Bool := d.canLay0 && decide (d.depth ≤ 60)
def dIn (x y : D) : Option Bool := match y with
  | .list ds => if layS x && PyData.canLayAll0 ds then some (ds.any fun z => PyData.eqv z x) else none
  | .tuple ds => if layS x && PyData.canLayAll0 ds then some (ds.any fun z => PyData.eqv z x) else none
  | .dict l => match x with
    | .tuple ks => if (ksOf ks).isSome && keysT l then some (dLook l x).isSome else none
    | x => if (kOf x).isSome && keysK l then some (dLook l x).isSome else none
  | .str j => match x with
    | .str i => some (!(Builtin.Str.occurrences j i 0 j.length 1).isEmpty)
    | _ => none
  | _ => none
def dNotIn (x y : D) : Option Bool := (dIn x y).map not

section
variable {X : Cx} {pins : List (Addr × Obj)} {σ : Sg} {H : Hp} {s : Shared} {A : Around}
theorem room_lay {A : Around} {d : D} {xs : List D} (hu : A.units + 100 < cLine) (h : layS d = true) : A.units + 1 + min (PyData.depthAll xs) d.depth < cLine := by
  unfold layS at h
  rw [Bool.and_eq_true] at h
  have h1 := of_decide_eq_true h.2
  have h2 : min (PyData.depthAll xs) d.depth ≤ d.depth := Nat.min_le_right _ _
  omega
theorem lay_lay {d : D} (h : layS d = true) : d.canLay0 = true := by unfold layS at h; rw [Bool.and_eq_true] at h; exact h.1
theorem Fz.keyV {K : PySem.W.Frag} {G : Hp} {v : V} {k : Key} (h : Fz K G v (keyD k)) : v = kV k := by
  cases k <;> (cases h; rfl)
theorem FzA.keys {K : PySem.W.Frag} {G : Hp} : ∀ {kk : List Key} {vs : List V}, FzA K G vs (kk.map keyD) → vs = kk.map kV
  | [], _, h => by cases h; rfl
  | k :: kk, _, h => by
    rw [List.map_cons] at h
    cases h with
    | cons h r => rw [h.keyV, FzA.keys r]; rfl
/-- a tuple that may be a key -/
theorem Fz.key {K : PySem.W.Frag} {v : V} {ks : List D} {kk : List Key} (h : Fz K (U H) v (.tuple ks)) (e : ksOf ks = some kk) :
    ∃ a, v = .ref a ∧ H a = some (.tup (kk.map kV)) := by
  cases h with
  | tup c r =>
    rw [ksOf_some e] at r
    rw [FzA.keys r] at c
    exact ⟨_, rfl, U_tup c⟩
/-- a dict that is read, with keys tuples of ints and texts -/
theorem Fz.dictT (I : Inv X pins σ H s) {v : V} {u : Value} {l : List (D × D)} (h : Fz X.K (U H) v (.dict l)) (n : keysT l = true) (r : RelV v u) :
    ∃ a kvs xs, v = .ref a ∧ u = .ref a ∧ FzT X.K (U H) kvs l ∧ KT H kvs xs ∧ (a == sysModules) = false ∧ s.heap.DictOfH (tupleKind (mixKind X.prog X.w)) a xs ∧ kvs.length ≤ sizeLine := by
  cases h with
  | dt e f ne =>
    rename_i a kvs
    cases r
    obtain ⟨z, y, xs, kt, dd⟩ := dt_rd I.hok (U_dT e)
    exact ⟨a, kvs, xs, rfl, rfl, f, kt, y, dd, z⟩
  | dk e f =>
    rename_i a kvs
    cases r
    cases f with
    | nil =>
      obtain ⟨z, y, vs, kv, o, es, ep, h1, h2, h3, h4, h5, h6⟩ := dk_rd I.hok (U_dK e)
      cases kv
      refine ⟨a, [], [], rfl, rfl, .nil, .nil, y, ⟨o, es, ep, h1, h2, h3, ?_, fun x hx => by simp at hx, .nil⟩, Nat.zero_le _⟩
      generalize es.toList = t at h5
      cases h5
      rfl
    | @cons k _ _ _ _ hv hr =>
      unfold keysT at n
      rw [List.all_cons, Bool.and_eq_true] at n
      have := n.1
      cases k <;> simp [keyD] at this
theorem look_any {l : List (D × D)} {kvs : List (Key × V)} {vs : List (Key × Value)} {k : Key} {K : PySem.W.Frag} {G : Hp} (f : FzK K G kvs l) (kv : KV kvs vs) : (valueAt vs k).isSome = (dLook l (keyD k)).isSome := by
  have rel := kv.val k
  rcases look_k (k := k) f with ⟨v, d, e1, e2, _⟩ | ⟨e1, e2⟩
  · rw [e1] at rel; obtain ⟨u, eu, _⟩ := rel.some_of; rw [eu, e2]; rfl
  · rw [e1] at rel; rw [rel.none_of, e2]; rfl
theorem look_anyT {l : List (D × D)} {kvs : List (List Key × V)} {xs : List (List Key × Addr × Value)} {k : List Key} {K : PySem.W.Frag} {G : Hp} (f : FzT K G kvs l) (kv : KT H kvs xs) : (atKey xs k).isSome = (dLook l (keyTD k)).isSome := by
  have rel := kv.val k
  have q := rel.isSome_eq
  rw [Option.isSome_map] at q
  rw [← q]
  rcases look_t (k := k) f with ⟨v, d, e1, e2, _⟩ | ⟨e1, e2⟩
  · rw [e1, e2]; rfl
  · rw [e1, e2]; rfl
theorem keyTD_of {ks : List D} {kk : List Key} (e : ksOf ks = some kk) : PyData.tuple ks = keyTD kk := by
  unfold keyTD; rw [ksOf_some e]
theorem in_all {op : CmpOp} {g : Bool → Bool} (hu : X.A.units + 100 < cLine)
    (hL : ∀ {c x : Value} {xs : List PyData} {d : PyData} {as bs : List Addr} {s : Shared} {E Q : Value → Shared → Prop}, Reads s.heap c (.list xs) as → Reads s.heap x d bs → PyData.canLayAll0 xs = true → d.canLay0 = true → X.A.units + 1 + min (PyData.depthAll xs) d.depth < cLine → Q (.bool (g (xs.any fun y => PyData.eqv y d))) s → wpAny (model X.prog X.w) X.A (compareOp op x c) Q E s)
    (hT : ∀ {c x : Value} {xs : List PyData} {d : PyData} {as bs : List Addr} {s : Shared} {E Q : Value → Shared → Prop}, Reads s.heap c (.tuple xs) as → Reads s.heap x d bs → PyData.canLayAll0 xs = true → d.canLay0 = true → X.A.units + 1 + min (PyData.depthAll xs) d.depth < cLine → Q (.bool (g (xs.any fun y => PyData.eqv y d))) s → wpAny (model X.prog X.w) X.A (compareOp op x c) Q E s)
    (hS : ∀ {i j : Str} {t u : Tok} {s : Shared} {E Q : Value → Shared → Prop}, Q (.bool (g (!(Builtin.Str.occurrences j i 0 j.length 1).isEmpty))) s → wpAny (model X.prog X.w) X.A (compareOp op (.str i t) (.str j u)) Q E s)
    (hK : ∀ {pins : List (Addr × Obj)} {σ : Sg} {H : Hp} {s : Shared} {a : Addr} {vs : List (Key × Value)} {k : Key} {u : Value} {E Q : Value → Shared → Prop}, Inv X pins σ H s → RelV (kV k) u → (a == sysModules) = false → s.heap.DictOf (mixKind X.prog X.w) a vs → (∀ s', Inv X pins σ H s' → Q (.bool (g (valueAt vs k).isSome)) s') → wpAny (model X.prog X.w) X.A (compareOp op u (.ref a)) Q E s)
    (hKT : ∀ {pins : List (Addr × Obj)} {σ : Sg} {H : Hp} {s : Shared} {a b : Addr} {xs : List (List Key × Addr × Value)} {k : List Key} {E Q : Value → Shared → Prop}, Inv X pins σ H s → H b = some (.tup (k.map kV)) → (a == sysModules) = false → s.heap.DictOfH (tupleKind (mixKind X.prog X.w)) a xs → (∀ s', Inv X pins σ H s' → Q (.bool (g (atKey xs k).isSome)) s') → wpAny (model X.prog X.w) X.A (compareOp op (.ref b) (.ref a)) Q E s)
    : OpR X (compareOp op) (rD X.K fun x y => (dIn x y).map g) := by
  intro pins s σ H x y v u Q I rx ry ⟨d, e, b, hd, he, hf, q⟩
  obtain ⟨b', hf2, hb⟩ := Option.map_eq_some_iff.mp hf
  clear hf
  subst hb
  unfold dIn at hf2
  split at hf2
  · split at hf2
    · rename_i ds hc
      cases hf2
      rw [Bool.and_eq_true] at hc
      obtain ⟨as, r1⟩ := hd.reads I (nod_of_lay _ (lay_lay hc.1)) rx
      obtain ⟨bs, r2⟩ := he.reads I (by rw [nod]; exact nod_of_lay.go _ hc.2) ry
      exact hL r2 r1 hc.2 (lay_lay hc.1) (room_lay hu hc.1) ⟨.bl _, H, I, rfl, q⟩
    · cases hf2
  · split at hf2
    · rename_i ds hc
      cases hf2
      rw [Bool.and_eq_true] at hc
      obtain ⟨as, r1⟩ := hd.reads I (nod_of_lay _ (lay_lay hc.1)) rx
      obtain ⟨bs, r2⟩ := he.reads I (by rw [nod]; exact nod_of_lay.go _ hc.2) ry
      exact hT r2 r1 hc.2 (lay_lay hc.1) (room_lay hu hc.1) ⟨.bl _, H, I, rfl, q⟩
    · cases hf2
  · rename_i l
    split at hf2
    · rename_i ks
      split at hf2
      · rename_i hc
        cases hf2
        rw [Bool.and_eq_true] at hc
        obtain ⟨kk, ekk⟩ := Option.isSome_iff_exists.mp hc.1
        obtain ⟨b, rfl, hb⟩ := hd.key ekk
        obtain ⟨a, kvs, xs, rfl, rfl, f, kt, y1, dd, _⟩ := he.dictT I hc.2 ry
        cases rx
        refine hKT I hb y1 dd fun s' I' => ⟨.bl _, H, I', rfl, ?_⟩
        rw [look_anyT f kt, ← keyTD_of ekk]
        exact q
      · cases hf2
    · split at hf2
      · rename_i hc
        cases hf2
        rw [Bool.and_eq_true] at hc
        obtain ⟨k, ek⟩ := Option.isSome_iff_exists.mp hc.1
        rw [kOf_some ek] at hd q
        cases hd.keyV
        obtain ⟨a, kvs, vs, rfl, rfl, f, kv, y1, dd, _⟩ := he.dictK I hc.2 ry
        refine hK I rx y1 dd fun s' I' => ⟨.bl _, H, I', rfl, ?_⟩
        rw [look_any f kv]
        exact q
      · cases hf2
  · split at hf2
    · cases hf2
      cases hd; cases he
      obtain ⟨t, rfl⟩ := rx
      obtain ⟨t', rfl⟩ := ry
      exact hS ⟨.bl _, H, I, rfl, q⟩
    · cases hf2
  · cases hf2
theorem op_inDD (hu : X.A.units + 100 < cLine) : OpR X (compareOp .In) (rD X.K dIn) := by
  have h := in_all (X := X) (op := .In) (g := id) hu (fun a b c d e q => SeqAt.in_list_reads a b c d e q) (fun a b c d e q => SeqAt.in_tuple_reads a b c d e q) (fun q => in_str q)
    (fun {pins σ H s a vs k u E Q} I r y dd q => by
      refine wpAny_in_of (kV_is r) y dd.mapOf ?_
      exact q _ (I.tok _))
    (fun {pins σ H s a b xs k E Q} I hb y dd q => by
      refine wpAny_in_heap (tupleKind_room_in1 (by omega)) (key_of I.hok hb) y dd ?_
      exact q _ (I.tok _))
  simpa using h
theorem op_notInDD (hu : X.A.units + 100 < cLine) : OpR X (compareOp .NotIn) (rD X.K dNotIn) := by
  exact in_all (X := X) (op := .NotIn) (g := not) hu (fun a b c d e q => SeqAt.notIn_list_reads a b c d e q) (fun a b c d e q => SeqAt.notIn_tuple_reads a b c d e q) (fun q => notIn_str q)
    (fun {pins σ H s a vs k u E Q} I r y dd q => by
      refine wpAny_notIn_of (kV_is r) y dd.mapOf ?_
      exact q _ (I.tok _))
    (fun {pins σ H s a b xs k E Q} I hb y dd q => by
      refine wpAny_notIn_heap (tupleKind_room_in1 (by omega)) (key_of I.hok hb) y dd ?_
      exact q _ (I.tok _))
end

def kC (f : D → D → Option Bool) : Rv → Rv → Option Rv := fun x y => (f x.d y.d).map fun b => .t (.fz (.bool b))
section
variable {X : Cx} {st : Stm} {a b c e : Expr} {ma mb mc m : ME} {pos : Pos} {es : List Expr}
def mCmp (f : D → D → Option Bool) (ma mb : ME) : ME := m2 ma mb (kC f)
theorem se_cmp {op : CmpOp} {f : D → D → Option Bool} (ho : OpR X (compareOp op) (rD X.K f)) (ha : SE X st a ma) (hb : SE X st b mb) (hm : behindInMarks op b = false := by rfl) : SE X st (.Compare a [op] [b] pos) (mCmp f ma mb) := by
  refine ⟨(pe_cmpR ho ha.run hb.run hm).imp fun σ H Q h => two h fun x y z s2 v u H2 G2 F F' ek t q => ?_⟩
  unfold kC at ek
  obtain ⟨b, eb, rfl⟩ := Option.map_eq_some_iff.mp ek
  exact ⟨_, _, b, t.dx, t.dy, eb, q _ H2 G2 [] (.scalar t.at_ (.bl b))⟩
/-- is None, is not None -/
def mIs (neg : Bool) (ma mb : ME) : ME := m2 ma mb fun x y => match y.d with
  | .none => match x.d with
    | .none => some (.t (.fz (.bool (!neg))))
    | _ => some (.t (.fz (.bool neg)))
  | _ => none
theorem se_isN (ha : SE X st a ma) (hb : SE X st b mb) (hm : behindInMarks .Is b = false := by rfl) : SE X st (.Compare a [.Is] [b] pos) (mIs false ma mb) := by
  refine ⟨(pe_cmpR op_isN ha.run hb.run hm).imp fun σ H Q h => two h fun x y z s2 v u H2 G2 F F' ek t q => ?_⟩
  have h2 := t.dy
  have h1 := t.dx
  split at ek
  · rename_i e
    rw [e] at h2; cases h2.non_inv
    refine ⟨rfl, ?_⟩
    split at ek
    · rename_i e1
      rw [e1] at h1; cases h1.non_inv
      cases ek
      exact q _ H2 G2 [] (.scalar t.at_ (.bl _))
    · rename_i e1
      cases ek
      have hv : v ≠ .non := fun z => by subst z; generalize x.d = d at h1 e1; cases h1; exact e1 rfl
      rw [decide_eq_false hv]
      exact q _ H2 G2 [] (.scalar t.at_ (.bl _))
  · cases ek
theorem se_notN (ha : SE X st a ma) (hb : SE X st b mb) (hm : behindInMarks .IsNot b = false := by rfl) : SE X st (.Compare a [.IsNot] [b] pos) (mIs true ma mb) := by
  refine ⟨(pe_cmpR op_notN ha.run hb.run hm).imp fun σ H Q h => two h fun x y z s2 v u H2 G2 F F' ek t q => ?_⟩
  have h2 := t.dy
  have h1 := t.dx
  split at ek
  · rename_i e
    rw [e] at h2; cases h2.non_inv
    refine ⟨rfl, ?_⟩
    split at ek
    · rename_i e1
      rw [e1] at h1; cases h1.non_inv
      cases ek
      exact q _ H2 G2 [] (.scalar t.at_ (.bl _))
    · rename_i e1
      cases ek
      have hv : v ≠ .non := fun z => by subst z; generalize x.d = d at h1 e1; cases h1; exact e1 rfl
      rw [decide_eq_false hv]
      exact q _ H2 G2 [] (.scalar t.at_ (.bl _))
  · cases ek
/-- a chain of two comparisons -/
def mChain (f f' : D → D → Option Bool) (ma mb mc : ME) : ME := fun g s => match ma g s with
  | none => none
  | some (x, s1) => match mb g s1 with
    | none => none
    | some (y, s2) => match f x.d y.d with
      | some true => match mc g s2 with
        | none => none
        | some (z, s3) => (f' y.d z.d).map fun k => (.t (.fz (.bool k)), s3)
      | some false => some (.t (.fz (.bool false)), s2)
      | none => none
theorem chain_read {K : PySem.W.Frag} {f f' : D → D → Option Bool} {σ : Sg} {H : Hp} {Q : VK} (h : tE K st (mChain f f' ma mb mc) σ H Q) : tChain (rD K f) (rD K f') (tE K st ma) (tE K st mb) (tE K st mc) σ H Q := by
  obtain ⟨g, s, r, s', G, O, e, z, q⟩ := h
  unfold mChain at e
  cases ea : ma g s with
  | none => rw [ea] at e; cases e
  | some p =>
    obtain ⟨x, s1⟩ := p
    rw [ea] at e
    simp only at e
    cases eb : mb g s1 with
    | none => rw [eb] at e; cases e
    | some p =>
      obtain ⟨y, s2⟩ := p
      rw [eb] at e
      simp only at e
      refine ⟨g, s, x, s1, G, O, ea, z, fun v H1 G1 F p1 => ?_⟩
      refine ⟨g, s1, y, s2, G1, O, eb, z.grow p1.gr p1.strm, fun u H2 G2 F' p2 => ?_⟩
      have ox := p1.ok.keep p2.gr
      split at e
      · rename_i ef
        refine ⟨_, _, true, ox.rd p2.gr.sub, p2.ok.rd p2.gr.sub, ef, true, rfl, ?_⟩
        rw [if_pos rfl]
        cases ec : mc g s2 with
        | none => rw [ec] at e; cases e
        | some p =>
          obtain ⟨zz, s3⟩ := p
          rw [ec] at e
          simp only at e
          obtain ⟨k, ek, hk⟩ := Option.map_eq_some_iff.mp e
          cases hk
          refine ⟨g, s2, zz, _, G2, O, ec, (z.grow p1.gr p1.strm).grow p2.gr p2.strm, fun w H3 G3 F'' p3 => ?_⟩
          have oy := p2.ok.keep p3.gr
          exact ⟨_, _, k, oy.rd p3.gr.sub, p3.ok.rd p3.gr.sub, ek, q _ H3 G3 [] ((PostE.scalar p3.at (.bl k)).after ((p1.gr.trans p2.gr).trans p3.gr))⟩
      · rename_i ef
        cases e
        refine ⟨_, _, false, ox.rd p2.gr.sub, p2.ok.rd p2.gr.sub, ef, false, rfl, ?_⟩
        rw [if_neg Bool.false_ne_true]
        exact q _ H2 G2 [] ((PostE.scalar p2.at (.bl false)).after (p1.gr.trans p2.gr))
      · cases e
theorem se_chain {op op' : CmpOp} {f f' : D → D → Option Bool} (ho : OpR X (compareOp op) (rD X.K f)) (ho' : OpR X (compareOp op') (rD X.K f')) (ha : SE X st a ma) (hb : SE X st b mb) (hc : SE X st c mc)
    (hm : lastMarks [op, op'] [b, c] = false := by with_unfolding_all rfl) : SE X st (.Compare a [op, op'] [b, c] pos) (mChain f f' ma mb mc) :=
  ⟨(pe_chain ho ho' ha.run hb.run hc.run hm).imp fun σ H Q h => chain_read h⟩

/-- a test's reading: a truth value -/
def tT (K : PySem.W.Frag) (st : Stm) (m : ME) : TT := fun σ H Q =>
  ∃ g s b s' G O, m g s = some (.t (.fz (.bool b)), s') ∧ St0 K st g s σ H G O ∧ ∀ H' G', Grow st H G H' G' → Strm st s' H' → Q b H'
structure ST (X : Cx) (st : Stm) (e : Expr) (m : ME) : Prop where
  run : PT X e (tT X.K st m)
theorem _root_.L2.PT.imp {X : Cx} {e : Expr} {t t' : TT} (h : PT X e t) (i : ∀ σ H Q, t' σ H Q → t σ H Q) : PT X e t' :=
  ⟨fun pins s σ H Q I q => h.run pins s σ H Q I (i σ H Q q)⟩
theorem tT_tE {K : PySem.W.Frag} {σ : Sg} {H : Hp} {Q : Bool → Hp → Prop} (h : tT K st m σ H Q) : tE K st m σ H fun x H' => ∃ c, x = .bl c ∧ Q c H' := by
  obtain ⟨g, s, b, s', G, O, e, z, q⟩ := h
  refine ⟨g, s, _, s', G, O, e, z, fun v H' G' F p => ⟨b, ?_, q H' G' p.gr p.strm⟩⟩
  have y : Ow K st G' H' v (.fz (.bool b)) F := p.ok
  cases y with
  | fz f => exact f.bl_inv
theorem st_val (h : SE X st e m) (he : ∀ whole, isTrue e X.env whole = (do let v ← whole; standAt e.pos; holding [v] (truthy v)) := by intro _; rfl) : ST X st e m :=
  ⟨(pt_val h.run he).imp fun σ H Q h => tT_tE h⟩
theorem st_chain {op op' : CmpOp} {f f' : D → D → Option Bool} (ho : OpR X (compareOp op) (rD X.K f)) (ho' : OpR X (compareOp op') (rD X.K f')) (ha : SE X st a ma) (hb : SE X st b mb) (hc : SE X st c mc)
    (hm : lastMarks [op, op'] [b, c] = false := by with_unfolding_all rfl) : ST X st (.Compare a [op, op'] [b, c] pos) (mChain f f' ma mb mc) :=
  ⟨(pt_chain ho ho' ha.run hb.run hc.run hm).imp fun σ H Q h => chain_read (tT_tE h)⟩
theorem st_cmp {op : CmpOp} {f : D → D → Option Bool} (ho : OpR X (compareOp op) (rD X.K f)) (ha : SE X st a ma) (hb : SE X st b mb) (hm : behindInMarks op b = false := by rfl) : ST X st (.Compare a [op] [b] pos) (mCmp f ma mb) := by
  refine ⟨(pt_cmpR ho ha.run hb.run hm).imp fun σ H Q h => ?_⟩
  have h' := tT_tE h
  refine two h' fun x y z s2 v u H2 G2 F F' ek t q => ?_
  unfold kC at ek
  obtain ⟨b, eb, rfl⟩ := Option.map_eq_some_iff.mp ek
  exact ⟨_, _, b, t.dx, t.dy, eb, q _ H2 G2 [] (.scalar t.at_ (.bl b))⟩
end
end DV

namespace DV
open PySem PySem.Spec PyProof.Rows L2

section
variable {X : Cx} {st : Stm} {a b c e : Expr} {ma mb mc m : ME} {pos : Pos} {es rest : List Expr}

structure SW (X : Cx) (st : Stm) (e : Expr) (m : ME) : Prop where
  run : PW X e (tT X.K st m)
theorem _root_.L2.PW.imp {X : Cx} {e : Expr} {t t' : TT} (h : PW X e t) (i : ∀ σ H Q, t' σ H Q → t σ H Q) : PW X e t' :=
  ⟨fun wh pins s σ H Q I q => h.run wh pins s σ H Q I (i σ H Q q)⟩
def mAnd (ma mb : ME) : ME := fun g s => match ma g s with
  | some (.t (.fz (.bool true)), s1) => mb g s1
  | some (.t (.fz (.bool false)), s1) => some (.t (.fz (.bool false)), s1)
  | _ => none
def mOr (ma mb : ME) : ME := fun g s => match ma g s with
  | some (.t (.fz (.bool false)), s1) => mb g s1
  | some (.t (.fz (.bool true)), s1) => some (.t (.fz (.bool true)), s1)
  | _ => none
def mNot (ma : ME) : ME := fun g s => match ma g s with
  | some (.t (.fz (.bool b)), s1) => some (.t (.fz (.bool (!b))), s1)
  | _ => none
def mIf (mc ma mb : ME) : ME := fun g s => match mc g s with
  | some (.t (.fz (.bool true)), s1) => ma g s1
  | some (.t (.fz (.bool false)), s1) => mb g s1
  | _ => none
theorem sw_pt (h : SW X st e m) : ST X st e m := ⟨h.run.pt⟩
theorem sw_and1 (h : ST X st a ma) : SW X st (.BoolOp .And [a] pos) ma := ⟨pw_and1 h.run⟩
theorem sw_or1 (h : ST X st a ma) : SW X st (.BoolOp .Or [a] pos) ma := ⟨pw_or1 h.run⟩
theorem sw_and (ha : ST X st a ma) (hb : SW X st (.BoolOp .And (b :: rest) pos) mb) : SW X st (.BoolOp .And (a :: b :: rest) pos) (mAnd ma mb) := by
  refine ⟨(pw_and ha.run hb.run).imp fun σ H Q ⟨g, s, k, s', G, O, e, z, q⟩ => ?_⟩
  unfold mAnd at e
  split at e
  · rename_i s1 ea
    refine ⟨g, s, true, s1, G, O, ea, z, fun H1 G1 gr q1 => ?_⟩
    refine iteT ?_
    exact ⟨g, s1, k, s', G1, O, e, z.grow gr q1, fun H2 G2 gr2 q2 => q H2 G2 (gr.trans gr2) q2⟩
  · rename_i s1 ea
    cases e
    refine ⟨g, s, false, _, G, O, ea, z, fun H1 G1 gr q1 => ?_⟩
    refine iteF ?_
    exact q H1 G1 gr q1
  · cases e
theorem sw_or (ha : ST X st a ma) (hb : SW X st (.BoolOp .Or (b :: rest) pos) mb) : SW X st (.BoolOp .Or (a :: b :: rest) pos) (mOr ma mb) := by
  refine ⟨(pw_or ha.run hb.run).imp fun σ H Q ⟨g, s, k, s', G, O, e, z, q⟩ => ?_⟩
  unfold mOr at e
  split at e
  · rename_i s1 ea
    refine ⟨g, s, false, s1, G, O, ea, z, fun H1 G1 gr q1 => ?_⟩
    refine iteF ?_
    exact ⟨g, s1, k, s', G1, O, e, z.grow gr q1, fun H2 G2 gr2 q2 => q H2 G2 (gr.trans gr2) q2⟩
  · rename_i s1 ea
    cases e
    refine ⟨g, s, true, _, G, O, ea, z, fun H1 G1 gr q1 => ?_⟩
    refine iteT ?_
    exact q H1 G1 gr q1
  · cases e
theorem st_not (ha : ST X st a ma) : ST X st (.UnaryOp .Not a pos) (mNot ma) := by
  refine ⟨(pt_not ha.run).imp fun σ H Q ⟨g, s, k, s', G, O, e, z, q⟩ => ?_⟩
  unfold mNot at e
  split at e
  · rename_i b s1 ea
    cases e
    exact ⟨g, s, b, _, G, O, ea, z, fun H1 G1 gr q1 => q H1 G1 gr q1⟩
  · cases e
/-- a bool's value has come -/
theorem PostE.bl {K : PySem.W.Frag} {s' : S} {v : V} {H H' G G' : Hp} {F : List Addr} {b : Bool} (p : PostE K st H G (.t (.fz (.bool b))) s' v H' G' F) : v = .bl b := by
  have y : Ow K st G' H' v (.fz (.bool b)) F := p.ok
  cases y with
  | fz f => exact f.bl_inv
theorem se_one {op} (h : SE X st a ma) : SE X st (.BoolOp op [a] pos) ma := ⟨pe_one h.run⟩
theorem se_and (ha : SE X st a ma) (hb : SE X st (.BoolOp .And (b :: rest) pos) mb) : SE X st (.BoolOp .And (a :: b :: rest) pos) (mAnd ma mb) := by
  refine ⟨(pe_and ha.run hb.run).imp fun σ H Q ⟨g, s, r, s', G, O, e, z, q⟩ => ?_⟩
  unfold mAnd at e
  split at e
  · rename_i s1 ea
    refine ⟨g, s, _, s1, G, O, ea, z, fun v H1 G1 F p => ⟨true, p.bl, ?_⟩⟩
    refine iteT ?_
    exact ⟨g, s1, r, s', G1, O, e, z.grow p.gr p.strm, fun v H2 G2 F p2 => q v H2 G2 F (p2.after p.gr)⟩
  · rename_i s1 ea
    cases e
    refine ⟨g, s, _, _, G, O, ea, z, fun v H1 G1 F p => ⟨false, p.bl, ?_⟩⟩
    refine iteF ?_
    exact q _ H1 G1 [] ((PostE.scalar p.at (.bl false)).after p.gr)
  · cases e
theorem se_or (ha : SE X st a ma) (hb : SE X st (.BoolOp .Or (b :: rest) pos) mb) : SE X st (.BoolOp .Or (a :: b :: rest) pos) (mOr ma mb) := by
  refine ⟨(pe_or ha.run hb.run).imp fun σ H Q ⟨g, s, r, s', G, O, e, z, q⟩ => ?_⟩
  unfold mOr at e
  split at e
  · rename_i s1 ea
    refine ⟨g, s, _, s1, G, O, ea, z, fun v H1 G1 F p => ⟨false, p.bl, ?_⟩⟩
    refine iteF ?_
    exact ⟨g, s1, r, s', G1, O, e, z.grow p.gr p.strm, fun v H2 G2 F p2 => q v H2 G2 F (p2.after p.gr)⟩
  · rename_i s1 ea
    cases e
    refine ⟨g, s, _, _, G, O, ea, z, fun v H1 G1 F p => ⟨true, p.bl, ?_⟩⟩
    refine iteT ?_
    exact q _ H1 G1 [] ((PostE.scalar p.at (.bl true)).after p.gr)
  · cases e
theorem se_not (ha : SE X st a ma) : SE X st (.UnaryOp .Not a pos) (mNot ma) := by
  refine ⟨(pe_not ha.run).imp fun σ H Q ⟨g, s, r, s', G, O, e, z, q⟩ => ?_⟩
  unfold mNot at e
  split at e
  · rename_i b s1 ea
    cases e
    exact ⟨g, s, _, _, G, O, ea, z, fun v H1 G1 F p => ⟨b, p.bl, q _ H1 G1 [] ((PostE.scalar p.at (.bl (!b))).after p.gr)⟩⟩
  · cases e
theorem se_if (hc : ST X st c mc) (ha : SE X st a ma) (hb : SE X st b mb) : SE X st (.IfExp c a b pos) (mIf mc ma mb) := by
  refine ⟨(pe_ifExp hc.run ha.run hb.run).imp fun σ H Q ⟨g, s, r, s', G, O, e, z, q⟩ => ?_⟩
  unfold mIf at e
  split at e
  · rename_i s1 ea
    refine ⟨g, s, true, s1, G, O, ea, z, fun H1 G1 gr q1 => ?_⟩
    refine iteT ?_
    exact ⟨g, s1, r, s', G1, O, e, z.grow gr q1, fun v H2 G2 F p2 => q v H2 G2 F (p2.after gr)⟩
  · rename_i s1 ea
    refine ⟨g, s, false, s1, G, O, ea, z, fun H1 G1 gr q1 => ?_⟩
    refine iteF ?_
    exact ⟨g, s1, r, s', G1, O, e, z.grow gr q1, fun v H2 G2 F p2 => q v H2 G2 F (p2.after gr)⟩
  · cases e
/-- -a -/
def mNeg (ma : ME) : ME := fun g s => match ma g s with
  | some (.t (.fz (.int i)), s1) => some (.t (.fz (.int (-i))), s1)
  | _ => none
theorem se_neg (ha : SE X st a ma) : SE X st (.UnaryOp .USub a pos) (mNeg ma) := by
  refine ⟨(pe_un un_neg ha.run).imp fun σ H Q ⟨g, s, r, s', G, O, e, z, q⟩ => ?_⟩
  unfold mNeg at e
  split at e
  · rename_i i s1 ea
    cases e
    refine ⟨g, s, _, _, G, O, ea, z, fun v H1 G1 F p => ?_⟩
    have y : Ow X.K st G1 H1 v (.fz (.int i)) F := p.ok
    cases y with
    | fz f => exact ⟨i, f.int_inv, q _ H1 G1 [] ((PostE.scalar p.at (.int (-i))).after p.gr)⟩
  · cases e

/-- all are one's own or data -/
def trs : List Rv → Option (List T)
  | [] => some []
  | .t t :: l => (trs l).map (t :: ·)
  | .tmp _ :: _ => none
theorem RvA.own {K : PySem.W.Frag} {G H : Hp} : ∀ {vs : List V} {rs : List Rv} {F : List Addr}, RvA K st G H vs rs F → ∀ {ts : List T}, trs rs = some ts → OwA K st G H vs ts F
  | _, _, _, .nil, ts, e => by cases e; exact .nil
  | _, _, _, @RvA.cons _ _ _ _ v r vs rs F F' h q, ts, e => by
    cases r with
    | tmp t => cases e
    | t t =>
      unfold trs at e
      obtain ⟨ts', e', rfl⟩ := Option.map_eq_some_iff.mp e
      exact .cons h (RvA.own q e')
theorem RvA.length {K : PySem.W.Frag} {G H : Hp} : ∀ {vs : List V} {rs : List Rv} {F : List Addr}, RvA K st G H vs rs F → vs.length = rs.length
  | _, _, _, .nil => rfl
  | _, _, _, .cons _ q => congrArg (· + 1) (RvA.length q)
theorem RvA.there {K : PySem.W.Frag} {G H : Hp} : ∀ {vs : List V} {rs : List Rv} {F : List Addr}, RvA K st G H vs rs F → ∀ a ∈ F, ¬ inS st a ∧ ∃ o, H a = some o ∧ ∀ x u, o ≠ .frz x u
  | _, _, _, .nil, a, h => by simp at h
  | _, _, _, .cons h q, a, ha => (List.mem_append.mp ha).elim (h.there a) (RvA.there q a)
theorem OwA.upd {K : PySem.W.Frag} {G H : Hp} {vs : List V} {ts : List T} {F : List Addr} {p : Addr} {o : HO} (h : OwA K st G H vs ts F) (n : H p = none) : OwA K st G (upd H p o) vs ts F :=
  OwA.keep (.refl G) h fun a _ u e => by rw [upd_ne (ne_of_none e n)]; exact e
theorem OwA.len {K : PySem.W.Frag} {G H : Hp} : ∀ {vs : List V} {ts : List T} {F : List Addr}, OwA K st G H vs ts F → vs.length = ts.length
  | _, _, _, .nil => rfl
  | _, _, _, .cons _ q => congrArg (· + 1) (OwA.len q)
def lenOk (n : Nat) : Bool := decide (n ≤ sizeLine)
def mTup (ms : MA) : ME := fun g s => match ms g s with
  | some (rs, s1) => match trs rs with
    | some ts => if lenOk ts.length then some (.t (.tup ts), s1) else none
    | none => none
  | none => none
def mLst (ms : MA) : ME := fun g s => match ms g s with
  | some (rs, s1) => match trs rs with
    | some ts => if lenOk ts.length then some (.t (.lst ts), s1) else none
    | none => none
  | none => none
theorem disp_post {K : PySem.W.Frag} {s1 : S} {H G H1 G1 : Hp} {vs : List V} {rs : List Rv} {ts : List T} {F : List Addr} (p : PostA K st H G rs s1 vs H1 G1 F) (e : trs rs = some ts) {q : Addr} (n : H1 q = none) :
    PostE K st H G (.t (.lst ts)) s1 (.ref q) (upd H1 q (.lst vs)) G1 (q :: F) ∧ PostE K st H G (.t (.tup ts)) s1 (.ref q) (upd H1 q (.tup vs)) G1 (q :: F) := by
  have at1 : At st s1 H1 G1 := ⟨p.gr.sub, p.gr.sg, p.strm⟩
  have ow := p.ok.own e
  have nq : q ∉ F := fun hq => by
    obtain ⟨_, o, h, _⟩ := p.ok.there q hq
    rw [n] at h; cases h
  have nd : (q :: F).Nodup := List.nodup_cons.mpr ⟨nq, p.nd⟩
  exact ⟨.newOw at1 n (.lst (at1.fresh_ns n) upd_same (ow.upd n)) nd p.ap p.gr, .newOw at1 n (.tup (at1.fresh_ns n) upd_same (ow.upd n)) nd p.ap p.gr⟩
theorem se_lst {ms : MA} (h : SA X st es ms) : SE X st (.List es pos) (mLst ms) := by
  refine ⟨(pe_lst h.run).imp fun σ H Q ⟨g, s, r, s', G, O, e, z, q⟩ => ?_⟩
  unfold mLst at e
  split at e
  · rename_i rs s1 ea
    split at e
    · rename_i ts et
      split at e
      · rename_i hl
        cases e
        refine ⟨g, s, rs, _, G, O, ea, z, fun vs H1 G1 F p => ⟨?_, fun a n => q _ _ _ _ (disp_post p et n).1⟩⟩
        rw [(p.ok.own et).len]
        exact of_decide_eq_true hl
      · cases e
    · cases e
  · cases e
theorem se_tup {ms : MA} {k : Nat} (h : SA X st es ms) : SE X st (.Tuple es k pos) (mTup ms) := by
  refine ⟨(pe_tup h.run).imp fun σ H Q ⟨g, s, r, s', G, O, e, z, q⟩ => ?_⟩
  unfold mTup at e
  split at e
  · rename_i rs s1 ea
    split at e
    · rename_i ts et
      split at e
      · rename_i hl
        cases e
        refine ⟨g, s, rs, _, G, O, ea, z, fun vs H1 G1 F p => ⟨?_, fun a n => q _ _ _ _ (disp_post p et n).2⟩⟩
        rw [(p.ok.own et).len]
        exact of_decide_eq_true hl
      · cases e
    · cases e
  · cases e
end
end DV

namespace DV
open PySem PySem.Spec PyProof.Rows L2

/-- frozen where it is one's own and no slot's -/
def mHz (m : ME) : ME := fun g s => match m g s with
  | some (.t t, s') => some (.t (.fz t.d), s')
  | r => r
def fzs : List T → Option (List D)
  | [] => some []
  | .fz d :: l => (fzs l).map (d :: ·)
  | _ :: _ => none
theorem fzs_map (ds : List D) : fzs (ds.map T.fz) = some ds := by
  induction ds with
  | nil => rfl
  | cons d ds ih => rw [List.map_cons, fzs, ih]; rfl

section
variable {X : Cx} {st : Stm} {a b c e : Expr} {ma mb mc m : ME} {pos : Pos} {es rest : List Expr}
theorem se_hz (h : SE X st e m) : SE X st e (mHz m) := by
  refine ⟨h.run.imp fun σ H Q ⟨g, s, r, s', G, O, e, z, q⟩ => ?_⟩
  unfold mHz at e
  split at e
  · rename_i t s1 em
    cases e
    refine ⟨g, s, _, _, G, O, em, z, fun v H' G' F p => ?_⟩
    obtain ⟨G2, _, _, p2⟩ := p.freeze
    exact q v H' G2 [] p2
  · exact ⟨g, s, r, s', G, O, e, z, q⟩

theorem OwA.get {K : PySem.W.Frag} {G H : Hp} : ∀ {vs : List V} {ts : List T} {F : List Addr}, OwA K st G H vs ts F → ∀ {i : Nat} {t : T}, ts[i]? = some t → ∃ v F', vs[i]? = some v ∧ Ow K st G H v t F' ∧ ∀ a ∈ F', a ∈ F
  | _, _, _, .nil, i, t, e => by simp at e
  | _, _, _, .cons h _, 0, t, e => by simp at e; subst e; exact ⟨_, _, rfl, h, fun a ha => List.mem_append_left _ ha⟩
  | _, _, _, .cons _ r, i + 1, t, e => by
    obtain ⟨v, F', e1, o, m⟩ := OwA.get r (i := i) (by simpa using e)
    exact ⟨v, F', by simpa using e1, o, fun a ha => List.mem_append_right _ (m a ha)⟩
theorem OwA.fzs {K : PySem.W.Frag} {G H : Hp} : ∀ {vs : List V} {ts : List T} {F : List Addr}, OwA K st G H vs ts F → ∀ {ds : List D}, DV.fzs ts = some ds → FzA K G vs ds
  | _, _, _, .nil, ds, e => by cases e; exact .nil
  | _, _, _, @OwA.cons _ _ _ _ v t vs ts F F' h r, ds, e => by
    cases t with
    | fz d =>
      unfold DV.fzs at e
      obtain ⟨ds', e', rfl⟩ := Option.map_eq_some_iff.mp e
      cases h with
      | fz f => exact .cons f (OwA.fzs r e')
    | _ => cases e

def tLook (l : List (D × T)) (k : D) : Option T := (l.find? fun p => PyData.eqv p.1 k).map (·.2)
def dIdx (d k : D) : Option D := match d, k with
  | .list ds, .int i => atI ds i
  | .tuple ds, .int i => atI ds i
  | .str z, .int i => if lenOk z.length then (atI z.cps.toList i).map fun c => .str ⟨#[c]⟩ else none
  | .dict l, .tuple ks => if (ksOf ks).isSome then dLook l (.tuple ks) else none
  | .dict l, k => if (kOf k).isSome then dLook l k else none
  | _, _ => none
def look (t : T) : Rv := match t with
  | .fz d => .t (.fz d)
  | t => .tmp t
def kIdx : Rv → Rv → Option Rv := fun x y => match x with
  | .t (.fz t) => (dIdx t y.d).map fun d => .t (.fz d)
  | .t _ => none
  | .tmp (.lst ts) => match y.d with
    | .int i => (atI ts i).map look
    | _ => none
  | .tmp (.tup ts) => match y.d with
    | .int i => (atI ts i).map look
    | _ => none
  | .tmp (.dic _ l) => match y.d with
    | .tuple ks => if (ksOf ks).isSome then (tLook l (.tuple ks)).map look else none
    | k => if (kOf k).isSome then (tLook l k).map look else none
  | .tmp (.fz _) => none

def rIxD : R2 := fun x y H Q => ∃ a v, x = .ref a ∧ DGet H a y (some v) ∧ Q v H
theorem ix_dict (hu : X.A.units + 1 < cLine) : IxR X rIxD := by
  intro value slice pins s σ H x y v u Q I rx ry ⟨a, w, ex, g, q⟩ hs
  subst ex
  obtain rfl : v = Value.ref a := rx
  have hT := dict_typeIs I g
  unfold subscriptTail
  refine wpAny_bind ?_
  rw [getitemInPython_of_ne hT.not_modules]
  refine wpAny_bind (wpAny_specialOf hT PySem.F.slot_dict_getitem.lookup ?_)
  have fin : wpAny (model X.prog X.w) X.A (subscripted slice false (.ref a) u) (fun r s₃ => wpAny (model X.prog X.w) X.A (letTemporaryGo value (.ref a) r >>= fun _ => pure r) (EP X pins σ Q) X.xe s₃) X.xe s := by
    rw [hs]
    exact wpAny_operating (wpAny_mono (d_getItem hu I g ry fun w' s3 I3 rw' => ⟨w, H, I3, rw', q⟩) (fun r s₃ h₃ => wpAny_bind (wpAny_letTemporaryGo (wpAny_pure h₃))) fun _ _ x => x)
  first
    | exact wpAny_pure (wpAny_bind fin)
    | exact wpAny_bind (wpAny_pure (wpAny_bind fin))
    | exact wpAny_bind fin
theorem atI_map {α β : Type} (f : α → β) (l : List α) (i : Int) : atI (l.map f) i = (atI l i).map f := by
  unfold atI
  rw [List.length_map]
  cases ixN l.length i with
  | none => rfl
  | some j => simp
theorem FzA.atI {K : PySem.W.Frag} {G : Hp} {vs : List V} {ds : List D} (h : FzA K G vs ds) {i : Int} {d : D} (e : atI ds i = some d) : ∃ v, L2.atI vs i = some v ∧ Fz K G v d := by
  unfold L2.atI at e ⊢
  rw [h.len]
  cases ej : ixN ds.length i with
  | none => rw [ej] at e; cases e
  | some j =>
    rw [ej] at e
    exact h.get e
theorem OwA.atI {K : PySem.W.Frag} {G H : Hp} {vs : List V} {ts : List T} {F : List Addr} (h : OwA K st G H vs ts F) {i : Int} {t : T} (e : L2.atI ts i = some t) : ∃ v F', L2.atI vs i = some v ∧ Ow K st G H v t F' ∧ ∀ a ∈ F', a ∈ F := by
  unfold L2.atI at e ⊢
  rw [h.len]
  cases ej : ixN ts.length i with
  | none => rw [ej] at e; cases e
  | some j =>
    rw [ej] at e
    exact h.get e
/-- a look at a part of a slot's own tree -/
theorem PostE.look {K : PySem.W.Frag} {s : S} {H G : Hp} {v : V} {t : T} {F : List Addr} (h : At st s H G) (f : Ow K st G H v t F) (ap : ∀ a ∈ F, G a = none) : PostE K st H G (look t) s v H G [] := by
  cases t with
  | fz d => cases f with | fz f => exact .scalar h f
  | lst l => exact .tmp h f ap
  | tup l => exact .tmp h f ap
  | dic k l => exact .tmp h f ap
theorem U_of_sub {G H : Hp} (sub : Sub G H) {a : Addr} {o : HO} (e : G a = some o) : U H a = some o := sub a o e
theorem key_cell {K : PySem.W.Frag} {H : Hp} {u : V} {ks : List D} (fu : Fz K (U H) u (.tuple ks)) (c : (ksOf ks).isSome = true) : ∃ b kk, ksOf ks = some kk ∧ u = .ref b ∧ H b = some (.tup (kk.map kV)) := by
  obtain ⟨kk, ek⟩ := Option.isSome_iff_exists.mp c
  obtain ⟨b, e1, e2⟩ := fu.key ek
  exact ⟨b, kk, ek, e1, e2⟩
def rIdx (K : PySem.W.Frag) : R2 := fun x y H Q => rIx K x y H Q ∨ rIxD x y H Q
theorem ix_all (hu : X.A.units + 1 < cLine) : IxR X (rIdx X.K) := IxR.or ix_seq (ix_dict hu)
theorem dlook_kt {K : PySem.W.Frag} {G : Hp} {k : List Key} : ∀ {kvs : List (Key × V)} {l : List (D × D)}, FzK K G kvs l → dLook l (keyTD k) = none
  | _, _, .nil => rfl
  | _, _, @FzK.cons _ _ k' v d vs ds h r => by
    unfold dLook
    rw [List.find?_cons_of_neg (by cases k' <;> simp [keyD, keyTD, PyData.eqv])]
    exact dlook_kt r
theorem dlook_tk {K : PySem.W.Frag} {G : Hp} {k : Key} : ∀ {kvs : List (List Key × V)} {l : List (D × D)}, FzT K G kvs l → dLook l (keyD k) = none
  | _, _, .nil => rfl
  | _, _, @FzT.cons _ _ k' v d vs ds h r => by
    unfold dLook
    rw [List.find?_cons_of_neg (by cases k <;> simp [keyD, keyTD, PyData.eqv])]
    exact dlook_tk r
/-- what a frozen thing holds at a key -/
theorem idx_fz {K : PySem.W.Frag} {s : S} {H G : Hp} {v u : V} {d k w : D} (h : At st s H G) (fv : Fz K G v d) (fu : Fz K (U H) u k) (e : dIdx d k = some w) :
    ∃ y, Fz K G y w ∧ ∀ Q : VK, Q y H → rIdx K v u H Q := by
  unfold dIdx at e
  split at e
  · cases fu
    cases fv with
    | lst c r =>
      obtain ⟨y, e1, fy⟩ := r.atI e
      exact ⟨y, fy, fun Q q => .inl (.inl ⟨_, _, _, y, rfl, rfl, .inl (.inl (U_lst (h.sub _ _ c))), e1, q⟩)⟩
  · cases fu
    cases fv with
    | tup c r =>
      obtain ⟨y, e1, fy⟩ := r.atI e
      exact ⟨y, fy, fun Q q => .inl (.inr (.inl ⟨_, _, _, y, rfl, rfl, .inl (.inl (U_tup (h.sub _ _ c))), e1, q⟩))⟩
  · cases fu
    cases fv
    split at e
    · rename_i hl
      obtain ⟨c, ec, rfl⟩ := Option.map_eq_some_iff.mp e
      exact ⟨_, .str _, fun Q q => .inl (.inr (.inr ⟨_, _, c, rfl, rfl, of_decide_eq_true hl, ec, q⟩))⟩
    · cases e
  · rename_i l ks
    split at e
    · rename_i hc
      obtain ⟨b, kk, ek, rfl, hb⟩ := key_cell fu hc
      rw [keyTD_of ek] at e
      cases fv with
      | dk c f =>
        rw [dlook_kt f] at e; cases e
      | dt c f ne =>
        rcases look_t (k := kk) f with ⟨y, d, e1, e2, fy⟩ | ⟨e1, e2⟩
        · rw [e2] at e; cases e
          exact ⟨y, fy, fun Q q => .inr ⟨_, y, rfl, .inr ⟨_, kk, b, U_dT (h.sub _ _ c), rfl, hb, e1.symm⟩, q⟩⟩
        · rw [e2] at e; cases e
    · cases e
  · rename_i l k0 hk
    split at e
    · rename_i hc
      obtain ⟨kk, ek⟩ := Option.isSome_iff_exists.mp hc
      rw [kOf_some ek] at e fu
      cases fu.keyV
      cases fv with
      | dk c f =>
        rcases look_k (k := kk) f with ⟨y, d, e1, e2, fy⟩ | ⟨e1, e2⟩
        · rw [e2] at e; cases e
          exact ⟨y, fy, fun Q q => .inr ⟨_, y, rfl, .inl ⟨_, kk, U_dK (h.sub _ _ c), rfl, e1.symm⟩, q⟩⟩
        · rw [e2] at e; cases e
      | dt c f ne =>
        rw [dlook_tk f] at e; cases e
    · cases e
  · cases e
theorem tlook_k {K : PySem.W.Frag} {G H : Hp} {k : Key} : ∀ {kvs : List (Key × V)} {l : List (D × T)} {F : List Addr}, OwK K st G H kvs l F → ∀ {t : T}, tLook l (keyD k) = some t →
    ∃ v F', valV kvs k = some v ∧ Ow K st G H v t F' ∧ ∀ a ∈ F', a ∈ F
  | _, _, _, .nil, t, e => by cases e
  | _, _, _, @OwK.cons _ _ _ _ k' v t' vs ds F F' h r, t, e => by
    by_cases ek : k' = k
    · subst ek
      unfold tLook at e
      rw [List.find?_cons_of_pos (by simp [eqv_key])] at e
      cases e
      exact ⟨v, _, valV_pos rfl, h, fun a ha => List.mem_append_left _ ha⟩
    · unfold tLook at e
      rw [List.find?_cons_of_neg (by simp [eqv_key, ek])] at e
      obtain ⟨w, F'', e1, o, m⟩ := tlook_k r (t := t) e
      exact ⟨w, F'', by rw [valV_neg ek]; exact e1, o, fun a ha => List.mem_append_right _ (m a ha)⟩
theorem tlook_t {K : PySem.W.Frag} {G H : Hp} {k : List Key} : ∀ {kvs : List (List Key × V)} {l : List (D × T)} {F : List Addr}, OwT K st G H kvs l F → ∀ {t : T}, tLook l (keyTD k) = some t →
    ∃ v F', valV kvs k = some v ∧ Ow K st G H v t F' ∧ ∀ a ∈ F', a ∈ F
  | _, _, _, .nil, t, e => by cases e
  | _, _, _, @OwT.cons _ _ _ _ k' v t' vs ds F F' h r, t, e => by
    by_cases ek : k' = k
    · subst ek
      unfold tLook at e
      rw [List.find?_cons_of_pos (by simp [eqv_keyT])] at e
      cases e
      exact ⟨v, _, valV_pos rfl, h, fun a ha => List.mem_append_left _ ha⟩
    · unfold tLook at e
      rw [List.find?_cons_of_neg (by simp [eqv_keyT, ek])] at e
      obtain ⟨w, F'', e1, o, m⟩ := tlook_t r (t := t) e
      exact ⟨w, F'', by rw [valV_neg ek]; exact e1, o, fun a ha => List.mem_append_right _ (m a ha)⟩
theorem tlook_kt {K : PySem.W.Frag} {G H : Hp} {k : List Key} : ∀ {kvs : List (Key × V)} {l : List (D × T)} {F : List Addr}, OwK K st G H kvs l F → tLook l (keyTD k) = none
  | _, _, _, .nil => rfl
  | _, _, _, @OwK.cons _ _ _ _ k' v t' vs ds F F' h r => by
    unfold tLook
    rw [List.find?_cons_of_neg (by cases k' <;> simp [keyD, keyTD, PyData.eqv])]
    exact tlook_kt r
theorem tlook_tk {K : PySem.W.Frag} {G H : Hp} {k : Key} : ∀ {kvs : List (List Key × V)} {l : List (D × T)} {F : List Addr}, OwT K st G H kvs l F → tLook l (keyD k) = none
  | _, _, _, .nil => rfl
  | _, _, _, @OwT.cons _ _ _ _ k' v t' vs ds F F' h r => by
    unfold tLook
    rw [List.find?_cons_of_neg (by cases k <;> simp [keyD, keyTD, PyData.eqv])]
    exact tlook_tk r
def mIdx (ma mb : ME) : ME := m2 (mHz ma) mb kIdx
theorem se_idx (hu : X.A.units + 1 < cLine) (ha : SE X st a ma) (hb : SE X st b mb) (hs : PlainIx b := by exact fun _ _ => rfl) : SE X st (.Subscript a b pos) (mIdx ma mb) := by
  refine ⟨(pe_ix (ix_all hu) (se_hz ha).run hb.run hs).imp fun σ H Q h => ?_⟩
  refine two h fun x y z s2 v u H2 G2 F F' ek t q => ?_
  have fu := t.dy
  cases x with
  | t tr =>
    cases tr with
    | fz d =>
      unfold kIdx at ek
      obtain ⟨w, ew, rfl⟩ := Option.map_eq_some_iff.mp ek
      have ow : Ow X.K st G2 H2 v (.fz d) F := t.ox
      cases ow with
      | fz f =>
        obtain ⟨y', fy, r⟩ := idx_fz t.at_ f fu ew
        exact r Q (q y' H2 G2 [] (.scalar t.at_ fy))
    | _ => cases ek
  | tmp tr =>
    obtain ⟨rfl, F1, ow, ap⟩ : F = [] ∧ ∃ F', Ow X.K st G2 H2 v tr F' ∧ ∀ a ∈ F', G2 a = none := t.ox
    unfold kIdx at ek
    cases ow with
    | fz f => cases ek
    | lst ni e r =>
      simp only at ek
      split at ek
      · rename_i i ei
        rw [ei] at fu; cases fu
        obtain ⟨c, ec, rfl⟩ := Option.map_eq_some_iff.mp ek
        obtain ⟨w, F', e1, o, m⟩ := r.atI ec
        exact .inl (.inl ⟨_, _, _, w, rfl, rfl, .inl (.inl e), e1, q w H2 G2 [] (.look t.at_ o fun a ha => ap a (List.mem_cons_of_mem _ (m a ha)))⟩)
      · cases ek
    | tup ni e r =>
      simp only at ek
      split at ek
      · rename_i i ei
        rw [ei] at fu; cases fu
        obtain ⟨c, ec, rfl⟩ := Option.map_eq_some_iff.mp ek
        obtain ⟨w, F', e1, o, m⟩ := r.atI ec
        exact .inl (.inr (.inl ⟨_, _, _, w, rfl, rfl, .inl (.inl e), e1, q w H2 G2 [] (.look t.at_ o fun a ha => ap a (List.mem_cons_of_mem _ (m a ha)))⟩))
      · cases ek
    | dk ni e r =>
      simp only at ek
      split at ek
      · rename_i ks ey
        rw [ey] at fu
        split at ek
        · rename_i hc
          obtain ⟨b, kk, ek2, rfl, hb⟩ := key_cell fu hc
          rw [keyTD_of ek2, tlook_kt r] at ek; cases ek
        · cases ek
      · split at ek
        · rename_i hc
          obtain ⟨kk, ek2⟩ := Option.isSome_iff_exists.mp hc
          rw [kOf_some ek2] at ek fu
          cases fu.keyV
          obtain ⟨c, ec, rfl⟩ := Option.map_eq_some_iff.mp ek
          obtain ⟨w, F', e1, o, m⟩ := tlook_k r ec
          exact .inr ⟨_, w, rfl, .inl ⟨_, kk, .inl e, rfl, e1.symm⟩, q w H2 G2 [] (.look t.at_ o fun a ha => ap a (List.mem_cons_of_mem _ (m a ha)))⟩
        · cases ek
    | dt ni e r ne =>
      simp only at ek
      split at ek
      · rename_i ks ey
        rw [ey] at fu
        split at ek
        · rename_i hc
          obtain ⟨b, kk, ek2, rfl, hb⟩ := key_cell fu hc
          rw [keyTD_of ek2] at ek
          obtain ⟨c, ec, rfl⟩ := Option.map_eq_some_iff.mp ek
          obtain ⟨w, F', e1, o, m⟩ := tlook_t r ec
          exact .inr ⟨_, w, rfl, .inr ⟨_, kk, b, .inl e, rfl, hb, e1.symm⟩, q w H2 G2 [] (.look t.at_ o fun a ha => ap a (List.mem_cons_of_mem _ (m a ha)))⟩
        · cases ek
      · split at ek
        · rename_i hc
          obtain ⟨kk, ek2⟩ := Option.isSome_iff_exists.mp hc
          rw [kOf_some ek2, tlook_tk r] at ek; cases ek
        · cases ek
end
end DV

namespace DV
open PySem PySem.Spec PyProof.Rows L2
section
variable {X : Cx} {st : Stm} {a b c e : Expr} {ma mb mc m : ME} {pos p2 : Pos} {es rest : List Expr}
abbrev MO := Gm → S → Option (Option Int × S)
def moNo : MO := fun _ s => some (none, s)
def moSome (m : ME) : MO := fun g s => match m g s with
  | some (.t (.fz (.int i)), s') => some (some i, s')
  | _ => none
def tO (K : PySem.W.Frag) (st : Stm) (m : MO) : TO := fun σ H Q =>
  ∃ g s o s' G O, m g s = some (o, s') ∧ St0 K st g s σ H G O ∧ ∀ H' G', Grow st H G H' G' → Strm st s' H' → Q o H'
structure SO (X : Cx) (st : Stm) (e : Option Expr) (m : MO) : Prop where
  run : PO X e (tO X.K st m)
theorem _root_.L2.PO.imp {X : Cx} {e : Option Expr} {t t' : TO} (h : PO X e t) (i : ∀ σ H Q, t' σ H Q → t σ H Q) : PO X e t' :=
  ⟨fun pins s σ H Q I q => h.run pins s σ H Q I (i σ H Q q)⟩
theorem so_none : SO X st none moNo := ⟨po_none.imp fun σ H Q ⟨g, s, o, s', G, O, e, z, q⟩ => by cases e; exact q H G z.at.grow z.strm⟩
theorem so_some (h : SE X st e m) : SO X st (some e) (moSome m) := by
  refine ⟨(po_some h.run).imp fun σ H Q ⟨g, s, o, s', G, O, e, z, q⟩ => ?_⟩
  unfold moSome at e
  split at e
  · rename_i i s1 em
    cases e
    refine ⟨g, s, _, _, G, O, em, z, fun v H' G' F p => ?_⟩
    have y : Ow X.K st G' H' v (.fz (.int i)) F := p.ok
    cases y with
    | fz f => exact ⟨i, f.int_inv, q H' G' p.gr p.strm⟩
  · cases e

def cutD {α : Type} (xs : List α) (lo hi : Option Int) : List α := (xs.drop (HT.sIx xs.length 0 lo)).take (HT.sIx xs.length xs.length hi - HT.sIx xs.length 0 lo)
theorem FzA.drop {K : PySem.W.Frag} {G : Hp} : ∀ (n : Nat) {vs : List V} {ds : List D}, FzA K G vs ds → FzA K G (vs.drop n) (ds.drop n)
  | 0, _, _, h => h
  | n + 1, _, _, .nil => .nil
  | n + 1, _, _, .cons _ r => FzA.drop n r
theorem FzA.take {K : PySem.W.Frag} {G : Hp} : ∀ (n : Nat) {vs : List V} {ds : List D}, FzA K G vs ds → FzA K G (vs.take n) (ds.take n)
  | 0, _, _, _ => .nil
  | n + 1, _, _, .nil => .nil
  | n + 1, _, _, .cons h r => .cons h (FzA.take n r)
theorem FzA.cut {K : PySem.W.Frag} {G : Hp} {vs : List V} {ds : List D} (h : FzA K G vs ds) (lo hi : Option Int) : FzA K G (cutV vs lo hi) (cutD ds lo hi) := by
  unfold cutV cutD
  rw [h.len]
  exact FzA.take _ (FzA.drop _ h)
theorem FzA.append {K : PySem.W.Frag} {G : Hp} : ∀ {vs us : List V} {ds es : List D}, FzA K G vs ds → FzA K G us es → FzA K G (vs ++ us) (ds ++ es)
  | _, _, _, _, .nil, r => r
  | _, _, _, _, .cons h t, r => .cons h (FzA.append t r)
theorem FzA.reverse {K : PySem.W.Frag} {G : Hp} : ∀ {vs : List V} {ds : List D}, FzA K G vs ds → FzA K G vs.reverse ds.reverse
  | _, _, .nil => .nil
  | _, _, .cons h r => by
    rw [List.reverse_cons, List.reverse_cons]
    exact FzA.append (FzA.reverse r) (.cons h .nil)
theorem FzA.toOw {K : PySem.W.Frag} {G H : Hp} : ∀ {vs : List V} {ds : List D}, FzA K G vs ds → OwA K st G H vs (ds.map T.fz) []
  | _, _, .nil => .nil
  | _, _, .cons h r => .cons (F := []) (F' := []) (.fz h) (FzA.toOw r)
/-- a new list of frozen items -/
theorem PostE.newL {K : PySem.W.Frag} {s : S} {H G : Hp} (h : At st s H G) {p : Addr} {vs : List V} {ds : List D} (n : H p = none) (f : FzA K G vs ds) :
    PostE K st H G (.t (.lst (ds.map T.fz))) s (.ref p) (upd H p (.lst vs)) G [p] :=
  .newOw h n (.lst (h.fresh_ns n) upd_same f.toOw) (by simp) (fun a ha => by simp at ha) h.grow
theorem PostE.newT {K : PySem.W.Frag} {s : S} {H G : Hp} (h : At st s H G) {p : Addr} {vs : List V} {ds : List D} (n : H p = none) (f : FzA K G vs ds) :
    PostE K st H G (.t (.tup (ds.map T.fz))) s (.ref p) (upd H p (.tup vs)) G [p] :=
  .newOw h n (.tup (h.fresh_ns n) upd_same f.toOw) (by simp) (fun a ha => by simp at ha) h.grow
/-- the frozen items of a list, of a tuple -/
def lstOf : Rv → Option (List D)
  | .t (.fz (.list ds)) => some ds
  | .tmp (.lst ts) => fzs ts
  | _ => none
def tupOf : Rv → Option (List D)
  | .t (.fz (.tuple ds)) => some ds
  | .tmp (.tup ts) => fzs ts
  | _ => none
theorem lst_of {K : PySem.W.Frag} {s : S} {H G : Hp} {v : V} {r : Rv} {F : List Addr} (h : At st s H G) (o : RvOk K st G H v r F) {ds : List D} (e : lstOf r = some ds) :
    ∃ a vs, v = .ref a ∧ H a = some (.lst vs) ∧ FzA K G vs ds := by
  cases r with
  | t t =>
    cases t with
    | fz d =>
      cases d with
      | list l =>
        cases e
        have y : Ow K st G H v (.fz (.list ds)) F := o
        cases y with
        | fz f => cases f with | lst c r => exact ⟨_, _, rfl, U_lst (h.sub _ _ c), r⟩
      | _ => cases e
    | _ => cases e
  | tmp t =>
    cases t with
    | lst ts =>
      obtain ⟨_, F', y, _⟩ := o
      cases y with
      | lst ni c r => exact ⟨_, _, rfl, c, r.fzs e⟩
    | _ => cases e
theorem tup_of {K : PySem.W.Frag} {s : S} {H G : Hp} {v : V} {r : Rv} {F : List Addr} (h : At st s H G) (o : RvOk K st G H v r F) {ds : List D} (e : tupOf r = some ds) :
    ∃ a vs, v = .ref a ∧ H a = some (.tup vs) ∧ FzA K G vs ds := by
  cases r with
  | t t =>
    cases t with
    | fz d =>
      cases d with
      | tuple l =>
        cases e
        have y : Ow K st G H v (.fz (.tuple ds)) F := o
        cases y with
        | fz f => cases f with | tup c r => exact ⟨_, _, rfl, U_tup (h.sub _ _ c), r⟩
      | _ => cases e
    | _ => cases e
  | tmp t =>
    cases t with
    | tup ts =>
      obtain ⟨_, F', y, _⟩ := o
      cases y with
      | tup ni c r => exact ⟨_, _, rfl, c, r.fzs e⟩
    | _ => cases e

/-- a slice of a list or a tuple; of a tuple it is data (the whole of it is itself) -/
def kSl (x : Rv) (lo hi : Option Int) : Option Rv := match lstOf x with
  | some ds => some (.t (.lst ((cutD ds lo hi).map T.fz)))
  | none => match x with
    | .t (.fz (.tuple ds)) => some (.t (.fz (.tuple (cutD ds lo hi))))
    | _ => none
def mSl (ma : ME) (ml mh : MO) : ME := fun g s => match mHz ma g s with
  | none => none
  | some (x, s1) => match ml g s1 with
    | none => none
    | some (lo, s2) => match mh g s2 with
      | none => none
      | some (hi, s3) => (kSl x lo hi).map fun r => (r, s3)
theorem cut_whole {α : Type} (xs : List α) (lo hi : Option Int) (h : HT.sIx xs.length 0 lo = 0 ∧ HT.sIx xs.length xs.length hi = xs.length) : cutD xs lo hi = xs := by
  unfold cutD
  rw [h.1, h.2]
  simp
theorem se_sl {lo hi : Option Expr} {ml mh : MO} (ha : SE X st a ma) (hl : SO X st lo ml) (hh : SO X st hi mh) : SE X st (.Subscript a (.Slice lo hi none p2) pos) (mSl ma ml mh) := by
  refine ⟨(pe_slice (SlR.or sl_list sl_tupA) (se_hz ha).run hl.run hh.run).imp fun σ H Q ⟨g, s, r, s', G, O, e, z, q⟩ => ?_⟩
  unfold mSl at e
  split at e
  · cases e
  · rename_i x s1 ea
    split at e
    · cases e
    · rename_i l s2 el
      split at e
      · cases e
      · rename_i h s3 eh
        obtain ⟨w, ew, hw⟩ := Option.map_eq_some_iff.mp e
        cases hw
        refine ⟨g, s, x, s1, G, O, ea, z, fun v H1 G1 F p => ?_⟩
        refine ⟨g, s1, l, s2, G1, O, el, z.grow p.gr p.strm, fun H2 G2 gr2 q2 => ?_⟩
        refine ⟨g, s2, h, _, G2, O, eh, (z.grow p.gr p.strm).grow gr2 q2, fun H3 G3 gr3 q3 => ?_⟩
        have gr := (p.gr.trans gr2).trans gr3
        have at3 : At st s' H3 G3 := ⟨gr3.sub, gr3.sg, q3⟩
        have ok := (p.ok.keep gr2).keep gr3
        unfold kSl at ew
        split at ew
        · rename_i ds eds
          cases ew
          obtain ⟨a, vs, rfl, sq, f⟩ := lst_of at3 ok eds
          exact .inl ⟨a, vs, rfl, .inl (.inl sq), fun c n => q _ _ _ _ ((PostE.newL at3 n (f.cut l h)).after gr)⟩
        · split at ew
          · rename_i ds _
            cases ew
            have y : Ow X.K st G3 H3 v (.fz (.tuple ds)) F := ok
            cases y with
            | fz f =>
              cases f with
              | @tup a vs _ c r =>
                refine .inr ⟨a, vs, rfl, .inl (.inl (U_tup (at3.sub _ _ c))), fun hwh => ?_, fun _ c' n => ?_⟩
                · rw [r.len] at hwh
                  rw [cut_whole ds l h hwh] at q
                  exact q _ _ _ _ ((PostE.scalar at3 (.tup c r)).after gr)
                · exact q _ _ _ _ ((PostE.newFz at3 n (fun _ _ z => by cases z) (.tup upd_same (FzA.mono (at3.grow_upd2 (o := .tup (cutV vs l h)) n (fun _ _ z => by cases z)).le (r.cut l h)))).after gr)
          · cases ew
/-- xs[::-1] -/
def mRevL (ma : ME) : ME := fun g s => match mHz ma g s with
  | none => none
  | some (x, s1) => (lstOf x).map fun ds => (.t (.lst (ds.reverse.map T.fz)), s1)
theorem se_revL {k : Nat} {p1 p2 p3 : Pos} (ha : SE X st a ma) : SE X st (.Subscript a (.Slice none none (some (.UnaryOp .USub (.Constant (.int 1) k p1) p2)) p3) pos) (mRevL ma) := by
  refine ⟨(pe_revL (se_hz ha).run).imp fun σ H Q ⟨g, s, r, s', G, O, e, z, q⟩ => ?_⟩
  unfold mRevL at e
  split at e
  · cases e
  · rename_i x s1 ea
    obtain ⟨ds, ed, hw⟩ := Option.map_eq_some_iff.mp e
    cases hw
    refine ⟨g, s, x, _, G, O, ea, z, fun v H1 G1 F p => ?_⟩
    obtain ⟨a, vs, rfl, sq, f⟩ := lst_of p.at p.ok ed
    exact ⟨a, vs, rfl, .inl (.inl sq), fun c n => q _ _ _ _ ((PostE.newL p.at n f.reverse).after p.gr)⟩

def seqOf (r : Rv) : Option (List D) := match lstOf r with
  | some ds => some ds
  | none => tupOf r
def mStar (m : ME) (ms : MA) : MA := fun g s => match mHz m g s with
  | none => none
  | some (r, s1) => match seqOf r with
    | none => none
    | some ds => match ms g s1 with
      | none => none
      | some (rs, s2) => some (ds.map (fun d => .t (.fz d)) ++ rs, s2)
theorem RvA.data {K : PySem.W.Frag} {G H : Hp} {us : List V} {rs : List Rv} {F : List Addr} (h : RvA K st G H us rs F) : ∀ {vs : List V} {ds : List D}, FzA K G vs ds → RvA K st G H (vs ++ us) (ds.map (fun d => Rv.t (.fz d)) ++ rs) F
  | _, _, .nil => h
  | _, _, .cons f r => RvA.cons (F := []) (.fz f) (RvA.data h r)
theorem seq_of {K : PySem.W.Frag} {s : S} {H G : Hp} {v : V} {r : Rv} {F : List Addr} (h : At st s H G) (o : RvOk K st G H v r F) {ds : List D} (e : seqOf r = some ds) :
    ∃ a vs, v = .ref a ∧ (SqT K H a vs ∨ SqL K H a vs) ∧ FzA K G vs ds := by
  unfold seqOf at e
  split at e
  · rename_i l el
    cases e
    obtain ⟨a, vs, e1, sq, f⟩ := lst_of h o el
    exact ⟨a, vs, e1, .inr (.inl (.inl sq)), f⟩
  · obtain ⟨a, vs, e1, sq, f⟩ := tup_of h o e
    exact ⟨a, vs, e1, .inl (.inl (.inl sq)), f⟩
theorem sa_star {ms : MA} {p : Pos} (h : SE X st e m) (hr : SA X st es ms) (hs : starEach (.Starred e p :: es) X.env = (true, eval e X.env) :: starEach es X.env := by rfl) : SA X st (.Starred e p :: es) (mStar m ms) := by
  refine ⟨(StX.pa_star (se_hz h).run hr.run hs).imp fun σ H Q ⟨g, s, rs, s', G, O, e, z, q⟩ => ?_⟩
  unfold mStar at e
  split at e
  · cases e
  · rename_i x s1 ea
    split at e
    · cases e
    · rename_i ds ed
      split at e
      · cases e
      · rename_i rs' s2 er
        cases e
        refine ⟨g, s, x, s1, G, O, ea, z, fun v H1 G1 F p => ?_⟩
        obtain ⟨a, vs, rfl, sq, f⟩ := seq_of p.at p.ok ed
        refine ⟨a, vs, rfl, sq, g, s1, rs', _, G1, O, er, z.grow p.gr p.strm, fun us H2 G2 F' p2 => ?_⟩
        refine q _ H2 G2 F' ⟨p.gr.trans p2.gr, p2.ok.data (f.mono p2.gr.le), p2.nd, fun a ha => ⟨p.gr.back a (p2.ap a ha).1, (p2.ap a ha).2⟩, p2.strm⟩
end
end DV

namespace DV
open PySem PySem.Spec PyProof.Rows L2

inductive Out where
  | nx | rt (t : T) | bk | ct
abbrev MSt := Gm → S → Option (Out × Gm × S)

/-- what has moved between two states of a body -/
structure Mv (st : Stm) (H G : Hp) (O : List Addr) (H' G' : Hp) (O' : List Addr) : Prop where
  le : Le G G'
  same : ∀ a o, ¬ inS st a → a ∉ O → H a = some o → H' a = some o
  new : ∀ a, G a = none → G' a ≠ none → a ∈ O ∨ H a = none
  own : ∀ a ∈ O', a ∈ O ∨ H a = none
  back : ∀ a, H' a = none → H a = none
section
variable {st : Stm} {H G H1 G1 H2 G2 : Hp} {O O1 O2 : List Addr}
theorem Mv.refl : Mv st H G O H G O := ⟨.refl G, fun _ _ _ _ h => h, fun _ h n => absurd h n, fun _ h => .inl h, fun _ h => h⟩
theorem Mv.trans (a : Mv st H G O H1 G1 O1) (b : Mv st H1 G1 O1 H2 G2 O2) : Mv st H G O H2 G2 O2 where
  le := a.le.trans b.le
  same := fun x o n hx h => b.same x o n (fun hm => (a.own x hm).elim hx fun e => by rw [h] at e; cases e) (a.same x o n hx h)
  new := fun x h n => by
    cases e : G1 x with
    | none => exact (b.new x e n).elim (a.own x) fun z => .inr (a.back x z)
    | some o => exact a.new x h (by rw [e]; exact fun z => by cases z)
  own := fun x hm => (b.own x hm).elim (a.own x) fun z => .inr (a.back x z)
  back := fun x h => a.back x (b.back x h)
theorem Grow.mv (g : Grow st H G H1 G1) : Mv st H G O H1 G1 O := ⟨g.le, fun a o n _ h => g.same a o n h, fun a h n => .inr (g.new a h n), fun _ h => .inl h, g.back⟩
end

/-- what is wanted behind a statement, from (H, G, O) on -/
def EndQ (K : PySem.W.Frag) (st : Stm) (D : Ends) (H G : Hp) (O : List Addr) (g' : Gm) (s' : S) : Out → Prop
  | .nx => ∀ σ' H' G' O', Mv st H G O H' G' O' → St0 K st g' s' σ' H' G' O' → D.nx σ' H'
  | .bk => ∀ σ' H' G' O', Mv st H G O H' G' O' → St0 K st g' s' σ' H' G' O' → D.bk σ' H'
  | .ct => ∀ σ' H' G' O', Mv st H G O H' G' O' → St0 K st g' s' σ' H' G' O' → D.ct σ' H'
  | .rt t => ∀ v H' G' F, Mv st H G O H' G' F → At st s' H' G' → Ow K st G' H' v t F → F.Nodup → (∀ a ∈ F, G' a = none) → D.rt v H'
theorem EndQ.mv {K : PySem.W.Frag} {st : Stm} {D : Ends} {H G H1 G1 : Hp} {O O1 : List Addr} {g' : Gm} {s' : S} {o : Out} (m : Mv st H G O H1 G1 O1) (q : EndQ K st D H G O g' s' o) : EndQ K st D H1 G1 O1 g' s' o := by
  cases o with
  | nx => exact fun σ2 H2 G2 O2 v2 z2 => q σ2 H2 G2 O2 (m.trans v2) z2
  | bk => exact fun σ2 H2 G2 O2 v2 z2 => q σ2 H2 G2 O2 (m.trans v2) z2
  | ct => exact fun σ2 H2 G2 O2 v2 z2 => q σ2 H2 G2 O2 (m.trans v2) z2
  | rt t => exact fun v H2 G2 F v2 a2 o2 nd ap => q v H2 G2 F (m.trans v2) a2 o2 nd ap
def tS (K : PySem.W.Frag) (st : Stm) (m : MSt) : TS := fun D σ H =>
  ∃ g s o g' s' G O, m g s = some (o, g', s') ∧ St0 K st g s σ H G O ∧ EndQ K st D H G O g' s' o
structure SS (X : Cx) (st : Stm) (e : Stmt) (m : MSt) : Prop where
  run : PS X e (tS X.K st m)
structure SB (X : Cx) (st : Stm) (e : List Stmt) (m : MSt) : Prop where
  run : PSs X e (tS X.K st m)
theorem _root_.L2.PS.imp {X : Cx} {e : Stmt} {t t' : TS} (h : PS X e t) (i : ∀ D σ H, t' D σ H → t D σ H) : PS X e t' :=
  ⟨fun pins s σ H D I q => h.run pins s σ H D I (i D σ H q)⟩
theorem _root_.L2.PSs.imp {X : Cx} {e : List Stmt} {t t' : TS} (h : PSs X e t) (i : ∀ D σ H, t' D σ H → t D σ H) : PSs X e t' :=
  ⟨fun pins s σ H D I q => h.run pins s σ H D I (i D σ H q)⟩

section
variable {X : Cx} {st : Stm} {a b c e : Expr} {ma mb mc m : ME} {pos : Pos} {es : List Expr} {x : Stmt} {xs ys : List Stmt} {n n1 n2 : MSt}
def mNx : MSt := fun g s => some (.nx, g, s)
def mSeq (m1 m2 : MSt) : MSt := fun g s => match m1 g s with
  | some (.nx, g1, s1) => m2 g1 s1
  | r => r
theorem sb_nil : SB X st [] mNx := ⟨pss_nil.imp fun D σ H ⟨g, s, o, g', s', G, O, e, z, q⟩ => by
  cases e
  exact q σ H G O .refl z⟩
theorem sb_one (h : SS X st x n) : SB X st [x] n := ⟨pss_one h.run⟩
theorem sb_cons (h1 : SS X st x n1) (h2 : SB X st xs n2) : SB X st (x :: xs) (mSeq n1 n2) := by
  refine ⟨(pss_cons h1.run h2.run).imp fun D σ H ⟨g, s, o, g', s', G, O, e, z, q⟩ => ?_⟩
  unfold mSeq at e
  split at e
  · rename_i g1 s1 e1
    refine ⟨g, s, .nx, g1, s1, G, O, e1, z, fun σ1 H1 G1 O1 v1 z1 => ?_⟩
    have q' := EndQ.mv v1 q
    refine ⟨g1, s1, o, g', s', G1, O1, e, z1, ?_⟩
    cases o with
    | nx => exact q'
    | bk => exact q'
    | ct => exact q'
    | rt t => exact q'
  · rename_i hne
    refine ⟨g, s, o, g', s', G, O, e, z, ?_⟩
    cases o with
    | nx => exact absurd e (hne g' s')
    | bk => exact q
    | ct => exact q
    | rt t => exact q
def mIfS (mc : ME) (n1 n2 : MSt) : MSt := fun g s => match mc g s with
  | some (.t (.fz (.bool true)), s1) => n1 g s1
  | some (.t (.fz (.bool false)), s1) => n2 g s1
  | _ => none
theorem tS_from {K : PySem.W.Frag} {g : Gm} {s s1 : S} {σ : Sg} {H H1 G G1 : Hp} {O : List Addr} {D : Ends} {o : Out} {g' : Gm} {s' : S} (z : St0 K st g s σ H G O) (gr : Grow st H G H1 G1) (q1 : Strm st s1 H1) (e : n g s1 = some (o, g', s'))
    (q : EndQ K st D H G O g' s' o) : tS K st n D σ H1 :=
  ⟨g, s1, o, g', s', G1, O, e, z.grow gr q1, q.mv gr.mv⟩
theorem ss_if (hc : ST X st c mc) (h1 : SB X st xs n1) (h2 : SB X st ys n2) : SS X st (.If c xs ys pos) (mIfS mc n1 n2) := by
  refine ⟨(ps_if hc.run h1.run h2.run).imp fun D σ H ⟨g, s, o, g', s', G, O, e, z, q⟩ => ?_⟩
  unfold mIfS at e
  split at e
  · rename_i s1 ec
    exact ⟨g, s, true, s1, G, O, ec, z, fun H1 G1 gr q1 => iteT (tS_from z gr q1 e q)⟩
  · rename_i s1 ec
    exact ⟨g, s, false, s1, G, O, ec, z, fun H1 G1 gr q1 => iteF (tS_from z gr q1 e q)⟩
  · cases e
/-- code that is not come to -/
def mNo : MSt := fun _ _ => none
theorem ss_no : SS X st x mNo := ⟨ps_never.imp fun D σ H ⟨g, s, o, g', s', G, O, e, z, q⟩ => by cases e⟩
theorem sb_no : SB X st xs mNo := ⟨pss_never.imp fun D σ H ⟨g, s, o, g', s', G, O, e, z, q⟩ => by cases e⟩
def mBk : MSt := fun g s => some (.bk, g, s)
def mCt : MSt := fun g s => some (.ct, g, s)
theorem ss_break : SS X st (.Break pos) mBk := ⟨ps_break.imp fun D σ H ⟨g, s, o, g', s', G, O, e, z, q⟩ => by cases e; exact q σ H G O .refl z⟩
theorem ss_cont : SS X st (.Continue pos) mCt := ⟨ps_continue.imp fun D σ H ⟨g, s, o, g', s', G, O, e, z, q⟩ => by cases e; exact q σ H G O .refl z⟩
theorem ss_pass : SS X st (.Pass pos) mNx := ⟨ps_pass.imp fun D σ H ⟨g, s, o, g', s', G, O, e, z, q⟩ => by cases e; exact q σ H G O .refl z⟩

def mRt (m : ME) : MSt := fun g s => match m g s with
  | some (.t t, s1) => some (.rt t, g, s1)
  | _ => none
theorem ss_ret (h : SE X st a m) : SS X st (.Return (some a) pos) (mRt m) := by
  refine ⟨(ps_ret h.run).imp fun D σ H ⟨g, s, o, g', s', G, O, e, z, q⟩ => ?_⟩
  unfold mRt at e
  split at e
  · rename_i t s1 em
    cases e
    refine ⟨g, s, _, _, G, O, em, z, fun v H' G' F p => q v H' G' F ⟨p.gr.le, fun a o n _ h => p.gr.same a o n h, fun a h n => .inr (p.gr.new a h n), fun a ha => .inr (p.ap a ha).1, p.gr.back⟩ p.at p.ok p.nd fun a ha => (p.ap a ha).2⟩
  · cases e
/-- return of a slot's own tree -/
def mRtV (i : Nat) : MSt := fun g s => match g[i]? with
  | some (some (.t t)) => some (.rt t, g, s)
  | _ => none
theorem sublist_nodup_mem {K : PySem.W.Frag} {G H : Hp} : ∀ {g : Gm} {σ : Sg} {O : List Addr}, RA K st G H g σ O → O.Nodup → ∀ {i : Nat} {x : T}, g[i]? = some (some (.t x)) →
    ∃ v F, σ[i]? = some (some v) ∧ Ow K st G H v x F ∧ (∀ a ∈ F, a ∈ O) ∧ F.Nodup
  | _, _, _, .nil, _, i, x, e => by simp at e
  | _, _, _, .non r, _, 0, x, e => by simp at e
  | _, _, _, .non r, nd, i + 1, x, e => by simpa using sublist_nodup_mem r nd (i := i) (by simpa using e)
  | _, _, _, .s _ r, _, 0, x, e => by simp at e
  | _, _, _, .s _ r, nd, i + 1, x, e => by simpa using sublist_nodup_mem r nd (i := i) (by simpa using e)
  | _, _, _, .t h r, nd, 0, x, e => by
    simp at e; subst e
    exact ⟨_, _, rfl, h, fun a ha => List.mem_append_left _ ha, (List.nodup_append.mp nd).1⟩
  | _, _, _, .t h r, nd, i + 1, x, e => by
    obtain ⟨v, F, e1, o, m, nf⟩ := sublist_nodup_mem r (List.nodup_append.mp nd).2.1 (i := i) (by simpa using e)
    exact ⟨v, F, by simpa using e1, o, fun a ha => List.mem_append_right _ (m a ha), nf⟩
theorem ss_retV {i : Nat} {x : Str} {p : Pos} (h : PE X (.Name x p) (tVar i)) : SS X st (.Return (some (.Name x p)) pos) (mRtV i) := by
  refine ⟨(ps_ret h).imp fun D σ H ⟨g, s, o, g', s', G, O, e, z, q⟩ => ?_⟩
  unfold mRtV at e
  split at e
  · rename_i t et
    cases e
    obtain ⟨v, F, ev, ow, mem, nf⟩ := sublist_nodup_mem z.ra z.nd et
    exact ⟨v, ev, q v H G F ⟨.refl G, fun _ _ _ _ h => h, fun _ h n => absurd h n, fun a ha => .inl (mem a ha), fun _ h => h⟩ z.at ow nf fun a ha => z.ap a (mem a ha)⟩
  · cases e
def mRtN : MSt := fun g s => some (.rt (.fz .none), g, s)
theorem ss_retN : SS X st (.Return none pos) mRtN := ⟨ps_retN.imp fun D σ H ⟨g, s, o, g', s', G, O, e, z, q⟩ => by
  cases e
  exact q .non H G [] ⟨.refl G, fun _ _ _ _ h => h, fun _ h n => absurd h n, fun a ha => by simp at ha, fun _ h => h⟩ z.at (.fz .non) .nil fun a ha => by simp at ha⟩

def setS (g : Gm) (i : Nat) (t : T) : Gm := g.set i (some (.t t))
/-- a slot is written: what stood there is let go -/
theorem RA.set {K : PySem.W.Frag} {G H : Hp} : ∀ {g : Gm} {σ : Sg} {O : List Addr}, RA K st G H g σ O → O.Nodup → ∀ {i : Nat} {v : V} {y : T} {F : List Addr}, Ow K st G H v y F → F.Nodup → (∀ a ∈ F, a ∉ O) →
    ∃ O', RA K st G H (setS g i y) (σ.set i (some v)) O' ∧ O'.Nodup ∧ ∀ a ∈ O', a ∈ O ∨ a ∈ F
  | _, _, _, .nil, nd, i, v, y, F, h, nf, d => ⟨[], by unfold setS; exact .nil, .nil, fun a ha => .inl ha⟩
  | _, _, O, .non r, nd, 0, v, y, F, h, nf, d => by
    refine ⟨F ++ O, .t h r, List.nodup_append.mpr ⟨nf, nd, fun a ha b hb e => d a ha (e ▸ hb)⟩, fun a ha => (List.mem_append.mp ha).elim .inr .inl⟩
  | _, _, _, .non r, nd, i + 1, v, y, F, h, nf, d => by
    obtain ⟨O', r', nd', m⟩ := RA.set r nd (i := i) h nf d
    exact ⟨O', .non r', nd', m⟩
  | _, _, O, .s _ r, nd, 0, v, y, F, h, nf, d => by
    refine ⟨F ++ O, .t h r, List.nodup_append.mpr ⟨nf, nd, fun a ha b hb e => d a ha (e ▸ hb)⟩, fun a ha => (List.mem_append.mp ha).elim .inr .inl⟩
  | _, _, _, .s e r, nd, i + 1, v, y, F, h, nf, d => by
    obtain ⟨O', r', nd', m⟩ := RA.set r nd (i := i) h nf d
    exact ⟨O', .s e r', nd', m⟩
  | _, _, _, @RA.t _ _ _ _ g σ O F0 _ _ h0 r, nd, 0, v, y, F, h, nf, d => by
    obtain ⟨n1, n2, n3⟩ := List.nodup_append.mp nd
    refine ⟨F ++ O, .t h r, List.nodup_append.mpr ⟨nf, n2, fun a ha b hb e => d a ha (List.mem_append_right _ (e ▸ hb))⟩, fun a ha => (List.mem_append.mp ha).elim .inr fun z => .inl (List.mem_append_right _ z)⟩
  | _, _, _, @RA.t _ _ _ _ g σ O F0 _ _ h0 r, nd, i + 1, v, y, F, h, nf, d => by
    obtain ⟨n1, n2, n3⟩ := List.nodup_append.mp nd
    obtain ⟨O', r', nd', m⟩ := RA.set r n2 (i := i) h nf fun a ha hb => d a ha (List.mem_append_right _ hb)
    refine ⟨F0 ++ O', .t h0 r', List.nodup_append.mpr ⟨n1, nd', fun a ha b hb e => ?_⟩, fun a ha => (List.mem_append.mp ha).elim (fun z => .inl (List.mem_append_left _ z)) fun z => (m a z).elim (fun w => .inl (List.mem_append_right _ w)) .inr⟩
    subst e
    rcases m a hb with hb | hb
    · exact n3 a ha a hb rfl
    · exact d a hb (List.mem_append_left _ ha)
theorem St0.set {K : PySem.W.Frag} {g : Gm} {s s' : S} {σ : Sg} {H G H' G' : Hp} {O : List Addr} {i : Nat} {v : V} {t : T} {F : List Addr} (z : St0 K st g s σ H G O) (p : PostE K st H G (.t t) s' v H' G' F) :
    ∃ O', St0 K st (setS g i t) s' (σ.set i (some v)) H' G' O' ∧ Mv st H G O H' G' O' := by
  have z1 := z.grow p.gr p.strm
  obtain ⟨O', r', nd', m⟩ := z1.ra.set z1.nd (i := i) p.ok p.nd fun a ha hb => by
    obtain ⟨_, o, h, _⟩ := z.ra.there a hb
    rw [(p.ap a ha).1] at h; cases h
  refine ⟨O', ⟨z1.sub, r', nd', fun a ha => (m a ha).elim (z1.ap a) fun h => (p.ap a h).2, z1.sg, z1.strm⟩, ⟨p.gr.le, fun a o n _ h => p.gr.same a o n h, fun a h n => .inr (p.gr.new a h n), fun a ha => (m a ha).elim .inl fun h => .inr (p.ap a h).1, p.gr.back⟩⟩
def mSet (i : Nat) (m : ME) : MSt := fun g s => match m g s with
  | some (.t t, s1) => some (.nx, setS g i t, s1)
  | _ => none
theorem ss_setP {i : Nat} (h : ∀ {te : TE}, PE X a te → PS X x (tAsg te (gName i))) (ha : SE X st a m) : SS X st x (mSet i m) := by
  refine ⟨(h ha.run).imp fun D σ H ⟨g, s, o, g', s', G, O, e, z, q⟩ => ?_⟩
  unfold mSet at e
  split at e
  · rename_i t s1 em
    cases e
    refine ⟨g, s, _, _, G, O, em, z, fun v H' G' F p => ?_⟩
    obtain ⟨O', z', mv⟩ := z.set (i := i) p
    exact q _ H' G' O' mv z'
  · cases e
theorem ss_set {i : Nat} {y : Str} {p : Pos} (hN : X.N.Nodup) (hi : X.N[i]? = some y) (hx : Loc X.env.scope y) (ha : SE X st a m) (hs : swapsWith a (some (.Name y p)) pos.line X.env = pure false := by rfl)
    (hf : X.fn y = true ∨ X.env.scope.names.lookup y = some .local := by first | exact .inl rfl | exact .inr rfl | assumption) : SS X st (.Assign [.Name y p] a pos) (mSet i m) :=
  ss_setP (fun h => ps_set hN hi hx h hs hf) ha
/-- an own slot frozen ahead of a statement -/
def mPre1 (i : Nat) (n : MSt) : MSt := fun g s => match g[i]? with
  | some (some (.t t)) => n (setS g i (.fz t.d)) s
  | _ => none
theorem RA.freeze {K : PySem.W.Frag} {G H : Hp} : ∀ {g : Gm} {σ : Sg} {O : List Addr}, RA K st G H g σ O → ∀ {i : Nat} {t : T}, g[i]? = some (some (.t t)) → O.Nodup → (∀ a ∈ O, G a = none) →
    ∃ G' O', RA K st G' H (setS g i (.fz t.d)) σ O' ∧ O'.Nodup ∧ (∀ a ∈ O', a ∈ O) ∧ Le G G' ∧ (∀ a, G' a ≠ none → G a ≠ none ∨ (a ∈ O ∧ G' a = H a)) ∧ ∀ a ∈ O', G' a = none := by
  intro g σ O r i t e nd ap
  have base : ∀ {F : List Addr} {v : V} {t : T}, Ow K st G H v t F → (∀ a ∈ F, G a = none) → Le G (fun a => if a ∈ F then H a else G a) ∧ Fz K (fun a => if a ∈ F then H a else G a) v t.d := fun {F v t} h apF => by
    have le : Le G (fun a => if a ∈ F then H a else G a) := fun a o e => by
      show (if a ∈ F then H a else G a) = some o
      rw [if_neg (fun hm => by rw [apF a hm] at e; cases e)]; exact e
    exact ⟨le, h.toFz le fun a ha o e => by show (if a ∈ F then H a else G a) = some o; rw [if_pos ha]; exact e⟩
  induction r generalizing i t with
  | nil => simp at e
  | @non g σ O x r ih =>
    cases i with
    | zero => simp at e
    | succ i =>
      obtain ⟨G', O', r', n', m, le, c, a'⟩ := ih (i := i) (by simpa using e) nd ap
      exact ⟨G', O', .non r', n', m, le, c, a'⟩
  | @s g σ O a b es r ih =>
    cases i with
    | zero => simp at e
    | succ i =>
      obtain ⟨G', O', r', n', m, le, c, a'⟩ := ih (i := i) (by simpa using e) nd ap
      exact ⟨G', O', .s es r', n', m, le, c, a'⟩
  | @t g σ O F v t0 h r ih =>
    obtain ⟨n1, n2, n3⟩ := List.nodup_append.mp nd
    cases i with
    | zero =>
      simp at e; subst e
      obtain ⟨le, fz⟩ := base h fun a ha => ap a (List.mem_append_left _ ha)
      refine ⟨_, [] ++ O, .t (.fz fz) (r.keep le fun _ _ _ e => e), n2, fun a ha => List.mem_append_right _ (by simpa using ha), le, fun a hn => ?_, fun a ha => ?_⟩
      · have hn : (if a ∈ F then H a else G a) ≠ none := hn
        by_cases hm : a ∈ F
        · exact .inr ⟨List.mem_append_left _ hm, if_pos hm⟩
        · rw [if_neg hm] at hn; exact .inl hn
      · have ha : a ∈ O := by simpa using ha
        show (if a ∈ F then H a else G a) = none
        rw [if_neg (fun hm => n3 a hm a ha rfl)]
        exact ap a (List.mem_append_right _ ha)
    | succ i =>
      obtain ⟨G', O', r', n', m, le, c, a'⟩ := ih (i := i) (by simpa using e) n2 fun a ha => ap a (List.mem_append_right _ ha)
      refine ⟨G', F ++ O', .t (h.keep le fun _ _ _ e => e) r', List.nodup_append.mpr ⟨n1, n', fun a ha b hb e => n3 a ha b (m b hb) e⟩, fun a ha => (List.mem_append.mp ha).elim (List.mem_append_left _) fun z => List.mem_append_right _ (m a z), le, fun a hn => (c a hn).imp id fun z => ⟨List.mem_append_right _ z.1, z.2⟩, fun a ha => ?_⟩
      rcases List.mem_append.mp ha with ha | ha
      · cases eg : G' a with
        | none => rfl
        | some o =>
          rcases c a (by rw [eg]; exact fun z => by cases z) with q | q
          · exact absurd (ap a (List.mem_append_left _ ha)) q
          · exact absurd rfl (n3 a ha a q.1)
      · exact a' a ha
theorem St0.freeze {K : PySem.W.Frag} {g : Gm} {s : S} {σ : Sg} {H G : Hp} {O : List Addr} {i : Nat} {t : T} (z : St0 K st g s σ H G O) (e : g[i]? = some (some (.t t))) :
    ∃ G' O', St0 K st (setS g i (.fz t.d)) s σ H G' O' ∧ Mv st H G O H G' O' := by
  obtain ⟨G', O', r', n', m, le, c, a'⟩ := z.ra.freeze e z.nd z.ap
  refine ⟨G', O', ⟨fun a o eg => ?_, r', n', a', fun a i => ?_, z.strm⟩, ⟨le, fun _ _ _ _ h => h, fun a h n => ?_, fun a ha => .inl (m a ha), fun _ h => h⟩⟩
  · rcases c a (by rw [eg]; exact fun z => by cases z) with q | q
    · cases e2 : G a with
      | none => exact absurd e2 q
      | some u =>
        have := le a u e2
        rw [eg] at this; cases this
        exact z.sub a o e2
    · obtain ⟨_, u, h, nf⟩ := z.ra.there a q.1
      rw [q.2, h] at eg; cases eg
      exact U_of h nf
  · cases e2 : G' a with
    | none => rfl
    | some u =>
      rcases c a (by rw [e2]; exact fun z => by cases z) with q | q
      · exact absurd (z.sg a i) q
      · exact absurd i (z.ra.there a q.1).1
  · rcases c a n with q | q
    · exact absurd h q
    · exact .inl q.1
theorem ss_pre1 {i : Nat} (h : SS X st x n) : SS X st x (mPre1 i n) := by
  refine ⟨h.run.imp fun D σ H ⟨g, s, o, g', s', G, O, e, z, q⟩ => ?_⟩
  unfold mPre1 at e
  split at e
  · rename_i t et
    obtain ⟨G', O', z', mv⟩ := z.freeze et
    exact ⟨_, s, o, g', s', G', O', e, z', q.mv mv⟩
  · cases e
end
end DV

namespace DV
open PySem PySem.Spec PyProof.Rows L2

/-- a target: a slot, or a tuple of targets -/
inductive Tg where
  | nm (i : Nat) | tp (l : List Tg)
/-- a tuple or a list taken apart -/
def gBoth (K : PySem.W.Frag) (n : Nat) (t : TGs) : TG := fun v σ H Q => gTup K n t v σ H Q ∨ gUnl K n t v σ H Q
theorem pg_both {X : Cx} {pos : Pos} {es : List Expr} {k : Nat} {t : TGs} {n : Nat} (hc : X.calm = true) (h : PGs X es t) (hn : (assignEach es X.env).length = n := by rfl) (hst : (assignEach es X.env).findIdx? (·.1) = none := by rfl) : PG X (.Tuple es k pos) (gBoth X.K n t) :=
  ⟨fun pins s σ H v u Q I r q => q.elim ((pg_tup hc h hn hst).run pins s σ H v u Q I r) ((pg_unl hc h hn hst).run pins s σ H v u Q I r)⟩
mutual
def Tg.g (K : PySem.W.Frag) : Tg → TG
  | .nm i => gName i
  | .tp l => gBoth K l.length (Tg.gs K l)
def Tg.gs (K : PySem.W.Frag) : List Tg → TGs
  | [] => gNil
  | t :: l => gCons (Tg.g K t) (Tg.gs K l)
end
mutual
/-- frozen data bound to a target -/
def bind : Tg → D → Gm → Option Gm
  | .nm i, d, g => some (setS g i (.fz d))
  | .tp l, d, g => match d with
    | .tuple ds => binds l ds g
    | .list ds => binds l ds g
    | _ => none
def binds : List Tg → List D → Gm → Option Gm
  | [], [], g => some g
  | t :: l, d :: ds, g => match bind t d g with
    | some g1 => binds l ds g1
    | none => none
  | _, _, _ => none
end
mutual
def Tg.slots : Tg → List Nat
  | .nm i => [i]
  | .tp l => Tg.slotss l
def Tg.slotss : List Tg → List Nat
  | [] => []
  | t :: l => Tg.slots t ++ Tg.slotss l
end
theorem wipe_set {σ : Sg} {i : Nat} {x : Option V} : ∀ {ws : List Nat}, i ∈ ws → wipe (σ.set i x) ws = wipe σ ws
  | w :: ws, h => by
    unfold wipe
    by_cases e : i ∈ ws
    · rw [wipe_set e]
    · have e2 : i = w := (List.mem_cons.mp h).resolve_right e
      subst e2
      have : ∀ {ws : List Nat}, i ∉ ws → wipe (σ.set i x) ws = (wipe σ ws).set i x := by
        intro ws
        induction ws with
        | nil => intro _; rfl
        | cons w ws ih =>
          intro h
          unfold wipe
          rw [ih (fun z => h (List.mem_cons_of_mem _ z)), List.set_comm]
          exact fun z => h (by rw [z]; exact List.mem_cons_self)
      rw [this e, List.set_set]
theorem binds_len : ∀ {l : List Tg} {ds : List D} {g g' : Gm}, binds l ds g = some g' → l.length = ds.length
  | [], [], _, _, _ => rfl
  | [], _ :: _, _, _, h => by simp [binds] at h
  | _ :: _, [], _, _, h => by simp [binds] at h
  | t :: l, d :: ds, g, g', h => by
    rw [binds] at h
    split at h
    · exact congrArg (· + 1) (binds_len h)
    · cases h

section
variable {X : Cx} {st : Stm} {a b c e : Expr} {ma mb mc m : ME} {pos : Pos} {es : List Expr} {x : Stmt} {xs ys : List Stmt} {n n1 n2 : MSt}
mutual
theorem bind_ok {K : PySem.W.Frag} {s : S} {H G : Hp} {Q : Sg → Hp → Prop} : ∀ (t : Tg) {d : D} {v : V} {g g' : Gm} {σ : Sg} {O : List Addr}, St0 K st g s σ H G O → Fz K G v d → bind t d g = some g' →
    (∀ σ' O', (∀ a ∈ O', a ∈ O) → St0 K st g' s σ' H G O' → (∀ ws, (∀ i ∈ t.slots, i ∈ ws) → wipe σ' ws = wipe σ ws) → Q σ' H) → t.g K v σ H Q
  | .nm i, d, v, g, g', σ, O, z, f, e, q => by
    rw [bind] at e; cases e
    obtain ⟨O', z', _⟩ := z.set (i := i) (.scalar z.at f)
    obtain ⟨O2, r2, nd2, m2⟩ := z.ra.set z.nd (i := i) (F := []) (.fz f) .nil (fun a ha => by simp at ha)
    rw [Tg.g]
    exact q _ O2 (fun a ha => (m2 a ha).resolve_right (by simp)) ⟨z.sub, r2, nd2, fun a ha => z.ap a ((m2 a ha).resolve_right (by simp)), z.sg, z.strm⟩ fun ws h => wipe_set (h i (by rw [Tg.slots]; exact List.mem_cons_self))
  | .tp l, d, v, g, g', σ, O, z, f, e, q => by
    cases d with
    | tuple ds =>
      rw [bind] at e
      cases f with
      | @tup a vs _ c r =>
        rw [Tg.g]
        refine .inl ⟨a, vs, rfl, .inl (.inl (U_tup (z.sub _ _ c))), ?_, binds_ok l z r e fun σ' O' m z' w => q σ' O' m z' fun ws h => w ws fun i hi => h i (by rw [Tg.slots]; exact hi)⟩
        rw [r.len, binds_len e]
    | list ds =>
      rw [bind] at e
      cases f with
      | @lst a vs _ c r =>
        rw [Tg.g]
        refine .inr ⟨a, vs, rfl, .inl (.inl (U_lst (z.sub _ _ c))), ?_, binds_ok l z r e fun σ' O' m z' w => q σ' O' m z' fun ws h => w ws fun i hi => h i (by rw [Tg.slots]; exact hi)⟩
        rw [r.len, binds_len e]
    | _ => simp [bind] at e
theorem binds_ok {K : PySem.W.Frag} {s : S} {H G : Hp} {Q : Sg → Hp → Prop} : ∀ (l : List Tg) {ds : List D} {vs : List V} {g g' : Gm} {σ : Sg} {O : List Addr}, St0 K st g s σ H G O → FzA K G vs ds → binds l ds g = some g' →
    (∀ σ' O', (∀ a ∈ O', a ∈ O) → St0 K st g' s σ' H G O' → (∀ ws, (∀ i ∈ Tg.slotss l, i ∈ ws) → wipe σ' ws = wipe σ ws) → Q σ' H) → Tg.gs K l vs σ H Q
  | [], ds, vs, g, g', σ, O, z, f, e, q => by
    cases ds with
    | nil =>
      rw [binds] at e; cases e
      cases f
      rw [Tg.gs]
      exact ⟨rfl, q σ O (fun a h => h) z fun _ _ => rfl⟩
    | cons d ds => simp [binds] at e
  | t :: l, ds, vs, g, g', σ, O, z, f, e, q => by
    cases ds with
    | nil => simp [binds] at e
    | cons d ds =>
      rw [binds] at e
      split at e
      · rename_i g1 e1
        cases f with
        | cons h r =>
          rw [Tg.gs]
          exact ⟨_, _, rfl, bind_ok t z h e1 fun σ1 O1 m1 z1 w1 => binds_ok l z1 r e fun σ2 O2 m2 z2 w2 => q σ2 O2 (fun a ha => m1 a (m2 a ha)) z2 fun ws h => (w2 ws fun i hi => h i (by rw [Tg.slotss]; exact List.mem_append_right _ hi)).trans (w1 ws fun i hi => h i (by rw [Tg.slotss]; exact List.mem_append_left _ hi))⟩
      · cases e
end
/-- own trees put into slots, from the left -/
def setSs : Gm → List Nat → List T → Gm
  | g, i :: is, t :: ts => setSs (setS g i t) is ts
  | g, _, _ => g
theorem sets_ok {K : PySem.W.Frag} {s : S} {H G : Hp} {Q : Sg → Hp → Prop} : ∀ (is : List Nat) {vs : List V} {ts : List T} {F : List Addr} {g : Gm} {σ : Sg} {O : List Addr}, is.length = ts.length → St0 K st g s σ H G O → OwA K st G H vs ts F → F.Nodup → (∀ a ∈ F, a ∉ O ∧ G a = none) →
    (∀ σ' O', (∀ a ∈ O', a ∈ O ∨ a ∈ F) → St0 K st (setSs g is ts) s σ' H G O' → Q σ' H) → Tg.gs K (is.map Tg.nm) vs σ H Q
  | [], vs, ts, F, g, σ, O, hl, z, o, nf, d, q => by
    cases o with
    | nil =>
      rw [List.map_nil, Tg.gs]
      exact ⟨rfl, q σ O (fun a h => .inl h) z⟩
    | cons _ _ => simp at hl
  | i :: is, vs, ts, F, g, σ, O, hl, z, o, nf, d, q => by
    cases o with
    | nil => simp at hl
    | @cons v t vs ts F1 F2 h r =>
      obtain ⟨n1, n2, n3⟩ := List.nodup_append.mp nf
      obtain ⟨O2, r2, nd2, m2⟩ := z.ra.set z.nd (i := i) h n1 (fun a ha => (d a (List.mem_append_left _ ha)).1)
      have z2 : St0 K st (setS g i t) s (σ.set i (some v)) H G O2 := ⟨z.sub, r2, nd2, fun a ha => (m2 a ha).elim (z.ap a) fun h => (d a (List.mem_append_left _ h)).2, z.sg, z.strm⟩
      rw [List.map_cons, Tg.gs]
      refine ⟨v, vs, rfl, ?_⟩
      rw [Tg.g]
      refine sets_ok is (by simpa using hl) z2 r n2 (fun a ha => ⟨fun hm => ?_, (d a (List.mem_append_right _ ha)).2⟩) fun σ3 O3 m3 z3 => q σ3 O3 (fun a ha => ?_) z3
      · rcases m2 a hm with h | h
        · exact (d a (List.mem_append_right _ ha)).1 h
        · exact n3 a h a ha rfl
      · rcases m3 a ha with h | h
        · exact (m2 a h).imp id (List.mem_append_left _)
        · exact .inr (List.mem_append_right _ h)
/-- a, b, .. = e -/
def mUnp (is : List Nat) (m : ME) : MSt := fun g s => match m g s with
  | some (.t t, s1) => match t with
    | .fz (.tuple ds) => if is.length = ds.length then some (.nx, setSs g is (ds.map T.fz), s1) else none
    | .fz (.list ds) => if is.length = ds.length then some (.nx, setSs g is (ds.map T.fz), s1) else none
    | .tup ts => if is.length = ts.length then some (.nx, setSs g is ts, s1) else none
    | .lst ts => if is.length = ts.length then some (.nx, setSs g is ts, s1) else none
    | _ => none
  | _ => none
theorem ss_unp {is : List Nat} {tg : Expr} (hp : PG X tg (Tg.g X.K (.tp (is.map Tg.nm)))) (ha : SE X st a m) (hs : swapsWithSole [tg] a pos.line X.env = pure false := by rfl) (hw : swappedStores [tg] a X.env = pure none := by rfl)
    (h1 : (assignEach [tg] X.env).map (·.2) = [assign tg X.env] := by rfl) : SS X st (.Assign [tg] a pos) (mUnp is m) := by
  refine ⟨(ps_asg ha.run hp hs hw h1).imp fun D σ H ⟨g, s, o, g', s', G, O, e, z, q⟩ => ?_⟩
  unfold mUnp at e
  have fin : ∀ {v : V} {H1 G1 : Hp} {F F1 : List Addr} {t : T} {s1 : S} {vs : List V} {ts : List T} {a : Addr}, PostE X.K st H G (.t t) s1 v H1 G1 F → v = .ref a → (H1 a = some (.tup vs) ∨ H1 a = some (.lst vs)) → OwA X.K st G1 H1 vs ts F1 → F1.Nodup → (∀ a ∈ F1, a ∈ F) → is.length = ts.length →
      EndQ X.K st D H G O (setSs g is ts) s1 .nx → Tg.g X.K (.tp (is.map Tg.nm)) v σ H1 D.nx := by
    intro v H1 G1 F F1 t s1 vs ts a p ev hv ow nf m hl q
    have z1 := z.grow p.gr p.strm
    subst ev
    rw [Tg.g]
    have nxt : Tg.gs X.K (is.map Tg.nm) vs σ H1 D.nx := by
     refine sets_ok is hl z1 ow nf (fun b hb => ⟨fun hO => ?_, (p.ap b (m b hb)).2⟩) fun σ' O' m' z' => q σ' H1 G1 O' ⟨p.gr.le, fun a o n _ h => p.gr.same a o n h, fun a h n => .inr (p.gr.new a h n), fun a ha => (m' a ha).imp id fun h => (p.ap a (m a h)).1, p.gr.back⟩ z'
     obtain ⟨_, o, h, _⟩ := z.ra.there b hO
     rw [(p.ap b (m b hb)).1] at h; cases h
    rcases hv with hv | hv
    · exact .inl ⟨a, vs, rfl, .inl (.inl hv), by rw [ow.len, List.length_map, hl], nxt⟩
    · exact .inr ⟨a, vs, rfl, .inl (.inl hv), by rw [ow.len, List.length_map, hl], nxt⟩
  split at e
  · rename_i t s1 em
    split at e
    · rename_i ds
      split at e
      · rename_i hl
        cases e
        refine ⟨g, s, _, _, G, O, em, z, fun v H1 G1 F p => ?_⟩
        have y : Ow X.K st G1 H1 v (.fz (.tuple ds)) F := p.ok
        cases y with
        | fz f =>
          cases f with
          | @tup a vs _ c r => exact fin (F1 := []) p rfl (.inl (U_tup (p.gr.sub _ _ c))) r.toOw .nil (fun a ha => by simp at ha) (by rw [List.length_map]; exact hl) q
      · cases e
    · rename_i ds
      split at e
      · rename_i hl
        cases e
        refine ⟨g, s, _, _, G, O, em, z, fun v H1 G1 F p => ?_⟩
        have y : Ow X.K st G1 H1 v (.fz (.list ds)) F := p.ok
        cases y with
        | fz f =>
          cases f with
          | @lst a vs _ c r => exact fin (F1 := []) p rfl (.inr (U_lst (p.gr.sub _ _ c))) r.toOw .nil (fun a ha => by simp at ha) (by rw [List.length_map]; exact hl) q
      · cases e
    · rename_i ts
      split at e
      · rename_i hl
        cases e
        refine ⟨g, s, _, _, G, O, em, z, fun v H1 G1 F p => ?_⟩
        have y : Ow X.K st G1 H1 v (.tup ts) F := p.ok
        cases y with
        | @tup a vs _ F1 ni c r => exact fin p rfl (.inl c) r (List.nodup_cons.mp p.nd).2 (fun a ha => List.mem_cons_of_mem _ ha) hl q
      · cases e
    · rename_i ts
      split at e
      · rename_i hl
        cases e
        refine ⟨g, s, _, _, G, O, em, z, fun v H1 G1 F p => ?_⟩
        have y : Ow X.K st G1 H1 v (.lst ts) F := p.ok
        cases y with
        | @lst a vs _ F1 ni c r => exact fin p rfl (.inr c) r (List.nodup_cons.mp p.nd).2 (fun a ha => List.mem_cons_of_mem _ ha) hl q
      · cases e
    · cases e
  · cases e
/-- a, b = x, y: the values first, then the slots -/
def mPar (is : List Nat) (ms : MA) : MSt := fun g s => match ms g s with
  | some (rs, s1) => match trs rs with
    | some ts => if is.length = ts.length then some (.nx, setSs g is ts, s1) else none
    | none => none
  | none => none
theorem par_fin {K : PySem.W.Frag} {g : Gm} {s s1 : S} {σ : Sg} {H G H1 G1 : Hp} {O : List Addr} {vs : List V} {rs : List Rv} {ts : List T} {F : List Addr} {is : List Nat} {D : Ends} (z : St0 K st g s σ H G O) (p : PostA K st H G rs s1 vs H1 G1 F) (et : trs rs = some ts) (hl : is.length = ts.length)
    (q : EndQ K st D H G O (setSs g is ts) s1 .nx) : Tg.gs K (is.map Tg.nm) vs σ H1 D.nx := by
  have z1 := z.grow p.gr p.strm
  refine sets_ok is hl z1 (p.ok.own et) p.nd (fun b hb => ⟨fun hO => ?_, (p.ap b hb).2⟩) fun σ' O' m' z' => q σ' H1 G1 O' ⟨p.gr.le, fun a o n _ h => p.gr.same a o n h, fun a h n => .inr (p.gr.new a h n), fun a ha => (m' a ha).imp id fun h => (p.ap a h).1, p.gr.back⟩ z'
  obtain ⟨_, o, h, _⟩ := z.ra.there b hO
  rw [(p.ap b hb).1] at h; cases h
theorem ss_par {i j : Nat} {y1 y2 : Str} {px py pt : Pos} {kt k2 pt2} {ms : MA} (hc : X.calm = true) (hN : X.N.Nodup) (hi : X.N[i]? = some y1) (hj : X.N[j]? = some y2) (hij : i ≠ j)
    (hx : X.env.scope.names.lookup y1 = some .local) (hy : X.env.scope.names.lookup y2 = some .local) (ha : SA X st [a, b] ms)
    (hw : swappedStores [.Tuple [.Name y1 px, .Name y2 py] kt pt] (.Tuple [a, b] k2 pt2) X.env = pure (some [y1, y2]))
    (hs : swapsWithSole [.Tuple [.Name y1 px, .Name y2 py] kt pt] (.Tuple [a, b] k2 pt2) pos.line X.env = pure false := by rfl) :
    SS X st (.Assign [.Tuple [.Name y1 px, .Name y2 py] kt pt] (.Tuple [a, b] k2 pt2) pos) (mPar [i, j] ms) := by
  refine ⟨(ps_par hc hN hi hj hij hx hy ha.run hw hs).imp fun D σ H ⟨g, s, o, g', s', G, O, e, z, q⟩ => ?_⟩
  unfold mPar at e
  split at e
  · rename_i rs s1 em
    split at e
    · rename_i ts et
      split at e
      · rename_i hl
        cases e
        refine ⟨g, s, rs, _, G, O, em, z, fun vs H1 G1 F p => ?_⟩
        have r := par_fin (is := [i, j]) z p et hl q
        simp only [List.map_cons, List.map_nil, Tg.gs, Tg.g] at r
        obtain ⟨v, r1, rfl, w, r2, rfl, rfl, r3⟩ := r
        exact ⟨v, w, rfl, r3⟩
      · cases e
    · cases e
  · cases e
theorem ss_par3 {i j l : Nat} {y1 y2 y3 : Str} {px py pz pt : Pos} {kt k2 pt2} {ms : MA} (hc : X.calm = true) (hN : X.N.Nodup) (hi : X.N[i]? = some y1) (hj : X.N[j]? = some y2) (hl : X.N[l]? = some y3) (hij : i ≠ j) (hil : i ≠ l) (hjl : j ≠ l)
    (hx : X.env.scope.names.lookup y1 = some .local) (hy : X.env.scope.names.lookup y2 = some .local) (hz : X.env.scope.names.lookup y3 = some .local) (ha : SA X st [a, b, c] ms)
    (hw : swappedStores [.Tuple [.Name y1 px, .Name y2 py, .Name y3 pz] kt pt] (.Tuple [a, b, c] k2 pt2) X.env = pure (some [y1, y2, y3]))
    (hs : swapsWithSole [.Tuple [.Name y1 px, .Name y2 py, .Name y3 pz] kt pt] (.Tuple [a, b, c] k2 pt2) pos.line X.env = pure false := by rfl) :
    SS X st (.Assign [.Tuple [.Name y1 px, .Name y2 py, .Name y3 pz] kt pt] (.Tuple [a, b, c] k2 pt2) pos) (mPar [i, j, l] ms) := by
  refine ⟨(ps_par3 hc hN hi hj hl hij hil hjl hx hy hz ha.run hw hs).imp fun D σ H ⟨g, s, o, g', s', G, O, e, z, q⟩ => ?_⟩
  unfold mPar at e
  split at e
  · rename_i rs s1 em
    split at e
    · rename_i ts et
      split at e
      · rename_i hl
        cases e
        refine ⟨g, s, rs, _, G, O, em, z, fun vs H1 G1 F p => ?_⟩
        have r := par_fin (is := [i, j, l]) z p et hl q
        simp only [List.map_cons, List.map_nil, Tg.gs, Tg.g] at r
        obtain ⟨v, r1, rfl, w, r2, rfl, y, r3, rfl, rfl, r4⟩ := r
        exact ⟨v, w, y, rfl, r4⟩
      · cases e
    · cases e
  · cases e
end
end DV

namespace DV
open PySem PySem.Spec PyProof.Rows L2

def S0 : S := ⟨[], 0, 0, 0⟩
/-- an argument: the stream, or data -/
inductive Arg where
  | s | d (d : D)
def Arg.sl : Arg → Sl
  | .s => .s
  | .d x => .t (.fz x)
inductive ArgsOk (K : PySem.W.Frag) (st : Stm) (G : Hp) : List V → List Arg → Prop
  | nil : ArgsOk K st G [] []
  | s {a b : Addr} {vs : List V} {as : List Arg} : st = some (a, b) → ArgsOk K st G vs as → ArgsOk K st G (.ref a :: vs) (.s :: as)
  | d {v : V} {d : D} {vs : List V} {as : List Arg} : Fz K G v d → ArgsOk K st G vs as → ArgsOk K st G (v :: vs) (.d d :: as)
theorem ArgsOk.mono {K : PySem.W.Frag} {st : Stm} {G G' : Hp} (le : Le G G') {vs : List V} {as : List Arg} (h : ArgsOk K st G vs as) : ArgsOk K st G' vs as := by
  induction h with
  | nil => exact .nil
  | s e _ ih => exact .s e ih
  | d f _ ih => exact .d (f.mono le) ih
theorem ArgsOk.len {K : PySem.W.Frag} {st : Stm} {G : Hp} {vs : List V} {as : List Arg} (h : ArgsOk K st G vs as) : vs.length = as.length := by
  induction h with
  | nil => rfl
  | s e _ ih => exact congrArg (· + 1) ih
  | d f _ ih => exact congrArg (· + 1) ih
theorem ArgsOk.ra {K : PySem.W.Frag} {st : Stm} {G H : Hp} {vs : List V} {as : List Arg} (h : ArgsOk K st G vs as) {σ : Sg} {g : Gm} (r : RA K st G H g σ []) : RA K st G H (as.map (fun a => some a.sl) ++ g) (vs.map some ++ σ) [] := by
  induction h with
  | nil => exact r
  | s e _ ih => exact .s e ih
  | d f _ ih => exact RA.t (F := []) (.fz f) ih
theorem RA.blank {K : PySem.W.Frag} {st : Stm} {G H : Hp} : ∀ n : Nat, RA K st G H (List.replicate n none) (List.replicate n none) []
  | 0 => .nil
  | n + 1 => .non (RA.blank n)
theorem FzA.args {K : PySem.W.Frag} {st : Stm} {G : Hp} {vs : List V} {ds : List D} (h : FzA K G vs ds) : ArgsOk K st G vs (ds.map Arg.d) := by
  induction ds generalizing vs with
  | nil => cases h; exact .nil
  | cons d ds ih => cases h with | cons h r => exact .d h (ih r)

/-- slots at the entry -/
def gSt (n : Nat) (as : List Arg) : Gm := as.map (fun a => some a.sl) ++ List.replicate (n - as.length) none
/-- a def by its body: what it returns -/
def runS (n np : Nat) (m : MSt) (as : List Arg) (s : S) : Option (T × S) := if as.length = np then match m (gSt n as) s with
  | some (.rt t, _, s') => some (t, s')
  | some (.nx, _, s') => some (.fz .none, s')
  | _ => none else none
def runP (n np : Nat) (m : MSt) (ds : List D) : Option T := (runS n np m (ds.map Arg.d) S0).map (·.1)
/-- the promise of a def that takes the stream -/
def spS (K : PySem.W.Frag) (rf : List Arg → S → Option (T × S)) : Sp := fun vs H Q _ => ∃ st as s r s' G, rf as s = some (r, s') ∧ Sub G H ∧ (∀ a, inS st a → G a = none) ∧ Strm st s H ∧ ArgsOk K st G vs as ∧
  ∀ v H' G' F, PostE K st H G (.t r) s' v H' G' F → Q v H'
/-- .. of a plain one -/
def spP (K : PySem.W.Frag) (rf : List D → Option T) : Sp := fun vs H Q _ => ∃ ds r G, rf ds = some r ∧ Sub G H ∧ FzA K G vs ds ∧
  ∀ v H' G' F, PostE K none H G (.t r) S0 v H' G' F → Q v H'

section
variable {P : Program} {w : World} {K : PySem.W.Frag} {mg : Str → Option Value} {base : Heap}
theorem body_run {X : Cx} {st : Stm} {b : List Stmt} {m : MSt} (hb : SB X st b m) {as : List Arg} {s s' : S} {r : T} {H G : Hp} {vs : List V} {n np : Nat} {Q : VK} (e : runS n np m as s = some (r, s')) (su : Sub G H) (sg : ∀ a, inS st a → G a = none) (sm : Strm st s H) (ao : ArgsOk X.K st G vs as)
    (q : ∀ v H' G' F, PostE X.K st H G (.t r) s' v H' G' F → Q v H') : tS X.K st m { nx := fun _ H' => Q .non H', rt := Q } (vs.map some ++ List.replicate (n - vs.length) none) H := by
  unfold runS at e
  split at e
  · have ra : RA X.K st G H (gSt n as) (vs.map some ++ List.replicate (n - vs.length) none) [] := by
      rw [ao.len]; exact ao.ra (RA.blank _)
    have z : St0 X.K st (gSt n as) s (vs.map some ++ List.replicate (n - vs.length) none) H G [] := ⟨su, ra, .nil, fun a ha => by simp at ha, sg, sm⟩
    have fin : ∀ {v : V} {H' G' : Hp} {F : List Addr}, Mv st H G [] H' G' F → At st s' H' G' → Ow X.K st G' H' v r F → F.Nodup → (∀ a ∈ F, G' a = none) → Q v H' := fun {v H' G' F} mv at_ ow nd ap =>
      q v H' G' F ⟨⟨mv.le, at_.sub, fun a o n h => mv.same a o n (by simp) h, fun a h n => (mv.new a h n).resolve_left (by simp), at_.sg, mv.back⟩, ow, nd, fun a ha => ⟨(mv.own a ha).resolve_left (by simp), ap a ha⟩, at_.strm⟩
    split at e
    · rename_i t g' s1 em
      cases e
      exact ⟨_, s, _, g', s', G, [], em, z, fun v H' G' F mv at_ ow nd ap => fin mv at_ ow nd ap⟩
    · rename_i g' s1 em
      cases e
      refine ⟨_, s, _, g', s', G, [], em, z, fun σ' H' G' O' mv z' => fin (F := []) (v := .non) ⟨mv.le, mv.same, mv.new, fun a ha => by simp at ha, mv.back⟩ z'.at (.fz .non) .nil fun a ha => by simp at ha⟩
    · cases e
  · cases e
theorem runS_len {n np : Nat} {m : MSt} {as : List Arg} {s : S} {p : T × S} (e : runS n np m as s = some p) : as.length = np := by
  unfold runS at e
  split at e
  · assumption
  · cases e
theorem cal_S {x : Str} {st : Stmt} {f : Addr} {fd : FuncData} {N ps : List Str} {k n np : Nat} {m : MSt} (F : C8.Def K mg x st f fd) (b : Binds K fd ps []) (S : FnScope N ps (C8.fnScope st)) (hn : N.length = n) (hp : ps.length = np)
    (hb : ∀ (cdv : Value) (A : Around) (outer : List Env) (s : Shared) (H : Hp) (E : XK) (stm : Stm), Room k (A.deeper (envOfC x (C8.fnScope st) s.heap.objs.size f cdv)) →
      SB (cxOf C8.CX0 P w K mg base N x (C8.fnScope st) f cdv A outer s H E).nox stm (C8.fnBody st) m) : C8.Cal P w K mg base (k + 1) x (spS K (runS n np m)) [] := by
  subst hn; subst hp
  refine C8.cal0 F b .nil S (fun vs H Q E h => ?_) fun cdv A outer s H vs Q E hr h => ?_
  · obtain ⟨st, as, s, r, s', G, e, su, sg, sm, ao, q⟩ := h
    rw [ao.len, runS_len e]
  · obtain ⟨st, as, s1, r, s', G, e, su, sg, sm, ao, q⟩ := h
    exact ⟨_, (hb cdv A outer s H E st hr).run, body_run (hb cdv A outer s H E st hr) e su sg sm ao q⟩
theorem cal_P {x : Str} {st : Stmt} {f : Addr} {fd : FuncData} {N ps : List Str} {k n np : Nat} {m : MSt} (F : C8.Def K mg x st f fd) (b : Binds K fd ps []) (S : FnScope N ps (C8.fnScope st)) (hn : N.length = n) (hp : ps.length = np)
    (hb : ∀ (cdv : Value) (A : Around) (outer : List Env) (s : Shared) (H : Hp) (E : XK), Room k (A.deeper (envOfC x (C8.fnScope st) s.heap.objs.size f cdv)) →
      SB (cxOf C8.CX0 P w K mg base N x (C8.fnScope st) f cdv A outer s H E).nox none (C8.fnBody st) m) : C8.Cal P w K mg base (k + 1) x (spP K (runP n np m)) [] := by
  subst hn; subst hp
  refine C8.cal0 F b .nil S (fun vs H Q E h => ?_) fun cdv A outer s H vs Q E hr h => ?_
  · obtain ⟨ds, r, G, e, su, fa, q⟩ := h
    unfold runP at e
    obtain ⟨⟨r', s'⟩, e1, rfl⟩ := Option.map_eq_some_iff.mp e
    have := runS_len e1
    rw [List.length_map] at this
    rw [fa.len, this]
  · obtain ⟨ds, r, G, e, su, fa, q⟩ := h
    unfold runP at e
    obtain ⟨⟨r', s'⟩, e1, rfl⟩ := Option.map_eq_some_iff.mp e
    refine ⟨_, (hb cdv A outer s H E hr).run, body_run (hb cdv A outer s H E hr) e1 su (fun a i => i.elim) trivial fa.args fun v H' G' F p => q v H' G' F ⟨p.gr, p.ok, p.nd, p.ap, trivial⟩⟩
end

/-- all is data -/
def dats : List Rv → Option (List D)
  | [] => some []
  | .t (.fz d) :: l => (dats l).map (d :: ·)
  | _ :: _ => none
theorem RvA.fz {K : PySem.W.Frag} {st : Stm} {G H : Hp} : ∀ {vs : List V} {rs : List Rv} {F : List Addr}, RvA K st G H vs rs F → ∀ {ds : List D}, dats rs = some ds → FzA K G vs ds ∧ F = []
  | _, _, _, .nil, ds, e => by cases e; exact ⟨.nil, rfl⟩
  | _, _, _, @RvA.cons _ _ _ _ v r vs rs F F' h q, ds, e => by
    cases r with
    | tmp t => cases e
    | t t =>
      cases t with
      | fz d =>
        unfold dats at e
        obtain ⟨ds', e', rfl⟩ := Option.map_eq_some_iff.mp e
        obtain ⟨f, rfl⟩ := RvA.fz q e'
        have h : Ow K st G H v (.fz _) F := h
        cases h with
        | fz g => exact ⟨.cons g f, rfl⟩
      | _ => cases e
mutual
theorem Ow.restm {K : PySem.W.Frag} {st : Stm} {G H : Hp} : ∀ {v : V} {t : T} {F : List Addr}, Ow K none G H v t F → (∀ a ∈ F, ¬ inS st a) → Ow K st G H v t F
  | _, _, _, .fz h, _ => .fz h
  | _, _, _, .lst n h r, k => .lst (k _ List.mem_cons_self) h (OwA.restm r fun a ha => k a (List.mem_cons_of_mem _ ha))
  | _, _, _, .tup n h r, k => .tup (k _ List.mem_cons_self) h (OwA.restm r fun a ha => k a (List.mem_cons_of_mem _ ha))
  | _, _, _, .dk n h r, k => .dk (k _ List.mem_cons_self) h (OwK.restm r fun a ha => k a (List.mem_cons_of_mem _ ha))
  | _, _, _, .dt n h r ne, k => .dt (k _ List.mem_cons_self) h (OwT.restm r fun a ha => k a (List.mem_cons_of_mem _ ha)) ne
theorem OwA.restm {K : PySem.W.Frag} {st : Stm} {G H : Hp} : ∀ {v : List V} {t : List T} {F : List Addr}, OwA K none G H v t F → (∀ a ∈ F, ¬ inS st a) → OwA K st G H v t F
  | _, _, _, .nil, _ => .nil
  | _, _, _, .cons h r, k => .cons (Ow.restm h fun a ha => k a (List.mem_append_left _ ha)) (OwA.restm r fun a ha => k a (List.mem_append_right _ ha))
theorem OwK.restm {K : PySem.W.Frag} {st : Stm} {G H : Hp} : ∀ {v : List (Key × V)} {t : List (D × T)} {F : List Addr}, OwK K none G H v t F → (∀ a ∈ F, ¬ inS st a) → OwK K st G H v t F
  | _, _, _, .nil, _ => .nil
  | _, _, _, .cons h r, k => .cons (Ow.restm h fun a ha => k a (List.mem_append_left _ ha)) (OwK.restm r fun a ha => k a (List.mem_append_right _ ha))
theorem OwT.restm {K : PySem.W.Frag} {st : Stm} {G H : Hp} : ∀ {v : List (List Key × V)} {t : List (D × T)} {F : List Addr}, OwT K none G H v t F → (∀ a ∈ F, ¬ inS st a) → OwT K st G H v t F
  | _, _, _, .nil, _ => .nil
  | _, _, _, .cons h r, k => .cons (Ow.restm h fun a ha => k a (List.mem_append_left _ ha)) (OwT.restm r fun a ha => k a (List.mem_append_right _ ha))
end
/-- a leaf that no cell stands behind -/
def D.sc : D → Bool
  | .none => true
  | .bool _ => true
  | .int _ => true
  | .str _ => true
  | _ => false
mutual
def T.flat : T → Bool
  | .fz d => D.sc d
  | .lst l => T.flats l
  | .tup l => T.flats l
  | .dic _ l => T.flatk l
def T.flats : List T → Bool
  | [] => true
  | t :: l => t.flat && T.flats l
def T.flatk : List (D × T) → Bool
  | [] => true
  | (_, t) :: l => t.flat && T.flatk l
end
theorem Fz.sc {K : PySem.W.Frag} {G G' : Hp} {v : V} {d : D} (h : Fz K G v d) (e : D.sc d = true) : Fz K G' v d := by
  cases h with
  | non => exact .non
  | bl b => exact .bl b
  | int i => exact .int i
  | str x => exact .str x
  | lst _ _ => cases e
  | tup _ _ => cases e
  | dk _ _ => cases e
  | dt _ _ _ => cases e
mutual
theorem Ow.flat {K : PySem.W.Frag} {st : Stm} {G G' H : Hp} : ∀ {v : V} {t : T} {F : List Addr}, Ow K st G H v t F → t.flat = true → Ow K st G' H v t F
  | _, _, _, .fz h, e => .fz (h.sc (by rw [T.flat] at e; exact e))
  | _, _, _, .lst n h r, e => .lst n h (OwA.flat r (by rw [T.flat] at e; exact e))
  | _, _, _, .tup n h r, e => .tup n h (OwA.flat r (by rw [T.flat] at e; exact e))
  | _, _, _, .dk n h r, e => .dk n h (OwK.flat r (by rw [T.flat] at e; exact e))
  | _, _, _, .dt n h r ne, e => .dt n h (OwT.flat r (by rw [T.flat] at e; exact e)) ne
theorem OwA.flat {K : PySem.W.Frag} {st : Stm} {G G' H : Hp} : ∀ {v : List V} {t : List T} {F : List Addr}, OwA K st G H v t F → T.flats t = true → OwA K st G' H v t F
  | _, _, _, .nil, _ => .nil
  | _, _, _, .cons h r, e => by
    rw [T.flats, Bool.and_eq_true] at e
    exact .cons (Ow.flat h e.1) (OwA.flat r e.2)
theorem OwK.flat {K : PySem.W.Frag} {st : Stm} {G G' H : Hp} : ∀ {v : List (Key × V)} {t : List (D × T)} {F : List Addr}, OwK K st G H v t F → T.flatk t = true → OwK K st G' H v t F
  | _, _, _, .nil, _ => .nil
  | _, _, _, .cons h r, e => by
    rw [T.flatk, Bool.and_eq_true] at e
    exact .cons (Ow.flat h e.1) (OwK.flat r e.2)
theorem OwT.flat {K : PySem.W.Frag} {st : Stm} {G G' H : Hp} : ∀ {v : List (List Key × V)} {t : List (D × T)} {F : List Addr}, OwT K st G H v t F → T.flatk t = true → OwT K st G' H v t F
  | _, _, _, .nil, _ => .nil
  | _, _, _, .cons h r, e => by
    rw [T.flatk, Bool.and_eq_true] at e
    exact .cons (Ow.flat h e.1) (OwT.flat r e.2)
end
theorem RvA.rds {K : PySem.W.Frag} {st : Stm} {G H : Hp} (su : Sub G H) : ∀ {vs : List V} {rs : List Rv} {F : List Addr}, RvA K st G H vs rs F → FzA K (U H) vs (rs.map Rv.d)
  | _, _, _, .nil => .nil
  | _, _, _, .cons h q => .cons (h.rd su) (RvA.rds su q)

section
variable {X : Cx} {st : Stm} {a b c e : Expr} {ma mb mc m : ME} {pos p : Pos} {es : List Expr} {x : Str} {k j : Nat} {rf : List D → Option T} {ms : MA}
theorem PostE.restm {K : PySem.W.Frag} {H G H' G' : Hp} {r : T} {s : S} {s0 : S} {v : V} {F : List Addr} (at_ : At st s H G) (p : PostE K none H G (.t r) s0 v H' G' F) : PostE K st H G (.t r) s v H' G' F := by
  have y : Ow K none G' H' v r F := p.ok
  have ns : ∀ a, inS st a → H a ≠ none := fun a i e => by
    obtain ⟨o, h⟩ := at_.strm.there i
    rw [e] at h; cases h
  refine ⟨⟨p.gr.le, p.gr.sub, fun a o n h => p.gr.same a o (fun z => z) h, p.gr.new, fun a i => ?_, p.gr.back⟩, y.restm fun a ha i => ns a i (p.ap a ha).1, p.nd, p.ap, ?_⟩
  · cases e : G' a with
    | none => rfl
    | some o => exact absurd (p.gr.new a (at_.sg a i) (by rw [e]; exact fun z => by cases z)) (ns a i)
  · have h := at_.strm
    cases st with
    | none => trivial
    | some q =>
      obtain ⟨x, y⟩ := q
      obtain ⟨h1, h2, h3, h4⟩ := h
      exact ⟨h1, p.gr.same _ _ (fun z => z) h2, p.gr.same _ _ (fun z => z) h3, h4⟩
theorem PostE.afterA {K : PySem.W.Frag} {H G H1 G1 H' G' : Hp} {rs : List Rv} {vs : List V} {s s1 : S} {F0 F : List Addr} {r : Rv} {v : V} (p : PostA K st H G rs s vs H1 G1 F0) (q : PostE K st H1 G1 r s1 v H' G' F) : PostE K st H G r s1 v H' G' F := q.after p.gr
/-- a plain def called: all arguments are data -/
def mCall (rf : List D → Option T) (ms : MA) : ME := fun g s => match ms g s with
  | some (rs, s1) => match dats rs with
    | some ds => (rf ds).map fun t => (.t t, s1)
    | none => none
  | none => none
/-- .. one's own trees lent, a flat answer -/
def mLend (rf : List D → Option T) (ms : MA) : ME := fun g s => match ms g s with
  | some (rs, s1) => match rf (rs.map Rv.d) with
    | some t => if t.flat then some (.t t, s1) else none
    | none => none
  | none => none
theorem se_call (c : C8.Cal X.prog X.w X.K X.mg X.base k x (spP X.K rf) []) (hr : Room j X.A) (hk : k ≤ j) (hg : Gl X x) (ha : SA X st (e :: es) ms)
    (hdb : (x == ("__debug__" : Str)) = false := by decide) (he : starEach (e :: es) X.env = (false, eval e X.env) :: starEach es X.env := by rfl) (hpl : (backTo pos (starEach es X.env)).any (·.1) = false := by rfl) : SE X st (.Call (.Name x p) (e :: es) [] pos) (mCall rf ms) := by
  refine ⟨(C8.pe_c c hr hk hg ha.run hdb he hpl).imp fun σ H Q ⟨g, s, r, s', G, O, e, z, q⟩ => ?_⟩
  unfold mCall at e
  split at e
  · rename_i rs s1 em
    split at e
    · rename_i ds ed
      obtain ⟨t, et, e2⟩ := Option.map_eq_some_iff.mp e
      cases e2
      refine ⟨g, s, rs, _, G, O, em, z, fun vs H1 G1 F p => ?_⟩
      obtain ⟨f, rfl⟩ := p.ok.fz ed
      show spP X.K rf (vs ++ []) H1 Q C8.E0
      rw [List.append_nil]
      exact ⟨ds, t, G1, et, p.gr.sub, f, fun v H' G' F q1 => q v H' G' F (PostE.afterA p (q1.restm ⟨p.gr.sub, p.gr.sg, p.strm⟩))⟩
    · cases e
  · cases e
theorem se_lend (c : C8.Cal X.prog X.w X.K X.mg X.base k x (spP X.K rf) []) (hr : Room j X.A) (hk : k ≤ j) (hg : Gl X x) (ha : SA X st (e :: es) ms)
    (hdb : (x == ("__debug__" : Str)) = false := by decide) (he : starEach (e :: es) X.env = (false, eval e X.env) :: starEach es X.env := by rfl) (hpl : (backTo pos (starEach es X.env)).any (·.1) = false := by rfl) : SE X st (.Call (.Name x p) (e :: es) [] pos) (mLend rf ms) := by
  refine ⟨(C8.pe_c c hr hk hg ha.run hdb he hpl).imp fun σ H Q ⟨g, s, r, s', G, O, e, z, q⟩ => ?_⟩
  unfold mLend at e
  split at e
  · rename_i rs s1 em
    split at e
    · rename_i t et
      split at e
      · rename_i fl
        cases e
        refine ⟨g, s, rs, _, G, O, em, z, fun vs H1 G1 F p => ?_⟩
        have f := p.ok.rds p.gr.sub
        show spP X.K rf (vs ++ []) H1 Q C8.E0
        rw [List.append_nil]
        have at1 : At st s' H1 G1 := ⟨p.gr.sub, p.gr.sg, p.strm⟩
        refine ⟨_, t, U H1, et, .refl _, f, fun v H' G' F q1 => q v H' G1 F (PostE.afterA p ?_)⟩
        have y : Ow X.K none G' H' v t F := q1.ok
        have q2 : PostE X.K none H1 G1 (.t t) S0 v H' G1 F := ⟨⟨.refl _, fun a o e => U_le (fun o h => q1.gr.same a o (fun z => z) h) (p.gr.sub a o e), q1.gr.same, fun a h n => absurd h n, fun a i => i.elim, q1.gr.back⟩, y.flat fl, q1.nd, fun a ha => ⟨(q1.ap a ha).1, p.gr.sub.none (q1.ap a ha).1⟩, trivial⟩
        exact q2.restm at1
      · cases e
    · cases e
  · cases e
end
end DV

namespace DV
open PySem PySem.Spec PyProof.Rows L2

section
variable {X : Cx} {k : Nat} {pos p : Pos}
theorem tg_nm {i : Nat} {x : Str} (h : PG X (.Name x p) (gName i)) : PG X (.Name x p) (Tg.g X.K (.nm i)) := by rw [Tg.g]; exact h
theorem tgs_nil : PGs X [] (Tg.gs X.K []) := by rw [Tg.gs]; exact pgs_nil
theorem tgs_cons {e : Expr} {es : List Expr} {t : Tg} {l : List Tg} (h1 : PG X e (Tg.g X.K t)) (h2 : PGs X es (Tg.gs X.K l))
    (hs : (assignEach (e :: es) X.env).map (·.2) = assign e X.env :: (assignEach es X.env).map (·.2) := by rfl) : PGs X (e :: es) (Tg.gs X.K (t :: l)) := by rw [Tg.gs]; exact pgs_cons h1 h2 hs
theorem tg_tp {es : List Expr} {l : List Tg} (hc : X.calm = true) (h : PGs X es (Tg.gs X.K l)) (hn : (assignEach es X.env).length = l.length := by rfl) (hst : (assignEach es X.env).findIdx? (·.1) = none := by rfl) : PG X (.Tuple es k pos) (Tg.g X.K (.tp l)) := by
  rw [Tg.g]; exact pg_both hc h hn hst
end

/-- the walk J gives the items ds; L: locks -/
structure ItOk (K : PySem.W.Frag) (st : Stm) (J : It) (ds : List D) (H1 G1 : Hp) : Prop where
  go : ∀ (i : Nat) (H G : Hp), Le G1 G → Sub G H → (∀ a o u, H1 a = some (.frz o u) → H a = some (.frz o u)) → i < ds.length → J.go i H
  stop : ∀ (i : Nat) (H G : Hp), Le G1 G → Sub G H → (∀ a o u, H1 a = some (.frz o u) → H a = some (.frz o u)) → ds.length ≤ i → J.stop i H
  yld : ∀ (i : Nat) (H G : Hp) (s : S) (x : V) (H' : Hp), Le G1 G → At st s H G → (∀ a o u, H1 a = some (.frz o u) → H a = some (.frz o u)) → i < ds.length → J.yld i H x H' →
    ∃ G' d, ds[i]? = some d ∧ Fz K G' x d ∧ Grow st H G H' G' ∧ Strm st s H'
abbrev MI := Gm → S → Option (List D × S)
def tI (K : PySem.W.Frag) (st : Stm) (m : MI) : TI := fun σ H R => ∃ g s ds s' G O, m g s = some (ds, s') ∧ St0 K st g s σ H G O ∧
  ∀ J H1 G1, Grow st H G H1 G1 → Strm st s' H1 → ItOk K st J ds H1 G1 → R J H1
structure SI (X : Cx) (st : Stm) (tg e : Expr) (m : MI) : Prop where
  run : PI X tg e (tI X.K st m)
theorem _root_.L2.PI.imp {X : Cx} {tg e : Expr} {t t' : TI} (h : PI X tg e t) (i : ∀ σ H R, t' σ H R → t σ H R) : PI X tg e t' :=
  ⟨fun pins s σ H R I q => h.run pins s σ H R I (i σ H R q)⟩
theorem _root_.L2.PI.or {X : Cx} {tg e : Expr} {t t' : TI} (h : PI X tg e t) (h' : PI X tg e t') : PI X tg e (fun σ H R => t σ H R ∨ t' σ H R) :=
  ⟨fun pins s σ H R I q => q.elim (h.run pins s σ H R I) (h'.run pins s σ H R I)⟩

def dItems : D → Option (List D)
  | .list ds => some ds
  | .tuple ds => some ds
  | .str x => some (x.cps.toList.map fun c => .str ⟨#[c]⟩)
  | _ => none
def mIt (m : ME) : MI := fun g s => match m g s with
  | some (.t t, s') => (dItems t.d).map fun ds => (ds, s')
  | _ => none
theorem FzA.getO {K : PySem.W.Frag} {G : Hp} : ∀ {vs : List V} {ds : List D}, FzA K G vs ds → ∀ {i : Nat} {v : V}, vs[i]? = some v → ∃ d, ds[i]? = some d ∧ Fz K G v d
  | _, _, .nil, i, v, e => by simp at e
  | _, _, .cons h _, 0, v, e => by simp at e; subst e; exact ⟨_, rfl, h⟩
  | _, _, .cons _ r, i + 1, v, e => by
    obtain ⟨d, e1, f⟩ := FzA.getO r (i := i) (by simpa using e)
    exact ⟨d, by simpa using e1, f⟩
theorem it_list {K : PySem.W.Frag} {st : Stm} {H1 G1 : Hp} {a : Addr} {vs : List V} {ds : List D} (h : G1 a = some (.lst vs)) (f : FzA K G1 vs ds) : ItOk K st (Itl K a) ds H1 G1 := by
  have q : ∀ {H G : Hp}, Le G1 G → Sub G H → SqL K H a vs := fun le su => .inl (.inl (U_lst (su _ _ (le _ _ h))))
  refine ⟨fun i H G le su _ hi => ?_, fun i H G le su _ hi => ⟨vs, q le su, by rw [f.len]; exact hi⟩, fun i H G s x H' le at_ _ hi y => ?_⟩
  · rw [← f.len] at hi
    exact ⟨vs, vs[i], q le su, List.getElem?_eq_getElem hi⟩
  · obtain ⟨rfl, y⟩ := y
    obtain ⟨d, e, fd⟩ := f.getO (y vs (q le at_.sub))
    exact ⟨G, d, e, fd.mono le, at_.grow, at_.strm⟩
theorem it_tup {K : PySem.W.Frag} {st : Stm} {H1 G1 : Hp} {a : Addr} {vs : List V} {ds : List D} (h : G1 a = some (.tup vs)) (f : FzA K G1 vs ds) : ItOk K st (Itt K a) ds H1 G1 := by
  have q : ∀ {H G : Hp}, Le G1 G → Sub G H → SqT K H a vs := fun le su => .inl (.inl (U_tup (su _ _ (le _ _ h))))
  refine ⟨fun i H G le su _ hi => ?_, fun i H G le su _ hi => ⟨vs, q le su, by rw [f.len]; exact hi⟩, fun i H G s x H' le at_ _ hi y => ?_⟩
  · rw [← f.len] at hi
    exact ⟨vs, vs[i], q le su, List.getElem?_eq_getElem hi⟩
  · obtain ⟨rfl, y⟩ := y
    obtain ⟨d, e, fd⟩ := f.getO (y vs (q le at_.sub))
    exact ⟨G, d, e, fd.mono le, at_.grow, at_.strm⟩
theorem it_str {K : PySem.W.Frag} {st : Stm} {H1 G1 : Hp} {x : Str} : ItOk K st (Its x) (x.cps.toList.map fun c => .str ⟨#[c]⟩) H1 G1 := by
  refine ⟨fun i H G le su _ hi => ?_, fun i H G le su _ hi => ?_, fun i H G s v H' le at_ _ hi y => ?_⟩
  · rw [List.length_map, Array.length_toList] at hi; exact hi
  · rw [List.length_map, Array.length_toList] at hi; exact hi
  · obtain ⟨rfl, c, e, rfl⟩ := y
    refine ⟨G, .str ⟨#[c]⟩, ?_, .str _, at_.grow, at_.strm⟩
    rw [List.getElem?_map, Array.getElem?_toList, e]; rfl

section
variable {X : Cx} {st : Stm} {a b c e tg : Expr} {ma mb mc m : ME} {pos p : Pos} {es : List Expr} {x : Stmt} {xs ys : List Stmt} {n n1 n2 : MSt} {mi : MI}
theorem si_it (h : SE X st e m) : SI X st tg e (mIt m) := by
  refine ⟨((pi_list h.run).or ((pi_tup h.run).or (pi_str h.run))).imp fun σ H R ⟨g, s, ds, s', G, O, em, z, q⟩ => ?_⟩
  unfold mIt at em
  split at em
  · rename_i t s1 e1
    obtain ⟨ds', ed, e2⟩ := Option.map_eq_some_iff.mp em
    cases e2
    have go : ∀ {v : V} {H' G' : Hp} {F : List Addr}, PostE X.K st H G (.t t) s' v H' G' F → ∃ G2, Fz X.K G2 v t.d ∧ Grow st H G H' G2 ∧ Strm st s' H' ∧ Sub G2 H' := fun p => by
      obtain ⟨G2, f, le, p2⟩ := p.freeze
      exact ⟨G2, f, p2.gr, p2.strm, p2.gr.sub⟩
    cases et : t.d with
    | list l =>
      rw [et] at ed; cases ed
      refine .inl ⟨g, s, _, s', G, O, e1, z, fun v H' G' F p => ?_⟩
      obtain ⟨G2, f, gr, sm, su⟩ := go p
      rw [et] at f
      cases f with
      | lst c r => exact ⟨_, rfl, ⟨_, .inl (.inl (U_lst (su _ _ c)))⟩, q _ H' G2 gr sm (it_list c r)⟩
    | tuple l =>
      rw [et] at ed; cases ed
      refine .inr (.inl ⟨g, s, _, s', G, O, e1, z, fun v H' G' F p => ?_⟩)
      obtain ⟨G2, f, gr, sm, su⟩ := go p
      rw [et] at f
      cases f with
      | tup c r => exact ⟨_, rfl, ⟨_, .inl (.inl (U_tup (su _ _ c)))⟩, q _ H' G2 gr sm (it_tup c r)⟩
    | str x =>
      rw [et] at ed; cases ed
      refine .inr (.inr ⟨g, s, _, s', G, O, e1, z, fun v H' G' F p => ?_⟩)
      obtain ⟨G2, f, gr, sm, su⟩ := go p
      rw [et] at f
      cases f with
      | str x => exact ⟨x, rfl, q _ H' G2 gr sm it_str⟩
    | _ => rw [et] at ed; cases ed
  · cases em

def rngD (lo : Int) (n : Nat) : List D := (List.range n).map fun i => .int (lo + (i : Nat))
def ok62 (j : Int) : Bool := decide (-(2 ^ 62) ≤ j ∧ j < 2 ^ 62)
def mRng1 (ms : MA) : MI := fun g s => match ms g s with
  | some ([x], s') => match x.d with
    | .int j => if ok62 j then some (rngD 0 j.toNat, s') else none
    | _ => none
  | _ => none
def mRng2 (ms : MA) : MI := fun g s => match ms g s with
  | some ([x, y], s') => match x.d, y.d with
    | .int i, .int j => if ok62 i && ok62 j then some (rngD i (j - i).toNat, s') else none
    | _, _ => none
  | _ => none
theorem it_rng {K : PySem.W.Frag} {H1 G1 : Hp} {lo : Int} {n : Nat} : ItOk K st (Itr lo n) (rngD lo n) H1 G1 := by
  have hl : (rngD lo n).length = n := by unfold rngD; rw [List.length_map, List.length_range]
  refine ⟨fun i H G le su _ hi => ?_, fun i H G le su _ hi => ?_, fun i H G s v H' le at_ _ hi y => ?_⟩
  · rw [hl] at hi; exact hi
  · rw [hl] at hi; exact hi
  · obtain ⟨rfl, rfl⟩ := y
    rw [hl] at hi
    refine ⟨G, .int (lo + (i : Nat)), ?_, .int _, at_.grow, at_.strm⟩
    unfold rngD
    rw [List.getElem?_map, List.getElem?_range hi]; rfl
theorem PostA.grow {K : PySem.W.Frag} {H G H' G' : Hp} {rs : List Rv} {s' : S} {vs : List V} {F : List Addr} (p : PostA K st H G rs s' vs H' G' F) : Grow st H G H' G' := p.gr
theorem RvA.one {K : PySem.W.Frag} {G H : Hp} {vs : List V} {x : Rv} {F : List Addr} (h : RvA K st G H vs [x] F) : ∃ v, vs = [v] ∧ RvOk K st G H v x F := by
  cases h with
  | cons h r => cases r; exact ⟨_, rfl, by rw [List.append_nil]; exact h⟩
theorem RvA.two {K : PySem.W.Frag} {G H : Hp} {vs : List V} {x y : Rv} {F : List Addr} (h : RvA K st G H vs [x, y] F) : ∃ v u F1 F2, vs = [v, u] ∧ RvOk K st G H v x F1 ∧ RvOk K st G H u y F2 ∧ F = F1 ++ F2 := by
  cases h with
  | cons h r =>
    obtain ⟨u, rfl, h2⟩ := r.one
    exact ⟨_, u, _, _, rfl, h, h2, rfl⟩
theorem si_rng1 {ms : MA} (hg : Gl X "range") (hm : X.mg "range" = none) (ha : SA X st [a] ms) (hs : starEach [a] X.env = [(false, eval a X.env)] := by rfl) : SI X st tg (.Call (.Name "range" p) [a] [] pos) (mRng1 ms) := by
  refine ⟨(pi_range1 hg hm ha.run hs).imp fun σ H R ⟨g, s, ds, s', G, O, em, z, q⟩ => ?_⟩
  unfold mRng1 at em
  split at em
  · rename_i x s1 e1
    split at em
    · rename_i j ej
      split at em
      · rename_i ok
        cases em
        refine ⟨g, s, _, _, G, O, e1, z, fun vs H1 G1 F p => ?_⟩
        obtain ⟨v, rfl, ov⟩ := p.ok.one
        have f := ov.rd p.gr.sub
        rw [ej] at f; cases f.int_inv
        have ok := of_decide_eq_true ok
        exact ⟨j, rfl, ok.1, ok.2, q _ H1 G1 p.gr p.strm it_rng⟩
      · cases em
    · cases em
  · cases em
theorem si_rng2 {ms : MA} (hg : Gl X "range") (hm : X.mg "range" = none) (ha : SA X st [a, b] ms) (hs : starEach [a, b] X.env = [(false, eval a X.env), (false, eval b X.env)] := by rfl) (hs2 : starEach [b] X.env = [(false, eval b X.env)] := by rfl) :
    SI X st tg (.Call (.Name "range" p) [a, b] [] pos) (mRng2 ms) := by
  refine ⟨(pi_range2 hg hm ha.run hs hs2).imp fun σ H R ⟨g, s, ds, s', G, O, em, z, q⟩ => ?_⟩
  unfold mRng2 at em
  split at em
  · rename_i x y s1 e1
    split at em
    · rename_i i j ei ej
      split at em
      · rename_i ok
        cases em
        refine ⟨g, s, _, _, G, O, e1, z, fun vs H1 G1 F p => ?_⟩
        obtain ⟨v, u, F1, F2, rfl, ov, ou, _⟩ := p.ok.two
        have f := ov.rd p.gr.sub
        have f2 := ou.rd p.gr.sub
        rw [ei] at f; cases f.int_inv
        rw [ej] at f2; cases f2.int_inv
        obtain ⟨o1, o2⟩ := Bool.and_eq_true_iff.mp ok
        have o1 := of_decide_eq_true o1
        have o2 := of_decide_eq_true o2
        exact ⟨i, j, rfl, ⟨o1.1, o1.2, o2.1, o2.2⟩, q _ H1 G1 p.gr p.strm it_rng⟩
      · cases em
    · cases em
  · cases em

def pairI (ds : List D) : List D := ds.zipIdx.map fun p => .tuple [.int (p.2 : Nat), p.1]
def mEnum (ms : MA) : MI := fun g s => match ms g s with
  | some ([.t (.fz (.list ds))], s') => some (pairI ds, s')
  | _ => none
def mZip (ms : MA) : MI := fun g s => match ms g s with
  | some ([.t (.fz (.list xs)), .t (.fz (.list ys))], s') => some (List.zipWith (fun x y => .tuple [x, y]) xs ys, s')
  | some ([.t (.fz (.tuple xs)), .t (.fz (.tuple ys))], s') => some (List.zipWith (fun x y => .tuple [x, y]) xs ys, s')
  | _ => none
theorem new_pair {K : PySem.W.Frag} {H G : Hp} {s : S} {T : Addr} {x y : V} {d1 d2 : D} (at_ : At st s H G) (n : H T = none) (f1 : Fz K G x d1) (f2 : Fz K G y d2) :
    Fz K (upd G T (.tup [x, y])) (.ref T) (.tuple [d1, d2]) ∧ Grow st H G (upd H T (.tup [x, y])) (upd G T (.tup [x, y])) ∧ Strm st s (upd H T (.tup [x, y])) := by
  have gr := at_.grow_upd2 (o := .tup [x, y]) n (fun _ _ z => by cases z)
  exact ⟨.tup upd_same (.cons (f1.mono gr.le) (.cons (f2.mono gr.le) .nil)), gr, at_.strm.of_ne (at_.fresh_ns n)⟩
theorem it_enum {K : PySem.W.Frag} {H1 G1 : Hp} {a : Addr} {vs : List V} {ds : List D} (h : G1 a = some (.lst vs)) (f : FzA K G1 vs ds) : ItOk K st (Ite K a) (pairI ds) H1 G1 := by
  have hl : (pairI ds).length = vs.length := by unfold pairI; rw [List.length_map, List.length_zipIdx, f.len]
  have q : ∀ {H G : Hp}, Le G1 G → Sub G H → SqL K H a vs := fun le su => .inl (.inl (U_lst (su _ _ (le _ _ h))))
  refine ⟨fun i H G le su _ hi => ?_, fun i H G le su _ hi => ⟨vs, q le su, by rw [← hl]; exact hi⟩, fun i H G s x H' le at_ _ hi y => ?_⟩
  · rw [hl] at hi
    exact ⟨vs, vs[i], q le su, List.getElem?_eq_getElem hi⟩
  · obtain ⟨T, x, rfl, n, rfl, y⟩ := y
    obtain ⟨d, e, fd⟩ := f.getO (y vs (q le at_.sub))
    obtain ⟨ft, gr, sm⟩ := new_pair at_ n (.int (i : Nat)) (fd.mono le)
    refine ⟨_, _, ?_, ft, gr, sm⟩
    unfold pairI
    rw [List.getElem?_map, List.getElem?_zipIdx, e]; simp
theorem it_zip {K : PySem.W.Frag} {H1 G1 : Hp} {a b : Addr} {vs us : List V} {xs ys : List D} (h : G1 a = some (.lst vs)) (f : FzA K G1 vs xs) (h2 : G1 b = some (.lst us)) (f2 : FzA K G1 us ys) : ItOk K st (Itz K a b) (List.zipWith (fun x y => .tuple [x, y]) xs ys) H1 G1 := by
  have hl : (List.zipWith (fun x y => PyData.tuple [x, y]) xs ys).length = min vs.length us.length := by rw [List.length_zipWith, f.len, f2.len]
  have q : ∀ {H G : Hp}, Le G1 G → Sub G H → SqL K H a vs := fun le su => .inl (.inl (U_lst (su _ _ (le _ _ h))))
  have q2 : ∀ {H G : Hp}, Le G1 G → Sub G H → SqL K H b us := fun le su => .inl (.inl (U_lst (su _ _ (le _ _ h2))))
  refine ⟨fun i H G le su _ hi => ?_, fun i H G le su _ hi => ⟨vs, us, q le su, q2 le su, by rw [hl] at hi; omega⟩, fun i H G s x H' le at_ _ hi y => ?_⟩
  · rw [hl] at hi
    have i1 : i < vs.length := by omega
    have i2 : i < us.length := by omega
    exact ⟨vs, us, vs[i], us[i], q le su, q2 le su, List.getElem?_eq_getElem i1, List.getElem?_eq_getElem i2⟩
  · obtain ⟨T, x, y', rfl, n, rfl, y1, y2⟩ := y
    obtain ⟨d, e, fd⟩ := f.getO (y1 vs (q le at_.sub))
    obtain ⟨d2, e2, fd2⟩ := f2.getO (y2 us (q2 le at_.sub))
    obtain ⟨ft, gr, sm⟩ := new_pair at_ n (fd.mono le) (fd2.mono le)
    refine ⟨_, _, ?_, ft, gr, sm⟩
    rw [List.getElem?_zipWith, e, e2]
theorem it_zipT {K : PySem.W.Frag} {H1 G1 : Hp} {a b : Addr} {vs us : List V} {xs ys : List D} (h : G1 a = some (.tup vs)) (f : FzA K G1 vs xs) (h2 : G1 b = some (.tup us)) (f2 : FzA K G1 us ys) : ItOk K st (RZ.ItzT K a b) (List.zipWith (fun x y => .tuple [x, y]) xs ys) H1 G1 := by
  have hl : (List.zipWith (fun x y => PyData.tuple [x, y]) xs ys).length = min vs.length us.length := by rw [List.length_zipWith, f.len, f2.len]
  have q : ∀ {H G : Hp}, Le G1 G → Sub G H → SqT K H a vs := fun le su => .inl (.inl (U_tup (su _ _ (le _ _ h))))
  have q2 : ∀ {H G : Hp}, Le G1 G → Sub G H → SqT K H b us := fun le su => .inl (.inl (U_tup (su _ _ (le _ _ h2))))
  refine ⟨fun i H G le su _ hi => ?_, fun i H G le su _ hi => ⟨vs, us, q le su, q2 le su, by rw [hl] at hi; omega⟩, fun i H G s x H' le at_ _ hi y => ?_⟩
  · rw [hl] at hi
    have i1 : i < vs.length := by omega
    have i2 : i < us.length := by omega
    exact ⟨vs, us, vs[i], us[i], q le su, q2 le su, List.getElem?_eq_getElem i1, List.getElem?_eq_getElem i2⟩
  · obtain ⟨T, x, y', rfl, n, rfl, y1, y2⟩ := y
    obtain ⟨d, e, fd⟩ := f.getO (y1 vs (q le at_.sub))
    obtain ⟨d2, e2, fd2⟩ := f2.getO (y2 us (q2 le at_.sub))
    obtain ⟨ft, gr, sm⟩ := new_pair at_ n (fd.mono le) (fd2.mono le)
    refine ⟨_, _, ?_, ft, gr, sm⟩
    rw [List.getElem?_zipWith, e, e2]
theorem RvOk.fzi {K : PySem.W.Frag} {G H : Hp} {v : V} {d : D} {F : List Addr} (h : RvOk K st G H v (.t (.fz d)) F) : Fz K G v d := by
  have h : Ow K st G H v (.fz d) F := h
  cases h with
  | fz f => exact f
theorem si_enum {ms : MA} {tpos : Pos} {elts : List Expr} {kk : Nat} (hg : Gl X "enumerate") (hm : X.mg "enumerate" = none) (ha : SA X st [a] ms) (hs : starEach [a] X.env = [(false, eval a X.env)] := by rfl) :
    SI X st (.Tuple elts kk tpos) (.Call (.Name "enumerate" p) [a] [] pos) (mEnum ms) := by
  refine ⟨(pi_enum hg hm ha.run hs).imp fun σ H R ⟨g, s, ds, s', G, O, em, z, q⟩ => ?_⟩
  unfold mEnum at em
  split at em
  · rename_i ds s1 e1
    cases em
    refine ⟨g, s, _, _, G, O, e1, z, fun vs H1 G1 F p => ?_⟩
    obtain ⟨v, rfl, ov⟩ := p.ok.one
    have f := ov.fzi
    cases f with
    | lst c r => exact ⟨_, _, rfl, .inl (.inl (U_lst (p.gr.sub _ _ c))), q _ H1 G1 p.gr p.strm (it_enum c r)⟩
  · cases em
theorem si_zip {ms : MA} {tpos : Pos} {elts : List Expr} {kk : Nat} (hg : Gl X "zip") (hm : X.mg "zip" = none) (ha : SA X st [a, b] ms)
    (hs : starEach [a, b] X.env = (false, eval a X.env) :: starEach [b] X.env := by rfl) (hpl : (backTo pos (starEach [b] X.env)).any (·.1) = false := by rfl) :
    SI X st (.Tuple elts kk tpos) (.Call (.Name "zip" p) [a, b] [] pos) (mZip ms) := by
  refine ⟨(RZ.pi_zipA hg hm ha.run hs hpl).imp fun σ H R ⟨g, s, ds, s', G, O, em, z, q⟩ => ?_⟩
  unfold mZip at em
  split at em
  · rename_i xs ys s1 e1
    cases em
    refine ⟨g, s, _, _, G, O, e1, z, fun vs H1 G1 F p => ?_⟩
    obtain ⟨v, u, F1, F2, rfl, ov, ou, _⟩ := p.ok.two
    have f := ov.fzi
    have f2 := ou.fzi
    cases f with
    | lst c r =>
      cases f2 with
      | lst c2 r2 => exact ⟨_, _, _, _, rfl, .inl ⟨.inl (.inl (U_lst (p.gr.sub _ _ c))), .inl (.inl (U_lst (p.gr.sub _ _ c2))), q _ H1 G1 p.gr p.strm (it_zip c r c2 r2)⟩⟩
  · rename_i xs ys s1 e1
    cases em
    refine ⟨g, s, _, _, G, O, e1, z, fun vs H1 G1 F p => ?_⟩
    obtain ⟨v, u, F1, F2, rfl, ov, ou, _⟩ := p.ok.two
    have f := ov.fzi
    have f2 := ou.fzi
    cases f with
    | tup c r =>
      cases f2 with
      | tup c2 r2 => exact ⟨_, _, _, _, rfl, .inr ⟨.inl (.inl (U_tup (p.gr.sub _ _ c))), .inl (.inl (U_tup (p.gr.sub _ _ c2))), q _ H1 G1 p.gr p.strm (it_zipT c r c2 r2)⟩⟩
  · cases em

def forL (tg : Tg) (mb : MSt) : List D → Gm → S → Option (Out × Gm × S)
  | [], g, s => some (.nx, g, s)
  | d :: ds, g, s => match bind tg d g with
    | none => none
    | some g1 => match mb g1 s with
      | some (.nx, g2, s2) => forL tg mb ds g2 s2
      | some (.ct, g2, s2) => forL tg mb ds g2 s2
      | some (.bk, g2, s2) => some (.nx, g2, s2)
      | r => r
def mFor (tg : Tg) (mi : MI) (mb : MSt) : MSt := fun g s => match mi g s with
  | some (ds, s1) => forL tg mb ds g s1
  | none => none
theorem Mv.frz {H G H' G' : Hp} {O O' : List Addr} {K : PySem.W.Frag} {g : Gm} {s : S} {σ : Sg} (m : Mv st H G O H' G' O') (z : St0 K st g s σ H G O) {a : Addr} {o : Obj} {u : HO} (h : H a = some (.frz o u)) : H' a = some (.frz o u) := by
  refine m.same a _ (fun i => ?_) (fun hm => ?_) h
  · have q := z.strm
    cases st with
    | none => exact i
    | some p =>
      obtain ⟨x, y⟩ := p
      obtain ⟨_, h2, h3, _⟩ := q
      rcases i with rfl | rfl
      · rw [h] at h2; cases h2
      · rw [h] at h3; cases h3
  · obtain ⟨_, o', e, nf⟩ := z.ra.there a hm
    rw [h] at e; cases e
    exact nf _ _ rfl
theorem for_read {K : PySem.W.Frag} {tgt : Tg} {σ : Sg} {H : Hp} {D : Ends} {tb : TS} {wi : TI} (hb : ∀ D σ H, tS K st n D σ H → tb D σ H) (hw : ∀ R, tI K st mi σ H R → wi σ H R) (h : tS K st (mFor tgt mi n) D σ H) : tFor wi (Tg.g K tgt) tb D σ H := by
  obtain ⟨g, s, o, g', s', G, O, em, z, q⟩ := h
  unfold mFor at em
  split at em
  · rename_i ds s1 e1
    refine hw _ ⟨g, s, ds, s1, G, O, e1, z, fun J H1 G1 gr sm ok => ?_⟩
    have z1 := z.grow gr sm
    refine ⟨fun i m σ2 H2 => m = ds.length - i ∧ i ≤ ds.length ∧ ∃ g2 s2 G2 O2, Mv st H1 G1 O H2 G2 O2 ∧ St0 K st g2 s2 σ2 H2 G2 O2 ∧ forL tgt n (ds.drop i) g2 s2 = some (o, g', s'),
      ⟨ds.length, rfl, Nat.zero_le _, g, s1, G1, O, .refl, z1, em⟩, ?_⟩
    rintro i m σ2 H2 ⟨rfl, hi, g2, s2, G2, O2, mv, z2, ef⟩
    have lk : ∀ a o u, H1 a = some (.frz o u) → H2 a = some (.frz o u) := fun a o u h => mv.frz z1 h
    by_cases hlt : i < ds.length
    · rw [List.drop_eq_getElem_cons hlt] at ef
      unfold forL at ef
      cases eb : bind tgt ds[i] g2 with
      | none => rw [eb] at ef; cases ef
      | some g3 =>
        rw [eb] at ef
        simp only at ef
        refine .inr ⟨ok.go i H2 G2 mv.le z2.sub lk hlt, ?_⟩
        let Nn : Sg → Hp → Prop := fun σ' H' => ∃ g4 s4 G4 O4, Mv st H1 G1 O H' G4 O4 ∧ St0 K st g4 s4 σ' H' G4 O4 ∧ forL tgt n (ds.drop (i + 1)) g4 s4 = some (o, g', s')
        refine ⟨Nn, fun σ' H' hN => ⟨ds.length - (i + 1), by omega, rfl, hlt, hN⟩, fun v H' y => ?_⟩
        obtain ⟨G3, d, ed, fd, gr3, sm3⟩ := ok.yld i H2 G2 s2 v H' mv.le z2.at lk hlt y
        have z3 := z2.grow gr3 sm3
        rw [List.getElem?_eq_getElem hlt] at ed
        cases ed
        refine bind_ok tgt z3 fd eb fun σ4 O4 m4 z4 _ => ?_
        have mv4 : Mv st H1 G1 O H' G3 O4 := mv.trans (gr3.mv.trans ⟨.refl _, fun _ _ _ _ h => h, fun _ h n => absurd h n, fun a ha => .inl (m4 a ha), fun _ h => h⟩)
        cases em2 : n g3 s2 with
        | none => rw [em2] at ef; simp only at ef; cases ef
        | some r =>
          obtain ⟨o5, g5, s5⟩ := r
          rw [em2] at ef
          refine hb _ _ _ ⟨g3, s2, o5, g5, s5, G3, O4, em2, z4, ?_⟩
          cases o5 with
          | nx => exact fun σ6 H6 G6 O6 mv6 z6 => ⟨g5, s5, G6, O6, mv4.trans mv6, z6, ef⟩
          | ct => exact fun σ6 H6 G6 O6 mv6 z6 => ⟨g5, s5, G6, O6, mv4.trans mv6, z6, ef⟩
          | bk =>
            simp only at ef
            cases ef
            exact fun σ6 H6 G6 O6 mv6 z6 => (q.mv gr.mv) σ6 H6 G6 O6 (mv4.trans mv6) z6
          | rt t =>
            simp only at ef
            cases ef
            exact fun w H6 G6 F mv6 at6 ow6 nd6 ap6 => (q.mv gr.mv) w H6 G6 F (mv4.trans mv6) at6 ow6 nd6 ap6
    · have e0 : i = ds.length := by omega
      subst e0
      rw [List.drop_length] at ef
      unfold forL at ef
      cases ef
      exact .inl ⟨ok.stop _ H2 G2 mv.le z2.sub lk (Nat.le_refl _), (q.mv gr.mv) σ2 H2 G2 O2 mv z2⟩
  · cases em
theorem ss_for {tgt : Tg} (hp : PassesOwn (model X.prog X.w) X.A X.env X.xe) (hc : X.calm = true) (hi : SI X st tg e mi) (hg : PG X tg (Tg.g X.K tgt)) (hb : SB X st xs n)
    (hs : ∀ x, foldedSetIterable e X.env x = pure x := by intro _; rfl) : SS X st (.For tg e xs [] pos) (mFor tgt mi n) :=
  ⟨(ps_for hp hc hi.run hg hb.run hs).imp fun D σ H h => for_read (fun _ _ _ h => h) (fun _ h => h) h⟩
/-- while: by a number of turns that is enough -/
def whL (mc : ME) (mb : MSt) : Nat → Gm → S → Option (Out × Gm × S)
  | 0, _, _ => none
  | k + 1, g, s => match mc g s with
    | some (.t (.fz (.bool false)), s1) => some (.nx, g, s1)
    | some (.t (.fz (.bool true)), s1) => match mb g s1 with
      | some (.nx, g2, s2) => whL mc mb k g2 s2
      | some (.ct, g2, s2) => whL mc mb k g2 s2
      | some (.bk, g2, s2) => some (.nx, g2, s2)
      | r => r
    | _ => none
theorem whL_mono {mc : ME} {mb : MSt} : ∀ {k : Nat} {g : Gm} {s : S} {r : Out × Gm × S}, whL mc mb k g s = some r → whL mc mb (k + 1) g s = some r
  | 0, g, s, r, h => by cases h
  | k + 1, g, s, r, h => by
    rw [whL] at h ⊢
    split at h
    · exact h
    · split at h
      · exact whL_mono h
      · exact whL_mono h
      · exact h
      · exact h
    · cases h
open Classical in
/-- the loop's answer, where some number of turns is enough -/
noncomputable def mWh (mc : ME) (mb : MSt) : MSt := fun g s => if h : ∃ k r, whL mc mb k g s = some r then some h.choose_spec.choose else none
theorem whL_le {mc : ME} {mb : MSt} {k j : Nat} {g : Gm} {s : S} {r : Out × Gm × S} (h : whL mc mb k g s = some r) (l : k ≤ j) : whL mc mb j g s = some r := by
  induction l with
  | refl => exact h
  | step _ ih => exact whL_mono ih
theorem mWh_eq {mc : ME} {mb : MSt} {k : Nat} {g : Gm} {s : S} {r : Out × Gm × S} (h : whL mc mb k g s = some r) : mWh mc mb g s = some r := by
  unfold mWh
  have hx : ∃ k r, whL mc mb k g s = some r := ⟨k, r, h⟩
  rw [dif_pos hx]
  have h2 := hx.choose_spec.choose_spec
  have h3 := whL_le h (Nat.le_max_left k hx.choose)
  have h4 := whL_le h2 (Nat.le_max_right k hx.choose)
  rw [h3] at h4
  exact h4.symm
theorem mWh_of {mc : ME} {mb : MSt} {g : Gm} {s : S} {r : Out × Gm × S} (h : mWh mc mb g s = some r) : ∃ k, whL mc mb k g s = some r := by
  unfold mWh at h
  split at h
  · rename_i hx
    cases h
    exact ⟨_, hx.choose_spec.choose_spec⟩
  · cases h
theorem ss_while (hp : PassesOwn (model X.prog X.w) X.A X.env X.xe) (hc : ST X st c mc) (hb : SB X st xs n) : SS X st (.While c xs [] pos) (mWh mc n) := by
  refine ⟨(ps_while hp hc.run hb.run).imp fun D σ H ⟨g, s, o, g', s', G, O, em, z, q⟩ => ?_⟩
  obtain ⟨k0, ek⟩ := mWh_of em
  refine ⟨fun m σ2 H2 => ∃ g2 s2 G2 O2, Mv st H G O H2 G2 O2 ∧ St0 X.K st g2 s2 σ2 H2 G2 O2 ∧ whL mc n m g2 s2 = some (o, g', s'), ⟨k0, g, s, G, O, .refl, z, ek⟩, ?_⟩
  rintro m σ2 H2 ⟨g2, s2, G2, O2, mv, z2, ew⟩
  cases m with
  | zero => cases ew
  | succ k =>
    unfold whL at ew
    split at ew
    · rename_i s3 ec
      cases ew
      refine ⟨_, s2, false, _, G2, O2, ec, z2, fun H3 G3 gr sm => ?_⟩
      exact iteF (q σ2 H3 G3 O2 (mv.trans gr.mv) (z2.grow gr sm))
    · rename_i s3 ec
      refine ⟨g2, s2, true, s3, G2, O2, ec, z2, fun H3 G3 gr sm => ?_⟩
      have z3 := z2.grow gr sm
      have mv3 := mv.trans gr.mv
      refine iteT ⟨fun σ' H' => ∃ g4 s4 G4 O4, Mv st H G O H' G4 O4 ∧ St0 X.K st g4 s4 σ' H' G4 O4 ∧ whL mc n k g4 s4 = some (o, g', s'), fun σ' H' hN => ⟨k, Nat.lt_succ_self _, hN⟩, ?_⟩
      cases em2 : n g2 s3 with
      | none => rw [em2] at ew; simp only at ew; cases ew
      | some r =>
        obtain ⟨o5, g5, s5⟩ := r
        rw [em2] at ew
        refine ⟨g2, s3, o5, g5, s5, G3, O2, em2, z3, ?_⟩
        cases o5 with
        | nx => exact fun σ6 H6 G6 O6 mv6 z6 => ⟨g5, s5, G6, O6, mv3.trans mv6, z6, ew⟩
        | ct => exact fun σ6 H6 G6 O6 mv6 z6 => ⟨g5, s5, G6, O6, mv3.trans mv6, z6, ew⟩
        | bk =>
          simp only at ew
          cases ew
          exact fun σ6 H6 G6 O6 mv6 z6 => q σ6 H6 G6 O6 (mv3.trans mv6) z6
        | rt t =>
          simp only at ew
          cases ew
          exact fun w H6 G6 F mv6 at6 ow6 nd6 ap6 => q w H6 G6 F (mv3.trans mv6) at6 ow6 nd6 ap6
    · cases ew
end
end DV

namespace DV
open PySem PySem.Spec PyProof.Rows L2

/-- slots forgotten -/
def wipeG : Gm → List Nat → Gm
  | g, [] => g
  | g, v :: vs => (wipeG g vs).set v none
section
variable {K : PySem.W.Frag} {st : Stm} {g : Gm} {s s' s1 s2 : S} {σ : Sg} {H H' G G' H1 G1 H2 G2 : Hp} {O F : List Addr}
theorem RA.unset : ∀ {g : Gm} {σ : Sg} {O : List Addr}, RA K st G H g σ O → O.Nodup → ∀ {i : Nat}, ∃ O', RA K st G H (g.set i none) (σ.set i none) O' ∧ O'.Nodup ∧ ∀ a ∈ O', a ∈ O
  | _, _, _, .nil, nd, i => ⟨[], .nil, .nil, fun a ha => ha⟩
  | _, _, _, .non r, nd, 0 => ⟨_, .non r, nd, fun a ha => ha⟩
  | _, _, _, .non r, nd, i + 1 => by
    obtain ⟨O', r', nd', m⟩ := RA.unset r nd (i := i)
    exact ⟨O', .non r', nd', m⟩
  | _, _, _, .s _ r, nd, 0 => ⟨_, .non r, nd, fun a ha => ha⟩
  | _, _, _, .s e r, nd, i + 1 => by
    obtain ⟨O', r', nd', m⟩ := RA.unset r nd (i := i)
    exact ⟨O', .s e r', nd', m⟩
  | _, _, _, .t h r, nd, 0 => ⟨_, .non r, (List.nodup_append.mp nd).2.1, fun a ha => List.mem_append_right _ ha⟩
  | _, _, _, .t h r, nd, i + 1 => by
    obtain ⟨n1, n2, n3⟩ := List.nodup_append.mp nd
    obtain ⟨O', r', nd', m⟩ := RA.unset r n2 (i := i)
    exact ⟨_, .t h r', List.nodup_append.mpr ⟨n1, nd', fun a ha b hb e => n3 a ha b (m b hb) e⟩, fun a ha => (List.mem_append.mp ha).elim (List.mem_append_left _) fun z => List.mem_append_right _ (m a z)⟩
theorem St0.unset (z : St0 K st g s σ H G O) (i : Nat) : ∃ O', St0 K st (g.set i none) s (σ.set i none) H G O' ∧ ∀ a ∈ O', a ∈ O := by
  obtain ⟨O', r', nd', m⟩ := z.ra.unset z.nd (i := i)
  exact ⟨O', ⟨z.sub, r', nd', fun a ha => z.ap a (m a ha), z.sg, z.strm⟩, m⟩
theorem St0.wipe (z : St0 K st g s σ H G O) : ∀ vs : List Nat, ∃ O', St0 K st (wipeG g vs) s (wipe σ vs) H G O' ∧ ∀ a ∈ O', a ∈ O
  | [] => ⟨O, z, fun a ha => ha⟩
  | v :: vs => by
    obtain ⟨O1, z1, m1⟩ := St0.wipe z vs
    obtain ⟨O2, z2, m2⟩ := z1.unset v
    exact ⟨O2, z2, fun a ha => m1 a (m2 a ha)⟩
/-- a new cell of one's own written -/
theorem Grow.own (gr : Grow st H1 G1 H G) {D : Addr} {o o' : HO} (n : H1 D = none) (hD : H D = some o') (gD : G D = none) : Grow st H1 G1 (upd H D o) G where
  le := gr.le
  sub := fun a u e => by
    have ne : a ≠ D := fun z => by rw [z, gD] at e; cases e
    refine U_le (fun o h => ?_) (gr.sub a u e)
    rw [upd_ne ne]; exact h
  same := fun a u i e => by
    have ne : a ≠ D := fun z => by rw [z, n] at e; cases e
    rw [upd_ne ne]; exact gr.same a u i e
  new := gr.new
  sg := gr.sg
  back := fun a e => by
    by_cases z : a = D
    · rw [z]; exact n
    · rw [upd_ne z] at e; exact gr.back a e
theorem St0.own (z : St0 K st g s σ H G O) {D : Addr} {o : HO} (gD : G D = none) (nO : D ∉ O) (ns : ¬ inS st D) : St0 K st g s σ (upd H D o) G O where
  sub := fun a u e => by
    have ne : a ≠ D := fun z => by rw [z, gD] at e; cases e
    refine U_le (fun o h => ?_) (z.sub a u e)
    rw [upd_ne ne]; exact h
  ra := z.ra.keep (.refl G) fun a ha o e => by rw [upd_ne (fun h => nO (by rw [← h]; exact ha))]; exact e
  nd := z.nd
  ap := z.ap
  sg := z.sg
  strm := z.strm.of_ne ns
end

theorem wipe_in {σ : Sg} {i : Nat} : ∀ {vs : List Nat}, i ∈ vs → i < σ.length → (wipe σ vs)[i]? = some none
  | v :: vs, h, hl => by
    unfold wipe
    by_cases e : v = i
    · subst e
      rw [List.getElem?_set_self (by rw [wipe_length]; exact hl)]
    · rw [List.getElem?_set_ne e]
      exact wipe_in ((List.mem_cons.mp h).resolve_left fun z => e z.symm) hl
theorem wipe_idem {σ : Sg} {vs : List Nat} : wipe (wipe σ vs) vs = wipe σ vs := by
  refine List.ext_getElem? fun i => ?_
  by_cases hl : i < σ.length
  · by_cases h : i ∈ vs
    · rw [wipe_in h hl, wipe_in h (by rw [wipe_length]; exact hl)]
    · rw [wipe_out h]
  · rw [List.getElem?_eq_none (by rw [wipe_length, wipe_length]; omega), List.getElem?_eq_none (by rw [wipe_length]; omega)]
/-- the turns of a comprehension -/
def lcL (tg : Tg) (mt me : ME) (g : Gm) : List D → S → Option (List T × S)
  | [], s => some ([], s)
  | d :: ds, s => match bind tg d g with
    | none => none
    | some g1 => match mt g1 s with
      | some (.t (.fz (.bool true)), s1) => match me g1 s1 with
        | some (.t t, s2) => match lcL tg mt me g ds s2 with
          | some (ts, s3) => some (t :: ts, s3)
          | none => none
        | _ => none
      | some (.t (.fz (.bool false)), s1) => lcL tg mt me g ds s1
      | _ => none
def ltLen (n : Nat) : Bool := decide (n < sizeLine)
def mLc (vs : List Nat) (tg : Tg) (mi : MI) (mt me : ME) : ME := fun g s => match mi g s with
  | some (ds, s1) => if ltLen ds.length then match lcL tg mt me (wipeG g vs) ds s1 with
    | some (ts, s2) => some (.t (.lst ts), s2)
    | none => none else none
  | none => none
def mYes : ME := fun _ s => some (.t (.fz (.bool true)), s)
structure STs (X : Cx) (st : Stm) (es : List Expr) (m : ME) : Prop where
  run : PTs X es (tT X.K st m)
theorem _root_.L2.PTs.imp {X : Cx} {e : List Expr} {t t' : TT} (h : PTs X e t) (i : ∀ σ H Q, t' σ H Q → t σ H Q) : PTs X e t' :=
  ⟨fun pins s σ H Q I q => h.run pins s σ H Q I (i σ H Q q)⟩

section
variable {X : Cx} {st : Stm} {a b c e tg : Expr} {ma mb mc m mt me : ME} {pos p : Pos} {es : List Expr} {mi : MI}
theorem sts_nil : STs X st [] mYes := ⟨pts_nil.imp fun σ H Q ⟨g, s, k, s', G, O, e, z, q⟩ => by
  cases e
  exact q H G z.at.grow z.strm⟩
theorem sts_one (h : ST X st c mc) : STs X st [c] mc := ⟨pts_one h.run⟩

theorem OwA.snoc {K : PySem.W.Frag} {G H : Hp} : ∀ {vs : List V} {ts : List T} {F F' : List Addr} {v : V} {t : T}, OwA K st G H vs ts F → Ow K st G H v t F' → OwA K st G H (vs ++ [v]) (ts ++ [t]) (F ++ F')
  | _, _, _, F', v, t, .nil, h => by
    have : OwA K st G H [v] [t] (F' ++ []) := .cons h .nil
    rw [List.append_nil] at this
    exact this
  | _, _, _, F', v, t, .cons h0 r, h => by
    rw [List.append_assoc]
    exact .cons h0 (OwA.snoc r h)
/-- the state of a comprehension between two turns -/
structure LcI (K : PySem.W.Frag) (st : Stm) (g : Gm) (σ : Sg) (H1 G1 : Hp) (D : Addr) (ts : List T) (s : S) (H G : Hp) (O F : List Addr) (acc : List V) : Prop where
  gr : Grow st H1 G1 H G
  z : St0 K st g s σ H G O
  nO : D ∉ O
  hD : H D = some (.lst acc)
  n1 : H1 D = none
  gD : G D = none
  nS : ¬ inS st D
  ow : OwA K st G H acc ts F
  nf : F.Nodup
  nDF : D ∉ F
  fr : ∀ a ∈ F, H1 a = none ∧ G a = none
theorem LcI.start {K : PySem.W.Frag} {g : Gm} {s : S} {σ : Sg} {H1 G1 : Hp} {O : List Addr} (z : St0 K st g s σ H1 G1 O) {D : Addr} (n : H1 D = none) : LcI K st g σ H1 G1 D [] s (upd H1 D (.lst [])) G1 O [] [] := by
  have gD : G1 D = none := z.sub.none n
  have nO : D ∉ O := fun h => by
    obtain ⟨_, o, e, _⟩ := z.ra.there D h
    rw [n] at e; cases e
  exact ⟨z.at.grow_upd n, z.own gD nO (z.at.fresh_ns n), nO, upd_same, n, gD, z.at.fresh_ns n, .nil, .nil, by simp, fun a ha => by simp at ha⟩
theorem LcI.grow {K : PySem.W.Frag} {g : Gm} {s s' : S} {σ : Sg} {H1 G1 H G H' G' : Hp} {D : Addr} {ts : List T} {O F : List Addr} {acc : List V} (h : LcI K st g σ H1 G1 D ts s H G O F acc) (gr' : Grow st H G H' G') (sm' : Strm st s' H') :
    LcI K st g σ H1 G1 D ts s' H' G' O F acc :=
  ⟨h.gr.trans gr', h.z.grow gr' sm', h.nO, gr'.same _ _ h.nS h.hD, h.n1, gr'.none_of h.hD h.gD, h.nS, h.ow.keep gr'.le fun a ha o e => gr'.same a o (h.ow.there a ha).1 e, h.nf, h.nDF, fun a ha => by
    obtain ⟨_, o, e, _⟩ := h.ow.there a ha
    exact ⟨(h.fr a ha).1, gr'.none_of e (h.fr a ha).2⟩⟩
theorem LcI.push {K : PySem.W.Frag} {g : Gm} {s s' : S} {σ : Sg} {H1 G1 H G H' G' : Hp} {D : Addr} {ts : List T} {O F F' : List Addr} {acc : List V} {v : V} {t : T} (h : LcI K st g σ H1 G1 D ts s H G O F acc) (p : PostE K st H G (.t t) s' v H' G' F') :
    H' D = some (.lst acc) ∧ LcI K st g σ H1 G1 D (ts ++ [t]) s' (upd H' D (.lst (acc ++ [v]))) G' O (F ++ F') (acc ++ [v]) := by
  have h' := h.grow p.gr p.strm
  have y : Ow K st G' H' v t F' := p.ok
  have nD' : D ∉ F' := fun hm => by
    have := (p.ap D hm).1
    rw [h.hD] at this; cases this
  have up : ∀ a ∈ F ++ F', ∀ o, H' a = some o → upd H' D (.lst (acc ++ [v])) a = some o := fun a ha o e => by
    have ne : a ≠ D := fun z => by
      subst z
      exact (List.mem_append.mp ha).elim h.nDF nD'
    rw [upd_ne ne]; exact e
  refine ⟨h'.hD, h'.gr.own h.n1 h'.hD h'.gD, h'.z.own h'.gD h.nO h.nS, h.nO, upd_same, h.n1, h'.gD, h.nS, OwA.keep (.refl _) (h'.ow.snoc y) up, List.nodup_append.mpr ⟨h.nf, p.nd, fun a ha b hb e => ?_⟩, fun hm => (List.mem_append.mp hm).elim h.nDF nD', fun a ha => ?_⟩
  · subst e
    obtain ⟨_, o, e, _⟩ := h.ow.there a ha
    rw [(p.ap a hb).1] at e; cases e
  · rcases List.mem_append.mp ha with ha | ha
    · exact h'.fr a ha
    · exact ⟨h.gr.back a (p.ap a ha).1, (p.ap a ha).2⟩
theorem LcI.fin {K : PySem.W.Frag} {g : Gm} {s : S} {σ : Sg} {H1 G1 H G : Hp} {D : Addr} {ts : List T} {O F : List Addr} {acc : List V} (h : LcI K st g σ H1 G1 D ts s H G O F acc) : PostE K st H1 G1 (.t (.lst ts)) s (.ref D) H G (D :: F) :=
  ⟨h.gr, .lst h.nS h.hD h.ow, List.nodup_cons.mpr ⟨h.nDF, h.nf⟩, fun a ha => by
    rcases List.mem_cons.mp ha with rfl | ha
    · exact ⟨h.n1, h.gD⟩
    · exact h.fr a ha, h.z.strm⟩
theorem Grow.frz {K : PySem.W.Frag} {H G H' G' : Hp} {O : List Addr} {g : Gm} {s : S} {σ : Sg} (gr : Grow st H G H' G') (z : St0 K st g s σ H G O) {a : Addr} {o : Obj} {u : HO} (h : H a = some (.frz o u)) : H' a = some (.frz o u) := Mv.frz (O' := O) gr.mv z h
/-- the reading of a list comprehension -/
theorem lc_read {K : PySem.W.Frag} {tgt : Tg} {vs : List Nat} {σ : Sg} {H : Hp} {Q : VK} {wi : TI} (hw : ∀ R, tI K st mi σ H R → wi σ H R) (hv : ∀ i ∈ tgt.slots, i ∈ vs) (h : tE K st (mLc vs tgt mi mt me) σ H Q) :
    tLc wi (Tg.g K tgt) (tT K st mt) (tE K st me) vs σ H Q := by
  obtain ⟨g, s, r, s', G, O, em, z, q⟩ := h
  unfold mLc at em
  split at em
  · rename_i ds s1 e1
    split at em
    · rename_i hl
      have hl := of_decide_eq_true hl
      split at em
      · rename_i ts s2 e2
        cases em
        refine hw _ ⟨g, s, ds, s1, G, O, e1, z, fun J H1 G1 gr sm ok D nD => ?_⟩
        have z1 := z.grow gr sm
        obtain ⟨Ow, zw, mw⟩ := z1.wipe vs
        refine ⟨fun i m H2 => m = ds.length - i ∧ i ≤ ds.length ∧ ∃ t1 t2 s3 G2 O2 F acc, LcI K st (wipeG g vs) (L2.wipe σ vs) H1 G1 D t1 s3 H2 G2 O2 F acc ∧ acc.length ≤ i ∧ (∀ a o u, H1 a = some (.frz o u) → H2 a = some (.frz o u)) ∧ lcL tgt mt me (wipeG g vs) (ds.drop i) s3 = some (t2, s') ∧ ts = t1 ++ t2,
          ⟨ds.length, rfl, Nat.zero_le _, [], ts, s1, _, _, _, _, LcI.start zw nD, Nat.zero_le _, fun a o u e => by rw [upd_ne (ne_of_none e nD)]; exact e, e2, rfl⟩, ?_⟩
        rintro i m H2 ⟨rfl, hi, t1, t2, s3, G2, O2, F, acc, li, la, lk, ef, rfl⟩
        by_cases hlt : i < ds.length
        · rw [List.drop_eq_getElem_cons hlt] at ef
          unfold lcL at ef
          refine .inr ⟨ok.go i H2 G2 li.gr.le li.z.sub lk hlt, ?_⟩
          split at ef
          · cases ef
          · rename_i g1 eb
            let Nn : Hp → Prop := fun H' => ∃ t1' t2' s4 G4 O4 F4 acc4, LcI K st (wipeG g vs) (L2.wipe σ vs) H1 G1 D t1' s4 H' G4 O4 F4 acc4 ∧ acc4.length ≤ i + 1 ∧ (∀ a o u, H1 a = some (.frz o u) → H' a = some (.frz o u)) ∧ lcL tgt mt me (wipeG g vs) (ds.drop (i + 1)) s4 = some (t2', s') ∧ t1 ++ t2 = t1' ++ t2'
            refine ⟨Nn, fun H' hN => ⟨ds.length - (i + 1), by omega, rfl, hlt, hN⟩, fun v H' y => ?_⟩
            obtain ⟨G3, d, ed, fd, gr3, sm3⟩ := ok.yld i H2 G2 s3 v H' li.gr.le li.z.at lk hlt y
            have li3 := li.grow gr3 sm3
            have lk3 : ∀ a o u, H1 a = some (.frz o u) → H' a = some (.frz o u) := fun a o u e => gr3.frz li.z (lk a o u e)
            rw [List.getElem?_eq_getElem hlt] at ed
            cases ed
            refine bind_ok tgt li3.z fd eb fun σ4 O4 m4 z4 w4 => ⟨(w4 vs hv).trans wipe_idem, ?_⟩
            split at ef
            · rename_i s4 et
              refine ⟨g1, s3, true, s4, G3, O4, et, z4, fun H4 G4 gr4 sm4 => iteT ?_⟩
              have li4 := li3.grow gr4 sm4
              split at ef
              · rename_i t s5 ee
                split at ef
                · rename_i ts6 s6 e6
                  cases ef
                  refine ⟨g1, s4, _, s5, G4, O4, ee, z4.grow gr4 sm4, fun y H5 G5 F5 p => ?_⟩
                  obtain ⟨hD, li5⟩ := li4.push p
                  refine ⟨acc, hD, Nat.lt_of_le_of_lt la (Nat.lt_of_le_of_lt hi hl), t1 ++ [t], ts6, s5, G5, _, _, _, li5, by rw [List.length_append]; exact Nat.succ_le_succ la, fun a o u e => ?_, e6, by simp⟩
                  have e4 := p.gr.frz li4.z (gr4.frz li3.z (lk3 a o u e))
                  have ne : a ≠ D := fun z => by rw [z, nD] at e; cases e
                  rw [upd_ne ne]; exact e4
                · cases ef
              · cases ef
            · rename_i s4 et
              refine ⟨g1, s3, false, s4, G3, O4, et, z4, fun H4 G4 gr4 sm4 => iteF ?_⟩
              exact ⟨t1, t2, s4, G4, _, _, _, li3.grow gr4 sm4, Nat.le_succ_of_le la, fun a o u e => gr4.frz li3.z (lk3 a o u e), ef, rfl⟩
            · cases ef
        · have e0 : i = ds.length := by omega
          subst e0
          rw [List.drop_length] at ef
          unfold lcL at ef
          cases ef
          rw [List.append_nil] at q
          exact .inl ⟨ok.stop _ H2 G2 li.gr.le li.z.sub lk (Nat.le_refl _), q _ H2 G2 _ (li.fin.after gr)⟩
      · cases em
    · cases em
  · cases em
theorem se_lc {elt iter : Expr} {ifs : List Expr} {scope : Scope} {own : List (Str × Nat)} {tgt : Tg} (hc : X.calm = true) (hN : X.N.Nodup) (hi : SI X st tg iter mi) (ok : BlkOk X.N X.env.scope scope own) (hv : ∀ i ∈ tgt.slots, i ∈ own.map (·.2))
    (hg : ∀ (s : Shared) (H : Hp) (C : Addr) (cl : List (Str × Addr)) (fp : List Addr), PG (X.blk s H scope (compEnvC scope cl C X.env) fp) tg (Tg.g X.K tgt)) (ht : ∀ (s : Shared) (H : Hp) (C : Addr) (cl : List (Str × Addr)) (fp : List Addr), STs (X.blk s H scope (compEnvC scope cl C X.env) fp) st ifs mt)
    (he : ∀ (s : Shared) (H : Hp) (C : Addr) (cl : List (Str × Addr)) (fp : List Addr), SE (X.blk s H scope (compEnvC scope cl C X.env) fp) st elt me) (hs : ∀ x, foldedSetIterable iter X.env x = pure x := by intro _; rfl) :
    SE X st (.ListComp elt [⟨tg, iter, ifs, 0⟩] scope pos) (mLc (own.map (·.2)) tgt mi mt me) :=
  ⟨(pe_lc (te := tE X.K st me) (tt := tT X.K st mt) hc hN hi.run ok hg (fun s H C cl fp => (ht s H C cl fp).run) (fun s H C cl fp => (he s H C cl fp).run) hs).imp fun σ H Q h => lc_read (fun _ h => h) hv h⟩
theorem ss_setLc {i : Nat} {y : Str} {py : Pos} {elt iter : Expr} {ifs : List Expr} {scope : Scope} {own : List (Str × Nat)} {tgt : Tg} {spos : Pos} (hc : X.calm = true) (hN : X.N.Nodup) (hy : X.N[i]? = some y) (hyl : X.env.scope.names.lookup y = some .local)
    (hsw : swapsWith (.ListComp elt [⟨tg, iter, ifs, 0⟩] scope pos) (some (.Name y py)) spos.line X.env = pure true) (hi : SI X st tg iter mi) (ok : BlkOk X.N X.env.scope scope own) (hv : ∀ i ∈ tgt.slots, i ∈ own.map (·.2))
    (hg : ∀ (s : Shared) (H : Hp) (C : Addr) (cl : List (Str × Addr)) (fp : List Addr), PG (X.blk s H scope (compEnvC scope cl C X.env) fp) tg (Tg.g X.K tgt)) (ht : ∀ (s : Shared) (H : Hp) (C : Addr) (cl : List (Str × Addr)) (fp : List Addr), STs (X.blk s H scope (compEnvC scope cl C X.env) fp) st ifs mt)
    (he : ∀ (s : Shared) (H : Hp) (C : Addr) (cl : List (Str × Addr)) (fp : List Addr), SE (X.blk s H scope (compEnvC scope cl C X.env) fp) st elt me) (hs : ∀ x, foldedSetIterable iter X.env x = pure x := by intro _; rfl) :
    SS X st (.Assign [.Name y py] (.ListComp elt [⟨tg, iter, ifs, 0⟩] scope pos) spos) (mSet i (mLc (own.map (·.2)) tgt mi mt me)) := by
  refine ⟨(ps_setLc (te := tE X.K st me) (tt := tT X.K st mt) hc hN hy hyl hsw hi.run ok hg (fun s H C cl fp => (ht s H C cl fp).run) (fun s H C cl fp => (he s H C cl fp).run) hs).imp fun D σ H ⟨g, s, o, g', s', G, O, e, z, q⟩ => ?_⟩
  unfold mSet at e
  split at e
  · rename_i t s1 em
    cases e
    refine lc_read (Q := fun v H' => gName i v σ H' D.nx) (fun _ h => h) hv ⟨g, s, _, _, G, O, em, z, fun v H' G' F p => ?_⟩
    obtain ⟨O', z', mv⟩ := z.set (i := i) p
    exact q _ H' G' O' mv z'
  · cases e
end
end DV

namespace DV
open PySem PySem.Spec PyProof.Rows L2

/-- the part w (for u) of what stands on the cells F may be changed in its place; C: what then stands -/
structure Hole (K : PySem.W.Frag) (st : Stm) (G H : Hp) (F : List Addr) (w : V) (u : T) (Fu : List Addr) (C : Hp → Hp → T → List Addr → Prop) : Prop where
  ow : Ow K st G H w u Fu
  nd : Fu.Nodup
  sub : ∀ a ∈ Fu, a ∈ F
  put : ∀ (G' H' : Hp) (u' : T) (Fu' : List Addr), Le G G' → (∀ a ∈ F, a ∉ Fu → ∀ o, H a = some o → H' a = some o) → Ow K st G' H' w u' Fu' → Fu'.Nodup → (∀ a ∈ Fu', a ∈ Fu ∨ a ∉ F) →
    ∃ F', C G' H' u' F' ∧ F'.Nodup ∧ ∀ a ∈ F', a ∈ Fu' ∨ (a ∈ F ∧ a ∉ Fu)
section
variable {K : PySem.W.Frag} {st : Stm} {G H G' H' : Hp} {F Fu : List Addr} {w : V} {u : T} {C : Hp → Hp → T → List Addr → Prop}
theorem Hole.grow (h : Hole K st G H F w u Fu C) (le : Le G G') (k : ∀ a ∈ F, ∀ o, H a = some o → H' a = some o) : Hole K st G' H' F w u Fu C :=
  ⟨h.ow.keep le fun a ha => k a (h.sub a ha), h.nd, h.sub, fun G2 H2 u2 F2 l2 k2 => h.put G2 H2 u2 F2 (le.trans l2) fun a ha n o e => k2 a ha n o (k a ha o e)⟩
/-- list items -/
def repL (ts : List T) (j : Nat) (u : T) : List T := ts.set j u
theorem OwA.hole : ∀ {vs : List V} {ts : List T} {F : List Addr}, OwA K st G H vs ts F → F.Nodup → ∀ {j : Nat} {c : T}, ts[j]? = some c →
    ∃ w Fc, vs[j]? = some w ∧ Hole K st G H F w c Fc fun G' H' c' F' => OwA K st G' H' vs (ts.set j c') F'
  | _, _, _, .nil, nd, j, c, e => by simp at e
  | _, _, _, @OwA.cons _ _ _ _ v t vs ts F1 F2 h r, nd, 0, c, e => by
    simp at e; subst e
    obtain ⟨n1, n2, n3⟩ := List.nodup_append.mp nd
    refine ⟨v, F1, rfl, h, n1, fun a ha => List.mem_append_left _ ha, fun G' H' u' Fu' le k ow nf m => ?_⟩
    refine ⟨Fu' ++ F2, .cons ow (r.keep le fun a ha => k a (List.mem_append_right _ ha) fun z => n3 a z a ha rfl), List.nodup_append.mpr ⟨nf, n2, fun a ha b hb e => ?_⟩, fun a ha => ?_⟩
    · subst e
      exact (m a ha).elim (fun z => n3 a z a hb rfl) fun z => z (List.mem_append_right _ hb)
    · exact (List.mem_append.mp ha).elim .inl fun z => .inr ⟨List.mem_append_right _ z, fun y => n3 a y a z rfl⟩
  | _, _, _, @OwA.cons _ _ _ _ v t vs ts F1 F2 h r, nd, j + 1, c, e => by
    obtain ⟨n1, n2, n3⟩ := List.nodup_append.mp nd
    obtain ⟨w, Fc, e1, o⟩ := OwA.hole r n2 (j := j) (c := c) (by simpa using e)
    refine ⟨w, Fc, by simpa using e1, o.ow, o.nd, fun a ha => List.mem_append_right _ (o.sub a ha), fun G' H' u' Fu' le k ow nf m => ?_⟩
    obtain ⟨F', c1, c2, c3⟩ := o.put G' H' u' Fu' le (fun a ha => k a (List.mem_append_right _ ha)) ow nf fun a ha => (m a ha).imp id fun z y => z (List.mem_append_right _ y)
    refine ⟨F1 ++ F', .cons (h.keep le fun a ha => k a (List.mem_append_left _ ha) fun z => n3 a ha a (o.sub a z) rfl) c1, List.nodup_append.mpr ⟨n1, c2, fun a ha b hb e => ?_⟩, fun a ha => ?_⟩
    · subst e
      rcases c3 a hb with z | z
      · exact (m a z).elim (fun y => n3 a ha a (o.sub a y) rfl) fun y => y (List.mem_append_left _ ha)
      · exact n3 a ha a z.1 rfl
    · rcases List.mem_append.mp ha with z | z
      · exact .inr ⟨List.mem_append_left _ z, fun y => n3 a z a (o.sub a y) rfl⟩
      · exact (c3 a z).imp id fun y => ⟨List.mem_append_right _ y.1, y.2⟩
/-- a dict's value -/
def tRep : List (D × T) → D → T → List (D × T)
  | [], _, _ => []
  | (k', v') :: l, k, v => if PyData.eqv k' k then (k', v) :: l else (k', v') :: tRep l k v
theorem tRep_ne {l : List (D × T)} {k : D} {v : T} (h : l ≠ []) : tRep l k v ≠ [] := by
  cases l with
  | nil => exact absurd rfl h
  | cons p l =>
    obtain ⟨k', v'⟩ := p
    rw [tRep]
    split <;> exact List.cons_ne_nil _ _
theorem OwK.hole : ∀ {vs : List (Key × V)} {ts : List (D × T)} {F : List Addr}, OwK K st G H vs ts F → F.Nodup → ∀ {k : Key} {c : T}, tLook ts (keyD k) = some c →
    ∃ w Fc, valV vs k = some w ∧ Hole K st G H F w c Fc fun G' H' c' F' => OwK K st G' H' vs (tRep ts (keyD k) c') F'
  | _, _, _, .nil, nd, k, c, e => by simp [tLook] at e
  | _, _, _, @OwK.cons _ _ _ _ k' v t vs ts F1 F2 h r, nd, k, c, e => by
    obtain ⟨n1, n2, n3⟩ := List.nodup_append.mp nd
    by_cases ek : k' = k
    · subst ek
      have e0 : t = c := by simpa [tLook, eqv_key] using e
      subst e0
      refine ⟨v, F1, valV_pos rfl, h, n1, fun a ha => List.mem_append_left _ ha, fun G' H' u' Fu' le k ow nf m => ?_⟩
      refine ⟨Fu' ++ F2, ?_, List.nodup_append.mpr ⟨nf, n2, fun a ha b hb e => ?_⟩, fun a ha => ?_⟩
      · rw [tRep, if_pos (by simp [eqv_key])]
        exact .cons ow (r.keep le fun a ha => k a (List.mem_append_right _ ha) fun z => n3 a z a ha rfl)
      · subst e
        exact (m a ha).elim (fun z => n3 a z a hb rfl) fun z => z (List.mem_append_right _ hb)
      · exact (List.mem_append.mp ha).elim .inl fun z => .inr ⟨List.mem_append_right _ z, fun y => n3 a y a z rfl⟩
    · have e2 : tLook ts (keyD k) = some c := by
        unfold tLook at e ⊢
        rwa [List.find?_cons_of_neg (by simp [eqv_key, ek])] at e
      obtain ⟨w, Fc, e1, o⟩ := OwK.hole r n2 e2
      refine ⟨w, Fc, (valV_neg ek).trans e1, o.ow, o.nd, fun a ha => List.mem_append_right _ (o.sub a ha), fun G' H' u' Fu' le k2 ow nf m => ?_⟩
      obtain ⟨F', c1, c2, c3⟩ := o.put G' H' u' Fu' le (fun a ha => k2 a (List.mem_append_right _ ha)) ow nf fun a ha => (m a ha).imp id fun z y => z (List.mem_append_right _ y)
      refine ⟨F1 ++ F', ?_, List.nodup_append.mpr ⟨n1, c2, fun a ha b hb e => ?_⟩, fun a ha => ?_⟩
      · rw [tRep, if_neg (by simp [eqv_key, ek])]
        exact .cons (h.keep le fun a ha => k2 a (List.mem_append_left _ ha) fun z => n3 a ha a (o.sub a z) rfl) c1
      · subst e
        rcases c3 a hb with z | z
        · exact (m a z).elim (fun y => n3 a ha a (o.sub a y) rfl) fun y => y (List.mem_append_left _ ha)
        · exact n3 a ha a z.1 rfl
      · rcases List.mem_append.mp ha with z | z
        · exact .inr ⟨List.mem_append_left _ z, fun y => n3 a z a (o.sub a y) rfl⟩
        · exact (c3 a z).imp id fun y => ⟨List.mem_append_right _ y.1, y.2⟩
theorem OwT.hole : ∀ {vs : List (List Key × V)} {ts : List (D × T)} {F : List Addr}, OwT K st G H vs ts F → F.Nodup → ∀ {k : List Key} {c : T}, tLook ts (keyTD k) = some c →
    ∃ w Fc, valV vs k = some w ∧ Hole K st G H F w c Fc fun G' H' c' F' => OwT K st G' H' vs (tRep ts (keyTD k) c') F'
  | _, _, _, .nil, nd, k, c, e => by simp [tLook] at e
  | _, _, _, @OwT.cons _ _ _ _ k' v t vs ts F1 F2 h r, nd, k, c, e => by
    obtain ⟨n1, n2, n3⟩ := List.nodup_append.mp nd
    by_cases ek : k' = k
    · subst ek
      have e0 : t = c := by simpa [tLook, eqv_keyT] using e
      subst e0
      refine ⟨v, F1, valV_pos rfl, h, n1, fun a ha => List.mem_append_left _ ha, fun G' H' u' Fu' le k ow nf m => ?_⟩
      refine ⟨Fu' ++ F2, ?_, List.nodup_append.mpr ⟨nf, n2, fun a ha b hb e => ?_⟩, fun a ha => ?_⟩
      · rw [tRep, if_pos (by simp [eqv_keyT])]
        exact .cons ow (r.keep le fun a ha => k a (List.mem_append_right _ ha) fun z => n3 a z a ha rfl)
      · subst e
        exact (m a ha).elim (fun z => n3 a z a hb rfl) fun z => z (List.mem_append_right _ hb)
      · exact (List.mem_append.mp ha).elim .inl fun z => .inr ⟨List.mem_append_right _ z, fun y => n3 a y a z rfl⟩
    · have e2 : tLook ts (keyTD k) = some c := by
        unfold tLook at e ⊢
        rwa [List.find?_cons_of_neg (by simp [eqv_keyT, ek])] at e
      obtain ⟨w, Fc, e1, o⟩ := OwT.hole r n2 e2
      refine ⟨w, Fc, (valV_neg ek).trans e1, o.ow, o.nd, fun a ha => List.mem_append_right _ (o.sub a ha), fun G' H' u' Fu' le k2 ow nf m => ?_⟩
      obtain ⟨F', c1, c2, c3⟩ := o.put G' H' u' Fu' le (fun a ha => k2 a (List.mem_append_right _ ha)) ow nf fun a ha => (m a ha).imp id fun z y => z (List.mem_append_right _ y)
      refine ⟨F1 ++ F', ?_, List.nodup_append.mpr ⟨n1, c2, fun a ha b hb e => ?_⟩, fun a ha => ?_⟩
      · rw [tRep, if_neg (by simp [eqv_keyT, ek])]
        exact .cons (h.keep le fun a ha => k2 a (List.mem_append_left _ ha) fun z => n3 a ha a (o.sub a z) rfl) c1
      · subst e
        rcases c3 a hb with z | z
        · exact (m a z).elim (fun y => n3 a ha a (o.sub a y) rfl) fun y => y (List.mem_append_left _ ha)
        · exact n3 a ha a z.1 rfl
      · rcases List.mem_append.mp ha with z | z
        · exact .inr ⟨List.mem_append_left _ z, fun y => n3 a z a (o.sub a y) rfl⟩
        · exact (c3 a z).imp id fun y => ⟨List.mem_append_right _ y.1, y.2⟩
/-- a slot's own tree -/
theorem RA.hole : ∀ {g : Gm} {σ : Sg} {O : List Addr}, RA K st G H g σ O → O.Nodup → ∀ {i : Nat} {t : T}, g[i]? = some (some (.t t)) →
    ∃ v F, σ[i]? = some (some v) ∧ Hole K st G H O v t F fun G' H' t' O' => RA K st G' H' (setS g i t') σ O'
  | _, _, _, .nil, nd, i, x, e => by simp at e
  | _, _, _, .non r, nd, 0, x, e => by simp at e
  | _, _, _, .non r, nd, i + 1, x, e => by
    obtain ⟨v, F, e1, o⟩ := RA.hole r nd (i := i) (t := x) (by simpa using e)
    refine ⟨v, F, by simpa using e1, o.ow, o.nd, o.sub, fun G' H' u' Fu' le k ow nf m => ?_⟩
    obtain ⟨F', c1, c2, c3⟩ := o.put G' H' u' Fu' le k ow nf m
    exact ⟨F', .non c1, c2, c3⟩
  | _, _, _, .s _ r, nd, 0, x, e => by simp at e
  | _, _, _, .s es r, nd, i + 1, x, e => by
    obtain ⟨v, F, e1, o⟩ := RA.hole r nd (i := i) (t := x) (by simpa using e)
    refine ⟨v, F, by simpa using e1, o.ow, o.nd, o.sub, fun G' H' u' Fu' le k ow nf m => ?_⟩
    obtain ⟨F', c1, c2, c3⟩ := o.put G' H' u' Fu' le k ow nf m
    exact ⟨F', .s es c1, c2, c3⟩
  | _, _, _, @RA.t _ _ _ _ g σ F2 F1 v t0 h r, nd, 0, x, e => by
    simp at e; subst e
    obtain ⟨n1, n2, n3⟩ := List.nodup_append.mp nd
    refine ⟨v, F1, rfl, h, n1, fun a ha => List.mem_append_left _ ha, fun G' H' u' Fu' le k ow nf m => ?_⟩
    refine ⟨Fu' ++ F2, .t ow (r.keep le fun a ha => k a (List.mem_append_right _ ha) fun z => n3 a z a ha rfl), List.nodup_append.mpr ⟨nf, n2, fun a ha b hb e => ?_⟩, fun a ha => ?_⟩
    · subst e
      exact (m a ha).elim (fun z => n3 a z a hb rfl) fun z => z (List.mem_append_right _ hb)
    · exact (List.mem_append.mp ha).elim .inl fun z => .inr ⟨List.mem_append_right _ z, fun y => n3 a y a z rfl⟩
  | _, _, _, @RA.t _ _ _ _ g σ F2 F1 v t0 h r, nd, i + 1, x, e => by
    obtain ⟨n1, n2, n3⟩ := List.nodup_append.mp nd
    obtain ⟨w, Fc, e1, o⟩ := RA.hole r n2 (i := i) (t := x) (by simpa using e)
    refine ⟨w, Fc, by simpa using e1, o.ow, o.nd, fun a ha => List.mem_append_right _ (o.sub a ha), fun G' H' u' Fu' le k ow nf m => ?_⟩
    obtain ⟨F', c1, c2, c3⟩ := o.put G' H' u' Fu' le (fun a ha => k a (List.mem_append_right _ ha)) ow nf fun a ha => (m a ha).imp id fun z y => z (List.mem_append_right _ y)
    refine ⟨F1 ++ F', .t (h.keep le fun a ha => k a (List.mem_append_left _ ha) fun z => n3 a ha a (o.sub a z) rfl) c1, List.nodup_append.mpr ⟨n1, c2, fun a ha b hb e => ?_⟩, fun a ha => ?_⟩
    · subst e
      rcases c3 a hb with z | z
      · exact (m a z).elim (fun y => n3 a ha a (o.sub a y) rfl) fun y => y (List.mem_append_left _ ha)
      · exact n3 a ha a z.1 rfl
    · rcases List.mem_append.mp ha with z | z
      · exact .inr ⟨List.mem_append_left _ z, fun y => n3 a z a (o.sub a y) rfl⟩
      · exact (c3 a z).imp id fun y => ⟨List.mem_append_right _ y.1, y.2⟩
end
def T.child (t : T) (k : D) : Option T := match t with
  | .lst ts => match k with
    | .int i => atI ts i
    | _ => none
  | .tup ts => match k with
    | .int i => atI ts i
    | _ => none
  | .dic false l => if (kOf k).isSome then tLook l k else none
  | .dic true l => match k with
    | .tuple ks => if (ksOf ks).isSome then tLook l (.tuple ks) else none
    | _ => none
  | .fz _ => none
def T.rep (t : T) (k : D) (u : T) : T := match t with
  | .lst ts => match k with
    | .int i => match ixN ts.length i with
      | some j => .lst (ts.set j u)
      | none => .lst ts
    | _ => .lst ts
  | .tup ts => match k with
    | .int i => match ixN ts.length i with
      | some j => .tup (ts.set j u)
      | none => .tup ts
    | _ => .tup ts
  | .dic b l => .dic b (tRep l k u)
  | .fz d => .fz d
section
variable {K : PySem.W.Frag} {st : Stm} {G H : Hp} {F Fu : List Addr} {w y : V} {u c : T} {k : D} {C : Hp → Hp → T → List Addr → Prop}
theorem Hole.head {a : Addr} {F1 : List Addr} {o : HO} {C' : Hp → Hp → T → List Addr → Prop} (h : Hole K st G H F w u (a :: F1) C) (ho : H a = some o) {w' : V} {Fc : List Addr} (h' : Hole K st G H F1 w' c Fc C')
    (q : ∀ G' H' c' F', H' a = some o → C' G' H' c' F' → Ow K st G' H' w (u.rep k c') (a :: F')) : Hole K st G H F w' c Fc fun G' H' c' F' => C G' H' (u.rep k c') F' := by
  obtain ⟨na, nd1⟩ := List.nodup_cons.mp h.nd
  refine ⟨h'.ow, h'.nd, fun b hb => h.sub b (List.mem_cons_of_mem _ (h'.sub b hb)), fun G' H' u' Fu' le kp ow nf m => ?_⟩
  have haF := h.sub a List.mem_cons_self
  have haFc : a ∉ Fc := fun z => na (h'.sub a z)
  obtain ⟨F', c1, c2, c3⟩ := h'.put G' H' u' Fu' le (fun b hb n => kp b (h.sub b (List.mem_cons_of_mem _ hb)) n) ow nf fun b hb => (m b hb).imp id fun z y => z (h.sub b (List.mem_cons_of_mem _ y))
  have naF' : a ∉ F' := fun z => by
    rcases c3 a z with z | z
    · exact (m a z).elim haFc fun y => y haF
    · exact na z.1
  have ha' : H' a = some o := kp a haF haFc o ho
  obtain ⟨F2, d1, d2, d3⟩ := h.put G' H' (u.rep k u') (a :: F') le (fun b hb n => kp b hb fun z => n (List.mem_cons_of_mem _ (h'.sub b z))) (q G' H' u' F' ha' c1) (List.nodup_cons.mpr ⟨naF', c2⟩) fun b hb => by
    rcases List.mem_cons.mp hb with rfl | hb
    · exact .inl List.mem_cons_self
    · rcases c3 b hb with z | z
      · exact (m b z).imp (fun y => List.mem_cons_of_mem _ (h'.sub b y)) id
      · exact .inl (List.mem_cons_of_mem _ z.1)
  refine ⟨F2, d1, d2, fun b hb => ?_⟩
  rcases d3 b hb with z | z
  · rcases List.mem_cons.mp z with rfl | z
    · exact .inr ⟨haF, haFc⟩
    · exact (c3 b z).imp id fun y => ⟨h.sub b (List.mem_cons_of_mem _ y.1), y.2⟩
  · exact .inr ⟨z.1, fun y => z.2 (List.mem_cons_of_mem _ (h'.sub b y))⟩
theorem Hole.child (h : Hole K st G H F w u Fu C) (e : u.child k = some c) (fy : Fz K (U H) y k) :
    ∃ w' Fc, Hole K st G H F w' c Fc (fun G' H' c' F' => C G' H' (u.rep k c') F') ∧ ((∃ a vs i, w = .ref a ∧ y = .int i ∧ H a = some (.lst vs) ∧ atI vs i = some w') ∨ (∃ a vs i, w = .ref a ∧ y = .int i ∧ H a = some (.tup vs) ∧ atI vs i = some w') ∨ ∃ a, w = .ref a ∧ DGet H a y (some w')) := by
  have ow := h.ow
  unfold T.child at e
  split at e
  · rename_i ts
    split at e
    · rename_i i
      cases ow with
      | @lst a vs _ F1 ni ha r =>
        unfold L2.atI at e
        cases ej : ixN ts.length i with
        | none => rw [ej] at e; cases e
        | some j =>
          rw [ej] at e
          obtain ⟨w', Fc, e1, h'⟩ := OwA.hole r (List.nodup_cons.mp h.nd).2 (c := c) e
          refine ⟨w', Fc, h.head ha h' fun G' H' c' F' ha' q => ?_, .inl ⟨a, vs, i, rfl, fy.int_inv, ha, ?_⟩⟩
          · show Ow K st G' H' (.ref a) (T.rep (.lst ts) (.int i) c') (a :: F')
            unfold T.rep
            simp only [ej]
            exact .lst ni ha' q
          · unfold L2.atI
            rw [r.len, ej]; exact e1
    · cases e
  · rename_i ts
    split at e
    · rename_i i
      cases ow with
      | @tup a vs _ F1 ni ha r =>
        unfold L2.atI at e
        cases ej : ixN ts.length i with
        | none => rw [ej] at e; cases e
        | some j =>
          rw [ej] at e
          obtain ⟨w', Fc, e1, h'⟩ := OwA.hole r (List.nodup_cons.mp h.nd).2 (c := c) e
          refine ⟨w', Fc, h.head ha h' fun G' H' c' F' ha' q => ?_, .inr (.inl ⟨a, vs, i, rfl, fy.int_inv, ha, ?_⟩)⟩
          · show Ow K st G' H' (.ref a) (T.rep (.tup ts) (.int i) c') (a :: F')
            unfold T.rep
            simp only [ej]
            exact .tup ni ha' q
          · unfold L2.atI
            rw [r.len, ej]; exact e1
    · cases e
  · rename_i l
    split at e
    · rename_i hk
      obtain ⟨k0, ek⟩ := Option.isSome_iff_exists.mp hk
      cases kOf_some ek
      cases ow with
      | @dk a kvs _ F1 ni ha r =>
        obtain ⟨w', Fc, e1, h'⟩ := OwK.hole r (List.nodup_cons.mp h.nd).2 (c := c) e
        refine ⟨w', Fc, h.head ha h' fun G' H' c' F' ha' q => ?_, .inr (.inr ⟨a, rfl, ?_⟩)⟩
        · exact .dk ni ha' q
        · rw [show y = kV k0 from by cases k0 <;> (cases fy; rfl), ← e1]
          exact .k ha
    · cases e
  · rename_i l
    split at e
    · rename_i ks
      split at e
      · rename_i hk
        obtain ⟨b, kk, ek, rfl, hb⟩ := key_cell fy hk
        have ek' := ksOf_some ek
        subst ek'
        cases ow with
        | @dt a kvs _ F1 ni ha r nl =>
          obtain ⟨w', Fc, e1, h'⟩ := OwT.hole r (List.nodup_cons.mp h.nd).2 (c := c) e
          refine ⟨w', Fc, h.head ha h' fun G' H' c' F' ha' q => ?_, .inr (.inr ⟨a, rfl, ?_⟩)⟩
          · exact .dt ni ha' q (tRep_ne nl)
          · rw [← e1]
            exact .t ha hb
      · cases e
    · cases e
  · cases e
end

abbrev MP := Gm → S → Option (T × (T → Gm) × S)
def tP (K : PySem.W.Frag) (st : Stm) (m : MP) : TE := fun σ H Q => ∃ g s u back s' G O, m g s = some (u, back, s') ∧ St0 K st g s σ H G O ∧
  ∀ w H' G' Fu, Grow st H G H' G' → Strm st s' H' → Hole K st G' H' O w u Fu (fun G'' H'' u' O'' => RA K st G'' H'' (back u') σ O'') → Q w H'
structure SP (X : Cx) (st : Stm) (e : Expr) (m : MP) : Prop where
  run : PE X e (tP X.K st m)
def mpVar (i : Nat) : MP := fun g s => match g[i]? with
  | some (some (.t t)) => some (t, fun t' => setS g i t', s)
  | _ => none
def mpSub (mp : MP) (mi : ME) : MP := fun g s => match mp g s with
  | some (u, back, s1) => match mi g s1 with
    | some (y, s2) => match u.child y.d with
      | some c => some (c, fun c' => back (u.rep y.d c'), s2)
      | none => none
    | none => none
  | none => none
section
variable {X : Cx} {st : Stm} {a b c e : Expr} {ma mb mc m mi me : ME} {pos p : Pos} {es : List Expr} {mp : MP}
theorem sp_var {i : Nat} {x : Str} (h : PE X (.Name x p) (tVar i)) : SP X st (.Name x p) (mpVar i) := by
  refine ⟨h.imp fun σ H Q ⟨g, s, u, back, s', G, O, e, z, q⟩ => ?_⟩
  unfold mpVar at e
  split at e
  · rename_i t et
    cases e
    obtain ⟨v, F, ev, hh⟩ := z.ra.hole z.nd et
    exact ⟨v, ev, q v H G F z.at.grow z.strm hh⟩
  · cases e
theorem St0.kept {K : PySem.W.Frag} {g : Gm} {s : S} {σ : Sg} {H G H' G' : Hp} {O : List Addr} (z : St0 K st g s σ H G O) (gr : Grow st H G H' G') : ∀ a ∈ O, ∀ o, H a = some o → H' a = some o :=
  fun a ha o e => gr.same a o (z.ra.there a ha).1 e
theorem sp_sub (hu : X.A.units + 1 < cLine) (hp : SP X st a mp) (hi : SE X st b mi) (hs : PlainIx b := by exact fun _ _ => rfl) : SP X st (.Subscript a b pos) (mpSub mp mi) := by
  refine ⟨(pe_ix (ix_all hu) hp.run hi.run hs).imp fun σ H Q ⟨g, s, u, back, s', G, O, e, z, q⟩ => ?_⟩
  unfold mpSub at e
  split at e
  · rename_i u1 back1 s1 e1
    split at e
    · rename_i y s2 e2
      split at e
      · rename_i c ec
        cases e
        refine ⟨g, s, _, _, s1, G, O, e1, z, fun w H1 G1 Fu gr1 sm1 h1 => ?_⟩
        have z1 := z.grow gr1 sm1
        refine ⟨g, s1, y, _, G1, O, e2, z1, fun v H2 G2 F p => ?_⟩
        have h2 := h1.grow p.gr.le (z1.kept p.gr)
        obtain ⟨w', Fc, h3, rd⟩ := h2.child ec (p.ok.rd p.gr.sub)
        have fin := q w' H2 G2 Fc (gr1.trans p.gr) p.strm h3
        rcases rd with ⟨a, vs, i, rfl, rfl, ha, hx⟩ | ⟨a, vs, i, rfl, rfl, ha, hx⟩ | ⟨a, rfl, hx⟩
        · exact .inl (.inl ⟨a, vs, i, w', rfl, rfl, .inl (.inl ha), hx, fin⟩)
        · exact .inl (.inr (.inl ⟨a, vs, i, w', rfl, rfl, .inl (.inl ha), hx, fin⟩))
        · exact .inr ⟨a, w', rfl, hx, fin⟩
      · cases e
    · cases e
  · cases e
end

section
variable {K : PySem.W.Frag} {st : Stm} {G H : Hp}
theorem OwA.set : ∀ {vs : List V} {ts : List T} {F : List Addr}, OwA K st G H vs ts F → F.Nodup → ∀ {v : V} {t : T} {Fe : List Addr}, Ow K st G H v t Fe → Fe.Nodup → (∀ a ∈ Fe, a ∉ F) → ∀ j : Nat,
    ∃ F', OwA K st G H (vs.set j v) (ts.set j t) F' ∧ F'.Nodup ∧ ∀ a ∈ F', a ∈ F ∨ a ∈ Fe
  | _, _, _, .nil, nd, v, t, Fe, o, ne, d, j => ⟨[], .nil, .nil, fun a ha => .inl ha⟩
  | _, _, _, @OwA.cons _ _ _ _ v0 t0 vs ts F1 F2 h r, nd, v, t, Fe, o, ne, d, 0 => by
    obtain ⟨n1, n2, n3⟩ := List.nodup_append.mp nd
    exact ⟨Fe ++ F2, .cons o r, List.nodup_append.mpr ⟨ne, n2, fun a ha b hb e => d a ha (by subst e; exact List.mem_append_right _ hb)⟩, fun a ha => (List.mem_append.mp ha).elim .inr fun z => .inl (List.mem_append_right _ z)⟩
  | _, _, _, @OwA.cons _ _ _ _ v0 t0 vs ts F1 F2 h r, nd, v, t, Fe, o, ne, d, j + 1 => by
    obtain ⟨n1, n2, n3⟩ := List.nodup_append.mp nd
    obtain ⟨F', c1, c2, c3⟩ := OwA.set r n2 o ne (fun a ha z => d a ha (List.mem_append_right _ z)) j
    refine ⟨F1 ++ F', .cons h c1, List.nodup_append.mpr ⟨n1, c2, fun a ha b hb e => ?_⟩, fun a ha => (List.mem_append.mp ha).elim (fun z => .inl (List.mem_append_left _ z)) fun z => (c3 a z).imp (List.mem_append_right _) id⟩
    subst e
    exact (c3 a hb).elim (fun z => n3 a ha a z rfl) fun z => d a z (List.mem_append_left _ ha)
/-- a dict's value, in its place, or at the end -/
def tPut : List (D × T) → D → T → Option (List (D × T))
  | [], k, v => some [(k, v)]
  | (k', v') :: l, k, v => if PyData.eqv k' k then (if l.any fun p => PyData.eqv p.1 k then none else some ((k', v) :: l)) else (tPut l k v).map ((k', v') :: ·)
theorem putK_hd {κ : Type} [DecidableEq κ] {k : κ} {v v' : V} {r : List (κ × V)} (h : ∀ q ∈ r, q.1 ≠ k) : putK ((k, v') :: r) k v = (k, v) :: r := by
  unfold putK
  rw [if_pos (by simp)]
  rw [List.map_cons, if_pos rfl]
  congr 1
  exact (List.map_congr_left fun q hq => by rw [if_neg (h q hq)]; rfl).trans (List.map_id r)
theorem putK_tl {κ : Type} [DecidableEq κ] {k : κ} {v : V} {p : κ × V} {r : List (κ × V)} (h : p.1 ≠ k) : putK (p :: r) k v = p :: putK r k v := by
  unfold putK
  rw [List.any_cons, decide_eq_false h, Bool.false_or]
  split
  · rw [List.map_cons, if_neg h]
  · rw [List.cons_append]
theorem OwK.nokey : ∀ {vs : List (Key × V)} {ts : List (D × T)} {F : List Addr}, OwK K st G H vs ts F → ∀ {k : Key}, (ts.any fun p => PyData.eqv p.1 (keyD k)) = false → ∀ q ∈ vs, q.1 ≠ k
  | _, _, _, .nil, k, e => by simp
  | _, _, _, .cons h r, k, e => by
    rw [List.any_cons, Bool.or_eq_false_iff] at e
    intro q hq
    rcases List.mem_cons.mp hq with rfl | hq
    · have := e.1
      rw [eqv_key, decide_eq_false_iff_not] at this
      exact this
    · exact OwK.nokey r e.2 q hq
theorem OwT.nokey : ∀ {vs : List (List Key × V)} {ts : List (D × T)} {F : List Addr}, OwT K st G H vs ts F → ∀ {k : List Key}, (ts.any fun p => PyData.eqv p.1 (keyTD k)) = false → ∀ q ∈ vs, q.1 ≠ k
  | _, _, _, .nil, k, e => by simp
  | _, _, _, .cons h r, k, e => by
    rw [List.any_cons, Bool.or_eq_false_iff] at e
    intro q hq
    rcases List.mem_cons.mp hq with rfl | hq
    · have := e.1
      rw [eqv_keyT, decide_eq_false_iff_not] at this
      exact this
    · exact OwT.nokey r e.2 q hq
theorem OwK.put : ∀ {vs : List (Key × V)} {ts ts' : List (D × T)} {F : List Addr}, OwK K st G H vs ts F → F.Nodup → ∀ {v : V} {t : T} {Fe : List Addr}, Ow K st G H v t Fe → Fe.Nodup → (∀ a ∈ Fe, a ∉ F) → ∀ {k : Key}, tPut ts (keyD k) t = some ts' →
    ∃ F', OwK K st G H (putK vs k v) ts' F' ∧ F'.Nodup ∧ ∀ a ∈ F', a ∈ F ∨ a ∈ Fe
  | _, _, _, _, .nil, nd, v, t, Fe, o, ne, d, k, e => by
    rw [tPut] at e; cases e
    exact ⟨Fe ++ [], .cons o .nil, by simpa using ne, fun a ha => .inr (by simpa using ha)⟩
  | _, _, _, _, @OwK.cons _ _ _ _ k0 v0 t0 vs ts F1 F2 h r, nd, v, t, Fe, o, ne, d, k, e => by
    obtain ⟨n1, n2, n3⟩ := List.nodup_append.mp nd
    rw [tPut, eqv_key] at e
    by_cases ek : k0 = k
    · subst ek
      rw [if_pos (by simp)] at e
      split at e
      · cases e
      · rename_i hn
        cases e
        rw [putK_hd (r.nokey (by simpa using hn))]
        exact ⟨Fe ++ F2, .cons o r, List.nodup_append.mpr ⟨ne, n2, fun a ha b hb e => d a ha (by subst e; exact List.mem_append_right _ hb)⟩, fun a ha => (List.mem_append.mp ha).elim .inr fun z => .inl (List.mem_append_right _ z)⟩
    · rw [if_neg (by simp [ek])] at e
      obtain ⟨ts2, e2, rfl⟩ := Option.map_eq_some_iff.mp e
      obtain ⟨F', c1, c2, c3⟩ := OwK.put r n2 o ne (fun a ha z => d a ha (List.mem_append_right _ z)) e2
      rw [putK_tl ek]
      refine ⟨F1 ++ F', .cons h c1, List.nodup_append.mpr ⟨n1, c2, fun a ha b hb e => ?_⟩, fun a ha => (List.mem_append.mp ha).elim (fun z => .inl (List.mem_append_left _ z)) fun z => (c3 a z).imp (List.mem_append_right _) id⟩
      subst e
      exact (c3 a hb).elim (fun z => n3 a ha a z rfl) fun z => d a z (List.mem_append_left _ ha)
theorem OwT.put : ∀ {vs : List (List Key × V)} {ts ts' : List (D × T)} {F : List Addr}, OwT K st G H vs ts F → F.Nodup → ∀ {v : V} {t : T} {Fe : List Addr}, Ow K st G H v t Fe → Fe.Nodup → (∀ a ∈ Fe, a ∉ F) → ∀ {k : List Key}, tPut ts (keyTD k) t = some ts' →
    ∃ F', OwT K st G H (putK vs k v) ts' F' ∧ F'.Nodup ∧ ∀ a ∈ F', a ∈ F ∨ a ∈ Fe
  | _, _, _, _, .nil, nd, v, t, Fe, o, ne, d, k, e => by
    rw [tPut] at e; cases e
    exact ⟨Fe ++ [], .cons o .nil, by simpa using ne, fun a ha => .inr (by simpa using ha)⟩
  | _, _, _, _, @OwT.cons _ _ _ _ k0 v0 t0 vs ts F1 F2 h r, nd, v, t, Fe, o, ne, d, k, e => by
    obtain ⟨n1, n2, n3⟩ := List.nodup_append.mp nd
    rw [tPut, eqv_keyT] at e
    by_cases ek : k0 = k
    · subst ek
      rw [if_pos (by simp)] at e
      split at e
      · cases e
      · rename_i hn
        cases e
        rw [putK_hd (r.nokey (by simpa using hn))]
        exact ⟨Fe ++ F2, .cons o r, List.nodup_append.mpr ⟨ne, n2, fun a ha b hb e => d a ha (by subst e; exact List.mem_append_right _ hb)⟩, fun a ha => (List.mem_append.mp ha).elim .inr fun z => .inl (List.mem_append_right _ z)⟩
    · rw [if_neg (by simp [ek])] at e
      obtain ⟨ts2, e2, rfl⟩ := Option.map_eq_some_iff.mp e
      obtain ⟨F', c1, c2, c3⟩ := OwT.put r n2 o ne (fun a ha z => d a ha (List.mem_append_right _ z)) e2
      rw [putK_tl ek]
      refine ⟨F1 ++ F', .cons h c1, List.nodup_append.mpr ⟨n1, c2, fun a ha b hb e => ?_⟩, fun a ha => (List.mem_append.mp ha).elim (fun z => .inl (List.mem_append_left _ z)) fun z => (c3 a z).imp (List.mem_append_right _) id⟩
      subst e
      exact (c3 a hb).elim (fun z => n3 a ha a z rfl) fun z => d a z (List.mem_append_left _ ha)
/-- the state behind a change of the cell at a -/
theorem St0.put {g : Gm} {s : S} {σ : Sg} {O Fu F1 Fe : List Addr} {a : Addr} {o o' : HO} {u u' : T} {back : T → Gm} {F1' : List Addr} (z : St0 K st g s σ H G O) (h : Hole K st G H O (.ref a) u Fu (fun G'' H'' u' O'' => RA K st G'' H'' (back u') σ O'')) (hF : Fu = a :: F1)
    (o1 : Ow K st G (upd H a o') (.ref a) u' (a :: F1')) (nd : (a :: F1').Nodup) (m : ∀ b ∈ F1', b ∈ F1 ∨ b ∈ Fe) (fe : ∀ b ∈ Fe, b ∉ O ∧ G b = none) :
    ∃ O', St0 K st (back u') s σ (upd H a o') G O' ∧ ∀ b ∈ O', b ∈ O ∨ b ∈ Fe := by
  subst hF
  have aO := h.sub a List.mem_cons_self
  have gA : G a = none := z.ap a aO
  have nsA : ¬ inS st a := (z.ra.there a aO).1
  obtain ⟨O', c1, c2, c3⟩ := h.put G (upd H a o') u' (a :: F1') (.refl G) (fun b hb n o e => by rw [upd_ne (fun x => n (by rw [x]; exact List.mem_cons_self))]; exact e) o1 nd fun b hb => by
    rcases List.mem_cons.mp hb with rfl | hb
    · exact .inl List.mem_cons_self
    · exact (m b hb).imp (List.mem_cons_of_mem _) fun y => (fe b y).1
  have mem : ∀ b ∈ O', b ∈ O ∨ b ∈ Fe := fun b hb => by
    rcases c3 b hb with y | y
    · rcases List.mem_cons.mp y with rfl | y
      · exact .inl aO
      · exact (m b y).imp (fun w => h.sub b (List.mem_cons_of_mem _ w)) id
    · exact .inl y.1
  refine ⟨O', ⟨fun b u e => ?_, c1, c2, fun b hb => (mem b hb).elim (z.ap b) fun y => (fe b y).2, z.sg, z.strm.of_ne nsA⟩, mem⟩
  have ne : b ≠ a := fun x => by rw [x, gA] at e; cases e
  refine U_le (fun o h => ?_) (z.sub b u e)
  rw [upd_ne ne]; exact h
end
/-- an empty dict is one of tuple keys, too -/
theorem empty_dT {X : Cx} {pins : List (Addr × Obj)} {σ : Sg} {H : Hp} {s : Shared} {a : Addr} (I : Inv X pins σ H s) (h : H a = some (.dK [])) : Inv X pins σ (upd H a (.dT [])) s := by
  obtain ⟨z, hn, vs, kv, o, es, ep, h1, h2, h3, h4, h5, h6⟩ := dk_of I.hok h
  cases kv
  have e : es.toList = [] := by
    cases he : es.toList with
    | nil => rfl
    | cons x r => rw [he] at h5; cases h5
  exact I.write (t' := s.toks) (x := a) (e := a) (by rw [h]; trivial) (.inl rfl) (fun b u _ e => e) ⟨_, h1⟩ ⟨Nat.zero_le _, hn, [], .nil, o, es, ep, h1, h2, h3, e, List.nodup_nil⟩
def rSetN : TSet := fun o i v H Q => ∃ a k b, o = .ref a ∧ i = .ref b ∧ H a = some (.dK []) ∧ H b = some (.tup (k.map kV)) ∧ Q (upd H a (.dT [(k, v)]))
theorem set_new {X : Cx} (hu : X.A.units + 1 < cLine) : PSet X rSetN := by
  intro pins s σ H o i v ov iv u Q I ro ri rv h
  obtain ⟨a, k, b, rfl, rfl, ha, hb, q⟩ := h
  have I1 := empty_dT I ha
  have nb : b ≠ a := fun z => by rw [z, ha] at hb; cases hb
  refine set_dict hu pins s σ _ (.ref a) (.ref b) v ov iv u Q I1 ro ri rv ⟨a, _, rfl, .t upd_same (by rw [upd_ne nb]; exact hb) (by decide), ?_⟩
  have : upd (upd H a (.dT [])) a (.dT (putK [] k v)) = upd H a (.dT [(k, v)]) := by
    funext c
    unfold upd
    split <;> rfl
  rw [this]
  exact q
def rSet : TSet := fun o i v H Q => rSetL o i v H Q ∨ rSetD o i v H Q ∨ rSetN o i v H Q
theorem tPut_ne : ∀ {l l' : List (D × T)} {k : D} {v : T}, tPut l k v = some l' → l' ≠ []
  | [], l', k, v, e => by rw [tPut] at e; cases e; exact List.cons_ne_nil _ _
  | (k', v') :: l, l', k, v, e => by
    rw [tPut] at e
    split at e
    · split at e
      · cases e
      · cases e; exact List.cons_ne_nil _ _
    · obtain ⟨_, _, rfl⟩ := Option.map_eq_some_iff.mp e
      exact List.cons_ne_nil _ _
def T.put (u : T) (k : D) (v : T) : Option T := match u with
  | .lst ts => match k with
    | .int i => (ixN ts.length i).map fun j => .lst (ts.set j v)
    | _ => none
  | .dic false [] => match k with
    | .tuple ks => if (ksOf ks).isSome then some (.dic true [(.tuple ks, v)]) else none
    | k => if (kOf k).isSome then some (.dic false [(k, v)]) else none
  | .dic false (p :: l) => if (kOf k).isSome && ltLen (l.length + 1) then (tPut (p :: l) k v).map (.dic false) else none
  | .dic true l => match k with
    | .tuple ks => if (ksOf ks).isSome && ltLen l.length then (tPut l (.tuple ks) v).map (.dic true) else none
    | _ => none
  | _ => none
theorem OwK.len {K : PySem.W.Frag} {st : Stm} {G H : Hp} : ∀ {vs : List (Key × V)} {ts : List (D × T)} {F : List Addr}, OwK K st G H vs ts F → vs.length = ts.length
  | _, _, _, .nil => rfl
  | _, _, _, .cons _ q => congrArg (· + 1) (OwK.len q)
theorem OwT.len {K : PySem.W.Frag} {st : Stm} {G H : Hp} : ∀ {vs : List (List Key × V)} {ts : List (D × T)} {F : List Addr}, OwT K st G H vs ts F → vs.length = ts.length
  | _, _, _, .nil => rfl
  | _, _, _, .cons _ q => congrArg (· + 1) (OwT.len q)
section
variable {X : Cx} {st : Stm} {a b c e : Expr} {ma mb mc m mi me : ME} {pos p : Pos} {es : List Expr} {mp : MP}
theorem set_any (hu : X.A.units + 1 < cLine) : PSet X rSet := fun pins s σ H o i v ov iv u Q I ro ri rv h => h.elim (set_list pins s σ H o i v ov iv u Q I ro ri rv) fun h => h.elim (set_dict hu pins s σ H o i v ov iv u Q I ro ri rv) (set_new hu pins s σ H o i v ov iv u Q I ro ri rv)
/-- what a store asks, what it leaves -/
theorem put_ok {K : PySem.W.Frag} {g : Gm} {s : S} {σ : Sg} {H G : Hp} {O Fu Fe : List Addr} {w y v : V} {u u' t : T} {k : D} {back : T → Gm} {Q : Hp → Prop} (z : St0 K st g s σ H G O) (h : Hole K st G H O w u Fu (fun G'' H'' u' O'' => RA K st G'' H'' (back u') σ O''))
    (e : u.put k t = some u') (fy : Fz K (U H) y k) (ov : Ow K st G H v t Fe) (ne : Fe.Nodup) (fe : ∀ b ∈ Fe, b ∉ O ∧ G b = none)
    (q : ∀ a o' O', a ∈ O → St0 K st (back u') s σ (upd H a o') G O' → (∀ b ∈ O', b ∈ O ∨ b ∈ Fe) → Q (upd H a o')) : rSet w y v H Q := by
  have ow := h.ow
  have dj : ∀ {a : Addr} {F1 : List Addr}, Fu = a :: F1 → a ∉ F1 ∧ F1.Nodup ∧ (∀ b ∈ F1, b ∈ O) ∧ a ∈ O ∧ (∀ b ∈ Fe, b ∉ F1) ∧ a ∉ Fe := fun {a F1} hF => by
    subst hF
    obtain ⟨n1, n2⟩ := List.nodup_cons.mp h.nd
    exact ⟨n1, n2, fun b hb => h.sub b (List.mem_cons_of_mem _ hb), h.sub a List.mem_cons_self, fun b hb z => (fe b hb).1 (h.sub b (List.mem_cons_of_mem _ z)), fun hm => (fe a hm).1 (h.sub a List.mem_cons_self)⟩
  have kp : ∀ {a : Addr} {F1 : List Addr} {o' : HO}, Fu = a :: F1 → ∀ {F' : List Addr}, (∀ b ∈ F', b ∈ F1 ∨ b ∈ Fe) → a ∉ F' ∧ ∀ b ∈ F', ∀ o, H b = some o → upd H a o' b = some o := fun {a F1 o'} hF {F'} m => by
    obtain ⟨n1, n2, n3, n4, n5, n6⟩ := dj hF
    have na : a ∉ F' := fun z => (m a z).elim n1 n6
    exact ⟨na, fun b hb o e => by rw [upd_ne (fun x => na (by rw [← x]; exact hb))]; exact e⟩
  unfold T.put at e
  split at e
  · rename_i ts
    split at e
    · rename_i i
      obtain ⟨j, ej, rfl⟩ := Option.map_eq_some_iff.mp e
      generalize hF : Fu = Fu0 at ow
      cases ow with
      | @lst a vs _ F1 ni ha r =>
        obtain ⟨n1, n2, n3, n4, n5, n6⟩ := dj hF
        obtain ⟨F', c1, c2, c3⟩ := OwA.set r n2 ov ne n5 j
        obtain ⟨na, kk⟩ := kp (o' := .lst (vs.set j v)) hF c3
        obtain ⟨O', z', m'⟩ := z.put (Fe := Fe) (o := .lst vs) h hF (.lst ni upd_same (c1.keep (.refl G) kk)) (List.nodup_cons.mpr ⟨na, c2⟩) c3 fe
        exact .inl ⟨a, vs, i, j, rfl, fy.int_inv, ha, by rw [r.len]; exact ej, q _ _ O' n4 z' m'⟩
    · cases e
  · split at e
    · rename_i ks
      split at e
      · rename_i hk
        obtain ⟨b, kk0, ek, rfl, hb⟩ := key_cell fy hk
        have ek' := ksOf_some ek
        subst ek'
        cases e
        generalize hF : Fu = Fu0 at ow
        cases ow with
        | @dk a kvs _ F1 ni ha r =>
          obtain ⟨n1, n2, n3, n4, n5, n6⟩ := dj hF
          cases r
          obtain ⟨na, kk⟩ := kp (o' := .dT [(kk0, v)]) hF (F' := Fe ++ []) (fun b hb => .inr (by simpa using hb))
          have ot : OwT K st G (upd H a (.dT [(kk0, v)])) [(kk0, v)] [(keyTD kk0, t)] (Fe ++ []) := OwT.keep (.refl G) (.cons ov .nil) kk
          obtain ⟨O', z', m'⟩ := z.put (Fe := Fe) (o := .dK []) h hF (.dt ni upd_same ot (List.cons_ne_nil _ _)) (List.nodup_cons.mpr ⟨na, by simpa using ne⟩) (fun b hb => .inr (by simpa using hb)) fe
          exact .inr (.inr ⟨a, kk0, b, rfl, rfl, ha, hb, q _ _ O' n4 z' m'⟩)
      · cases e
    · rename_i k' _
      split at e
      · rename_i hk
        obtain ⟨k0, ek⟩ := Option.isSome_iff_exists.mp hk
        cases kOf_some ek
        cases e
        generalize hF : Fu = Fu0 at ow
        cases ow with
        | @dk a kvs _ F1 ni ha r =>
          obtain ⟨n1, n2, n3, n4, n5, n6⟩ := dj hF
          cases r
          obtain ⟨na, kk⟩ := kp (o' := .dK [(k0, v)]) hF (F' := Fe ++ []) (fun b hb => .inr (by simpa using hb))
          have ot : OwK K st G (upd H a (.dK [(k0, v)])) [(k0, v)] [(keyD k0, t)] (Fe ++ []) := OwK.keep (.refl G) (.cons ov .nil) kk
          obtain ⟨O', z', m'⟩ := z.put (Fe := Fe) (o := .dK []) h hF (.dk ni upd_same ot) (List.nodup_cons.mpr ⟨na, by simpa using ne⟩) (fun b hb => .inr (by simpa using hb)) fe
          exact .inr (.inl ⟨a, _, rfl, .inl ⟨[], k0, ha, by cases k0 <;> (cases fy; rfl), by decide, rfl⟩, q _ _ O' n4 z' m'⟩)
      · cases e
  · rename_i p l
    split at e
    · rename_i hk
      obtain ⟨hk, hl⟩ := Bool.and_eq_true_iff.mp hk
      obtain ⟨k0, ek⟩ := Option.isSome_iff_exists.mp hk
      cases kOf_some ek
      obtain ⟨l', el, rfl⟩ := Option.map_eq_some_iff.mp e
      generalize hF : Fu = Fu0 at ow
      cases ow with
      | @dk a kvs _ F1 ni ha r =>
        obtain ⟨n1, n2, n3, n4, n5, n6⟩ := dj hF
        obtain ⟨F', c1, c2, c3⟩ := OwK.put r n2 ov ne n5 el
        obtain ⟨na, kk⟩ := kp (o' := .dK (putK kvs k0 v)) hF c3
        obtain ⟨O', z', m'⟩ := z.put (Fe := Fe) (o := .dK kvs) h hF (.dk ni upd_same (c1.keep (.refl G) kk)) (List.nodup_cons.mpr ⟨na, c2⟩) c3 fe
        refine .inr <| .inl ⟨a, _, rfl, .inl ⟨kvs, k0, ha, by cases k0 <;> (cases fy; rfl), ?_, rfl⟩, q _ _ O' n4 z' m'⟩
        rw [r.len]; exact of_decide_eq_true hl
    · cases e
  · rename_i l
    split at e
    · rename_i ks
      split at e
      · rename_i hk
        obtain ⟨hk, hl⟩ := Bool.and_eq_true_iff.mp hk
        obtain ⟨b, kk0, ek, rfl, hb⟩ := key_cell fy hk
        have ek' := ksOf_some ek
        subst ek'
        obtain ⟨l', el, rfl⟩ := Option.map_eq_some_iff.mp e
        generalize hF : Fu = Fu0 at ow
        cases ow with
        | @dt a kvs _ F1 ni ha r nl =>
          obtain ⟨n1, n2, n3, n4, n5, n6⟩ := dj hF
          obtain ⟨F', c1, c2, c3⟩ := OwT.put r n2 ov ne n5 el
          obtain ⟨na, kk⟩ := kp (o' := .dT (putK kvs kk0 v)) hF c3
          obtain ⟨O', z', m'⟩ := z.put (Fe := Fe) (o := .dT kvs) h hF (.dt ni upd_same (c1.keep (.refl G) kk) (tPut_ne el)) (List.nodup_cons.mpr ⟨na, c2⟩) c3 fe
          refine .inr <| .inl ⟨a, _, rfl, .inr ⟨kvs, kk0, b, ha, rfl, hb, ?_, rfl⟩, q _ _ O' n4 z' m'⟩
          rw [r.len]; exact of_decide_eq_true hl
      · cases e
    · cases e
  · cases e
/-- o[i] = e -/
def mSto (me : ME) (mp : MP) (mi : ME) : MSt := fun g s => match me g s with
  | some (.t t, s1) => match mp g s1 with
    | some (u, back, s2) => match mi g s2 with
      | some (y, s3) => match u.put y.d t with
        | some u' => some (.nx, back u', s3)
        | none => none
      | none => none
    | none => none
  | _ => none
theorem mv_put {K : PySem.W.Frag} {g : Gm} {s : S} {σ : Sg} {H G H2 G2 : Hp} {O O' Fe : List Addr} {a : Addr} {o' : HO} (z : St0 K st g s σ H G O) (gr : Grow st H G H2 G2) (aO : a ∈ O) (m : ∀ b ∈ O', b ∈ O ∨ b ∈ Fe) (fe : ∀ b ∈ Fe, H b = none) : Mv st H G O (upd H2 a o') G2 O' where
  le := gr.le
  same := fun b o n hb e => by
    rw [upd_ne (fun x => hb (by rw [x]; exact aO))]; exact gr.same b o n e
  new := fun b e n => .inr (gr.new b e n)
  own := fun b hb => (m b hb).imp id (fe b)
  back := fun b e => by
    by_cases x : b = a
    · subst x
      rw [upd_same] at e; cases e
    · rw [upd_ne x] at e; exact gr.back b e
theorem ss_sto {o i : Expr} (hu : X.A.units + 1 < cLine) (hv : SE X st e me) (hp : SP X st o mp) (hi : SE X st i mi)
    (ha : ∀ v, assign (.Subscript o i p) X.env v = (do
      let ov ← holding [v] (eval o X.env)
      let iv ← holding [v, ov] (eval i X.env)
      standAt p
      holding [v, ov, iv] (setItem ov iv v)
      release [v, ov, iv] []) := by intro _; rfl)
    (hs : swapsWithSole [.Subscript o i p] e pos.line X.env = pure false := by rfl) (hw : swappedStores [.Subscript o i p] e X.env = pure none := by rfl) (h1 : (assignEach [.Subscript o i p] X.env).map (·.2) = [assign (.Subscript o i p) X.env] := by rfl) :
    SS X st (.Assign [.Subscript o i p] e pos) (mSto me mp mi) := by
  refine ⟨(ps_asg hv.run (pg_sub hp.run hi.run (set_any hu) ha) hs hw h1).imp fun D σ H ⟨g, s, o, g', s', G, O, e, z, q⟩ => ?_⟩
  unfold mSto at e
  split at e
  · rename_i t s1 e1
    split at e
    · rename_i u back s2 e2
      split at e
      · rename_i y s3 e3
        split at e
        · rename_i u' eu
          cases e
          refine ⟨g, s, _, s1, G, O, e1, z, fun v H1 G1 Fe p1 => ?_⟩
          have z1 := z.grow p1.gr p1.strm
          refine ⟨g, s1, u, back, s2, G1, O, e2, z1, fun w H2 G2 Fu gr2 sm2 h2 => ?_⟩
          have z2 := z1.grow gr2 sm2
          refine ⟨g, s2, y, _, G2, O, e3, z2, fun yv H3 G3 Fy p3 => ?_⟩
          have z3 := z2.grow p3.gr p3.strm
          have h3 := h2.grow p3.gr.le (z2.kept p3.gr)
          have ov : Ow X.K st G3 H3 v t Fe := (p1.ok.keep gr2).keep p3.gr
          have fe : ∀ b ∈ Fe, b ∉ O ∧ G3 b = none := fun b hb => by
            obtain ⟨_, o, e, _⟩ := p1.ok.there b hb
            have n2 := gr2.none_of e (p1.ap b hb).2
            have e2 := gr2.same b o (p1.ok.there b hb).1 e
            refine ⟨fun hO => ?_, p3.gr.none_of e2 n2⟩
            obtain ⟨_, o', e', _⟩ := z.ra.there b hO
            rw [(p1.ap b hb).1] at e'; cases e'
          have gr13 := p1.gr.trans (gr2.trans p3.gr)
          exact put_ok z3 h3 eu (p3.ok.rd p3.gr.sub) ov p1.nd fe fun a o' O' aO z' m => q _ _ _ _ (mv_put z gr13 aO m fun b hb => (p1.ap b hb).1) z'
        · cases e
      · cases e
    · cases e
  · cases e
end
end DV

namespace DV
open PySem PySem.Spec PyProof.Rows L2

section
variable {X : Cx} {st : Stm} {a b c e : Expr} {ma mb mc m mi me : ME} {pos p : Pos} {es : List Expr} {mp : MP}
/-- name += e, ints -/
def mAug (i : Nat) (f : Int → Int → Int) (me : ME) : MSt := fun g s => match g[i]? with
  | some (some (.t (.fz (.int x)))) => match me g s with
    | some (.t (.fz (.int y)), s1) => some (.nx, setS g i (.fz (.int (f x y))), s1)
    | _ => none
  | _ => none
theorem ss_aug {i : Nat} {y : Str} {op : Operator} {f : Int → Int → Int} (ho : PIp X op (ipI f)) (hN : X.N.Nodup) (hi : X.N[i]? = some y) (hx : Loc X.env.scope y) (he : SE X st e me)
    (hf : X.fn y = true ∨ X.env.scope.names.lookup y = some .local := by first | exact .inl rfl | exact .inr rfl | assumption) : SS X st (.AugAssign (.Name y p) op e pos) (mAug i f me) := by
  refine ⟨(ps_aug hN hi hx he.run ho hf).imp fun D σ H ⟨g, s, o, g', s', G, O, e, z, q⟩ => ?_⟩
  unfold mAug at e
  split at e
  · rename_i x ex
    split at e
    · rename_i y s1 ey
      cases e
      obtain ⟨v, F, ev, ow, mem⟩ := z.ra.get ex
      refine ⟨v, ev, g, s, _, _, G, O, ey, z, fun u H1 G1 F1 p1 => ?_⟩
      have hv : v = .int x := by
        cases ow with
        | fz f => exact f.int_inv
      have hu : u = .int y := by
        have o1 : Ow X.K st G1 H1 u (.fz (.int y)) F1 := p1.ok
        cases o1 with
        | fz f => exact f.int_inv
      refine ⟨x, y, hv, hu, ?_⟩
      have p2 : PostE X.K st H G (.t (.fz (.int (f x y)))) s' (.int (f x y)) H1 G1 [] := (PostE.scalar p1.at (.int _)).after p1.gr
      obtain ⟨O', z', mv⟩ := z.set (i := i) p2
      exact q _ H1 G1 O' mv z'
    · cases e
  · cases e

/-- o.append(e) -/
def mApp (mp : MP) (me : ME) : MSt := fun g s => match mp g s with
  | some (.lst ts, back, s1) => match me g s1 with
    | some (.t t, s2) => if ltLen ts.length then some (.nx, back (.lst (ts ++ [t])), s2) else none
    | _ => none
  | _ => none
theorem call_lst {K : PySem.W.Frag} {H : Hp} {a : Addr} {vs : List V} (h : H a = some (.lst vs)) : tyV K "list" (.ref a) H := .inl ⟨rfl, vs, .inl (.inl h)⟩
theorem ss_app {o : Expr} {apos cpos : Pos} (hp : SP X st o mp) (he : SE X st e me)
    (hbase : attributeBase o "append" X.env (eval o X.env) = eval o X.env := by rfl)
    (hfew : ((backTo cpos (starEach [e] X.env)).all (fun x => !x.1) && (backToKw cpos (keywordEach [] X.env)).all (fun x => x.1.isSome)
      && decide (([e] : List Expr).length + ([] : List Keyword).length + (if ([] : List Keyword).isEmpty then 0 else 1) < 30)) = true := by rfl)
    (hline : (apos.endLine == cpos.line) = true := by rfl) (hs : starEach [e] X.env = (false, eval e X.env) :: starEach [] X.env := by rfl) (hplain : (backTo cpos (starEach [] X.env)).any (·.1) = false := by rfl)
    (hsw : swapsWith (.Call (.Attribute o "append" apos) [e] [] cpos) none pos.line X.env = pure false := by rfl) :
    SS X st (.Expr (.Call (.Attribute o "append" apos) [e] [] cpos) pos) (mApp mp me) := by
  refine ⟨(ps_expr (pe_bm PySem.F.plainAttrs_list PySem.F.slot_list_append PySem.F.type_list_append mt_append hp.run (pa_cons he.run pa_nil hs) hbase hfew hline hs hplain) hsw).imp fun D σ H ⟨g, s, o, g', s', G, O, e, z, q⟩ => ?_⟩
  unfold mApp at e
  split at e
  · rename_i ts back s1 e1
    split at e
    · rename_i t s2 e2
      split at e
      · rename_i hl
        cases e
        refine ⟨g, s, _, back, s1, G, O, e1, z, fun w H1 G1 Fu gr1 sm1 h1 => ?_⟩
        have z1 := z.grow gr1 sm1
        have ow := h1.ow
        generalize hF : Fu = Fu0 at ow
        cases ow with
        | @lst a vs _ F1 ni ha r =>
          refine ⟨call_lst ha, g, s1, _, _, G1, O, e2, z1, fun v H2 G2 Fe p2 => ?_⟩
          have z2 := z1.grow p2.gr p2.strm
          have h2 := h1.grow p2.gr.le (z1.kept p2.gr)
          have ha2 := p2.gr.same a _ ni ha
          have r2 := r.keep p2.gr.le fun b hb o e => p2.gr.same b o (r.there b hb).1 e
          have ov : Ow X.K st G2 H2 v t Fe := p2.ok
          subst hF
          obtain ⟨n1, n2⟩ := List.nodup_cons.mp h1.nd
          have fe : ∀ b ∈ Fe, b ∉ O ∧ G2 b = none := fun b hb => ⟨fun hO => (by
            obtain ⟨_, o', e', _⟩ := z1.ra.there b hO
            rw [(p2.ap b hb).1] at e'; cases e'), (p2.ap b hb).2⟩
          have aO := h1.sub a List.mem_cons_self
          have nm : ∀ b ∈ F1 ++ Fe, b ≠ a := fun b hb x => by
            subst x
            rcases List.mem_append.mp hb with y | y
            · exact n1 y
            · exact (fe b y).1 aO
          obtain ⟨O', z', m'⟩ := z2.put (Fe := Fe) (o := .lst vs) (o' := .lst (vs ++ [v])) (u' := .lst (ts ++ [t])) h2 rfl (.lst ni upd_same ((r2.snoc ov).keep (.refl _) fun b hb o e => by rw [upd_ne (nm b hb)]; exact e))
            (List.nodup_cons.mpr ⟨fun x => nm a x rfl, List.nodup_append.mpr ⟨n2, p2.nd, fun b hb b' hb' e => by subst e; exact (fe b hb').1 (h1.sub b (List.mem_cons_of_mem _ hb))⟩⟩) (fun b hb => List.mem_append.mp hb) fe
          refine ⟨a, vs, v, rfl, rfl, ha2, by rw [r.len]; exact of_decide_eq_true hl, q _ _ _ _ (mv_put z (gr1.trans p2.gr) aO m' fun b hb => gr1.back b (p2.ap b hb).1) z'⟩
      · cases e
    · cases e
  · cases e
/-- o.extend(e) -/
def lstT : Rv → Option (List T)
  | .t (.lst ts) => some ts
  | .t (.fz (.list ds)) => some (ds.map T.fz)
  | _ => none
def mExt (mp : MP) (me : ME) : MSt := fun g s => match mp g s with
  | some (.lst ts, back, s1) => match me g s1 with
    | some (r, s2) => match lstT r with
      | some us => if lenOk (ts.length + us.length) then some (.nx, back (.lst (ts ++ us)), s2) else none
      | none => none
    | none => none
  | _ => none
theorem OwA.append {K : PySem.W.Frag} {G H : Hp} : ∀ {vs us : List V} {ts ws : List T} {F F' : List Addr}, OwA K st G H vs ts F → OwA K st G H us ws F' → OwA K st G H (vs ++ us) (ts ++ ws) (F ++ F')
  | _, _, _, _, _, _, .nil, h => h
  | _, _, _, _, _, _, .cons h0 r, h => by
    rw [List.append_assoc]
    exact .cons h0 (OwA.append r h)
theorem lst_rv {K : PySem.W.Frag} {H G H1 G1 : Hp} {r : Rv} {s1 : S} {v : V} {F : List Addr} {us : List T} (p : PostE K st H G r s1 v H1 G1 F) (e : lstT r = some us) :
    ∃ b zs F', v = .ref b ∧ H1 b = some (.lst zs) ∧ OwA K st G1 H1 zs us F' ∧ F'.Nodup ∧ ∀ a ∈ F', a ∈ F := by
  unfold lstT at e
  split at e
  · rename_i ts
    cases e
    have ow : Ow K st G1 H1 v (.lst us) F := p.ok
    cases ow with
    | lst ni ha r => exact ⟨_, _, _, rfl, ha, r, (List.nodup_cons.mp p.nd).2, fun a ha => List.mem_cons_of_mem _ ha⟩
  · rename_i ds
    cases e
    have ow : Ow K st G1 H1 v (.fz (.list ds)) F := p.ok
    cases ow with
    | fz f =>
      cases f with
      | lst c r => exact ⟨_, _, [], rfl, U_lst (p.gr.sub _ _ c), r.toOw, .nil, fun a ha => by simp at ha⟩
  · cases e
theorem ss_ext {o : Expr} {apos cpos : Pos} (hp : SP X st o mp) (he : SE X st e me)
    (hbase : attributeBase o "extend" X.env (eval o X.env) = eval o X.env := by rfl)
    (hfew : ((backTo cpos (starEach [e] X.env)).all (fun x => !x.1) && (backToKw cpos (keywordEach [] X.env)).all (fun x => x.1.isSome)
      && decide (([e] : List Expr).length + ([] : List Keyword).length + (if ([] : List Keyword).isEmpty then 0 else 1) < 30)) = true := by rfl)
    (hline : (apos.endLine == cpos.line) = true := by rfl) (hs : starEach [e] X.env = (false, eval e X.env) :: starEach [] X.env := by rfl) (hplain : (backTo cpos (starEach [] X.env)).any (·.1) = false := by rfl)
    (hsw : swapsWith (.Call (.Attribute o "extend" apos) [e] [] cpos) none pos.line X.env = pure false := by rfl) :
    SS X st (.Expr (.Call (.Attribute o "extend" apos) [e] [] cpos) pos) (mExt mp me) := by
  refine ⟨(ps_expr (pe_bm PySem.F.plainAttrs_list PySem.F.slot_list_extend PySem.F.type_list_extend mt_extend hp.run (pa_cons he.run pa_nil hs) hbase hfew hline hs hplain) hsw).imp fun D σ H ⟨g, s, o, g', s', G, O, e, z, q⟩ => ?_⟩
  unfold mExt at e
  split at e
  · rename_i ts back s1 e1
    split at e
    · rename_i r0 s2 e2
      split at e
      · rename_i us eus
        split at e
        · rename_i hl
          cases e
          refine ⟨g, s, _, back, s1, G, O, e1, z, fun w H1 G1 Fu gr1 sm1 h1 => ?_⟩
          have z1 := z.grow gr1 sm1
          have ow := h1.ow
          generalize hF : Fu = Fu0 at ow
          cases ow with
          | @lst a vs _ F1 ni ha r =>
            refine ⟨call_lst ha, g, s1, r0, _, G1, O, e2, z1, fun v H2 G2 Fe0 p2 => ?_⟩
            have z2 := z1.grow p2.gr p2.strm
            have h2 := h1.grow p2.gr.le (z1.kept p2.gr)
            have ha2 := p2.gr.same a _ ni ha
            have r2 := r.keep p2.gr.le fun b hb o e => p2.gr.same b o (r.there b hb).1 e
            obtain ⟨b, zs, Fe, rfl, hb, ov, nfe, sfe⟩ := lst_rv p2 eus
            subst hF
            obtain ⟨n1, n2⟩ := List.nodup_cons.mp h1.nd
            have fe : ∀ b ∈ Fe, b ∉ O ∧ G2 b = none := fun b hb => ⟨fun hO => (by
              obtain ⟨_, o', e', _⟩ := z1.ra.there b hO
              rw [(p2.ap b (sfe b hb)).1] at e'; cases e'), (p2.ap b (sfe b hb)).2⟩
            have aO := h1.sub a List.mem_cons_self
            have nm : ∀ b ∈ F1 ++ Fe, b ≠ a := fun b hb x => by
              subst x
              rcases List.mem_append.mp hb with y | y
              · exact n1 y
              · exact (fe b y).1 aO
            obtain ⟨O', z', m'⟩ := z2.put (Fe := Fe) (o := .lst vs) (o' := .lst (vs ++ zs)) (u' := .lst (ts ++ us)) h2 rfl (.lst ni upd_same ((r2.append ov).keep (.refl _) fun b hb o e => by rw [upd_ne (nm b hb)]; exact e))
              (List.nodup_cons.mpr ⟨fun x => nm a x rfl, List.nodup_append.mpr ⟨n2, nfe, fun b hb b' hb' e => by subst e; exact (fe b hb').1 (h1.sub b (List.mem_cons_of_mem _ hb))⟩⟩) (fun b hb => List.mem_append.mp hb) fe
            refine ⟨a, b, vs, zs, rfl, rfl, ha2, hb, by rw [r.len, ov.len]; exact of_decide_eq_true hl, q _ _ _ _ (mv_put z (gr1.trans p2.gr) aO m' fun b hb => gr1.back b (p2.ap b (sfe b hb)).1) z'⟩
        · cases e
      · cases e
    · cases e
  · cases e

theorem get_any (hu : X.A.units + 1 < cLine) : PGet X fun x y H Q => rIxL X.K x y H Q ∨ rIxD x y H Q := by
  intro pins s σ H o i ov iv Q I ro ri h
  rcases h with ⟨p, xs, i, z, rfl, rfl, hq, he, q⟩ | ⟨a, w, rfl, g, q⟩
  · cases ro
    obtain ⟨t, rfl⟩ := ri
    obtain ⟨its, r, pl, hz⟩ := I.list hq
    obtain ⟨j, h1, h2, h3, h4, h5⟩ := atI_get he
    obtain ⟨w, ew, rw'⟩ := r.get h2
    have hl := r.length
    have hn := line63
    have fin : EP X pins σ Q w s := ⟨z, H, I, rw', q⟩
    by_cases h0 : 0 ≤ i
    · have hj : i.toNat = j := by
        rw [seqIndex_of h0 h5] at h1
        exact Option.some.inj h1
      exact wpAny_getItem_list pl.isList h0 (by omega) (by rw [hj]; simpa using ew) fin
    · have hj : (i + (its.toArray.size : Int)).toNat = j := by
        rw [seqIndex_neg (by omega) h4] at h1
        rw [List.size_toArray, ← hl]
        exact Option.some.inj h1
      exact wpAny_getItem_list_neg pl.isList (by omega) (by rw [List.size_toArray] <;> omega) (by omega) (by rw [hj]; simpa using ew) fin
  · obtain rfl : ov = Value.ref a := ro
    exact d_getItem hu I g ri fun w' s3 I3 rw' => ⟨w, H, I3, rw', q⟩
theorem put_tup {K : PySem.W.Frag} {G H : Hp} {a : Addr} {u t : T} {k : D} {F : List Addr} {vs : List V} (ow : Ow K st G H (.ref a) u F) (ha : H a = some (.tup vs)) : u.put k t = none := by
  cases ow with
  | fz f => rfl
  | lst ni h r => rw [ha] at h; cases h
  | tup ni h r => rfl
  | dk ni h r => rw [ha] at h; cases h
  | dt ni h r nl => rw [ha] at h; cases h
def mAugS (mp : MP) (mi : ME) (f : Int → Int → Int) (me : ME) : MSt := fun g s => match mp g s with
  | some (u, back, s1) => match mi g s1 with
    | some (k, s2) => match u.child k.d with
      | some (.fz (.int x)) => match me g s2 with
        | some (.t (.fz (.int y)), s3) => match u.put k.d (.fz (.int (f x y))) with
          | some u' => some (.nx, back u', s3)
          | none => none
        | _ => none
      | _ => none
    | none => none
  | none => none
theorem Fz.grow {K : PySem.W.Frag} {H G H' G' : Hp} {v : V} {d : D} (f : Fz K (U H) v d) (sc : D.sc d = true ∨ ∃ F r, RvOk K st G H v r F ∧ r.d = d) (gr : Grow st H G H' G') : Fz K (U H') v d := by
  rcases sc with sc | ⟨F, r, ok, rfl⟩
  · exact f.sc sc
  · exact (ok.keep gr).rd gr.sub
theorem ss_augS {o i : Expr} {tpos : Pos} {op : Operator} {f : Int → Int → Int} (hu : X.A.units + 1 < cLine) (hop : PIp X op (ipI f)) (hp : SP X st o mp) (hi : SE X st i mi) (he : SE X st e me)
    (ha : ∀ ov iv new, augStore i ov iv new = (do holding [new, ov, iv] (setItem ov iv new); release [new, ov, iv] []; pure .next) := by intros; rfl) : SS X st (.AugAssign (.Subscript o i tpos) op e pos) (mAugS mp mi f me) := by
  refine ⟨(ps_augS hp.run hi.run (get_any hu) he.run hop (set_any hu) ha).imp fun D σ H ⟨g, s, o, g', s', G, O, e, z, q⟩ => ?_⟩
  unfold mAugS at e
  split at e
  · rename_i u back s1 e1
    split at e
    · rename_i k s2 e2
      split at e
      · rename_i x ex
        split at e
        · rename_i y s3 e3
          split at e
          · rename_i u' eu
            cases e
            refine ⟨g, s, u, back, s1, G, O, e1, z, fun w H1 G1 Fu gr1 sm1 h1 => ?_⟩
            have z1 := z.grow gr1 sm1
            refine ⟨g, s1, k, s2, G1, O, e2, z1, fun yv H2 G2 Fy p2 => ?_⟩
            have z2 := z1.grow p2.gr p2.strm
            have h2 := h1.grow p2.gr.le (z1.kept p2.gr)
            obtain ⟨w', Fc, h3, rd⟩ := h2.child ex (p2.ok.rd p2.gr.sub)
            have hw' : w' = .int x := by
              have := h3.ow
              cases this with
              | fz f => exact f.int_inv
            subst hw'
            have nxt : tE X.K st me σ H2 (fun y_1 H4 => ipI f (.int x) y_1 H4 fun z_1 H5 => rSet w yv z_1 H5 fun H6 => D.nx σ H6) := by
              refine ⟨g, s2, _, _, G2, O, e3, z2, fun ev H3 G3 Fe p3 => ?_⟩
              have hev : ev = .int y := by
                have o1 : Ow X.K st G3 H3 ev (.fz (.int y)) Fe := p3.ok
                cases o1 with
                | fz f => exact f.int_inv
              have z3 := z2.grow p3.gr p3.strm
              refine ⟨x, y, rfl, hev, ?_⟩
              exact put_ok z3 (h2.grow p3.gr.le (z2.kept p3.gr)) eu ((p2.ok.keep p3.gr).rd p3.gr.sub) (.fz (.int (f x y))) .nil (fun b hb => by simp at hb) fun a o' O' aO z' m => q _ _ _ _ (mv_put z (gr1.trans (p2.gr.trans p3.gr)) aO m fun b hb => by simp at hb) z'
            rcases rd with ⟨a, vs, i, rfl, rfl, ha, hx⟩ | ⟨a, vs, i, rfl, rfl, ha, hx⟩ | ⟨a, rfl, hx⟩
            · exact .inl ⟨a, vs, i, _, rfl, rfl, .inl (.inl ha), hx, nxt⟩
            · exfalso
              have ow := h2.ow
              rw [put_tup ow ha] at eu
              cases eu
            · exact .inr ⟨a, _, rfl, hx, nxt⟩
          · cases e
        · cases e
      · cases e
    · cases e
  · cases e

def mDNew : ME := fun _ s => some (.t (.dic false []), s)
theorem se_dnew : SE X st (.Dict [] [] pos) mDNew := ⟨pe_dnewK.imp fun σ H Q ⟨g, s, r, s', G, O, e, z, q⟩ => by
  cases e
  exact fun p n => q _ _ G [p] (.newOw z.at n (.dk (z.at.fresh_ns n) upd_same .nil) (by simp) (fun a ha => by simp at ha) z.at.grow)⟩
end
end DV

namespace DV
open PySem PySem.Spec PyProof.Rows L2

def dcL (tg : Tg) (mt mk mv : ME) (g : Gm) : List D → List (D × T) → S → Option (List (D × T) × S)
  | [], acc, s => some (acc, s)
  | d :: ds, acc, s => match bind tg d g with
    | none => none
    | some g1 => match mt g1 s with
      | some (.t (.fz (.bool true)), s1) => match mk g1 s1 with
        | some (y, s2) => match mv g1 s2 with
          | some (.t t, s3) => if (kOf y.d).isSome then match tPut acc y.d t with
            | some acc' => dcL tg mt mk mv g ds acc' s3
            | none => none else none
          | _ => none
        | none => none
      | some (.t (.fz (.bool false)), s1) => dcL tg mt mk mv g ds acc s1
      | _ => none
def mDc (vs : List Nat) (tg : Tg) (mi : MI) (mt mk mv : ME) : ME := fun g s => match mi g s with
  | some (ds, s1) => if ltLen ds.length then match dcL tg mt mk mv (wipeG g vs) ds [] s1 with
    | some (l, s2) => some (.t (.dic false l), s2)
    | none => none else none
  | none => none
section
variable {X : Cx} {st : Stm} {a b c e tg : Expr} {ma mb mc m mt me mk mv : ME} {pos p : Pos} {es : List Expr} {mi : MI}
structure DcI (K : PySem.W.Frag) (st : Stm) (g : Gm) (σ : Sg) (H1 G1 : Hp) (D : Addr) (ts : List (DV.D × T)) (s : S) (H G : Hp) (O F : List Addr) (acc : List (Key × V)) : Prop where
  gr : Grow st H1 G1 H G
  z : St0 K st g s σ H G O
  nO : D ∉ O
  hD : H D = some (.dK acc)
  n1 : H1 D = none
  gD : G D = none
  nS : ¬ inS st D
  ow : OwK K st G H acc ts F
  nf : F.Nodup
  nDF : D ∉ F
  fr : ∀ a ∈ F, H1 a = none ∧ G a = none
theorem DcI.start {K : PySem.W.Frag} {g : Gm} {s : S} {σ : Sg} {H1 G1 : Hp} {O : List Addr} (z : St0 K st g s σ H1 G1 O) {D : Addr} (n : H1 D = none) : DcI K st g σ H1 G1 D [] s (upd H1 D (.dK [])) G1 O [] [] := by
  have gD : G1 D = none := z.sub.none n
  have nO : D ∉ O := fun h => by
    obtain ⟨_, o, e, _⟩ := z.ra.there D h
    rw [n] at e; cases e
  exact ⟨z.at.grow_upd n, z.own gD nO (z.at.fresh_ns n), nO, upd_same, n, gD, z.at.fresh_ns n, .nil, .nil, by simp, fun a ha => by simp at ha⟩
theorem DcI.grow {K : PySem.W.Frag} {g : Gm} {s s' : S} {σ : Sg} {H1 G1 H G H' G' : Hp} {D : Addr} {ts : List (DV.D × T)} {O F : List Addr} {acc : List (Key × V)} (h : DcI K st g σ H1 G1 D ts s H G O F acc) (gr' : Grow st H G H' G') (sm' : Strm st s' H') :
    DcI K st g σ H1 G1 D ts s' H' G' O F acc :=
  ⟨h.gr.trans gr', h.z.grow gr' sm', h.nO, gr'.same _ _ h.nS h.hD, h.n1, gr'.none_of h.hD h.gD, h.nS, h.ow.keep gr'.le fun a ha o e => gr'.same a o (h.ow.there a ha).1 e, h.nf, h.nDF, fun a ha => by
    obtain ⟨_, o, e, _⟩ := h.ow.there a ha
    exact ⟨(h.fr a ha).1, gr'.none_of e (h.fr a ha).2⟩⟩
theorem DcI.push {K : PySem.W.Frag} {g : Gm} {s : S} {σ : Sg} {H1 G1 H G : Hp} {D : Addr} {ts ts' : List (DV.D × T)} {O F F' : List Addr} {acc : List (Key × V)} {v : V} {t : T} {k : Key} (h' : DcI K st g σ H1 G1 D ts s H G O F acc) (y : Ow K st G H v t F') (nf' : F'.Nodup)
    (dj : ∀ a ∈ F', a ∉ F ∧ a ≠ D ∧ H1 a = none ∧ G a = none) (e : tPut ts (keyD k) t = some ts') : ∃ F2, DcI K st g σ H1 G1 D ts' s (upd H D (.dK (putK acc k v))) G O F2 (putK acc k v) := by
  obtain ⟨F2, c1, c2, c3⟩ := OwK.put h'.ow h'.nf y nf' (fun a ha => (dj a ha).1) e
  have nD2 : D ∉ F2 := fun z => (c3 D z).elim h'.nDF fun z => (dj D z).2.1 rfl
  refine ⟨F2, h'.gr.own h'.n1 h'.hD h'.gD, h'.z.own h'.gD h'.nO h'.nS, h'.nO, upd_same, h'.n1, h'.gD, h'.nS, OwK.keep (.refl _) c1 (fun a ha o e => by rw [upd_ne (fun z => nD2 (by rw [← z]; exact ha))]; exact e), c2, nD2, fun a ha => (c3 a ha).elim (h'.fr a) fun z => (dj a z).2.2⟩
theorem DcI.fin {K : PySem.W.Frag} {g : Gm} {s : S} {σ : Sg} {H1 G1 H G : Hp} {D : Addr} {ts : List (DV.D × T)} {O F : List Addr} {acc : List (Key × V)} (h : DcI K st g σ H1 G1 D ts s H G O F acc) : PostE K st H1 G1 (.t (.dic false ts)) s (.ref D) H G (D :: F) :=
  ⟨h.gr, .dk h.nS h.hD h.ow, List.nodup_cons.mpr ⟨h.nDF, h.nf⟩, fun a ha => by
    rcases List.mem_cons.mp ha with rfl | ha
    · exact ⟨h.n1, h.gD⟩
    · exact h.fr a ha, h.z.strm⟩
theorem dc_read {K : PySem.W.Frag} {tgt : Tg} {vs : List Nat} {σ : Sg} {H : Hp} {Q : VK} {wi : TI} (hw : ∀ R, tI K st mi σ H R → wi σ H R) (hv : ∀ i ∈ tgt.slots, i ∈ vs) (h : tE K st (mDc vs tgt mi mt mk mv) σ H Q) :
    tDc wi (Tg.g K tgt) (tT K st mt) (tE K st mk) (tE K st mv) vs σ H Q := by
  obtain ⟨g, s, r, s', G, O, em, z, q⟩ := h
  unfold mDc at em
  split at em
  · rename_i ds s1 e1
    split at em
    · rename_i hl
      have hl := of_decide_eq_true hl
      split at em
      · rename_i ts s2 e2
        cases em
        refine hw _ ⟨g, s, ds, s1, G, O, e1, z, fun J H1 G1 gr sm ok D nD => ?_⟩
        have z1 := z.grow gr sm
        obtain ⟨Ow, zw, mw⟩ := z1.wipe vs
        let Pv : Nat → Hp → Prop := fun i H2 => ∃ t1 s3 G2 O2 F acc, DcI K st (wipeG g vs) (L2.wipe σ vs) H1 G1 D t1 s3 H2 G2 O2 F acc ∧ acc.length ≤ i ∧ (∀ a o u, H1 a = some (.frz o u) → H2 a = some (.frz o u)) ∧ dcL tgt mt mk mv (wipeG g vs) (ds.drop i) t1 s3 = some (ts, s')
        refine ⟨fun i m H2 => m = ds.length - i ∧ i ≤ ds.length ∧ Pv i H2,
          ⟨ds.length, rfl, Nat.zero_le _, [], s1, _, _, _, _, DcI.start zw nD, Nat.zero_le _, fun a o u e => by rw [upd_ne (ne_of_none e nD)]; exact e, e2⟩, ?_⟩
        rintro i m H2 ⟨rfl, hi, t1, s3, G2, O2, F, acc, li, la, lk, ef⟩
        by_cases hlt : i < ds.length
        · rw [List.drop_eq_getElem_cons hlt] at ef
          unfold dcL at ef
          refine .inr ⟨ok.go i H2 G2 li.gr.le li.z.sub lk hlt, ?_⟩
          split at ef
          · cases ef
          · rename_i g1 eb
            refine ⟨Pv (i + 1), fun H' hN => ⟨ds.length - (i + 1), by omega, rfl, hlt, hN⟩, fun v H' y => ?_⟩
            obtain ⟨G3, d, ed, fd, gr3, sm3⟩ := ok.yld i H2 G2 s3 v H' li.gr.le li.z.at lk hlt y
            have li3 := li.grow gr3 sm3
            have lk3 : ∀ a o u, H1 a = some (.frz o u) → H' a = some (.frz o u) := fun a o u e => gr3.frz li.z (lk a o u e)
            rw [List.getElem?_eq_getElem hlt] at ed
            cases ed
            refine bind_ok tgt li3.z fd eb fun σ4 O4 m4 z4 w4 => ⟨(w4 vs hv).trans wipe_idem, ?_⟩
            split at ef
            · rename_i s4 et
              refine ⟨g1, s3, true, s4, G3, O4, et, z4, fun H4 G4 gr4 sm4 => iteT ?_⟩
              have li4 := li3.grow gr4 sm4
              have z5 := z4.grow gr4 sm4
              split at ef
              · rename_i ky s5 ee
                split at ef
                · rename_i t s6 e6
                  split at ef
                  · rename_i hk
                    obtain ⟨k0, ek⟩ := Option.isSome_iff_exists.mp hk
                    have ek := kOf_some ek
                    split at ef
                    · rename_i acc' ea
                      refine ⟨g1, s4, _, s5, G4, O4, ee, z5, fun y H5 G5 F5 p5 => ?_⟩
                      have z6 := z5.grow p5.gr p5.strm
                      refine ⟨g1, s5, _, s6, G5, O4, e6, z6, fun u H6 G6 F6 p6 => ?_⟩
                      have li6 := (li4.grow p5.gr p5.strm).grow p6.gr p6.strm
                      rw [ek] at ea
                      have yk : y = kV k0 := by
                        have f := p5.ok.rd p5.gr.sub
                        rw [ek] at f
                        cases k0 <;> (cases f; rfl)
                      have li5 := li4.grow p5.gr p5.strm
                      have dj : ∀ a ∈ F6, a ∉ F ∧ a ≠ D ∧ H1 a = none ∧ G6 a = none := fun a ha => by
                        have n5 := (p6.ap a ha).1
                        refine ⟨fun z => ?_, fun z => ?_, li5.gr.back a n5, (p6.ap a ha).2⟩
                        · obtain ⟨_, o, e, _⟩ := li5.ow.there a z
                          rw [n5] at e; cases e
                        · subst z
                          rw [li5.hD] at n5; cases n5
                      obtain ⟨F2, li7⟩ := li6.push p6.ok p6.nd dj ea
                      refine ⟨acc, k0, yk, li6.hD, Nat.lt_of_le_of_lt la (Nat.lt_of_le_of_lt hi hl), acc', s6, G6, _, F2, _, li7, Nat.le_trans (length_putK acc k0 u) (Nat.succ_le_succ la), fun a o u e => ?_, ef⟩
                      have e4 := p6.gr.frz li5.z (p5.gr.frz li4.z (gr4.frz li3.z (lk3 a o u e)))
                      have ne : a ≠ D := fun z => by rw [z, nD] at e; cases e
                      rw [upd_ne ne]; exact e4
                    · cases ef
                  · cases ef
                · cases ef
              · cases ef
            · rename_i s4 et
              refine ⟨g1, s3, false, s4, G3, O4, et, z4, fun H4 G4 gr4 sm4 => iteF ?_⟩
              exact ⟨t1, s4, G4, _, _, _, li3.grow gr4 sm4, Nat.le_succ_of_le la, fun a o u e => gr4.frz li3.z (lk3 a o u e), ef⟩
            · cases ef
        · have e0 : i = ds.length := by omega
          subst e0
          rw [List.drop_length] at ef
          unfold dcL at ef
          cases ef
          exact .inl ⟨ok.stop _ H2 G2 li.gr.le li.z.sub lk (Nat.le_refl _), q _ H2 G2 _ (li.fin.after gr)⟩
      · cases em
    · cases em
  · cases em
theorem se_dc {kx vx iter : Expr} {ifs : List Expr} {scope : Scope} {own : List (Str × Nat)} {tgt : Tg} (hc : X.calm = true) (hN : X.N.Nodup) (hi : SI X st tg iter mi) (ok : BlkOk X.N X.env.scope scope own) (hv : ∀ i ∈ tgt.slots, i ∈ own.map (·.2))
    (hg : ∀ (s : Shared) (H : Hp) (C : Addr) (cl : List (Str × Addr)) (fp : List Addr), PG (X.blk s H scope (compEnvC scope cl C X.env) fp) tg (Tg.g X.K tgt)) (ht : ∀ (s : Shared) (H : Hp) (C : Addr) (cl : List (Str × Addr)) (fp : List Addr), STs (X.blk s H scope (compEnvC scope cl C X.env) fp) st ifs mt)
    (hk : ∀ (s : Shared) (H : Hp) (C : Addr) (cl : List (Str × Addr)) (fp : List Addr), SE (X.blk s H scope (compEnvC scope cl C X.env) fp) st kx mk)
    (he : ∀ (s : Shared) (H : Hp) (C : Addr) (cl : List (Str × Addr)) (fp : List Addr), SE (X.blk s H scope (compEnvC scope cl C X.env) fp) st vx mv) (hs : ∀ x, foldedSetIterable iter X.env x = pure x := by intro _; rfl) :
    SE X st (.DictComp kx vx [⟨tg, iter, ifs, 0⟩] scope pos) (mDc (own.map (·.2)) tgt mi mt mk mv) :=
  ⟨(pe_dc (tk := tE X.K st mk) (tv := tE X.K st mv) (tt := tT X.K st mt) hc hN hi.run ok hg (fun s H C cl fp => (ht s H C cl fp).run) (fun s H C cl fp => (hk s H C cl fp).run) (fun s H C cl fp => (he s H C cl fp).run) hs).imp fun σ H Q h => dc_read (fun _ h => h) hv h⟩
/-- a name's own dict comprehension, stored from within the block -/
theorem ps_setDc {i : Nat} {y : Str} {py spos : Pos} {kx vx iter : Expr} {ifs : List Expr} {scope : Scope} {own : List (Str × Nat)} {wi : TI} {g : TG} {tt : TT} {tk tv : TE} (calm : X.calm = true) (nd : X.N.Nodup) (at_ : X.N[i]? = some y) (lc : X.env.scope.names.lookup y = some .local)
    (sw : swapsWith (.DictComp kx vx [⟨tg, iter, ifs, 0⟩] scope pos) (some (.Name y py)) spos.line X.env = pure true) (walk : PI X tg iter wi) (ok : BlkOk X.N X.env.scope scope own)
    (pg : ∀ (s : Shared) (H : Hp) (C : Addr) (cl : List (Str × Addr)) (fp : List Addr), PG (X.blk s H scope (compEnvC scope cl C X.env) fp) tg g)
    (pts : ∀ (s : Shared) (H : Hp) (C : Addr) (cl : List (Str × Addr)) (fp : List Addr), PTs (X.blk s H scope (compEnvC scope cl C X.env) fp) ifs tt)
    (pk : ∀ (s : Shared) (H : Hp) (C : Addr) (cl : List (Str × Addr)) (fp : List Addr), PE (X.blk s H scope (compEnvC scope cl C X.env) fp) kx tk)
    (pv : ∀ (s : Shared) (H : Hp) (C : Addr) (cl : List (Str × Addr)) (fp : List Addr), PE (X.blk s H scope (compEnvC scope cl C X.env) fp) vx tv) (fs : ∀ v, foldedSetIterable iter X.env v = pure v := by intro _; rfl) :
    PS X (.Assign [.Name y py] (.DictComp kx vx [⟨tg, iter, ifs, 0⟩] scope pos) spos) (tAsg (tDc wi g tt tk tv (own.map (·.2))) (gName i)) := by
  constructor
  intro pins s σ H Ds I
  intro (hq : tDc wi g tt tk tv (own.map (·.2)) σ H (fun v H' => Ds.nx (σ.set i (some v)) H'))
  have core := dc_core (Qf := fun _ s' => L2.SP X pins Ds .next s') (use := some (assign (.Name y py) X.env)) (pos' := firstIterPos [⟨tg, iter, ifs, 0⟩] pos) (pos := pos) calm nd I walk ok pg pts pk pv fs hq
  rw [exec_Assign_Name_used _ _ _ _ sw]
  apply wpAny_bind
  apply wpAny_standAt
  apply wpAny_bind
  apply wpAny_bind
  refine thn (core ?_) fun _ s' q => wpAny_pure (wpAny_pure q)
  intro L C s1 m H1 I1 q ns fr
  apply wpAny_assign_Name
  refine store_ok2 (v := V.ref L) I1 nd at_ (.inl lc) rfl ?_ (.inr lc)
  · rintro s2 I2 ⟨x, same, hx⟩
    have ne : C ≠ x := by
      rcases hx with e | e
      · rw [e]; exact fr.2.1
      · exact fun z => fr.2.2.2.2.1 y x e z.symm
    refine ⟨m, ns.sameBut same ne, fun h3 same3 => ⟨_, H1, ?_, q⟩⟩
    exact I2.turned (t' := s2.toks) (fun c o hc e => (same3.2 c hc).trans e) fr.1 fr.2.1 fr.2.2.2.1 fr.2.2.2.2.1 fr.2.2.2.2.2
theorem ss_setDc {i : Nat} {y : Str} {py : Pos} {kx vx iter : Expr} {ifs : List Expr} {scope : Scope} {own : List (Str × Nat)} {tgt : Tg} {spos : Pos} (hc : X.calm = true) (hN : X.N.Nodup) (hy : X.N[i]? = some y) (hyl : X.env.scope.names.lookup y = some .local)
    (hsw : swapsWith (.DictComp kx vx [⟨tg, iter, ifs, 0⟩] scope pos) (some (.Name y py)) spos.line X.env = pure true) (hi : SI X st tg iter mi) (ok : BlkOk X.N X.env.scope scope own) (hv : ∀ i ∈ tgt.slots, i ∈ own.map (·.2))
    (hg : ∀ (s : Shared) (H : Hp) (C : Addr) (cl : List (Str × Addr)) (fp : List Addr), PG (X.blk s H scope (compEnvC scope cl C X.env) fp) tg (Tg.g X.K tgt)) (ht : ∀ (s : Shared) (H : Hp) (C : Addr) (cl : List (Str × Addr)) (fp : List Addr), STs (X.blk s H scope (compEnvC scope cl C X.env) fp) st ifs mt)
    (hk : ∀ (s : Shared) (H : Hp) (C : Addr) (cl : List (Str × Addr)) (fp : List Addr), SE (X.blk s H scope (compEnvC scope cl C X.env) fp) st kx mk)
    (he : ∀ (s : Shared) (H : Hp) (C : Addr) (cl : List (Str × Addr)) (fp : List Addr), SE (X.blk s H scope (compEnvC scope cl C X.env) fp) st vx mv) (hs : ∀ x, foldedSetIterable iter X.env x = pure x := by intro _; rfl) :
    SS X st (.Assign [.Name y py] (.DictComp kx vx [⟨tg, iter, ifs, 0⟩] scope pos) spos) (mSet i (mDc (own.map (·.2)) tgt mi mt mk mv)) := by
  refine ⟨(ps_setDc (tk := tE X.K st mk) (tv := tE X.K st mv) (tt := tT X.K st mt) hc hN hy hyl hsw hi.run ok hg (fun s H C cl fp => (ht s H C cl fp).run) (fun s H C cl fp => (hk s H C cl fp).run) (fun s H C cl fp => (he s H C cl fp).run) hs).imp fun D σ H ⟨g, s, o, g', s', G, O, e, z, q⟩ => ?_⟩
  unfold mSet at e
  split at e
  · rename_i t s1 em
    cases e
    refine dc_read (Q := fun v H' => gName i v σ H' D.nx) (fun _ h => h) hv ⟨g, s, _, _, G, O, em, z, fun v H' G' F p => ?_⟩
    obtain ⟨O', z', mv⟩ := z.set (i := i) p
    exact q _ H' G' O' mv z'
  · cases e
theorem sw_trueD {kx vx : Expr} {gs : List Comprehension} {scope : Scope} {pos py : Pos} {y : Str} {l : Nat} {env : Env} (fn : env.scope.kind = .function) (lc : env.scope.names.lookup y = some .local) (ln : (py.line == pos.line) = true)
    (not : (scope.names.any fun (n, k) => n == y && (k == .local || k == .cell)) = false) : swapsWith (.DictComp kx vx gs scope pos) (some (.Name y py)) l env = pure true := by
  have k1 : env.kindOf y = some .local := lc
  have k2 : env.blockKind = .function := by simp only [Env.blockKind, fn, ScopeKind.isAnnotationScope]; decide
  simp only [swapsWith, k1, k2, not, Expr.pos, ln]
  rfl
end
end DV

namespace DV
open PySem PySem.Spec PyProof.Rows L2

/-- the dict in slot i is locked -/
def Lkd (i : Nat) (σ : Sg) (H : Hp) : Prop := ∃ d o u, σ[i]? = some (some (.ref d)) ∧ H d = some (.frz o u)
def keysK1 (l : List (D × D)) : Bool := l.all fun p => (kOf p.1).isSome
def mKeys (i : Nat) : MI := fun g s => match g[i]? with
  | some (some (.t (.fz (.dict l)))) => if keysK1 l then some (l.map (·.1), s) else none
  | _ => none
def mVals (i : Nat) : MI := fun g s => match g[i]? with
  | some (some (.t (.fz (.dict l)))) => if keysK1 l then some (l.map (·.2), s) else none
  | _ => none
def mItems (i : Nat) : MI := fun g s => match g[i]? with
  | some (some (.t (.fz (.dict l)))) => if keysK1 l then some (l.map (fun p => .tuple [p.1, p.2]), s) else none
  | _ => none
section
variable {K : PySem.W.Frag} {st : Stm} {G H : Hp}
theorem FzK.get : ∀ {kvs : List (Key × V)} {l : List (D × D)}, FzK K G kvs l → ∀ {i : Nat} {k : Key} {v : V}, kvs[i]? = some (k, v) → ∃ d, l[i]? = some (keyD k, d) ∧ Fz K G v d
  | _, _, .nil, i, k, v, e => by simp at e
  | _, _, .cons h r, 0, k, v, e => by
    simp at e
    obtain ⟨rfl, rfl⟩ := e
    exact ⟨_, rfl, h⟩
  | _, _, .cons h r, i + 1, k, v, e => by
    obtain ⟨d, e1, f⟩ := FzK.get r (i := i) (k := k) (v := v) (by simpa using e)
    exact ⟨d, by simpa using e1, f⟩
theorem Fz.dicK {v : V} {l : List (D × D)} (f : Fz K G v (.dict l)) (h : keysK1 l = true) : ∃ a kvs, v = .ref a ∧ G a = some (.dK kvs) ∧ FzK K G kvs l := by
  cases f with
  | dk c r => exact ⟨_, _, rfl, c, r⟩
  | dt c r ne =>
    exfalso
    cases r with
    | nil => exact ne rfl
    | cons f r => cases h
theorem kV_keyD (k : Key) : Fz K G (kV k) (keyD k) := by cases k <;> constructor
/-- how a locked dict stands -/
theorem lk_is {a : Addr} {kvs : List (Key × V)} (su : Sub G H) (c : G a = some (.dK kvs)) {o : Obj} {u : HO} (h : H a = some (.frz o u)) : u = .dK kvs := by
  have := su a _ c
  unfold U at this
  rw [h] at this
  have h2 : unl (.frz o u) = .dK kvs := Option.some.inj this
  unfold unl at h2
  split at h2
  · rename_i e; cases e; cases h2; rfl
  · cases h2
  · cases h2
theorem it_keys {H1 G1 : Hp} {a : Addr} {o : Obj} {kvs : List (Key × V)} {l : List (D × D)} (h : H1 a = some (.frz o (.dK kvs))) (f : FzK K G1 kvs l) : ItOk K st (Itk a o kvs) (l.map (·.1)) H1 G1 := by
  have hl : (l.map (·.1)).length = kvs.length := by rw [List.length_map, f.len]
  refine ⟨fun i H G le su lk hi => ⟨lk _ _ _ h, by omega⟩, fun i H G le su lk hi => ⟨lk _ _ _ h, by omega⟩, fun i H G s x H' le at_ lk hi y => ?_⟩
  obtain ⟨rfl, k, v, e, rfl⟩ := y
  obtain ⟨d, e1, fd⟩ := f.get e
  exact ⟨G, keyD k, by rw [List.getElem?_map, e1]; rfl, kV_keyD k, at_.grow, at_.strm⟩
theorem it_vals {H1 G1 : Hp} {a : Addr} {o : Obj} {kvs : List (Key × V)} {l : List (D × D)} (h : H1 a = some (.frz o (.dK kvs))) (f : FzK K G1 kvs l) : ItOk K st (Itd a o kvs) (l.map (·.2)) H1 G1 := by
  have hl : (l.map (·.2)).length = kvs.length := by rw [List.length_map, f.len]
  refine ⟨fun i H G le su lk hi => ⟨lk _ _ _ h, by omega⟩, fun i H G le su lk hi => ⟨lk _ _ _ h, by omega⟩, fun i H G s x H' le at_ lk hi y => ?_⟩
  obtain ⟨rfl, k, e⟩ := y
  obtain ⟨d, e1, fd⟩ := f.get e
  exact ⟨G, d, by rw [List.getElem?_map, e1]; rfl, fd.mono le, at_.grow, at_.strm⟩
theorem it_items {H1 G1 : Hp} {a : Addr} {o : Obj} {kvs : List (Key × V)} {l : List (D × D)} (h : H1 a = some (.frz o (.dK kvs))) (f : FzK K G1 kvs l) : ItOk K st (Iti a o kvs) (l.map (fun p => .tuple [p.1, p.2])) H1 G1 := by
  have hl : (l.map (fun p => PyData.tuple [p.1, p.2])).length = kvs.length := by rw [List.length_map, f.len]
  refine ⟨fun i H G le su lk hi => ⟨lk _ _ _ h, by omega⟩, fun i H G le su lk hi => ⟨lk _ _ _ h, by omega⟩, fun i H G s x H' le at_ lk hi y => ?_⟩
  obtain ⟨T, k, v, e, rfl, n, rfl⟩ := y
  obtain ⟨d, e1, fd⟩ := f.get e
  obtain ⟨ft, gr, sm⟩ := new_pair at_ n (kV_keyD k) (fd.mono le)
  exact ⟨_, _, by rw [List.getElem?_map, e1]; rfl, ft, gr, sm⟩
theorem read_lk {g : Gm} {s : S} {σ : Sg} {H : Hp} {O : List Addr} {i : Nat} {l : List (D × D)} (z : St0 K st g s σ H G O) (lk : Lkd i σ H) (e : g[i]? = some (some (.t (.fz (.dict l))))) (hk : keysK1 l = true) :
    ∃ d o kvs, σ[i]? = some (some (.ref d)) ∧ H d = some (.frz o (.dK kvs)) ∧ FzK K G kvs l := by
  obtain ⟨v, F, ev, ow, _⟩ := z.ra.get e
  cases ow with
  | fz f =>
    obtain ⟨a, kvs, rfl, c, r⟩ := f.dicK hk
    obtain ⟨d, o, u, e2, h⟩ := lk
    rw [ev] at e2
    cases e2
    cases lk_is z.sub c h
    exact ⟨_, o, kvs, ev, h, r⟩
theorem keys_of {σ : Sg} {H : Hp} {R : It → Hp → Prop} {i : Nat} (lk : Lkd i σ H) (h : tI K st (mKeys i) σ H R) : iKeys (tVar i) σ H R := by
  obtain ⟨g, s, ds, s', G, O, em, z, q⟩ := h
  unfold mKeys at em
  split at em
  · rename_i l el
    split at em
    · rename_i hk
      cases em
      obtain ⟨d, o, kvs, e1, h, f⟩ := read_lk z lk el hk
      exact ⟨_, e1, d, o, rfl, .inl ⟨kvs, h, q _ H G z.at.grow z.strm (it_keys h f)⟩⟩
    · cases em
  · cases em
theorem vals_of {σ : Sg} {H : Hp} {R : It → Hp → Prop} {i : Nat} (lk : Lkd i σ H) (h : tI K st (mVals i) σ H R) : iVals (tVar i) σ H R := by
  obtain ⟨g, s, ds, s', G, O, em, z, q⟩ := h
  unfold mVals at em
  split at em
  · rename_i l el
    split at em
    · rename_i hk
      cases em
      obtain ⟨d, o, kvs, e1, h, f⟩ := read_lk z lk el hk
      exact ⟨_, e1, d, o, kvs, rfl, h, q _ H G z.at.grow z.strm (it_vals h f)⟩
    · cases em
  · cases em
theorem items_of {σ : Sg} {H : Hp} {R : It → Hp → Prop} {i : Nat} (lk : Lkd i σ H) (h : tI K st (mItems i) σ H R) : iItems (tVar i) σ H R := by
  obtain ⟨g, s, ds, s', G, O, em, z, q⟩ := h
  unfold mItems at em
  split at em
  · rename_i l el
    split at em
    · rename_i hk
      cases em
      obtain ⟨d, o, kvs, e1, h, f⟩ := read_lk z lk el hk
      exact ⟨_, e1, d, o, kvs, rfl, h, q _ H G z.at.grow z.strm (it_items h f)⟩
    · cases em
  · cases em
end
/-- a walk of a slot's dict -/
structure SIk (X : Cx) (st : Stm) (tg e : Expr) (i : Nat) (m : MI) : Prop where
  ex : ∃ wi, PI X tg e wi ∧ ∀ σ H R, Lkd i σ H → tI X.K st m σ H R → wi σ H R
  dic : ∀ g s p, m g s = some p → ∃ l, g[i]? = some (some (.t (.fz (.dict l))))
section
variable {X : Cx} {st : Stm} {a b c e tg : Expr} {ma mb mc m mt me mk mv : ME} {pos p apos cpos : Pos} {es : List Expr} {mi : MI} {i : Nat} {x : Str} {xs : List Stmt} {n : MSt}
theorem si_keys (h : PE X e (tVar i)) : SIk X st tg e i (mKeys i) := ⟨⟨_, pi_keys h, fun σ H R lk h => keys_of lk h⟩, fun g s p e => by
  unfold mKeys at e
  split at e
  · exact ⟨_, by assumption⟩
  · cases e⟩
theorem si_vals (h : PE X e (tVar i)) (hbase : attributeBase e "values" X.env (eval e X.env) = eval e X.env := by rfl) (hline : (apos.endLine == cpos.line) = true := by rfl) : SIk X st tg (.Call (.Attribute e "values" apos) [] [] cpos) i (mVals i) :=
  ⟨⟨_, pi_values h hbase hline, fun σ H R lk h => vals_of lk h⟩, fun g s p e => by
  unfold mVals at e
  split at e
  · exact ⟨_, by assumption⟩
  · cases e⟩
theorem si_items {elts : List Expr} {kk : Nat} {tpos : Pos} (h : PE X e (tVar i)) (hbase : attributeBase e "items" X.env (eval e X.env) = eval e X.env := by rfl) (hline : (apos.endLine == cpos.line) = true := by rfl) :
    SIk X st (.Tuple elts kk tpos) (.Call (.Attribute e "items" apos) [] [] cpos) i (mItems i) :=
  ⟨⟨_, pi_items h hbase hline, fun σ H R lk h => items_of lk h⟩, fun g s p e => by
  unfold mItems at e
  split at e
  · exact ⟨_, by assumption⟩
  · cases e⟩
theorem unl_frz {o : Obj} {u : HO} (n : ∀ x w, u ≠ .frz x w) (h : (∃ kvs, u = .dK kvs) ∨ ∃ kvs, u = .dT kvs) : unl (.frz o u) = unl u := by
  rcases h with ⟨kvs, rfl⟩ | ⟨kvs, rfl⟩ <;> rfl
theorem U_lock {H : Hp} {d : Addr} {u : HO} {od : Obj} (hd : H d = some u) (h : (∃ kvs, u = .dK kvs) ∨ ∃ kvs, u = .dT kvs) : U (upd H d (.frz od u)) = U H := by
  funext a
  unfold U
  by_cases e : a = d
  · subst e
    rw [upd_same, hd]
    rcases h with ⟨kvs, rfl⟩ | ⟨kvs, rfl⟩ <;> rfl
  · rw [upd_ne e]
theorem upd_back {H : Hp} {d : Addr} {u w : HO} (hd : H d = some u) : upd (upd H d w) d u = H := by
  funext a
  by_cases e : a = d
  · subst e; rw [upd_same, hd]
  · rw [upd_ne e, upd_ne e]
theorem St0.re {K : PySem.W.Frag} {g : Gm} {s : S} {σ : Sg} {H H2 G : Hp} {O : List Addr} {d : Addr} (z : St0 K st g s σ H G O) (hU : U H2 = U H) (same : ∀ a, a ≠ d → H2 a = H a) (gd : G d ≠ none) : St0 K st g s σ H2 G O := by
  have nO : d ∉ O := fun h => gd (z.ap d h)
  have nS : ¬ inS st d := fun i => gd (z.sg d i)
  refine ⟨by unfold Sub; rw [hU]; exact z.sub, z.ra.keep (.refl G) fun a ha o e => by rw [same a (fun x => nO (by rw [← x]; exact ha))]; exact e, z.nd, z.ap, z.sg, ?_⟩
  have q := z.strm
  cases st with
  | none => trivial
  | some p =>
    obtain ⟨x, y⟩ := p
    obtain ⟨h1, h2, h3, h4⟩ := q
    exact ⟨h1, by rw [same x (fun w => nS (.inl w.symm))]; exact h2, by rw [same y (fun w => nS (.inr w.symm))]; exact h3, h4⟩
theorem At.re {H H2 G : Hp} {s : S} {d : Addr} (z : At st s H G) (hU : U H2 = U H) (same : ∀ a, a ≠ d → H2 a = H a) (gd : G d ≠ none) : At st s H2 G := by
  have nS : ¬ inS st d := fun i => gd (z.sg d i)
  refine ⟨by unfold Sub; rw [hU]; exact z.sub, z.sg, ?_⟩
  have q := z.strm
  cases st with
  | none => trivial
  | some p =>
    obtain ⟨x, y⟩ := p
    obtain ⟨h1, h2, h3, h4⟩ := q
    exact ⟨h1, by rw [same x (fun w => nS (.inl w.symm))]; exact h2, by rw [same y (fun w => nS (.inr w.symm))]; exact h3, h4⟩
theorem Ow.re {K : PySem.W.Frag} {H H2 G : Hp} {v : V} {t : T} {F : List Addr} {d : Addr} (o : Ow K st G H v t F) (ap : ∀ a ∈ F, G a = none) (same : ∀ a, a ≠ d → H2 a = H a) (gd : G d ≠ none) : Ow K st G H2 v t F :=
  o.keep (.refl G) fun a ha u e => by rw [same a (fun x => gd (by rw [← x]; exact ap a ha))]; exact e
/-- where the lock is -/
theorem lk_at {K : PySem.W.Frag} {g : Gm} {s : S} {σ : Sg} {H G : Hp} {O : List Addr} {l : List (DV.D × DV.D)} (z : St0 K st g s σ H G O) (e : g[i]? = some (some (.t (.fz (.dict l))))) :
    ∃ d, σ[i]? = some (some (.ref d)) ∧ G d ≠ none ∧ ((∃ o u, H d = some (.frz o u)) ∨ ∃ u, H d = some u ∧ Mut (some u) ∧ ((∃ kvs, u = .dK kvs) ∨ ∃ kvs, u = .dT kvs)) := by
  obtain ⟨v, F, ev, ow, _⟩ := z.ra.get e
  cases ow with
  | fz f =>
    cases f with
    | dk c r =>
      refine ⟨_, ev, by rw [c]; exact Option.some_ne_none _, ?_⟩
      rcases U_dK (z.sub _ _ c) with h | ⟨o, h⟩
      · exact .inr ⟨_, h, trivial, .inl ⟨_, rfl⟩⟩
      · exact .inl ⟨_, _, h⟩
    | dt c r _ =>
      refine ⟨_, ev, by rw [c]; exact Option.some_ne_none _, ?_⟩
      rcases U_dT (z.sub _ _ c) with h | ⟨o, h⟩
      · exact .inr ⟨_, h, trivial, .inr ⟨_, rfl⟩⟩
      · exact .inl ⟨_, _, h⟩
theorem Mv.re {H G H2 H' G' : Hp} {O O' : List Addr} {d : Addr} {u w : HO} (m : Mv st H2 G O H' G' O') (hd : H d = some u) (h2 : H2 d = some w) (same : ∀ a, a ≠ d → H2 a = H a) (hd' : H' d = some w) : Mv st H G O (upd H' d u) G' O' where
  le := m.le
  same := fun a o n hO e => by
    by_cases x : a = d
    · subst x; rw [hd] at e; cases e; exact upd_same
    · rw [upd_ne x]; exact m.same a o n hO (by rw [same a x]; exact e)
  new := fun a e n => (m.new a e n).imp id fun z => by
    by_cases x : a = d
    · subst x; rw [h2] at z; cases z
    · rw [← same a x]; exact z
  own := fun a ha => (m.own a ha).imp id fun z => by
    by_cases x : a = d
    · subst x; rw [h2] at z; cases z
    · rw [← same a x]; exact z
  back := fun a e => by
    by_cases x : a = d
    · subst x; rw [upd_same] at e; cases e
    · rw [upd_ne x] at e; rw [← same a x]; exact m.back a e
theorem Grow.re {H G H2 H' G' : Hp} {d : Addr} {u w : HO} (m : Grow st H2 G H' G') (hU : U (upd H' d u) = U H') (hd : H d = some u) (h2 : H2 d = some w) (same : ∀ a, a ≠ d → H2 a = H a) : Grow st H G (upd H' d u) G' where
  le := m.le
  sub := by unfold Sub; rw [hU]; exact m.sub
  same := fun a o n e => by
    by_cases x : a = d
    · subst x; rw [hd] at e; cases e; exact upd_same
    · rw [upd_ne x]; exact m.same a o n (by rw [same a x]; exact e)
  new := fun a e n => by
    have z := m.new a e n
    by_cases x : a = d
    · subst x; rw [h2] at z; cases z
    · rw [← same a x]; exact z
  sg := m.sg
  back := fun a e => by
    by_cases x : a = d
    · subst x; rw [upd_same] at e; cases e
    · rw [upd_ne x] at e; rw [← same a x]; exact m.back a e
theorem Le.ne {G G' : Hp} (le : Le G G') {d : Addr} (h : G d ≠ none) : G' d ≠ none := by
  cases e : G d with
  | none => exact absurd e h
  | some o => rw [le d o e]; exact fun z => by cases z
theorem U_unlock {H' : Hp} {d : Addr} {u : HO} {od : Obj} (h : H' d = some (.frz od u)) (hk : (∃ kvs, u = .dK kvs) ∨ ∃ kvs, u = .dT kvs) : U (upd H' d u) = U H' := by
  funext a
  unfold U
  by_cases e : a = d
  · subst e
    rw [upd_same, h]
    rcases hk with ⟨kvs, rfl⟩ | ⟨kvs, rfl⟩ <;> rfl
  · rw [upd_ne e]
/-- a statement that wants the dict of slot i locked -/
theorem ss_lock {x : Stmt} {t : TS} {n : MSt} (h : PS X x t) (hd : ∀ g s r, n g s = some r → ∃ l, g[i]? = some (some (.t (.fz (.dict l))))) (hr : ∀ D σ H, Lkd i σ H → tS X.K st n D σ H → t D σ H) : SS X st x n := by
  have h2 : PS X x (fun D σ H => t D σ H ∨ tLock t D σ H) := ⟨fun pins s σ H D I q => q.elim (h.run pins s σ H D I) ((ps_lock h).run pins s σ H D I)⟩
  refine ⟨h2.imp fun D σ H hh => ?_⟩
  obtain ⟨g, s, o, g', s', G, O, em, z, q⟩ := id hh
  obtain ⟨l, el⟩ := hd g s _ em
  obtain ⟨d, ed, gd, hc⟩ := lk_at z el
  rcases hc with ⟨ob, u, hfz⟩ | ⟨u, hu, mu, hk⟩
  · exact .inl (hr D σ H ⟨d, ob, u, ed, hfz⟩ hh)
  · refine .inr ⟨d, u, hu, mu, fun od => ?_⟩
    have same : ∀ a, a ≠ d → upd H d (.frz od u) a = H a := fun a ne => upd_ne ne
    have z2 : St0 X.K st g s σ (upd H d (.frz od u)) G O := z.re (U_lock hu hk) same gd
    refine hr _ _ _ ⟨d, od, u, ed, upd_same⟩ ⟨g, s, o, g', s', G, O, em, z2, ?_⟩
    have go : ∀ {H' G' : Hp} {O' : List Addr}, Mv st (upd H d (.frz od u)) G O H' G' O' → H' d = some (.frz od u) := fun m => m.frz z2 upd_same
    cases o with
    | nx => exact fun σ' H' G' O' m z' => ⟨go m, q σ' _ G' O' (m.re hu upd_same same (go m)) (z'.re (U_unlock (go m) hk) (fun a ne => upd_ne ne) (m.le.ne gd))⟩
    | bk => exact fun σ' H' G' O' m z' => ⟨go m, q σ' _ G' O' (m.re hu upd_same same (go m)) (z'.re (U_unlock (go m) hk) (fun a ne => upd_ne ne) (m.le.ne gd))⟩
    | ct => exact fun σ' H' G' O' m z' => ⟨go m, q σ' _ G' O' (m.re hu upd_same same (go m)) (z'.re (U_unlock (go m) hk) (fun a ne => upd_ne ne) (m.le.ne gd))⟩
    | rt t => exact fun v H' G' F m a' ow nd ap => ⟨go m, q v _ G' F (m.re hu upd_same same (go m)) (a'.re (U_unlock (go m) hk) (fun a ne => upd_ne ne) (m.le.ne gd)) (ow.re ap (fun a ne => upd_ne ne) (m.le.ne gd)) nd ap⟩
theorem RvOk.re {K : PySem.W.Frag} {H H2 G : Hp} {v : V} {r : Rv} {F : List Addr} {d : Addr} (o : RvOk K st G H v r F) (ap : ∀ a ∈ F, G a = none) (same : ∀ a, a ≠ d → H2 a = H a) (gd : G d ≠ none) : RvOk K st G H2 v r F := by
  cases r with
  | t t =>
    have o : Ow K st G H v t F := o
    exact o.re ap same gd
  | tmp t =>
    obtain ⟨rfl, F', o, ap'⟩ := o
    exact ⟨rfl, F', o.re ap' same gd, ap'⟩
/-- .. an expression -/
theorem se_lock {t : TE} (h : PE X e t) (hd : ∀ g s r, m g s = some r → ∃ l, g[i]? = some (some (.t (.fz (.dict l))))) (hr : ∀ σ H Q, Lkd i σ H → tE X.K st m σ H Q → t σ H Q) : SE X st e m := by
  have h2 : PE X e (fun σ H Q => t σ H Q ∨ tLockE t σ H Q) := ⟨fun pins s σ H Q I q => q.elim (h.run pins s σ H Q I) ((pe_lock h).run pins s σ H Q I)⟩
  refine ⟨h2.imp fun σ H Q hh => ?_⟩
  obtain ⟨g, s, r, s', G, O, em, z, q⟩ := id hh
  obtain ⟨l, el⟩ := hd g s _ em
  obtain ⟨d, ed, gd, hc⟩ := lk_at z el
  rcases hc with ⟨ob, u, hfz⟩ | ⟨u, hu, mu, hk⟩
  · exact .inl (hr σ H Q ⟨d, ob, u, ed, hfz⟩ hh)
  · refine .inr ⟨d, u, hu, mu, fun od => ?_⟩
    have same : ∀ a, a ≠ d → upd H d (.frz od u) a = H a := fun a ne => upd_ne ne
    have z2 : St0 X.K st g s σ (upd H d (.frz od u)) G O := z.re (U_lock hu hk) same gd
    refine hr _ _ _ ⟨d, od, u, ed, upd_same⟩ ⟨g, s, r, s', G, O, em, z2, fun v H' G' F p => ?_⟩
    have e' : H' d = some (.frz od u) := p.gr.frz z2 upd_same
    have U' := U_unlock e' hk
    refine ⟨e', q v _ G' F ⟨p.gr.re U' hu upd_same same, p.ok.re (fun a ha => (p.ap a ha).2) (fun a ne => upd_ne ne) (p.gr.le.ne gd), p.nd, fun a ha => ⟨?_, (p.ap a ha).2⟩, (p.at.re U' (fun a ne => upd_ne ne) (p.gr.le.ne gd)).strm⟩⟩
    have n := (p.ap a ha).1
    by_cases x : a = d
    · subst x; rw [upd_same] at n; cases n
    · rw [upd_ne x] at n; exact n
theorem mFor_dic {tgt : Tg} (h : SIk X st tg e i mi) : ∀ g s r, mFor tgt mi n g s = some r → ∃ l, g[i]? = some (some (.t (.fz (.dict l)))) := fun g s r er => by
  unfold mFor at er
  split at er
  · rename_i em; exact h.dic _ _ _ em
  · cases er
theorem ss_forK {tgt : Tg} (hp : PassesOwn (model X.prog X.w) X.A X.env X.xe) (hc : X.calm = true) (hi : SIk X st tg e i mi) (hg : PG X tg (Tg.g X.K tgt)) (hb : SB X st xs n)
    (hs : ∀ x, foldedSetIterable e X.env x = pure x := by intro _; rfl) : SS X st (.For tg e xs [] pos) (mFor tgt mi n) := by
  obtain ⟨wi, hw, hr⟩ := hi.ex
  exact ss_lock (ps_for hp hc hw hg hb.run hs) (mFor_dic hi) fun D σ H lk h => for_read (fun _ _ _ h => h) (fun R h => hr σ H R lk h) h
theorem mLc_dic {tgt : Tg} {vs : List Nat} (h : SIk X st tg e i mi) : ∀ g s r, mLc vs tgt mi mt me g s = some r → ∃ l, g[i]? = some (some (.t (.fz (.dict l)))) := fun g s r er => by
  unfold mLc at er
  split at er
  · rename_i em; exact h.dic _ _ _ em
  · cases er
theorem mDc_dic {tgt : Tg} {vs : List Nat} (h : SIk X st tg e i mi) : ∀ g s r, mDc vs tgt mi mt mk mv g s = some r → ∃ l, g[i]? = some (some (.t (.fz (.dict l)))) := fun g s r er => by
  unfold mDc at er
  split at er
  · rename_i em; exact h.dic _ _ _ em
  · cases er
theorem mSet_dic {j : Nat} (h : ∀ g s r, m g s = some r → ∃ l, g[i]? = some (some (.t (.fz (.dict l))))) : ∀ g s r, mSet j m g s = some r → ∃ l, g[i]? = some (some (.t (.fz (.dict l)))) := fun g s r er => by
  unfold mSet at er
  split at er
  · rename_i em; exact h _ _ _ em
  · cases er
theorem se_lcK {elt iter : Expr} {ifs : List Expr} {scope : Scope} {own : List (Str × Nat)} {tgt : Tg} (hc : X.calm = true) (hN : X.N.Nodup) (hi : SIk X st tg iter i mi) (ok : BlkOk X.N X.env.scope scope own) (hv : ∀ i ∈ tgt.slots, i ∈ own.map (·.2))
    (hg : ∀ (s : Shared) (H : Hp) (C : Addr) (cl : List (Str × Addr)) (fp : List Addr), PG (X.blk s H scope (compEnvC scope cl C X.env) fp) tg (Tg.g X.K tgt)) (ht : ∀ (s : Shared) (H : Hp) (C : Addr) (cl : List (Str × Addr)) (fp : List Addr), STs (X.blk s H scope (compEnvC scope cl C X.env) fp) st ifs mt)
    (he : ∀ (s : Shared) (H : Hp) (C : Addr) (cl : List (Str × Addr)) (fp : List Addr), SE (X.blk s H scope (compEnvC scope cl C X.env) fp) st elt me) (hs : ∀ x, foldedSetIterable iter X.env x = pure x := by intro _; rfl) :
    SE X st (.ListComp elt [⟨tg, iter, ifs, 0⟩] scope pos) (mLc (own.map (·.2)) tgt mi mt me) := by
  obtain ⟨wi, hw, hr⟩ := hi.ex
  exact se_lock (pe_lc (te := tE X.K st me) (tt := tT X.K st mt) hc hN hw ok hg (fun s H C cl fp => (ht s H C cl fp).run) (fun s H C cl fp => (he s H C cl fp).run) hs) (mLc_dic hi) fun σ H Q lk h => lc_read (fun R h => hr σ H R lk h) hv h
theorem se_dcK {kx vx iter : Expr} {ifs : List Expr} {scope : Scope} {own : List (Str × Nat)} {tgt : Tg} (hc : X.calm = true) (hN : X.N.Nodup) (hi : SIk X st tg iter i mi) (ok : BlkOk X.N X.env.scope scope own) (hv : ∀ i ∈ tgt.slots, i ∈ own.map (·.2))
    (hg : ∀ (s : Shared) (H : Hp) (C : Addr) (cl : List (Str × Addr)) (fp : List Addr), PG (X.blk s H scope (compEnvC scope cl C X.env) fp) tg (Tg.g X.K tgt)) (ht : ∀ (s : Shared) (H : Hp) (C : Addr) (cl : List (Str × Addr)) (fp : List Addr), STs (X.blk s H scope (compEnvC scope cl C X.env) fp) st ifs mt)
    (hk : ∀ (s : Shared) (H : Hp) (C : Addr) (cl : List (Str × Addr)) (fp : List Addr), SE (X.blk s H scope (compEnvC scope cl C X.env) fp) st kx mk)
    (he : ∀ (s : Shared) (H : Hp) (C : Addr) (cl : List (Str × Addr)) (fp : List Addr), SE (X.blk s H scope (compEnvC scope cl C X.env) fp) st vx mv) (hs : ∀ x, foldedSetIterable iter X.env x = pure x := by intro _; rfl) :
    SE X st (.DictComp kx vx [⟨tg, iter, ifs, 0⟩] scope pos) (mDc (own.map (·.2)) tgt mi mt mk mv) := by
  obtain ⟨wi, hw, hr⟩ := hi.ex
  exact se_lock (pe_dc (tk := tE X.K st mk) (tv := tE X.K st mv) (tt := tT X.K st mt) hc hN hw ok hg (fun s H C cl fp => (ht s H C cl fp).run) (fun s H C cl fp => (hk s H C cl fp).run) (fun s H C cl fp => (he s H C cl fp).run) hs) (mDc_dic hi) fun σ H Q lk h => dc_read (fun R h => hr σ H R lk h) hv h
theorem ss_setLcK {j : Nat} {y : Str} {py : Pos} {elt iter : Expr} {ifs : List Expr} {scope : Scope} {own : List (Str × Nat)} {tgt : Tg} {spos : Pos} (hc : X.calm = true) (hN : X.N.Nodup) (hy : X.N[j]? = some y) (hyl : X.env.scope.names.lookup y = some .local)
    (hsw : swapsWith (.ListComp elt [⟨tg, iter, ifs, 0⟩] scope pos) (some (.Name y py)) spos.line X.env = pure true) (hi : SIk X st tg iter i mi) (ok : BlkOk X.N X.env.scope scope own) (hv : ∀ i ∈ tgt.slots, i ∈ own.map (·.2))
    (hg : ∀ (s : Shared) (H : Hp) (C : Addr) (cl : List (Str × Addr)) (fp : List Addr), PG (X.blk s H scope (compEnvC scope cl C X.env) fp) tg (Tg.g X.K tgt)) (ht : ∀ (s : Shared) (H : Hp) (C : Addr) (cl : List (Str × Addr)) (fp : List Addr), STs (X.blk s H scope (compEnvC scope cl C X.env) fp) st ifs mt)
    (he : ∀ (s : Shared) (H : Hp) (C : Addr) (cl : List (Str × Addr)) (fp : List Addr), SE (X.blk s H scope (compEnvC scope cl C X.env) fp) st elt me) (hs : ∀ x, foldedSetIterable iter X.env x = pure x := by intro _; rfl) :
    SS X st (.Assign [.Name y py] (.ListComp elt [⟨tg, iter, ifs, 0⟩] scope pos) spos) (mSet j (mLc (own.map (·.2)) tgt mi mt me)) := by
  obtain ⟨wi, hw, hr⟩ := hi.ex
  refine ss_lock (ps_setLc (te := tE X.K st me) (tt := tT X.K st mt) hc hN hy hyl hsw hw ok hg (fun s H C cl fp => (ht s H C cl fp).run) (fun s H C cl fp => (he s H C cl fp).run) hs) (mSet_dic (mLc_dic hi)) fun D σ H lk ⟨g, s, o, g', s', G, O, e, z, q⟩ => ?_
  unfold mSet at e
  split at e
  · rename_i t s1 em
    cases e
    refine lc_read (Q := fun v H' => gName j v σ H' D.nx) (fun R h => hr σ H R lk h) hv ⟨g, s, _, _, G, O, em, z, fun v H' G' F p => ?_⟩
    obtain ⟨O', z', mv⟩ := z.set (i := j) p
    exact q _ H' G' O' mv z'
  · cases e
theorem ss_setDcK {j : Nat} {y : Str} {py : Pos} {kx vx iter : Expr} {ifs : List Expr} {scope : Scope} {own : List (Str × Nat)} {tgt : Tg} {spos : Pos} (hc : X.calm = true) (hN : X.N.Nodup) (hy : X.N[j]? = some y) (hyl : X.env.scope.names.lookup y = some .local)
    (hsw : swapsWith (.DictComp kx vx [⟨tg, iter, ifs, 0⟩] scope pos) (some (.Name y py)) spos.line X.env = pure true) (hi : SIk X st tg iter i mi) (ok : BlkOk X.N X.env.scope scope own) (hv : ∀ i ∈ tgt.slots, i ∈ own.map (·.2))
    (hg : ∀ (s : Shared) (H : Hp) (C : Addr) (cl : List (Str × Addr)) (fp : List Addr), PG (X.blk s H scope (compEnvC scope cl C X.env) fp) tg (Tg.g X.K tgt)) (ht : ∀ (s : Shared) (H : Hp) (C : Addr) (cl : List (Str × Addr)) (fp : List Addr), STs (X.blk s H scope (compEnvC scope cl C X.env) fp) st ifs mt)
    (hk : ∀ (s : Shared) (H : Hp) (C : Addr) (cl : List (Str × Addr)) (fp : List Addr), SE (X.blk s H scope (compEnvC scope cl C X.env) fp) st kx mk)
    (he : ∀ (s : Shared) (H : Hp) (C : Addr) (cl : List (Str × Addr)) (fp : List Addr), SE (X.blk s H scope (compEnvC scope cl C X.env) fp) st vx mv) (hs : ∀ x, foldedSetIterable iter X.env x = pure x := by intro _; rfl) :
    SS X st (.Assign [.Name y py] (.DictComp kx vx [⟨tg, iter, ifs, 0⟩] scope pos) spos) (mSet j (mDc (own.map (·.2)) tgt mi mt mk mv)) := by
  obtain ⟨wi, hw, hr⟩ := hi.ex
  refine ss_lock (ps_setDc (tk := tE X.K st mk) (tv := tE X.K st mv) (tt := tT X.K st mt) hc hN hy hyl hsw hw ok hg (fun s H C cl fp => (ht s H C cl fp).run) (fun s H C cl fp => (hk s H C cl fp).run) (fun s H C cl fp => (he s H C cl fp).run) hs) (mSet_dic (mDc_dic hi)) fun D σ H lk ⟨g, s, o, g', s', G, O, e, z, q⟩ => ?_
  unfold mSet at e
  split at e
  · rename_i t s1 em
    cases e
    refine dc_read (Q := fun v H' => gName j v σ H' D.nx) (fun R h => hr σ H R lk h) hv ⟨g, s, _, _, G, O, em, z, fun v H' G' F p => ?_⟩
    obtain ⟨O', z', mv⟩ := z.set (i := j) p
    exact q _ H' G' O' mv z'
  · cases e
end
end DV

namespace DV
open PySem PySem.Spec PyProof.Rows L2

def rdl : List Rv → List D := List.map Rv.d
theorem RvA.rds' {K : PySem.W.Frag} {st : Stm} {G H : Hp} (su : Sub G H) {vs : List V} {rs : List Rv} {F : List Addr} (h : RvA K st G H vs rs F) : FzA K (U H) vs (rdl rs) := RvA.rds su h
/-- a built-in that reads its arguments, and answers with a plain value -/
def mB (f : List D → Option D) (ms : MA) : ME := fun g s => match ms g s with
  | some (rs, s1) => match f (rdl rs) with
    | some d => if D.sc d then some (.t (.fz d), s1) else none
    | none => none
  | none => none
def BOk (X : Cx) (f : List D → Option D) (r : List V → Hp → VK → Prop) : Prop := ∀ (vs : List V) (ds : List D) (d : D) (H : Hp) (Q : VK), FzA X.K (U H) vs ds → f ds = some d → (∀ v, Fz X.K (U H) v d → Q v H) → r vs H Q
section
variable {X : Cx} {st : Stm} {a b c e : Expr} {ma mb mc m : ME} {pos p : Pos} {es : List Expr} {x : Str} {ms : MA} {f : List D → Option D} {r : List V → Hp → VK → Prop} {fid T : String}
theorem b_read (ok : BOk X f r) {σ : Sg} {H : Hp} {Q : VK} (h : tE X.K st (mB f ms) σ H Q) : tCB r (tA X.K st ms) σ H Q := by
  obtain ⟨g, s, r0, s', G, O, e, z, q⟩ := h
  unfold mB at e
  split at e
  · rename_i rs s1 em
    split at e
    · rename_i d ed
      split at e
      · rename_i sc
        cases e
        refine ⟨g, s, rs, _, G, O, em, z, fun vs H1 G1 F p => ok vs _ d H1 Q (p.ok.rds' p.gr.sub) ed fun v fv => ?_⟩
        exact q v H1 G1 [] ((PostE.scalar ⟨p.gr.sub, p.gr.sg, p.strm⟩ (fv.sc sc)).after p.gr)
      · cases e
    · cases e
  · cases e
theorem se_b (ok : BOk X f r) (hc : CallR X (.builtin fid) r) (hg : Gl X x) (hm : X.mg x = none) (hv : bootBuiltins x = some (.builtin fid)) (ha : SA X st (e :: es) ms) (hn : x ≠ "__name__" := by decide) (hdb : (x == ("__debug__" : Str)) = false := by decide)
    (he : starEach (e :: es) X.env = (false, eval e X.env) :: starEach es X.env := by rfl) (hpl : (backTo pos (starEach es X.env)).any (·.1) = false := by rfl) : SE X st (.Call (.Name x p) (e :: es) [] pos) (mB f ms) :=
  ⟨(pe_callB hc hg hm hv ha.run hn hdb he hpl).imp fun σ H Q h => b_read ok h⟩
theorem se_bt (ok : BOk X f r) (hc : CallR X (.type T) r) (hg : Gl X x) (hm : X.mg x = none) (hv : bootBuiltins x = some (.type T)) (ha : SA X st (e :: es) ms) (hn : x ≠ "__name__" := by decide) (hdb : (x == ("__debug__" : Str)) = false := by decide)
    (he : starEach (e :: es) X.env = (false, eval e X.env) :: starEach es X.env := by rfl) (hpl : (backTo pos (starEach es X.env)).any (·.1) = false := by rfl) : SE X st (.Call (.Name x p) (e :: es) [] pos) (mB f ms) :=
  ⟨(pe_callTy hc hg hm hv ha.run hn hdb he hpl).imp fun σ H Q h => b_read ok h⟩

def bLen : List D → Option D
  | [.list ds] => some (.int (ds.length : Nat))
  | [.tuple ds] => some (.int (ds.length : Nat))
  | [.dict l] => if keysK1 l then some (.int (l.length : Nat)) else none
  | [.str x] => if lenOk x.length then some (.int (x.length : Nat)) else none
  | _ => none
def rLen (K : PySem.W.Frag) : List V → Hp → VK → Prop := fun xs H Q => (∃ x n, xs = [x] ∧ LenV K x H n ∧ Q (.int n) H) ∨ ∃ a kvs, xs = [.ref a] ∧ Rd H a (.dK kvs) ∧ Q (.int (kvs.length : Nat)) H
theorem call_lenD : CallR X (.builtin "len") (rLen X.K) := by
  intro pins s σ H xs us Q I r h
  rcases h with h | ⟨a, kvs, rfl, hd, q⟩
  · exact call_len pins s σ H xs us Q I r h
  · rw [Vals.ref1 r]
    exact d_len I hd fun t s' I' => ⟨.int (kvs.length : Nat), H, I', ⟨t, rfl⟩, q⟩
theorem FzA.one {K : PySem.W.Frag} {G : Hp} {vs : List V} {d : D} (h : FzA K G vs [d]) : ∃ v, vs = [v] ∧ Fz K G v d := by
  cases h with
  | cons h t => cases t; exact ⟨_, rfl, h⟩
theorem FzA.two {K : PySem.W.Frag} {G : Hp} {vs : List V} {d1 d2 : D} (h : FzA K G vs [d1, d2]) : ∃ v u, vs = [v, u] ∧ Fz K G v d1 ∧ Fz K G u d2 := by
  cases h with
  | cons h t =>
    obtain ⟨u, rfl, h2⟩ := t.one
    exact ⟨_, _, rfl, h, h2⟩
theorem ok_len : BOk X bLen (rLen X.K) := by
  intro vs ds d H Q f e q
  unfold bLen at e
  split at e
  · cases e
    obtain ⟨v, rfl, fv⟩ := f.one
    cases fv with
    | lst c r => exact .inl ⟨_, _, rfl, .inl ⟨_, .inl (.inl (U_lst c)), rfl⟩, by rw [r.len]; exact q _ (.int _)⟩
  · cases e
    obtain ⟨v, rfl, fv⟩ := f.one
    cases fv with
    | tup c r => exact .inl ⟨_, _, rfl, .inr ⟨_, .inl (.inl (U_tup c)), rfl⟩, by rw [r.len]; exact q _ (.int _)⟩
  · split at e
    · rename_i hk
      cases e
      obtain ⟨v, rfl, fv⟩ := f.one
      obtain ⟨a, kvs, rfl, c, r⟩ := fv.dicK hk
      exact .inr ⟨a, kvs, rfl, U_dK c, by rw [r.len]; exact q _ (.int _)⟩
    · cases e
  · split at e
    · rename_i hl
      cases e
      obtain ⟨v, rfl, fv⟩ := f.one
      cases fv.str_inv
      exact .inl ⟨_, _, rfl, ⟨of_decide_eq_true hl, rfl⟩, q _ (.int _)⟩
    · cases e
  · cases e
def bAbs : List D → Option D
  | [.int i] => some (.int (if i < 0 then -i else i))
  | _ => none
theorem ok_abs : BOk X bAbs (fun xs H Q => ∃ i, xs = [.int i] ∧ Q (.int (if i < 0 then -i else i)) H) := by
  intro vs ds d H Q f e q
  unfold bAbs at e
  split at e
  · cases e
    obtain ⟨v, rfl, fv⟩ := f.one
    cases fv.int_inv
    exact ⟨_, rfl, q _ (.int _)⟩
  · cases e
def bMax2 : List D → Option D
  | [.int i, .int j] => some (.int (if j > i then j else i))
  | _ => none
def bMin2 : List D → Option D
  | [.int i, .int j] => some (.int (if j < i then j else i))
  | _ => none
theorem ok_max2 : BOk X bMax2 (fun xs H Q => ∃ i j, xs = [.int i, .int j] ∧ Q (.int (if j > i then j else i)) H) := by
  intro vs ds d H Q f e q
  unfold bMax2 at e
  split at e
  · cases e
    obtain ⟨v, u, rfl, fv, fu⟩ := f.two
    cases fv.int_inv
    cases fu.int_inv
    exact ⟨_, _, rfl, q _ (.int _)⟩
  · cases e
theorem ok_min2 : BOk X bMin2 (fun xs H Q => ∃ i j, xs = [.int i, .int j] ∧ Q (.int (if j < i then j else i)) H) := by
  intro vs ds d H Q f e q
  unfold bMin2 at e
  split at e
  · cases e
    obtain ⟨v, u, rfl, fv, fu⟩ := f.two
    cases fv.int_inv
    cases fu.int_inv
    exact ⟨_, _, rfl, q _ (.int _)⟩
  · cases e
def bInt : List D → Option D
  | [.int i] => some (.int i)
  | [.bool k] => some (.int (if k then 1 else 0))
  | _ => none
theorem ok_int : BOk X bInt (fun xs H Q => (∃ i, xs = [.int i] ∧ Q (.int i) H) ∨ ∃ k, xs = [.bl k] ∧ Q (.int (if k then 1 else 0)) H) := by
  intro vs ds d H Q f e q
  unfold bInt at e
  split at e
  · cases e
    obtain ⟨v, rfl, fv⟩ := f.one
    cases fv.int_inv
    exact .inl ⟨_, rfl, q _ (.int _)⟩
  · cases e
    obtain ⟨v, rfl, fv⟩ := f.one
    cases fv.bl_inv
    exact .inr ⟨_, rfl, q _ (.int _)⟩
  · cases e
def intsOf : List D → Option (List Int)
  | [] => some []
  | .int i :: l => (intsOf l).map (i :: ·)
  | _ :: _ => none
def blsOf : List D → Option (List Bool)
  | [] => some []
  | .bool i :: l => (blsOf l).map (i :: ·)
  | _ :: _ => none
theorem FzA.ints {K : PySem.W.Frag} {G : Hp} : ∀ {vs : List V} {ds : List D}, FzA K G vs ds → ∀ {ns : List Int}, intsOf ds = some ns → vs = ns.map V.int
  | _, _, .nil, ns, e => by cases e; rfl
  | _, _, @FzA.cons _ _ v d vs ds h r, ns, e => by
    cases d with
    | int i =>
      unfold intsOf at e
      obtain ⟨ns', e', rfl⟩ := Option.map_eq_some_iff.mp e
      rw [h.int_inv, FzA.ints r e']; rfl
    | _ => cases e
theorem FzA.bls {K : PySem.W.Frag} {G : Hp} : ∀ {vs : List V} {ds : List D}, FzA K G vs ds → ∀ {ns : List Bool}, blsOf ds = some ns → vs = ns.map V.bl
  | _, _, .nil, ns, e => by cases e; rfl
  | _, _, @FzA.cons _ _ v d vs ds h r, ns, e => by
    cases d with
    | bool i =>
      unfold blsOf at e
      obtain ⟨ns', e', rfl⟩ := Option.map_eq_some_iff.mp e
      rw [h.bl_inv, FzA.bls r e']; rfl
    | _ => cases e
def bSum : List D → Option D
  | [.list ds] => (intsOf ds).map fun ns => .int ns.sum
  | _ => none
theorem ok_sum : BOk X bSum (rSum X.K) := by
  intro vs ds d H Q f e q
  unfold bSum at e
  split at e
  · obtain ⟨ns, en, rfl⟩ := Option.map_eq_some_iff.mp e
    obtain ⟨v, rfl, fv⟩ := f.one
    cases fv with
    | lst c r => exact ⟨_, ns, rfl, by rw [← r.ints en]; exact .inl (.inl (U_lst c)), q _ (.int _)⟩
  · cases e
def bAll : List D → Option D
  | [.list ds] => (blsOf ds).map fun ns => .bool (ns.all id)
  | _ => none
def bAny : List D → Option D
  | [.list ds] => (blsOf ds).map fun ns => .bool (ns.any id)
  | _ => none
theorem ok_all : BOk X bAll (rAll X.K) := by
  intro vs ds d H Q f e q
  unfold bAll at e
  split at e
  · obtain ⟨ns, en, rfl⟩ := Option.map_eq_some_iff.mp e
    obtain ⟨v, rfl, fv⟩ := f.one
    cases fv with
    | lst c r => exact ⟨_, ns, rfl, by rw [← r.bls en]; exact .inl (.inl (U_lst c)), q _ (.bl _)⟩
  · cases e
theorem ok_any : BOk X bAny (rAny X.K) := by
  intro vs ds d H Q f e q
  unfold bAny at e
  split at e
  · obtain ⟨ns, en, rfl⟩ := Option.map_eq_some_iff.mp e
    obtain ⟨v, rfl, fv⟩ := f.one
    cases fv with
    | lst c r => exact ⟨_, ns, rfl, by rw [← r.bls en]; exact .inl (.inl (U_lst c)), q _ (.bl _)⟩
  · cases e
/-- the greatest, the least of a list of ints -/
def maxL : List Int → Int
  | [] => 0
  | [i] => i
  | i :: j :: l => max i (maxL (j :: l))
def minL : List Int → Int
  | [] => 0
  | [i] => i
  | i :: j :: l => min i (minL (j :: l))
theorem maxL_mem : ∀ {l : List Int}, l ≠ [] → maxL l ∈ l
  | [i], _ => by simp [maxL]
  | i :: j :: l, _ => by
    have ih := maxL_mem (l := j :: l) (List.cons_ne_nil _ _)
    rw [maxL]
    rcases Int.le_total i (maxL (j :: l)) with h | h
    · rw [Int.max_eq_right h]; exact List.mem_cons_of_mem _ ih
    · rw [Int.max_eq_left h]; exact List.mem_cons_self
theorem maxL_le : ∀ {l : List Int} {y : Int}, y ∈ l → y ≤ maxL l
  | [i], y, h => by
    rw [List.mem_singleton] at h
    subst h
    exact Int.le_refl _
  | i :: j :: l, y, h => by
    rw [maxL]
    rcases List.mem_cons.mp h with rfl | h
    · exact Int.le_max_left _ _
    · exact Int.le_trans (maxL_le h) (Int.le_max_right _ _)
theorem minL_mem : ∀ {l : List Int}, l ≠ [] → minL l ∈ l
  | [i], _ => by simp [minL]
  | i :: j :: l, _ => by
    have ih := minL_mem (l := j :: l) (List.cons_ne_nil _ _)
    rw [minL]
    rcases Int.le_total i (minL (j :: l)) with h | h
    · rw [Int.min_eq_left h]; exact List.mem_cons_self
    · rw [Int.min_eq_right h]; exact List.mem_cons_of_mem _ ih
theorem minL_le : ∀ {l : List Int} {y : Int}, y ∈ l → minL l ≤ y
  | [i], y, h => by
    rw [List.mem_singleton] at h
    subst h
    exact Int.le_refl _
  | i :: j :: l, y, h => by
    rw [minL]
    rcases List.mem_cons.mp h with rfl | h
    · exact Int.min_le_left _ _
    · exact Int.le_trans (Int.min_le_right _ _) (minL_le h)
def bMaxL : List D → Option D
  | [.list ds] => match intsOf ds with
    | some [] => none
    | some ns => some (.int (maxL ns))
    | none => none
  | _ => none
def bMinL : List D → Option D
  | [.list ds] => match intsOf ds with
    | some [] => none
    | some ns => some (.int (minL ns))
    | none => none
  | _ => none
theorem ok_maxL : BOk X bMaxL (rMax X.K) := by
  intro vs ds d H Q f e q
  unfold bMaxL at e
  split at e
  · split at e
    · cases e
    · rename_i ns hne en
      cases e
      have hne : ns ≠ [] := hne
      obtain ⟨v, rfl, fv⟩ := f.one
      cases fv with
      | lst c r =>
        refine ⟨_, ns, rfl, by rw [← r.ints en]; exact .inl (.inl (U_lst c)), List.length_pos_iff.mpr hne, fun m hm hy => ?_⟩
        have : m = maxL ns := Int.le_antisymm (maxL_le hm) (hy _ (maxL_mem hne))
        rw [this]
        exact q _ (.int _)
    · cases e
  · cases e
theorem ok_minL : BOk X bMinL (rMin X.K) := by
  intro vs ds d H Q f e q
  unfold bMinL at e
  split at e
  · split at e
    · cases e
    · rename_i ns hne en
      cases e
      have hne : ns ≠ [] := hne
      obtain ⟨v, rfl, fv⟩ := f.one
      cases fv with
      | lst c r =>
        refine ⟨_, ns, rfl, by rw [← r.ints en]; exact .inl (.inl (U_lst c)), List.length_pos_iff.mpr hne, fun m hm hy => ?_⟩
        have : m = minL ns := Int.le_antisymm (hy _ (minL_mem hne)) (minL_le hm)
        rw [this]
        exact q _ (.int _)
    · cases e
  · cases e
def tyN : D → String
  | .none => "NoneType"
  | .bool _ => "bool"
  | .int _ => "int"
  | .str _ => "str"
  | .list _ => "list"
  | .tuple _ => "tuple"
  | .dict _ => "dict"
def isN (a b : String) : Bool := a == b || (a == "bool" && b == "int")
def tyNs : List String := ["NoneType", "bool", "int", "str", "list", "tuple", "dict"]
def clNs : List String := ["int", "str", "list", "tuple", "dict", "bool"]
theorem kitB_all : (tyNs.all fun a => clNs.all fun b => decide (kitB a b = some (isN a b))) = true := by decide +kernel
theorem kitB_is {a b : String} (ha : a ∈ tyNs) (hb : b ∈ clNs) : kitB a b = some (isN a b) := of_decide_eq_true (List.all_eq_true.mp (List.all_eq_true.mp kitB_all a ha) b hb)
theorem kitAny_is {K : PySem.W.Frag} {a : String} (ha : a ∈ tyNs) : ∀ {ns : List String}, (∀ b ∈ ns, b ∈ clNs) → PySem.W.kitAny K (.type a) (ns.map Value.type) = some (ns.any (isN a))
  | [], _ => rfl
  | b :: ns, h => by
    have ih := kitAny_is (K := K) ha (ns := ns) fun c hc => h c (List.mem_cons_of_mem _ hc)
    refine kitAny_cons (kit_ty (kitB_is ha (h b List.mem_cons_self))) (fun e => ?_) (fun e => ?_)
    · rw [ih, List.any_cons, e, Bool.false_or]
    · rw [List.any_cons, e, Bool.true_or]
theorem tyN_in {d : D} : tyN d ∈ tyNs := by cases d <;> simp [tyN, tyNs]
theorem kit_fz {pins : List (Addr × Obj)} {σ : Sg} {H : Hp} {s : Shared} {v : V} {u : Value} {d : D} (I : Inv X pins σ H s) (rx : RelV v u) (f : Fz X.K (U H) v d) : ∃ P : Heap → Prop, PySem.W.KitX X.K u (.type (tyN d)) P ∧ P s.heap ∧ u ≠ .builtin "__main__.__loader__#opaque" := by
  cases f with
  | non => exact kit_of I rx (.base .non)
  | bl b => exact kit_of I rx (.base (.bl b))
  | int i => exact kit_of I rx (.base (.int i))
  | str x => exact kit_of I rx (.base (.str x))
  | lst c r => exact kit_of I rx (.base (.lst (U_lst c)))
  | tup c r => exact kit_of I rx (.base (.tup (U_tup c)))
  | dk c r =>
    rcases U_dK c with h | ⟨o, h⟩
    · exact kit_of I rx (.base (.dK h))
    · exact kit_of I rx (.fDict h)
  | @dt a kvs l c r _ =>
    rcases U_dT c with h | ⟨ob, h⟩
    · exact kit_of I rx (.base (.dT h))
    · cases (show u = Value.ref a from rx)
      obtain ⟨_, _, _, xs, _, o, es, ep, h1, h2, _⟩ := (show ObjOk X.prog X.w H s.heap a (.frz ob (.dT kvs)) from I.hok a _ h)
      exact ⟨_, PySem.W.kitx_dict, ⟨o, h1, h2.1⟩, fun z => nomatch z⟩
def rIs1 (K : PySem.W.Frag) (n : String) : List V → Hp → VK → Prop := fun xs H Q => ∃ v d, xs = [v, .ty n] ∧ n ∈ clNs ∧ Fz K (U H) v d ∧ Q (.bl (isN (tyN d) n)) H
def rIsA (K : PySem.W.Frag) (ns : List String) : List V → Hp → VK → Prop := fun xs H Q => ∃ v d tp, xs = [v, .ref tp] ∧ H tp = some (.tup (ns.map V.ty)) ∧ (∀ b ∈ ns, b ∈ clNs) ∧ Fz K (U H) v d ∧ Q (.bl (ns.any (isN (tyN d)))) H
theorem call_is1 {n : String} : CallR X (.builtin "isinstance") (rIs1 X.K n) := by
  intro pins s σ H xs us Q I r h
  obtain ⟨v, d, rfl, hn, f, q⟩ := h
  obtain ⟨u1, u2, rfl, r1, r2⟩ := vals2 r
  cases (show u2 = Value.type n from r2)
  obtain ⟨P, Z, p, hx⟩ := kit_fz I r1 f
  exact PySem.W.kia_one Z I.kIn p (kit_ty (kitB_is tyN_in hn)) hx fun tk => ⟨.bl _, H, I.tok tk, rfl, q⟩
theorem tys_all : ∀ {ns : List String} {ws : List Value}, Vals (ns.map V.ty) ws → ws = ns.map Value.type
  | [], _, .nil => rfl
  | n :: ns, _, .cons r t => by
    rw [tys_all t, show _ = Value.type n from r]; rfl
theorem call_isA {ns : List String} : CallR X (.builtin "isinstance") (rIsA X.K ns) := by
  intro pins s σ H xs us Q I r h
  obtain ⟨v, d, tp, rfl, hT, hn, f, q⟩ := h
  obtain ⟨u1, u2, rfl, r1, r2⟩ := vals2 r
  cases (show u2 = Value.ref tp from r2)
  obtain ⟨P, Z, p, hx⟩ := kit_fz I r1 f
  obtain ⟨_, its, rv, o, h1, h2, n, h3⟩ := (show ObjOk X.prog X.w H s.heap tp (.tup (ns.map V.ty)) from I.hok tp _ hT)
  have e3 := tys_all rv
  subst e3
  obtain ⟨oc, od, dt, sl⟩ := o
  simp only at h2 h3
  subst h2 h3
  exact PySem.W.kia_tup Z I.kIn p h1 (kitAny_is tyN_in hn) hx fun tk => ⟨.bl _, H, I.tok tk, rfl, q⟩
/-- isinstance(e, T) -/
def mIsi (m : ME) (ns : List String) : ME := fun g s => match m g s with
  | some (r, s1) => if ns.all (fun b => clNs.contains b) then some (.t (.fz (.bool (ns.any (isN (tyN r.d))))), s1) else none
  | none => none
theorem clNs_all {ns : List String} (h : ns.all (fun b => clNs.contains b) = true) : ∀ b ∈ ns, b ∈ clNs := fun b hb => by
  have := List.all_eq_true.mp h b hb
  exact List.contains_iff_mem.mp this
theorem se_isi1 {n : Str} {ny : String} {q : Pos} (hn : PE X (.Name n q) (tC (.ty ny))) (hg : Gl X "isinstance") (hm : X.mg "isinstance" = none) (he : SE X st e m)
    (h1 : starEach [e, .Name n q] X.env = (false, eval e X.env) :: starEach [.Name n q] X.env := by rfl) (h2 : starEach [.Name n q] X.env = (false, eval (.Name n q) X.env) :: starEach [] X.env := by rfl)
    (hpl : (backTo pos (starEach [.Name n q] X.env)).any (·.1) = false := by rfl) : SE X st (.Call (.Name "isinstance" p) [e, .Name n q] [] pos) (mIsi m [ny]) := by
  refine ⟨(pe_callB (r := rIs1 X.K ny) call_is1 hg hm boot_isinstance (pa_cons he.run (pa_cons hn pa_nil h2) h1) (by decide) (by decide) h1 hpl).imp fun σ H Q ⟨g, s, r, s', G, O, e, z, q⟩ => ?_⟩
  unfold mIsi at e
  split at e
  · rename_i r s1 em
    split at e
    · rename_i hc
      cases e
      refine ⟨g, s, r, _, G, O, em, z, fun v H1 G1 F p => ⟨v, r.d, rfl, clNs_all hc ny List.mem_cons_self, p.ok.rd p.gr.sub, ?_⟩⟩
      have := q (.bl (isN (tyN r.d) ny)) H1 G1 [] ((PostE.scalar p.at (by
        rw [List.any_cons, List.any_nil, Bool.or_false]
        exact .bl _)).after p.gr)
      exact this
    · cases e
  · cases e
theorem se_isiA {ts : List Expr} {ny : List String} {k : Nat} {q : Pos} (hn : PA X ts (fun σ H Q => Q (ny.map V.ty) H)) (hl : ny.length ≤ 1000 := by decide) (hg : Gl X "isinstance") (hm : X.mg "isinstance" = none) (he : SE X st e m)
    (h1 : starEach [e, .Tuple ts k q] X.env = (false, eval e X.env) :: starEach [.Tuple ts k q] X.env := by rfl) (h2 : starEach [.Tuple ts k q] X.env = (false, eval (.Tuple ts k q) X.env) :: starEach [] X.env := by rfl)
    (hpl : (backTo pos (starEach [.Tuple ts k q] X.env)).any (·.1) = false := by rfl) : SE X st (.Call (.Name "isinstance" p) [e, .Tuple ts k q] [] pos) (mIsi m ny) := by
  refine ⟨(pe_callB (r := rIsA X.K ny) call_isA hg hm boot_isinstance (pa_cons he.run (pa_cons (pe_tup hn) pa_nil h2) h1) (by decide) (by decide) h1 hpl).imp fun σ H Q ⟨g, s, r, s', G, O, e, z, q⟩ => ?_⟩
  unfold mIsi at e
  split at e
  · rename_i r s1 em
    split at e
    · rename_i hc
      cases e
      refine ⟨g, s, r, _, G, O, em, z, fun v H1 G1 F p => ⟨?_, fun tp ntp => ?_⟩⟩
      · rw [List.length_map]; exact Nat.le_trans hl (by decide)
      · have at1 : At st s' H1 G1 := p.at
        have gr := at1.grow_upd (o := .tup (ny.map V.ty)) ntp
        have ok2 := p.ok.keep gr
        refine ⟨v, r.d, tp, rfl, upd_same, clNs_all hc, ok2.rd gr.sub, ?_⟩
        exact q _ _ G1 [] ((PostE.scalar ⟨gr.sub, gr.sg, at1.strm.of_ne (at1.fresh_ns ntp)⟩ (.bl _)).after (p.gr.trans gr))
    · cases e
  · cases e
theorem pa_tys {ny : String} {n : Str} {q : Pos} {ts : List Expr} {l : List String} (h : PE X (.Name n q) (tC (.ty ny))) (hr : PA X ts (fun σ H Q => Q (l.map V.ty) H)) (hs : starEach (.Name n q :: ts) X.env = (false, eval (.Name n q) X.env) :: starEach ts X.env := by rfl) :
    PA X (.Name n q :: ts) (fun σ H Q => Q ((ny :: l).map V.ty) H) := (pa_cons h hr hs).imp fun σ H Q h => h
theorem pa_tys0 : PA X [] (fun σ H Q => Q (([] : List String).map V.ty) H) := pa_nil.imp fun σ H Q h => h
end
end DV

namespace DV
open PySem PySem.Spec PyProof.Rows L2

section
variable {X : Cx} {st : Stm} {a b c e : Expr} {ma mb mc m : ME} {pos p : Pos} {es : List Expr} {x : Str} {ms : MA}
theorem sa_one (h : SE X st e m) (hs : starEach [e] X.env = (false, eval e X.env) :: starEach [] X.env := by rfl) : SA X st [e] (mCons m mNil) := sa_cons h sa_nil hs
def kTupOf (r : Rv) : Option (List D) := match lstOf r with
  | some ds => some ds
  | none => match r with
    | .t (.fz (.tuple ds)) => some ds
    | _ => none
def mTupOf (m : ME) : ME := fun g s => match mHz m g s with
  | some (r, s1) => (kTupOf r).map fun ds => (.t (.fz (.tuple ds)), s1)
  | none => none
theorem se_tupOf (hg : Gl X "tuple") (hm : X.mg "tuple" = none) (he : SE X st e m) (h1 : starEach [e] X.env = (false, eval e X.env) :: starEach [] X.env := by rfl) : SE X st (.Call (.Name "tuple" p) [e] [] pos) (mTupOf m) := by
  refine ⟨(pe_callTy call_tuple_of hg hm boot_tuple (pa_cons (se_hz he).run pa_nil h1) (by decide) (by decide) h1 rfl).imp fun σ H Q ⟨g, s, r, s', G, O, e, z, q⟩ => ?_⟩
  unfold mTupOf at e
  split at e
  · rename_i r s1 em
    obtain ⟨ds, ed, e2⟩ := Option.map_eq_some_iff.mp e
    cases e2
    refine ⟨g, s, r, _, G, O, em, z, fun v H1 G1 F p => ?_⟩
    unfold kTupOf at ed
    split at ed
    · rename_i ds' el
      cases ed
      obtain ⟨a, vs, rfl, sq, f⟩ := lst_of p.at p.ok el
      refine ⟨a, vs, rfl, .inl ⟨.inl (.inl sq), fun l n => ?_⟩⟩
      exact q _ _ _ _ ((PostE.newFz p.at n (fun _ _ z => by cases z) (.tup upd_same (FzA.mono (p.at.grow_upd2 (o := .tup vs) n (fun _ _ z => by cases z)).le f))).after p.gr)
    · split at ed
      · cases ed
        have f := p.ok.fzi
        cases f with
        | tup c r => exact ⟨_, _, rfl, .inr ⟨.inl (.inl (U_tup (p.gr.sub _ _ c))), q _ H1 G1 [] ((PostE.scalar p.at (.tup c r)).after p.gr)⟩⟩
      · cases ed
  · cases e
def kLstOf (r : Rv) : Option (List D) := match seqOf r with
  | some ds => some ds
  | none => match r with
    | .t (.fz (.dict l)) => if keysK1 l then some (l.map (·.1)) else none
    | _ => none
def mLstOf (m : ME) : ME := fun g s => match mHz m g s with
  | some (r, s1) => (kLstOf r).map fun ds => (.t (.lst (ds.map T.fz)), s1)
  | none => none
theorem CallR.or {f : Value} {r r' : List V → Hp → VK → Prop} (h : CallR X f r) (h' : CallR X f r') : CallR X f (fun xs H Q => r xs H Q ∨ r' xs H Q) := fun pins s σ H xs us Q I rx q => q.elim (h pins s σ H xs us Q I rx) (h' pins s σ H xs us Q I rx)
theorem keys_fz {K : PySem.W.Frag} {G : Hp} : ∀ {kvs : List (Key × V)} {l : List (DV.D × DV.D)}, FzK K G kvs l → FzA K G (kvs.map fun kv => kV kv.1) (l.map (·.1))
  | _, _, .nil => .nil
  | _, _, .cons h r => .cons (kV_keyD _) (keys_fz r)
theorem se_lstOf (hc : X.calm = true) (hg : Gl X "list") (hm : X.mg "list" = none) (he : SE X st e m) (h1 : starEach [e] X.env = (false, eval e X.env) :: starEach [] X.env := by rfl) : SE X st (.Call (.Name "list" p) [e] [] pos) (mLstOf m) := by
  refine ⟨(pe_callTy (CallR.or call_list_of (call_listD hc)) hg hm boot_list (pa_cons (se_hz he).run pa_nil h1) (by decide) (by decide) h1 rfl).imp fun σ H Q ⟨g, s, r, s', G, O, e, z, q⟩ => ?_⟩
  unfold mLstOf at e
  split at e
  · rename_i r s1 em
    obtain ⟨ds, ed, e2⟩ := Option.map_eq_some_iff.mp e
    cases e2
    refine ⟨g, s, r, _, G, O, em, z, fun v H1 G1 F p => ?_⟩
    unfold kLstOf at ed
    split at ed
    · rename_i ds' el
      cases ed
      obtain ⟨a, vs, rfl, sq, f⟩ := seq_of p.at p.ok el
      exact .inl ⟨a, vs, rfl, sq.symm, fun l n => q _ _ _ _ ((PostE.newL p.at n f).after p.gr)⟩
    · split at ed
      · split at ed
        · rename_i hk
          cases ed
          obtain ⟨a, kvs, rfl, c, r⟩ := p.ok.fzi.dicK hk
          exact .inr ⟨a, kvs, rfl, U_dK (p.gr.sub _ _ c), fun l n => q _ _ _ _ ((PostE.newL p.at n (keys_fz r)).after p.gr)⟩
        · cases ed
      · cases ed
  · cases e
def mDicD (m : ME) : ME := fun g s => match mHz m g s with
  | some (.t (.fz (.dict l)), s1) => if keysK1 l then some (.t (.dic false (l.map fun p => (p.1, T.fz p.2))), s1) else none
  | _ => none
theorem FzK.toOw {K : PySem.W.Frag} {G H : Hp} : ∀ {kvs : List (Key × V)} {l : List (DV.D × DV.D)}, FzK K G kvs l → OwK K st G H kvs (l.map fun p => (p.1, T.fz p.2)) []
  | _, _, .nil => .nil
  | _, _, .cons h r => OwK.cons (F := []) (F' := []) (.fz h) (FzK.toOw r)
theorem se_dicD (hg : Gl X "dict") (hm : X.mg "dict" = none) (he : SE X st e m) (h1 : starEach [e] X.env = (false, eval e X.env) :: starEach [] X.env := by rfl) : SE X st (.Call (.Name "dict" p) [e] [] pos) (mDicD m) := by
  refine ⟨(pe_callTy call_dictD hg hm boot_dict (pa_cons (se_hz he).run pa_nil h1) (by decide) (by decide) h1 rfl).imp fun σ H Q ⟨g, s, r, s', G, O, e, z, q⟩ => ?_⟩
  unfold mDicD at e
  split at e
  · rename_i l s1 em
    split at e
    · rename_i hk
      cases e
      refine ⟨g, s, _, _, G, O, em, z, fun v H1 G1 F p => ?_⟩
      obtain ⟨a, kvs, rfl, c, r⟩ := p.ok.fzi.dicK hk
      refine ⟨a, kvs, rfl, U_dK (p.gr.sub _ _ c), fun l n => ?_⟩
      exact q _ _ G1 [l] ((PostE.newOw p.at n (.dk (p.at.fresh_ns n) upd_same r.toOw) (by simp) (fun a ha => by simp at ha) p.at.grow).after p.gr)
    · cases e
  · cases e
/-- a pair: its key, its value -/
def pairT : T → Option (D × T)
  | .tup [.fz k, v] => if (kOf k).isSome then some (k, v) else none
  | .fz (.tuple [k, v]) => if (kOf k).isSome then some (k, .fz v) else none
  | _ => none
def putsT : List T → List (D × T) → Option (List (D × T))
  | [], l => some l
  | t :: ts, l => match pairT t with
    | some (k, v) => match tPut l k v with
      | some l' => putsT ts l'
      | none => none
    | none => none
def mDicP (m : ME) : ME := fun g s => match m g s with
  | some (r, s1) => match lstT r with
    | some ts => (putsT ts []).map fun l => (.t (.dic false l), s1)
    | none => none
  | none => none
theorem pair_of {K : PySem.W.Frag} {G H : Hp} {v : V} {t : T} {F : List Addr} {k : DV.D} {u : T} (su : Sub G H) (o : Ow K st G H v t F) (e : pairT t = some (k, u)) : ∃ p k0 w F', v = .ref p ∧ k = keyD k0 ∧ SqT K H p [kV k0, w] ∧ Ow K st G H w u F' ∧ (∀ a ∈ F', a ∈ F) ∧ (F.Nodup → F'.Nodup) := by
  unfold pairT at e
  split at e
  · rename_i k v
    split at e
    · rename_i hk
      cases e
      obtain ⟨k0, ek⟩ := Option.isSome_iff_exists.mp hk
      cases kOf_some ek
      cases o with
      | tup ni ha r =>
        cases r with
        | @cons v1 _ _ _ F1 _ h r =>
          cases r with
          | @cons v2 _ _ _ F2 _ h2 r =>
            cases r
            cases h with
            | fz f =>
              have e1 : v1 = kV k0 := by cases k0 <;> (cases f; rfl)
              subst e1
              refine ⟨_, k0, v2, F2, rfl, rfl, .inl (.inl ha), h2, fun a ha => List.mem_cons_of_mem _ (by simpa using ha), fun nd => ?_⟩
              have := (List.nodup_cons.mp nd).2
              simpa using this
    · cases e
  · rename_i k v
    split at e
    · rename_i hk
      cases e
      obtain ⟨k0, ek⟩ := Option.isSome_iff_exists.mp hk
      cases kOf_some ek
      cases o with
      | fz f =>
        cases f with
        | tup c r =>
          cases r with
          | @cons v1 _ _ _ h r =>
            cases r with
            | @cons v2 _ _ _ h2 r =>
              cases r
              have e1 : v1 = kV k0 := by cases k0 <;> (cases h; rfl)
              subst e1
              exact ⟨_, k0, v2, [], rfl, rfl, .inl (.inl (U_tup (su _ _ c))), .fz h2, fun a ha => by simp at ha, fun _ => .nil⟩
    · cases e
  · cases e
/-- the pairs of a list, put one after another -/
theorem puts_of {K : PySem.W.Frag} {G H : Hp} (su : Sub G H) : ∀ {ts : List T} {vs : List V} {F : List Addr} {acc : List (Key × V)} {l l' : List (DV.D × T)} {Fa : List Addr}, OwA K st G H vs ts F → F.Nodup → OwK K st G H acc l Fa → Fa.Nodup → (∀ a ∈ Fa, a ∉ F) → putsT ts l = some l' →
    ∃ ps kvs F', vs = ps.map V.ref ∧ Paired (fun p kv => SqT K H p [kV kv.1, kv.2]) ps kvs ∧ OwK K st G H (mergeK acc kvs) l' F' ∧ F'.Nodup ∧ ∀ a ∈ F', a ∈ Fa ∨ a ∈ F
  | [], vs, F, acc, l, l', Fa, o, nf, oa, na, d, e => by
    cases o
    cases e
    exact ⟨[], [], Fa, rfl, .nil, oa, na, fun a ha => .inl ha⟩
  | t :: ts, vs, F, acc, l, l', Fa, o, nf, oa, na, d, e => by
    cases o with
    | @cons v _ vs _ F1 F2 h r =>
      obtain ⟨n1, n2, n3⟩ := List.nodup_append.mp nf
      unfold putsT at e
      split at e
      · rename_i k u ep
        split at e
        · rename_i l1 el
          obtain ⟨p, k0, w, Fw, rfl, rfl, sq, ow, mw, nw⟩ := pair_of su h ep
          obtain ⟨F3, c1, c2, c3⟩ := OwK.put oa na ow (nw n1) (fun a ha z => d a z (List.mem_append_left _ (mw a ha))) el
          obtain ⟨ps, kvs, F', e1, pp, o', nd', m'⟩ := puts_of su r n2 c1 c2 (fun a ha z => (c3 a ha).elim (fun y => d a y (List.mem_append_right _ z)) fun y => n3 a (mw a y) a z rfl) e
          refine ⟨p :: ps, (k0, w) :: kvs, F', by rw [e1]; rfl, .cons sq pp, o', nd', fun a ha => ?_⟩
          rcases m' a ha with y | y
          · exact (c3 a y).imp id fun x => List.mem_append_left _ (mw a x)
          · exact .inr (List.mem_append_right _ y)
        · cases e
      · cases e
theorem se_dicP (hc : X.calm = true) (hg : Gl X "dict") (hm : X.mg "dict" = none) (he : SE X st e m) (h1 : starEach [e] X.env = (false, eval e X.env) :: starEach [] X.env := by rfl) : SE X st (.Call (.Name "dict" p) [e] [] pos) (mDicP m) := by
  refine ⟨(pe_callTy (call_dictP hc) hg hm boot_dict (pa_cons he.run pa_nil h1) (by decide) (by decide) h1 rfl).imp fun σ H Q ⟨g, s, r, s', G, O, e, z, q⟩ => ?_⟩
  unfold mDicP at e
  split at e
  · rename_i r s1 em
    split at e
    · rename_i ts et
      obtain ⟨l, el, e2⟩ := Option.map_eq_some_iff.mp e
      cases e2
      refine ⟨g, s, r, _, G, O, em, z, fun v H1 G1 F p => ?_⟩
      obtain ⟨b, zs, F', rfl, hb, ow, nf, mf⟩ := lst_rv p et
      obtain ⟨ps, kvs, F2, rfl, pp, o2, nd2, m2⟩ := puts_of p.gr.sub ow nf OwK.nil .nil (fun a ha => by simp at ha) el
      refine ⟨b, ps, kvs, rfl, .inl (.inl hb), pp, fun d n => ?_⟩
      have m3 : ∀ a ∈ F2, a ∈ F := fun a ha => mf a ((m2 a ha).resolve_left (by simp))
      have nd : d ∉ F2 := fun z => by
        obtain ⟨_, o, e, _⟩ := o2.there d z
        rw [n] at e; cases e
      refine q _ _ G1 (d :: F2) (PostE.newOw p.at n (.dk (p.at.fresh_ns n) upd_same (OwK.keep (.refl _) o2 fun a ha o e => by rw [upd_ne (fun z => nd (by rw [← z]; exact ha))]; exact e)) (List.nodup_cons.mpr ⟨nd, nd2⟩) (fun a ha => p.ap a (m3 a ha)) p.gr)
    · cases e
  · cases e
def mItL (m : ME) : ME := fun g s => match mHz m g s with
  | some (.t (.fz (.dict l)), s1) => if keysK1 l then some (.t (.fz (.list (l.map fun p => .tuple [p.1, p.2]))), s1) else none
  | _ => none
end
end DV

namespace DV
open PySem PySem.Spec PyProof.Rows L2

def sortD (ds : List D) : List D := ds.mergeSort (PySem.W.dataLe false id)
def headT : D → Bool
  | .tuple (_ :: _) => true
  | _ => false
def plainS : D → Bool
  | .none => false
  | .tuple _ => false
  | _ => true
/-- data that sorted takes -/
def sortOk (ds : List D) : Bool := (ds.all fun d => ds.all fun e => PySem.W.alike d e) && (ds.all headT || ds.all plainS) && (ds.all fun d => nod d && decide (d.depth ≤ 60)) && lenOk ds.length
section
variable {X : Cx} {st : Stm} {a b c e : Expr} {ma mb mc m : ME} {pos p : Pos} {es : List Expr} {x : Str} {ms : MA}
def zipV (vs : List V) (ds : List D) : List V := ((vs.zip ds).mergeSort (PySem.W.dataLe false fun b : V × D => b.2)).map (·.1)
theorem zip_fz {K : PySem.W.Frag} {G : Hp} : ∀ {vs : List V} {ds : List D}, FzA K G vs ds → (∀ p ∈ vs.zip ds, Fz K G p.1 p.2) ∧ (vs.zip ds).map (·.2) = ds ∧ (vs.zip ds).map (·.1) = vs
  | _, _, .nil => ⟨fun p h => by simp at h, rfl, rfl⟩
  | _, _, .cons h r => by
    obtain ⟨h1, h2, h3⟩ := zip_fz r
    refine ⟨fun p hp => ?_, by rw [List.zip_cons_cons, List.map_cons, h2], by rw [List.zip_cons_cons, List.map_cons, h3]⟩
    rw [List.zip_cons_cons] at hp
    rcases List.mem_cons.mp hp with rfl | hp
    · exact h
    · exact h1 p hp
theorem fz_zip {K : PySem.W.Frag} {G : Hp} : ∀ {l : List (V × D)}, (∀ p ∈ l, Fz K G p.1 p.2) → FzA K G (l.map (·.1)) (l.map (·.2))
  | [], _ => .nil
  | p :: l, h => .cons (h p List.mem_cons_self) (fz_zip fun q hq => h q (List.mem_cons_of_mem _ hq))
theorem sort_zip {vs : List V} {ds : List D} (h : (vs.zip ds).map (·.2) = ds) : ((vs.zip ds).mergeSort (PySem.W.dataLe false fun b : V × D => b.2)).map (·.2) = sortD ds := by
  unfold sortD
  rw [List.map_mergeSort (f := fun p : V × D => p.2) (s := PySem.W.dataLe false id), h]
  intro a ha b hb
  rfl
theorem FzA.sort {K : PySem.W.Frag} {G : Hp} {vs : List V} {ds : List D} (f : FzA K G vs ds) : FzA K G (zipV vs ds) (sortD ds) := by
  obtain ⟨h1, h2, h3⟩ := zip_fz f
  have := fz_zip (K := K) (G := G) (l := (vs.zip ds).mergeSort (PySem.W.dataLe false fun b : V × D => b.2)) fun p hp => h1 p (List.mem_mergeSort.mp hp)
  rw [sort_zip h2] at this
  exact this
def rSortL (K : PySem.W.Frag) : List V → Hp → VK → Prop := fun xs H Q => ∃ a vs ds, xs = [.ref a] ∧ H a = some (.lst vs) ∧ FzA K (U H) vs ds ∧ sortOk ds = true ∧ ∀ p, H p = none → Q (.ref p) (upd H p (.lst (zipV vs ds)))
theorem reads_all {pins : List (Addr × Obj)} {σ : Sg} {H : Hp} {s : Shared} (I : Inv X pins σ H s) : ∀ {vs : List V} {us : List Value} {ds : List D}, Vals vs us → FzA X.K (U H) vs ds → (∀ d ∈ ds, nod d = true) →
    PySem.W.EachIs (fun (u : Value) (b : V × D) => RelV b.1 u) us (vs.zip ds) ∧ PySem.W.EachIs (fun (u : Value) (b : V × D) => ∃ as, Reads s.heap u b.2 as) us (vs.zip ds)
  | _, _, _, .nil, .nil, _ => ⟨.nil, .nil⟩
  | _, _, _, .cons r rs, .cons f fs, n => by
    obtain ⟨h1, h2⟩ := reads_all I rs fs fun d hd => n d (List.mem_cons_of_mem _ hd)
    exact ⟨.cons r h1, .cons (f.reads I (n _ List.mem_cons_self) r) h2⟩
theorem vals_each : ∀ {us : List Value} {l : List (V × D)}, PySem.W.EachIs (fun (u : Value) (b : V × D) => RelV b.1 u) us l → Vals (l.map (·.1)) us
  | _, _, .nil => .nil
  | _, _, .cons h t => .cons h (vals_each t)
theorem cr_sortL (hu : X.A.units + 100 < cLine) : CallR X (.builtin "sorted") (rSortL X.K) := by
  intro pins s σ H xs us Q I r h
  obtain ⟨a, vs, ds, rfl, ha, f, ok, q⟩ := h
  unfold sortOk at ok
  simp only [Bool.and_eq_true] at ok
  obtain ⟨⟨⟨o1, o2⟩, o3⟩, o4⟩ := ok
  have hal : PySem.W.AllAlike ds := fun d hd d' hd' => List.all_eq_true.mp (List.all_eq_true.mp o1 d hd) d' hd'
  have hso : PySem.W.Sortable ds := by
    rcases Bool.or_eq_true_iff.mp o2 with h | h
    · refine .inl fun d hd => ?_
      have := List.all_eq_true.mp h d hd
      unfold headT at this
      split at this
      · exact ⟨_, _, rfl⟩
      · cases this
    · refine .inr fun d hd => ?_
      have := List.all_eq_true.mp h d hd
      exact ⟨fun z => (by rw [z] at this; cases this), fun xs z => (by rw [z] at this; cases this)⟩
  have nd : ∀ d ∈ ds, nod d = true ∧ d.depth ≤ 60 := fun d hd => by
    have := List.all_eq_true.mp o3 d hd
    obtain ⟨h1, h2⟩ := Bool.and_eq_true_iff.mp this
    exact ⟨h1, of_decide_eq_true h2⟩
  obtain ⟨its, rv, hl, hz⟩ := I.list (.inl (.inl ha))
  rw [Vals.ref1 r]
  obtain ⟨z1, z2, z3⟩ := zip_fz f
  obtain ⟨e1, e2⟩ := reads_all I rv f fun d hd => (nd d hd).1
  have lz : (vs.zip ds).length = ds.length := by rw [← z2, List.length_map, z2]
  refine PySem.W.sorted_data (enc := fun b : V × D => b.2) hl.isList e1 e2 (by rw [z2]; exact hal) (by rw [z2]; exact hso) (by rw [lz]; exact of_decide_eq_true o4) (fun b hb => ?_) fun out ho eo => ?_
  · have : b.2 ∈ ds := by rw [← z2]; exact List.mem_map_of_mem hb
    have := (nd _ this).2
    omega
  · obtain ⟨ep, he'⟩ := PyProof.Rows.sortedAll_at s.heap its (List.toArray out)
    have hlen : (zipV vs ds).length ≤ sizeLine := by
      unfold zipV
      rw [List.length_map, List.length_mergeSort, lz]
      exact of_decide_eq_true o4
    exact ⟨.ref _, upd H (s.heap.objs.size + 1) (.lst (zipV vs ds)), I.laid (t' := s.toks) (fun _ _ => PyProof.Rows.sortedAll_old) (Nat.le_succ _) ⟨hlen, out, ep, vals_each eo, he'⟩, rfl, q _ (I.hok.fresh (Nat.le_succ _))⟩
def strsOf : List D → Option (List Str)
  | [] => some []
  | .str i :: l => (strsOf l).map (i :: ·)
  | _ :: _ => none
theorem strsOf_some : ∀ {l : List D} {ns : List Str}, strsOf l = some ns → l = ns.map PyData.str
  | [], ns, e => by cases e; rfl
  | d :: l, ns, e => by
    cases d with
    | str i =>
      unfold strsOf at e
      obtain ⟨ns', e', rfl⟩ := Option.map_eq_some_iff.mp e
      rw [strsOf_some e']; rfl
    | _ => cases e
theorem strs_keys {K : PySem.W.Frag} {G : Hp} : ∀ {kvs : List (Key × V)} {l : List (DV.D × DV.D)} {ks : List Str}, FzK K G kvs l → l.map (·.1) = ks.map PyData.str → kvs.map (·.1) = ks.map Sum.inr
  | _, _, [], .nil, _ => rfl
  | _, _, _ :: _, .nil, e => by simp at e
  | _, _, [], .cons h r, e => by simp at e
  | _, _, k :: ks, @FzK.cons _ _ k0 v d vs ds h r, e => by
    rw [List.map_cons, List.map_cons] at e
    obtain ⟨e1, e2⟩ := List.cons.inj e
    rw [List.map_cons, List.map_cons, strs_keys r e2]
    congr 1
    cases k0 with
    | inl i => cases e1
    | inr x => cases e1; rfl
def strLe (x y : Str) : Bool := decide (x.cps.toList ≤ y.cps.toList)
theorem sortD_strs (ks : List Str) : sortD (ks.map PyData.str) = (ks.mergeSort strLe).map PyData.str := by
  unfold sortD
  rw [List.map_mergeSort (f := PyData.str) (s := PySem.W.dataLe false id)]
  intro a ha b hb
  have := congrFun (congrFun (PySem.W.dataLe_str (fun x : Str => x)) a) b
  exact this.symm
theorem strLe_total (x y : Str) : (strLe x y || strLe y x) = true := by
  unfold strLe
  rcases List.le_total x.cps.toList y.cps.toList with h | h
  · simp [h]
  · simp [h]
theorem strLe_trans (x y z : Str) (h : strLe x y = true) (h2 : strLe y z = true) : strLe x z = true := decide_eq_true (List.le_trans (of_decide_eq_true h) (of_decide_eq_true h2))
theorem strLe_anti {x y : Str} (h : strLe x y = true) (h2 : strLe y x = true) : x = y :=
  PySem.W.str_of_cps (List.le_antisymm (of_decide_eq_true h) (of_decide_eq_true h2))
theorem rising_pair : ∀ {x : Str} {r : List Str}, risingS x r = true → (∀ y ∈ r, strLe x y = true) ∧ r.Pairwise (fun a b => strLe a b = true)
  | x, [], _ => ⟨fun y h => by simp at h, .nil⟩
  | x, y :: r, h => by
    unfold risingS at h
    obtain ⟨h1, h2⟩ := Bool.and_eq_true_iff.mp h
    obtain ⟨i1, i2⟩ := rising_pair h2
    have xy : strLe x y = true := by
      rw [ltCps_eq] at h1
      exact decide_eq_true (List.not_lt.mp (by simpa using h1))
    refine ⟨fun z hz => ?_, List.pairwise_cons.mpr ⟨i1, i2⟩⟩
    rcases List.mem_cons.mp hz with rfl | hz
    · exact xy
    · exact strLe_trans _ _ _ xy (i1 z hz)
theorem sorted_pair {ys : List Str} (h : sortedS ys = true) : ys.Pairwise (fun a b => strLe a b = true) := by
  cases ys with
  | nil => exact .nil
  | cons x r =>
    obtain ⟨i1, i2⟩ := rising_pair (show risingS x r = true from h)
    exact List.pairwise_cons.mpr ⟨i1, i2⟩
theorem sorted_is {ys ks : List Str} (hp : ys.Perm ks) (h : sortedS ys = true) : ys = ks.mergeSort strLe := by
  refine List.Perm.eq_of_pairwise (fun x y _ _ h1 h2 => strLe_anti h1 h2) (sorted_pair h) (List.pairwise_mergeSort strLe_trans strLe_total ks) (hp.trans (List.mergeSort_perm ks strLe).symm)
def kSorted (r : Rv) : Option (List D) := match lstOf r with
  | some ds => if sortOk ds then some (sortD ds) else none
  | none => match r with
    | .t (.fz (.dict l)) => match strsOf (l.map (·.1)) with
      | some ks => if ks.length < 64 then some ((ks.mergeSort strLe).map PyData.str) else none
      | none => none
    | _ => none
def mSorted (m : ME) : ME := fun g s => match mHz m g s with
  | some (r, s1) => (kSorted r).map fun ds => (.t (.lst (ds.map T.fz)), s1)
  | none => none
theorem strs_k1 : ∀ {l : List (DV.D × DV.D)} {ks : List Str}, strsOf (l.map (·.1)) = some ks → keysK1 l = true
  | [], _, _ => rfl
  | (k, v) :: l, ks, e => by
    rw [List.map_cons] at e
    cases k with
    | str i =>
      unfold strsOf at e
      obtain ⟨ns', e', _⟩ := Option.map_eq_some_iff.mp e
      have ih := strs_k1 e'
      unfold keysK1 at ih ⊢
      rw [List.all_cons, ih]; rfl
    | _ => cases e
theorem strs_fz {K : PySem.W.Frag} {G : Hp} : ∀ ks : List Str, FzA K G (ks.map V.str) (ks.map PyData.str)
  | [] => .nil
  | k :: ks => .cons (.str k) (strs_fz ks)
theorem se_sorted (hc : X.calm = true) (hu : X.A.units + 100 < cLine) (hg : Gl X "sorted") (hm : X.mg "sorted" = none) (he : SE X st e m) (h1 : starEach [e] X.env = (false, eval e X.env) :: starEach [] X.env := by rfl) : SE X st (.Call (.Name "sorted" p) [e] [] pos) (mSorted m) := by
  refine ⟨(pe_callB (CallR.or (cr_sortL hu) (call_sortedD hc)) hg hm boot_sorted (pa_cons (se_hz he).run pa_nil h1) (by decide) (by decide) h1 rfl).imp fun σ H Q ⟨g, s, r, s', G, O, e, z, q⟩ => ?_⟩
  unfold mSorted at e
  split at e
  · rename_i r s1 em
    obtain ⟨ds, ed, e2⟩ := Option.map_eq_some_iff.mp e
    cases e2
    refine ⟨g, s, r, _, G, O, em, z, fun v H1 G1 F p => ?_⟩
    unfold kSorted at ed
    split at ed
    · rename_i ds' el
      split at ed
      · rename_i ok
        cases ed
        obtain ⟨a, vs, rfl, sq, f⟩ := lst_of p.at p.ok el
        exact .inl ⟨a, vs, ds', rfl, sq, f.mono p.gr.sub, ok, fun l n => q _ _ _ _ ((PostE.newL p.at n f.sort).after p.gr)⟩
      · cases ed
    · split at ed
      · split at ed
        · rename_i ks ek
          split at ed
          · rename_i h64
            cases ed
            obtain ⟨a, kvs, rfl, c, r⟩ := p.ok.fzi.dicK (strs_k1 ek)
            refine .inr ⟨a, kvs, ks, rfl, U_dK (p.gr.sub _ _ c), strs_keys r (strsOf_some ek), h64, fun ys l hp hs n => ?_⟩
            rw [sorted_is hp hs]
            exact q _ _ _ _ ((PostE.newL p.at n (strs_fz _)).after p.gr)
          · cases ed
        · cases ed
      · cases ed
  · cases e

def rItL : V → Hp → VK → Prop := fun x H Q => ∃ (d : Addr) (kvs : List (Key × V)), x = .ref d ∧ Rd H d (.dK kvs) ∧ ∀ (H' : Hp) (q : Addr) (ts : List Addr), (∀ b o, H b = some o → H' b = some o) → H q = none → (∀ t ∈ ts, H t = none) → q ∉ ts →
  H' q = some (.lst (ts.map V.ref)) → Paired (fun (t : Addr) (kv : Key × V) => H' t = some (.tup [kV kv.1, kv.2])) ts kvs → Q (.ref q) H'
theorem pe_itL {te : TE} {apos cpos : Pos} (hc : X.calm = true) (he : PE X e te) (hg : Gl X "list") (hm : X.mg "list" = none) (hbase : attributeBase e "items" X.env (eval e X.env) = eval e X.env := by rfl) (hline : (apos.endLine == cpos.line) = true := by rfl)
    (hs : starEach [.Call (.Attribute e "items" apos) [] [] cpos] X.env = (false, eval (.Call (.Attribute e "items" apos) [] [] cpos) X.env) :: starEach [] X.env := by rfl) :
    PE X (.Call (.Name "list" p) [.Call (.Attribute e "items" apos) [] [] cpos] [] pos) (fun σ H Q => te σ H fun v H1 => rItL v H1 Q) := by
  constructor
  intro pins s σ H Q I hq
  apply wpAny_Call_Name_kw
  apply ld_blt I hg hm boot_list
  refine PyProof.Rows.callWith_type1 ?_ hs rfl
  rw [hs]
  change wpAny _ _ (spliced ((false, eval (.Call (.Attribute e "items" apos) [] [] cpos) X.env) :: _)) _ _ s
  apply Calls.spliced_cons
  refine wpAny_Call_method (T := "dict") (id := "dict.items") hbase rfl hline F.plainAttrs_dict F.slot_dict_items F.type_dict_items (thn (he.run pins s σ H _ I hq) ?_)
  rintro u s1 ⟨v, H1, I1, rv, d, kvs, rfl, hd, q⟩
  obtain rfl : u = Value.ref d := rv
  obtain ⟨hz, hs0, vs, kv, hdo⟩ := dk_rd I1.hok hd
  obtain ⟨ep, hat⟩ := hdo.dictAt
  have lk : kvs.length = vs.length := Paired.length kv
  let ob : Obj := { cls := .type "dict_items", data := .fields #[.ref d] }
  have I2 : Inv X pins σ H1 { s1 with heap := s1.heap.push ob } := I1.kept (t' := s1.toks) fun _ _ x => Heap.get?_push_of_some _ x
  have view : (s1.heap.push ob).get? s1.heap.objs.size = some ob := Heap.get?_push_size _ rfl
  refine ⟨hdo.typeIs, hdo.mapOf.noDict, ?_⟩
  refine method_meetsIn F.slot_dict_items F.entry_dict_items rfl (PySem.evalArgs_none ⟨rfl, hdo.typeIs, F.args_dict_items_1 _, _, meets_dict_items (mixKind X.prog X.w) d hs0, ⟨vs, hdo⟩, ?_⟩)
  apply Calls.spliced_nil
  refine PySem.W.kdx_call (knd := mixKind X.prog X.w) (kvs := vs) (ep := ep) (I1.ok.hd hc) ⟨ob, view, rfl, rfl⟩ (hat.push _) (by omega) ?_
  intro h' tk acc c as hk hS hl hG hacc
  obtain ⟨H', k1, k2, k3, k4, k5, k6, J⟩ := LiI.items_laid (tk := tk) I2 hz kv hk hS hl hG hacc
  exact ⟨.ref (s1.heap.push ob).objs.size, H', J, rfl, q H' _ as k1 k2 k3 k4 k5 k6⟩
/-- new cells, frozen at once -/
theorem PostE.many {K : PySem.W.Frag} {s : S} {H G H' : Hp} {v : V} {d : DV.D} {F : List Addr} (h : At st s H G) (keep : ∀ b o, H b = some o → H' b = some o) (fresh : ∀ b ∈ F, H b = none) (nf : ∀ b ∈ F, ∀ x u, H' b ≠ some (.frz x u))
    (f : Fz K (fun b => if b ∈ F then H' b else G b) v d) : PostE K st H G (.t (.fz d)) s v H' (fun b => if b ∈ F then H' b else G b) [] := by
  have ns : ∀ b, inS st b → b ∉ F := fun b i hm => by
    obtain ⟨o, e⟩ := h.strm.there i
    rw [fresh b hm] at e; cases e
  refine ⟨⟨fun b o e => ?_, fun b o e => ?_, fun b o _ e => keep b o e, fun b e n => ?_, fun b i => ?_, fun b e => ?_⟩, .fz f, .nil, fun a ha => by simp at ha, ?_⟩
  · show (if b ∈ F then H' b else G b) = some o
    rw [if_neg (fun hm => by rw [h.sub.none (fresh b hm)] at e; cases e)]; exact e
  · have e : (if b ∈ F then H' b else G b) = some o := e
    by_cases hm : b ∈ F
    · rw [if_pos hm] at e
      exact U_of e fun x u z => nf b hm x u (by rw [e, z])
    · rw [if_neg hm] at e
      exact U_le (fun o' x => keep b o' x) (h.sub b o e)
  · by_cases hm : b ∈ F
    · exact fresh b hm
    · have n : (if b ∈ F then H' b else G b) ≠ none := n
      rw [if_neg hm] at n; exact absurd e n
  · show (if b ∈ F then H' b else G b) = none
    rw [if_neg (ns b i)]; exact h.sg b i
  · cases e2 : H b with
    | none => rfl
    | some o => rw [keep b o e2] at e; cases e
  · have q := h.strm
    cases st with
    | none => trivial
    | some pp =>
      obtain ⟨x, y⟩ := pp
      obtain ⟨h1, h2, h3, h4⟩ := q
      exact ⟨h1, keep _ _ h2, keep _ _ h3, h4⟩
theorem items_fz {K : PySem.W.Frag} {G G' : Hp} (le : Le G G') : ∀ {ts : List Addr} {kvs : List (Key × V)} {l : List (DV.D × DV.D)}, Paired (fun (t : Addr) (kv : Key × V) => G' t = some (.tup [kV kv.1, kv.2])) ts kvs → FzK K G kvs l → FzA K G' (ts.map V.ref) (l.map fun p => .tuple [p.1, p.2])
  | _, _, _, .nil, .nil => .nil
  | _, _, _, .cons h t, .cons f r => .cons (.tup h (.cons (kV_keyD _) (.cons (f.mono le) .nil))) (items_fz le t r)
theorem paired_mem {α β : Type} {R : α → β → Prop} : ∀ {as : List α} {bs : List β}, Paired R as bs → ∀ {a : α}, a ∈ as → ∃ b, R a b
  | _, _, .cons h t, a, hm => by
    rcases List.mem_cons.mp hm with rfl | hm
    · exact ⟨_, h⟩
    · exact paired_mem t hm
theorem paired_map {α β : Type} {R R' : α → β → Prop} : ∀ {as : List α} {bs : List β}, Paired R as bs → (∀ a ∈ as, ∀ b, R a b → R' a b) → Paired R' as bs
  | _, _, .nil, _ => .nil
  | _, _, .cons h t, f => .cons (f _ List.mem_cons_self _ h) (paired_map t fun a ha => f a (List.mem_cons_of_mem _ ha))
theorem se_itL {apos cpos : Pos} (hc : X.calm = true) (he : SE X st e m) (hg : Gl X "list") (hm : X.mg "list" = none) (hbase : attributeBase e "items" X.env (eval e X.env) = eval e X.env := by rfl) (hline : (apos.endLine == cpos.line) = true := by rfl)
    (hs : starEach [.Call (.Attribute e "items" apos) [] [] cpos] X.env = (false, eval (.Call (.Attribute e "items" apos) [] [] cpos) X.env) :: starEach [] X.env := by rfl) :
    SE X st (.Call (.Name "list" p) [.Call (.Attribute e "items" apos) [] [] cpos] [] pos) (mItL m) := by
  refine ⟨(pe_itL hc (se_hz he).run hg hm hbase hline hs).imp fun σ H Q ⟨g, s, r, s', G, O, e, z, q⟩ => ?_⟩
  unfold mItL at e
  split at e
  · rename_i l s1 em
    split at e
    · rename_i hk
      cases e
      refine ⟨g, s, _, _, G, O, em, z, fun v H1 G1 F p => ?_⟩
      obtain ⟨a, kvs, rfl, c, r⟩ := p.ok.fzi.dicK hk
      refine ⟨a, kvs, rfl, U_dK (p.gr.sub _ _ c), fun H' qa ts k1 k2 k3 k4 k5 k6 => ?_⟩
      have cell : ∀ t ∈ ts, ∃ u, H' t = some (.tup u) := fun t ht => by
        obtain ⟨b, e⟩ := paired_mem k6 ht
        exact ⟨_, e⟩
      have fr : ∀ b ∈ qa :: ts, H1 b = none := fun b hb => by
        rcases List.mem_cons.mp hb with rfl | hb
        · exact k2
        · exact k3 b hb
      have nf : ∀ b ∈ qa :: ts, ∀ x u, H' b ≠ some (.frz x u) := fun b hb x u e => by
        rcases List.mem_cons.mp hb with rfl | hb
        · rw [k5] at e; cases e
        · obtain ⟨w, e2⟩ := cell b hb
          rw [e2] at e; cases e
      have le : Le G1 (fun b => if b ∈ qa :: ts then H' b else G1 b) := fun b o e => by
        show (if b ∈ qa :: ts then H' b else G1 b) = some o
        rw [if_neg (fun hm => by rw [p.gr.sub.none (fr b hm)] at e; cases e)]; exact e
      refine q _ H' _ [] ((PostE.many p.at k1 fr nf (.lst (a := qa) (vs := ts.map V.ref) ?_ (items_fz le (paired_map k6 fun t ht kv e => ?_) r))).after p.gr)
      · show (if qa ∈ qa :: ts then H' qa else G1 qa) = _
        rw [if_pos List.mem_cons_self]; exact k5
      · show (if t ∈ qa :: ts then H' t else G1 t) = _
        rw [if_pos (List.mem_cons_of_mem _ ht)]; exact e
    · cases e
  · cases e
end
end DV

namespace DV
open PySem PySem.Spec PyProof.Rows L2

section
variable {X : Cx} {st : Stm} {a b c e : Expr} {ma mb mc m : ME} {pos p apos cpos : Pos} {es : List Expr} {x : Str} {ms : MA}
def kAdd (x y : Rv) : Option Rv := match lstOf x with
  | some ds => match lstOf y with
    | some es => if lenOk (ds.length + es.length) then some (.t (.lst ((ds ++ es).map T.fz))) else none
    | none => none
  | none => match x.d, y.d with
    | .int i, .int j => some (.t (.fz (.int (i + j))))
    | .str i, .str j => if lenOk (i.length + j.length) then some (.t (.fz (.str (i ++ j)))) else none
    | _, _ => match x, y with
      | .t (.fz (.tuple ds)), .t (.fz (.tuple es)) => if !ds.isEmpty && lenOk (ds.length + es.length) then some (.t (.fz (.tuple (ds ++ es)))) else none
      | _, _ => none
def mAdd (ma mb : ME) : ME := m2 (mHz ma) (mHz mb) kAdd
def rAdd (K : PySem.W.Frag) : R2 := fun x y H Q => rI0 (fun i j => .int (i + j)) x y H Q ∨ (∃ i j, x = .str i ∧ y = .str j ∧ i.length + j.length ≤ sizeLine ∧ Q (.str (i ++ j)) H) ∨ rCat x y H Q ∨ rCatT K x y H Q
theorem op_addAny : OpR X (binaryOp .Add) (rAdd X.K) := OpR.or op_add (OpR.or op_add_str (OpR.or op_cat op_catT))
theorem Two.look {K : PySem.W.Frag} {x y : Rv} {s : S} {v u : V} {H G : Hp} {F F' : List Addr} (t : Two K st x y s v u H G F F') : True := trivial
theorem se_add (ha : SE X st a ma) (hb : SE X st b mb) : SE X st (.BinOp a .Add b pos) (mAdd ma mb) := by
  refine ⟨(pe_op op_addAny (se_hz ha).run (se_hz hb).run).imp fun σ H Q h => two h fun x y z s2 v u H2 G2 F F' ek t q => ?_⟩
  unfold kAdd at ek
  split at ek
  · rename_i ds e1
    split at ek
    · rename_i es e2
      split at ek
      · rename_i hl
        cases ek
        obtain ⟨a1, vs, rfl, h1, f1⟩ := lst_of t.at_ t.ox e1
        obtain ⟨a2, us, rfl, h2, f2⟩ := lst_of t.at_ t.oy e2
        refine .inr (.inr (.inl ⟨a1, a2, vs, us, rfl, rfl, h1, h2, by rw [f1.len, f2.len]; exact of_decide_eq_true hl, fun p n => q _ _ _ _ (PostE.newL t.at_ n (f1.append f2))⟩))
      · cases ek
    · cases ek
  · split at ek
    · rename_i i j ei ej
      cases ek
      have h1 := t.dx; rw [ei] at h1; cases h1.int_inv
      have h2 := t.dy; rw [ej] at h2; cases h2.int_inv
      exact .inl ⟨i, j, rfl, rfl, q _ H2 G2 [] (.scalar t.at_ (.int _))⟩
    · rename_i i j ei ej
      split at ek
      · rename_i hl
        cases ek
        have h1 := t.dx; rw [ei] at h1; cases h1.str_inv
        have h2 := t.dy; rw [ej] at h2; cases h2.str_inv
        exact .inr (.inl ⟨i, j, rfl, rfl, of_decide_eq_true hl, q _ H2 G2 [] (.scalar t.at_ (.str _))⟩)
      · cases ek
    · split at ek
      · rename_i ds es
        split at ek
        · rename_i hl
          cases ek
          obtain ⟨hn, hl⟩ := Bool.and_eq_true_iff.mp hl
          have f1 := t.ox.fzi
          have f2 := t.oy.fzi
          cases f1 with
          | @tup a1 vs _ c1 r1 =>
            cases f2 with
            | @tup a2 us _ c2 r2 =>
              have nv : vs ≠ [] := fun z => by
                rw [z] at r1
                cases r1
                cases hn
              refine .inr (.inr (.inr ⟨a1, a2, vs, us, rfl, rfl, .inl (.inl (U_tup (t.at_.sub _ _ c1))), .inl (.inl (U_tup (t.at_.sub _ _ c2))), nv, by rw [r1.len, r2.len]; exact of_decide_eq_true hl, fun z => ?_, fun _ p n => ?_⟩))
              · rw [z] at r2
                cases r2
                rw [List.append_nil] at q
                exact q _ H2 G2 [] (.scalar t.at_ (.tup c1 r1))
              · exact q _ _ _ _ (PostE.newFz t.at_ n (fun _ _ z => by cases z) (.tup upd_same (FzA.mono (t.at_.grow_upd2 (o := .tup (vs ++ us)) n (fun _ _ z => by cases z)).le (r1.append r2))))
        · cases ek
      · cases ek

abbrev MG := Gm → S → Option (List Arg × S)
def tG (K : PySem.W.Frag) (st : Stm) (m : MG) : TA := fun σ H Q => ∃ g s as s' G O, m g s = some (as, s') ∧ St0 K st g s σ H G O ∧ ∀ vs H' G', Grow st H G H' G' → Strm st s' H' → ArgsOk K st G' vs as → Q vs H'
structure SG (X : Cx) (st : Stm) (es : List Expr) (m : MG) : Prop where
  run : PA X es (tG X.K st m)
def mgNil : MG := fun _ s => some ([], s)
def mgS (i : Nat) (mr : MG) : MG := fun g s => match g[i]? with
  | some (some .s) => match mr g s with
    | some (as, s1) => some (.s :: as, s1)
    | none => none
  | _ => none
def mgD (m : ME) (mr : MG) : MG := fun g s => match mHz m g s with
  | some (.t (.fz d), s1) => match mr g s1 with
    | some (as, s2) => some (.d d :: as, s2)
    | none => none
  | _ => none
theorem sg_nil : SG X st [] mgNil := ⟨pa_nil.imp fun σ H Q ⟨g, s, as, s', G, O, e, z, q⟩ => by
  cases e
  exact q [] H G z.at.grow z.strm .nil⟩
theorem sg_s {mr : MG} {i : Nat} {y : Str} (h : PE X (.Name y p) (tVar i)) (hr : SG X st es mr) (hs : starEach (.Name y p :: es) X.env = (false, eval (.Name y p) X.env) :: starEach es X.env := by rfl) : SG X st (.Name y p :: es) (mgS i mr) := by
  refine ⟨(pa_cons h hr.run hs).imp fun σ H Q ⟨g, s, as, s', G, O, e, z, q⟩ => ?_⟩
  unfold mgS at e
  split at e
  · rename_i es'
    split at e
    · rename_i as1 s1 er
      cases e
      obtain ⟨a, b, e1, e2⟩ := z.ra.getS es'
      refine ⟨_, e2, g, s, as1, _, G, O, er, z, fun vs H1 G1 gr sm ao => q _ H1 G1 gr sm (.s e1 ao)⟩
    · cases e
  · cases e
theorem sg_d {mr : MG} (h : SE X st e m) (hr : SG X st es mr) (hs : starEach (e :: es) X.env = (false, eval e X.env) :: starEach es X.env := by rfl) : SG X st (e :: es) (mgD m mr) := by
  refine ⟨(pa_cons (se_hz h).run hr.run hs).imp fun σ H Q ⟨g, s, as, s', G, O, e, z, q⟩ => ?_⟩
  unfold mgD at e
  split at e
  · rename_i d s1 em
    split at e
    · rename_i as1 s2 er
      cases e
      refine ⟨g, s, _, s1, G, O, em, z, fun v H1 G1 F p => ?_⟩
      have f := p.ok.fzi
      refine ⟨g, s1, as1, _, G1, O, er, z.grow p.gr p.strm, fun vs H2 G2 gr2 sm2 ao => q _ H2 G2 (p.gr.trans gr2) sm2 (.d (f.mono gr2.le) ao)⟩
    · cases e
  · cases e
def mCallS (rf : List Arg → S → Option (T × S)) (mg : MG) : ME := fun g s => match mg g s with
  | some (as, s1) => match rf as s1 with
    | some (t, s2) => some (.t t, s2)
    | none => none
  | none => none
theorem se_callS {k j : Nat} {rf : List Arg → S → Option (T × S)} {mg : MG} (c : C8.Cal X.prog X.w X.K X.mg X.base k x (spS X.K rf) []) (hr : Room j X.A) (hk : k ≤ j) (hg : Gl X x) (ha : SG X st (e :: es) mg)
    (hdb : (x == ("__debug__" : Str)) = false := by decide) (he : starEach (e :: es) X.env = (false, eval e X.env) :: starEach es X.env := by rfl) (hpl : (backTo pos (starEach es X.env)).any (·.1) = false := by rfl) : SE X st (.Call (.Name x p) (e :: es) [] pos) (mCallS rf mg) := by
  refine ⟨(C8.pe_c c hr hk hg ha.run hdb he hpl).imp fun σ H Q ⟨g, s, r, s', G, O, e, z, q⟩ => ?_⟩
  unfold mCallS at e
  split at e
  · rename_i as s1 em
    split at e
    · rename_i t s2 et
      cases e
      refine ⟨g, s, as, s1, G, O, em, z, fun vs H1 G1 gr sm ao => ?_⟩
      show spS X.K rf (vs ++ []) H1 Q C8.E0
      rw [List.append_nil]
      exact ⟨st, as, s1, t, _, G1, et, gr.sub, gr.sg, sm, ao, fun v H' G' F p => q v H' G' F (p.after gr)⟩
    · cases e
  · cases e
end
end DV

namespace DV
open PySem PySem.Spec PyProof.Rows L2
theorem hu100 {A : Around} {k : Nat} (hr : Room k A) : A.units + 100 < cLine := by have := hr.un; omega
theorem loc_of {sc : Scope} {x : Str} (h : sc.names.lookup x = some .local) : Loc sc x := .inl h
section
variable {X : Cx} {st : Stm} {a b c e : Expr} {ma mb mc m : ME} {pos p apos cpos : Pos} {es : List Expr} {x : Str} {ms : MA}
theorem is_read {K : PySem.W.Frag} {k : Bool} {r : R2} {σ : Sg} {H : Hp} {Q : Bool → Hp → Prop} (hr : ∀ {x y : V} {H : Hp} {Q : VK}, y = .non → (Q (.bl (if k then !decide (x = .non) else decide (x = .non))) H) → r x y H Q)
    (h : tT K st (mIs k ma mb) σ H Q) : tTest (tOp r (tE K st ma) (tE K st mb)) σ H Q := by
  have h' := tT_tE h
  refine two h' fun x y z s2 v u H2 G2 F F' ek t q => ?_
  have h2 := t.dy
  have h1 := t.dx
  split at ek
  · rename_i e
    rw [e] at h2
    refine hr h2.non_inv ?_
    split at ek
    · rename_i e1
      rw [e1] at h1
      cases h1.non_inv
      cases ek
      cases k <;> exact q _ H2 G2 [] (.scalar t.at_ (.bl _))
    · rename_i e1
      cases ek
      have hv : v ≠ .non := fun z => by subst z; generalize x.d = d at h1 e1; cases h1; exact e1 rfl
      rw [decide_eq_false hv]
      cases k <;> exact q _ H2 G2 [] (.scalar t.at_ (.bl _))
  · cases ek
theorem st_isN (ha : SE X st a ma) (hb : SE X st b mb) (hm : behindInMarks .Is b = false := by rfl) : ST X st (.Compare a [.Is] [b] pos) (mIs false ma mb) :=
  ⟨(pt_cmpR op_isN ha.run hb.run hm).imp fun σ H Q h => is_read (k := false) (fun e q => ⟨e, q⟩) h⟩
theorem st_notN (ha : SE X st a ma) (hb : SE X st b mb) (hm : behindInMarks .IsNot b = false := by rfl) : ST X st (.Compare a [.IsNot] [b] pos) (mIs true ma mb) :=
  ⟨(pt_cmpR op_notN ha.run hb.run hm).imp fun σ H Q h => is_read (k := true) (fun e q => ⟨e, q⟩) h⟩
/-- an expression whose value is dropped -/
def mDrop (m : ME) : MSt := fun g s => match m g s with
  | some (_, s1) => some (.nx, g, s1)
  | none => none
theorem ss_expr (he : SE X st e m) (hs : swapsWith e none pos.line X.env = pure false := by rfl) : SS X st (.Expr e pos) (mDrop m) := by
  refine ⟨(ps_expr he.run hs).imp fun D σ H ⟨g, s, o, g', s', G, O, em, z, q⟩ => ?_⟩
  unfold mDrop at em
  split at em
  · rename_i r s1 e1
    cases em
    exact ⟨g, s, r, _, G, O, e1, z, fun v H' G' F p => q σ H' G' O p.gr.mv (z.grow p.gr p.strm)⟩
  · cases em
/-- a target of any shape: the value frozen -/
def mAsgT (tg : Tg) (m : ME) : MSt := fun g s => match m g s with
  | some (.t t, s1) => match bind tg t.d g with
    | some g' => some (.nx, g', s1)
    | none => none
  | _ => none
theorem ss_asgT {tgt : Tg} {tg : Expr} (hp : PG X tg (Tg.g X.K tgt)) (ha : SE X st a m) (hs : swapsWithSole [tg] a pos.line X.env = pure false := by rfl) (hw : swappedStores [tg] a X.env = pure none := by rfl)
    (h1 : (assignEach [tg] X.env).map (·.2) = [assign tg X.env] := by rfl) : SS X st (.Assign [tg] a pos) (mAsgT tgt m) := by
  refine ⟨(ps_asg ha.run hp hs hw h1).imp fun D σ H ⟨g, s, o, g', s', G, O, e, z, q⟩ => ?_⟩
  unfold mAsgT at e
  split at e
  · rename_i t s1 em
    split at e
    · rename_i g1 eb
      cases e
      refine ⟨g, s, _, _, G, O, em, z, fun v H1 G1 F p => ?_⟩
      obtain ⟨G2, f, le, p2⟩ := p.freeze
      have z2 := z.grow p2.gr p2.strm
      exact bind_ok tgt z2 f eb fun σ' O' m' z' _ => q σ' H1 G2 O' (p2.gr.mv.trans ⟨.refl _, fun _ _ _ _ h => h, fun _ h n => absurd h n, fun a ha => .inl (m' a ha), fun _ h => h⟩) z'
    · cases e
  · cases e
/-- a slot frozen behind a statement -/
def mPost (i : Nat) (n : MSt) : MSt := fun g s => match n g s with
  | some (.nx, g1, s1) => match g1[i]? with
    | some (some (.t t)) => some (.nx, setS g1 i (.fz t.d), s1)
    | _ => none
  | _ => none
theorem ss_post {i : Nat} {x : Stmt} {n : MSt} (h : SS X st x n) : SS X st x (mPost i n) := by
  refine ⟨h.run.imp fun D σ H ⟨g, s, o, g', s', G, O, e, z, q⟩ => ?_⟩
  unfold mPost at e
  split at e
  · rename_i g1 s1 e1
    split at e
    · rename_i t et
      cases e
      refine ⟨g, s, .nx, g1, _, G, O, e1, z, fun σ' H' G' O' mv z' => ?_⟩
      obtain ⟨G2, O2, z2, mv2⟩ := z'.freeze et
      exact q σ' H' G2 O2 (mv.trans mv2) z2
    · cases e
  · cases e
end
/-- a def that may not be entered -/
theorem cal_none {P : Program} {w : World} {K : PySem.W.Frag} {mg : Str → Option Value} {base : Heap} {x : Str} {st : Stmt} {f : Addr} {fd : FuncData} {ps : List Str} {k : Nat} (F : C8.Def K mg x st f fd) (b : Binds K fd ps []) : C8.Cal P w K mg base k x (spP K fun _ => none) [] := by
  refine ⟨f, fd, ps, [], ⟨fun vs H Q E h => ?_, fun A outer s H args us vs Q E hr he hb hv h => ?_⟩, F.mgf, F.kp, b, .nil⟩
  · obtain ⟨ds, r, G, e, _⟩ := h
    cases e
  · obtain ⟨ds, r, G, e, _⟩ := h
    cases e
end DV

namespace DV
open PySem PySem.Spec PyProof.Rows L2
/-- cells are taken while nothing rests -/
def pull : List Int → Int → Int → List Int × Int × Int
  | [], rest, mix => ([], rest, mix)
  | c :: l, rest, mix => if rest = 0 then pull l (if 10 ^ 18 ≤ c then c else 0) ((mix * 72103 + c + 43) % 2147483647) else (c :: l, rest, mix)
/-- the stream is right -/
def stmOk (s : S) : Bool := decide (s.left.length ≤ 63) && decide (0 ≤ s.rest) && decide (0 ≤ s.cnt) && decide (s.cnt < 2 ^ 40) && decide (0 ≤ s.mix) && decide (s.mix < 2147483647)
/-- one draw below many -/
def draw (many : Int) (s : S) : Int × S :=
  let p := pull s.left s.rest s.mix
  if 0 < p.2.1 then (p.2.1 % many, ⟨p.1, p.2.1 / many, s.cnt + 1, p.2.2⟩)
  else (((((p.2.2 + 9161 * (s.cnt + 1) + 190027) ^ 5 % 2147483629) * 63029 + 74017 * (s.cnt + 1) + 61) ^ 3 % 1000000007) % many, ⟨p.1, p.2.1, s.cnt + 1, p.2.2⟩)
def drawF : List DV.Arg → S → Option (T × S)
  | [.s, .d (.int many)], s => if stmOk s && decide (0 < many) && decide (many < 1073741824) then some (.fz (.int (draw many s).1), (draw many s).2) else none
  | _, _ => none
theorem drawF_eq {many : Int} {s : S} (h : stmOk s = true) (h1 : 0 < many) (h2 : many < 1073741824) : drawF [.s, .d (.int many)] s = some (.fz (.int (draw many s).1), (draw many s).2) := by
  show (if (stmOk s && decide (0 < many) && decide (many < 1073741824)) = true then some (T.fz (.int (draw many s).1), (draw many s).2) else none) = _
  rw [h, decide_eq_true h1, decide_eq_true h2]
  rfl
/-- mixed: one after another drawn out -/
def mixL : Nat → List D → List D → S → Option (List D × S)
  | 0, _, acc, s => some (acc, s)
  | k + 1, left, acc, s => if stmOk s && decide (0 < left.length) && decide (left.length < 1073741824) then
      match left[(draw left.length s).1.toNat]? with
      | some d => mixL k (left.eraseIdx (draw left.length s).1.toNat) (acc ++ [d]) (draw left.length s).2
      | none => none
    else none
def mixedF : List DV.Arg → S → Option (T × S)
  | [.s, .d (.list ds)], s => if ltLen ds.length then (mixL ds.length ds [] s).map fun p => (.lst (p.1.map T.fz), p.2) else none
  | _, _ => none
end DV

namespace DV
open PySem PySem.Spec PyProof.Rows L2
section
variable {K : PySem.W.Frag} {a b : Addr} {σ : Sg} {H H' H0 : Hp}
theorem rd_k {xs : List V} {i : Int} {v : V} {j : Nat} {Q : VK} (h : σ[j]? = some (some (.ref a))) (hH : H a = some (.lst xs)) (e : atI xs i = some v) (q : Q v H) : tOp (rIxL K) (tVar j) (tC (.int i)) σ H Q :=
  ⟨.ref a, h, a, xs, i, v, rfl, rfl, .inl (.inl hH), e, q⟩
theorem wr_k {xs : List V} {i : Int} {v : V} {j k : Nat} {Q : Sg → Hp → Prop} (h : σ[j]? = some (some (.ref a))) (hH : H a = some (.lst xs)) (e : ixN xs.length i = some k) (q : Q σ (upd H a (.lst (xs.set k v)))) : gSub (tVar j) (tC (.int i)) rSetL v σ H Q :=
  ⟨.ref a, h, a, xs, i, k, rfl, rfl, hH, e, q⟩
/-- the stream's cells -/
structure SH (H : Hp) (a b : Addr) (left : List Int) (rest cnt mix : Int) : Prop where
  ne : a ≠ b
  ha : H a = some (.lst [.ref b, .int rest, .int cnt, .int mix])
  hb : H b = some (.lst (left.map V.int))
/-- all else stays -/
structure Kp (a b : Addr) (H H' : Hp) : Prop where
  same : ∀ c o, c ≠ a → c ≠ b → H c = some o → H' c = some o
  back : ∀ c, H' c = none → H c = none
theorem Kp.refl : Kp a b H H := ⟨fun _ _ _ _ h => h, fun _ h => h⟩
theorem Kp.trans {H1 : Hp} (k : Kp a b H H1) (k2 : Kp a b H1 H') : Kp a b H H' := ⟨fun c o n1 n2 h => k2.same c o n1 n2 (k.same c o n1 n2 h), fun c h => k.back c (k2.back c h)⟩
theorem Kp.wa {o : HO} : Kp a b H (upd H a o) := ⟨fun c u n _ h => by rw [upd_ne n]; exact h, fun c h => by
  by_cases e : c = a
  · subst e; rw [upd_same] at h; cases h
  · rw [upd_ne e] at h; exact h⟩
theorem Kp.wb {o : HO} : Kp a b H (upd H b o) := ⟨fun c u _ n h => by rw [upd_ne n]; exact h, fun c h => by
  by_cases e : c = b
  · subst e; rw [upd_same] at h; cases h
  · rw [upd_ne e] at h; exact h⟩
theorem Kp.new {o : HO} {p : Addr} (n : H p = none) : Kp a b H (upd H p o) := ⟨fun c u _ _ h => by rw [upd_ne (ne_of_none h n)]; exact h, fun c h => by
  by_cases e : c = p
  · subst e; exact n
  · rw [upd_ne e] at h; exact h⟩
theorem SH.new {left : List Int} {rest cnt mix : Int} {o : HO} {p : Addr} (h : SH H a b left rest cnt mix) (n : H p = none) : SH (upd H p o) a b left rest cnt mix :=
  ⟨h.ne, by rw [upd_ne (ne_of_none h.ha n)]; exact h.ha, by rw [upd_ne (ne_of_none h.hb n)]; exact h.hb⟩
theorem SH.wa {left : List Int} {rest cnt mix rest' cnt' mix' : Int} (h : SH H a b left rest cnt mix) : SH (upd H a (.lst [.ref b, .int rest', .int cnt', .int mix'])) a b left rest' cnt' mix' :=
  ⟨h.ne, upd_same, by rw [upd_ne h.ne.symm]; exact h.hb⟩
theorem SH.wb {left left' : List Int} {rest cnt mix : Int} (h : SH H a b left rest cnt mix) : SH (upd H b (.lst (left'.map V.int))) a b left' rest cnt mix :=
  ⟨h.ne, by rw [upd_ne h.ne]; exact h.ha, upd_same⟩
theorem draw_post {s s' : S} {G : Hp} {d : Int} (sm : Strm (some (a, b)) s H) (su : Sub G H) (sg : ∀ c, inS (some (a, b)) c → G c = none) (k : Kp a b H H') (h : SH H' a b s'.left s'.rest s'.cnt s'.mix) (hl : s'.left.length ≤ 63) :
    PostE K (some (a, b)) H G (.t (.fz (.int d))) s' (.int d) H' G [] := by
  refine ⟨⟨.refl G, fun c o e => ?_, fun c o n e => ?_, fun c e n => absurd e n, sg, k.back⟩, .fz (.int d), .nil, fun c hc => by simp at hc, ⟨h.ne, h.ha, h.hb, hl⟩⟩
  · have n : ¬ inS (some (a, b)) c := fun i => by rw [sg c i] at e; cases e
    exact U_le (fun o' x => k.same c o' (fun z => n (.inl z)) (fun z => n (.inr z)) x) (su c o e)
  · exact k.same c o (fun z => n (.inl z)) (fun z => n (.inr z)) e
end
def rIntC : List V → Hp → VK → Prop := fun xs H Q => (∃ i, xs = [V.int i] ∧ Q (V.int i) H) ∨ ∃ k, xs = [V.bl k] ∧ Q (V.int (if k = true then 1 else 0)) H
abbrev tRd (K : PySem.W.Frag) (j : Nat) (i : Int) : TE := tOp (rIxL K) (tVar j) (tC (.int i))
abbrev tAddI (a b : TE) : TE := tOp (rI0 fun i j => V.int (i + j)) a b
abbrev tMulI (a b : TE) : TE := tOp (rI CMul fun i j => V.int (i * j)) a b
abbrev tModI (a b : TE) : TE := tOp (rI (fun _ j => 0 < j) fun i j => V.int (i % j)) a b
abbrev tPowI (a b : TE) : TE := tOp (rI CPow fun i j => V.int (i ^ j.toNat)) a b
abbrev tN (i : Int) : TE := tC (V.int i)
abbrev tInt (a : TE) : TE := tCB rIntC (tCons a tNil)
abbrev tWr (i : Int) : TG := gSub (tVar 0) (tC (.int i)) rSetL
abbrev tDw1 (K : PySem.W.Frag) : TS := tAsg (tAddI (tRd K 0 2) (tN 1)) (tWr 2)
abbrev tDwT (K : PySem.W.Frag) : TT := tAnd (tTest (tOp rEq (tRd K 0 1) (tN 0))) (tTest (tOp (rD K dNe) (tRd K 0 0) (tLst tNil)))
abbrev tDwB (K : PySem.W.Frag) : TS := tSeq (tAsg (tBM K "list" rPopAt (tRd K 0 0) (tCons (tN 0) tNil)) (gName 2))
  (tSeq (tAsg (tModI (tInt (tAddI (tAddI (tMulI (tRd K 0 3) (tN 72103)) (tVar 2)) (tN 43))) (tN 2147483647)) (tWr 3))
    (tAsg (tIf (tTest (tOp (rI0 fun i j => V.bl (decide (j ≤ i))) (tVar 2) (tPowI (tN 10) (tN 18)))) (tVar 2) (tN 0)) (tWr 1)))
abbrev tDwR (K : PySem.W.Frag) : TS := tRet (tModI (tModI (tInt (tPowI (tAddI (tAddI (tMulI (tVar 4) (tN 63029)) (tMulI (tN 74017) (tRd K 0 2))) (tN 61)) (tN 3))) (tN 1000000007)) (tVar 1))
abbrev tDwE (K : PySem.W.Frag) : TS := tSeq (tIfS (tTest (tOp (rI0 fun i j => V.bl (decide (j < i))) (tRd K 0 1) (tN 0)))
    (tSeq (tAsg (tModI (tInt (tRd K 0 1)) (tVar 1)) (gName 3)) (tSeq (tAsg (tOp (rI CDiv fun i j => V.int (i / j)) (tRd K 0 1) (tVar 1)) (tWr 1)) (tRet (tVar 3)))) tNext)
  (tSeq (tAsg (tModI (tInt (tPowI (tAddI (tAddI (tRd K 0 3) (tMulI (tN 9161) (tRd K 0 2))) (tN 190027)) (tN 5))) (tN 2147483629)) (gName 4))
    (tDwR K))
abbrev tDraw (K : PySem.W.Frag) : TS := tSeq (tDw1 K) (tSeq (tWhile (tDwT K) (tDwB K)) (tDwE K))
theorem ints_fz {K : PySem.W.Frag} {G : Hp} : ∀ l : List Int, FzA K G (l.map V.int) (l.map PyData.int)
  | [] => .nil
  | i :: l => .cons (.int i) (ints_fz l)
theorem ints_lay : ∀ l : List Int, PyData.canLayAll0 (l.map PyData.int) = true ∧ PyData.depthAll (l.map PyData.int) = 0
  | [] => ⟨rfl, rfl⟩
  | i :: l => by
    obtain ⟨h1, h2⟩ := ints_lay l
    refine ⟨?_, ?_⟩
    · rw [List.map_cons, PyData.canLayAll0, h1]; rfl
    · rw [List.map_cons, PyData.depthAll, h2]; rfl
theorem ne_nil (l : List Int) : dNe (.list (l.map PyData.int)) (.list []) = some (!l.isEmpty) := by
  have s1 : SeqAt.shaped (.list (l.map PyData.int)) = true := by
    unfold SeqAt.shaped
    rw [PyData.canLay0, (ints_lay l).1, PyData.depth, (ints_lay l).2]; rfl
  have s2 : SeqAt.shaped (.list []) = true := rfl
  have e : dEq (.list (l.map PyData.int)) (.list []) = some (PyData.eqv (.list (l.map PyData.int)) (.list [])) := by
    show (if (scPair (.list (l.map PyData.int)) (.list []) || (SeqAt.shaped (.list (l.map PyData.int)) && SeqAt.shaped (.list []))) = true then some (PyData.eqv (.list (l.map PyData.int)) (.list [])) else none) = _
    rw [s1, s2, Bool.and_self, Bool.or_true, if_pos rfl]
  unfold dNe
  rw [e]
  cases l <;> simp [PyData.eqv, PyData.eqvAll]
section
variable {K : PySem.W.Frag} {a b : Addr} {σ : Sg} {H : Hp} {D : Ends}
theorem pos3 : (0 : Int) < 2147483647 := by decide
theorem pos1 : (0 : Int) < 2147483629 := by decide
theorem pos2 : (0 : Int) < 1000000007 := by decide
theorem draw_end {many : Int} {left : List Int} {rest cnt mix : Int} {x2 x3 x4 : Option V} (hh : SH H a b left rest cnt mix) (m0 : 0 < many) (m1 : many < 1073741824) (c0 : 0 ≤ cnt) (c1 : cnt ≤ 2 ^ 40) (p3 : 0 ≤ mix) (p4 : mix < 2147483647)
    (q1 : 0 < rest → ∀ H', Kp a b H H' → SH H' a b left (rest / many) cnt mix → D.rt (.int (rest % many)) H')
    (q2 : ¬ 0 < rest → D.rt (.int (((((mix + 9161 * cnt + 190027) ^ 5 % 2147483629) * 63029 + 74017 * cnt + 61) ^ 3 % 1000000007) % many)) H) :
    tDwE K D [some (.ref a), some (.int many), x2, x3, x4] H := by
  refine rd_k rfl hh.ha rfl ⟨rest, 0, rfl, rfl, _, rfl, ite2 (fun e0 => ?_) (fun e0 => ?_)⟩
  · have e0 : 0 < rest := of_decide_eq_true e0
    refine rd_k rfl hh.ha rfl (.inl ⟨rest, rfl, _, rfl, rest, many, rfl, rfl, m0, ?_⟩)
    refine rd_k rfl hh.ha rfl ⟨_, rfl, rest, many, rfl, rfl, ⟨m0, m1⟩, wr_k rfl hh.ha rfl ?_⟩
    exact ⟨_, rfl, q1 e0 _ .wa hh.wa⟩
  · have e0 : ¬ 0 < rest := fun h => e0 (decide_eq_true h)
    have b1 : (mix + 9161 * cnt + 190027).natAbs < 2 ^ 64 := by omega
    have c2 : CMul 9161 cnt := .inl (by decide)
    refine rd_k rfl hh.ha rfl (rd_k rfl hh.ha rfl ⟨9161, cnt, rfl, rfl, c2, mix, 9161 * cnt, rfl, rfl, _, 190027, rfl, rfl, _, 5, rfl, rfl, ⟨by decide, by decide, b1⟩, .inl ⟨_, rfl, _, 2147483629, rfl, rfl, pos1, ?_⟩⟩)
    have m5 : 0 ≤ (mix + 9161 * cnt + 190027) ^ (5 : Int).toNat % 2147483629 := Int.emod_nonneg _ (by decide)
    have m6 : (mix + 9161 * cnt + 190027) ^ (5 : Int).toNat % 2147483629 < 2147483629 := Int.emod_lt_of_pos _ (by decide)
    have q2 := q2 e0
    revert m5 m6 q2
    show 0 ≤ (mix + 9161 * cnt + 190027) ^ 5 % 2147483629 → (mix + 9161 * cnt + 190027) ^ 5 % 2147483629 < 2147483629 → D.rt (.int (((((mix + 9161 * cnt + 190027) ^ 5 % 2147483629) * 63029 + 74017 * cnt + 61) ^ 3 % 1000000007) % many)) H → tDwR K D [some (.ref a), some (.int many), x2, x3, some (.int ((mix + 9161 * cnt + 190027) ^ 5 % 2147483629))] H
    generalize (mix + 9161 * cnt + 190027) ^ 5 % 2147483629 = M
    intro m5 m6 q2
    have b2 : (M * 63029 + 74017 * cnt + 61).natAbs < 2 ^ 64 := by omega
    exact ⟨_, rfl, M, 63029, rfl, rfl, .inr (by decide), rd_k rfl hh.ha rfl ⟨74017, cnt, rfl, rfl, .inl (by decide), _, _, rfl, rfl, _, 61, rfl, rfl, _, 3, rfl, rfl, ⟨by decide, by decide, b2⟩, .inl ⟨_, rfl, _, 1000000007, rfl, rfl, pos2, _, rfl, _, many, rfl, rfl, m0, q2⟩⟩⟩
theorem pull_cons {c : Int} {l : List Int} {mix : Int} : pull (c :: l) 0 mix = pull l (if 10 ^ 18 ≤ c then c else 0) ((mix * 72103 + c + 43) % 2147483647) := by rw [pull, if_pos rfl]
theorem pull_done {l : List Int} {rest mix : Int} (h : l = [] ∨ rest ≠ 0) : pull l rest mix = (l, rest, mix) := by
  cases l with
  | nil => rw [pull]
  | cons c l =>
    rw [pull, if_neg]
    rcases h with h | h
    · cases h
    · exact h
theorem sm_mul {mix : Int} (h : 0 ≤ mix) (h2 : mix < 2147483647) : CMul mix 72103 := .inr (by decide)
theorem draw_loop {many : Int} {left0 : List Int} {rest0 cnt mix0 : Int} {x0 : Option V} (h0 : SH H a b left0 rest0 cnt mix0) (r0 : 0 ≤ rest0) (l0 : left0.length ≤ 63) (p3 : 0 ≤ mix0) (p4 : mix0 < 2147483647)
    (q : ∀ H' x, Kp a b H H' → SH H' a b (pull left0 rest0 mix0).1 (pull left0 rest0 mix0).2.1 cnt (pull left0 rest0 mix0).2.2 → (pull left0 rest0 mix0).1.length ≤ 63 → 0 ≤ (pull left0 rest0 mix0).2.2 → (pull left0 rest0 mix0).2.2 < 2147483647 → D.nx [some (.ref a), some (.int many), x, none, none] H') :
    tWhile (tDwT K) (tDwB K) D [some (.ref a), some (.int many), x0, none, none] H := by
  refine ⟨fun m σ H1 => ∃ left rest mix x2, σ = [some (.ref a), some (.int many), x2, none, none] ∧ Kp a b H H1 ∧ SH H1 a b left rest cnt mix ∧ pull left rest mix = pull left0 rest0 mix0 ∧ left.length ≤ 63 ∧ 0 ≤ rest ∧ 0 ≤ mix ∧ mix < 2147483647 ∧ m = left.length,
    ⟨_, left0, rest0, mix0, x0, rfl, .refl, h0, rfl, l0, r0, p3, p4, rfl⟩, ?_⟩
  rintro m σ H1 ⟨left, rest, mix, x2, rfl, kp, hh, hp, p1, p2, p3, p4, rfl⟩
  have fin : ∀ H2, Kp a b H H2 → SH H2 a b left rest cnt mix → (left = [] ∨ rest ≠ 0) → D.nx [some (.ref a), some (.int many), x2, none, none] H2 := fun H2 k h e => by
    have e2 := pull_done (mix := mix) e
    have e3 : pull left0 rest0 mix0 = (left, rest, mix) := by rw [← hp, e2]
    rw [e3] at q
    exact q H2 x2 k h p1 p3 p4
  refine rd_k rfl hh.ha rfl ⟨rfl, _, rfl, ite2 (fun e0 => ?_) (fun e0 => ?_)⟩
  · obtain rfl : rest = 0 := V.int.inj (of_decide_eq_true e0)
    refine rd_k rfl hh.ha rfl ⟨Nat.zero_le _, fun o no => ?_⟩
    have hn := hh.new (o := .lst []) no
    have kn := kp.trans (Kp.new (a := a) (b := b) (o := .lst []) no)
    refine ⟨.list (left.map PyData.int), .list [], _, .lst (U_of hn.hb fun _ _ z => by cases z) (ints_fz left), .lst (U_of upd_same fun _ _ z => by cases z) .nil, ne_nil left, _, rfl, ?_⟩
    cases left with
    | nil => exact iteF (fin _ kn hn (.inl rfl))
    | cons c left =>
      refine iteT ⟨fun σ' H' => ∃ left' rest' mix' x2', σ' = [some (.ref a), some (.int many), x2', none, none] ∧ Kp a b H H' ∧ SH H' a b left' rest' cnt mix' ∧ pull left' rest' mix' = pull left0 rest0 mix0 ∧ left'.length ≤ 63 ∧ 0 ≤ rest' ∧ 0 ≤ mix' ∧ mix' < 2147483647 ∧ left'.length = left.length,
        fun σ' H' ⟨l', r', m', x', e1, e2, e3, e4, e5, e6, e7, e8, e9⟩ => ⟨l'.length, by rw [e9]; exact Nat.lt_succ_self _, l', r', m', x', e1, e2, e3, e4, e5, e6, e7, e8, rfl⟩, ?_⟩
      refine rd_k rfl hn.ha rfl ⟨call_lst hn.hb, b, _, 0, 0, .int c, rfl, rfl, hn.hb, by decide, by decide, seqIndex_of (Int.le_refl _) (by rw [List.length_map, List.length_cons]; omega), rfl, ?_⟩
      have hb1 : SH (upd (upd H1 o (.lst [])) b (.lst (left.map V.int))) a b left 0 cnt mix := hn.wb
      have kb1 := kn.trans (Kp.wb (a := a) (b := b) (o := .lst (left.map V.int)))
      have hp2 : pull left (if 10 ^ 18 ≤ c then c else 0) ((mix * 72103 + c + 43) % 2147483647) = pull left0 rest0 mix0 := by rw [← pull_cons, hp]
      refine rd_k rfl hb1.ha rfl ⟨mix, 72103, rfl, rfl, sm_mul p3 p4, .int c, rfl, _, c, rfl, rfl, _, 43, rfl, rfl, .inl ⟨_, rfl, _, 2147483647, rfl, rfl, pos3, wr_k rfl hb1.ha rfl ?_⟩⟩
      have hc1 : SH (upd (upd (upd H1 o (.lst [])) b (.lst (left.map V.int))) a (.lst [.ref b, .int 0, .int cnt, .int ((mix * 72103 + c + 43) % 2147483647)])) a b left 0 cnt ((mix * 72103 + c + 43) % 2147483647) := hb1.wa
      have kc1 := kb1.trans (Kp.wa (a := a) (b := b) (o := .lst [.ref b, .int 0, .int cnt, .int ((mix * 72103 + c + 43) % 2147483647)]))
      have mm1 : 0 ≤ (mix * 72103 + c + 43) % 2147483647 := Int.emod_nonneg _ (by decide)
      have mm2 : (mix * 72103 + c + 43) % 2147483647 < 2147483647 := Int.emod_lt_of_pos _ (by decide)
      refine ⟨.int c, rfl, 10, 18, rfl, rfl, ⟨by decide, by decide, by decide⟩, c, 10 ^ (18 : Int).toNat, rfl, rfl, _, rfl, ite2 (fun e1 => ?_) (fun e1 => ?_)⟩
      · have e1 : (10 : Int) ^ 18 ≤ c := of_decide_eq_true e1
        rw [if_pos e1] at hp2
        refine ⟨.int c, rfl, wr_k rfl hc1.ha rfl ?_⟩
        exact ⟨left, c, _, some (.int c), rfl, kc1.trans .wa, hc1.wa, hp2, by have : (c :: left).length ≤ 63 := p1; rw [List.length_cons] at this; omega, Int.le_trans (by decide) e1, mm1, mm2, rfl⟩
      · have e1 : ¬ (10 : Int) ^ 18 ≤ c := fun h => e1 (decide_eq_true h)
        rw [if_neg e1] at hp2
        refine wr_k rfl hc1.ha rfl ?_
        exact ⟨left, 0, _, some (.int c), rfl, kc1.trans .wa, hc1.wa, hp2, by have : (c :: left).length ≤ 63 := p1; rw [List.length_cons] at this; omega, Int.le_refl _, mm1, mm2, rfl⟩
  · exact fin _ kp hh (.inr fun z => e0 (decide_eq_true (by rw [z])))
/-- the promise of _law_draw -/
theorem draw_reads {vs : List V} {Q : VK} {E : XK} (h : spS K drawF vs H Q E) : tDraw K { nx := fun _ H' => Q .non H', rt := Q } (start ["stream", "many", "cell", "digit", "mixed"] vs) H := by
  obtain ⟨st, as, s0, r, s', G, e, su, sg, sm, ao, q⟩ := h
  unfold drawF at e
  split at e
  · rename_i many
    split at e
    · rename_i ok
      cases e
      simp only [stmOk, Bool.and_eq_true, decide_eq_true_eq] at ok
      obtain ⟨⟨⟨⟨⟨⟨⟨o1, o2⟩, o3⟩, o4⟩, o5⟩, o6⟩, o7⟩, o8⟩ := ok
      cases ao with
      | @s a b vs _ est r1 =>
        cases r1 with
        | @d v _ vs _ fv r2 =>
          cases r2
          cases fv.int_inv
          subst est
          obtain ⟨h1, h2, h3, h4⟩ := id sm
          have sh : SH H a b s0.left s0.rest s0.cnt s0.mix := ⟨h1, h2, h3⟩
          refine rd_k rfl sh.ha rfl ⟨s0.cnt, 1, rfl, rfl, wr_k rfl sh.ha rfl ?_⟩
          have k1 : Kp a b H (upd H a (.lst [.ref b, .int s0.rest, .int (s0.cnt + 1), .int s0.mix])) := .wa
          have sh1 : SH (upd H a (.lst [.ref b, .int s0.rest, .int (s0.cnt + 1), .int s0.mix])) a b s0.left s0.rest (s0.cnt + 1) s0.mix := sh.wa
          refine draw_loop (x0 := none) sh1 o2 o1 o5 o6 fun H2 x k2 sh2 l2 m2 m3 => ?_
          refine draw_end sh2 o7 o8 (by omega) (by omega) m2 m3 (fun pr H3 k3 sh3 => ?_) (fun pr => ?_)
          · have ed : draw many s0 = ((pull s0.left s0.rest s0.mix).2.1 % many, ⟨(pull s0.left s0.rest s0.mix).1, (pull s0.left s0.rest s0.mix).2.1 / many, s0.cnt + 1, (pull s0.left s0.rest s0.mix).2.2⟩) := by
              unfold draw; simp only; rw [if_pos pr]
            rw [ed] at q
            exact q _ _ _ _ (draw_post sm su sg (k1.trans (k2.trans k3)) sh3 l2)
          · have ed : draw many s0 = (((((pull s0.left s0.rest s0.mix).2.2 + 9161 * (s0.cnt + 1) + 190027) ^ 5 % 2147483629 * 63029 + 74017 * (s0.cnt + 1) + 61) ^ 3 % 1000000007) % many, ⟨(pull s0.left s0.rest s0.mix).1, (pull s0.left s0.rest s0.mix).2.1, s0.cnt + 1, (pull s0.left s0.rest s0.mix).2.2⟩) := by
              unfold draw; simp only; rw [if_neg pr]
            rw [ed] at q
            exact q _ _ _ _ (draw_post sm su sg (k1.trans k2) sh2 l2)
    · cases e
  · cases e
theorem draw_len {vs : List V} {Q : VK} {E : XK} (h : spS K drawF vs H Q E) : vs.length = (["stream", "many"] : List Str).length := by
  obtain ⟨st, as, s0, r, s', G, e, su, sg, sm, ao, q⟩ := h
  rw [ao.len]
  unfold drawF at e
  split at e
  · rfl
  · cases e
end
end DV

namespace DV
open PySem PySem.Spec PyProof.Rows L2
abbrev rListOf (K : PySem.W.Frag) : List V → Hp → VK → Prop := fun xs H Q => ∃ p ys, xs = [.ref p] ∧ (SqL K H p ys ∨ SqT K H p ys) ∧ ∀ l, H l = none → Q (.ref l) (upd H l (.lst ys))
abbrev rLenSq (K : PySem.W.Frag) : List V → Hp → VK → Prop := fun xs H Q => ∃ p ys, xs = [.ref p] ∧ (SqL K H p ys ∨ SqT K H p ys) ∧ Q (.int ys.length) H
abbrev tLen (K : PySem.W.Frag) (i : Nat) : TE := tCB (rLenSq K) (tCons (tVar i) tNil)
abbrev tMixE (K : PySem.W.Frag) : TE := tBM K "list" rPopAt (tVar 2) (tCons (tCall (spS K drawF) [] C8.E0 (tCons (tVar 0) (tCons (tLen K 2) tNil))) tNil)
abbrev tMixed (K : PySem.W.Frag) : TS := tSeq (tAsg (tCB (rListOf K) (tCons (tVar 1) tNil)) (gName 2)) (tRet (tLc (iRng1 (tCons (tLen K 2) tNil)) (gName 3) tYes (tMixE K) [3]))
theorem yes_t {σ : Sg} {H : Hp} {A B : Hp → Prop} (h : A H) : tYes σ H (fun b H3 => if b = true then A H3 else B H3) := by
  show (if true = true then A H else B H)
  rw [if_pos rfl]
  exact h
theorem FzA.erase {K : PySem.W.Frag} {G : Hp} : ∀ {vs : List V} {ds : List D}, FzA K G vs ds → ∀ i : Nat, FzA K G (vs.eraseIdx i) (ds.eraseIdx i)
  | _, _, .nil, i => by simp; exact .nil
  | _, _, .cons h r, 0 => r
  | _, _, .cons h r, i + 1 => .cons h (FzA.erase r i)
theorem FzA.snoc {K : PySem.W.Frag} {G : Hp} : ∀ {vs : List V} {ds : List D} {v : V} {d : D}, FzA K G vs ds → Fz K G v d → FzA K G (vs ++ [v]) (ds ++ [d])
  | _, _, _, _, .nil, h => .cons h .nil
  | _, _, _, _, .cons h0 r, h => .cons h0 (FzA.snoc r h)
theorem draw_range {many : Int} {s : S} (h : 0 < many) : 0 ≤ (draw many s).1 ∧ (draw many s).1 < many := by
  unfold draw
  simp only
  split
  · exact ⟨Int.emod_nonneg _ (by omega), Int.emod_lt_of_pos _ h⟩
  · exact ⟨Int.emod_nonneg _ (by omega), Int.emod_lt_of_pos _ h⟩
theorem mixed_reads {K : PySem.W.Frag} {H : Hp} {vs : List V} {Q : VK} {E : XK} (h : spS K mixedF vs H Q E) : tMixed K { nx := fun _ H' => Q .non H', rt := Q } (start ["stream", "some", "left", "k"] vs) H := by
  obtain ⟨st, as, s0, r, s', G, e, su, sg, sm, ao, q⟩ := h
  unfold mixedF at e
  split at e
  · rename_i ds
    split at e
    · rename_i hz
      have hz := of_decide_eq_true hz
      obtain ⟨⟨res, sr⟩, em, e2⟩ := Option.map_eq_some_iff.mp e
      cases e2
      cases ao with
      | @s a b vs _ est r1 =>
        cases r1 with
        | @d v _ vs _ fv r2 =>
          cases r2
          subst est
          have at0 : At (some (a, b)) s0 H G := ⟨su, sg, sm⟩
          cases fv with
          | @lst p ys _ c ry =>
            refine ⟨.ref p, rfl, p, ys, rfl, .inl (.inl (.inl (U_lst (su _ _ c)))), fun l nl => ?_⟩
            have gr0 := at0.grow_upd (o := .lst ys) nl
            have nsl := at0.fresh_ns nl
            refine ⟨.ref l, rfl, l, ys, rfl, .inl (.inl (.inl upd_same)), (ys.length : Int), rfl, by omega, by rw [sizeLine_eq] at hz; rw [ry.len]; omega, fun D nD => ?_⟩
            have nDl : D ≠ l := fun z => by rw [z, upd_same] at nD; cases nD
            have at1 : At (some (a, b)) s0 (upd H l (.lst ys)) G := ⟨gr0.sub, gr0.sg, sm.of_ne nsl⟩
            have gr1 := gr0.trans (at1.grow_upd (o := .lst []) nD)
            have sm1 : Strm (some (a, b)) s0 (upd (upd H l (.lst ys)) D (.lst [])) := at1.strm.of_ne (at1.fresh_ns nD)
            have nD0 : H D = none := gr0.back D nD
            have nsD := at0.fresh_ns nD0
            have gl : G l = none := su.none nl
            have gD : G D = none := su.none nD0
            let W : Nat → Nat → Hp → Prop := fun i m H2 => m = ds.length - i ∧ i ≤ ds.length ∧ ∃ lD aD sI Gi vl va, FzA K Gi vl lD ∧ FzA K Gi va aD ∧ H2 l = some (.lst vl) ∧ H2 D = some (.lst va) ∧ Grow (some (a, b)) H G H2 Gi ∧ Strm (some (a, b)) sI H2 ∧ Gi l = none ∧ Gi D = none ∧
              lD.length = ds.length - i ∧ aD.length = i ∧ mixL (ds.length - i) lD aD sI = some (res, sr)
            have W0 : W 0 ds.length (upd (upd H l (.lst ys)) D (.lst [])) := ⟨rfl, Nat.zero_le _, ds, [], s0, G, ys, [], ry, .nil, by rw [upd_ne nDl.symm]; exact upd_same, upd_same, gr1, sm1, gl, gD, rfl, rfl, em⟩
            refine ⟨W, ⟨ds.length, W0⟩, ?_⟩
            rintro i m H2 ⟨rfl, hi, lD, aD, sI, Gi, vl, va, fl, fa, hl, hD, gr, smi, gil, giD, ll, la, ex⟩
            have hlen : ((ys.length : Int)).toNat = ds.length := by rw [ry.len]; omega
            by_cases hlt : i < ds.length
            · refine .inr ⟨by show i < ((ys.length : Int)).toNat; rw [hlen]; exact hlt, W (i + 1) (ds.length - (i + 1)), fun H' w => ⟨ds.length - (i + 1), by omega, w⟩, fun x H' y => ?_⟩
              obtain ⟨rfl, rfl⟩ := y
              refine ⟨rfl, yes_t ?_⟩
              obtain ⟨k, ek⟩ : ∃ k, ds.length - i = k + 1 := ⟨ds.length - i - 1, by omega⟩
              rw [ek] at ex
              unfold mixL at ex
              split at ex
              · rename_i ok
                split at ex
                · rename_i d0 ed
                  refine ⟨.ref l, rfl, call_lst hl, .ref a, rfl, .ref l, rfl, l, vl, rfl, .inl (.inl (.inl hl)), ?_⟩
                  have ati : At (some (a, b)) sI H' Gi := ⟨gr.sub, gr.sg, smi⟩
                  have hdr : drawF [.s, .d (.int (vl.length : Int))] sI = some (.fz (.int (draw lD.length sI).1), (draw lD.length sI).2) := by
                    simp only [Bool.and_eq_true, decide_eq_true_eq] at ok
                    obtain ⟨⟨o1, o2⟩, o3⟩ := ok
                    rw [fl.len]
                    exact drawF_eq o1 (by omega) (by omega)
                  have lpos : (0 : Int) < lD.length := by omega
                  obtain ⟨d1, d2⟩ := draw_range (s := sI) lpos
                  refine ⟨some (a, b), _, sI, _, _, Gi, hdr, gr.sub, gr.sg, smi, .s rfl (.d (.int _) .nil), fun v H3 G3 F p3 => ?_⟩
                  have hv : v = .int (draw lD.length sI).1 := by
                    have o : Ow K (some (a, b)) G3 H3 v (.fz (.int (draw lD.length sI).1)) F := p3.ok
                    cases o with
                    | fz f => exact f.int_inv
                  subst hv
                  have hl3 := p3.gr.same l _ nsl hl
                  have hD3 := p3.gr.same D _ nsD hD
                  have fl3 := fl.mono p3.gr.le
                  have fa3 := fa.mono p3.gr.le
                  have gl3 := p3.gr.none_of hl gil
                  have gD3 := p3.gr.none_of hD giD
                  have dn : (draw lD.length sI).1.toNat < lD.length := by omega
                  obtain ⟨y0, ey, fy⟩ := fl3.get ed
                  refine ⟨l, vl, _, (draw lD.length sI).1.toNat, y0, rfl, rfl, hl3, by omega, ?_, ?_, ey, ?_⟩
                  · have : (lD.length : Int) ≤ 16777216 := by
                      have := hz
                      rw [sizeLine_eq] at this
                      omega
                    omega
                  · exact seqIndex_of d1 (by rw [fl.len]; omega)
                  · have gr3 := (gr.trans p3.gr).own nl (o := .lst (vl.eraseIdx (draw lD.length sI).1.toNat)) hl3 gl3
                    have sm3 : Strm (some (a, b)) (draw lD.length sI).2 (upd H3 l (.lst (vl.eraseIdx (draw lD.length sI).1.toNat))) := p3.strm.of_ne nsl
                    have hD4 : upd H3 l (.lst (vl.eraseIdx (draw lD.length sI).1.toNat)) D = some (.lst va) := by rw [upd_ne nDl]; exact hD3
                    refine ⟨va, hD4, ?_, ?_⟩
                    · have : va.length = i := by rw [fa.len, la]
                      omega
                    · refine ⟨rfl, hlt, lD.eraseIdx (draw lD.length sI).1.toNat, aD ++ [d0], _, G3, _, _, fl3.erase _, fa3.snoc fy, ?_, upd_same, gr3.own nD0 hD4 gD3, sm3.of_ne nsD, gl3, gD3, ?_, ?_, ?_⟩
                      · rw [upd_ne nDl.symm]; exact upd_same
                      · rw [List.length_eraseIdx, if_pos dn]; omega
                      · rw [List.length_append, la]; rfl
                      · have : ds.length - (i + 1) = k := by omega
                        rw [this]; exact ex
                · cases ex
              · cases ex
            · have e0 : i = ds.length := by omega
              subst e0
              rw [Nat.sub_self] at ex
              unfold mixL at ex
              cases ex
              refine .inl ⟨by show ((ys.length : Int)).toNat ≤ ds.length; omega, q _ H2 Gi [D] ⟨gr, .lst nsD hD fa.toOw, by simp, fun c hc => ?_, smi⟩⟩
              rw [List.mem_singleton] at hc
              subst hc
              exact ⟨nD0, giD⟩
    · cases e
  · cases e
theorem mixed_len {K : PySem.W.Frag} {H : Hp} {vs : List V} {Q : VK} {E : XK} (h : spS K mixedF vs H Q E) : vs.length = (["stream", "some"] : List Str).length := by
  obtain ⟨st, as, s0, r, s', G, e, su, sg, sm, ao, q⟩ := h
  rw [ao.len]
  unfold mixedF at e
  split at e
  · rfl
  · cases e
end DV

namespace DV
open PySem PySem.Spec PyProof.Rows L2
def spStart (K : PySem.W.Frag) : Sp := fun vs H Q _ => ∃ (c : Addr) (ns : List Int), vs = [.ref c] ∧ SqL K H c (ns.map V.int) ∧ ∀ (H' : Hp) (p b : Addr), (∀ x o, H x = some o → H' x = some o) → (∀ x, H' x = none → H x = none) → H p = none → H b = none → p ≠ b →
  H' p = some (.lst [.ref b, .int 0, .int 0, .int 89]) → H' b = some (.lst (ns.map V.int)) → Q (.ref p) H'
abbrev tStart (K : PySem.W.Frag) : TS := tRet (tLst (tCons (tCB (rListOf K) (tCons (tVar 0) tNil)) (tCons (tN 0) (tCons (tN 0) (tCons (tN 89) tNil)))))
theorem start_reads {K : PySem.W.Frag} {H : Hp} {vs : List V} {Q : VK} {E : XK} (h : spStart K vs H Q E) : tStart K { nx := fun _ H' => Q .non H', rt := Q } (L2.start ["script"] vs) H := by
  obtain ⟨c, ns, rfl, hs, q⟩ := h
  refine ⟨.ref c, rfl, c, _, rfl, .inl hs, fun b nb => ⟨by show 4 ≤ sizeLine; decide, fun p np => ?_⟩⟩
  have hb : H p = none := by
    cases e : H p with
    | none => rfl
    | some o => rw [upd_ne (ne_of_none e nb), e] at np; cases np
  have ne : p ≠ b := fun z => by rw [z, upd_same] at np; cases np
  refine q _ p b (fun x o e => ?_) (fun x e => ?_) hb nb ne upd_same (by rw [upd_ne ne.symm]; exact upd_same)
  · rw [upd_ne (ne_of_none e hb), upd_ne (ne_of_none e nb)]; exact e
  · by_cases e1 : x = p
    · rw [e1]; exact hb
    · by_cases e2 : x = b
      · rw [e2]; exact nb
      · rw [upd_ne e1, upd_ne e2] at e; exact e
theorem start_len {K : PySem.W.Frag} {H : Hp} {vs : List V} {Q : VK} {E : XK} (h : spStart K vs H Q E) : vs.length = (["script"] : List Str).length := by
  obtain ⟨c, ns, rfl, hs, q⟩ := h; rfl
def spLaw (K : PySem.W.Frag) : Sp := fun vs H Q _ => ∃ (a : Addr) (ns : List Int), vs = [.ref a] ∧ SqL K H a (ns.map V.int) ∧ ns.length ≤ 63 ∧ ∀ H', Q (.bl true) H'
abbrev tLawB (K : PySem.W.Frag) (m : MSt) : TS := tSeq (tAsg (tCall (spStart K) [] C8.E0 (tCons (tVar 0) tNil)) (gName 1)) (fun D σ H => ∃ st, tS K st m D σ H)
theorem any_st {X : Cx} {b : List Stmt} {m : MSt} (h : ∀ st, SB X st b m) : PSs X b (fun D σ H => ∃ st, tS X.K st m D σ H) := ⟨fun pins s σ H D I ⟨st, q⟩ => (h st).run.run pins s σ H D I q⟩
theorem law_len {K : PySem.W.Frag} {H : Hp} {vs : List V} {Q : VK} {E : XK} (h : spLaw K vs H Q E) : vs.length = (["script"] : List Str).length := by
  obtain ⟨c, ns, rfl, hs, q⟩ := h; rfl
theorem law_reads {K : PySem.W.Frag} {N : List Str} {m : MSt} {n : Nat} {H : Hp} {vs : List V} {Q : VK} {E : XK} (hn : N.length = n + 2) (hm : ∀ ns : List Int, ns.length ≤ 63 → ∃ g' s', m (none :: some .s :: List.replicate n none) ⟨ns, 0, 0, 89⟩ = some (.rt (.fz (.bool true)), g', s')) (h : spLaw K vs H Q E) :
    tLawB K m { nx := fun _ H' => Q .non H', rt := Q } (L2.start N vs) H := by
  obtain ⟨c, ns, rfl, hs, hl, q⟩ := h
  have es : L2.start N [.ref c] = some (.ref c) :: none :: List.replicate n none := by
    unfold L2.start
    rw [hn]; rfl
  rw [es]
  refine ⟨.ref c, rfl, c, ns, rfl, hs, fun H' p b kp bk np nb ne hp hb => ?_⟩
  obtain ⟨g', s', em⟩ := hm ns hl
  refine ⟨some (p, b), _, ⟨ns, 0, 0, 89⟩, _, g', s', fun _ => none, [], em, ⟨fun a o e => (by cases e), .non (.s rfl (RA.blank n)), .nil, fun a ha => (by simp at ha), fun a _ => rfl, ⟨ne, hp, hb, hl⟩⟩, fun v H2 G2 F mv at2 ow nd ap => ?_⟩
  have : v = .bl true := by
    cases ow with
    | fz f => exact f.bl_inv
  subst this
  exact q H2
/-- a def of the text behind its top -/
theorem def_mk {K : PySem.W.Frag} {mg : Str → Option Value} {h : Heap} {x : Str} {st : Stmt} {f : Addr} {oc : Value} {od an : Option Addr} {osl : Array (Option Value)} {kV doc pm cdv ct : Value} {ps : List Str} (X : K.In h) (G : h.Ns mainGlobals mg)
    (a : PySem.W.nsIn K mainGlobals x = some (some (.ref f))) (l : K.lookup f = some ⟨oc, od, .func (PySem.W.fnOf x x (C8.fnArgs st) (C8.fnBody st) (C8.fnScope st) .none kV doc pm an cdv ct), osl⟩) (c : PySem.W.codeIn K cdv x = true) (k : PySem.W.keepIn K (.ref f) = true)
    (hb : ∀ (kV doc pm : Value) (an : Option Addr) (cdv ct : Value) (us : List Value), us.length = ps.length → bindArgs (PySem.W.fnOf x x (C8.fnArgs st) (C8.fnBody st) (C8.fnScope st) .none kV doc pm an cdv ct) ⟨us, []⟩ = pure (ps.zip us)) : ∃ f fd, C8.Def K mg x st f fd ∧ Binds K fd ps [] := by
  have F : C8.Fun K x x st f (PySem.W.fnOf x x (C8.fnArgs st) (C8.fnBody st) (C8.fnScope st) .none kV doc pm an cdv ct) := ⟨⟨oc, od, .none, kV, doc, pm, an, cdv, ct, osl, rfl, l, c⟩⟩
  exact ⟨f, _, ⟨F, PySem.W.mg_of X G a, k⟩, F.binds rfl hb⟩
/-- the law's own def -/
theorem defL_mk {K : PySem.W.Frag} {mg : Str → Option Value} {h : Heap} {st : Stmt} {f : Addr} {oc : Value} {od an : Option Addr} {osl : Array (Option Value)} {kV doc pm cdv ct : Value} (X : K.In h) (G : h.Ns mainGlobals mg)
    (a : PySem.W.nsIn K mainGlobals "law" = some (some (.ref f))) (l : K.lookup f = some ⟨oc, od, .func (PySem.W.fnOf "law" "law" (C8.fnArgs st) (C8.fnBody st) (C8.fnScope st) .none kV doc pm an cdv ct), osl⟩) (c : PySem.W.codeIn K cdv "law" = true) (k : PySem.W.keepIn K (.ref f) = true)
    (hb : ∀ (kV doc pm : Value) (an : Option Addr) (cdv ct : Value) (v : Value), bindArgs (PySem.W.fnOf "law" "law" (C8.fnArgs st) (C8.fnBody st) (C8.fnScope st) .none kV doc pm an cdv ct) ⟨[v], []⟩ = pure [(("script" : Str), v)]) : ∃ f fd, C8.Def K mg "law" st f fd ∧ ∀ (s : Shared) (v : Value), BindsTo s fd ⟨[v], []⟩ [("script", v)] :=
  ⟨f, _, ⟨⟨⟨oc, od, .none, kV, doc, pm, an, cdv, ct, osl, rfl, l, c⟩⟩, PySem.W.mg_of X G a, k⟩, fun s v => .of_eq (hb _ _ _ _ _ _ v)⟩
/-- the law's def as walk_of wants it -/
theorem law_mk {P : Program} {w : World} {K : PySem.W.Frag} {mg : Str → Option Value} {st : Stmt} {fa : Addr} {k : Nat} {sp : Sp} {f : Addr} {fd : FuncData} (hfa : mg "law" = some (.ref fa)) (df : C8.Def K mg "law" st f fd) (bi : ∀ (s : Shared) (v : Value), BindsTo s fd ⟨[v], []⟩ [("script", v)])
    (F : ∀ base : Heap, FnOk P w K mg base C8.CX0 k f fd ["script"] sp) :
    ∃ fd : FuncData, (∀ (s : Shared) (v : Value), BindsTo s fd ⟨[v], []⟩ [("script", v)]) ∧ ∀ base : Heap, K.In base → base.Ns mainGlobals mg → FnOk P w K mg base C8.CX0 k fa fd ["script"] sp := by
  have e := hfa.symm.trans df.mgf
  cases e
  exact ⟨fd, bi, fun base _ _ => F base⟩
end DV

namespace DV
open PySem PySem.Spec PyProof.Rows L2
theorem lcL_map {tg : Tg} {mt me : ME} {g : Gm} {s : S} (p : D → Bool) (f : D → T) : ∀ {ds : List D}, (∀ d ∈ ds, ∃ g1, bind tg d g = some g1 ∧ mt g1 s = some (.t (.fz (.bool (p d))), s) ∧ (p d = true → me g1 s = some (.t (f d), s))) →
    lcL tg mt me g ds s = some ((ds.filter p).map f, s)
  | [], _ => rfl
  | d :: ds, h => by
    obtain ⟨g1, h1, h2, h3⟩ := h d List.mem_cons_self
    have ih := lcL_map p f fun e he => h e (List.mem_cons_of_mem _ he)
    rw [lcL, h1]
    simp only
    cases e : p d with
    | true =>
      rw [e] at h2
      rw [h2]
      simp only
      rw [h3 e]
      simp only
      rw [ih, List.filter_cons_of_pos e, List.map_cons]
    | false =>
      rw [e] at h2
      rw [h2]
      simp only
      rw [ih, List.filter_cons_of_neg (by simp [e])]
theorem lcL_all {tg : Tg} {me : ME} {g : Gm} {s : S} (f : D → T) {ds : List D} (h : ∀ d ∈ ds, ∃ g1, bind tg d g = some g1 ∧ me g1 s = some (.t (f d), s)) : lcL tg mYes me g ds s = some (ds.map f, s) := by
  have := lcL_map (tg := tg) (mt := mYes) (me := me) (g := g) (s := s) (fun _ => true) f (ds := ds) fun d hd => by
    obtain ⟨g1, h1, h2⟩ := h d hd
    exact ⟨g1, h1, rfl, fun _ => h2⟩
  rw [this, List.filter_eq_self.mpr fun _ _ => rfl]
/-- with the stream: by a word of the stream and of what came -/
theorem lcL_st {tg : Tg} {me : ME} {g : Gm} {R : D → T → Prop} {I : Nat → S → Prop} : ∀ {ds : List D} {n : Nat} {s : S}, (∀ d ∈ ds, ∀ n s, I (n + 1) s → ∃ g1 t s', bind tg d g = some g1 ∧ me g1 s = some (.t t, s') ∧ I n s' ∧ R d t) → I (n + ds.length) s →
    ∃ ts s', lcL tg mYes me g ds s = some (ts, s') ∧ I n s' ∧ Paired R ds ts
  | [], n, s, _, i => ⟨[], s, rfl, i, .nil⟩
  | d :: ds, n, s, h, i => by
    obtain ⟨g1, t, s1, h1, h2, i1, r⟩ := h d List.mem_cons_self (n + ds.length) s (by rw [List.length_cons] at i; exact i)
    obtain ⟨ts, s2, e, i2, rs⟩ := lcL_st (fun e he => h e (List.mem_cons_of_mem _ he)) i1
    refine ⟨t :: ts, s2, ?_, i2, .cons r rs⟩
    rw [lcL, h1]
    simp only [mYes]
    rw [h2]
    simp only
    rw [e]
theorem tPut_new : ∀ {l : List (D × T)} {k : D} {v : T}, (∀ p ∈ l, PyData.eqv p.1 k = false) → tPut l k v = some (l ++ [(k, v)])
  | [], _, _, _ => rfl
  | (k', v') :: l, k, v, h => by
    have h0 : PyData.eqv k' k = false := h _ List.mem_cons_self
    rw [tPut, if_neg (by rw [h0]; exact Bool.false_ne_true), tPut_new fun p hp => h p (List.mem_cons_of_mem _ hp)]
    rfl
theorem putsT_new : ∀ {ts : List T} {ps l : List (D × T)}, Paired (fun t p => pairT t = some p) ts ps → ((l ++ ps).map (·.1)).Pairwise (fun a b => PyData.eqv a b = false) → putsT ts l = some (l ++ ps)
  | [], _, l, .nil, _ => by rw [putsT, List.append_nil]
  | t :: ts, _, l, .cons (b := p) h r, hp => by
    obtain ⟨k, v⟩ := p
    rw [putsT, h]
    simp only
    have e : tPut l k v = some (l ++ [(k, v)]) := tPut_new fun q hq => by
      rw [List.map_append, List.pairwise_append] at hp
      exact hp.2.2 q.1 (List.mem_map_of_mem hq) k (by simp)
    rw [e]
    simp only
    have := putsT_new (l := l ++ [(k, v)]) r (by rw [List.append_assoc]; exact hp)
    rw [this, List.append_assoc]; rfl
theorem eqv_str (a b : Str) : PyData.eqv (.str a) (.str b) = decide (a = b) := by
  simp [PyData.eqv, Bool.beq_eq_decide_eq]
theorem seq_nx {m1 m2 : MSt} {g g1 : Gm} {s s1 : S} {r : Option (Out × Gm × S)} (h : m1 g s = some (.nx, g1, s1)) (h2 : m2 g1 s1 = r) : mSeq m1 m2 g s = r := by
  unfold mSeq; rw [h]; exact h2
theorem seq_rt {m1 m2 : MSt} {g g1 : Gm} {s s1 : S} {t : T} (h : m1 g s = some (.rt t, g1, s1)) : mSeq m1 m2 g s = some (.rt t, g1, s1) := by
  unfold mSeq; rw [h]
theorem if_t {mc : ME} {m1 m2 : MSt} {g : Gm} {s s1 : S} {r : Option (Out × Gm × S)} (h : mc g s = some (.t (.fz (.bool true)), s1)) (h2 : m1 g s1 = r) : mIfS mc m1 m2 g s = r := by
  unfold mIfS; rw [h]; exact h2
theorem if_f {mc : ME} {m1 m2 : MSt} {g : Gm} {s s1 : S} {r : Option (Out × Gm × S)} (h : mc g s = some (.t (.fz (.bool false)), s1)) (h2 : m2 g s1 = r) : mIfS mc m1 m2 g s = r := by
  unfold mIfS; rw [h]; exact h2
theorem set_t {i : Nat} {m : ME} {g : Gm} {s s1 : S} {t : T} (h : m g s = some (.t t, s1)) : mSet i m g s = some (.nx, setS g i t, s1) := by
  unfold mSet; rw [h]
theorem rt_t {m : ME} {g : Gm} {s s1 : S} {t : T} (h : m g s = some (.t t, s1)) : mRt m g s = some (.rt t, g, s1) := by
  unfold mRt; rw [h]
theorem fz_t {m : ME} {g : Gm} {s s1 : S} {t : T} {d : D} (h : m g s = some (.t t, s1)) (e : t.d = d) : mFz m g s = some (.t (.fz d), s1) := by
  unfold mFz; rw [h]; subst e; rfl
theorem hz_t {m : ME} {g : Gm} {s s1 : S} {t : T} {d : D} (h : m g s = some (.t t, s1)) (e : t.d = d) : mHz m g s = some (.t (.fz d), s1) := by
  unfold mHz; rw [h]; subst e; rfl
theorem post_t {i : Nat} {n : MSt} {g g1 : Gm} {s s1 : S} {t : T} {d : D} (h : n g s = some (.nx, g1, s1)) (h2 : g1[i]? = some (some (.t t))) (e : t.d = d) : mPost i n g s = some (.nx, setS g1 i (.fz d), s1) := by
  unfold mPost; rw [h]; simp only; rw [h2]; subst e; rfl
theorem asgT_t {tg : Tg} {m : ME} {g g1 : Gm} {s s1 : S} {t : T} {d : D} (h : m g s = some (.t t, s1)) (e : t.d = d) (b : bind tg d g = some g1) : mAsgT tg m g s = some (.nx, g1, s1) := by
  unfold mAsgT; rw [h]; simp only; rw [e, b]
theorem lc_eq {vs : List Nat} {tg : Tg} {mi : MI} {mt me : ME} {g : Gm} {s s1 s2 : S} {ds : List D} {ts : List T} (h : mi g s = some (ds, s1)) (hl : ltLen ds.length = true) (h2 : lcL tg mt me (wipeG g vs) ds s1 = some (ts, s2)) : mLc vs tg mi mt me g s = some (.t (.lst ts), s2) := by
  unfold mLc; rw [h]; simp only; rw [if_pos hl, h2]
theorem runP_eq {n np : Nat} {m : MSt} {ds : List D} {g : Gm} {s : S} {t : T} (hl : ds.length = np) (h : m (gSt n (ds.map DV.Arg.d)) S0 = some (.rt t, g, s)) : runP n np m ds = some t := by
  unfold runP runS
  rw [if_pos (by rw [List.length_map]; exact hl), h]; rfl
theorem ltLen_of {n : Nat} (h : n ≤ 1000000) : ltLen n = true := decide_eq_true (by rw [sizeLine_eq]; omega)
theorem lenOk_of {n : Nat} (h : n ≤ 1000000) : lenOk n = true := decide_eq_true (by rw [sizeLine_eq]; omega)
theorem fz_list (l : List D) : (T.lst (l.map T.fz)).d = .list l := by
  rw [T.d_lst, List.map_map]
  exact congrArg PyData.list ((List.map_congr_left fun d _ => T.d_fz d).trans (List.map_id l))
theorem fz_list' {α : Type} (f : α → D) (l : List α) : (T.lst (l.map fun a => T.fz (f a))).d = .list (l.map f) := by
  rw [T.d_lst, List.map_map]
  exact congrArg PyData.list (List.map_congr_left fun d _ => T.d_fz _)
theorem m2_eq {ma mb : ME} {k : Rv → Rv → Option Rv} {g : Gm} {s s1 s2 : S} {x y r : Rv} (h1 : ma g s = some (x, s1)) (h2 : mb g s1 = some (y, s2)) (e : k x y = some r) : m2 ma mb k g s = some (r, s2) := by
  unfold m2; rw [h1]; simp only; rw [h2]; simp only; rw [e]
theorem hz_fz {m : ME} {g : Gm} {s s1 : S} {d : D} (h : m g s = some (.t (.fz d), s1)) : mHz m g s = some (.t (.fz d), s1) := hz_t h (T.d_fz d)
theorem ix_fz {ma mb : ME} {g : Gm} {s s1 s2 : S} {dx dy d : D} (h1 : ma g s = some (.t (.fz dx), s1)) (h2 : mb g s1 = some (.t (.fz dy), s2)) (e : dIdx dx dy = some d) : mIdx ma mb g s = some (.t (.fz d), s2) :=
  m2_eq (hz_fz h1) h2 (by
    show (dIdx dx (Rv.d (.t (.fz dy)))).map _ = _
    rw [show Rv.d (.t (.fz dy)) = dy from T.d_fz dy, e]; rfl)
theorem it_fz {m : ME} {g : Gm} {s s1 : S} {t : T} {ds : List D} (h : m g s = some (.t t, s1)) (e : dItems t.d = some ds) : mIt m g s = some (ds, s1) := by
  unfold mIt; rw [h]; simp only; rw [e]; rfl
theorem b_eq {f : List D → Option D} {ms : MA} {g : Gm} {s s1 : S} {rs : List Rv} {d : D} (h : ms g s = some (rs, s1)) (e : f (rdl rs) = some d) (sc : D.sc d = true) : mB f ms g s = some (.t (.fz d), s1) := by
  unfold mB; rw [h]; simp only; rw [e]; simp only; rw [if_pos sc]
theorem cons_eq {m : ME} {ms : MA} {g : Gm} {s s1 s2 : S} {r : Rv} {rs : List Rv} (h : m g s = some (r, s1)) (h2 : ms g s1 = some (rs, s2)) : mCons m ms g s = some (r :: rs, s2) := by
  unfold mCons; rw [h]; simp only; rw [h2]
theorem star_eq {m : ME} {ms : MA} {g : Gm} {s s1 s2 : S} {r : Rv} {rs : List Rv} {ds : List D} (h : mHz m g s = some (r, s1)) (e : seqOf r = some ds) (h2 : ms g s1 = some (rs, s2)) : mStar m ms g s = some (ds.map (fun d => .t (.fz d)) ++ rs, s2) := by
  unfold mStar; rw [h]; simp only; rw [e]; simp only; rw [h2]
theorem call_eq {rf : List D → Option T} {ms : MA} {g : Gm} {s s1 : S} {rs : List Rv} {ds : List D} {t : T} (h : ms g s = some (rs, s1)) (e : dats rs = some ds) (h2 : rf ds = some t) : mCall rf ms g s = some (.t t, s1) := by
  unfold mCall; rw [h]; simp only; rw [e]; simp only; rw [h2]; rfl
theorem trs_t (ts : List T) : trs (ts.map Rv.t) = some ts := by
  induction ts with
  | nil => rfl
  | cons t l ih => rw [List.map_cons, trs, ih]; rfl
theorem lst_eq {ms : MA} {g : Gm} {s s1 : S} {rs : List Rv} {ts : List T} (h : ms g s = some (rs, s1)) (e : trs rs = some ts) (hl : lenOk ts.length = true) : mLst ms g s = some (.t (.lst ts), s1) := by
  unfold mLst; rw [h]; simp only; rw [e]; simp only; rw [if_pos hl]
theorem tup_is {ms : MA} {g : Gm} {s s1 : S} {rs : List Rv} {ts : List T} (h : ms g s = some (rs, s1)) (e : trs rs = some ts) (hl : lenOk ts.length = true) : mTup ms g s = some (.t (.tup ts), s1) := by
  unfold mTup; rw [h]; simp only; rw [e]; simp only; rw [if_pos hl]
theorem trs_fz (ds : List D) : trs (ds.map (fun d => Rv.t (.fz d)) ++ []) = some (ds.map T.fz) := by
  induction ds with
  | nil => rfl
  | cons d l ih => rw [List.map_cons, List.cons_append, trs, ih]; rfl
theorem trs_cons {t : T} {rs : List Rv} {ts : List T} (h : trs rs = some ts) : trs (.t t :: rs) = some (t :: ts) := by rw [trs, h]; rfl
theorem maxL_eq {ns : List Int} (h : ns ≠ []) : bMaxL [.list (ns.map PyData.int)] = some (.int (maxL ns)) := by
  have e : intsOf (ns.map PyData.int) = some ns := by
    clear h
    induction ns with
    | nil => rfl
    | cons n l ih => rw [List.map_cons, intsOf, ih]; rfl
  cases ns with
  | nil => exact absurd rfl h
  | cons n l => simp only [bMaxL, e]
theorem minL_eq {ns : List Int} (h : ns ≠ []) : bMinL [.list (ns.map PyData.int)] = some (.int (minL ns)) := by
  have e : intsOf (ns.map PyData.int) = some ns := by
    clear h
    induction ns with
    | nil => rfl
    | cons n l ih => rw [List.map_cons, intsOf, ih]; rfl
  cases ns with
  | nil => exact absurd rfl h
  | cons n l => simp only [bMinL, e]
theorem dcL_new {tg : Tg} {mk mv : ME} {g : Gm} {s : S} (k : D → D) (f : D → T) : ∀ {ds : List D} {acc : List (D × T)}, (∀ d ∈ ds, ∃ g1, bind tg d g = some g1 ∧ mk g1 s = some (.t (.fz (k d)), s) ∧ mv g1 s = some (.t (f d), s) ∧ (kOf (k d)).isSome = true) →
    ((acc ++ ds.map fun d => (k d, f d)).map (·.1)).Pairwise (fun a b => PyData.eqv a b = false) → dcL tg mYes mk mv g ds acc s = some (acc ++ ds.map fun d => (k d, f d), s)
  | [], acc, _, _ => by rw [dcL, List.map_nil, List.append_nil]
  | d :: ds, acc, h, hp => by
    obtain ⟨g1, h1, h2, h3, h4⟩ := h d List.mem_cons_self
    have e : tPut acc (k d) (f d) = some (acc ++ [(k d, f d)]) := tPut_new fun q hq => by
      rw [List.map_append, List.pairwise_append] at hp
      exact hp.2.2 q.1 (List.mem_map_of_mem hq) (k d) (by simp)
    have ih := dcL_new k f (ds := ds) (acc := acc ++ [(k d, f d)]) (fun e he => h e (List.mem_cons_of_mem _ he)) (by rw [List.append_assoc]; exact hp)
    rw [dcL, h1]
    simp only [mYes]
    rw [h2]
    simp only
    rw [h3]
    simp only
    have ed : Rv.d (.t (.fz (k d))) = k d := T.d_fz _
    rw [ed, if_pos h4, e]
    simp only
    rw [ih, List.append_assoc]
    rfl
theorem dc_eq {vs : List Nat} {tg : Tg} {mi : MI} {mt mk mv : ME} {g : Gm} {s s1 s2 : S} {ds : List D} {l : List (D × T)} (h : mi g s = some (ds, s1)) (hl : ltLen ds.length = true) (h2 : dcL tg mt mk mv (wipeG g vs) ds [] s1 = some (l, s2)) : mDc vs tg mi mt mk mv g s = some (.t (.dic false l), s2) := by
  unfold mDc; rw [h]; simp only; rw [if_pos hl, h2]
theorem str_apart {ks : List Str} (h : ks.Nodup) : (ks.map PyData.str).Pairwise (fun a b => PyData.eqv a b = false) := by
  rw [List.pairwise_map]
  exact List.Pairwise.imp (fun {a b} (n : a ≠ b) => by rw [eqv_str]; exact decide_eq_false n) h
end DV

namespace DV
open PySem PySem.Spec PyProof.Rows L2
section
variable {g g1 : Gm} {s s1 s2 : S} {m ma mb mc me mt mk mv : ME} {ms : MA} {ml mh : MO} {n n1 n2 : MSt} {mi : MI} {i : Nat} {t : T} {d x y z : D} {r : Rv} {rs : List Rv} {ts : List T} {ds : List D} {b c : Bool} {mp : MP}
@[simp] theorem gx0 {α : Type} (a : α) (l : List α) : (a :: l)[0]? = some a := id rfl
@[simp] theorem gx1 {α : Type} (a : α) (l : List α) (k : Nat) : (a :: l)[k + 1]? = l[k]? := id rfl
def slE : Option (Option Sl) → S → Option (Rv × S)
  | some (some (.t (.fz d))), s => some (.t (.fz d), s)
  | some (some (.t t)), s => some (.tmp t, s)
  | _, _ => none
@[simp] theorem ev_var : mVar i g s = slE g[i]? s := by
  unfold mVar slE
  rcases g[i]? with _ | _ | _ | t <;> try rfl
  cases t <;> rfl
@[simp] theorem slE_fz : slE (some (some (.t (.fz d)))) s = some (.t (.fz d), s) := id rfl
@[simp] theorem slE_lst : slE (some (some (.t (.lst ts)))) s = some (.tmp (.lst ts), s) := id rfl
@[simp] theorem slE_tup : slE (some (some (.t (.tup ts)))) s = some (.tmp (.tup ts), s) := id rfl
@[simp] theorem slE_dic {l : List (D × T)} : slE (some (some (.t (.dic b l)))) s = some (.tmp (.dic b l), s) := id rfl
@[simp] theorem ev_C : mC d g s = some (.t (.fz d), s) := id rfl
@[simp] theorem rvd_t : Rv.d (.t t) = t.d := id rfl
@[simp] theorem rvd_tmp : Rv.d (.tmp t) = t.d := id rfl
@[simp] theorem comp_ev {α β γ : Type} (f : β → γ) (h : α → β) : f ∘ h = fun x => f (h x) := id rfl
@[simp high] theorem d_lst_m {α : Type} (f : α → T) (l : List α) : (T.lst (l.map f)).d = .list (l.map fun a => (f a).d) := by rw [T.d_lst, List.map_map]; rfl
@[simp high] theorem d_tup_m {α : Type} (f : α → T) (l : List α) : (T.tup (l.map f)).d = .tuple (l.map fun a => (f a).d) := by rw [T.d_tup, List.map_map]; rfl
@[simp high] theorem d_dic_m {α : Type} (k : α → D) (f : α → T) (l : List α) (b : Bool) : (T.dic b (l.map fun a => (k a, f a))).d = .dict (l.map fun a => (k a, (f a).d)) := by rw [T.d_dic (k := b), List.map_map]; rfl
@[simp high] theorem d_lst_fz (l : List D) : (T.lst (l.map T.fz)).d = .list l := by rw [d_lst_m]; simp
def fzK : Option (Rv × S) → Option (Rv × S)
  | some (.t t, s') => some (.t (.fz t.d), s')
  | _ => none
@[simp] theorem ev_fz : mFz m g s = fzK (m g s) := id rfl
@[simp] theorem fzK_t : fzK (some (.t t, s)) = some (.t (.fz t.d), s) := id rfl
def hzK : Option (Rv × S) → Option (Rv × S)
  | some (.t t, s') => some (.t (.fz t.d), s')
  | r => r
@[simp] theorem ev_hz : mHz m g s = hzK (m g s) := id rfl
@[simp] theorem hzK_t : hzK (some (.t t, s)) = some (.t (.fz t.d), s) := id rfl
@[simp] theorem hzK_tmp : hzK (some (.tmp t, s)) = some (.tmp t, s) := id rfl
@[simp] theorem ev_nil : mNil g s = some ([], s) := id rfl
def consK2 (r : Rv) : Option (List Rv × S) → Option (List Rv × S)
  | some (rs, s2) => some (r :: rs, s2)
  | none => none
def consK (ms : MA) (g : Gm) : Option (Rv × S) → Option (List Rv × S)
  | some (r, s1) => consK2 r (ms g s1)
  | none => none
@[simp] theorem ev_cons : mCons m ms g s = consK ms g (m g s) := by
  unfold mCons consK
  rcases m g s with _ | ⟨r, s1⟩ <;> try rfl
  simp only
  unfold consK2
  rcases ms g s1 with _ | ⟨rs, s2⟩ <;> rfl
@[simp] theorem consK_s : consK ms g (some (r, s)) = consK2 r (ms g s) := id rfl
@[simp] theorem consK2_s : consK2 r (some (rs, s)) = some (r :: rs, s) := id rfl
def starK2 (ms : MA) (g : Gm) (s : S) : Option (List D) → Option (List Rv × S)
  | some ds => match ms g s with
    | some (rs, s2) => some (ds.map (fun d => .t (.fz d)) ++ rs, s2)
    | none => none
  | none => none
def starK3 (ds : List D) : Option (List Rv × S) → Option (List Rv × S)
  | some (rs, s2) => some (ds.map (fun d => .t (.fz d)) ++ rs, s2)
  | none => none
def starK (ms : MA) (g : Gm) : Option (Rv × S) → Option (List Rv × S)
  | some (r, s1) => starK2 ms g s1 (seqOf r)
  | none => none
@[simp] theorem ev_star : mStar m ms g s = starK ms g (hzK (m g s)) := by
  unfold mStar starK
  rw [ev_hz]
  rcases hzK (m g s) with _ | ⟨r, s1⟩ <;> try rfl
  simp only
  unfold starK2
  rcases seqOf r with _ | ds <;> try rfl
  simp only
  rcases ms g s1 with _ | ⟨rs, s2⟩ <;> rfl
@[simp] theorem starK_s : starK ms g (some (r, s)) = starK2 ms g s (seqOf r) := id rfl
@[simp] theorem starK2_s : starK2 ms g s (some ds) = starK3 ds (ms g s) := by
  unfold starK2 starK3
  rcases ms g s with _ | ⟨rs, s2⟩ <;> rfl
@[simp] theorem starK3_s : starK3 ds (some (rs, s)) = some (ds.map (fun d => .t (.fz d)) ++ rs, s) := id rfl
@[simp] theorem fzs_mp (l : List D) : fzs (l.map T.fz) = some l := by
  induction l with
  | nil => rfl
  | cons d l ih => rw [List.map_cons, fzs, ih]; rfl
@[simp] theorem fzs_map' {α : Type} (f : α → D) (l : List α) : fzs (l.map fun a => T.fz (f a)) = some (l.map f) := by
  rw [← fzs_mp (l.map f), List.map_map]; rfl
@[simp] theorem fzs_nil : fzs [] = some [] := id rfl
@[simp] theorem fzs_cons : fzs (.fz d :: ts) = (fzs ts).map (d :: ·) := id rfl
theorem fzs_app {ts us : List T} {ds es : List D} (h : fzs ts = some ds) (h2 : fzs us = some es) : fzs (ts ++ us) = some (ds ++ es) := by
  induction ts generalizing ds with
  | nil => cases h; exact h2
  | cons t ts ih =>
    cases t with
    | fz d =>
      rw [fzs] at h
      cases e : fzs ts with
      | none => rw [e] at h; cases h
      | some l =>
        rw [e] at h
        cases h
        rw [List.cons_append, fzs, ih e]; rfl
    | lst _ => cases h
    | tup _ => cases h
    | dic _ _ => cases h
@[simp] theorem seqOf_fl : seqOf (.t (.fz (.list ds))) = some ds := id rfl
@[simp] theorem seqOf_ft : seqOf (.t (.fz (.tuple ds))) = some ds := id rfl
@[simp] theorem lstOf_fl : lstOf (.t (.fz (.list ds))) = some ds := id rfl
@[simp] theorem lstOf_fi {k : Int} : lstOf (.t (.fz (.int k))) = none := id rfl
@[simp] theorem lstOf_fs {k : Str} : lstOf (.t (.fz (.str k))) = none := id rfl
@[simp] theorem lstOf_ft : lstOf (.t (.fz (.tuple ds))) = none := id rfl
@[simp] theorem lstOf_fd {l : List (D × D)} : lstOf (.t (.fz (.dict l))) = none := id rfl
@[simp] theorem lstOf_td {l : List (D × T)} : lstOf (.tmp (.dic b l)) = none := id rfl
@[simp] theorem lstOf_tl : lstOf (.tmp (.lst ts)) = fzs ts := id rfl
@[simp] theorem tupOf_ft : tupOf (.t (.fz (.tuple ds))) = some ds := id rfl
def retK (s : S) : Option Rv → Option (Rv × S)
  | some r => some (r, s)
  | none => none
@[simp] theorem retK_s : retK s (some r) = some (r, s) := id rfl
def m2K2 (x : Rv) (k : Rv → Rv → Option Rv) : Option (Rv × S) → Option (Rv × S)
  | some (y, s2) => retK s2 (k x y)
  | none => none
def m2K (mb : ME) (g : Gm) (k : Rv → Rv → Option Rv) : Option (Rv × S) → Option (Rv × S)
  | some (x, s1) => m2K2 x k (mb g s1)
  | none => none
theorem ev_m2 {k : Rv → Rv → Option Rv} : m2 ma mb k g s = m2K mb g k (ma g s) := by
  unfold m2 m2K
  rcases ma g s with _ | ⟨r, s1⟩ <;> try rfl
  simp only
  unfold m2K2
  rcases mb g s1 with _ | ⟨q, s2⟩ <;> try rfl
  simp only
  cases k r q <;> rfl
@[simp] theorem m2K_s {k : Rv → Rv → Option Rv} : m2K mb g k (some (r, s)) = m2K2 r k (mb g s) := id rfl
@[simp] theorem m2K2_s {k : Rv → Rv → Option Rv} {q : Rv} : m2K2 r k (some (q, s)) = retK s (k r q) := id rfl
@[simp] theorem ev_addI : mAddI ma mb g s = m2K mb g (kI fun i j => some (.int (i + j))) (ma g s) := ev_m2
@[simp] theorem ev_subI : mSubI ma mb g s = m2K mb g (kI fun i j => some (.int (i - j))) (ma g s) := ev_m2
@[simp] theorem ev_mulI : mMulI ma mb g s = m2K mb g (kI fun i j => if sm64 i || sm64 j then some (.int (i * j)) else none) (ma g s) := ev_m2
@[simp] theorem ev_divI : mDivI ma mb g s = m2K mb g (kI fun i j => if 0 < j ∧ j < 1073741824 then some (.int (i / j)) else none) (ma g s) := ev_m2
@[simp] theorem ev_modI : mModI ma mb g s = m2K mb g (kI fun i j => if 0 < j then some (.int (i % j)) else none) (ma g s) := ev_m2
@[simp] theorem ev_powI : mPowI ma mb g s = m2K mb g (kI fun i j => if 0 ≤ j ∧ j ≤ 1000000 ∧ i.natAbs < 2 ^ 64 then some (.int (i ^ j.toNat)) else none) (ma g s) := ev_m2
@[simp] theorem kI_ii {f : Int → Int → Option D} {j k : Int} : kI f (.t (.fz (.int j))) (.t (.fz (.int k))) = (f j k).map fun d => .t (.fz d) := by
  unfold kI; simp only [rvd_t, T.d_fz]
@[simp] theorem ev_cmp {f : D → D → Option Bool} : mCmp f ma mb g s = m2K mb g (kC f) (ma g s) := ev_m2
@[simp] theorem kC_ev {f : D → D → Option Bool} {q : Rv} : kC f r q = (f r.d q.d).map fun b => .t (.fz (.bool b)) := id rfl
def nonD : D → Bool
  | .none => true
  | _ => false
@[simp] theorem nonD_n : nonD .none = true := id rfl
@[simp] theorem nonD_b : nonD (.bool b) = false := id rfl
@[simp] theorem nonD_i {k : Int} : nonD (.int k) = false := id rfl
@[simp] theorem nonD_s {k : Str} : nonD (.str k) = false := id rfl
@[simp] theorem nonD_l : nonD (.list ds) = false := id rfl
@[simp] theorem nonD_t : nonD (.tuple ds) = false := id rfl
@[simp] theorem nonD_d {l : List (D × D)} : nonD (.dict l) = false := id rfl
def isK (neg : Bool) : Option (Rv × S) → Option (Rv × S)
  | some (r, s) => some (.t (.fz (.bool (if nonD r.d then !neg else neg))), s)
  | none => none
@[simp] theorem ev_isN {neg : Bool} : mIs neg ma (mC .none) g s = isK neg (ma g s) := by
  unfold mIs
  rw [ev_m2]
  rcases ma g s with _ | ⟨r, s1⟩ <;> try rfl
  simp only [m2K_s, ev_C, m2K2_s, rvd_t, T.d_fz]
  unfold isK
  simp only
  cases r.d <;> rfl
@[simp] theorem isK_s {neg : Bool} : isK neg (some (r, s)) = some (.t (.fz (.bool (if nonD r.d then !neg else neg))), s) := id rfl
def chK4 (f : D → D → Option Bool) (y : Rv) : Option (Rv × S) → Option (Rv × S)
  | some (z, s3) => retK s3 ((f y.d z.d).map fun k => .t (.fz (.bool k)))
  | none => none
def chK3 (f : D → D → Option Bool) (mc : ME) (g : Gm) (s : S) (y : Rv) : Option Bool → Option (Rv × S)
  | some b => if b = true then chK4 f y (mc g s) else some (.t (.fz (.bool false)), s)
  | none => none
def chK2 (f f' : D → D → Option Bool) (mc : ME) (g : Gm) (x : Rv) : Option (Rv × S) → Option (Rv × S)
  | some (y, s2) => chK3 f' mc g s2 y (f x.d y.d)
  | none => none
def chK (f f' : D → D → Option Bool) (mb mc : ME) (g : Gm) : Option (Rv × S) → Option (Rv × S)
  | some (x, s1) => chK2 f f' mc g x (mb g s1)
  | none => none
@[simp] theorem ev_chain {f f' : D → D → Option Bool} : mChain f f' ma mb mc g s = chK f f' mb mc g (ma g s) := by
  unfold mChain chK
  rcases ma g s with _ | ⟨r, s1⟩ <;> try rfl
  simp only
  unfold chK2
  rcases mb g s1 with _ | ⟨q, s2⟩ <;> try rfl
  simp only
  unfold chK3
  rcases f r.d q.d with _ | _ | _ <;> try rfl
  simp only [if_true]
  unfold chK4
  rcases mc g s2 with _ | ⟨q3, s3⟩ <;> try rfl
  simp only
  cases f' q.d q3.d <;> rfl
@[simp] theorem chK_s {f f' : D → D → Option Bool} : chK f f' mb mc g (some (r, s)) = chK2 f f' mc g r (mb g s) := id rfl
@[simp] theorem chK2_s {f f' : D → D → Option Bool} {q : Rv} : chK2 f f' mc g r (some (q, s)) = chK3 f' mc g s q (f r.d q.d) := id rfl
@[simp] theorem chK3_s {f : D → D → Option Bool} : chK3 f mc g s r (some b) = if b = true then chK4 f r (mc g s) else some (.t (.fz (.bool false)), s) := id rfl
@[simp] theorem chK4_s {f : D → D → Option Bool} {q : Rv} : chK4 f r (some (q, s)) = retK s ((f r.d q.d).map fun k => .t (.fz (.bool k))) := id rfl
def andK (mb : ME) (g : Gm) : Option (Rv × S) → Option (Rv × S)
  | some (.t (.fz (.bool b)), s) => if b = true then mb g s else some (.t (.fz (.bool false)), s)
  | _ => none
@[simp] theorem ev_and : mAnd ma mb g s = andK mb g (ma g s) := by
  unfold mAnd andK
  split <;> simp_all
@[simp] theorem andK_s : andK mb g (some (.t (.fz (.bool b)), s)) = if b = true then mb g s else some (.t (.fz (.bool false)), s) := id rfl
def orK (mb : ME) (g : Gm) : Option (Rv × S) → Option (Rv × S)
  | some (.t (.fz (.bool b)), s) => if b = true then some (.t (.fz (.bool true)), s) else mb g s
  | _ => none
@[simp] theorem ev_or : mOr ma mb g s = orK mb g (ma g s) := by
  unfold mOr orK
  split <;> simp_all
@[simp] theorem orK_s : orK mb g (some (.t (.fz (.bool b)), s)) = if b = true then some (.t (.fz (.bool true)), s) else mb g s := id rfl
def notK : Option (Rv × S) → Option (Rv × S)
  | some (.t (.fz (.bool b)), s1) => some (.t (.fz (.bool (!b))), s1)
  | _ => none
@[simp] theorem ev_not : mNot ma g s = notK (ma g s) := id rfl
@[simp] theorem notK_s : notK (some (.t (.fz (.bool b)), s)) = some (.t (.fz (.bool (!b))), s) := id rfl
def ifK (ma mb : ME) (g : Gm) : Option (Rv × S) → Option (Rv × S)
  | some (.t (.fz (.bool b)), s) => if b = true then ma g s else mb g s
  | _ => none
@[simp] theorem ev_if : mIf mc ma mb g s = ifK ma mb g (mc g s) := by
  unfold mIf ifK
  split <;> simp_all
@[simp] theorem ifK_s : ifK ma mb g (some (.t (.fz (.bool b)), s)) = if b = true then ma g s else mb g s := id rfl
def negK : Option (Rv × S) → Option (Rv × S)
  | some (.t (.fz (.int i)), s1) => some (.t (.fz (.int (-i))), s1)
  | _ => none
@[simp] theorem ev_neg : mNeg ma g s = negK (ma g s) := id rfl
@[simp] theorem negK_s {k : Int} : negK (some (.t (.fz (.int k)), s)) = some (.t (.fz (.int (-k))), s) := id rfl
@[simp] theorem ite_rvT {p : Prop} [Decidable p] {t u : T} : (if p then some (Rv.t t, s) else some (Rv.t u, s)) = some (Rv.t (if p then t else u), s) := by split <;> rfl
@[simp] theorem ite_fz {p : Prop} [Decidable p] : (if p then T.fz x else T.fz y) = T.fz (if p then x else y) := by split <;> rfl
@[simp] theorem ite_int {p : Prop} [Decidable p] {j k : Int} : (if p then PyData.int j else PyData.int k) = PyData.int (if p then j else k) := by split <;> rfl
@[simp] theorem ite_bool {p : Prop} [Decidable p] {j k : Bool} : (if p then PyData.bool j else PyData.bool k) = PyData.bool (if p then j else k) := by split <;> rfl
@[simp] theorem ite_str {p : Prop} [Decidable p] {j k : Str} : (if p then PyData.str j else PyData.str k) = PyData.str (if p then j else k) := by split <;> rfl
@[simp] theorem ite_list {p : Prop} [Decidable p] {j k : List D} : (if p then PyData.list j else PyData.list k) = PyData.list (if p then j else k) := by split <;> rfl
@[simp] theorem trs_nil : trs [] = some [] := id rfl
@[simp] theorem trs_t' : trs (.t t :: rs) = (trs rs).map (t :: ·) := id rfl
@[simp] theorem trs_fzs (l : List D) : trs (l.map (fun d => Rv.t (.fz d)) ++ rs) = (trs rs).map (l.map T.fz ++ ·) := by
  induction l with
  | nil => simp
  | cons d l ih =>
    rw [List.map_cons, List.cons_append, trs_t', ih, Option.map_map]; rfl
@[simp] theorem trs_mapA {α : Type} (f : α → T) (l : List α) : trs (l.map (fun a => Rv.t (f a)) ++ rs) = (trs rs).map (l.map f ++ ·) := by
  induction l with
  | nil => simp
  | cons d l ih =>
    rw [List.map_cons, List.cons_append, trs_t', ih, Option.map_map]; rfl
@[simp] theorem trs_map0 {α : Type} (f : α → T) (l : List α) : trs (l.map fun a => Rv.t (f a)) = some (l.map f) := by
  have := trs_mapA (rs := []) f l
  rw [List.append_nil] at this
  rw [this]; simp
def tupK2 (s : S) : Option (List T) → Option (Rv × S)
  | some ts => if lenOk ts.length = true then some (.t (.tup ts), s) else none
  | none => none
def lstK2 (s : S) : Option (List T) → Option (Rv × S)
  | some ts => if lenOk ts.length = true then some (.t (.lst ts), s) else none
  | none => none
def tupK : Option (List Rv × S) → Option (Rv × S)
  | some (rs, s1) => tupK2 s1 (trs rs)
  | none => none
def lstK : Option (List Rv × S) → Option (Rv × S)
  | some (rs, s1) => lstK2 s1 (trs rs)
  | none => none
@[simp] theorem ev_tup : mTup ms g s = tupK (ms g s) := by
  unfold mTup tupK
  rcases ms g s with _ | ⟨r, s1⟩ <;> rfl
@[simp] theorem ev_lst : mLst ms g s = lstK (ms g s) := by
  unfold mLst lstK
  rcases ms g s with _ | ⟨r, s1⟩ <;> rfl
@[simp] theorem tupK_s : tupK (some (rs, s)) = tupK2 s (trs rs) := id rfl
@[simp] theorem lstK_s : lstK (some (rs, s)) = lstK2 s (trs rs) := id rfl
@[simp] theorem tupK2_s : tupK2 s (some ts) = if lenOk ts.length = true then some (.t (.tup ts), s) else none := id rfl
@[simp] theorem lstK2_s : lstK2 s (some ts) = if lenOk ts.length = true then some (.t (.lst ts), s) else none := id rfl
@[simp] theorem lenOk_le {n : Nat} (h : n ≤ 1000000) : lenOk n = true := lenOk_of h
@[simp] theorem ltLen_le {n : Nat} (h : n ≤ 1000000) : ltLen n = true := ltLen_of h
@[simp] theorem ev_idx : mIdx ma mb g s = m2K mb g kIdx (hzK (ma g s)) := by
  unfold mIdx
  rw [ev_m2, ev_hz]
@[simp] theorem kIdx_t {q : Rv} : kIdx (.t (.fz d)) q = (dIdx d q.d).map fun d => .t (.fz d) := id rfl
@[simp] theorem kIdx_l {k : Int} : kIdx (.tmp (.lst ts)) (.t (.fz (.int k))) = (atI ts k).map look := by
  unfold kIdx; simp only [rvd_t, T.d_fz]
@[simp] theorem kIdx_tu {k : Int} : kIdx (.tmp (.tup ts)) (.t (.fz (.int k))) = (atI ts k).map look := by
  unfold kIdx; simp only [rvd_t, T.d_fz]
@[simp] theorem kIdx_di {k : Int} {l : List (D × T)} : kIdx (.tmp (.dic b l)) (.t (.fz (.int k))) = (tLook l (.int k)).map look := by
  unfold kIdx; simp only [rvd_t, T.d_fz]; rfl
@[simp] theorem kIdx_ds {k : Str} {l : List (D × T)} : kIdx (.tmp (.dic b l)) (.t (.fz (.str k))) = (tLook l (.str k)).map look := by
  unfold kIdx; simp only [rvd_t, T.d_fz]; rfl
@[simp] theorem look_fz : look (.fz d) = .t (.fz d) := id rfl
@[simp] theorem look_lst : look (.lst ts) = .tmp (.lst ts) := id rfl
@[simp] theorem look_tup : look (.tup ts) = .tmp (.tup ts) := id rfl
@[simp] theorem look_dic {l : List (D × T)} : look (.dic b l) = .tmp (.dic b l) := id rfl
@[simp] theorem dIdx_l {k : Int} : dIdx (.list ds) (.int k) = atI ds k := id rfl
@[simp] theorem dIdx_t {k : Int} : dIdx (.tuple ds) (.int k) = atI ds k := id rfl
@[simp] theorem dIdx_di {k : Int} {l : List (D × D)} : dIdx (.dict l) (.int k) = dLook l (.int k) := id rfl
@[simp] theorem dIdx_ds {k : Str} {l : List (D × D)} : dIdx (.dict l) (.str k) = dLook l (.str k) := id rfl
theorem atI_nat {α : Type} (l : List α) (n : Nat) : atI l (n : Nat) = l[n]? := by
  unfold atI ixN
  rw [if_pos (by omega)]
  by_cases h : (n : Int) < l.length
  · rw [if_pos h]
    show l[(n : Int).toNat]? = l[n]?
    rw [Int.toNat_natCast]
  · rw [if_neg h]
    exact (List.getElem?_eq_none (by omega)).symm
@[simp] theorem atI_natCast {α : Type} (l : List α) (n : Nat) : atI l (n : Int) = l[n]? := atI_nat l n
@[simp] theorem atI_0 {α : Type} (l : List α) : atI l 0 = l[0]? := atI_nat l 0
@[simp] theorem atI_1 {α : Type} (l : List α) : atI l 1 = l[1]? := atI_nat l 1
@[simp] theorem atI_2 {α : Type} (l : List α) : atI l 2 = l[2]? := atI_nat l 2
@[simp] theorem atI_3 {α : Type} (l : List α) : atI l 3 = l[3]? := atI_nat l 3
@[simp] theorem atI_4 {α : Type} (l : List α) : atI l 4 = l[4]? := atI_nat l 4
@[simp] theorem atI_m1 {α : Type} (l : List α) : atI l (-1) = l.getLast? := by
  unfold atI ixN
  rw [if_neg (by omega)]
  cases l with
  | nil => rfl
  | cons a l =>
    rw [if_pos (by simp only [List.length_cons]; omega)]
    show (a :: l)[(-1 + ((a :: l).length : Int)).toNat]? = _
    rw [List.getLast?_eq_getElem?]
    congr 1
    simp only [List.length_cons]; omega
theorem atI_toNat {α : Type} (l : List α) {k : Int} (h : 0 ≤ k) : atI l k = l[k.toNat]? := by
  have := atI_nat l k.toNat
  rwa [Int.toNat_of_nonneg h] at this
@[simp] theorem atI_mp {α β : Type} (f : α → β) (l : List α) (k : Int) : atI (l.map f) k = (atI l k).map f := by
  unfold atI
  rw [List.length_map]
  cases ixN l.length k with
  | none => rfl
  | some j => simp
@[simp] theorem ev_oNo : moNo g s = some (none, s) := id rfl
def osK : Option (Rv × S) → Option (Option Int × S)
  | some (.t (.fz (.int i)), s') => some (some i, s')
  | _ => none
@[simp] theorem ev_oSome : moSome m g s = osK (m g s) := id rfl
@[simp] theorem osK_s {k : Int} : osK (some (.t (.fz (.int k)), s)) = some (some k, s) := id rfl
def slK3 (x : Rv) (lo : Option Int) : Option (Option Int × S) → Option (Rv × S)
  | some (hi, s3) => retK s3 (kSl x lo hi)
  | none => none
def slK2 (mh : MO) (g : Gm) (x : Rv) : Option (Option Int × S) → Option (Rv × S)
  | some (lo, s2) => slK3 x lo (mh g s2)
  | none => none
def slK (ml mh : MO) (g : Gm) : Option (Rv × S) → Option (Rv × S)
  | some (x, s1) => slK2 mh g x (ml g s1)
  | none => none
@[simp] theorem ev_sl : mSl ma ml mh g s = slK ml mh g (hzK (ma g s)) := by
  unfold mSl slK
  rw [ev_hz]
  rcases hzK (ma g s) with _ | ⟨r, s1⟩ <;> try rfl
  simp only
  unfold slK2
  rcases ml g s1 with _ | ⟨lo, s2⟩ <;> try rfl
  simp only
  unfold slK3
  rcases mh g s2 with _ | ⟨hi, s3⟩ <;> try rfl
  simp only
  rcases kSl r lo hi with _ | _ <;> rfl
@[simp] theorem slK_s : slK ml mh g (some (r, s)) = slK2 mh g r (ml g s) := id rfl
@[simp] theorem slK2_s {lo : Option Int} : slK2 mh g r (some (lo, s)) = slK3 r lo (mh g s) := id rfl
@[simp] theorem slK3_s {lo hi : Option Int} : slK3 r lo (some (hi, s)) = retK s (kSl r lo hi) := id rfl
@[simp] theorem kSl_l {lo hi : Option Int} : kSl (.t (.fz (.list ds))) lo hi = some (.t (.lst ((cutD ds lo hi).map T.fz))) := id rfl
@[simp] theorem kSl_t {lo hi : Option Int} : kSl (.t (.fz (.tuple ds))) lo hi = some (.t (.fz (.tuple (cutD ds lo hi)))) := id rfl
@[simp] theorem kSl_o {lo hi : Option Int} (l : List D) : kSl (.tmp (.lst (l.map T.fz))) lo hi = some (.t (.lst ((cutD l lo hi).map T.fz))) := by
  unfold kSl
  rw [lstOf_tl, fzs_mp]
@[simp] theorem cutD_map {α β : Type} (f : α → β) (l : List α) (lo hi : Option Int) : cutD (l.map f) lo hi = (cutD l lo hi).map f := by
  unfold cutD
  rw [List.length_map, List.map_take, List.map_drop]
theorem cutD_to {α : Type} (l : List α) (n : Nat) : cutD l none (some (n : Int)) = l.take n := by
  unfold cutD
  rw [HT.sIx_none, HT.sIx_nat, List.drop_zero, Nat.sub_zero]
  by_cases h : n ≤ l.length
  · rw [Nat.min_eq_left h]
  · rw [Nat.min_eq_right (by omega), List.take_length, List.take_of_length_le (by omega)]
theorem cutD_from {α : Type} (l : List α) (n : Nat) : cutD l (some (n : Int)) none = l.drop n := by
  unfold cutD
  rw [HT.sIx_none, HT.sIx_nat]
  by_cases h : n ≤ l.length
  · rw [Nat.min_eq_left h, List.take_of_length_le (by rw [List.length_drop]; omega)]
  · rw [Nat.min_eq_right (by omega), Nat.sub_self, List.take_zero, List.drop_eq_nil_of_le (by omega)]
@[simp] theorem cutD_toN {α : Type} (l : List α) (n : Nat) : cutD l none (some (n : Int)) = l.take n := cutD_to l n
@[simp] theorem cutD_fromN {α : Type} (l : List α) (n : Nat) : cutD l (some (n : Int)) none = l.drop n := cutD_from l n
@[simp] theorem cutD_f1 {α : Type} (l : List α) : cutD l (some 1) none = l.drop 1 := cutD_from l 1
@[simp] theorem cutD_f2 {α : Type} (l : List α) : cutD l (some 2) none = l.drop 2 := cutD_from l 2
@[simp] theorem cutD_t1 {α : Type} (l : List α) : cutD l none (some 1) = l.take 1 := cutD_to l 1
@[simp] theorem cutD_t2 {α : Type} (l : List α) : cutD l none (some 2) = l.take 2 := cutD_to l 2
theorem cutD_toI {α : Type} (l : List α) {k : Int} (h : 0 ≤ k) : cutD l none (some k) = l.take k.toNat := by
  have := cutD_to l k.toNat
  rwa [Int.toNat_of_nonneg h] at this
theorem cutD_fromI {α : Type} (l : List α) {k : Int} (h : 0 ≤ k) : cutD l (some k) none = l.drop k.toNat := by
  have := cutD_from l k.toNat
  rwa [Int.toNat_of_nonneg h] at this
def revK2 (s : S) : Option (List D) → Option (Rv × S)
  | some ds => some (.t (.lst (ds.reverse.map T.fz)), s)
  | none => none
def revK : Option (Rv × S) → Option (Rv × S)
  | some (x, s1) => revK2 s1 (lstOf x)
  | none => none
@[simp] theorem ev_rev : mRevL ma g s = revK (hzK (ma g s)) := by
  unfold mRevL revK
  rw [ev_hz]
  rcases hzK (ma g s) with _ | ⟨r, s1⟩ <;> try rfl
  simp only
  unfold revK2
  cases lstOf r <;> rfl
@[simp] theorem revK_s : revK (some (r, s)) = revK2 s (lstOf r) := id rfl
@[simp] theorem revK2_s : revK2 s (some ds) = some (.t (.lst (ds.reverse.map T.fz)), s) := id rfl
end
end DV

namespace DV
open PySem PySem.Spec PyProof.Rows L2
section
variable {g g1 : Gm} {s s1 s2 : S} {m ma mb mc me mt mk mv : ME} {ms : MA} {ml mh : MO} {n n1 n2 : MSt} {mi : MI} {i : Nat} {t : T} {d x y z : D} {r : Rv} {rs : List Rv} {ts : List T} {ds : List D} {b c : Bool} {mp : MP} {tg : Tg} {vs : List Nat}
abbrev Res := Option (Out × Gm × S)
def seqK (m2 : MSt) : Res → Res
  | some (.nx, g1, s1) => m2 g1 s1
  | r => r
@[simp] theorem ev_seq : mSeq n1 n2 g s = seqK n2 (n1 g s) := id rfl
@[simp] theorem seqK_nx : seqK n (some (.nx, g, s)) = n g s := id rfl
@[simp] theorem seqK_rt : seqK n (some (.rt t, g, s)) = some (.rt t, g, s) := id rfl
@[simp] theorem seqK_bk : seqK n (some (.bk, g, s)) = some (.bk, g, s) := id rfl
@[simp] theorem seqK_ct : seqK n (some (.ct, g, s)) = some (.ct, g, s) := id rfl
@[simp] theorem seqK_none : seqK n none = none := id rfl
@[simp] theorem seqK_ite {p : Prop} [Decidable p] {a b : Res} : seqK n (if p then a else b) = if p then seqK n a else seqK n b := by split <;> rfl
def ifSK (n1 n2 : MSt) (g : Gm) : Option (Rv × S) → Res
  | some (.t (.fz (.bool b)), s) => if b = true then n1 g s else n2 g s
  | _ => none
@[simp] theorem ev_ifS : mIfS mc n1 n2 g s = ifSK n1 n2 g (mc g s) := by
  unfold mIfS ifSK
  split <;> simp_all
@[simp] theorem ifSK_s : ifSK n1 n2 g (some (.t (.fz (.bool b)), s)) = if b = true then n1 g s else n2 g s := id rfl
@[simp] theorem ev_no : mNo g s = none := id rfl
@[simp] theorem ev_nx : mNx g s = some (.nx, g, s) := id rfl
@[simp] theorem ev_bk : mBk g s = some (.bk, g, s) := id rfl
@[simp] theorem ev_ct : mCt g s = some (.ct, g, s) := id rfl
def rtK (g : Gm) : Option (Rv × S) → Res
  | some (.t t, s1) => some (.rt t, g, s1)
  | _ => none
@[simp] theorem ev_rt : mRt m g s = rtK g (m g s) := id rfl
@[simp] theorem rtK_s : rtK g (some (.t t, s)) = some (.rt t, g, s) := id rfl
def rtVK (g : Gm) (s : S) : Option (Option Sl) → Res
  | some (some (.t t)) => some (.rt t, g, s)
  | _ => none
@[simp] theorem ev_rtV : mRtV i g s = rtVK g s g[i]? := id rfl
@[simp] theorem rtVK_s : rtVK g s (some (some (.t t))) = some (.rt t, g, s) := id rfl
@[simp] theorem ev_rtN : mRtN g s = some (.rt (.fz .none), g, s) := id rfl
@[simp] theorem ev_setS : setS g i t = g.set i (some (.t t)) := id rfl
def setK (g : Gm) (i : Nat) : Option (Rv × S) → Res
  | some (.t t, s1) => some (.nx, setS g i t, s1)
  | _ => none
@[simp] theorem ev_set : mSet i m g s = setK g i (m g s) := id rfl
@[simp] theorem setK_s : setK g i (some (.t t, s)) = some (.nx, setS g i t, s) := id rfl
def preK (n : MSt) (g : Gm) (i : Nat) (s : S) : Option (Option Sl) → Res
  | some (some (.t t)) => n (setS g i (.fz t.d)) s
  | _ => none
@[simp] theorem ev_pre : mPre1 i n g s = preK n g i s g[i]? := id rfl
@[simp] theorem preK_s : preK n g i s (some (some (.t t))) = n (setS g i (.fz t.d)) s := id rfl
@[simp] theorem bind_nm : bind (.nm i) d g = some (setS g i (.fz d)) := by rw [bind]
@[simp] theorem bind_tpt {l : List Tg} : bind (.tp l) (.tuple ds) g = binds l ds g := by rw [bind]
@[simp] theorem bind_tpl {l : List Tg} : bind (.tp l) (.list ds) g = binds l ds g := by rw [bind]
def bindsK (l : List Tg) (ds : List D) : Option Gm → Option Gm
  | some g1 => binds l ds g1
  | none => none
@[simp] theorem binds_nil : binds [] [] g = some g := by rw [binds]
@[simp] theorem binds_cons {l : List Tg} : binds (tg :: l) (d :: ds) g = bindsK l ds (bind tg d g) := by
  rw [binds]
  cases bind tg d g <;> rfl
@[simp] theorem bindsK_s {l : List Tg} : bindsK l ds (some g) = binds l ds g := id rfl
@[simp] theorem setSs_cons {is : List Nat} : setSs g (i :: is) (t :: ts) = setSs (setS g i t) is ts := id rfl
@[simp] theorem setSs_nil : setSs g [] [] = g := id rfl
def unpK (g : Gm) (is : List Nat) : Option (Rv × S) → Res
  | some (.t t, s1) => match t with
    | .fz (.tuple ds) => if is.length = ds.length then some (.nx, setSs g is (ds.map T.fz), s1) else none
    | .fz (.list ds) => if is.length = ds.length then some (.nx, setSs g is (ds.map T.fz), s1) else none
    | .tup ts => if is.length = ts.length then some (.nx, setSs g is ts, s1) else none
    | .lst ts => if is.length = ts.length then some (.nx, setSs g is ts, s1) else none
    | _ => none
  | _ => none
@[simp] theorem ev_unp {is : List Nat} : mUnp is m g s = unpK g is (m g s) := id rfl
@[simp] theorem unpK_ft {is : List Nat} : unpK g is (some (.t (.fz (.tuple ds)), s)) = if is.length = ds.length then some (.nx, setSs g is (ds.map T.fz), s) else none := id rfl
@[simp] theorem unpK_fl {is : List Nat} : unpK g is (some (.t (.fz (.list ds)), s)) = if is.length = ds.length then some (.nx, setSs g is (ds.map T.fz), s) else none := id rfl
@[simp] theorem unpK_t {is : List Nat} : unpK g is (some (.t (.tup ts), s)) = if is.length = ts.length then some (.nx, setSs g is ts, s) else none := id rfl
@[simp] theorem unpK_l {is : List Nat} : unpK g is (some (.t (.lst ts), s)) = if is.length = ts.length then some (.nx, setSs g is ts, s) else none := id rfl
def parK2 (g : Gm) (is : List Nat) (s : S) : Option (List T) → Res
  | some ts => if is.length = ts.length then some (.nx, setSs g is ts, s) else none
  | none => none
def parK (g : Gm) (is : List Nat) : Option (List Rv × S) → Res
  | some (rs, s1) => parK2 g is s1 (trs rs)
  | none => none
@[simp] theorem ev_par {is : List Nat} : mPar is ms g s = parK g is (ms g s) := by
  unfold mPar parK
  rcases ms g s with _ | ⟨r, s1⟩ <;> rfl
@[simp] theorem parK_s {is : List Nat} : parK g is (some (rs, s)) = parK2 g is s (trs rs) := id rfl
@[simp] theorem parK2_s {is : List Nat} : parK2 g is s (some ts) = if is.length = ts.length then some (.nx, setSs g is ts, s) else none := id rfl
def dropK (g : Gm) : Option (Rv × S) → Res
  | some (_, s1) => some (.nx, g, s1)
  | none => none
@[simp] theorem ev_drop : mDrop m g s = dropK g (m g s) := id rfl
@[simp] theorem dropK_s : dropK g (some (r, s)) = some (.nx, g, s) := id rfl
def asgK2 (s : S) : Option Gm → Res
  | some g' => some (.nx, g', s)
  | none => none
def asgK (tg : Tg) (g : Gm) : Option (Rv × S) → Res
  | some (.t t, s1) => asgK2 s1 (bind tg t.d g)
  | _ => none
@[simp] theorem ev_asgT : mAsgT tg m g s = asgK tg g (m g s) := by
  unfold mAsgT asgK
  rcases m g s with _ | ⟨_ | _, s1⟩ <;> rfl
@[simp] theorem asgK_s : asgK tg g (some (.t t, s)) = asgK2 s (bind tg t.d g) := id rfl
@[simp] theorem asgK2_s : asgK2 s (some g) = some (.nx, g, s) := id rfl
def postK2 (g1 : Gm) (i : Nat) (s : S) : Option (Option Sl) → Res
  | some (some (.t t)) => some (.nx, setS g1 i (.fz t.d), s)
  | _ => none
def postK (i : Nat) : Res → Res
  | some (.nx, g1, s1) => postK2 g1 i s1 g1[i]?
  | _ => none
@[simp] theorem ev_post : mPost i n g s = postK i (n g s) := by
  unfold mPost postK
  rcases n g s with _ | ⟨_ | _ | _ | _, g1, s1⟩ <;> rfl
@[simp] theorem postK_s : postK i (some (.nx, g, s)) = postK2 g i s g[i]? := id rfl
@[simp] theorem postK2_s : postK2 g i s (some (some (.t t))) = some (.nx, setS g i (.fz t.d), s) := id rfl
def finK : Res → Option T
  | some (.rt t, _, _) => some t
  | some (.nx, _, _) => some (.fz .none)
  | _ => none
@[simp] theorem finK_rt : finK (some (.rt t, g, s)) = some t := id rfl
@[simp] theorem finK_nx : finK (some (.nx, g, s)) = some (.fz .none) := id rfl
@[simp] theorem finK_none : finK none = none := id rfl
@[simp] theorem finK_ite {p : Prop} [Decidable p] {a b : Res} : finK (if p then a else b) = if p then finK a else finK b := by split <;> rfl
@[simp] theorem ite_someT {p : Prop} [Decidable p] {t u : T} : (if p then some t else some u) = some (if p then t else u) := by split <;> rfl
def finS : Res → Option (T × S)
  | some (.rt t, _, s) => some (t, s)
  | some (.nx, _, s) => some (.fz .none, s)
  | _ => none
@[simp] theorem finS_rt : finS (some (.rt t, g, s)) = some (t, s) := id rfl
@[simp] theorem finS_nx : finS (some (.nx, g, s)) = some (.fz .none, s) := id rfl
@[simp] theorem finS_none : finS none = none := id rfl
@[simp] theorem finS_ite {p : Prop} [Decidable p] {a b : Res} : finS (if p then a else b) = if p then finS a else finS b := by split <;> rfl
@[simp] theorem ev_gSt {k : Nat} {as : List DV.Arg} : gSt k as = as.map (fun a => some a.sl) ++ List.replicate (k - as.length) none := id rfl
@[simp] theorem sl_s : Arg.sl .s = .s := id rfl
@[simp] theorem sl_d : Arg.sl (.d d) = .t (.fz d) := id rfl
theorem ev_runS {k np : Nat} {as : List DV.Arg} : runS k np n as s = if as.length = np then finS (n (gSt k as) s) else none := by
  unfold runS finS
  rfl
theorem ev_runP {k np : Nat} : runP k np n ds = if ds.length = np then finK (n (gSt k (ds.map Arg.d)) S0) else none := by
  unfold runP
  rw [ev_runS, List.length_map]
  by_cases h : ds.length = np
  · rw [if_pos h, if_pos h]
    unfold finS finK
    rcases n (gSt k (ds.map Arg.d)) S0 with _ | ⟨_ | _ | _ | _, g1, s1⟩ <;> rfl
  · rw [if_neg h, if_neg h]; rfl
@[simp] theorem dats_nil : dats [] = some [] := id rfl
@[simp] theorem dats_cons : dats (.t (.fz d) :: rs) = (dats rs).map (d :: ·) := id rfl
@[simp] theorem dats_map (l : List D) : dats (l.map (fun d => Rv.t (.fz d)) ++ rs) = (dats rs).map (l ++ ·) := by
  induction l with
  | nil => simp
  | cons d l ih => rw [List.map_cons, List.cons_append, dats_cons, ih, Option.map_map]; rfl
@[simp] theorem dats_mapA {α : Type} (f : α → D) (l : List α) : dats (l.map (fun a => Rv.t (.fz (f a))) ++ rs) = (dats rs).map (l.map f ++ ·) := by
  have := dats_map (rs := rs) (l.map f)
  rwa [List.map_map] at this
def retT (s : S) : Option T → Option (Rv × S)
  | some t => some (.t t, s)
  | none => none
@[simp] theorem retT_s : retT s (some t) = some (.t t, s) := id rfl
def callK2 (rf : List D → Option T) (s : S) : Option (List D) → Option (Rv × S)
  | some ds => retT s (rf ds)
  | none => none
def callK (rf : List D → Option T) : Option (List Rv × S) → Option (Rv × S)
  | some (rs, s1) => callK2 rf s1 (dats rs)
  | none => none
@[simp] theorem ev_call {rf : List D → Option T} : mCall rf ms g s = callK rf (ms g s) := by
  unfold mCall callK
  rcases ms g s with _ | ⟨r, s1⟩ <;> try rfl
  simp only
  unfold callK2
  rcases dats r with _ | ds <;> try rfl
  simp only
  cases rf ds <;> rfl
@[simp] theorem callK_s {rf : List D → Option T} : callK rf (some (rs, s)) = callK2 rf s (dats rs) := id rfl
@[simp] theorem callK2_s {rf : List D → Option T} : callK2 rf s (some ds) = retT s (rf ds) := id rfl
def lendK2 (s : S) : Option T → Option (Rv × S)
  | some t => if t.flat then some (.t t, s) else none
  | none => none
def lendK (rf : List D → Option T) : Option (List Rv × S) → Option (Rv × S)
  | some (rs, s1) => lendK2 s1 (rf (rs.map Rv.d))
  | none => none
@[simp] theorem ev_lend {rf : List D → Option T} : mLend rf ms g s = lendK rf (ms g s) := by
  unfold mLend lendK
  rcases ms g s with _ | ⟨r, s1⟩ <;> try rfl
@[simp] theorem lendK_s {rf : List D → Option T} : lendK rf (some (rs, s)) = lendK2 s (rf (rs.map Rv.d)) := id rfl
@[simp] theorem lendK2_s : lendK2 s (some t) = if t.flat then some (.t t, s) else none := id rfl
@[simp] theorem ev_gNil : mgNil g s = some ([], s) := id rfl
def mgSK (mr : MG) (g : Gm) (s : S) : Option (Option Sl) → Option (List DV.Arg × S)
  | some (some .s) => match mr g s with
    | some (as, s1) => some (.s :: as, s1)
    | none => none
  | _ => none
def mgK1 (a : DV.Arg) : Option (List DV.Arg × S) → Option (List DV.Arg × S)
  | some (as, s1) => some (a :: as, s1)
  | none => none
@[simp] theorem ev_gS {mr : MG} : mgS i mr g s = mgSK mr g s g[i]? := id rfl
@[simp] theorem mgSK_s {mr : MG} : mgSK mr g s (some (some .s)) = mgK1 .s (mr g s) := by
  unfold mgSK mgK1
  rcases mr g s with _ | ⟨_, _⟩ <;> rfl
@[simp] theorem mgK1_s {a : DV.Arg} {as : List DV.Arg} : mgK1 a (some (as, s)) = some (a :: as, s) := id rfl
def mgDK (mr : MG) (g : Gm) : Option (Rv × S) → Option (List DV.Arg × S)
  | some (.t (.fz d), s1) => mgK1 (.d d) (mr g s1)
  | _ => none
@[simp] theorem ev_gD {mr : MG} : mgD m mr g s = mgDK mr g (hzK (m g s)) := by
  unfold mgD mgDK
  rw [ev_hz]
  rcases hzK (m g s) with _ | ⟨r, s1⟩ <;> try rfl
@[simp] theorem mgDK_s {mr : MG} : mgDK mr g (some (.t (.fz d), s)) = mgK1 (.d d) (mr g s) := id rfl
def retTS : Option (T × S) → Option (Rv × S)
  | some (t, s) => some (.t t, s)
  | none => none
@[simp] theorem retTS_s : retTS (some (t, s)) = some (.t t, s) := id rfl
def callSK (rf : List DV.Arg → S → Option (T × S)) : Option (List DV.Arg × S) → Option (Rv × S)
  | some (as, s1) => retTS (rf as s1)
  | none => none
@[simp] theorem ev_callS {rf : List DV.Arg → S → Option (T × S)} {mg : MG} : mCallS rf mg g s = callSK rf (mg g s) := by
  unfold mCallS callSK
  rcases mg g s with _ | ⟨r, s1⟩ <;> try rfl
@[simp] theorem callSK_s {rf : List DV.Arg → S → Option (T × S)} {as : List DV.Arg} : callSK rf (some (as, s)) = retTS (rf as s) := id rfl
def retI (s : S) : Option (List D) → Option (List D × S)
  | some ds => some (ds, s)
  | none => none
@[simp] theorem retI_s : retI s (some ds) = some (ds, s) := id rfl
def itK : Option (Rv × S) → Option (List D × S)
  | some (.t t, s') => retI s' (dItems t.d)
  | _ => none
@[simp] theorem ev_it : mIt m g s = itK (m g s) := by
  unfold mIt itK
  rcases m g s with _ | ⟨_ | _, s1⟩ <;> try rfl
  simp only
  rename_i t
  cases dItems t.d <;> rfl
@[simp] theorem itK_s : itK (some (.t t, s)) = retI s (dItems t.d) := id rfl
@[simp] theorem dItems_l : dItems (.list ds) = some ds := id rfl
@[simp] theorem dItems_t : dItems (.tuple ds) = some ds := id rfl
@[simp] theorem dItems_s {k : Str} : dItems (.str k) = some (k.cps.toList.map fun c => .str ⟨#[c]⟩) := id rfl
def rng1K : Option (List Rv × S) → Option (List D × S)
  | some ([x], s') => match x.d with
    | .int j => if ok62 j then some (rngD 0 j.toNat, s') else none
    | _ => none
  | _ => none
@[simp] theorem ev_rng1 : mRng1 ms g s = rng1K (ms g s) := id rfl
@[simp] theorem rng1K_s {j : Int} : rng1K (some ([.t (.fz (.int j))], s)) = if ok62 j then some (rngD 0 j.toNat, s) else none := by
  unfold rng1K; simp only [rvd_t, T.d_fz]
def rng2K : Option (List Rv × S) → Option (List D × S)
  | some ([x, y], s') => match x.d, y.d with
    | .int i, .int j => if ok62 i && ok62 j then some (rngD i (j - i).toNat, s') else none
    | _, _ => none
  | _ => none
@[simp] theorem ev_rng2 : mRng2 ms g s = rng2K (ms g s) := id rfl
@[simp] theorem rng2K_s {j k : Int} : rng2K (some ([.t (.fz (.int j)), .t (.fz (.int k))], s)) = if ok62 j && ok62 k then some (rngD j (k - j).toNat, s) else none := by
  unfold rng2K; simp only [rvd_t, T.d_fz]
theorem ok62_of {k : Int} (h : -1000000000000 ≤ k ∧ k ≤ 1000000000000) : ok62 k = true := decide_eq_true ⟨by omega, by omega⟩
@[simp] theorem ok62_le {k : Int} (h1 : -1000000000000 ≤ k) (h2 : k ≤ 1000000000000) : ok62 k = true := ok62_of ⟨h1, h2⟩
@[simp] theorem sm64_le {k : Int} (h1 : -1000000000000000000 ≤ k) (h2 : k ≤ 1000000000000000000) : sm64 k = true := decide_eq_true ⟨by omega, by omega⟩
@[simp] theorem ev_rngD {lo : Int} {k : Nat} : rngD lo k = (List.range k).map fun (i : Nat) => PyData.int (lo + (i : Int)) := id rfl
def enumK : Option (List Rv × S) → Option (List D × S)
  | some ([.t (.fz (.list ds))], s') => some (pairI ds, s')
  | _ => none
@[simp] theorem ev_enum : mEnum ms g s = enumK (ms g s) := id rfl
@[simp] theorem enumK_s : enumK (some ([.t (.fz (.list ds))], s)) = some (pairI ds, s) := id rfl
@[simp] theorem ev_pairI {α : Type} (f : α → D) (l : List α) : pairI (l.map f) = l.zipIdx.map fun (p : α × Nat) => PyData.tuple [.int (p.2 : Nat), f p.1] := by
  unfold pairI
  rw [List.zipIdx_map, List.map_map]; rfl
def zipK : Option (List Rv × S) → Option (List D × S)
  | some ([.t (.fz (.list xs)), .t (.fz (.list ys))], s') => some (List.zipWith (fun x y => .tuple [x, y]) xs ys, s')
  | some ([.t (.fz (.tuple xs)), .t (.fz (.tuple ys))], s') => some (List.zipWith (fun x y => .tuple [x, y]) xs ys, s')
  | _ => none
@[simp] theorem ev_zip : mZip ms g s = zipK (ms g s) := id rfl
@[simp] theorem zipK_l {xs ys : List D} : zipK (some ([.t (.fz (.list xs)), .t (.fz (.list ys))], s)) = some (List.zipWith (fun x y => .tuple [x, y]) xs ys, s) := id rfl
@[simp] theorem zipK_t {xs ys : List D} : zipK (some ([.t (.fz (.tuple xs)), .t (.fz (.tuple ys))], s)) = some (List.zipWith (fun x y => .tuple [x, y]) xs ys, s) := id rfl
@[simp] theorem zw_map {α β : Type} (f : α → D) (h : β → D) : ∀ (l : List α) (k : List β), List.zipWith (fun x y => PyData.tuple [x, y]) (l.map f) (k.map h) = (l.zip k).map fun p => .tuple [f p.1, h p.2]
  | [], _ => by simp
  | _ :: _, [] => by simp
  | a :: l, b :: k => by simp [zw_map f h l k]
@[simp] theorem zw_tail {α β : Type} (f : α → D) (h : β → D) (l : List α) (k : List β) : List.zipWith (fun x y => PyData.tuple [x, y]) (l.map f) (k.map h).tail = (l.zip k.tail).map fun p => .tuple [f p.1, h p.2] := by
  have e : (k.map h).tail = k.tail.map h := by cases k <;> rfl
  rw [e, zw_map]
def forK (tg : Tg) (mb : MSt) (g : Gm) : Option (List D × S) → Res
  | some (ds, s1) => forL tg mb ds g s1
  | none => none
@[simp] theorem ev_for : mFor tg mi n g s = forK tg n g (mi g s) := by
  unfold mFor forK
  rcases mi g s with _ | ⟨_, _⟩ <;> rfl
@[simp] theorem forK_s : forK tg n g (some (ds, s)) = forL tg n ds g s := id rfl
@[simp] theorem forL_nil : forL tg n [] g s = some (.nx, g, s) := by rw [forL]
def forK3 (tg : Tg) (mb : MSt) (ds : List D) : Res → Res
  | some (.nx, g2, s2) => forL tg mb ds g2 s2
  | some (.ct, g2, s2) => forL tg mb ds g2 s2
  | some (.bk, g2, s2) => some (.nx, g2, s2)
  | r => r
def forK2 (tg : Tg) (mb : MSt) (ds : List D) (s : S) : Option Gm → Res
  | some g1 => forK3 tg mb ds (mb g1 s)
  | none => none
/-- one turn (not by simp) -/
theorem forL_cons : forL tg n (d :: ds) g s = forK2 tg n ds s (bind tg d g) := by
  rw [forL]
  unfold forK2
  rcases bind tg d g with _ | g1 <;> try rfl
@[simp] theorem forK2_s : forK2 tg n ds s (some g) = forK3 tg n ds (n g s) := id rfl
@[simp] theorem forK3_nx : forK3 tg n ds (some (.nx, g, s)) = forL tg n ds g s := id rfl
@[simp] theorem forK3_ct : forK3 tg n ds (some (.ct, g, s)) = forL tg n ds g s := id rfl
@[simp] theorem forK3_bk : forK3 tg n ds (some (.bk, g, s)) = some (.nx, g, s) := id rfl
@[simp] theorem forK3_rt : forK3 tg n ds (some (.rt t, g, s)) = some (.rt t, g, s) := id rfl
@[simp] theorem forK3_none : forK3 tg n ds none = none := id rfl
@[simp] theorem forK3_ite {p : Prop} [Decidable p] {a b : Res} : forK3 tg n ds (if p then a else b) = if p then forK3 tg n ds a else forK3 tg n ds b := by split <;> rfl
@[simp] theorem wipe_nil : wipeG g [] = g := id rfl
@[simp] theorem wipe_cons : wipeG g (i :: vs) = (wipeG g vs).set i none := id rfl
/-- an item: forgotten, or what it gives -/
abbrev StF (α : Type) := α → S → Option (Option T × S)
def lcF {α : Type} (F : StF α) : List α → S → Option (List T × S)
  | [], s => some ([], s)
  | a :: l, s => match F a s with
    | some (some t, s1) => (lcF F l s1).map fun p => (t :: p.1, p.2)
    | some (none, s1) => lcF F l s1
    | none => none
def lcK4 {α : Type} (F : StF α) (l : List α) : Option (Option T × S) → Option (List T × S)
  | some (o, s1) => (lcF F l s1).map fun p => (o.toList ++ p.1, p.2)
  | none => none
@[simp] theorem lcF_nil {α : Type} (F : StF α) {s : S} : lcF F [] s = some ([], s) := id rfl
@[simp] theorem lcF_cons {α : Type} (F : StF α) (a : α) (l : List α) {s : S} : lcF F (a :: l) s = lcK4 F l (F a s) := by
  rw [lcF]
  unfold lcK4
  rcases F a s with _ | ⟨_ | t, s1⟩ <;> try rfl
  simp only
  rcases lcF F l s1 with _ | ⟨_, _⟩ <;> rfl
@[simp] theorem lcK4_s {α : Type} (F : StF α) (l : List α) {o : Option T} {s : S} : lcK4 F l (some (o, s)) = (lcF F l s).map fun p => (o.toList ++ p.1, p.2) := id rfl
def stK3 : Option (Rv × S) → Option (Option T × S)
  | some (.t t, s) => some (some t, s)
  | _ => none
def stK2 (me : ME) (g : Gm) : Option (Rv × S) → Option (Option T × S)
  | some (.t (.fz (.bool b)), s) => if b = true then stK3 (me g s) else some (none, s)
  | _ => none
def stK1 (mt me : ME) (s : S) : Option Gm → Option (Option T × S)
  | some g1 => stK2 me g1 (mt g1 s)
  | none => none
@[simp] theorem stK1_s : stK1 mt me s (some g) = stK2 me g (mt g s) := id rfl
@[simp] theorem stK2_s : stK2 me g (some (.t (.fz (.bool b)), s)) = if b = true then stK3 (me g s) else some (none, s) := id rfl
@[simp] theorem stK3_s : stK3 (some (.t t, s)) = some (some t, s) := id rfl
@[simp] theorem stK3_ite {p : Prop} [Decidable p] {a b : Option (Rv × S)} : stK3 (if p then a else b) = if p then stK3 a else stK3 b := by split <;> rfl
theorem lcL_F {α : Type} (f : α → D) : ∀ (l : List α) (s : S), lcL tg mt me g (l.map f) s = lcF (fun a s => stK1 mt me s (bind tg (f a) g)) l s
  | [], s => rfl
  | a :: l, s => by
    rw [List.map_cons, lcL, lcF]
    rcases bind tg (f a) g with _ | g1 <;> try rfl
    simp only [stK1]
    rcases mt g1 s with _ | ⟨r, s1⟩ <;> try rfl
    rcases r with t | t <;> try rfl
    rcases t with d | _ | _ | _ <;> try rfl
    rcases d with _ | b | _ | _ | _ | _ | _ <;> try rfl
    cases b
    · simp only [stK2]
      exact lcL_F f l s1
    · simp only [stK2, if_true]
      rcases me g1 s1 with _ | ⟨r, s2⟩ <;> try rfl
      rcases r with t | t <;> try rfl
      simp only [stK3]
      rw [lcL_F f l s2]
      show _ = Option.map _ (lcF (fun a s => stK1 mt me s (bind tg (f a) g)) l s2)
      rcases lcF (fun a s => stK1 mt me s (bind tg (f a) g)) l s2 with _ | ⟨_, _⟩ <;> rfl
/-- a comprehension over the items, each known to be one of them -/
theorem lcF_att {α : Type} (F : StF α) (l : List α) (s : S) : lcF (fun (a : {x // x ∈ l}) s => F a.1 s) l.attach s = lcF F l s := by
  have key : ∀ (m : List {x // x ∈ l}) (s : S), lcF (fun (a : {x // x ∈ l}) s => F a.1 s) m s = lcF F (m.map (·.1)) s := by
    intro m
    induction m with
    | nil => intro s; rfl
    | cons a m ih =>
      intro s
      rw [List.map_cons, lcF, lcF]
      rcases F a.1 s with _ | ⟨_ | t, s1⟩ <;> try rfl
      · exact ih s1
      · simp only [ih s1]
  rw [key, List.attach_map_subtype_val]
def lcD {α : Type} (l : List α) (F : (a : α) → a ∈ l → S → Option (Option T × S)) (s : S) : Option (List T × S) := lcF (fun (a : {x // x ∈ l}) s => F a.1 a.2 s) l.attach s
theorem lcD_F {α : Type} (l : List α) (F : StF α) (s : S) : lcD l (fun a _ s => F a s) s = lcF F l s := lcF_att F l s
@[simp] theorem ev_lcL {α : Type} (f : α → D) (l : List α) : lcL tg mt me g (l.map f) s = lcD l (fun a _ s => stK1 mt me s (bind tg (f a) g)) s := by
  rw [lcL_F f l s, ← lcD_F]
@[simp] theorem ev_lcLt {α : Type} (f : α → D) (l : List α) : lcL tg mt me g (l.map f).tail s = lcD l.tail (fun a _ s => stK1 mt me s (bind tg (f a) g)) s := by
  have e : (l.map f).tail = l.tail.map f := by cases l <;> rfl
  rw [e, lcL_F f l.tail s, ← lcD_F]
@[simp] theorem ev_lcLz {α β : Type} (h : α → β → D) (l : List α) (k : List β) : lcL tg mt me g (List.zipWith h l k) s = lcD (l.zip k) (fun q _ s => stK1 mt me s (bind tg (h q.1 q.2) g)) s := by
  have e : List.zipWith h l k = (l.zip k).map fun q => h q.1 q.2 := by rw [List.zip, List.map_zipWith]
  rw [e, lcL_F, ← lcD_F]
@[simp] theorem ev_lcL0 : lcL tg mt me g [] s = some ([], s) := by rw [lcL]
@[simp] theorem ev_lcL1 : lcL tg mt me g (d :: ds) s = lcF (fun a s => stK1 mt me s (bind tg a g)) (d :: ds) s := by
  have := lcL_F (tg := tg) (mt := mt) (me := me) (g := g) id (d :: ds) s
  rwa [List.map_id] at this
theorem lcF_cong {α : Type} {F F' : StF α} {l : List α} (h : ∀ a ∈ l, ∀ s, F a s = F' a s) (s : S) : lcF F l s = lcF F' l s := by
  induction l generalizing s with
  | nil => rfl
  | cons a l ih =>
    rw [lcF, lcF, h a List.mem_cons_self]
    rcases F' a s with _ | ⟨_ | t, s1⟩ <;> try rfl
    · exact ih (fun b hb => h b (List.mem_cons_of_mem _ hb)) s1
    · simp only
      rw [ih (fun b hb => h b (List.mem_cons_of_mem _ hb)) s1]
theorem lcF_congr {α : Type} {F F' : StF α} {l l' : List α} {s s' : S} (hl : l = l') (hs : s = s') (h : ∀ a, a ∈ l' → ∀ s, F a s = F' a s) : lcF F l s = lcF F' l' s' := by
  subst hl; subst hs; exact lcF_cong h s
theorem lcF_is {α : Type} {F : StF α} {l : List α} {s : S} (o : α → Option T) (h : ∀ a ∈ l, F a s = some (o a, s)) : lcF F l s = some (l.filterMap o, s) := by
  induction l with
  | nil => rfl
  | cons a l ih =>
    rw [lcF, h a List.mem_cons_self]
    have := ih fun b hb => h b (List.mem_cons_of_mem _ hb)
    cases e : o a with
    | none => simp only [List.filterMap_cons, e]; exact this
    | some t => simp only [List.filterMap_cons, e, this]; rfl
theorem lcF_all {α : Type} (f : α → T) (l : List α) : lcF (fun a s => some (some (f a), s)) l s = some (l.map f, s) := by
  rw [lcF_is (fun a => some (f a)) fun _ _ => rfl]
  exact congrArg (fun l => some (l, s)) (congrFun List.filterMap_eq_map l)
theorem fm_if {α β : Type} (p : α → Bool) (f : α → β) (l : List α) : (l.filterMap fun a => if p a = true then some (f a) else none) = (l.filter p).map f := by
  induction l with
  | nil => rfl
  | cons a l ih => cases h : p a <;> simp [h, ih]
theorem lcF_some {α : Type} (p : α → Prop) [DecidablePred p] (f : α → T) (l : List α) : lcF (fun a s => if p a then some (some (f a), s) else some (none, s)) l s = some ((l.filter fun a => decide (p a)).map f, s) := by
  rw [lcF_is (fun a => if decide (p a) = true then some (f a) else none), fm_if]
  intro a _
  by_cases h : p a <;> simp [h]
theorem lcF_ite {α : Type} (p : α → Prop) [DecidablePred p] (f : α → T) (l : List α) : lcF (fun a s => some (if p a then some (f a) else none, s)) l s = some ((l.filter fun a => decide (p a)).map f, s) := by
  rw [lcF_is (fun a => if p a then some (f a) else none) fun _ _ => rfl]
  congr 2
  rw [← fm_if]
  congr 1
  funext a
  by_cases h : p a <;> simp [h]
theorem lcF_none {α : Type} (l : List α) : lcF (fun _ s => some (none, s)) l s = some ([], s) := by
  rw [lcF_is (fun _ => none) fun _ _ => rfl]; simp
@[simp] theorem ite_st {p : Prop} [Decidable p] {a b : Option T} : (if p then some (a, s) else some (b, s)) = some (if p then a else b, s) := by split <;> rfl
@[simp] theorem fm_all {α β : Type} (f : α → β) (l : List α) : (l.filterMap fun a => some (f a)) = l.map f := congrFun List.filterMap_eq_map l
@[simp] theorem fm_ifs {α β : Type} (p : α → Prop) [DecidablePred p] (f : α → β) (l : List α) : (l.filterMap fun a => if p a then some (f a) else none) = (l.filter fun a => decide (p a)).map f := by
  rw [← fm_if]
  congr 1
  funext a
  by_cases h : p a <;> simp [h]
@[simp] theorem lcD_all {α : Type} (f : α → T) (l : List α) : lcD l (fun a _ s => some (some (f a), s)) s = some (l.map f, s) := (lcD_F l _ s).trans (lcF_all f l)
theorem lcD_is {α : Type} {l : List α} {F : (a : α) → a ∈ l → S → Option (Option T × S)} (o : α → Option T) (h : ∀ a ha, F a ha s = some (o a, s)) : lcD l F s = some (l.filterMap o, s) := by
  have := lcF_is (F := fun (a : {x // x ∈ l}) s => F a.1 a.2 s) (l := l.attach) (s := s) (fun a => o a.1) fun a _ => h a.1 a.2
  unfold lcD
  rw [this]
  have e : l.attach.filterMap (fun a => o a.1) = (l.attach.map (·.1)).filterMap o := by rw [List.filterMap_map]; rfl
  rw [e, List.attach_map_subtype_val]
def lcK2 : Option (List T × S) → Option (Rv × S)
  | some (ts, s2) => some (.t (.lst ts), s2)
  | none => none
@[simp] theorem lcD_ite {α : Type} (p : α → Prop) [DecidablePred p] (f : α → T) (l : List α) : lcD l (fun a _ s => some (if p a then some (f a) else none, s)) s = some ((l.filter fun a => decide (p a)).map f, s) := (lcD_F l _ s).trans (lcF_ite p f l)
@[simp] theorem lcD_none {α : Type} (l : List α) : lcD l (fun _ _ s => some (none, s)) s = some ([], s) := (lcD_F l _ s).trans (lcF_none l)
def lcK (tg : Tg) (mt me : ME) (g : Gm) : Option (List D × S) → Option (Rv × S)
  | some (ds, s1) => if ltLen ds.length then lcK2 (lcL tg mt me g ds s1) else none
  | none => none
@[simp] theorem ev_lc : mLc vs tg mi mt me g s = lcK tg mt me (wipeG g vs) (mi g s) := by
  unfold mLc lcK
  rcases mi g s with _ | ⟨ds, s1⟩ <;> try rfl
@[simp] theorem lcK_s : lcK tg mt me g (some (ds, s)) = if ltLen ds.length then lcK2 (lcL tg mt me g ds s) else none := id rfl
@[simp] theorem lcK2_s : lcK2 (some (ts, s)) = some (.t (.lst ts), s) := id rfl
@[simp] theorem ev_yes : mYes g s = some (.t (.fz (.bool true)), s) := id rfl
end
end DV

namespace DV
open PySem PySem.Spec PyProof.Rows L2
section
variable {g g1 : Gm} {s s1 s2 : S} {m ma mb mc me mt mk mv : ME} {ms : MA} {ml mh : MO} {n n1 n2 : MSt} {mi : MI} {i : Nat} {t u : T} {d x y z : D} {r : Rv} {rs : List Rv} {ts : List T} {ds : List D} {b c : Bool} {mp : MP} {tg : Tg} {vs : List Nat} {α : Type}
@[simp] theorem eqv_ss (a b : Str) : PyData.eqv (.str a) (.str b) = decide (a = b) := eqv_str a b
@[simp] theorem eqv_ii (a b : Int) : PyData.eqv (.int a) (.int b) = decide (a = b) := by simp [PyData.eqv, Bool.beq_eq_decide_eq]
@[simp] theorem eqv_si (a : Str) (b : Int) : PyData.eqv (.str a) (.int b) = false := by simp [PyData.eqv]
@[simp] theorem eqv_is (a : Str) (b : Int) : PyData.eqv (.int b) (.str a) = false := by simp [PyData.eqv]
@[simp] theorem eqv_bb (a b : Bool) : PyData.eqv (.bool a) (.bool b) = decide (a = b) := by simp [PyData.eqv, Bool.beq_eq_decide_eq]
@[simp] theorem eqv_tt (a b : List D) : PyData.eqv (.tuple a) (.tuple b) = PyData.eqvAll a b := by simp [PyData.eqv]
@[simp] theorem eqv_ll (a b : List D) : PyData.eqv (.list a) (.list b) = PyData.eqvAll a b := by simp [PyData.eqv]
@[simp] theorem eqvAll_nn : PyData.eqvAll [] [] = true := by simp [PyData.eqvAll]
@[simp] theorem eqvAll_cc (a b : List D) : PyData.eqvAll (x :: a) (y :: b) = (PyData.eqv x y && PyData.eqvAll a b) := by simp [PyData.eqvAll]
@[simp] theorem eqvAll_nc (a : List D) : PyData.eqvAll [] (x :: a) = false := by simp [PyData.eqvAll]
@[simp] theorem eqvAll_cn (a : List D) : PyData.eqvAll (x :: a) [] = false := by simp [PyData.eqvAll]
/-- rows of like things -/
theorem eqvAll_map {β : Type} (f : α → D) (h : β → D) (p : α → β → Bool) (e : ∀ a b, PyData.eqv (f a) (h b) = p a b) : ∀ (l : List α) (k : List β), PyData.eqvAll (l.map f) (k.map h) = (l.length == k.length && (l.zip k).all fun q => p q.1 q.2)
  | [], [] => by simp
  | [], b :: k => by simp
  | a :: l, [] => by simp
  | a :: l, b :: k => by
    rw [List.map_cons, List.map_cons, eqvAll_cc, e, eqvAll_map f h p e l k, List.zip_cons_cons, List.all_cons]
    simp only [List.length_cons]
    have : (l.length + 1 == k.length + 1) = (l.length == k.length) := by
      rw [Bool.eq_iff_iff, beq_iff_eq, beq_iff_eq]; omega
    rw [this, ← Bool.and_assoc, ← Bool.and_assoc, Bool.and_comm (p a b)]
theorem all_zip_eq [DecidableEq α] : ∀ (l k : List α), (l.length == k.length && (l.zip k).all fun q => decide (q.1 = q.2)) = decide (l = k)
  | [], [] => by simp
  | [], b :: k => by simp
  | a :: l, [] => by simp
  | a :: l, b :: k => by
    have ih := all_zip_eq l k
    rw [List.zip_cons_cons, List.all_cons]
    simp only [List.length_cons]
    have e : (l.length + 1 == k.length + 1) = (l.length == k.length) := by
      rw [Bool.eq_iff_iff, beq_iff_eq, beq_iff_eq]; omega
    rw [e]
    simp only [List.cons.injEq, Bool.decide_and]
    rw [← ih, ← Bool.and_assoc, ← Bool.and_assoc, Bool.and_comm (decide (a = b))]
theorem eqvAll_inj [DecidableEq α] (f : α → D) (e : ∀ a b, PyData.eqv (f a) (f b) = decide (a = b)) (l k : List α) : PyData.eqvAll (l.map f) (k.map f) = decide (l = k) := by
  rw [eqvAll_map f f _ e, all_zip_eq]
@[simp] theorem eqvAll_ints (l k : List Int) : PyData.eqvAll (l.map .int) (k.map .int) = decide (l = k) := eqvAll_inj _ eqv_ii l k
@[simp] theorem eqvAll_strs (l k : List Str) : PyData.eqvAll (l.map .str) (k.map .str) = decide (l = k) := eqvAll_inj _ eqv_ss l k
@[simp] theorem dEq_ii (a b : Int) : dEq (.int a) (.int b) = some (decide (a = b)) := by
  show some (PyData.eqv _ _) = _; rw [eqv_ii]
@[simp] theorem dEq_ss (a b : Str) : dEq (.str a) (.str b) = some (decide (a = b)) := by
  show some (PyData.eqv _ _) = _; rw [eqv_ss]
@[simp] theorem dEq_bb (a b : Bool) : dEq (.bool a) (.bool b) = some (decide (a = b)) := by
  show some (PyData.eqv _ _) = _; rw [eqv_bb]
@[simp] theorem dNe_eq : dNe x y = (dEq x y).map not := id rfl
@[simp] theorem dLt_ii (a b : Int) : dLt (.int a) (.int b) = some (decide (a < b)) := id rfl
@[simp] theorem dGt_ii (a b : Int) : dGt (.int a) (.int b) = some (decide (b < a)) := id rfl
@[simp] theorem dLe_ii (a b : Int) : dLe (.int a) (.int b) = some (decide (a ≤ b)) := id rfl
@[simp] theorem dGe_ii (a b : Int) : dGe (.int a) (.int b) = some (decide (b ≤ a)) := id rfl
@[simp] theorem dLt_ss (a b : Str) : dLt (.str a) (.str b) = some (decide (a.cps.toList < b.cps.toList)) := id rfl
@[simp] theorem dGt_ss (a b : Str) : dGt (.str a) (.str b) = some (decide (b.cps.toList < a.cps.toList)) := id rfl
@[simp] theorem dLe_ss (a b : Str) : dLe (.str a) (.str b) = some (!decide (b.cps.toList < a.cps.toList)) := id rfl
@[simp] theorem dGe_ss (a b : Str) : dGe (.str a) (.str b) = some (!decide (a.cps.toList < b.cps.toList)) := id rfl
theorem dIn_l (h : layS x = true) (h2 : PyData.canLayAll0 ds = true) : dIn x (.list ds) = some (ds.any fun z => PyData.eqv z x) := by
  unfold dIn; simp [h, h2]
theorem dIn_t (h : layS x = true) (h2 : PyData.canLayAll0 ds = true) : dIn x (.tuple ds) = some (ds.any fun z => PyData.eqv z x) := by
  unfold dIn; simp [h, h2]
@[simp] theorem layS_s {k : Str} (h : PyData.strOk k = true) : layS (.str k) = true := by
  unfold layS; simp [PyData.canLay0, h, PyData.depth]
@[simp] theorem layS_i {k : Int} : layS (.int k) = true := id rfl
theorem canLay_strs : ∀ {l : List Str}, (∀ x ∈ l, PyData.strOk x = true) → PyData.canLayAll0 (l.map .str) = true
  | [], _ => rfl
  | a :: l, h => by
    have := canLay_strs fun x hx => h x (List.mem_cons_of_mem _ hx)
    simp [PyData.canLayAll0, PyData.canLay0, this, h a List.mem_cons_self]
theorem canLay_ints : ∀ l : List Int, PyData.canLayAll0 (l.map .int) = true
  | [] => rfl
  | a :: l => by
    have := canLay_ints l
    simp [PyData.canLayAll0, PyData.canLay0, this]
theorem any_eq [DecidableEq α] (l : List α) (a : α) : (l.any fun z => decide (z = a)) = decide (a ∈ l) := by
  rw [Bool.eq_iff_iff]; simp
@[simp] theorem dIn_strs {k : Str} {l : List Str} (hk : PyData.strOk k = true) (hl : ∀ x ∈ l, PyData.strOk x = true) : dIn (.str k) (.list (l.map .str)) = some (decide (k ∈ l)) := by
  rw [dIn_l (layS_s hk) (canLay_strs hl), List.any_map]
  exact congrArg some ((congrArg l.any (funext fun z => eqv_ss z k)).trans (any_eq l k))
@[simp] theorem dIn_strsT {k : Str} {l : List Str} (hk : PyData.strOk k = true) (hl : ∀ x ∈ l, PyData.strOk x = true) : dIn (.str k) (.tuple (l.map .str)) = some (decide (k ∈ l)) := by
  rw [dIn_t (layS_s hk) (canLay_strs hl), List.any_map]
  exact congrArg some ((congrArg l.any (funext fun z => eqv_ss z k)).trans (any_eq l k))
@[simp] theorem dIn_ints {k : Int} {l : List Int} : dIn (.int k) (.list (l.map .int)) = some (decide (k ∈ l)) := by
  rw [dIn_l rfl (canLay_ints l), List.any_map]
  exact congrArg some ((congrArg l.any (funext fun z => eqv_ii z k)).trans (any_eq l k))
@[simp] theorem dIn_intsT {k : Int} {l : List Int} : dIn (.int k) (.tuple (l.map .int)) = some (decide (k ∈ l)) := by
  rw [dIn_t rfl (canLay_ints l), List.any_map]
  exact congrArg some ((congrArg l.any (funext fun z => eqv_ii z k)).trans (any_eq l k))
theorem keysK_strs (k : α → Str) (v : α → D) (l : List α) : keysK (l.map fun a => (PyData.str (k a), v a)) = true := by
  unfold keysK; rw [List.all_map, List.all_eq_true]; intro a _; rfl
@[simp] theorem keysK1_strs (k : α → Str) (v : α → D) (l : List α) : keysK1 (l.map fun a => (PyData.str (k a), v a)) = true := keysK_strs k v l
/-- what a row has for a name -/
@[simp] theorem dLook_gen (k : α → Str) (v : α → D) (l : List α) (x : Str) : dLook (l.map fun a => (PyData.str (k a), v a)) (.str x) = (l.find? fun a => decide (k a = x)).map v := by
  unfold dLook
  induction l with
  | nil => rfl
  | cons a l ih =>
    rw [List.map_cons, List.find?_cons, List.find?_cons]
    simp only [eqv_ss]
    cases decide (k a = x)
    · exact ih
    · rfl
theorem find_mem (k : α → Str) {l : List α} {a : α} (nd : (l.map k).Nodup) (h : a ∈ l) : (l.find? fun b => decide (k b = k a)) = some a := by
  induction l with
  | nil => cases h
  | cons c l ih =>
    rw [List.map_cons, List.nodup_cons] at nd
    rw [List.find?_cons]
    rcases List.mem_cons.mp h with e | h
    · cases e; simp
    · have ne : k c ≠ k a := fun z => nd.1 (by rw [z]; exact List.mem_map_of_mem h)
      simp only [decide_eq_false ne]
      exact ih nd.2 h
theorem find_pair {β : Type} {l : List (Str × β)} {x : Str} {b : β} (nd : (l.map (·.1)).Nodup) (h : (x, b) ∈ l) : (l.find? fun a => decide (a.1 = x)) = some (x, b) := find_mem (fun p : Str × β => p.1) nd h
theorem find_isSome (k : α → Str) (l : List α) (x : Str) : (l.find? fun a => decide (k a = x)).isSome = decide (x ∈ l.map k) := by
  rw [Bool.eq_iff_iff, List.find?_isSome]
  simp
theorem find_some (k : α → Str) {l : List α} {x : Str} (h : x ∈ l.map k) : ∃ a, (l.find? fun a => decide (k a = x)) = some a ∧ a ∈ l ∧ k a = x := by
  have := find_isSome k l x
  rw [decide_eq_true h] at this
  obtain ⟨a, e⟩ := Option.isSome_iff_exists.mp this
  have h1 := List.find?_some e
  exact ⟨a, e, List.mem_of_find?_eq_some e, by simpa using h1⟩
@[simp] theorem dIn_dict (k : α → Str) (v : α → D) (l : List α) (x : Str) : dIn (.str x) (.dict (l.map fun a => (PyData.str (k a), v a))) = some (decide (x ∈ l.map k)) := by
  unfold dIn
  have := keysK_strs k v l
  simp only [kOf, Option.isSome_some, Bool.true_and, this, if_true, dLook_gen, Option.isSome_map, find_isSome]
def dKeys (l : List (D × D)) : List D := l.map (·.1)
def dVals (l : List (D × D)) : List D := l.map (·.2)
def dItms (l : List (D × D)) : List D := l.map fun p => .tuple [p.1, p.2]
@[simp] theorem dKeys_map (k v : α → D) (l : List α) : dKeys (l.map fun a => (k a, v a)) = l.map k := by unfold dKeys; rw [List.map_map]; rfl
@[simp] theorem dVals_map (k v : α → D) (l : List α) : dVals (l.map fun a => (k a, v a)) = l.map v := by unfold dVals; rw [List.map_map]; rfl
@[simp] theorem dItms_map (k v : α → D) (l : List α) : dItms (l.map fun a => (k a, v a)) = l.map fun a => .tuple [k a, v a] := by unfold dItms; rw [List.map_map]; rfl
def keysMK (s : S) : Option (Option Sl) → Option (List D × S)
  | some (some (.t (.fz (.dict l)))) => if keysK1 l then some (dKeys l, s) else none
  | _ => none
@[simp] theorem ev_keys : mKeys i g s = keysMK s g[i]? := id rfl
@[simp] theorem keysMK_s {l : List (D × D)} : keysMK s (some (some (.t (.fz (.dict l))))) = if keysK1 l then some (dKeys l, s) else none := id rfl
def valsMK (s : S) : Option (Option Sl) → Option (List D × S)
  | some (some (.t (.fz (.dict l)))) => if keysK1 l then some (dVals l, s) else none
  | _ => none
@[simp] theorem ev_vals : mVals i g s = valsMK s g[i]? := id rfl
@[simp] theorem valsMK_s {l : List (D × D)} : valsMK s (some (some (.t (.fz (.dict l))))) = if keysK1 l then some (dVals l, s) else none := id rfl
def itmsMK (s : S) : Option (Option Sl) → Option (List D × S)
  | some (some (.t (.fz (.dict l)))) => if keysK1 l then some (dItms l, s) else none
  | _ => none
@[simp] theorem ev_items : mItems i g s = itmsMK s g[i]? := id rfl
@[simp] theorem itmsMK_s {l : List (D × D)} : itmsMK s (some (some (.t (.fz (.dict l))))) = if keysK1 l then some (dItms l, s) else none := id rfl
def bK2 (s : S) : Option D → Option (Rv × S)
  | some d => if D.sc d then some (.t (.fz d), s) else none
  | none => none
def bK (f : List D → Option D) : Option (List Rv × S) → Option (Rv × S)
  | some (rs, s1) => bK2 s1 (f (rdl rs))
  | none => none
@[simp] theorem ev_B {f : List D → Option D} : mB f ms g s = bK f (ms g s) := by
  unfold mB bK
  rcases ms g s with _ | ⟨rs, s1⟩ <;> try rfl
@[simp] theorem bK_s {f : List D → Option D} : bK f (some (rs, s)) = bK2 s (f (rdl rs)) := id rfl
@[simp] theorem bK2_i {k : Int} : bK2 s (some (.int k)) = some (.t (.fz (.int k)), s) := id rfl
@[simp] theorem bK2_b : bK2 s (some (.bool b)) = some (.t (.fz (.bool b)), s) := id rfl
@[simp] theorem rdl_nil : rdl [] = [] := id rfl
@[simp] theorem rdl_cons : rdl (r :: rs) = r.d :: rdl rs := id rfl
@[simp] theorem bLen_l : bLen [.list ds] = some (.int (ds.length : Nat)) := id rfl
@[simp] theorem bLen_t : bLen [.tuple ds] = some (.int (ds.length : Nat)) := id rfl
@[simp] theorem bLen_d {l : List (D × D)} : bLen [.dict l] = if keysK1 l then some (.int (l.length : Nat)) else none := id rfl
@[simp] theorem bLen_s {k : Str} : bLen [.str k] = if lenOk k.length then some (.int (k.length : Nat)) else none := id rfl
@[simp] theorem bAbs_i {k : Int} : bAbs [.int k] = some (.int (k.natAbs : Nat)) := by
  show some (PyData.int (if k < 0 then -k else k)) = _
  congr 2; split <;> omega
@[simp] theorem bMax2_i {j k : Int} : bMax2 [.int j, .int k] = some (.int (max j k)) := by
  show some (PyData.int (if k > j then k else j)) = _
  congr 2; split <;> omega
@[simp] theorem bMin2_i {j k : Int} : bMin2 [.int j, .int k] = some (.int (min j k)) := by
  show some (PyData.int (if k < j then k else j)) = _
  congr 2; split <;> omega
@[simp] theorem bInt_i {k : Int} : bInt [.int k] = some (.int k) := id rfl
@[simp] theorem bInt_b : bInt [.bool b] = some (.int (if b then 1 else 0)) := id rfl
theorem intsOf_mp (f : α → Int) (l : List α) : intsOf (l.map fun a => PyData.int (f a)) = some (l.map f) := by
  induction l with
  | nil => rfl
  | cons a l ih => rw [List.map_cons, intsOf, ih]; rfl
theorem blsOf_mp (f : α → Bool) (l : List α) : blsOf (l.map fun a => PyData.bool (f a)) = some (l.map f) := by
  induction l with
  | nil => rfl
  | cons a l ih => rw [List.map_cons, blsOf, ih]; rfl
@[simp] theorem intsOf_n : intsOf [] = some [] := id rfl
@[simp] theorem intsOf_c {k : Int} : intsOf (.int k :: ds) = (intsOf ds).map (k :: ·) := id rfl
@[simp] theorem blsOf_n : blsOf [] = some [] := id rfl
@[simp] theorem blsOf_c : blsOf (.bool b :: ds) = (blsOf ds).map (b :: ·) := id rfl
@[simp] theorem intsOf_mps (f : α → Int) (l : List α) : intsOf (l.map fun a => PyData.int (f a)) = some (l.map f) := intsOf_mp f l
@[simp] theorem blsOf_mps (f : α → Bool) (l : List α) : blsOf (l.map fun a => PyData.bool (f a)) = some (l.map f) := blsOf_mp f l
@[simp] theorem intsOf_mp' (l : List Int) : intsOf (l.map PyData.int) = some l := by have := intsOf_mp id l; simpa using this
@[simp] theorem blsOf_mp' (l : List Bool) : blsOf (l.map PyData.bool) = some l := by have := blsOf_mp id l; simpa using this
@[simp] theorem ev_bSum : bSum [.list ds] = (intsOf ds).map fun ns => .int ns.sum := id rfl
@[simp] theorem ev_bAll : bAll [.list ds] = (blsOf ds).map fun ns => .bool (ns.all id) := id rfl
@[simp] theorem ev_bAny : bAny [.list ds] = (blsOf ds).map fun ns => .bool (ns.any id) := id rfl
@[simp] theorem all_id (f : α → Bool) (l : List α) : (l.map f).all id = l.all f := by rw [List.all_map]; rfl
@[simp] theorem any_id (f : α → Bool) (l : List α) : (l.map f).any id = l.any f := by rw [List.any_map]; rfl
def maxK : Option (List Int) → Option D
  | some (a :: l) => some (.int (maxL (a :: l)))
  | _ => none
def minK : Option (List Int) → Option D
  | some (a :: l) => some (.int (minL (a :: l)))
  | _ => none
@[simp] theorem ev_bMaxL : bMaxL [.list ds] = maxK (intsOf ds) := by
  simp only [bMaxL]
  unfold maxK
  rcases intsOf ds with _ | _ | _ <;> rfl
@[simp] theorem ev_bMinL : bMinL [.list ds] = minK (intsOf ds) := by
  simp only [bMinL]
  unfold minK
  rcases intsOf ds with _ | _ | _ <;> rfl
@[simp] theorem maxK_s {k : Int} {l : List Int} : maxK (some (k :: l)) = some (.int (maxL (k :: l))) := id rfl
@[simp] theorem minK_s {k : Int} {l : List Int} : minK (some (k :: l)) = some (.int (minL (k :: l))) := id rfl
theorem maxK_ne {l : List Int} (h : l ≠ []) : maxK (some l) = some (.int (maxL l)) := by cases l with
  | nil => exact absurd rfl h
  | cons a l => rfl
theorem minK_ne {l : List Int} (h : l ≠ []) : minK (some l) = some (.int (minL l)) := by cases l with
  | nil => exact absurd rfl h
  | cons a l => rfl
def isiK (ns : List String) : Option (Rv × S) → Option (Rv × S)
  | some (r, s1) => some (.t (.fz (.bool (ns.any (isN (tyN r.d))))), s1)
  | none => none
theorem ev_isi {ns : List String} (h : (ns.all fun b => clNs.contains b) = true) : mIsi m ns g s = isiK ns (m g s) := by
  unfold mIsi isiK
  rw [h]
  rcases m g s with _ | ⟨rs, s1⟩ <;> rfl
@[simp] theorem isiK_s {ns : List String} : isiK ns (some (r, s)) = some (.t (.fz (.bool (ns.any (isN (tyN r.d))))), s) := id rfl
@[simp] theorem ev_isi1 : mIsi m ["int"] g s = isiK ["int"] (m g s) := ev_isi (by decide)
@[simp] theorem ev_isi2 : mIsi m ["bool"] g s = isiK ["bool"] (m g s) := ev_isi (by decide)
@[simp] theorem ev_isi3 : mIsi m ["str"] g s = isiK ["str"] (m g s) := ev_isi (by decide)
@[simp] theorem ev_isi4 : mIsi m ["list"] g s = isiK ["list"] (m g s) := ev_isi (by decide)
@[simp] theorem ev_isi5 : mIsi m ["tuple"] g s = isiK ["tuple"] (m g s) := ev_isi (by decide)
@[simp] theorem ev_isi6 : mIsi m ["dict"] g s = isiK ["dict"] (m g s) := ev_isi (by decide)
@[simp] theorem ev_isi7 : mIsi m ["list", "tuple"] g s = isiK ["list", "tuple"] (m g s) := ev_isi (by decide)
@[simp] theorem ev_isi8 : mIsi m ["int", "str", "list", "tuple", "dict"] g s = isiK ["int", "str", "list", "tuple", "dict"] (m g s) := ev_isi (by decide)
@[simp] theorem tyN_n : tyN .none = "NoneType" := id rfl
@[simp] theorem tyN_b : tyN (.bool b) = "bool" := id rfl
@[simp] theorem tyN_i {k : Int} : tyN (.int k) = "int" := id rfl
@[simp] theorem tyN_s {k : Str} : tyN (.str k) = "str" := id rfl
@[simp] theorem tyN_l : tyN (.list ds) = "list" := id rfl
@[simp] theorem tyN_t : tyN (.tuple ds) = "tuple" := id rfl
@[simp] theorem tyN_d {l : List (D × D)} : tyN (.dict l) = "dict" := id rfl
@[simp] theorem isN_ev {a b : String} : isN a b = (a == b || (a == "bool" && b == "int")) := id rfl
def tupOfK2 (s : S) : Option (List D) → Option (Rv × S)
  | some ds => some (.t (.fz (.tuple ds)), s)
  | none => none
def tupOfK : Option (Rv × S) → Option (Rv × S)
  | some (r, s1) => tupOfK2 s1 (kTupOf r)
  | none => none
@[simp] theorem ev_tupOf : mTupOf m g s = tupOfK (hzK (m g s)) := by
  unfold mTupOf tupOfK
  rw [ev_hz]
  rcases hzK (m g s) with _ | ⟨r, s1⟩ <;> try rfl
  simp only
  cases kTupOf r <;> rfl
@[simp] theorem tupOfK_s : tupOfK (some (r, s)) = tupOfK2 s (kTupOf r) := id rfl
@[simp] theorem tupOfK2_s : tupOfK2 s (some ds) = some (.t (.fz (.tuple ds)), s) := id rfl
@[simp] theorem kTupOf_l : kTupOf (.t (.fz (.list ds))) = some ds := id rfl
@[simp] theorem kTupOf_t : kTupOf (.t (.fz (.tuple ds))) = some ds := id rfl
def lstOfK2 (s : S) : Option (List D) → Option (Rv × S)
  | some ds => some (.t (.lst (ds.map T.fz)), s)
  | none => none
def lstOfK : Option (Rv × S) → Option (Rv × S)
  | some (r, s1) => lstOfK2 s1 (kLstOf r)
  | none => none
@[simp] theorem ev_lstOf : mLstOf m g s = lstOfK (hzK (m g s)) := by
  unfold mLstOf lstOfK
  rw [ev_hz]
  rcases hzK (m g s) with _ | ⟨r, s1⟩ <;> try rfl
  simp only
  cases kLstOf r <;> rfl
@[simp] theorem lstOfK_s : lstOfK (some (r, s)) = lstOfK2 s (kLstOf r) := id rfl
@[simp] theorem lstOfK2_s : lstOfK2 s (some ds) = some (.t (.lst (ds.map T.fz)), s) := id rfl
@[simp] theorem kLstOf_l : kLstOf (.t (.fz (.list ds))) = some ds := id rfl
@[simp] theorem kLstOf_t : kLstOf (.t (.fz (.tuple ds))) = some ds := id rfl
@[simp] theorem kLstOf_d {l : List (D × D)} : kLstOf (.t (.fz (.dict l))) = if keysK1 l then some (dKeys l) else none := id rfl
@[simp] theorem kLstOf_o (l : List D) : kLstOf (.tmp (.lst (l.map T.fz))) = some l := by unfold kLstOf seqOf; rw [lstOf_tl, fzs_mp]
def dicDK : Option (Rv × S) → Option (Rv × S)
  | some (.t (.fz (.dict l)), s1) => if keysK1 l then some (.t (.dic false (l.map fun p => (p.1, T.fz p.2))), s1) else none
  | _ => none
@[simp] theorem ev_dicD : mDicD m g s = dicDK (hzK (m g s)) := id rfl
@[simp] theorem dicDK_s (k v : α → D) (l : List α) : dicDK (some (.t (.fz (.dict (l.map fun a => (k a, v a)))), s)) = if keysK1 (l.map fun a => (k a, v a)) then some (.t (.dic false (l.map fun a => (k a, T.fz (v a)))), s) else none := by
  unfold dicDK; simp only [List.map_map]; rfl
def itLK : Option (Rv × S) → Option (Rv × S)
  | some (.t (.fz (.dict l)), s1) => if keysK1 l then some (.t (.fz (.list (dItms l))), s1) else none
  | _ => none
@[simp] theorem ev_itL : mItL m g s = itLK (hzK (m g s)) := id rfl
@[simp] theorem itLK_s {l : List (D × D)} : itLK (some (.t (.fz (.dict l)), s)) = if keysK1 l then some (.t (.fz (.list (dItms l))), s) else none := id rfl
@[simp] theorem lstT_o : lstT (.t (.lst ts)) = some ts := id rfl
@[simp] theorem lstT_f : lstT (.t (.fz (.list ds))) = some (ds.map T.fz) := id rfl
def dicPK2 (s : S) : Option (List (D × T)) → Option (Rv × S)
  | some l => some (.t (.dic false l), s)
  | none => none
def dicPK1 (s : S) : Option (List T) → Option (Rv × S)
  | some ts => dicPK2 s (putsT ts [])
  | none => none
def dicPK : Option (Rv × S) → Option (Rv × S)
  | some (r, s1) => dicPK1 s1 (lstT r)
  | none => none
@[simp] theorem ev_dicP : mDicP m g s = dicPK (m g s) := by
  unfold mDicP dicPK
  rcases m g s with _ | ⟨r, s1⟩ <;> try rfl
  simp only
  unfold dicPK1
  rcases lstT r with _ | ts <;> try rfl
  simp only
  rcases putsT ts [] with _ | _ <;> rfl
@[simp] theorem dicPK_s : dicPK (some (r, s)) = dicPK1 s (lstT r) := id rfl
@[simp] theorem dicPK1_s : dicPK1 s (some ts) = dicPK2 s (putsT ts []) := id rfl
@[simp] theorem dicPK2_s {l : List (D × T)} : dicPK2 s (some l) = some (.t (.dic false l), s) := id rfl
theorem puts_own (k : α → Str) (v : α → T) (l : List α) (nd : (l.map k).Nodup) : putsT (l.map fun a => .tup [.fz (.str (k a)), v a]) [] = some (l.map fun a => (.str (k a), v a)) := by
  refine (putsT_new (l := []) (ps := l.map fun a => (.str (k a), v a)) ?_ ?_)
  · clear nd
    induction l with
    | nil => exact .nil
    | cons a l ih => exact .cons rfl ih
  · rw [List.nil_append, List.map_map]
    have := str_apart nd
    rw [List.map_map] at this
    exact this
theorem puts_fz (k : α → Str) (v : α → D) (l : List α) (nd : (l.map k).Nodup) : putsT (l.map fun a => .fz (.tuple [.str (k a), v a])) [] = some (l.map fun a => (.str (k a), .fz (v a))) := by
  refine (putsT_new (l := []) (ps := l.map fun a => (.str (k a), .fz (v a))) ?_ ?_)
  · clear nd
    induction l with
    | nil => exact .nil
    | cons a l ih => exact .cons rfl ih
  · rw [List.nil_append, List.map_map]
    have := str_apart nd
    rw [List.map_map] at this
    exact this
def sortedK2 (s : S) : Option (List D) → Option (Rv × S)
  | some ds => some (.t (.lst (ds.map T.fz)), s)
  | none => none
def sortedK : Option (Rv × S) → Option (Rv × S)
  | some (r, s1) => sortedK2 s1 (kSorted r)
  | none => none
@[simp] theorem ev_sorted : mSorted m g s = sortedK (hzK (m g s)) := by
  unfold mSorted sortedK
  rw [ev_hz]
  rcases hzK (m g s) with _ | ⟨r, s1⟩ <;> try rfl
  simp only
  cases kSorted r <;> rfl
@[simp] theorem sortedK_s : sortedK (some (r, s)) = sortedK2 s (kSorted r) := id rfl
@[simp] theorem sortedK2_s : sortedK2 s (some ds) = some (.t (.lst (ds.map T.fz)), s) := id rfl
@[simp] theorem kSorted_l : kSorted (.t (.fz (.list ds))) = if sortOk ds then some (sortD ds) else none := id rfl
theorem strsOf_mp (k : α → Str) (l : List α) : strsOf (l.map fun a => PyData.str (k a)) = some (l.map k) := by
  induction l with
  | nil => rfl
  | cons a l ih => rw [List.map_cons, strsOf, ih]; rfl
/-- names, ascending -/
def sortS (l : List Str) : List Str := l.mergeSort strLe
@[simp] theorem kSorted_d (k : α → Str) (v : α → D) (l : List α) (h : l.length < 64) : kSorted (.t (.fz (.dict (l.map fun a => (.str (k a), v a))))) = some ((sortS (l.map k)).map PyData.str) := by
  unfold kSorted
  rw [lstOf_fd]
  simp only [List.map_map]
  have : strsOf (l.map ((fun x : D × D => x.1) ∘ fun a => (PyData.str (k a), v a))) = some (l.map k) := strsOf_mp k l
  rw [this]
  simp [sortS, h]
end
end DV

namespace DV
open PySem PySem.Spec PyProof.Rows L2
section
variable {g g1 : Gm} {s s1 s2 : S} {m ma mb mc me mt mk mv : ME} {ms : MA} {ml mh : MO} {n n1 n2 : MSt} {mi : MI} {i : Nat} {t u : T} {d x y z : D} {r : Rv} {rs : List Rv} {ts us : List T} {ds es : List D} {b c : Bool} {mp : MP} {tg : Tg} {vs : List Nat} {α : Type}
@[simp] theorem ev_add : mAdd ma mb g s = m2K (fun g s => hzK (mb g s)) g kAdd (hzK (ma g s)) := by
  unfold mAdd
  rw [ev_m2, ev_hz]; rfl
@[simp] theorem kAdd_ii {j k : Int} : kAdd (.t (.fz (.int j))) (.t (.fz (.int k))) = some (.t (.fz (.int (j + k)))) := id rfl
@[simp] theorem kAdd_ss {j k : Str} : kAdd (.t (.fz (.str j))) (.t (.fz (.str k))) = if lenOk (j.length + k.length) then some (.t (.fz (.str (j ++ k)))) else none := id rfl
@[simp] theorem kAdd_ll : kAdd (.t (.fz (.list ds))) (.t (.fz (.list es))) = if lenOk (ds.length + es.length) then some (.t (.lst ((ds ++ es).map T.fz))) else none := id rfl
@[simp] theorem kAdd_tl {l : List D} : kAdd (.tmp (.lst (l.map T.fz))) (.t (.fz (.list es))) = if lenOk (l.length + es.length) then some (.t (.lst ((l ++ es).map T.fz))) else none := by
  unfold kAdd
  simp only [lstOf_tl, fzs_mp, lstOf_fl]
@[simp] theorem kAdd_lt {l : List D} : kAdd (.t (.fz (.list ds))) (.tmp (.lst (l.map T.fz))) = if lenOk (ds.length + l.length) then some (.t (.lst ((ds ++ l).map T.fz))) else none := by
  unfold kAdd
  simp only [lstOf_tl, fzs_mp, lstOf_fl]
@[simp] theorem kAdd_tt : kAdd (.t (.fz (.tuple ds))) (.t (.fz (.tuple es))) = if !ds.isEmpty && lenOk (ds.length + es.length) then some (.t (.fz (.tuple (ds ++ es)))) else none := id rfl
def mpVK (g : Gm) (i : Nat) (s : S) : Option (Option Sl) → Option (T × (T → Gm) × S)
  | some (some (.t t)) => some (t, fun t' => g.set i (some (.t t')), s)
  | _ => none
@[simp] theorem ev_pVar : mpVar i g s = mpVK g i s g[i]? := id rfl
@[simp] theorem mpVK_s : mpVK g i s (some (some (.t t))) = some (t, fun t' => g.set i (some (.t t')), s) := id rfl
def mpSK3 (u : T) (back : T → Gm) (k : D) (s : S) : Option T → Option (T × (T → Gm) × S)
  | some c => some (c, fun c' => back (u.rep k c'), s)
  | none => none
def mpSK2 (u : T) (back : T → Gm) : Option (Rv × S) → Option (T × (T → Gm) × S)
  | some (y, s2) => mpSK3 u back y.d s2 (u.child y.d)
  | none => none
def mpSK (m : ME) (g : Gm) : Option (T × (T → Gm) × S) → Option (T × (T → Gm) × S)
  | some (u, back, s1) => mpSK2 u back (m g s1)
  | none => none
@[simp] theorem ev_pSub : mpSub mp m g s = mpSK m g (mp g s) := by
  unfold mpSub mpSK
  rcases mp g s with _ | ⟨u, back, s1⟩ <;> try rfl
@[simp] theorem mpSK_s {back : T → Gm} : mpSK m g (some (u, back, s)) = mpSK2 u back (m g s) := id rfl
@[simp] theorem mpSK2_s {back : T → Gm} : mpSK2 u back (some (r, s)) = mpSK3 u back r.d s (u.child r.d) := id rfl
@[simp] theorem mpSK3_s {back : T → Gm} : mpSK3 u back x s (some t) = some (t, fun c' => back (u.rep x c'), s) := id rfl
@[simp] theorem child_l {k : Int} : T.child (.lst ts) (.int k) = atI ts k := id rfl
@[simp] theorem child_t {k : Int} : T.child (.tup ts) (.int k) = atI ts k := id rfl
@[simp] theorem child_ds {k : Str} {l : List (D × T)} : T.child (.dic false l) (.str k) = tLook l (.str k) := id rfl
@[simp] theorem child_di {k : Int} {l : List (D × T)} : T.child (.dic false l) (.int k) = tLook l (.int k) := id rfl
@[simp] theorem rep_d {l : List (D × T)} : T.rep (.dic b l) x u = .dic b (tRep l x u) := id rfl
def appK3 (ts : List T) (back : T → Gm) : Option (Rv × S) → Res
  | some (.t t, s2) => if ltLen ts.length then some (.nx, back (.lst (ts ++ [t])), s2) else none
  | _ => none
def appK (m : ME) (g : Gm) : Option (T × (T → Gm) × S) → Res
  | some (.lst ts, back, s1) => appK3 ts back (m g s1)
  | _ => none
@[simp] theorem ev_app : mApp mp m g s = appK m g (mp g s) := by
  unfold mApp appK
  rcases mp g s with _ | ⟨u, back, s1⟩ <;> try rfl
@[simp] theorem appK_s {back : T → Gm} : appK m g (some (.lst ts, back, s)) = appK3 ts back (m g s) := id rfl
@[simp] theorem appK3_s {back : T → Gm} : appK3 ts back (some (.t t, s)) = if ltLen ts.length then some (.nx, back (.lst (ts ++ [t])), s) else none := id rfl
def extK4 (ts : List T) (back : T → Gm) (s : S) : Option (List T) → Res
  | some us => if lenOk (ts.length + us.length) then some (.nx, back (.lst (ts ++ us)), s) else none
  | none => none
def extK3 (ts : List T) (back : T → Gm) : Option (Rv × S) → Res
  | some (r, s2) => extK4 ts back s2 (lstT r)
  | none => none
def extK (m : ME) (g : Gm) : Option (T × (T → Gm) × S) → Res
  | some (.lst ts, back, s1) => extK3 ts back (m g s1)
  | _ => none
@[simp] theorem ev_ext : mExt mp m g s = extK m g (mp g s) := by
  unfold mExt extK
  rcases mp g s with _ | ⟨u, back, s1⟩ <;> try rfl
@[simp] theorem extK_s {back : T → Gm} : extK m g (some (.lst ts, back, s)) = extK3 ts back (m g s) := id rfl
@[simp] theorem extK3_s {back : T → Gm} : extK3 ts back (some (r, s)) = extK4 ts back s (lstT r) := id rfl
@[simp] theorem extK4_s {back : T → Gm} : extK4 ts back s (some us) = if lenOk (ts.length + us.length) then some (.nx, back (.lst (ts ++ us)), s) else none := id rfl
def stoK4 (back : T → Gm) (s : S) : Option T → Res
  | some u' => some (.nx, back u', s)
  | none => none
def stoK3 (t u : T) (back : T → Gm) : Option (Rv × S) → Res
  | some (y, s3) => stoK4 back s3 (u.put y.d t)
  | none => none
def stoK2 (mi : ME) (g : Gm) (t : T) : Option (T × (T → Gm) × S) → Res
  | some (u, back, s2) => stoK3 t u back (mi g s2)
  | none => none
def stoK (mp : MP) (mi : ME) (g : Gm) : Option (Rv × S) → Res
  | some (.t t, s1) => stoK2 mi g t (mp g s1)
  | _ => none
@[simp] theorem ev_sto : mSto me mp m g s = stoK mp m g (me g s) := by
  unfold mSto stoK
  rcases me g s with _ | ⟨_ | _, s1⟩ <;> try rfl
@[simp] theorem stoK_s : stoK mp m g (some (.t t, s)) = stoK2 m g t (mp g s) := id rfl
@[simp] theorem stoK2_s {back : T → Gm} : stoK2 m g t (some (u, back, s)) = stoK3 t u back (m g s) := id rfl
@[simp] theorem stoK3_s {back : T → Gm} : stoK3 t u back (some (r, s)) = stoK4 back s (u.put r.d t) := id rfl
@[simp] theorem stoK4_s {back : T → Gm} : stoK4 back s (some u) = some (.nx, back u, s) := id rfl
@[simp] theorem put_l {k : Int} : T.put (.lst ts) (.int k) t = (ixN ts.length k).map fun j => .lst (ts.set j t) := id rfl
@[simp] theorem put_d0 {k : Str} : T.put (.dic false []) (.str k) t = some (.dic false [(.str k, t)]) := id rfl
/-- a name's place in a dict of names: put -/
theorem tPut_old (k : α → Str) (v : α → T) : ∀ (l : List α) (x : Str) (t : T), (l.map k).Nodup → x ∈ l.map k → tPut (l.map fun a => (PyData.str (k a), v a)) (.str x) t = some (l.map fun a => (PyData.str (k a), if k a = x then t else v a))
  | [], x, t, _, h => by cases h
  | a :: l, x, t, nd, hx => by
    rw [List.map_cons, List.nodup_cons] at nd
    rw [List.map_cons, tPut, List.map_cons, eqv_ss]
    by_cases h : k a = x
    · have hn : ∀ b ∈ l, k b ≠ x := fun b hb e => nd.1 (by rw [h, ← e]; exact List.mem_map_of_mem hb)
      have : ((l.map fun a => (PyData.str (k a), v a)).any fun p => PyData.eqv p.1 (.str x)) = false := by
        rw [List.any_map, List.any_eq_false]
        intro b hb
        simp only [Function.comp, eqv_ss, decide_eq_true_eq]
        exact hn b hb
      rw [if_pos (decide_eq_true h), this, if_pos h]
      have e : (l.map fun a => (PyData.str (k a), if k a = x then t else v a)) = l.map fun a => (PyData.str (k a), v a) := List.map_congr_left fun b hb => by rw [if_neg (hn b hb)]
      rw [e]; rfl
    · have hx : x ∈ l.map k := (List.mem_cons.mp hx).resolve_left fun e => h e.symm
      rw [if_neg (by simpa using h), tPut_old k v l x t nd.2 hx, if_neg h]; rfl
theorem tPut_nu (k : α → Str) (v : α → T) (l : List α) (x : Str) (t : T) (hx : x ∉ l.map k) : tPut (l.map fun a => (PyData.str (k a), v a)) (.str x) t = some ((l.map fun a => (PyData.str (k a), v a)) ++ [(.str x, t)]) :=
  tPut_new fun p hp => by
    obtain ⟨a, ha, rfl⟩ := List.mem_map.mp hp
    simp only [eqv_ss, decide_eq_false_iff_not]
    exact fun e => hx (by rw [← e]; exact List.mem_map_of_mem ha)
theorem put_any (k : α → Str) (v : α → T) (l : List α) (x : Str) (t : T) (hl : l.length ≤ 1000000) : T.put (.dic false (l.map fun a => (PyData.str (k a), v a))) (.str x) t = (tPut (l.map fun a => (PyData.str (k a), v a)) (.str x) t).map (T.dic false) := by
  cases l with
  | nil => rfl
  | cons p l =>
    have h : ltLen ((l.map fun a => (PyData.str (k a), v a)).length + 1) = true := ltLen_of (by rw [List.length_map]; exact hl)
    show (if (kOf (.str x)).isSome && ltLen ((l.map fun a => (PyData.str (k a), v a)).length + 1) then (tPut ((p :: l).map fun a => (PyData.str (k a), v a)) (.str x) t).map (T.dic false) else none) = _
    rw [h]; rfl
theorem put_new (k : α → Str) (v : α → T) (l : List α) (x : Str) (t : T) (hl : l.length ≤ 1000000) (hx : x ∉ l.map k) : T.put (.dic false (l.map fun a => (PyData.str (k a), v a))) (.str x) t = some (.dic false ((l.map fun a => (PyData.str (k a), v a)) ++ [(.str x, t)])) := by
  rw [put_any k v l x t hl, tPut_nu k v l x t hx]; rfl
theorem put_old (k : α → Str) (v : α → T) (l : List α) (x : Str) (t : T) (hl : l.length ≤ 1000000) (nd : (l.map k).Nodup) (hx : x ∈ l.map k) : T.put (.dic false (l.map fun a => (PyData.str (k a), v a))) (.str x) t = some (.dic false (l.map fun a => (PyData.str (k a), if k a = x then t else v a))) := by
  rw [put_any k v l x t hl, tPut_old k v l x t nd hx]; rfl
@[simp] theorem tLook_gen (k : α → Str) (v : α → T) (l : List α) (x : Str) : tLook (l.map fun a => (PyData.str (k a), v a)) (.str x) = (l.find? fun a => decide (k a = x)).map v := by
  unfold tLook
  induction l with
  | nil => rfl
  | cons a l ih =>
    rw [List.map_cons, List.find?_cons, List.find?_cons]
    simp only [eqv_ss]
    cases decide (k a = x)
    · exact ih
    · rfl
theorem tRep_strs (k : α → Str) (v : α → T) (x : Str) (t : T) : ∀ {l : List α}, (l.map k).Nodup → tRep (l.map fun a => (PyData.str (k a), v a)) (.str x) t = l.map fun a => (PyData.str (k a), if k a = x then t else v a)
  | [], _ => rfl
  | a :: l, nd => by
    rw [List.map_cons, List.nodup_cons] at nd
    rw [List.map_cons, tRep, List.map_cons, eqv_ss]
    by_cases h : k a = x
    · have e : (l.map fun a => (PyData.str (k a), if k a = x then t else v a)) = l.map fun a => (PyData.str (k a), v a) := List.map_congr_left fun b hb => by rw [if_neg fun e => nd.1 (by rw [h, ← e]; exact List.mem_map_of_mem hb)]
      rw [if_pos (decide_eq_true h), if_pos h, e]
    · rw [if_neg (by simpa using h), if_neg h, tRep_strs k v x t nd.2]
def augK (g : Gm) (i : Nat) (f : Int → Int → Int) (x : Int) : Option (Rv × S) → Res
  | some (.t (.fz (.int y)), s1) => some (.nx, g.set i (some (.t (.fz (.int (f x y))))), s1)
  | _ => none
theorem ev_aug {f : Int → Int → Int} {k : Int} (h : g[i]? = some (some (.t (.fz (.int k))))) : mAug i f me g s = augK g i f k (me g s) := by
  unfold mAug augK
  rw [h]; rfl
def augK0 (me : ME) (g : Gm) (s : S) (i : Nat) (f : Int → Int → Int) : Option (Option Sl) → Res
  | some (some (.t (.fz (.int x)))) => augK g i f x (me g s)
  | _ => none
@[simp] theorem ev_aug0 {f : Int → Int → Int} : mAug i f me g s = augK0 me g s i f g[i]? := by
  unfold mAug augK0
  rcases g[i]? with _ | _ | _ | t <;> try rfl
@[simp] theorem augK0_s {f : Int → Int → Int} {k : Int} : augK0 me g s i f (some (some (.t (.fz (.int k))))) = augK g i f k (me g s) := id rfl
@[simp] theorem augK_s {f : Int → Int → Int} {j k : Int} : augK g i f j (some (.t (.fz (.int k)), s)) = some (.nx, g.set i (some (.t (.fz (.int (f j k))))), s) := id rfl
def auSK5 (back : T → Gm) (s : S) : Option T → Res
  | some u' => some (.nx, back u', s)
  | none => none
def auSK4 (u : T) (back : T → Gm) (k : D) (f : Int → Int → Int) (x : Int) : Option (Rv × S) → Res
  | some (.t (.fz (.int y)), s3) => auSK5 back s3 (u.put k (.fz (.int (f x y))))
  | _ => none
def auSK3 (me : ME) (g : Gm) (u : T) (back : T → Gm) (k : D) (f : Int → Int → Int) (s : S) : Option T → Res
  | some (.fz (.int x)) => auSK4 u back k f x (me g s)
  | _ => none
def auSK2 (me : ME) (g : Gm) (u : T) (back : T → Gm) (f : Int → Int → Int) : Option (Rv × S) → Res
  | some (k, s2) => auSK3 me g u back k.d f s2 (u.child k.d)
  | none => none
def auSK (mi me : ME) (g : Gm) (f : Int → Int → Int) : Option (T × (T → Gm) × S) → Res
  | some (u, back, s1) => auSK2 me g u back f (mi g s1)
  | none => none
@[simp] theorem ev_augS {f : Int → Int → Int} : mAugS mp m f me g s = auSK m me g f (mp g s) := by
  unfold mAugS auSK
  rcases mp g s with _ | ⟨u, back, s1⟩ <;> try rfl
@[simp] theorem auSK_s {f : Int → Int → Int} {back : T → Gm} : auSK m me g f (some (u, back, s)) = auSK2 me g u back f (m g s) := id rfl
@[simp] theorem auSK2_s {f : Int → Int → Int} {back : T → Gm} : auSK2 me g u back f (some (r, s)) = auSK3 me g u back r.d f s (u.child r.d) := id rfl
@[simp] theorem auSK3_s {f : Int → Int → Int} {back : T → Gm} {k : Int} : auSK3 me g u back x f s (some (.fz (.int k))) = auSK4 u back x f k (me g s) := id rfl
@[simp] theorem auSK4_s {f : Int → Int → Int} {back : T → Gm} {j k : Int} : auSK4 u back x f j (some (.t (.fz (.int k)), s)) = auSK5 back s (u.put x (.fz (.int (f j k)))) := id rfl
@[simp] theorem auSK5_s {back : T → Gm} : auSK5 back s (some u) = some (.nx, back u, s) := id rfl
@[simp] theorem ev_dnew : mDNew g s = some (.t (.dic false []), s) := id rfl
abbrev StK := D → S → Option (Option (D × T) × S)
def dcF {α : Type} (F : α → S → Option (Option (D × T) × S)) : List α → List (D × T) → S → Option (List (D × T) × S)
  | [], acc, s => some (acc, s)
  | a :: l, acc, s => match F a s with
    | some (some (k, t), s1) => if (kOf k).isSome then match tPut acc k t with
      | some acc' => dcF F l acc' s1
      | none => none else none
    | some (none, s1) => dcF F l acc s1
    | none => none
def dsK4 (k : D) : Option (Rv × S) → Option (Option (D × T) × S)
  | some (.t t, s) => some (some (k, t), s)
  | _ => none
def dsK3 (mv : ME) (g : Gm) : Option (Rv × S) → Option (Option (D × T) × S)
  | some (y, s) => dsK4 y.d (mv g s)
  | none => none
def dsK2 (mk mv : ME) (g : Gm) : Option (Rv × S) → Option (Option (D × T) × S)
  | some (.t (.fz (.bool b)), s) => if b = true then dsK3 mv g (mk g s) else some (none, s)
  | _ => none
def dsK1 (mt mk mv : ME) (s : S) : Option Gm → Option (Option (D × T) × S)
  | some g1 => dsK2 mk mv g1 (mt g1 s)
  | none => none
@[simp] theorem dsK1_s : dsK1 mt mk mv s (some g) = dsK2 mk mv g (mt g s) := id rfl
@[simp] theorem dsK2_s : dsK2 mk mv g (some (.t (.fz (.bool b)), s)) = if b = true then dsK3 mv g (mk g s) else some (none, s) := id rfl
@[simp] theorem dsK3_s : dsK3 mv g (some (r, s)) = dsK4 r.d (mv g s) := id rfl
@[simp] theorem dsK4_s : dsK4 x (some (.t t, s)) = some (some (x, t), s) := id rfl
theorem dcL_F {α : Type} (f : α → D) : ∀ (l : List α) (acc : List (D × T)) (s : S), dcL tg mt mk mv g (l.map f) acc s = dcF (fun a s => dsK1 mt mk mv s (bind tg (f a) g)) l acc s
  | [], acc, s => rfl
  | a :: l, acc, s => by
    rw [List.map_cons, dcL, dcF]
    rcases bind tg (f a) g with _ | g1 <;> try rfl
    simp only [dsK1]
    rcases mt g1 s with _ | ⟨r, s1⟩ <;> try rfl
    rcases r with t | t <;> try rfl
    rcases t with d | _ | _ | _ <;> try rfl
    rcases d with _ | b | _ | _ | _ | _ | _ <;> try rfl
    cases b
    · simp only [dsK2]
      exact dcL_F f l acc s1
    · simp only [dsK2, if_true]
      rcases mk g1 s1 with _ | ⟨y, s2⟩ <;> try rfl
      simp only [dsK3]
      rcases mv g1 s2 with _ | ⟨r, s3⟩ <;> try rfl
      rcases r with t | t <;> try rfl
      simp only [dsK4]
      split
      · rcases tPut acc y.d t with _ | acc' <;> try rfl
        exact dcL_F f l acc' s3
      · rfl
theorem dcF_att {α : Type} (F : α → S → Option (Option (D × T) × S)) (l : List α) (acc : List (D × T)) (s : S) : dcF (fun (a : {x // x ∈ l}) s => F a.1 s) l.attach acc s = dcF F l acc s := by
  have key : ∀ (m : List {x // x ∈ l}) (acc : List (D × T)) (s : S), dcF (fun (a : {x // x ∈ l}) s => F a.1 s) m acc s = dcF F (m.map (·.1)) acc s := by
    intro m
    induction m with
    | nil => intro acc s; rfl
    | cons a m ih =>
      intro acc s
      rw [List.map_cons, dcF, dcF]
      rcases F a.1 s with _ | ⟨_ | ⟨k, t⟩, s1⟩ <;> try rfl
      · exact ih acc s1
      · simp only
        split
        · rcases tPut acc k t with _ | acc' <;> try rfl
          exact ih acc' s1
        · rfl
  rw [key, List.attach_map_subtype_val]
def dcD {α : Type} (l : List α) (F : (a : α) → a ∈ l → S → Option (Option (D × T) × S)) (acc : List (D × T)) (s : S) : Option (List (D × T) × S) := dcF (fun (a : {x // x ∈ l}) s => F a.1 a.2 s) l.attach acc s
theorem dcD_F {α : Type} (l : List α) (F : α → S → Option (Option (D × T) × S)) (acc : List (D × T)) (s : S) : dcD l (fun a _ s => F a s) acc s = dcF F l acc s := dcF_att F l acc s
@[simp] theorem ev_dcL {α : Type} (f : α → D) (l : List α) (acc : List (D × T)) : dcL tg mt mk mv g (l.map f) acc s = dcD l (fun a _ s => dsK1 mt mk mv s (bind tg (f a) g)) acc s := by
  rw [dcL_F f l acc s, ← dcD_F]
theorem dcF_strs (k : α → Str) (v : α → T) : ∀ (l : List α) (acc : List (D × T)), ((acc ++ l.map fun a => (PyData.str (k a), v a)).map (·.1)).Pairwise (fun a b => PyData.eqv a b = false) → dcF (fun a s => some (some (PyData.str (k a), v a), s)) l acc s = some (acc ++ l.map fun a => (PyData.str (k a), v a), s)
  | [], acc, _ => by rw [dcF, List.map_nil, List.append_nil]
  | a :: l, acc, hp => by
    have e : tPut acc (.str (k a)) (v a) = some (acc ++ [(.str (k a), v a)]) := tPut_new fun q hq => by
      rw [List.map_append, List.pairwise_append] at hp
      exact hp.2.2 q.1 (List.mem_map_of_mem hq) (.str (k a)) (by simp)
    have ih := dcF_strs k v l (acc ++ [(.str (k a), v a)]) (by rw [List.append_assoc]; exact hp)
    rw [dcF]
    simp only [kOf, Option.isSome_some, if_true, e]
    rw [ih, List.append_assoc]
    rfl
theorem dcF_new (k : α → Str) (v : α → T) (l : List α) (nd : (l.map k).Nodup) : dcD l (fun a _ s => some (some (PyData.str (k a), v a), s)) [] s = some (l.map fun a => (PyData.str (k a), v a), s) := by
  rw [dcD_F l (fun a s => some (some (PyData.str (k a), v a), s)), dcF_strs]
  · rfl
  · rw [List.nil_append, List.map_map]
    have := str_apart nd
    rwa [List.map_map] at this
def dcK2 : Option (List (D × T) × S) → Option (Rv × S)
  | some (l, s2) => some (.t (.dic false l), s2)
  | none => none
def dcK (tg : Tg) (mt mk mv : ME) (g : Gm) : Option (List D × S) → Option (Rv × S)
  | some (ds, s1) => if ltLen ds.length then dcK2 (dcL tg mt mk mv g ds [] s1) else none
  | none => none
@[simp] theorem ev_dc : mDc vs tg mi mt mk mv g s = dcK tg mt mk mv (wipeG g vs) (mi g s) := by
  unfold mDc dcK
  rcases mi g s with _ | ⟨ds, s1⟩ <;> try rfl
@[simp] theorem dcK_s : dcK tg mt mk mv g (some (ds, s)) = if ltLen ds.length then dcK2 (dcL tg mt mk mv g ds [] s) else none := id rfl
@[simp] theorem dcK2_s {l : List (D × T)} : dcK2 (some (l, s)) = some (.t (.dic false l), s) := id rfl
theorem zx_get {α : Type} {l : List α} {a : α} {i : Nat} (h : (a, i) ∈ l.zipIdx) : l[i]? = some a := List.mk_mem_zipIdx_iff_getElem?.mp h
theorem zx_mem {α : Type} {l : List α} {a : α} {i : Nat} (h : (a, i) ∈ l.zipIdx) : a ∈ l := List.mem_of_getElem? (zx_get h)
/-- goes on, with J behind -/
def Nx (J : Gm → S → Prop) (r : Res) : Prop := ∃ g' s', r = some (.nx, g', s') ∧ J g' s'
@[simp] theorem Nx_s {J : Gm → S → Prop} : Nx J (some (.nx, g, s)) ↔ J g s := ⟨fun ⟨_, _, e, h⟩ => by cases e; exact h, fun h => ⟨_, _, rfl, h⟩⟩
@[simp] theorem Nx_n {J : Gm → S → Prop} : ¬ Nx J none := fun ⟨_, _, e, _⟩ => by cases e
theorem Nx.imp {J K : Gm → S → Prop} {r : Res} (h : Nx J r) (i : ∀ g s, J g s → K g s) : Nx K r := by
  obtain ⟨g, s, e, j⟩ := h
  exact ⟨g, s, e, i _ _ j⟩
/-- one turn of a for -/
def turn (tg : Tg) (n : MSt) (d : D) (g : Gm) (s : S) : Res := match bind tg d g with
  | some g1 => n g1 s
  | none => none
def turnK (n : MSt) (s : S) : Option Gm → Res
  | some g1 => n g1 s
  | none => none
@[simp] theorem ev_turn : turn tg n d g s = turnK n s (bind tg d g) := by
  unfold turn turnK
  cases bind tg d g <;> rfl
@[simp] theorem turnK_s : turnK n s (some g) = n g s := id rfl
/-- for: each turn goes on; J tells by what is left -/
theorem for_all {α : Type} {f : α → D} {J : List α → Gm → S → Prop} : ∀ {l : List α} {g : Gm} {s : S}, J l g s → (∀ l0 a l' g s, l = l0 ++ a :: l' → J (a :: l') g s → Nx (J l') (turn tg n (f a) g s)) → Nx (J []) (forL tg n (l.map f) g s)
  | [], g, s, h, _ => by simp; exact h
  | a :: l, g, s, h, st => by
    obtain ⟨g2, s2, e, h2⟩ := st [] a l g s rfl h
    unfold turn at e
    rw [List.map_cons, forL_cons]
    cases e1 : bind tg (f a) g with
    | none => rw [e1] at e; cases e
    | some g1 =>
      rw [e1] at e
      simp only at e
      rw [forK2_s, e, forK3_nx]
      exact for_all (l := l) h2 fun l0 b l' g s hl j => st (a :: l0) b l' g s (by rw [hl]; rfl) j
/-- for: each turn goes on, always in J -/
theorem for_skip {α : Type} {f : α → D} {J : Gm → S → Prop} {l : List α} {g : Gm} {s : S} (h : J g s) (st : ∀ a ∈ l, ∀ g s, J g s → Nx J (turn tg n (f a) g s)) : Nx J (forL tg n (l.map f) g s) :=
  for_all (J := fun _ => J) h fun l0 a l' g s hl j => st a (by rw [hl]; simp) g s j
/-- for: each turn goes on; J tells by what was gone through -/
theorem for_done {α : Type} {f : α → D} {J : List α → Gm → S → Prop} {l : List α} {g : Gm} {s : S} (h : J [] g s) (st : ∀ l0 a l' g s, l = l0 ++ a :: l' → J l0 g s → Nx (J (l0 ++ [a])) (turn tg n (f a) g s)) : Nx (J l) (forL tg n (l.map f) g s) := by
  refine (for_all (J := fun r g s => ∃ l0, l = l0 ++ r ∧ J l0 g s) ⟨[], rfl, h⟩ fun l1 a l' g s hl ⟨l0, h0, j⟩ => (st l0 a l' g s h0 j).imp fun g s i => ⟨l0 ++ [a], by rw [h0]; simp, i⟩).imp fun g s ⟨l0, h0, j⟩ => ?_
  rw [List.append_nil] at h0
  subst h0; exact j
/-- for, by a state: each turn goes on -/
theorem for_fold {α β : Type} {f : α → D} (G : β → Gm) (stp : β → α → β) : ∀ {l : List α} {b : β}, (∀ b, ∀ a ∈ l, ∃ g1, bind tg (f a) (G b) = some g1 ∧ n g1 s = some (.nx, G (stp b a), s)) → forL tg n (l.map f) (G b) s = some (.nx, G (l.foldl stp b), s)
  | [], b, _ => by simp
  | a :: l, b, h => by
    obtain ⟨g1, e1, e2⟩ := h b a List.mem_cons_self
    rw [List.map_cons, forL_cons, e1, forK2_s, e2, forK3_nx, for_fold G stp fun b a ha => h b a (List.mem_cons_of_mem _ ha)]
    rfl
/-- while: by a measure -/
theorem wh_all {I J : Gm → S → Prop} (μ : Gm → S → Nat) (st : ∀ g s, I g s → (mc g s = some (.t (.fz (.bool false)), s) ∧ J g s) ∨ (mc g s = some (.t (.fz (.bool true)), s) ∧ Nx (fun g2 s2 => I g2 s2 ∧ μ g2 s2 < μ g s) (n g s))) {g : Gm} {s : S} (i : I g s) : Nx J (mWh mc n g s) := by
  have key : ∀ k g s, μ g s < k → I g s → ∃ g' s', whL mc n k g s = some (.nx, g', s') ∧ J g' s' := by
    intro k
    induction k with
    | zero => intro g s h; omega
    | succ k ih =>
      intro g s h i
      rcases st g s i with ⟨e, j⟩ | ⟨e, g2, s2, e2, i2, lt⟩
      · exact ⟨g, s, by rw [whL, e], j⟩
      · obtain ⟨g', s', e3, j⟩ := ih g2 s2 (by omega) i2
        exact ⟨g', s', by rw [whL, e]; simp only; rw [e2]; exact e3, j⟩
  obtain ⟨g', s', e, j⟩ := key (μ g s + 1) g s (by omega) i
  exact ⟨g', s', mWh_eq e, j⟩
end
end DV

namespace DV
open PySem PySem.Spec PyProof.Rows L2
/-- the stream is right, b draws and more can come -/
structure Gd (b : Nat) (s : S) : Prop where
  l : s.left.length ≤ 63
  r : 0 ≤ s.rest
  c : 0 ≤ s.cnt
  c2 : s.cnt + b < 2 ^ 40
  m : 0 ≤ s.mix
  m2 : s.mix < 2147483647
theorem Gd.ok {b : Nat} {s : S} (h : Gd b s) : stmOk s = true := by
  have := h.l; have := h.r; have := h.c; have := h.c2; have := h.m; have := h.m2
  unfold stmOk
  simp only [Bool.and_eq_true, decide_eq_true_eq]
  omega
theorem Gd.mono {a b : Nat} {s : S} (h : Gd b s) (le : a ≤ b) : Gd a s := ⟨h.l, h.r, h.c, by have := h.c2; omega, h.m, h.m2⟩
theorem pull_ok : ∀ (l : List Int) (rest mix : Int), 0 ≤ rest → 0 ≤ mix → mix < 2147483647 → (pull l rest mix).1.length ≤ l.length ∧ 0 ≤ (pull l rest mix).2.1 ∧ 0 ≤ (pull l rest mix).2.2 ∧ (pull l rest mix).2.2 < 2147483647
  | [], rest, mix, h1, h2, h3 => ⟨Nat.le_refl _, h1, h2, h3⟩
  | c :: l, rest, mix, h1, h2, h3 => by
    rw [pull]
    by_cases h : rest = 0
    · rw [if_pos h]
      have := pull_ok l (if 10 ^ 18 ≤ c then c else 0) ((mix * 72103 + c + 43) % 2147483647) (by split <;> omega) (Int.emod_nonneg _ (by omega)) (Int.emod_lt_of_pos _ (by omega))
      exact ⟨Nat.le_trans this.1 (by simp), this.2⟩
    · rw [if_neg h]
      exact ⟨Nat.le_refl _, h1, h2, h3⟩
theorem draw_gd {b : Nat} {s : S} {many : Int} (h : Gd (b + 1) s) (hm : 0 < many) : Gd b (draw many s).2 := by
  have p := pull_ok s.left s.rest s.mix h.r h.m h.m2
  have := h.l; have := h.r; have := h.c; have := h.c2
  unfold draw
  simp only
  split
  · exact ⟨by simp only; omega, Int.ediv_nonneg (by omega) (by omega), by simp only; omega, by simp only; omega, p.2.2.1, p.2.2.2⟩
  · exact ⟨by simp only; omega, p.2.1, by simp only; omega, by simp only; omega, p.2.2.1, p.2.2.2⟩
theorem draw_ok {b : Nat} {s : S} (many : Int) (h : Gd (b + 1) s) (h1 : 0 < many) (h2 : many < 1073741824) : ∃ v s', drawF [.s, .d (.int many)] s = some (.fz (.int v), s') ∧ 0 ≤ v ∧ v < many ∧ Gd b s' :=
  ⟨_, _, drawF_eq h.ok h1 h2, (draw_range h1).1, (draw_range h1).2, draw_gd h h1⟩
/-- .. a number of things -/
theorem draw_nat {b : Nat} {s : S} (many : Int) (h : Gd (b + 1) s) (h1 : 0 < many) (h2 : many < 1073741824) : ∃ (v : Nat) (s' : S), drawF [.s, .d (.int many)] s = some (.fz (.int v), s') ∧ (v : Int) < many ∧ Gd b s' := by
  obtain ⟨v, s', e, v0, v1, g⟩ := draw_ok many h h1 h2
  refine ⟨v.toNat, s', ?_, by omega, g⟩
  rw [e, Int.toNat_of_nonneg v0]
theorem erase_mp {α β : Type} (f : α → β) : ∀ (l : List α) (i : Nat), (l.map f).eraseIdx i = (l.eraseIdx i).map f
  | [], _ => rfl
  | a :: l, 0 => rfl
  | a :: l, i + 1 => by
    show f a :: (l.map f).eraseIdx i = f a :: (l.eraseIdx i).map f
    rw [erase_mp f l i]
theorem erase_pm {α : Type} : ∀ (l : List α) (i : Nat) (h : i < l.length), (l[i] :: l.eraseIdx i).Perm l
  | a :: l, 0, _ => List.Perm.refl _
  | a :: l, i + 1, h => by
    have h' : i < l.length := by simpa using h
    exact (List.Perm.swap a l[i] (l.eraseIdx i)).trans ((erase_pm l i h').cons a)
theorem mixL_ok {α : Type} (f : α → D) : ∀ (k : Nat) (left acc : List α) {b : Nat} {s : S}, left.length = k → k < 1000000 → Gd (b + k) s → ∃ (l' : List α) (s' : S), mixL k (left.map f) (acc.map f) s = some (l'.map f, s') ∧ l'.Perm (acc ++ left) ∧ Gd b s'
  | 0, left, acc, b, s, hl, hk, h => by
    have : left = [] := List.length_eq_zero_iff.mp hl
    subst this
    exact ⟨acc, s, rfl, by simp, h⟩
  | k + 1, left, acc, b, s, hl, hk, h => by
    have h0 : Gd (b + k + 1) s := h
    rw [mixL]
    simp only [List.length_map]
    have hn : (0 : Int) < (left.length : Nat) := by omega
    have c : (stmOk s && decide (0 < left.length) && decide (left.length < 1073741824)) = true := by
      rw [h0.ok]; simp; omega
    rw [if_pos c]
    have rg := draw_range (many := (left.length : Nat)) (s := s) hn
    have gd := draw_gd h0 hn
    generalize draw (left.length : Nat) s = p at *
    obtain ⟨v, s1⟩ := p
    simp only at rg gd ⊢
    have hv : v.toNat < left.length := by omega
    rw [List.getElem?_map, List.getElem?_eq_getElem hv]
    simp only [Option.map_some]
    obtain ⟨l', s', e, pm, g⟩ := mixL_ok f k (left.eraseIdx v.toNat) (acc ++ [left[v.toNat]]) (b := b) (by rw [List.length_eraseIdx_of_lt hv]; omega) (by omega) gd
    refine ⟨l', s', ?_, ?_, g⟩
    · rw [← e, erase_mp, List.map_append]; rfl
    · refine pm.trans ?_
      rw [List.append_assoc]
      refine List.Perm.append_left _ ?_
      rw [List.singleton_append]
      exact erase_pm left v.toNat hv
theorem mixed_ok {α : Type} (f : α → D) (l : List α) {b : Nat} {s : S} (hl : l.length < 1000000) (h : Gd (b + l.length) s) : ∃ (l' : List α) (s' : S), mixedF [.s, .d (.list (l.map f))] s = some (.lst (l'.map fun a => .fz (f a)), s') ∧ l'.Perm l ∧ Gd b s' := by
  obtain ⟨l', s', e, pm, g⟩ := mixL_ok f l.length l [] rfl hl h
  refine ⟨l', s', ?_, by simpa using pm, g⟩
  unfold mixedF
  simp only [List.length_map]
  rw [if_pos (ltLen_of (by omega))]
  simp only [List.map_nil] at e
  rw [e]
  simp
def Dd : Nat → D → Prop
  | 0, _ => False
  | k + 1, .list l => l.length ≤ 1000000 ∧ ∀ x ∈ l, Dd k x
  | k + 1, .tuple l => l.length ≤ 1000000 ∧ ∀ x ∈ l, Dd k x
  | k + 3, .dict l => l.length ≤ 1000000 ∧ (∃ ks : List Str, l.map (·.1) = ks.map .str ∧ ks.Nodup) ∧ ∀ p ∈ l, Dd k p.2
  | _ + 1, .dict _ => False
  | _ + 1, _ => True
@[simp] theorem Dd_n (k : Nat) : Dd (k + 1) .none := by simp [Dd]
@[simp] theorem Dd_b (k : Nat) (b : Bool) : Dd (k + 1) (.bool b) := by simp [Dd]
@[simp] theorem Dd_i (k : Nat) (i : Int) : Dd (k + 1) (.int i) := by simp [Dd]
@[simp] theorem Dd_s (k : Nat) (x : Str) : Dd (k + 1) (.str x) := by simp [Dd]
@[simp] theorem Dd_l (k : Nat) (l : List D) : Dd (k + 1) (.list l) ↔ l.length ≤ 1000000 ∧ ∀ x ∈ l, Dd k x := by simp [Dd]
@[simp] theorem Dd_t (k : Nat) (l : List D) : Dd (k + 1) (.tuple l) ↔ l.length ≤ 1000000 ∧ ∀ x ∈ l, Dd k x := by simp [Dd]
theorem Dd_d (k : Nat) (l : List (D × D)) : Dd (k + 3) (.dict l) ↔ l.length ≤ 1000000 ∧ (∃ ks : List Str, l.map (·.1) = ks.map .str ∧ ks.Nodup) ∧ ∀ p ∈ l, Dd k p.2 := by simp [Dd]
theorem str_inj {a b : List Str} (h : a.map PyData.str = b.map .str) : a = b := by
  induction a generalizing b with
  | nil => cases b with
    | nil => rfl
    | cons _ _ => cases h
  | cons x a ih => cases b with
    | nil => cases h
    | cons y b =>
      rw [List.map_cons, List.map_cons, List.cons.injEq] at h
      rw [ih h.2, PyData.str.inj h.1]
@[simp] theorem Dd_ds {α : Type} (k : Nat) (ky : α → Str) (v : α → D) (l : List α) : Dd (k + 3) (.dict (l.map fun a => (.str (ky a), v a))) ↔ l.length ≤ 1000000 ∧ (l.map ky).Nodup ∧ ∀ a ∈ l, Dd k (v a) := by
  rw [Dd_d, List.length_map, List.map_map]
  refine and_congr Iff.rfl (and_congr ⟨fun ⟨ks, e, nd⟩ => ?_, fun nd => ⟨l.map ky, by rw [List.map_map]; rfl, nd⟩⟩ ?_)
  · have : (l.map ky).map PyData.str = ks.map .str := by rw [← e, List.map_map]; rfl
    rw [str_inj this]; exact nd
  · simp
theorem Dd.succ : ∀ {k : Nat} {d : D}, Dd k d → Dd (k + 1) d
  | 0, _, h => by simp [Dd] at h
  | k + 1, .none, _ => by simp
  | k + 1, .bool _, _ => by simp
  | k + 1, .int _, _ => by simp
  | k + 1, .str _, _ => by simp
  | k + 1, .list l, h => by
    rw [Dd_l] at h ⊢
    exact ⟨h.1, fun x hx => Dd.succ (h.2 x hx)⟩
  | k + 1, .tuple l, h => by
    rw [Dd_t] at h ⊢
    exact ⟨h.1, fun x hx => Dd.succ (h.2 x hx)⟩
  | 1, .dict l, h => by simp [Dd] at h
  | 2, .dict l, h => by simp [Dd] at h
  | k + 3, .dict l, h => by
    have h := (Dd_d k l).mp h
    exact (Dd_d (k + 1) l).mpr ⟨h.1, h.2.1, fun p hp => Dd.succ (h.2.2 p hp)⟩
theorem Dd.mono {j k : Nat} {d : D} (h : Dd j d) (le : j ≤ k) : Dd k d := by
  induction le with
  | refl => exact h
  | step _ ih => exact ih.succ
theorem rows_of {l : List (D × D)} (h : ∃ ks : List Str, l.map (·.1) = ks.map .str ∧ ks.Nodup) : ∃ rows : List (Str × D), l = rows.map (fun p => (.str p.1, p.2)) ∧ (rows.map (·.1)).Nodup := by
  obtain ⟨ks, e, nd⟩ := h
  induction l generalizing ks with
  | nil => exact ⟨[], rfl, by simp⟩
  | cons p l ih =>
    cases ks with
    | nil => cases e
    | cons x ks =>
      rw [List.map_cons, List.map_cons, List.cons.injEq] at e
      rw [List.nodup_cons] at nd
      obtain ⟨rows, rfl, nd2⟩ := ih ks e.2 nd.2
      obtain ⟨a, b⟩ := p
      have e1 : a = .str x := e.1
      subst e1
      refine ⟨(x, b) :: rows, rfl, ?_⟩
      rw [List.map_cons, List.nodup_cons]
      refine ⟨fun hx => nd.1 ?_, nd2⟩
      have e2 : (rows.map (·.1)).map PyData.str = ks.map .str := by rw [← e.2, List.map_map, List.map_map]; rfl
      rw [← str_inj e2]; exact hx
def isT : Option T → Bool
  | some (.fz (.bool true)) => true
  | _ => false
theorem isT_eq {r : Option T} (h : isT r = true) : r = some (.fz (.bool true)) := by
  unfold isT at h
  split at h
  · rfl
  · cases h
noncomputable def cpB (self : List D → Option T) : MSt := (mSeq (mIfS (mIsi (mVar 0) ["dict"]) (mRt (mDicP (mLc [3] (.nm 3) (mKeys 0) mYes (mTup (mCons (mVar 3) (mCons (mCall self (mCons (mHz (mIdx (mVar 0) (mVar 3))) mNil)) mNil)))))) mNx)
    (mSeq (mIfS (mNot (mIsi (mVar 0) ["list", "tuple"])) (mRt (mVar 0)) mNx)
    (mSeq (mPost 1 (mSet 1 (mLc [2] (.nm 2) (mIt (mVar 0)) mYes (mCall self (mCons (mVar 2) mNil)))))
    (mRt (mIf (mIsi (mVar 0) ["list"]) (mVar 1) (mTupOf (mVar 1)))))))
noncomputable def cpR : Nat → List D → Option T
  | 0 => fun _ => none
  | n + 1 => runP 4 1 (cpB (cpR n))
def Rt (r : Option T) (d : D) : Prop := ∃ t, r = some t ∧ t.d = d
theorem lcF_val {α : Type} {F : StF α} {l : List α} {s : S} (G : α → D) (h : ∀ a ∈ l, ∃ t, F a s = some (some t, s) ∧ t.d = G a) : ∃ ts, lcF F l s = some (ts, s) ∧ ts.map T.d = l.map G := by
  induction l with
  | nil => exact ⟨[], rfl, rfl⟩
  | cons a l ih =>
    obtain ⟨t, e, hd⟩ := h a List.mem_cons_self
    obtain ⟨ts, e2, hd2⟩ := ih fun b hb => h b (List.mem_cons_of_mem _ hb)
    refine ⟨t :: ts, ?_, by rw [List.map_cons, List.map_cons, hd, hd2]⟩
    rw [lcF_cons, e, lcK4_s, e2]; rfl
theorem cp_ok : ∀ {k : Nat} {d : D}, Dd k d → Rt (cpR k [d]) d
  | 0, _, h => by simp [Dd] at h
  | k + 1, .none, _ => ⟨.fz .none, by simp [cpR, cpB, ev_runP], by simp⟩
  | k + 1, .bool b, _ => ⟨.fz (.bool b), by simp [cpR, cpB, ev_runP], by simp⟩
  | k + 1, .int b, _ => ⟨.fz (.int b), by simp [cpR, cpB, ev_runP], by simp⟩
  | k + 1, .str b, _ => ⟨.fz (.str b), by simp [cpR, cpB, ev_runP], by simp⟩
  | k + 1, .list l, h => by
    rw [Dd_l] at h
    obtain ⟨ts, e, hd⟩ := lcF_val (F := fun a s => stK3 (retT s (cpR k [a]))) (l := l) (s := S0) id fun a ha => by
      obtain ⟨t, e, hd⟩ := cp_ok (h.2 a ha)
      exact ⟨t, by rw [e]; rfl, hd⟩
    rw [List.map_id] at hd
    have e3 : lcL (.nm 2) mYes (mCall (cpR k) (mCons (mVar 2) mNil)) [some (.t (.fz (.list l))), none, none, none] l S0 = some (ts, S0) := by
      have := ev_lcL (tg := .nm 2) (mt := mYes) (me := mCall (cpR k) (mCons (mVar 2) mNil)) (g := [some (.t (.fz (.list l))), none, none, none]) (s := S0) id l
      rw [List.map_id] at this
      rw [this]
      simp only [id]
      simp
      rw [lcD_F l (fun a s => stK3 (retT s (cpR k [a])))]
      exact e
    refine ⟨.fz (.list l), ?_, by simp⟩
    have hl := h.1
    clear h e
    simp [cpR, cpB, ev_runP, hl, e3]
    exact hd
  | k + 1, .tuple l, h => by
    rw [Dd_t] at h
    obtain ⟨ts, e, hd⟩ := lcF_val (F := fun a s => stK3 (retT s (cpR k [a]))) (l := l) (s := S0) id fun a ha => by
      obtain ⟨t, e, hd⟩ := cp_ok (h.2 a ha)
      exact ⟨t, by rw [e]; rfl, hd⟩
    rw [List.map_id] at hd
    have e3 : lcL (.nm 2) mYes (mCall (cpR k) (mCons (mVar 2) mNil)) [some (.t (.fz (.tuple l))), none, none, none] l S0 = some (ts, S0) := by
      have := ev_lcL (tg := .nm 2) (mt := mYes) (me := mCall (cpR k) (mCons (mVar 2) mNil)) (g := [some (.t (.fz (.tuple l))), none, none, none]) (s := S0) id l
      rw [List.map_id] at this
      rw [this]
      simp only [id]
      simp
      rw [lcD_F l (fun a s => stK3 (retT s (cpR k [a])))]
      exact e
    refine ⟨.fz (.tuple l), ?_, by simp⟩
    have hl := h.1
    clear h e
    simp [cpR, cpB, ev_runP, hl, e3]
    exact hd
  | 1, .dict l, h => by simp [Dd] at h
  | 2, .dict l, h => by simp [Dd] at h
  | k + 3, .dict l, h => by
    have h := (Dd_d k l).mp h
    obtain ⟨hl, hk, hv⟩ := h
    obtain ⟨rows, rfl, nd⟩ := rows_of hk
    rw [List.length_map] at hl
    have hv : ∀ p ∈ rows, ∃ t, cpR (k + 2) [p.2] = some t ∧ t.d = p.2 := fun p hp => cp_ok (hv _ (List.mem_map_of_mem hp)).succ.succ
    generalize he : cpR (k + 2) = rf at hv
    obtain ⟨cv, hc, hd⟩ : ∃ cv : D → T, (∀ p ∈ rows, rf [p.2] = some (cv p.2)) ∧ ∀ p ∈ rows, (cv p.2).d = p.2 := by
      refine ⟨fun d => (rf [d]).getD (.fz .none), fun p hp => ?_, fun p hp => ?_⟩
      · obtain ⟨t, e, hd⟩ := hv p hp
        simp only [e]; rfl
      · obtain ⟨t, e, hd⟩ := hv p hp
        simp only [e]; exact hd
    have hf : ∀ a ∈ rows, (rows.find? fun b => decide (b.1 = a.1)) = some a := fun a ha => find_mem (fun p : Str × D => p.1) nd ha
    refine ⟨.dic false (rows.map fun p => (.str p.1, cv p.2)), ?_, ?_⟩
    · have pu := puts_own (fun p : Str × D => p.1) (fun p => cv p.2) rows nd
      rw [cpR, he]
      clear hv hk h he
      simp (disch := first | assumption | omega | (refine List.mem_range.mp ?_; assumption)) [cpB, ev_runP, hc, hf, pu]
    · rw [d_dic_m]
      exact congrArg PyData.dict (List.map_congr_left fun p hp => by rw [hd p hp])
noncomputable def smB (self : List D → Option T) : MSt := (mSeq (mIfS (mIsi (mVar 1) ["list", "tuple"]) (mSeq (mIfS (mOr (mCmp dNe (mIsi (mVar 0) ["list"]) (mIsi (mVar 1) ["list"])) (mCmp dNe (mIsi (mVar 0) ["tuple"]) (mIsi (mVar 1) ["tuple"]))) (mRt (mC (.bool false))) mNx)
    (mRt (mAnd (mCmp dEq (mB bLen (mCons (mVar 0) mNil)) (mB bLen (mCons (mVar 1) mNil))) (mB bAll (mCons (mLc [2, 3] (.tp [(.nm 2), (.nm 3)]) (mZip (mCons (mVar 0) (mCons (mVar 1) mNil))) mYes (mCall self (mCons (mVar 2) (mCons (mVar 3) mNil)))) mNil))))) mNx)
    (mSeq (mIfS (mIsi (mVar 1) ["dict"]) (mRt (mAnd (mIsi (mVar 0) ["dict"]) (mCall self (mCons (mHz (mItL (mVar 0))) (mCons (mHz (mItL (mVar 1))) mNil))))) mNx)
    (mSeq (mIfS (mIsi (mVar 1) ["int"]) (mRt (mAnd (mIsi (mVar 0) ["int"]) (mAnd (mCmp dEq (mIsi (mVar 0) ["bool"]) (mIsi (mVar 1) ["bool"])) (mCmp dEq (mVar 0) (mVar 1))))) mNx)
    (mSeq (mIfS (mIs false (mVar 1) (mC .none)) (mRt (mIs false (mVar 0) (mC .none))) mNx)
    (mSeq (mIfS (mIsi (mVar 1) ["str"]) (mRt (mAnd (mIsi (mVar 0) ["str"]) (mCmp dEq (mVar 0) (mVar 1)))) mNx)
    (mRt (mAnd (mNot (mIsi (mVar 0) ["int", "str", "list", "tuple", "dict"])) (mCmp dEq (mVar 0) (mVar 1)))))))))
noncomputable def smR : Nat → List D → Option T
  | 0 => fun _ => none
  | n + 1 => runP 4 2 (smB (smR n))
theorem zip_self {α : Type} (f : α → α → D) : ∀ l : List α, List.zipWith f l l = l.map fun a => f a a
  | [] => rfl
  | a :: l => by rw [List.zipWith_cons_cons, zip_self f l, List.map_cons]
theorem sm_ok : ∀ {k : Nat} {d : D}, Dd k d → smR k [d, d] = some (.fz (.bool true))
  | 0, _, h => by simp [Dd] at h
  | k + 1, .none, _ => by simp [smR, smB, ev_runP]
  | k + 1, .bool b, _ => by simp [smR, smB, ev_runP]
  | k + 1, .int b, _ => by simp [smR, smB, ev_runP]
  | k + 1, .str b, _ => by simp [smR, smB, ev_runP]
  | k + 1, .list l, h => by
    rw [Dd_l] at h
    obtain ⟨hl, h⟩ := h
    have hr : ∀ a ∈ l, smR k [a, a] = some (.fz (.bool true)) := fun a ha => sm_ok (h a ha)
    rw [smR]
    generalize smR k = rf at hr
    clear h
    simp (disch := first | assumption | omega | (refine List.mem_range.mp ?_; assumption)) [smB, ev_runP, zip_self, hr]
  | k + 1, .tuple l, h => by
    rw [Dd_t] at h
    obtain ⟨hl, h⟩ := h
    have hr : ∀ a ∈ l, smR k [a, a] = some (.fz (.bool true)) := fun a ha => sm_ok (h a ha)
    rw [smR]
    generalize smR k = rf at hr
    clear h
    simp (disch := first | assumption | omega | (refine List.mem_range.mp ?_; assumption)) [smB, ev_runP, zip_self, hr]
  | 1, .dict l, h => by simp [Dd] at h
  | 2, .dict l, h => by simp [Dd] at h
  | k + 3, .dict l, h => by
    have h := (Dd_d k l).mp h
    obtain ⟨hl, hk, hv⟩ := h
    obtain ⟨rows, rfl, nd⟩ := rows_of hk
    rw [List.length_map] at hl
    have hh : smR (k + 2) [.list (rows.map fun p => .tuple [.str p.1, p.2]), .list (rows.map fun p => .tuple [.str p.1, p.2])] = some (.fz (.bool true)) := by
      have hr : ∀ p ∈ rows, smR (k + 1) [.tuple [.str p.1, p.2], .tuple [.str p.1, p.2]] = some (.fz (.bool true)) := by
        intro p hp
        have h2 : smR k [p.2, p.2] = some (.fz (.bool true)) := sm_ok (hv _ (List.mem_map_of_mem hp))
        have h3 : smR k [.str p.1, .str p.1] = some (.fz (.bool true)) := by
          cases k with
          | zero => have := hv _ (List.mem_map_of_mem hp); simp [Dd] at this
          | succ k => simp [smR, smB, ev_runP]
        rw [smR]
        generalize smR k = rf at h2 h3
        simp [smB, ev_runP, h2, h3]
      rw [smR]
      generalize smR (k + 1) = rf at hr
      clear hv hk h
      simp (disch := first | assumption | omega | (refine List.mem_range.mp ?_; assumption)) [smB, ev_runP, zip_self, hr]
    rw [smR]
    generalize smR (k + 2) = rf at hh
    clear hv hk h
    simp (disch := first | assumption | omega | (refine List.mem_range.mp ?_; assumption)) [smB, ev_runP, hh]
end DV

namespace DV
open PySem PySem.Spec PyProof.Rows L2
theorem sortOk_of {ds : List D} (h1 : ∀ d ∈ ds, ∀ e ∈ ds, PySem.W.alike d e = true) (h2 : (∀ d ∈ ds, headT d = true) ∨ (∀ d ∈ ds, plainS d = true)) (h3 : ∀ d ∈ ds, nod d = true ∧ d.depth ≤ 60) (h4 : ds.length ≤ 1000000) : sortOk ds = true := by
  unfold sortOk
  simp only [Bool.and_eq_true, List.all_eq_true, Bool.or_eq_true, decide_eq_true_eq]
  exact ⟨⟨⟨h1, h2⟩, h3⟩, lenOk_of h4⟩
@[simp] theorem sortOk_strs {α : Type} (f : α → Str) (l : List α) (h : l.length ≤ 1000000) : sortOk (l.map fun a => PyData.str (f a)) = true := by
  refine sortOk_of ?_ (.inr ?_) ?_ (by rw [List.length_map]; exact h)
  · simp [PySem.W.alike]
  · simp [plainS]
  · simp [nod, PyData.depth]
@[simp] theorem sortOk_ints {α : Type} (f : α → Int) (l : List α) (h : l.length ≤ 1000000) : sortOk (l.map fun a => PyData.int (f a)) = true := by
  refine sortOk_of ?_ (.inr ?_) ?_ (by rw [List.length_map]; exact h)
  · simp [PySem.W.alike]
  · simp [plainS]
  · simp [nod, PyData.depth]
@[simp] theorem sortOk_s (l : List Str) (h : l.length ≤ 1000000) : sortOk (l.map fun a => PyData.str a) = true := sortOk_strs (fun a => a) l h
@[simp] theorem sortOk_i (l : List Int) (h : l.length ≤ 1000000) : sortOk (l.map fun a => PyData.int a) = true := sortOk_ints (fun a => a) l h
@[simp] theorem sortD_s (l : List Str) : sortD (l.map fun a => PyData.str a) = (sortS l).map fun a => PyData.str a := sortD_strs l
@[simp] theorem sortD_s' {α : Type} (f : α → Str) (l : List α) : sortD (l.map fun a => PyData.str (f a)) = (sortS (l.map f)).map fun a => PyData.str a := by
  have := sortD_strs (l.map f)
  rw [List.map_map] at this
  exact this
/-- numbers, ascending -/
def sortI (l : List Int) : List Int := l.mergeSort fun a b => decide (a ≤ b)
theorem sortD_ints (l : List Int) : sortD (l.map PyData.int) = (sortI l).map PyData.int := by
  unfold sortD sortI
  rw [List.map_mergeSort (f := PyData.int) (s := PySem.W.dataLe false id)]
  intro a ha b hb
  have := congrFun (congrFun (PySem.W.dataLe_int (fun x : Int => x)) a) b
  exact this.symm
@[simp] theorem sortD_i (l : List Int) : sortD (l.map fun a => PyData.int a) = (sortI l).map fun a => PyData.int a := sortD_ints l
@[simp] theorem sortD_i' {α : Type} (f : α → Int) (l : List α) : sortD (l.map fun a => PyData.int (f a)) = (sortI (l.map f)).map fun a => PyData.int a := by
  have := sortD_ints (l.map f)
  rw [List.map_map] at this
  exact this
abbrev AscS (l : List Str) : Prop := l.Pairwise fun a b => strLe a b = true
abbrev AscI (l : List Int) : Prop := l.Pairwise fun a b => a ≤ b
theorem sortS_perm (l : List Str) : (sortS l).Perm l := List.mergeSort_perm l _
theorem sortI_perm (l : List Int) : (sortI l).Perm l := List.mergeSort_perm l _
theorem sortS_asc (l : List Str) : AscS (sortS l) := List.pairwise_mergeSort strLe_trans strLe_total l
theorem sortI_asc (l : List Int) : AscI (sortI l) := by
  have := List.pairwise_mergeSort (le := fun a b : Int => decide (a ≤ b)) (by intro a b c h h2; simp at h h2 ⊢; omega) (by intro a b; simp; omega) l
  exact this.imp fun h => by simpa using h
theorem sortS_id {l : List Str} (h : AscS l) : sortS l = l := List.mergeSort_of_pairwise h
theorem sortI_id {l : List Int} (h : AscI l) : sortI l = l := List.mergeSort_of_pairwise (h.imp fun h => by simpa using h)
theorem sortS_uniq {l m : List Str} (h : l.Perm m) : sortS l = sortS m :=
  List.Perm.eq_of_pairwise (fun x y _ _ h1 h2 => strLe_anti h1 h2) (sortS_asc l) (sortS_asc m) ((sortS_perm l).trans (h.trans (sortS_perm m).symm))
theorem sortI_uniq {l m : List Int} (h : l.Perm m) : sortI l = sortI m :=
  List.Perm.eq_of_pairwise (fun x y _ _ h1 h2 => by omega) (sortI_asc l) (sortI_asc m) ((sortI_perm l).trans (h.trans (sortI_perm m).symm))
@[simp] theorem sortS_sortS (l : List Str) : sortS (sortS l) = sortS l := sortS_id (sortS_asc l)
@[simp] theorem sortI_sortI (l : List Int) : sortI (sortI l) = sortI l := sortI_id (sortI_asc l)
@[simp] theorem sortS_len (l : List Str) : (sortS l).length = l.length := (sortS_perm l).length_eq
@[simp] theorem sortI_len (l : List Int) : (sortI l).length = l.length := (sortI_perm l).length_eq
@[simp] theorem sortS_mem {l : List Str} {x : Str} : x ∈ sortS l ↔ x ∈ l := (sortS_perm l).mem_iff
@[simp] theorem sortI_mem {l : List Int} {x : Int} : x ∈ sortI l ↔ x ∈ l := (sortI_perm l).mem_iff
theorem sortS_nd {l : List Str} (h : l.Nodup) : (sortS l).Nodup := (sortS_perm l).nodup_iff.mpr h
theorem AscS.sub {l m : List Str} (h : AscS l) (s : m.Sublist l) : AscS m := h.sublist s
theorem nd_of {α β : Type} {f : α → β} {l : List α} (h : (l.map f).Nodup) : l.Nodup := by
  induction l with
  | nil => exact .nil
  | cons a l ih =>
    rw [List.map_cons, List.nodup_cons] at h
    exact List.nodup_cons.mpr ⟨fun ha => h.1 (List.mem_map_of_mem ha), ih h.2⟩
open Classical in
/-- a comprehension that draws: what comes is a function of the item -/
theorem lcF_ch {α β : Type} [Inhabited β] {Φ : StF α} (G : α → β → T) (R : α → β → Prop) (J : Nat → S → Prop) {n : Nat} : ∀ {l : List α} {s : S}, l.Nodup → (∀ a ∈ l, ∀ n s, J (n + 1) s → ∃ b s', Φ a s = some (some (G a b), s') ∧ R a b ∧ J n s') → J (n + l.length) s →
    ∃ (F : α → β) (s' : S), lcF Φ l s = some (l.map fun a => G a (F a), s') ∧ (∀ a ∈ l, R a (F a)) ∧ J n s'
  | [], s, _, _, j => ⟨fun _ => default, s, by simp, by simp, j⟩
  | a :: l, s, nd, h, j => by
    rw [List.nodup_cons] at nd
    obtain ⟨b, s1, e, r, j1⟩ := h a List.mem_cons_self (n + l.length) s j
    obtain ⟨F, s2, e2, hr, j2⟩ := lcF_ch G R J (l := l) nd.2 (fun c hc => h c (List.mem_cons_of_mem _ hc)) j1
    have hF : ∀ c ∈ l, (if c = a then b else F c) = F c := fun c hc => if_neg fun e => nd.1 (by rw [← e]; exact hc)
    refine ⟨fun c => if c = a then b else F c, s2, ?_, fun c hc => ?_, j2⟩
    · rw [lcF_cons, e, lcK4_s, e2, List.map_cons]
      have e3 : (l.map fun c => G c (if c = a then b else F c)) = l.map fun c => G c (F c) := List.map_congr_left fun c hc => by rw [hF c hc]
      simp only [if_true]
      rw [e3]; rfl
    · show R c (if c = a then b else F c)
      rcases List.mem_cons.mp hc with rfl | hc
      · rw [if_pos rfl]; exact r
      · rw [hF c hc]; exact hr c hc
theorem lcD_ch {α β : Type} [Inhabited β] {l : List α} {Φ : (a : α) → a ∈ l → S → Option (Option T × S)} (G : α → β → T) (R : α → β → Prop) (J : Nat → S → Prop) {n : Nat} {s : S} (nd : l.Nodup) (h : ∀ a ha n s, J (n + 1) s → ∃ b s', Φ a ha s = some (some (G a b), s') ∧ R a b ∧ J n s') (j : J (n + l.length) s) :
    ∃ (F : α → β) (s' : S), lcD l Φ s = some (l.map fun a => G a (F a), s') ∧ (∀ a ∈ l, R a (F a)) ∧ J n s' := by
  have nd2 : l.attach.Nodup := nd_of (f := (·.1)) (by rw [List.attach_map_subtype_val]; exact nd)
  obtain ⟨F, s', e, r, j'⟩ := lcF_ch (Φ := fun (a : {x // x ∈ l}) s => Φ a.1 a.2 s) (l := l.attach) (s := s) (n := n) (fun a b => G a.1 b) (fun a b => R a.1 b) J nd2 (fun a _ n s j => h a.1 a.2 n s j) (by rw [List.length_attach]; exact j)
  have key : ∀ a (ha : a ∈ l), (open Classical in (if h : a ∈ l then F ⟨a, h⟩ else default)) = F ⟨a, ha⟩ := fun a ha => dif_pos ha
  refine ⟨fun a => (open Classical in (if h : a ∈ l then F ⟨a, h⟩ else default)), s', ?_, fun a ha => ?_, j'⟩
  · have e2 : (l.attach.map fun a => G a.1 (F a)) = l.map fun a => G a (open Classical in (if h : a ∈ l then F ⟨a, h⟩ else default)) := by
      have e3 : (l.attach.map fun a => G a.1 (F a)) = l.attach.map ((fun a => G a (open Classical in (if h : a ∈ l then F ⟨a, h⟩ else default))) ∘ (·.1)) := List.map_congr_left fun a _ => by
        show _ = G a.1 _
        rw [key a.1 a.2]
      rw [e3, ← List.map_map, List.attach_map_subtype_val]
    rw [← e2]; exact e
  · have e5 : (fun a => (open Classical in (if h : a ∈ l then F ⟨a, h⟩ else default))) a = F ⟨a, ha⟩ := key a ha
    rw [e5]
    exact r ⟨a, ha⟩ (List.mem_attach l ⟨a, ha⟩)
end DV
namespace DV
theorem nab (a b : Int) : (a - b).natAbs = (b - a).natAbs := by omega
end DV
namespace DV
open PySem PySem.Spec PyProof.Rows L2
theorem canLay_ints' (l : List Int) : PyData.canLayAll0 (l.map .int) = true ∧ PyData.depthAll (l.map .int) = 0 := by
  induction l with
  | nil => exact ⟨rfl, rfl⟩
  | cons a l ih => simp [PyData.canLayAll0, PyData.canLay0, PyData.depthAll, PyData.depth, ih]
theorem dEq_lists {α : Type} (k : α → Str) (v : α → List Int) {l : List α} (nd : (l.map k).Nodup) : dEq (.dict (l.map fun a => (.str (k a), .list ((v a).map .int)))) (.dict (l.map fun a => (.str (k a), .list ((v a).map .int)))) = some true := by
  have h1 := keysK_strs k (fun a => PyData.list ((v a).map .int)) l
  have h2 : valsN (l.map fun a => (PyData.str (k a), PyData.list ((v a).map .int))) = true := by
    unfold valsN
    rw [List.all_map, List.all_eq_true]
    intro a _
    simp [PySem.SeqAt.shaped, PyData.canLay0, PyData.depth, canLay_ints' (v a)]
  have h3 : eqDic (l.map fun a => (PyData.str (k a), PyData.list ((v a).map .int))) (l.map fun a => (PyData.str (k a), PyData.list ((v a).map .int))) = true := by
    unfold eqDic
    rw [Bool.and_eq_true, List.all_map, List.all_eq_true]
    refine ⟨by simp, fun a ha => ?_⟩
    simp only [Function.comp, dLook_gen, find_mem k nd ha, Option.map_some, eqv_ll, eqvAll_ints]
    simp
  unfold dEq
  simp only [h1, h2, h3]
  rfl
end DV
namespace DV
open PySem PySem.Spec PyProof.Rows L2
theorem ixN_m1 {n : Nat} (h : 0 < n) : ixN n (-1) = some (n - 1) := by
  unfold ixN
  rw [if_neg (by omega), if_pos (by omega)]
  congr 1; omega
theorem ixN_nat {n k : Nat} (h : k < n) : ixN n (k : Int) = some k := by
  unfold ixN
  rw [if_pos (by omega), if_pos (by omega)]
  congr 1
end DV
namespace DV
open PySem PySem.Spec PyProof.Rows L2
@[simp] theorem dEq_t2 (a b c d : Int) : dEq (.tuple [.int a, .int b]) (.tuple [.int c, .int d]) = some (decide (a = c) && decide (b = d)) := by
  have h : ∀ x y : Int, PySem.SeqAt.shaped (.tuple [.int x, .int y]) = true := fun x y => by simp [PySem.SeqAt.shaped, PyData.canLay0, PyData.canLayAll0, PyData.depth, PyData.depthAll]
  unfold dEq
  simp only [h]
  simp
end DV

namespace Lk29
open PySem PySem.Spec PyProof.Rows L2 DV
def topS (i : Nat) : Stmt := PySem.Challenge.pw_partedstock_k29_main_two_lives_make_two.main.body.getD i (.Pass ⟨0, 0, 0, 0⟩)
structure Ctx (K : PySem.W.Frag) (mg : Str → Option Value) : Prop where
  d__law_draw : ∃ f fd, C8.Def K mg "_law_draw" (topS 52) f fd ∧ Binds K fd ["stream", "many"] []
  d__law_mixed : ∃ f fd, C8.Def K mg "_law_mixed" (topS 54) f fd ∧ Binds K fd ["stream", "some"] []
  d__law_ev_names : ∃ f fd, C8.Def K mg "_law_ev_names" (topS 44) f fd ∧ Binds K fd ["stream", "many"] []
  d__law_pick : ∃ f fd, C8.Def K mg "_law_pick" (topS 53) f fd ∧ Binds K fd ["stream", "some"] []
  d__law_kn_ranges : ∃ f fd, C8.Def K mg "_law_kn_ranges" (topS 45) f fd ∧ Binds K fd ["stream", "many"] []
  d__law_kn_life : ∃ f fd, C8.Def K mg "_law_kn_life" (topS 46) f fd ∧ Binds K fd ["stream", "row", "last"] []
  d__law_kn_told : ∃ f fd, C8.Def K mg "_law_kn_told" (topS 47) f fd ∧ Binds K fd ["stream", "ranges", "many"] []
  d__law_copied : ∃ f fd, C8.Def K mg "_law_copied" (topS 55) f fd ∧ Binds K fd ["thing"] []
  d__law_a_is_integer : ∃ f fd, C8.Def K mg "_law_a_is_integer" (topS 43) f fd ∧ Binds K fd ["thing"] []
  d__law_kn_is_life : ∃ f fd, C8.Def K mg "_law_kn_is_life" (topS 49) f fd ∧ Binds K fd ["row", "thing", "many"] []
  d__law_kn_are_lives : ∃ f fd, C8.Def K mg "_law_kn_are_lives" (topS 50) f fd ∧ Binds K fd ["ranges", "rows", "thing", "last"] []
  d__law_kn_last : ∃ f fd, C8.Def K mg "_law_kn_last" (topS 48) f fd ∧ Binds K fd ["rows"] []
  d__law_lv_ends : ∃ f fd, C8.Def K mg "_law_lv_ends" (topS 57) f fd ∧ Binds K fd ["ranges", "rows", "store", "hour"] []
  d__law_lv_all : ∃ f fd, C8.Def K mg "_law_lv_all" (topS 58) f fd ∧ Binds K fd ["ranges", "rows", "last", "at"] []
  d__law_lv_both : ∃ f fd, C8.Def K mg "_law_lv_both" (topS 59) f fd ∧ Binds K fd ["one", "other"] []
  d__law_same : ∃ f fd, C8.Def K mg "_law_same" (topS 56) f fd ∧ Binds K fd ["found", "due"] []
  d_is_integer : ∃ f fd, C8.Def K mg "is_integer" (topS 10) f fd ∧ Binds K fd ["thing"] []
  d_is_list : ∃ f fd, C8.Def K mg "is_list" (topS 9) f fd ∧ Binds K fd ["thing"] []
  d_is_life : ∃ f fd, C8.Def K mg "is_life" (topS 28) f fd ∧ Binds K fd ["row", "thing", "many"] []
  d_are_lives : ∃ f fd, C8.Def K mg "are_lives" (topS 29) f fd ∧ Binds K fd ["known", "rows", "thing", "last"] []
  d_do_differ : ∃ f fd, C8.Def K mg "do_differ" (topS 22) f fd ∧ Binds K fd ["known", "one", "other"] []
  d_is_number : ∃ f fd, C8.Def K mg "is_number" (topS 11) f fd ∧ Binds K fd ["thing"] []
  d_is_climbing : ∃ f fd, C8.Def K mg "is_climbing" (topS 15) f fd ∧ Binds K fd ["thing", "many"] []
  d_is_out_of_range : ∃ f fd, C8.Def K mg "is_out_of_range" (topS 21) f fd ∧ Binds K fd ["known", "one"] []
  d_is_word_row : ∃ f fd, C8.Def K mg "is_word_row" (topS 16) f fd ∧ Binds K fd ["thing", "word", "many"] []
  d_is_name : ∃ f fd, C8.Def K mg "is_name" (topS 12) f fd ∧ Binds K fd ["thing"] []
  d_is_range_row : ∃ f fd, C8.Def K mg "is_range_row" (topS 18) f fd ∧ Binds K fd ["thing"] []
  d_known_ranges : ∃ f fd, C8.Def K mg "known_ranges" (topS 19) f fd ∧ Binds K fd ["ranges"] []
  d_is_one_of : ∃ f fd, C8.Def K mg "is_one_of" (topS 13) f fd ∧ Binds K fd ["known", "thing"] []
  d_known_tellings : ∃ f fd, C8.Def K mg "known_tellings" (topS 20) f fd ∧ Binds K fd ["known", "tellings"] []
  d_last_told : ∃ f fd, C8.Def K mg "last_told" (topS 25) f fd ∧ Binds K fd ["rows"] []
  d_is_lives_or_clash : ∃ f fd, C8.Def K mg "is_lives_or_clash" (topS 30) f fd ∧ Binds K fd ["ranges", "tellings", "thing"] []
  d_clash_of : ∃ f fd, C8.Def K mg "clash_of" (topS 23) f fd ∧ Binds K fd ["known", "rows"] []
  d_ends_at : ∃ f fd, C8.Def K mg "ends_at" (topS 24) f fd ∧ Binds K fd ["known", "rows", "store", "hour"] []
  d_highest_lives : ∃ f fd, C8.Def K mg "highest_lives" (topS 26) f fd ∧ Binds K fd ["known", "rows", "last"] []
  d_lives_or_clash : ∃ f fd, C8.Def K mg "lives_or_clash" (topS 27) f fd ∧ Binds K fd ["ranges", "tellings"] []
  d__law_lv_lives_right : ∃ f fd, C8.Def K mg "_law_lv_lives_right" (topS 60) f fd ∧ Binds K fd ["stream", "ranges", "rows", "lives"] []
  d_look_told : ∃ f fd, C8.Def K mg "look_told" (topS 31) f fd ∧ Binds K fd ["known", "rows"] []
  d_can_have : ∃ f fd, C8.Def K mg "can_have" (topS 32) f fd ∧ Binds K fd ["ranges", "tellings", "store", "hour"] []
  d_told_at : ∃ f fd, C8.Def K mg "told_at" (topS 33) f fd ∧ Binds K fd ["ranges", "tellings", "hour"] []
  d_widths_by : ∃ f fd, C8.Def K mg "widths_by" (topS 40) f fd ∧ Binds K fd ["known", "rows", "hour"] []
  d_open_widths : ∃ f fd, C8.Def K mg "open_widths" (topS 41) f fd ∧ Binds K fd ["ranges", "tellings", "hour"] []
  d_least_at : ∃ f fd, C8.Def K mg "least_at" (topS 37) f fd ∧ Binds K fd ["ranges", "tellings", "hour", "least"] []
  d_whole_ends : ∃ f fd, C8.Def K mg "whole_ends" (topS 34) f fd ∧ Binds K fd ["known", "rows", "hour"] []
  d_lives_by : ∃ f fd, C8.Def K mg "lives_by" (topS 36) f fd ∧ Binds K fd ["known", "rows", "hour", "total"] []
  d_sure_word : ∃ f fd, C8.Def K mg "sure_word" (topS 38) f fd ∧ Binds K fd ["known", "rows", "hour", "least"] []
  d_sure_or_two : ∃ f fd, C8.Def K mg "sure_or_two" (topS 39) f fd ∧ Binds K fd ["ranges", "tellings", "hour", "least"] []
  d_whole_between : ∃ f fd, C8.Def K mg "whole_between" (topS 35) f fd ∧ Binds K fd ["ranges", "tellings", "hour"] []
  d__law_lv_put_right : ∃ f fd, C8.Def K mg "_law_lv_put_right" (topS 61) f fd ∧ Binds K fd ["stream", "ranges", "lots"] []
  d__law_start : ∃ f fd, C8.Def K mg "_law_start" (topS 51) f fd ∧ Binds K fd ["script"] []
  d_law : ∃ f fd, C8.Def K mg "law" (topS 62) f fd ∧ ∀ (s : Shared) (v : Value), BindsTo s fd ⟨[v], []⟩ [("script", v)]
  b_abs : mg "abs" = none
  b_all : mg "all" = none
  b_bool : mg "bool" = none
  b_dict : mg "dict" = none
  b_enumerate : mg "enumerate" = none
  b_int : mg "int" = none
  b_isinstance : mg "isinstance" = none
  b_len : mg "len" = none
  b_list : mg "list" = none
  b_max : mg "max" = none
  b_min : mg "min" = none
  b_range : mg "range" = none
  b_sorted : mg "sorted" = none
  b_str : mg "str" = none
  b_sum : mg "sum" = none
  b_tuple : mg "tuple" = none
  b_zip : mg "zip" = none
section
variable {P : Program} {w : World} {K : PySem.W.Frag} {mg : Str → Option Value} {base : Heap}
theorem sc__law_draw : FnScope ["stream", "many", "cell", "digit", "mixed"] ["stream", "many"] (C8.fnScope (topS 52)) := ⟨rfl, rfl, rfl, by decide +kernel, rfl, by decide +kernel, by decide +kernel⟩
abbrev r__law_draw := drawF
theorem ok__law_draw (c : Ctx K mg) : C8.Cal P w K mg base 1 "_law_draw" (spS K drawF) [] := by
  obtain ⟨f, fd, df, bi⟩ := c.d__law_draw
  refine C8.cal0 df bi .nil sc__law_draw (fun vs H Q E h => draw_len h) fun cdv A outer s H vs Q E hr h => ⟨_,
    pss_cons (ps_asg (pe_op op_add (pe_ix ix_list (pv 0) pe_int (fun _ _ => rfl)) pe_int) (pg_sub (pv 0) pe_int set_list))
    (pss_cons (ps_while PassesOwn.never (pw_and (pt_cmpR op_eq (pe_ix ix_list (pv 0) pe_int (fun _ _ => rfl)) pe_int rfl) (pw_and1 (pt_cmpR (op_neDD (hu100 hr)) (pe_ix ix_list (pv 0) pe_int (fun _ _ => rfl)) (pe_lst pa_nil) rfl))).pt
      (pss_cons (ps_set (i := 2) sc__law_draw.nd rfl (.inl rfl) (pe_bm PySem.F.plainAttrs_list PySem.F.slot_list_pop PySem.F.type_list_pop mt_popAt (pe_ix ix_list (pv 0) pe_int (fun _ _ => rfl)) (pa_cons pe_int pa_nil)))
      (pss_cons (ps_asg (pe_op op_mod (pe_callTy call_int1 (by rfl) c.b_int boot_int (pa_cons (pe_op op_add (pe_op op_add (pe_op op_mul (pe_ix ix_list (pv 0) pe_int (fun _ _ => rfl)) pe_int) (pv 2)) pe_int) pa_nil)) pe_int) (pg_sub (pv 0) pe_int set_list))
      (pss_one (ps_asg (pe_ifExp (pt_cmpR op_ge (pv 2) (pe_op op_pow pe_int pe_int) rfl) (pv 2) pe_int) (pg_sub (pv 0) pe_int set_list))))))
    (pss_cons (ps_if (pt_cmpR op_gt (pe_ix ix_list (pv 0) pe_int (fun _ _ => rfl)) pe_int rfl)
      (pss_cons (ps_set (i := 3) sc__law_draw.nd rfl (.inl rfl) (pe_op op_mod (pe_callTy call_int1 (by rfl) c.b_int boot_int (pa_cons (pe_ix ix_list (pv 0) pe_int (fun _ _ => rfl)) pa_nil)) (pv 1)))
      (pss_cons (ps_asg (pe_op op_fdiv (pe_ix ix_list (pv 0) pe_int (fun _ _ => rfl)) (pv 1)) (pg_sub (pv 0) pe_int set_list))
      (pss_one (ps_ret (pv 3))))) pss_nil)
    (pss_cons (ps_set (i := 4) sc__law_draw.nd rfl (.inl rfl) (pe_op op_mod (pe_callTy call_int1 (by rfl) c.b_int boot_int (pa_cons (pe_op op_pow (pe_op op_add (pe_op op_add (pe_ix ix_list (pv 0) pe_int (fun _ _ => rfl)) (pe_op op_mul pe_int (pe_ix ix_list (pv 0) pe_int (fun _ _ => rfl)))) pe_int) pe_int) pa_nil)) pe_int))
    (pss_one (ps_ret (pe_op op_mod (pe_op op_mod (pe_callTy call_int1 (by rfl) c.b_int boot_int (pa_cons (pe_op op_pow (pe_op op_add (pe_op op_add (pe_op op_mul (pv 4) pe_int) (pe_op op_mul pe_int (pe_ix ix_list (pv 0) pe_int (fun _ _ => rfl)))) pe_int) pe_int) pa_nil)) pe_int) (pv 1))))))), draw_reads h⟩
theorem sc__law_mixed : FnScope ["stream", "some", "left", "k"] ["stream", "some"] (C8.fnScope (topS 54)) := ⟨rfl, rfl, rfl, by decide +kernel, rfl, by decide +kernel, by decide +kernel⟩
abbrev r__law_mixed := mixedF
theorem ok__law_mixed (c : Ctx K mg) : C8.Cal P w K mg base 2 "_law_mixed" (spS K mixedF) [] := by
  obtain ⟨f, fd, df, bi⟩ := c.d__law_mixed
  refine C8.cal0 df bi .nil sc__law_mixed (fun vs H Q E h => mixed_len h) fun cdv A outer s H vs Q E hr h => ⟨_,
    pss_cons (ps_set (i := 2) sc__law_mixed.nd rfl (by first | exact .inl rfl | exact .inr rfl) (pe_callTy call_list_of (by rfl) c.b_list boot_list (pa_cons (pv 1) pa_nil)))
    (pss_one (ps_ret (pe_lc (own := [("k", 3)]) rfl sc__law_mixed.nd (pi_range1 (by rfl) c.b_range (pa_cons (pe_callB call_len_seq (by rfl) c.b_len PySem.boot_len (pa_cons (pv 2) pa_nil)) pa_nil)) (blkOk_by (by rfl)) (fun _ _ _ _ _ => pg_name (i := 3) sc__law_mixed.nd rfl (.inl rfl)) (fun _ _ _ _ _ => pts_nil)
      (fun _ _ _ _ _ => pe_bm PySem.F.plainAttrs_list PySem.F.slot_list_pop PySem.F.type_list_pop mt_popAt (pv 2) (pa_cons (C8.pe_c (ok__law_draw c) hr (by decide) (by rfl) (pa_cons (pv 0) (pa_cons (pe_callB call_len_seq (by rfl) c.b_len PySem.boot_len (pa_cons (pv 2) pa_nil)) pa_nil))) pa_nil))))), mixed_reads h⟩
theorem sc__law_ev_names : FnScope ["stream", "many", "some"] ["stream", "many"] (C8.fnScope (topS 44)) := ⟨rfl, rfl, rfl, by decide +kernel, rfl, by decide +kernel, by decide +kernel⟩
noncomputable def b__law_ev_names : MSt := (mSeq (mSet 2 (mFz (mLst (mCons (mC (.str "a")) (mCons (mC (.str "b")) (mCons (mC (.str "c1")) (mCons (mC (.str "ann")) (mCons (mC (.str "bo")) (mCons (mC (.str "j0")) (mCons (mC (.str "zoe")) (mCons (mC (.str "twelvesigns0")) (mCons (mC (.str "k")) (mCons (mC (.str "s1")) (mCons (mC (.str "s10")) (mCons (mC (.str "x")) mNil)))))))))))))))
    (mRt (mSorted (mSl (mCallS r__law_mixed (mgS 0 (mgD (mVar 2) mgNil))) moNo (moSome (mAdd (mC (.int 2)) (mCallS r__law_draw (mgS 0 (mgD (mSubI (mVar 1) (mC (.int 1))) mgNil)))))))))
noncomputable def r__law_ev_names : List DV.Arg → S → Option (T × S) := runS 3 2 b__law_ev_names
theorem ok__law_ev_names (c : Ctx K mg) : C8.Cal P w K mg base 3 "_law_ev_names" (spS K r__law_ev_names) [] := by
  obtain ⟨f, fd, df, bi⟩ := c.d__law_ev_names
  exact cal_S df bi sc__law_ev_names rfl rfl fun cdv A outer s H E stm hr => (sb_cons (ss_set sc__law_ev_names.nd rfl (by first | exact .inl rfl | exact .inr rfl) (se_fz (se_lst (sa_cons se_str (sa_cons se_str (sa_cons se_str (sa_cons se_str (sa_cons se_str (sa_cons se_str (sa_cons se_str (sa_cons se_str (sa_cons se_str (sa_cons se_str (sa_cons se_str (sa_cons se_str sa_nil)))))))))))))))
    (sb_one (ss_ret (se_sorted rfl (hu100 hr) (by rfl) c.b_sorted (se_sl (se_callS (ok__law_mixed c) hr (by decide) (by rfl) (sg_s (pv 0) (sg_d (se_var (pv 2)) sg_nil))) so_none (so_some (se_add se_int (se_callS (ok__law_draw c) hr (by decide) (by rfl) (sg_s (pv 0) (sg_d (se_subI (se_var (pv 1)) se_int) sg_nil))))))))))
theorem sc__law_pick : FnScope ["stream", "some"] ["stream", "some"] (C8.fnScope (topS 53)) := ⟨rfl, rfl, rfl, by decide +kernel, rfl, by decide +kernel, by decide +kernel⟩
noncomputable def b__law_pick : MSt := (mRt (mIdx (mVar 1) (mCallS r__law_draw (mgS 0 (mgD (mB bLen (mCons (mVar 1) mNil)) mgNil)))))
noncomputable def r__law_pick : List DV.Arg → S → Option (T × S) := runS 2 2 b__law_pick
theorem ok__law_pick (c : Ctx K mg) : C8.Cal P w K mg base 2 "_law_pick" (spS K r__law_pick) [] := by
  obtain ⟨f, fd, df, bi⟩ := c.d__law_pick
  exact cal_S df bi sc__law_pick rfl rfl fun cdv A outer s H E stm hr => (sb_one (ss_ret (se_idx (hu_of hr) (se_var (pv 1)) (se_callS (ok__law_draw c) hr (by decide) (by rfl) (sg_s (pv 0) (sg_d (se_b ok_len call_lenD (by rfl) c.b_len PySem.boot_len (sa_cons (se_var (pv 1)) sa_nil)) sg_nil))))))
theorem sc__law_kn_ranges : FnScope ["stream", "many", "found", "name", "low"] ["stream", "many"] (C8.fnScope (topS 45)) := ⟨rfl, rfl, rfl, by decide +kernel, rfl, by decide +kernel, by decide +kernel⟩
noncomputable def l1__law_kn_ranges : MSt := (mSeq (mSet 4 (mFz (mSubI (mCallS r__law_draw (mgS 0 (mgD (mC (.int 12)) mgNil))) (mC (.int 8)))))
    (mSto (mTup (mCons (mVar 4) (mCons (mAdd (mVar 4) (mCallS r__law_pick (mgS 0 (mgD (mLst (mCons (mC (.int 0)) (mCons (mC (.int 1)) (mCons (mC (.int 3)) (mCons (mC (.int 9)) (mCons (mC (.int 40)) mNil)))))) mgNil)))) (mCons (mCallS r__law_draw (mgS 0 (mgD (mC (.int 4)) mgNil))) mNil)))) (mpVar 2) (mVar 3)))
noncomputable def b__law_kn_ranges : MSt := (mSeq (mSet 2 mDNew)
    (mSeq (mFor (.nm 3) (mIt (mSl (mCallS r__law_ev_names (mgS 0 (mgD (mB bMax2 (mCons (mC (.int 2)) (mCons (mVar 1) mNil))) mgNil))) moNo (moSome (mAdd (mC (.int 1)) (mCallS r__law_draw (mgS 0 (mgD (mVar 1) mgNil))))))) l1__law_kn_ranges)
    (mRtV 2)))
noncomputable def r__law_kn_ranges : List DV.Arg → S → Option (T × S) := runS 5 2 b__law_kn_ranges
theorem ok__law_kn_ranges (c : Ctx K mg) : C8.Cal P w K mg base 4 "_law_kn_ranges" (spS K r__law_kn_ranges) [] := by
  obtain ⟨f, fd, df, bi⟩ := c.d__law_kn_ranges
  exact cal_S df bi sc__law_kn_ranges rfl rfl fun cdv A outer s H E stm hr => (sb_cons (ss_set sc__law_kn_ranges.nd rfl (by first | exact .inl rfl | exact .inr rfl) se_dnew)
    (sb_cons (ss_for PassesOwn.never rfl (si_it (se_sl (se_callS (ok__law_ev_names c) hr (by decide) (by rfl) (sg_s (pv 0) (sg_d (se_b ok_max2 (call_max2 rfl) (by rfl) c.b_max PyProof.Rows.boot_max (sa_cons se_int (sa_cons (se_var (pv 1)) sa_nil))) sg_nil))) so_none (so_some (se_add se_int (se_callS (ok__law_draw c) hr (by decide) (by rfl) (sg_s (pv 0) (sg_d (se_var (pv 1)) sg_nil))))))) (tg_nm (pg_name sc__law_kn_ranges.nd rfl (by first | exact .inl rfl | exact .inr rfl))) (sb_cons (ss_set sc__law_kn_ranges.nd rfl (by first | exact .inl rfl | exact .inr rfl) (se_fz (se_subI (se_callS (ok__law_draw c) hr (by decide) (by rfl) (sg_s (pv 0) (sg_d se_int sg_nil))) se_int)))
    (sb_one (ss_sto (hu_of hr) (se_tup (sa_cons (se_var (pv 4)) (sa_cons (se_add (se_var (pv 4)) (se_callS (ok__law_pick c) hr (by decide) (by rfl) (sg_s (pv 0) (sg_d (se_lst (sa_cons se_int (sa_cons se_int (sa_cons se_int (sa_cons se_int (sa_cons se_int sa_nil)))))) sg_nil)))) (sa_cons (se_callS (ok__law_draw c) hr (by decide) (by rfl) (sg_s (pv 0) (sg_d se_int sg_nil))) sa_nil)))) (sp_var (pv 2)) (se_var (pv 3))))))
    (sb_one (ss_retV (pv 2)))))
theorem sc__law_kn_life : FnScope ["stream", "row", "last", "low", "high", "most", "found", "hour", "here"] ["stream", "row", "last"] (C8.fnScope (topS 46)) := ⟨rfl, rfl, rfl, by decide +kernel, rfl, by decide +kernel, by decide +kernel⟩
noncomputable def l1__law_kn_life : MSt := (mSeq (mSet 8 (mFz (mSubI (mAdd (mIdx (mVar 6) (mNeg (mC (.int 1)))) (mCallS r__law_draw (mgS 0 (mgD (mAdd (mMulI (mC (.int 2)) (mVar 5)) (mC (.int 1))) mgNil)))) (mVar 5))))
    (mApp (mpVar 6) (mB bMax2 (mCons (mVar 3) (mCons (mB bMin2 (mCons (mVar 4) (mCons (mVar 8) mNil))) mNil)))))
noncomputable def b__law_kn_life : MSt := (mSeq (mAsgT (.tp [(.nm 3), (.nm 4), (.nm 5)]) (mVar 1))
    (mSeq (mSet 6 (mLst (mCons (mAdd (mVar 3) (mCallS r__law_draw (mgS 0 (mgD (mAdd (mSubI (mVar 4) (mVar 3)) (mC (.int 1))) mgNil)))) mNil)))
    (mSeq (mFor (.nm 7) (mRng1 (mCons (mVar 2) mNil)) l1__law_kn_life)
    (mRtV 6))))
noncomputable def r__law_kn_life : List DV.Arg → S → Option (T × S) := runS 9 3 b__law_kn_life
theorem ok__law_kn_life (c : Ctx K mg) : C8.Cal P w K mg base 2 "_law_kn_life" (spS K r__law_kn_life) [] := by
  obtain ⟨f, fd, df, bi⟩ := c.d__law_kn_life
  exact cal_S df bi sc__law_kn_life rfl rfl fun cdv A outer s H E stm hr => (sb_cons (ss_asgT (tg_tp rfl (tgs_cons (tg_nm (pg_name sc__law_kn_life.nd rfl (by first | exact .inl rfl | exact .inr rfl))) (tgs_cons (tg_nm (pg_name sc__law_kn_life.nd rfl (by first | exact .inl rfl | exact .inr rfl))) (tgs_cons (tg_nm (pg_name sc__law_kn_life.nd rfl (by first | exact .inl rfl | exact .inr rfl))) tgs_nil)))) (se_var (pv 1)))
    (sb_cons (ss_set sc__law_kn_life.nd rfl (by first | exact .inl rfl | exact .inr rfl) (se_lst (sa_cons (se_add (se_var (pv 3)) (se_callS (ok__law_draw c) hr (by decide) (by rfl) (sg_s (pv 0) (sg_d (se_add (se_subI (se_var (pv 4)) (se_var (pv 3))) se_int) sg_nil)))) sa_nil)))
    (sb_cons (ss_for PassesOwn.never rfl (si_rng1 (by rfl) c.b_range (sa_cons (se_var (pv 2)) sa_nil)) (tg_nm (pg_name sc__law_kn_life.nd rfl (by first | exact .inl rfl | exact .inr rfl))) (sb_cons (ss_set sc__law_kn_life.nd rfl (by first | exact .inl rfl | exact .inr rfl) (se_fz (se_subI (se_add (se_idx (hu_of hr) (se_var (pv 6)) (se_neg se_int)) (se_callS (ok__law_draw c) hr (by decide) (by rfl) (sg_s (pv 0) (sg_d (se_add (se_mulI se_int (se_var (pv 5))) se_int) sg_nil)))) (se_var (pv 5)))))
    (sb_one (ss_app (sp_var (pv 6)) (se_b ok_max2 (call_max2 rfl) (by rfl) c.b_max PyProof.Rows.boot_max (sa_cons (se_var (pv 3)) (sa_cons (se_b ok_min2 (call_min2 rfl) (by rfl) c.b_min PyProof.Rows.boot_min (sa_cons (se_var (pv 4)) (sa_cons (se_var (pv 8)) sa_nil))) sa_nil)))))))
    (sb_one (ss_retV (pv 6))))))
theorem sc__law_kn_told : FnScope ["stream", "ranges", "many", "last", "lives", "rows", "k", "name", "hour"] ["stream", "ranges", "many"] (C8.fnScope (topS 47)) := ⟨rfl, rfl, rfl, by decide +kernel, rfl, by decide +kernel, by decide +kernel⟩
noncomputable def l1__law_kn_told : MSt := (mSeq (mPar [7, 8] (mCons (mFz (mCallS r__law_pick (mgS 0 (mgD (mSorted (mVar 1)) mgNil)))) (mCons (mFz (mCallS r__law_draw (mgS 0 (mgD (mAdd (mVar 3) (mC (.int 1))) mgNil)))) mNil)))
    (mApp (mpVar 5) (mTup (mCons (mVar 7) (mCons (mVar 8) (mCons (mIdx (mIdx (mVar 4) (mVar 7)) (mVar 8)) mNil))))))
noncomputable def b__law_kn_told : MSt := (mSeq (mSet 3 (mFz (mCallS r__law_draw (mgS 0 (mgD (mC (.int 12)) mgNil)))))
    (mSeq (mPar [4, 5] (mCons (mFz (mDicP (mLc [7] (.nm 7) (mKeys 1) mYes (mTup (mCons (mVar 7) (mCons (mCallS r__law_kn_life (mgS 0 (mgD (mIdx (mVar 1) (mVar 7)) (mgD (mVar 3) mgNil)))) mNil)))))) (mCons (mLst mNil) mNil)))
    (mSeq (mFor (.nm 6) (mRng1 (mCons (mCallS r__law_draw (mgS 0 (mgD (mAdd (mVar 2) (mC (.int 1))) mgNil))) mNil)) l1__law_kn_told)
    (mPre1 5 (mRt (mTup (mCons (mVar 5) (mCons (mVar 4) mNil))))))))
noncomputable def r__law_kn_told : List DV.Arg → S → Option (T × S) := runS 9 3 b__law_kn_told
theorem ok__law_kn_told (c : Ctx K mg) : C8.Cal P w K mg base 3 "_law_kn_told" (spS K r__law_kn_told) [] := by
  obtain ⟨f, fd, df, bi⟩ := c.d__law_kn_told
  exact cal_S df bi sc__law_kn_told rfl rfl fun cdv A outer s H E stm hr => (sb_cons (ss_set sc__law_kn_told.nd rfl (by first | exact .inl rfl | exact .inr rfl) (se_fz (se_callS (ok__law_draw c) hr (by decide) (by rfl) (sg_s (pv 0) (sg_d se_int sg_nil)))))
    (sb_cons (ss_par rfl sc__law_kn_told.nd rfl rfl (by decide) rfl rfl (sa_cons (se_fz (se_dicP rfl (by rfl) c.b_dict (se_lcK (own := [("name", 7)]) rfl sc__law_kn_told.nd (si_keys (pv 1)) (blkOk_by (by rfl)) (by decide) (fun _ _ _ _ _ => (tg_nm (pg_name sc__law_kn_told.nd rfl (by first | exact .inl rfl | exact .inr rfl)))) (fun _ _ _ _ _ => sts_nil) (fun _ _ _ _ _ => (se_tup (sa_cons (se_var (pv 7)) (sa_cons (se_callS (ok__law_kn_life c) hr (by decide) (by rfl) (sg_s (pv 0) (sg_d (se_idx (hu_of hr) (se_var (pv 1)) (se_var (pv 7))) (sg_d (se_var (pv 3)) sg_nil)))) sa_nil))))))) (sa_cons (se_lst sa_nil) sa_nil)) rfl)
    (sb_cons (ss_for PassesOwn.never rfl (si_rng1 (by rfl) c.b_range (sa_cons (se_callS (ok__law_draw c) hr (by decide) (by rfl) (sg_s (pv 0) (sg_d (se_add (se_var (pv 2)) se_int) sg_nil))) sa_nil)) (tg_nm (pg_name sc__law_kn_told.nd rfl (by first | exact .inl rfl | exact .inr rfl))) (sb_cons (ss_par rfl sc__law_kn_told.nd rfl rfl (by decide) rfl rfl (sa_cons (se_fz (se_callS (ok__law_pick c) hr (by decide) (by rfl) (sg_s (pv 0) (sg_d (se_sorted rfl (hu100 hr) (by rfl) c.b_sorted (se_var (pv 1))) sg_nil)))) (sa_cons (se_fz (se_callS (ok__law_draw c) hr (by decide) (by rfl) (sg_s (pv 0) (sg_d (se_add (se_var (pv 3)) se_int) sg_nil)))) sa_nil)) rfl)
    (sb_one (ss_app (sp_var (pv 5)) (se_tup (sa_cons (se_var (pv 7)) (sa_cons (se_var (pv 8)) (sa_cons (se_idx (hu_of hr) (se_idx (hu_of hr) (se_var (pv 4)) (se_var (pv 7))) (se_var (pv 8))) sa_nil))))))))
    (sb_one (ss_pre1 (ss_ret (se_tup (sa_cons (se_var (pv 5)) (sa_cons (se_var (pv 4)) sa_nil)))))))))
theorem sc__law_copied : FnScope ["thing", "found", "part", "key"] ["thing"] (C8.fnScope (topS 55)) := ⟨rfl, rfl, rfl, by decide +kernel, rfl, by decide +kernel, by decide +kernel⟩
noncomputable def b__law_copied (self : List D → Option T) : MSt := (mSeq (mIfS (mIsi (mVar 0) ["dict"]) (mRt (mDicP (mLc [3] (.nm 3) (mKeys 0) mYes (mTup (mCons (mVar 3) (mCons (mCall self (mCons (mHz (mIdx (mVar 0) (mVar 3))) mNil)) mNil)))))) mNx)
    (mSeq (mIfS (mNot (mIsi (mVar 0) ["list", "tuple"])) (mRt (mVar 0)) mNx)
    (mSeq (mPost 1 (mSet 1 (mLc [2] (.nm 2) (mIt (mVar 0)) mYes (mCall self (mCons (mVar 2) mNil)))))
    (mRt (mIf (mIsi (mVar 0) ["list"]) (mVar 1) (mTupOf (mVar 1)))))))
noncomputable def r__law_copied : Nat → List D → Option T
  | 0 => fun _ => none
  | n + 1 => runP 4 1 (b__law_copied (r__law_copied n))
theorem ok__law_copied (c : Ctx K mg) : ∀ n : Nat, C8.Cal P w K mg base (0 + n) "_law_copied" (spP K (r__law_copied n)) []
  | 0 => by
    obtain ⟨f, fd, df, bi⟩ := c.d__law_copied
    exact cal_none df bi
  | n + 1 => by
    obtain ⟨f, fd, df, bi⟩ := c.d__law_copied
    have ih := ok__law_copied c n
    exact cal_P df bi sc__law_copied rfl rfl fun cdv A outer s H E hr => (sb_cons (ss_if (st_val (se_isi1 (pe_bltn (by rfl) c.b_dict PyProof.Rows.boot_dict rfl) (by rfl) c.b_isinstance (se_var (pv 0)))) (sb_one (ss_ret (se_dicP rfl (by rfl) c.b_dict (se_lcK (own := [("key", 3)]) rfl sc__law_copied.nd (si_keys (pv 0)) (blkOk_by (by rfl)) (by decide) (fun _ _ _ _ _ => (tg_nm (pg_name sc__law_copied.nd rfl (by first | exact .inl rfl | exact .inr rfl)))) (fun _ _ _ _ _ => sts_nil) (fun _ _ _ _ _ => (se_tup (sa_cons (se_var (pv 3)) (sa_cons (se_call ih hr (Nat.le_refl _) (by rfl) (sa_cons (se_hz (se_idx (hu_of hr) (se_var (pv 0)) (se_var (pv 3)))) sa_nil)) sa_nil)))))))) sb_nil)
    (sb_cons (ss_if (st_not (st_val (se_isiA (pa_tys (ny := "list") (pe_bltn (by rfl) c.b_list PyProof.Rows.boot_list rfl) (pa_tys (ny := "tuple") (pe_bltn (by rfl) c.b_tuple PyProof.Rows.boot_tuple rfl) pa_tys0)) (by decide) (by rfl) c.b_isinstance (se_var (pv 0))))) (sb_one (ss_ret (se_var (pv 0)))) sb_nil)
    (sb_cons (ss_post (ss_setLc (own := [("part", 2)]) rfl sc__law_copied.nd rfl rfl (sw_true rfl rfl rfl (by decide +kernel)) (si_it (se_var (pv 0))) (blkOk_by (by rfl)) (by decide) (fun _ _ _ _ _ => (tg_nm (pg_name sc__law_copied.nd rfl (by first | exact .inl rfl | exact .inr rfl)))) (fun _ _ _ _ _ => sts_nil) (fun _ _ _ _ _ => (se_call ih hr (Nat.le_refl _) (by rfl) (sa_cons (se_var (pv 2)) sa_nil)))))
    (sb_one (ss_ret (se_if (st_val (se_isi1 (pe_bltn (by rfl) c.b_list PyProof.Rows.boot_list rfl) (by rfl) c.b_isinstance (se_var (pv 0)))) (se_var (pv 1)) (se_tupOf (by rfl) c.b_tuple (se_var (pv 1)))))))))
theorem sc__law_a_is_integer : FnScope ["thing"] ["thing"] (C8.fnScope (topS 43)) := ⟨rfl, rfl, rfl, by decide +kernel, rfl, by decide +kernel, by decide +kernel⟩
noncomputable def b__law_a_is_integer : MSt := (mRt (mAnd (mIsi (mVar 0) ["int"]) (mNot (mIsi (mVar 0) ["bool"]))))
noncomputable def r__law_a_is_integer : List D → Option T := runP 1 1 b__law_a_is_integer
theorem ok__law_a_is_integer (c : Ctx K mg) : C8.Cal P w K mg base 1 "_law_a_is_integer" (spP K r__law_a_is_integer) [] := by
  obtain ⟨f, fd, df, bi⟩ := c.d__law_a_is_integer
  exact cal_P df bi sc__law_a_is_integer rfl rfl fun cdv A outer s H E hr => (sb_one (ss_ret (se_and (se_isi1 (pe_bltn (by rfl) c.b_int PyProof.Rows.boot_int rfl) (by rfl) c.b_isinstance (se_var (pv 0))) (se_one (se_not (se_isi1 (pe_bltn (by rfl) c.b_bool PyProof.Rows.boot_bool rfl) (by rfl) c.b_isinstance (se_var (pv 0))))))))
theorem sc__law_kn_is_life : FnScope ["row", "thing", "many", "one", "other", "had"] ["row", "thing", "many"] (C8.fnScope (topS 49)) := ⟨rfl, rfl, rfl, by decide +kernel, rfl, by decide +kernel, by decide +kernel⟩
noncomputable def b__law_kn_is_life : MSt := (mSeq (mIfS (mOr (mNot (mIsi (mVar 1) ["list", "tuple"])) (mOr (mCmp dNe (mB bLen (mCons (mVar 1) mNil)) (mVar 2)) (mNot (mB bAll (mCons (mLc [5] (.nm 5) (mIt (mVar 1)) mYes (mCall r__law_a_is_integer (mCons (mVar 5) mNil))) mNil))))) (mRt (mC (.bool false))) mNx)
    (mSeq (mIfS (mNot (mB bAll (mCons (mLc [5] (.nm 5) (mIt (mVar 1)) mYes (mChain dLe dLe (mIdx (mVar 0) (mC (.int 0))) (mVar 5) (mIdx (mVar 0) (mC (.int 1))))) mNil))) (mRt (mC (.bool false))) mNx)
    (mRt (mB bAll (mCons (mLc [3, 4] (.tp [(.nm 3), (.nm 4)]) (mZip (mCons (mVar 1) (mCons (mHz (mSl (mVar 1) (moSome (mC (.int 1))) moNo)) mNil))) mYes (mCmp dLe (mB bAbs (mCons (mSubI (mVar 3) (mVar 4)) mNil)) (mIdx (mVar 0) (mC (.int 2))))) mNil)))))
noncomputable def r__law_kn_is_life : List D → Option T := runP 6 3 b__law_kn_is_life
theorem ok__law_kn_is_life (c : Ctx K mg) : C8.Cal P w K mg base 2 "_law_kn_is_life" (spP K r__law_kn_is_life) [] := by
  obtain ⟨f, fd, df, bi⟩ := c.d__law_kn_is_life
  exact cal_P df bi sc__law_kn_is_life rfl rfl fun cdv A outer s H E hr => (sb_cons (ss_if (sw_pt (sw_or (st_not (st_val (se_isiA (pa_tys (ny := "list") (pe_bltn (by rfl) c.b_list PyProof.Rows.boot_list rfl) (pa_tys (ny := "tuple") (pe_bltn (by rfl) c.b_tuple PyProof.Rows.boot_tuple rfl) pa_tys0)) (by decide) (by rfl) c.b_isinstance (se_var (pv 1))))) (sw_or (st_cmp (op_neDD (hu100 hr)) (se_b ok_len call_lenD (by rfl) c.b_len PySem.boot_len (sa_cons (se_var (pv 1)) sa_nil)) (se_var (pv 2))) (sw_or1 (st_not (st_val (se_b ok_all (cr_all rfl) (by rfl) c.b_all PyProof.Rows.boot_all (sa_cons (se_lc (own := [("had", 5)]) rfl sc__law_kn_is_life.nd (si_it (se_var (pv 1))) (blkOk_by (by rfl)) (by decide) (fun _ _ _ _ _ => (tg_nm (pg_name sc__law_kn_is_life.nd rfl (by first | exact .inl rfl | exact .inr rfl)))) (fun _ _ _ _ _ => sts_nil) (fun _ _ _ _ _ => (se_call (ok__law_a_is_integer c) hr (by decide) (by rfl) (sa_cons (se_var (pv 5)) sa_nil)))) sa_nil)))))))) (sb_one (ss_ret se_bl)) sb_nil)
    (sb_cons (ss_if (st_not (st_val (se_b ok_all (cr_all rfl) (by rfl) c.b_all PyProof.Rows.boot_all (sa_cons (se_lc (own := [("had", 5)]) rfl sc__law_kn_is_life.nd (si_it (se_var (pv 1))) (blkOk_by (by rfl)) (by decide) (fun _ _ _ _ _ => (tg_nm (pg_name sc__law_kn_is_life.nd rfl (by first | exact .inl rfl | exact .inr rfl)))) (fun _ _ _ _ _ => sts_nil) (fun _ _ _ _ _ => (se_chain (op_leD (hu100 hr)) (op_leD (hu100 hr)) (se_idx (hu_of hr) (se_var (pv 0)) se_int) (se_var (pv 5)) (se_idx (hu_of hr) (se_var (pv 0)) se_int)))) sa_nil)))) (sb_one (ss_ret se_bl)) sb_nil)
    (sb_one (ss_ret (se_b ok_all (cr_all rfl) (by rfl) c.b_all PyProof.Rows.boot_all (sa_cons (se_lc (own := [("one", 3), ("other", 4)]) rfl sc__law_kn_is_life.nd (si_zip (by rfl) c.b_zip (sa_cons (se_var (pv 1)) (sa_cons (se_hz (se_sl (se_var (pv 1)) (so_some se_int) so_none)) sa_nil))) (blkOk_by (by rfl)) (by decide) (fun _ _ _ _ _ => (tg_tp rfl (tgs_cons (tg_nm (pg_name sc__law_kn_is_life.nd rfl (by first | exact .inl rfl | exact .inr rfl))) (tgs_cons (tg_nm (pg_name sc__law_kn_is_life.nd rfl (by first | exact .inl rfl | exact .inr rfl))) tgs_nil)))) (fun _ _ _ _ _ => sts_nil) (fun _ _ _ _ _ => (se_cmp (op_leD (hu100 hr)) (se_b ok_abs call_abs (by rfl) c.b_abs PyProof.Rows.boot_abs (sa_cons (se_subI (se_var (pv 3)) (se_var (pv 4))) sa_nil)) (se_idx (hu_of hr) (se_var (pv 0)) se_int)))) sa_nil))))))
theorem sc__law_kn_are_lives : FnScope ["ranges", "rows", "thing", "last", "name", "hour", "had"] ["ranges", "rows", "thing", "last"] (C8.fnScope (topS 50)) := ⟨rfl, rfl, rfl, by decide +kernel, rfl, by decide +kernel, by decide +kernel⟩
noncomputable def b__law_kn_are_lives : MSt := (mSeq (mIfS (mOr (mNot (mIsi (mVar 2) ["dict"])) (mOr (mCmp dNe (mB bLen (mCons (mVar 2) mNil)) (mB bLen (mCons (mVar 0) mNil))) (mNot (mB bAll (mCons (mLc [4] (.nm 4) (mKeys 0) mYes (mCmp dIn (mVar 4) (mVar 2))) mNil))))) (mRt (mC (.bool false))) mNx)
    (mSeq (mIfS (mNot (mB bAll (mCons (mLc [4] (.nm 4) (mKeys 0) mYes (mCall r__law_kn_is_life (mCons (mHz (mIdx (mVar 0) (mVar 4))) (mCons (mHz (mIdx (mVar 2) (mVar 4))) (mCons (mHz (mAdd (mVar 3) (mC (.int 1)))) mNil))))) mNil))) (mRt (mC (.bool false))) mNx)
    (mRt (mB bAll (mCons (mLc [4, 5, 6] (.tp [(.nm 4), (.nm 5), (.nm 6)]) (mIt (mVar 1)) mYes (mCmp dEq (mIdx (mIdx (mVar 2) (mVar 4)) (mVar 5)) (mVar 6))) mNil)))))
noncomputable def r__law_kn_are_lives : List D → Option T := runP 7 4 b__law_kn_are_lives
theorem ok__law_kn_are_lives (c : Ctx K mg) : C8.Cal P w K mg base 3 "_law_kn_are_lives" (spP K r__law_kn_are_lives) [] := by
  obtain ⟨f, fd, df, bi⟩ := c.d__law_kn_are_lives
  exact cal_P df bi sc__law_kn_are_lives rfl rfl fun cdv A outer s H E hr => (sb_cons (ss_if (sw_pt (sw_or (st_not (st_val (se_isi1 (pe_bltn (by rfl) c.b_dict PyProof.Rows.boot_dict rfl) (by rfl) c.b_isinstance (se_var (pv 2))))) (sw_or (st_cmp (op_neDD (hu100 hr)) (se_b ok_len call_lenD (by rfl) c.b_len PySem.boot_len (sa_cons (se_var (pv 2)) sa_nil)) (se_b ok_len call_lenD (by rfl) c.b_len PySem.boot_len (sa_cons (se_var (pv 0)) sa_nil))) (sw_or1 (st_not (st_val (se_b ok_all (cr_all rfl) (by rfl) c.b_all PyProof.Rows.boot_all (sa_cons (se_lcK (own := [("name", 4)]) rfl sc__law_kn_are_lives.nd (si_keys (pv 0)) (blkOk_by (by rfl)) (by decide) (fun _ _ _ _ _ => (tg_nm (pg_name sc__law_kn_are_lives.nd rfl (by first | exact .inl rfl | exact .inr rfl)))) (fun _ _ _ _ _ => sts_nil) (fun _ _ _ _ _ => (se_cmp (op_inDD (hu100 hr)) (se_var (pv 4)) (se_var (pv 2))))) sa_nil)))))))) (sb_one (ss_ret se_bl)) sb_nil)
    (sb_cons (ss_if (st_not (st_val (se_b ok_all (cr_all rfl) (by rfl) c.b_all PyProof.Rows.boot_all (sa_cons (se_lcK (own := [("name", 4)]) rfl sc__law_kn_are_lives.nd (si_keys (pv 0)) (blkOk_by (by rfl)) (by decide) (fun _ _ _ _ _ => (tg_nm (pg_name sc__law_kn_are_lives.nd rfl (by first | exact .inl rfl | exact .inr rfl)))) (fun _ _ _ _ _ => sts_nil) (fun _ _ _ _ _ => (se_call (ok__law_kn_is_life c) hr (by decide) (by rfl) (sa_cons (se_hz (se_idx (hu_of hr) (se_var (pv 0)) (se_var (pv 4)))) (sa_cons (se_hz (se_idx (hu_of hr) (se_var (pv 2)) (se_var (pv 4)))) (sa_cons (se_hz (se_add (se_var (pv 3)) se_int)) sa_nil)))))) sa_nil)))) (sb_one (ss_ret se_bl)) sb_nil)
    (sb_one (ss_ret (se_b ok_all (cr_all rfl) (by rfl) c.b_all PyProof.Rows.boot_all (sa_cons (se_lc (own := [("name", 4), ("hour", 5), ("had", 6)]) rfl sc__law_kn_are_lives.nd (si_it (se_var (pv 1))) (blkOk_by (by rfl)) (by decide) (fun _ _ _ _ _ => (tg_tp rfl (tgs_cons (tg_nm (pg_name sc__law_kn_are_lives.nd rfl (by first | exact .inl rfl | exact .inr rfl))) (tgs_cons (tg_nm (pg_name sc__law_kn_are_lives.nd rfl (by first | exact .inl rfl | exact .inr rfl))) (tgs_cons (tg_nm (pg_name sc__law_kn_are_lives.nd rfl (by first | exact .inl rfl | exact .inr rfl))) tgs_nil))))) (fun _ _ _ _ _ => sts_nil) (fun _ _ _ _ _ => (se_cmp (op_eqDD (hu100 hr)) (se_idx (hu_of hr) (se_idx (hu_of hr) (se_var (pv 2)) (se_var (pv 4))) (se_var (pv 5))) (se_var (pv 6))))) sa_nil))))))
theorem sc__law_kn_last : FnScope ["rows", "row"] ["rows"] (C8.fnScope (topS 48)) := ⟨rfl, rfl, rfl, by decide +kernel, rfl, by decide +kernel, by decide +kernel⟩
noncomputable def b__law_kn_last : MSt := (mRt (mB bMaxL (mCons (mAdd (mLst (mCons (mC (.int 0)) mNil)) (mLc [1] (.nm 1) (mIt (mVar 0)) mYes (mIdx (mVar 1) (mC (.int 1))))) mNil)))
noncomputable def r__law_kn_last : List D → Option T := runP 2 1 b__law_kn_last
theorem ok__law_kn_last (c : Ctx K mg) : C8.Cal P w K mg base 1 "_law_kn_last" (spP K r__law_kn_last) [] := by
  obtain ⟨f, fd, df, bi⟩ := c.d__law_kn_last
  exact cal_P df bi sc__law_kn_last rfl rfl fun cdv A outer s H E hr => (sb_one (ss_ret (se_b ok_maxL (cr_max rfl) (by rfl) c.b_max PyProof.Rows.boot_max (sa_cons (se_add (se_lst (sa_cons se_int sa_nil)) (se_lc (own := [("row", 1)]) rfl sc__law_kn_last.nd (si_it (se_var (pv 0))) (blkOk_by (by rfl)) (by decide) (fun _ _ _ _ _ => (tg_nm (pg_name sc__law_kn_last.nd rfl (by first | exact .inl rfl | exact .inr rfl)))) (fun _ _ _ _ _ => sts_nil) (fun _ _ _ _ _ => (se_idx (hu_of hr) (se_var (pv 1)) se_int)))) sa_nil))))
theorem sc__law_lv_ends : FnScope ["ranges", "rows", "store", "hour", "low", "high", "most", "mine", "name", "at", "had", "far"] ["ranges", "rows", "store", "hour"] (C8.fnScope (topS 57)) := ⟨rfl, rfl, rfl, by decide +kernel, rfl, by decide +kernel, by decide +kernel⟩
noncomputable def b__law_lv_ends : MSt := (mSeq (mAsgT (.tp [(.nm 4), (.nm 5), (.nm 6)]) (mIdx (mVar 0) (mVar 2)))
    (mSeq (mPost 7 (mSet 7 (mLc [8, 9, 10] (.tp [(.nm 8), (.nm 9), (.nm 10)]) (mIt (mVar 1)) (mCmp dEq (mVar 8) (mVar 2)) (mTup (mCons (mVar 10) (mCons (mB bAbs (mCons (mSubI (mVar 3) (mVar 9)) mNil)) mNil))))))
    (mRt (mTup (mCons (mB bMaxL (mCons (mAdd (mLst (mCons (mVar 4) mNil)) (mLc [10, 11] (.tp [(.nm 10), (.nm 11)]) (mIt (mVar 7)) mYes (mSubI (mVar 10) (mMulI (mVar 6) (mVar 11))))) mNil)) (mCons (mB bMinL (mCons (mAdd (mLst (mCons (mVar 5) mNil)) (mLc [10, 11] (.tp [(.nm 10), (.nm 11)]) (mIt (mVar 7)) mYes (mAdd (mVar 10) (mMulI (mVar 6) (mVar 11))))) mNil)) mNil))))))
noncomputable def r__law_lv_ends : List D → Option T := runP 12 4 b__law_lv_ends
theorem ok__law_lv_ends (c : Ctx K mg) : C8.Cal P w K mg base 1 "_law_lv_ends" (spP K r__law_lv_ends) [] := by
  obtain ⟨f, fd, df, bi⟩ := c.d__law_lv_ends
  exact cal_P df bi sc__law_lv_ends rfl rfl fun cdv A outer s H E hr => (sb_cons (ss_asgT (tg_tp rfl (tgs_cons (tg_nm (pg_name sc__law_lv_ends.nd rfl (by first | exact .inl rfl | exact .inr rfl))) (tgs_cons (tg_nm (pg_name sc__law_lv_ends.nd rfl (by first | exact .inl rfl | exact .inr rfl))) (tgs_cons (tg_nm (pg_name sc__law_lv_ends.nd rfl (by first | exact .inl rfl | exact .inr rfl))) tgs_nil)))) (se_idx (hu_of hr) (se_var (pv 0)) (se_var (pv 2))))
    (sb_cons (ss_post (ss_setLc (own := [("name", 8), ("at", 9), ("had", 10)]) rfl sc__law_lv_ends.nd rfl rfl (sw_true rfl rfl rfl (by decide +kernel)) (si_it (se_var (pv 1))) (blkOk_by (by rfl)) (by decide) (fun _ _ _ _ _ => (tg_tp rfl (tgs_cons (tg_nm (pg_name sc__law_lv_ends.nd rfl (by first | exact .inl rfl | exact .inr rfl))) (tgs_cons (tg_nm (pg_name sc__law_lv_ends.nd rfl (by first | exact .inl rfl | exact .inr rfl))) (tgs_cons (tg_nm (pg_name sc__law_lv_ends.nd rfl (by first | exact .inl rfl | exact .inr rfl))) tgs_nil))))) (fun _ _ _ _ _ => (sts_one (st_cmp (op_eqDD (hu100 hr)) (se_var (pv 8)) (se_var (pv 2))))) (fun _ _ _ _ _ => (se_tup (sa_cons (se_var (pv 10)) (sa_cons (se_b ok_abs call_abs (by rfl) c.b_abs PyProof.Rows.boot_abs (sa_cons (se_subI (se_var (pv 3)) (se_var (pv 9))) sa_nil)) sa_nil))))))
    (sb_one (ss_ret (se_tup (sa_cons (se_b ok_maxL (cr_max rfl) (by rfl) c.b_max PyProof.Rows.boot_max (sa_cons (se_add (se_lst (sa_cons (se_var (pv 4)) sa_nil)) (se_lc (own := [("had", 10), ("far", 11)]) rfl sc__law_lv_ends.nd (si_it (se_var (pv 7))) (blkOk_by (by rfl)) (by decide) (fun _ _ _ _ _ => (tg_tp rfl (tgs_cons (tg_nm (pg_name sc__law_lv_ends.nd rfl (by first | exact .inl rfl | exact .inr rfl))) (tgs_cons (tg_nm (pg_name sc__law_lv_ends.nd rfl (by first | exact .inl rfl | exact .inr rfl))) tgs_nil)))) (fun _ _ _ _ _ => sts_nil) (fun _ _ _ _ _ => (se_subI (se_var (pv 10)) (se_mulI (se_var (pv 6)) (se_var (pv 11))))))) sa_nil)) (sa_cons (se_b ok_minL (cr_min rfl) (by rfl) c.b_min PyProof.Rows.boot_min (sa_cons (se_add (se_lst (sa_cons (se_var (pv 5)) sa_nil)) (se_lc (own := [("had", 10), ("far", 11)]) rfl sc__law_lv_ends.nd (si_it (se_var (pv 7))) (blkOk_by (by rfl)) (by decide) (fun _ _ _ _ _ => (tg_tp rfl (tgs_cons (tg_nm (pg_name sc__law_lv_ends.nd rfl (by first | exact .inl rfl | exact .inr rfl))) (tgs_cons (tg_nm (pg_name sc__law_lv_ends.nd rfl (by first | exact .inl rfl | exact .inr rfl))) tgs_nil)))) (fun _ _ _ _ _ => sts_nil) (fun _ _ _ _ _ => (se_add (se_var (pv 10)) (se_mulI (se_var (pv 6)) (se_var (pv 11))))))) sa_nil)) sa_nil)))))))
theorem sc__law_lv_all : FnScope ["ranges", "rows", "last", "at", "found", "store", "hour"] ["ranges", "rows", "last", "at"] (C8.fnScope (topS 58)) := ⟨rfl, rfl, rfl, by decide +kernel, rfl, by decide +kernel, by decide +kernel⟩
noncomputable def l1__law_lv_all : MSt := (mSto (mLc [6] (.nm 6) (mRng1 (mCons (mAdd (mVar 2) (mC (.int 1))) mNil)) mYes (mIdx (mCall r__law_lv_ends (mCons (mVar 0) (mCons (mVar 1) (mCons (mVar 5) (mCons (mVar 6) mNil))))) (mVar 3))) (mpVar 4) (mVar 5))
noncomputable def b__law_lv_all : MSt := (mSeq (mSet 4 mDNew)
    (mSeq (mFor (.nm 5) (mIt (mSorted (mVar 0))) l1__law_lv_all)
    (mRtV 4)))
noncomputable def r__law_lv_all : List D → Option T := runP 7 4 b__law_lv_all
theorem ok__law_lv_all (c : Ctx K mg) : C8.Cal P w K mg base 2 "_law_lv_all" (spP K r__law_lv_all) [] := by
  obtain ⟨f, fd, df, bi⟩ := c.d__law_lv_all
  exact cal_P df bi sc__law_lv_all rfl rfl fun cdv A outer s H E hr => (sb_cons (ss_set sc__law_lv_all.nd rfl (by first | exact .inl rfl | exact .inr rfl) se_dnew)
    (sb_cons (ss_for PassesOwn.never rfl (si_it (se_sorted rfl (hu100 hr) (by rfl) c.b_sorted (se_var (pv 0)))) (tg_nm (pg_name sc__law_lv_all.nd rfl (by first | exact .inl rfl | exact .inr rfl))) (sb_one (ss_sto (hu_of hr) (se_lc (own := [("hour", 6)]) rfl sc__law_lv_all.nd (si_rng1 (by rfl) c.b_range (sa_cons (se_add (se_var (pv 2)) se_int) sa_nil)) (blkOk_by (by rfl)) (by decide) (fun _ _ _ _ _ => (tg_nm (pg_name sc__law_lv_all.nd rfl (by first | exact .inl rfl | exact .inr rfl)))) (fun _ _ _ _ _ => sts_nil) (fun _ _ _ _ _ => (se_idx (hu_of hr) (se_call (ok__law_lv_ends c) hr (by decide) (by rfl) (sa_cons (se_var (pv 0)) (sa_cons (se_var (pv 1)) (sa_cons (se_var (pv 5)) (sa_cons (se_var (pv 6)) sa_nil))))) (se_var (pv 3))))) (sp_var (pv 4)) (se_var (pv 5)))))
    (sb_one (ss_retV (pv 4)))))
theorem sc__law_lv_both : FnScope ["one", "other", "great", "store", "a", "b"] ["one", "other"] (C8.fnScope (topS 59)) := ⟨rfl, rfl, rfl, by decide +kernel, rfl, by decide +kernel, by decide +kernel⟩
noncomputable def b__law_lv_both : MSt := (mSeq (mSet 2 (mFz (mDicP (mLc [3] (.nm 3) (mIt (mSorted (mVar 0))) mYes (mTup (mCons (mVar 3) (mCons (mLc [4, 5] (.tp [(.nm 4), (.nm 5)]) (mZip (mCons (mHz (mIdx (mVar 0) (mVar 3))) (mCons (mHz (mIdx (mVar 1) (mVar 3))) mNil))) mYes (mB bMax2 (mCons (mVar 4) (mCons (mVar 5) mNil)))) mNil)))))))
    (mRt (mTup (mCons (mVar 2) (mCons (mDicP (mLc [3] (.nm 3) (mIt (mSorted (mVar 0))) mYes (mTup (mCons (mVar 3) (mCons (mLc [4, 5] (.tp [(.nm 4), (.nm 5)]) (mZip (mCons (mHz (mIdx (mVar 0) (mVar 3))) (mCons (mHz (mIdx (mVar 1) (mVar 3))) mNil))) mYes (mB bMin2 (mCons (mVar 4) (mCons (mVar 5) mNil)))) mNil))))) mNil)))))
noncomputable def r__law_lv_both : List D → Option T := runP 6 2 b__law_lv_both
theorem ok__law_lv_both (c : Ctx K mg) : C8.Cal P w K mg base 1 "_law_lv_both" (spP K r__law_lv_both) [] := by
  obtain ⟨f, fd, df, bi⟩ := c.d__law_lv_both
  exact cal_P df bi sc__law_lv_both rfl rfl fun cdv A outer s H E hr => (sb_cons (ss_set sc__law_lv_both.nd rfl (by first | exact .inl rfl | exact .inr rfl) (se_fz (se_dicP rfl (by rfl) c.b_dict (se_lc (own := [("store", 3)]) rfl sc__law_lv_both.nd (si_it (se_sorted rfl (hu100 hr) (by rfl) c.b_sorted (se_var (pv 0)))) (blkOk_by (by rfl)) (by decide) (fun _ _ _ _ _ => (tg_nm (pg_name sc__law_lv_both.nd rfl (by first | exact .inl rfl | exact .inr rfl)))) (fun _ _ _ _ _ => sts_nil) (fun _ _ _ _ _ => (se_tup (sa_cons (se_var (pv 3)) (sa_cons (se_lc (own := [("a", 4), ("b", 5)]) rfl sc__law_lv_both.nd (si_zip (by rfl) c.b_zip (sa_cons (se_hz (se_idx (hu_of hr) (se_var (pv 0)) (se_var (pv 3)))) (sa_cons (se_hz (se_idx (hu_of hr) (se_var (pv 1)) (se_var (pv 3)))) sa_nil))) (blkOk_by (by rfl)) (by decide) (fun _ _ _ _ _ => (tg_tp rfl (tgs_cons (tg_nm (pg_name sc__law_lv_both.nd rfl (by first | exact .inl rfl | exact .inr rfl))) (tgs_cons (tg_nm (pg_name sc__law_lv_both.nd rfl (by first | exact .inl rfl | exact .inr rfl))) tgs_nil)))) (fun _ _ _ _ _ => sts_nil) (fun _ _ _ _ _ => (se_b ok_max2 (call_max2 rfl) (by rfl) c.b_max PyProof.Rows.boot_max (sa_cons (se_var (pv 4)) (sa_cons (se_var (pv 5)) sa_nil))))) sa_nil))))))))
    (sb_one (ss_ret (se_tup (sa_cons (se_var (pv 2)) (sa_cons (se_dicP rfl (by rfl) c.b_dict (se_lc (own := [("store", 3)]) rfl sc__law_lv_both.nd (si_it (se_sorted rfl (hu100 hr) (by rfl) c.b_sorted (se_var (pv 0)))) (blkOk_by (by rfl)) (by decide) (fun _ _ _ _ _ => (tg_nm (pg_name sc__law_lv_both.nd rfl (by first | exact .inl rfl | exact .inr rfl)))) (fun _ _ _ _ _ => sts_nil) (fun _ _ _ _ _ => (se_tup (sa_cons (se_var (pv 3)) (sa_cons (se_lc (own := [("a", 4), ("b", 5)]) rfl sc__law_lv_both.nd (si_zip (by rfl) c.b_zip (sa_cons (se_hz (se_idx (hu_of hr) (se_var (pv 0)) (se_var (pv 3)))) (sa_cons (se_hz (se_idx (hu_of hr) (se_var (pv 1)) (se_var (pv 3)))) sa_nil))) (blkOk_by (by rfl)) (by decide) (fun _ _ _ _ _ => (tg_tp rfl (tgs_cons (tg_nm (pg_name sc__law_lv_both.nd rfl (by first | exact .inl rfl | exact .inr rfl))) (tgs_cons (tg_nm (pg_name sc__law_lv_both.nd rfl (by first | exact .inl rfl | exact .inr rfl))) tgs_nil)))) (fun _ _ _ _ _ => sts_nil) (fun _ _ _ _ _ => (se_b ok_min2 (call_min2 rfl) (by rfl) c.b_min PyProof.Rows.boot_min (sa_cons (se_var (pv 4)) (sa_cons (se_var (pv 5)) sa_nil))))) sa_nil)))))) sa_nil))))))
theorem sc__law_same : FnScope ["found", "due", "x", "y"] ["found", "due"] (C8.fnScope (topS 56)) := ⟨rfl, rfl, rfl, by decide +kernel, rfl, by decide +kernel, by decide +kernel⟩
noncomputable def b__law_same (self : List D → Option T) : MSt := (mSeq (mIfS (mIsi (mVar 1) ["list", "tuple"]) (mSeq (mIfS (mOr (mCmp dNe (mIsi (mVar 0) ["list"]) (mIsi (mVar 1) ["list"])) (mCmp dNe (mIsi (mVar 0) ["tuple"]) (mIsi (mVar 1) ["tuple"]))) (mRt (mC (.bool false))) mNx)
    (mRt (mAnd (mCmp dEq (mB bLen (mCons (mVar 0) mNil)) (mB bLen (mCons (mVar 1) mNil))) (mB bAll (mCons (mLc [2, 3] (.tp [(.nm 2), (.nm 3)]) (mZip (mCons (mVar 0) (mCons (mVar 1) mNil))) mYes (mCall self (mCons (mVar 2) (mCons (mVar 3) mNil)))) mNil))))) mNx)
    (mSeq (mIfS (mIsi (mVar 1) ["dict"]) (mRt (mAnd (mIsi (mVar 0) ["dict"]) (mCall self (mCons (mHz (mItL (mVar 0))) (mCons (mHz (mItL (mVar 1))) mNil))))) mNx)
    (mSeq (mIfS (mIsi (mVar 1) ["int"]) (mRt (mAnd (mIsi (mVar 0) ["int"]) (mAnd (mCmp dEq (mIsi (mVar 0) ["bool"]) (mIsi (mVar 1) ["bool"])) (mCmp dEq (mVar 0) (mVar 1))))) mNx)
    (mSeq (mIfS (mIs false (mVar 1) (mC .none)) (mRt (mIs false (mVar 0) (mC .none))) mNx)
    (mSeq (mIfS (mIsi (mVar 1) ["str"]) (mRt (mAnd (mIsi (mVar 0) ["str"]) (mCmp dEq (mVar 0) (mVar 1)))) mNx)
    (mRt (mAnd (mNot (mIsi (mVar 0) ["int", "str", "list", "tuple", "dict"])) (mCmp dEq (mVar 0) (mVar 1)))))))))
noncomputable def r__law_same : Nat → List D → Option T
  | 0 => fun _ => none
  | n + 1 => runP 4 2 (b__law_same (r__law_same n))
theorem ok__law_same (c : Ctx K mg) : ∀ n : Nat, C8.Cal P w K mg base (0 + n) "_law_same" (spP K (r__law_same n)) []
  | 0 => by
    obtain ⟨f, fd, df, bi⟩ := c.d__law_same
    exact cal_none df bi
  | n + 1 => by
    obtain ⟨f, fd, df, bi⟩ := c.d__law_same
    have ih := ok__law_same c n
    exact cal_P df bi sc__law_same rfl rfl fun cdv A outer s H E hr => (sb_cons (ss_if (st_val (se_isiA (pa_tys (ny := "list") (pe_bltn (by rfl) c.b_list PyProof.Rows.boot_list rfl) (pa_tys (ny := "tuple") (pe_bltn (by rfl) c.b_tuple PyProof.Rows.boot_tuple rfl) pa_tys0)) (by decide) (by rfl) c.b_isinstance (se_var (pv 1)))) (sb_cons (ss_if (sw_pt (sw_or (st_cmp (op_neDD (hu100 hr)) (se_isi1 (pe_bltn (by rfl) c.b_list PyProof.Rows.boot_list rfl) (by rfl) c.b_isinstance (se_var (pv 0))) (se_isi1 (pe_bltn (by rfl) c.b_list PyProof.Rows.boot_list rfl) (by rfl) c.b_isinstance (se_var (pv 1)))) (sw_or1 (st_cmp (op_neDD (hu100 hr)) (se_isi1 (pe_bltn (by rfl) c.b_tuple PyProof.Rows.boot_tuple rfl) (by rfl) c.b_isinstance (se_var (pv 0))) (se_isi1 (pe_bltn (by rfl) c.b_tuple PyProof.Rows.boot_tuple rfl) (by rfl) c.b_isinstance (se_var (pv 1))))))) (sb_one (ss_ret se_bl)) sb_nil)
    (sb_one (ss_ret (se_and (se_cmp (op_eqDD (hu100 hr)) (se_b ok_len call_lenD (by rfl) c.b_len PySem.boot_len (sa_cons (se_var (pv 0)) sa_nil)) (se_b ok_len call_lenD (by rfl) c.b_len PySem.boot_len (sa_cons (se_var (pv 1)) sa_nil))) (se_one (se_b ok_all (cr_all rfl) (by rfl) c.b_all PyProof.Rows.boot_all (sa_cons (se_lc (own := [("x", 2), ("y", 3)]) rfl sc__law_same.nd (si_zip (by rfl) c.b_zip (sa_cons (se_var (pv 0)) (sa_cons (se_var (pv 1)) sa_nil))) (blkOk_by (by rfl)) (by decide) (fun _ _ _ _ _ => (tg_tp rfl (tgs_cons (tg_nm (pg_name sc__law_same.nd rfl (by first | exact .inl rfl | exact .inr rfl))) (tgs_cons (tg_nm (pg_name sc__law_same.nd rfl (by first | exact .inl rfl | exact .inr rfl))) tgs_nil)))) (fun _ _ _ _ _ => sts_nil) (fun _ _ _ _ _ => (se_call ih hr (Nat.le_refl _) (by rfl) (sa_cons (se_var (pv 2)) (sa_cons (se_var (pv 3)) sa_nil))))) sa_nil))))))) sb_nil)
    (sb_cons (ss_if (st_val (se_isi1 (pe_bltn (by rfl) c.b_dict PyProof.Rows.boot_dict rfl) (by rfl) c.b_isinstance (se_var (pv 1)))) (sb_one (ss_ret (se_and (se_isi1 (pe_bltn (by rfl) c.b_dict PyProof.Rows.boot_dict rfl) (by rfl) c.b_isinstance (se_var (pv 0))) (se_one (se_call ih hr (Nat.le_refl _) (by rfl) (sa_cons (se_hz (se_itL rfl (se_var (pv 0)) (by rfl) c.b_list)) (sa_cons (se_hz (se_itL rfl (se_var (pv 1)) (by rfl) c.b_list)) sa_nil))))))) sb_nil)
    (sb_cons (ss_if (st_val (se_isi1 (pe_bltn (by rfl) c.b_int PyProof.Rows.boot_int rfl) (by rfl) c.b_isinstance (se_var (pv 1)))) (sb_one (ss_ret (se_and (se_isi1 (pe_bltn (by rfl) c.b_int PyProof.Rows.boot_int rfl) (by rfl) c.b_isinstance (se_var (pv 0))) (se_and (se_cmp (op_eqDD (hu100 hr)) (se_isi1 (pe_bltn (by rfl) c.b_bool PyProof.Rows.boot_bool rfl) (by rfl) c.b_isinstance (se_var (pv 0))) (se_isi1 (pe_bltn (by rfl) c.b_bool PyProof.Rows.boot_bool rfl) (by rfl) c.b_isinstance (se_var (pv 1)))) (se_one (se_cmp (op_eqDD (hu100 hr)) (se_var (pv 0)) (se_var (pv 1)))))))) sb_nil)
    (sb_cons (ss_if (st_isN (se_var (pv 1)) se_non) (sb_one (ss_ret (se_isN (se_var (pv 0)) se_non))) sb_nil)
    (sb_cons (ss_if (st_val (se_isi1 (pe_bltn (by rfl) c.b_str PyProof.Rows.boot_str rfl) (by rfl) c.b_isinstance (se_var (pv 1)))) (sb_one (ss_ret (se_and (se_isi1 (pe_bltn (by rfl) c.b_str PyProof.Rows.boot_str rfl) (by rfl) c.b_isinstance (se_var (pv 0))) (se_one (se_cmp (op_eqDD (hu100 hr)) (se_var (pv 0)) (se_var (pv 1))))))) sb_nil)
    (sb_one (ss_ret (se_and (se_not (se_isiA (pa_tys (ny := "int") (pe_bltn (by rfl) c.b_int PyProof.Rows.boot_int rfl) (pa_tys (ny := "str") (pe_bltn (by rfl) c.b_str PyProof.Rows.boot_str rfl) (pa_tys (ny := "list") (pe_bltn (by rfl) c.b_list PyProof.Rows.boot_list rfl) (pa_tys (ny := "tuple") (pe_bltn (by rfl) c.b_tuple PyProof.Rows.boot_tuple rfl) (pa_tys (ny := "dict") (pe_bltn (by rfl) c.b_dict PyProof.Rows.boot_dict rfl) pa_tys0))))) (by decide) (by rfl) c.b_isinstance (se_var (pv 0)))) (se_one (se_cmp (op_eqDD (hu100 hr)) (se_var (pv 0)) (se_var (pv 1))))))))))))
theorem sc_is_integer : FnScope ["thing"] ["thing"] (C8.fnScope (topS 10)) := ⟨rfl, rfl, rfl, by decide +kernel, rfl, by decide +kernel, by decide +kernel⟩
noncomputable def b_is_integer : MSt := (mRt (mAnd (mIsi (mVar 0) ["int"]) (mNot (mIsi (mVar 0) ["bool"]))))
noncomputable def r_is_integer : List D → Option T := runP 1 1 b_is_integer
theorem ok_is_integer (c : Ctx K mg) : C8.Cal P w K mg base 1 "is_integer" (spP K r_is_integer) [] := by
  obtain ⟨f, fd, df, bi⟩ := c.d_is_integer
  exact cal_P df bi sc_is_integer rfl rfl fun cdv A outer s H E hr => (sb_one (ss_ret (se_and (se_isi1 (pe_bltn (by rfl) c.b_int PyProof.Rows.boot_int rfl) (by rfl) c.b_isinstance (se_var (pv 0))) (se_one (se_not (se_isi1 (pe_bltn (by rfl) c.b_bool PyProof.Rows.boot_bool rfl) (by rfl) c.b_isinstance (se_var (pv 0))))))))
theorem sc_is_list : FnScope ["thing"] ["thing"] (C8.fnScope (topS 9)) := ⟨rfl, rfl, rfl, by decide +kernel, rfl, by decide +kernel, by decide +kernel⟩
noncomputable def b_is_list : MSt := (mRt (mIsi (mVar 0) ["list", "tuple"]))
noncomputable def r_is_list : List D → Option T := runP 1 1 b_is_list
theorem ok_is_list (c : Ctx K mg) : C8.Cal P w K mg base 1 "is_list" (spP K r_is_list) [] := by
  obtain ⟨f, fd, df, bi⟩ := c.d_is_list
  exact cal_P df bi sc_is_list rfl rfl fun cdv A outer s H E hr => (sb_one (ss_ret (se_isiA (pa_tys (ny := "list") (pe_bltn (by rfl) c.b_list PyProof.Rows.boot_list rfl) (pa_tys (ny := "tuple") (pe_bltn (by rfl) c.b_tuple PyProof.Rows.boot_tuple rfl) pa_tys0)) (by decide) (by rfl) c.b_isinstance (se_var (pv 0)))))
theorem sc_is_life : FnScope ["row", "thing", "many", "one", "other", "had"] ["row", "thing", "many"] (C8.fnScope (topS 28)) := ⟨rfl, rfl, rfl, by decide +kernel, rfl, by decide +kernel, by decide +kernel⟩
noncomputable def b_is_life : MSt := (mSeq (mIfS (mOr (mNot (mCall r_is_list (mCons (mVar 1) mNil))) (mOr (mCmp dNe (mB bLen (mCons (mVar 1) mNil)) (mVar 2)) (mNot (mB bAll (mCons (mLc [5] (.nm 5) (mIt (mVar 1)) mYes (mCall r_is_integer (mCons (mVar 5) mNil))) mNil))))) (mRt (mC (.bool false))) mNx)
    (mSeq (mIfS (mNot (mB bAll (mCons (mLc [5] (.nm 5) (mIt (mVar 1)) mYes (mChain dLe dLe (mIdx (mVar 0) (mC (.int 0))) (mVar 5) (mIdx (mVar 0) (mC (.int 1))))) mNil))) (mRt (mC (.bool false))) mNx)
    (mRt (mB bAll (mCons (mLc [3, 4] (.tp [(.nm 3), (.nm 4)]) (mZip (mCons (mVar 1) (mCons (mHz (mSl (mVar 1) (moSome (mC (.int 1))) moNo)) mNil))) mYes (mCmp dLe (mB bAbs (mCons (mSubI (mVar 3) (mVar 4)) mNil)) (mIdx (mVar 0) (mC (.int 2))))) mNil)))))
noncomputable def r_is_life : List D → Option T := runP 6 3 b_is_life
theorem ok_is_life (c : Ctx K mg) : C8.Cal P w K mg base 2 "is_life" (spP K r_is_life) [] := by
  obtain ⟨f, fd, df, bi⟩ := c.d_is_life
  exact cal_P df bi sc_is_life rfl rfl fun cdv A outer s H E hr => (sb_cons (ss_if (sw_pt (sw_or (st_not (st_val (se_call (ok_is_list c) hr (by decide) (by rfl) (sa_cons (se_var (pv 1)) sa_nil)))) (sw_or (st_cmp (op_neDD (hu100 hr)) (se_b ok_len call_lenD (by rfl) c.b_len PySem.boot_len (sa_cons (se_var (pv 1)) sa_nil)) (se_var (pv 2))) (sw_or1 (st_not (st_val (se_b ok_all (cr_all rfl) (by rfl) c.b_all PyProof.Rows.boot_all (sa_cons (se_lc (own := [("had", 5)]) rfl sc_is_life.nd (si_it (se_var (pv 1))) (blkOk_by (by rfl)) (by decide) (fun _ _ _ _ _ => (tg_nm (pg_name sc_is_life.nd rfl (by first | exact .inl rfl | exact .inr rfl)))) (fun _ _ _ _ _ => sts_nil) (fun _ _ _ _ _ => (se_call (ok_is_integer c) hr (by decide) (by rfl) (sa_cons (se_var (pv 5)) sa_nil)))) sa_nil)))))))) (sb_one (ss_ret se_bl)) sb_nil)
    (sb_cons (ss_if (st_not (st_val (se_b ok_all (cr_all rfl) (by rfl) c.b_all PyProof.Rows.boot_all (sa_cons (se_lc (own := [("had", 5)]) rfl sc_is_life.nd (si_it (se_var (pv 1))) (blkOk_by (by rfl)) (by decide) (fun _ _ _ _ _ => (tg_nm (pg_name sc_is_life.nd rfl (by first | exact .inl rfl | exact .inr rfl)))) (fun _ _ _ _ _ => sts_nil) (fun _ _ _ _ _ => (se_chain (op_leD (hu100 hr)) (op_leD (hu100 hr)) (se_idx (hu_of hr) (se_var (pv 0)) se_int) (se_var (pv 5)) (se_idx (hu_of hr) (se_var (pv 0)) se_int)))) sa_nil)))) (sb_one (ss_ret se_bl)) sb_nil)
    (sb_one (ss_ret (se_b ok_all (cr_all rfl) (by rfl) c.b_all PyProof.Rows.boot_all (sa_cons (se_lc (own := [("one", 3), ("other", 4)]) rfl sc_is_life.nd (si_zip (by rfl) c.b_zip (sa_cons (se_var (pv 1)) (sa_cons (se_hz (se_sl (se_var (pv 1)) (so_some se_int) so_none)) sa_nil))) (blkOk_by (by rfl)) (by decide) (fun _ _ _ _ _ => (tg_tp rfl (tgs_cons (tg_nm (pg_name sc_is_life.nd rfl (by first | exact .inl rfl | exact .inr rfl))) (tgs_cons (tg_nm (pg_name sc_is_life.nd rfl (by first | exact .inl rfl | exact .inr rfl))) tgs_nil)))) (fun _ _ _ _ _ => sts_nil) (fun _ _ _ _ _ => (se_cmp (op_leD (hu100 hr)) (se_b ok_abs call_abs (by rfl) c.b_abs PyProof.Rows.boot_abs (sa_cons (se_subI (se_var (pv 3)) (se_var (pv 4))) sa_nil)) (se_idx (hu_of hr) (se_var (pv 0)) se_int)))) sa_nil))))))
theorem sc_are_lives : FnScope ["known", "rows", "thing", "last", "store", "hour", "had"] ["known", "rows", "thing", "last"] (C8.fnScope (topS 29)) := ⟨rfl, rfl, rfl, by decide +kernel, rfl, by decide +kernel, by decide +kernel⟩
noncomputable def b_are_lives : MSt := (mSeq (mIfS (mOr (mNot (mIsi (mVar 2) ["dict"])) (mOr (mCmp dNe (mB bLen (mCons (mVar 2) mNil)) (mB bLen (mCons (mVar 0) mNil))) (mNot (mB bAll (mCons (mLc [4] (.nm 4) (mKeys 0) mYes (mCmp dIn (mVar 4) (mVar 2))) mNil))))) (mRt (mC (.bool false))) mNx)
    (mSeq (mIfS (mNot (mB bAll (mCons (mLc [4] (.nm 4) (mKeys 0) mYes (mCall r_is_life (mCons (mHz (mIdx (mVar 0) (mVar 4))) (mCons (mHz (mIdx (mVar 2) (mVar 4))) (mCons (mHz (mAdd (mVar 3) (mC (.int 1)))) mNil))))) mNil))) (mRt (mC (.bool false))) mNx)
    (mRt (mB bAll (mCons (mLc [4, 5, 6] (.tp [(.nm 4), (.nm 5), (.nm 6)]) (mIt (mVar 1)) mYes (mCmp dEq (mIdx (mIdx (mVar 2) (mVar 4)) (mVar 5)) (mVar 6))) mNil)))))
noncomputable def r_are_lives : List D → Option T := runP 7 4 b_are_lives
theorem ok_are_lives (c : Ctx K mg) : C8.Cal P w K mg base 3 "are_lives" (spP K r_are_lives) [] := by
  obtain ⟨f, fd, df, bi⟩ := c.d_are_lives
  exact cal_P df bi sc_are_lives rfl rfl fun cdv A outer s H E hr => (sb_cons (ss_if (sw_pt (sw_or (st_not (st_val (se_isi1 (pe_bltn (by rfl) c.b_dict PyProof.Rows.boot_dict rfl) (by rfl) c.b_isinstance (se_var (pv 2))))) (sw_or (st_cmp (op_neDD (hu100 hr)) (se_b ok_len call_lenD (by rfl) c.b_len PySem.boot_len (sa_cons (se_var (pv 2)) sa_nil)) (se_b ok_len call_lenD (by rfl) c.b_len PySem.boot_len (sa_cons (se_var (pv 0)) sa_nil))) (sw_or1 (st_not (st_val (se_b ok_all (cr_all rfl) (by rfl) c.b_all PyProof.Rows.boot_all (sa_cons (se_lcK (own := [("store", 4)]) rfl sc_are_lives.nd (si_keys (pv 0)) (blkOk_by (by rfl)) (by decide) (fun _ _ _ _ _ => (tg_nm (pg_name sc_are_lives.nd rfl (by first | exact .inl rfl | exact .inr rfl)))) (fun _ _ _ _ _ => sts_nil) (fun _ _ _ _ _ => (se_cmp (op_inDD (hu100 hr)) (se_var (pv 4)) (se_var (pv 2))))) sa_nil)))))))) (sb_one (ss_ret se_bl)) sb_nil)
    (sb_cons (ss_if (st_not (st_val (se_b ok_all (cr_all rfl) (by rfl) c.b_all PyProof.Rows.boot_all (sa_cons (se_lcK (own := [("store", 4)]) rfl sc_are_lives.nd (si_keys (pv 0)) (blkOk_by (by rfl)) (by decide) (fun _ _ _ _ _ => (tg_nm (pg_name sc_are_lives.nd rfl (by first | exact .inl rfl | exact .inr rfl)))) (fun _ _ _ _ _ => sts_nil) (fun _ _ _ _ _ => (se_call (ok_is_life c) hr (by decide) (by rfl) (sa_cons (se_hz (se_idx (hu_of hr) (se_var (pv 0)) (se_var (pv 4)))) (sa_cons (se_hz (se_idx (hu_of hr) (se_var (pv 2)) (se_var (pv 4)))) (sa_cons (se_hz (se_add (se_var (pv 3)) se_int)) sa_nil)))))) sa_nil)))) (sb_one (ss_ret se_bl)) sb_nil)
    (sb_one (ss_ret (se_b ok_all (cr_all rfl) (by rfl) c.b_all PyProof.Rows.boot_all (sa_cons (se_lc (own := [("store", 4), ("hour", 5), ("had", 6)]) rfl sc_are_lives.nd (si_it (se_var (pv 1))) (blkOk_by (by rfl)) (by decide) (fun _ _ _ _ _ => (tg_tp rfl (tgs_cons (tg_nm (pg_name sc_are_lives.nd rfl (by first | exact .inl rfl | exact .inr rfl))) (tgs_cons (tg_nm (pg_name sc_are_lives.nd rfl (by first | exact .inl rfl | exact .inr rfl))) (tgs_cons (tg_nm (pg_name sc_are_lives.nd rfl (by first | exact .inl rfl | exact .inr rfl))) tgs_nil))))) (fun _ _ _ _ _ => sts_nil) (fun _ _ _ _ _ => (se_cmp (op_eqDD (hu100 hr)) (se_idx (hu_of hr) (se_idx (hu_of hr) (se_var (pv 2)) (se_var (pv 4))) (se_var (pv 5))) (se_var (pv 6))))) sa_nil))))))
theorem sc_do_differ : FnScope ["known", "one", "other"] ["known", "one", "other"] (C8.fnScope (topS 22)) := ⟨rfl, rfl, rfl, by decide +kernel, rfl, by decide +kernel, by decide +kernel⟩
noncomputable def b_do_differ : MSt := (mRt (mAnd (mCmp dEq (mIdx (mVar 1) (mC (.int 0))) (mIdx (mVar 2) (mC (.int 0)))) (mCmp dGt (mB bAbs (mCons (mSubI (mIdx (mVar 1) (mC (.int 2))) (mIdx (mVar 2) (mC (.int 2)))) mNil)) (mMulI (mIdx (mIdx (mVar 0) (mIdx (mVar 1) (mC (.int 0)))) (mC (.int 2))) (mB bAbs (mCons (mSubI (mIdx (mVar 1) (mC (.int 1))) (mIdx (mVar 2) (mC (.int 1)))) mNil))))))
noncomputable def r_do_differ : List D → Option T := runP 3 3 b_do_differ
theorem ok_do_differ (c : Ctx K mg) : C8.Cal P w K mg base 1 "do_differ" (spP K r_do_differ) [] := by
  obtain ⟨f, fd, df, bi⟩ := c.d_do_differ
  exact cal_P df bi sc_do_differ rfl rfl fun cdv A outer s H E hr => (sb_one (ss_ret (se_and (se_cmp (op_eqDD (hu100 hr)) (se_idx (hu_of hr) (se_var (pv 1)) se_int) (se_idx (hu_of hr) (se_var (pv 2)) se_int)) (se_one (se_cmp (op_gtD (hu100 hr)) (se_b ok_abs call_abs (by rfl) c.b_abs PyProof.Rows.boot_abs (sa_cons (se_subI (se_idx (hu_of hr) (se_var (pv 1)) se_int) (se_idx (hu_of hr) (se_var (pv 2)) se_int)) sa_nil)) (se_mulI (se_idx (hu_of hr) (se_idx (hu_of hr) (se_var (pv 0)) (se_idx (hu_of hr) (se_var (pv 1)) se_int)) se_int) (se_b ok_abs call_abs (by rfl) c.b_abs PyProof.Rows.boot_abs (sa_cons (se_subI (se_idx (hu_of hr) (se_var (pv 1)) se_int) (se_idx (hu_of hr) (se_var (pv 2)) se_int)) sa_nil))))))))
theorem sc_is_number : FnScope ["thing"] ["thing"] (C8.fnScope (topS 11)) := ⟨rfl, rfl, rfl, by decide +kernel, rfl, by decide +kernel, by decide +kernel⟩
noncomputable def b_is_number : MSt := (mRt (mAnd (mCall r_is_integer (mCons (mVar 0) mNil)) (mCmp dGe (mVar 0) (mC (.int 0)))))
noncomputable def r_is_number : List D → Option T := runP 1 1 b_is_number
theorem ok_is_number (c : Ctx K mg) : C8.Cal P w K mg base 2 "is_number" (spP K r_is_number) [] := by
  obtain ⟨f, fd, df, bi⟩ := c.d_is_number
  exact cal_P df bi sc_is_number rfl rfl fun cdv A outer s H E hr => (sb_one (ss_ret (se_and (se_call (ok_is_integer c) hr (by decide) (by rfl) (sa_cons (se_var (pv 0)) sa_nil)) (se_one (se_cmp (op_geD (hu100 hr)) (se_var (pv 0)) se_int)))))
theorem sc_is_climbing : FnScope ["thing", "many", "one", "other"] ["thing", "many"] (C8.fnScope (topS 15)) := ⟨rfl, rfl, rfl, by decide +kernel, rfl, by decide +kernel, by decide +kernel⟩
noncomputable def b_is_climbing : MSt := (mSeq (mIfS (mOr (mNot (mCall r_is_list (mCons (mVar 0) mNil))) (mNot (mB bAll (mCons (mLc [2] (.nm 2) (mIt (mVar 0)) mYes (mAnd (mCall r_is_number (mCons (mVar 2) mNil)) (mCmp dLt (mVar 2) (mVar 1)))) mNil)))) (mRt (mC (.bool false))) mNx)
    (mRt (mB bAll (mCons (mLc [2, 3] (.tp [(.nm 2), (.nm 3)]) (mZip (mCons (mVar 0) (mCons (mHz (mSl (mVar 0) (moSome (mC (.int 1))) moNo)) mNil))) mYes (mCmp dLt (mVar 2) (mVar 3))) mNil))))
noncomputable def r_is_climbing : List D → Option T := runP 4 2 b_is_climbing
theorem ok_is_climbing (c : Ctx K mg) : C8.Cal P w K mg base 3 "is_climbing" (spP K r_is_climbing) [] := by
  obtain ⟨f, fd, df, bi⟩ := c.d_is_climbing
  exact cal_P df bi sc_is_climbing rfl rfl fun cdv A outer s H E hr => (sb_cons (ss_if (sw_pt (sw_or (st_not (st_val (se_call (ok_is_list c) hr (by decide) (by rfl) (sa_cons (se_var (pv 0)) sa_nil)))) (sw_or1 (st_not (st_val (se_b ok_all (cr_all rfl) (by rfl) c.b_all PyProof.Rows.boot_all (sa_cons (se_lc (own := [("one", 2)]) rfl sc_is_climbing.nd (si_it (se_var (pv 0))) (blkOk_by (by rfl)) (by decide) (fun _ _ _ _ _ => (tg_nm (pg_name sc_is_climbing.nd rfl (by first | exact .inl rfl | exact .inr rfl)))) (fun _ _ _ _ _ => sts_nil) (fun _ _ _ _ _ => (se_and (se_call (ok_is_number c) hr (by decide) (by rfl) (sa_cons (se_var (pv 2)) sa_nil)) (se_one (se_cmp (op_ltD (hu100 hr)) (se_var (pv 2)) (se_var (pv 1))))))) sa_nil))))))) (sb_one (ss_ret se_bl)) sb_nil)
    (sb_one (ss_ret (se_b ok_all (cr_all rfl) (by rfl) c.b_all PyProof.Rows.boot_all (sa_cons (se_lc (own := [("one", 2), ("other", 3)]) rfl sc_is_climbing.nd (si_zip (by rfl) c.b_zip (sa_cons (se_var (pv 0)) (sa_cons (se_hz (se_sl (se_var (pv 0)) (so_some se_int) so_none)) sa_nil))) (blkOk_by (by rfl)) (by decide) (fun _ _ _ _ _ => (tg_tp rfl (tgs_cons (tg_nm (pg_name sc_is_climbing.nd rfl (by first | exact .inl rfl | exact .inr rfl))) (tgs_cons (tg_nm (pg_name sc_is_climbing.nd rfl (by first | exact .inl rfl | exact .inr rfl))) tgs_nil)))) (fun _ _ _ _ _ => sts_nil) (fun _ _ _ _ _ => (se_cmp (op_ltD (hu100 hr)) (se_var (pv 2)) (se_var (pv 3))))) sa_nil)))))
theorem sc_is_out_of_range : FnScope ["known", "one"] ["known", "one"] (C8.fnScope (topS 21)) := ⟨rfl, rfl, rfl, by decide +kernel, rfl, by decide +kernel, by decide +kernel⟩
noncomputable def b_is_out_of_range : MSt := (mRt (mNot (mChain dLe dLe (mIdx (mIdx (mVar 0) (mIdx (mVar 1) (mC (.int 0)))) (mC (.int 0))) (mIdx (mVar 1) (mC (.int 2))) (mIdx (mIdx (mVar 0) (mIdx (mVar 1) (mC (.int 0)))) (mC (.int 1))))))
noncomputable def r_is_out_of_range : List D → Option T := runP 2 2 b_is_out_of_range
theorem ok_is_out_of_range (c : Ctx K mg) : C8.Cal P w K mg base 1 "is_out_of_range" (spP K r_is_out_of_range) [] := by
  obtain ⟨f, fd, df, bi⟩ := c.d_is_out_of_range
  exact cal_P df bi sc_is_out_of_range rfl rfl fun cdv A outer s H E hr => (sb_one (ss_ret (se_not (se_chain (op_leD (hu100 hr)) (op_leD (hu100 hr)) (se_idx (hu_of hr) (se_idx (hu_of hr) (se_var (pv 0)) (se_idx (hu_of hr) (se_var (pv 1)) se_int)) se_int) (se_idx (hu_of hr) (se_var (pv 1)) se_int) (se_idx (hu_of hr) (se_idx (hu_of hr) (se_var (pv 0)) (se_idx (hu_of hr) (se_var (pv 1)) se_int)) se_int)))))
theorem sc_is_word_row : FnScope ["thing", "word", "many"] ["thing", "word", "many"] (C8.fnScope (topS 16)) := ⟨rfl, rfl, rfl, by decide +kernel, rfl, by decide +kernel, by decide +kernel⟩
noncomputable def b_is_word_row : MSt := (mRt (mAnd (mCall r_is_list (mCons (mVar 0) mNil)) (mAnd (mCmp dEq (mB bLen (mCons (mVar 0) mNil)) (mVar 2)) (mAnd (mIsi (mIdx (mVar 0) (mC (.int 0))) ["str"]) (mCmp dEq (mIdx (mVar 0) (mC (.int 0))) (mVar 1))))))
noncomputable def r_is_word_row : List D → Option T := runP 3 3 b_is_word_row
theorem ok_is_word_row (c : Ctx K mg) : C8.Cal P w K mg base 2 "is_word_row" (spP K r_is_word_row) [] := by
  obtain ⟨f, fd, df, bi⟩ := c.d_is_word_row
  exact cal_P df bi sc_is_word_row rfl rfl fun cdv A outer s H E hr => (sb_one (ss_ret (se_and (se_call (ok_is_list c) hr (by decide) (by rfl) (sa_cons (se_var (pv 0)) sa_nil)) (se_and (se_cmp (op_eqDD (hu100 hr)) (se_b ok_len call_lenD (by rfl) c.b_len PySem.boot_len (sa_cons (se_var (pv 0)) sa_nil)) (se_var (pv 2))) (se_and (se_isi1 (pe_bltn (by rfl) c.b_str PyProof.Rows.boot_str rfl) (by rfl) c.b_isinstance (se_idx (hu_of hr) (se_var (pv 0)) se_int)) (se_one (se_cmp (op_eqDD (hu100 hr)) (se_idx (hu_of hr) (se_var (pv 0)) se_int) (se_var (pv 1)))))))))
theorem sc_is_name : FnScope ["thing", "letters", "sign"] ["thing"] (C8.fnScope (topS 12)) := ⟨rfl, rfl, rfl, by decide +kernel, rfl, by decide +kernel, by decide +kernel⟩
noncomputable def b_is_name : MSt := (mSeq (mIfS (mOr (mNot (mIsi (mVar 0) ["str"])) (mNot (mChain dLt dLt (mC (.int 0)) (mB bLen (mCons (mVar 0) mNil)) (mC (.int 13))))) (mRt (mC (.bool false))) mNx)
    (mSeq (mSet 1 (mFz (mC (.str "abcdefghijklmnopqrstuvwxyz"))))
    (mRt (mAnd (mCmp dIn (mIdx (mVar 0) (mC (.int 0))) (mVar 1)) (mB bAll (mCons (mLc [2] (.nm 2) (mIt (mVar 0)) mYes (mCmp dIn (mVar 2) (mAdd (mVar 1) (mC (.str "0123456789"))))) mNil))))))
noncomputable def r_is_name : List D → Option T := runP 3 1 b_is_name
theorem ok_is_name (c : Ctx K mg) : C8.Cal P w K mg base 1 "is_name" (spP K r_is_name) [] := by
  obtain ⟨f, fd, df, bi⟩ := c.d_is_name
  exact cal_P df bi sc_is_name rfl rfl fun cdv A outer s H E hr => (sb_cons (ss_if (sw_pt (sw_or (st_not (st_val (se_isi1 (pe_bltn (by rfl) c.b_str PyProof.Rows.boot_str rfl) (by rfl) c.b_isinstance (se_var (pv 0))))) (sw_or1 (st_not (st_chain (op_ltD (hu100 hr)) (op_ltD (hu100 hr)) se_int (se_b ok_len call_lenD (by rfl) c.b_len PySem.boot_len (sa_cons (se_var (pv 0)) sa_nil)) se_int))))) (sb_one (ss_ret se_bl)) sb_nil)
    (sb_cons (ss_set sc_is_name.nd rfl (by first | exact .inl rfl | exact .inr rfl) (se_fz se_str))
    (sb_one (ss_ret (se_and (se_cmp (op_inDD (hu100 hr)) (se_idx (hu_of hr) (se_var (pv 0)) se_int) (se_var (pv 1))) (se_one (se_b ok_all (cr_all rfl) (by rfl) c.b_all PyProof.Rows.boot_all (sa_cons (se_lc (own := [("sign", 2)]) rfl sc_is_name.nd (si_it (se_var (pv 0))) (blkOk_by (by rfl)) (by decide) (fun _ _ _ _ _ => (tg_nm (pg_name sc_is_name.nd rfl (by first | exact .inl rfl | exact .inr rfl)))) (fun _ _ _ _ _ => sts_nil) (fun _ _ _ _ _ => (se_cmp (op_inDD (hu100 hr)) (se_var (pv 2)) (se_add (se_var (pv 1)) se_str)))) sa_nil))))))))
theorem sc_is_range_row : FnScope ["thing", "one"] ["thing"] (C8.fnScope (topS 18)) := ⟨rfl, rfl, rfl, by decide +kernel, rfl, by decide +kernel, by decide +kernel⟩
noncomputable def b_is_range_row : MSt := (mSeq (mIfS (mOr (mNot (mCall r_is_list (mCons (mVar 0) mNil))) (mOr (mCmp dNe (mB bLen (mCons (mVar 0) mNil)) (mC (.int 3))) (mNot (mB bAll (mCons (mLc [1] (.nm 1) (mIt (mVar 0)) mYes (mCall r_is_integer (mCons (mVar 1) mNil))) mNil))))) (mRt (mC (.bool false))) mNx)
    (mRt (mAnd (mCmp dLe (mIdx (mVar 0) (mC (.int 0))) (mIdx (mVar 0) (mC (.int 1)))) (mCmp dGe (mIdx (mVar 0) (mC (.int 2))) (mC (.int 0))))))
noncomputable def r_is_range_row : List D → Option T := runP 2 1 b_is_range_row
theorem ok_is_range_row (c : Ctx K mg) : C8.Cal P w K mg base 2 "is_range_row" (spP K r_is_range_row) [] := by
  obtain ⟨f, fd, df, bi⟩ := c.d_is_range_row
  exact cal_P df bi sc_is_range_row rfl rfl fun cdv A outer s H E hr => (sb_cons (ss_if (sw_pt (sw_or (st_not (st_val (se_call (ok_is_list c) hr (by decide) (by rfl) (sa_cons (se_var (pv 0)) sa_nil)))) (sw_or (st_cmp (op_neDD (hu100 hr)) (se_b ok_len call_lenD (by rfl) c.b_len PySem.boot_len (sa_cons (se_var (pv 0)) sa_nil)) se_int) (sw_or1 (st_not (st_val (se_b ok_all (cr_all rfl) (by rfl) c.b_all PyProof.Rows.boot_all (sa_cons (se_lc (own := [("one", 1)]) rfl sc_is_range_row.nd (si_it (se_var (pv 0))) (blkOk_by (by rfl)) (by decide) (fun _ _ _ _ _ => (tg_nm (pg_name sc_is_range_row.nd rfl (by first | exact .inl rfl | exact .inr rfl)))) (fun _ _ _ _ _ => sts_nil) (fun _ _ _ _ _ => (se_call (ok_is_integer c) hr (by decide) (by rfl) (sa_cons (se_var (pv 1)) sa_nil)))) sa_nil)))))))) (sb_one (ss_ret se_bl)) sb_nil)
    (sb_one (ss_ret (se_and (se_cmp (op_leD (hu100 hr)) (se_idx (hu_of hr) (se_var (pv 0)) se_int) (se_idx (hu_of hr) (se_var (pv 0)) se_int)) (se_one (se_cmp (op_geD (hu100 hr)) (se_idx (hu_of hr) (se_var (pv 0)) se_int) se_int))))))
theorem sc_known_ranges : FnScope ["ranges", "store"] ["ranges"] (C8.fnScope (topS 19)) := ⟨rfl, rfl, rfl, by decide +kernel, rfl, by decide +kernel, by decide +kernel⟩
noncomputable def b_known_ranges : MSt := (mSeq (mIfS (mOr (mNot (mIsi (mVar 0) ["dict"])) (mCmp dEq (mB bLen (mCons (mVar 0) mNil)) (mC (.int 0)))) mNo mNx)
    (mSeq (mIfS (mNot (mB bAll (mCons (mLc [1] (.nm 1) (mKeys 0) mYes (mAnd (mCall r_is_name (mCons (mVar 1) mNil)) (mCall r_is_range_row (mCons (mHz (mIdx (mVar 0) (mVar 1))) mNil)))) mNil))) mNo mNx)
    (mRt (mDc [1] (.nm 1) (mIt (mSorted (mVar 0))) mYes (mVar 1) (mTupOf (mIdx (mVar 0) (mVar 1)))))))
noncomputable def r_known_ranges : List D → Option T := runP 2 1 b_known_ranges
theorem ok_known_ranges (c : Ctx K mg) : C8.Cal P w K mg base 3 "known_ranges" (spP K r_known_ranges) [] := by
  obtain ⟨f, fd, df, bi⟩ := c.d_known_ranges
  exact cal_P df bi sc_known_ranges rfl rfl fun cdv A outer s H E hr => (sb_cons (ss_if (sw_pt (sw_or (st_not (st_val (se_isi1 (pe_bltn (by rfl) c.b_dict PyProof.Rows.boot_dict rfl) (by rfl) c.b_isinstance (se_var (pv 0))))) (sw_or1 (st_cmp (op_eqDD (hu100 hr)) (se_b ok_len call_lenD (by rfl) c.b_len PySem.boot_len (sa_cons (se_var (pv 0)) sa_nil)) se_int)))) (sb_one ss_no) sb_nil)
    (sb_cons (ss_if (st_not (st_val (se_b ok_all (cr_all rfl) (by rfl) c.b_all PyProof.Rows.boot_all (sa_cons (se_lcK (own := [("store", 1)]) rfl sc_known_ranges.nd (si_keys (pv 0)) (blkOk_by (by rfl)) (by decide) (fun _ _ _ _ _ => (tg_nm (pg_name sc_known_ranges.nd rfl (by first | exact .inl rfl | exact .inr rfl)))) (fun _ _ _ _ _ => sts_nil) (fun _ _ _ _ _ => (se_and (se_call (ok_is_name c) hr (by decide) (by rfl) (sa_cons (se_var (pv 1)) sa_nil)) (se_one (se_call (ok_is_range_row c) hr (by decide) (by rfl) (sa_cons (se_hz (se_idx (hu_of hr) (se_var (pv 0)) (se_var (pv 1)))) sa_nil)))))) sa_nil)))) (sb_one ss_no) sb_nil)
    (sb_one (ss_ret (se_dc (own := [("store", 1)]) rfl sc_known_ranges.nd (si_it (se_sorted rfl (hu100 hr) (by rfl) c.b_sorted (se_var (pv 0)))) (blkOk_by (by rfl)) (by decide) (fun _ _ _ _ _ => (tg_nm (pg_name sc_known_ranges.nd rfl (by first | exact .inl rfl | exact .inr rfl)))) (fun _ _ _ _ _ => sts_nil) (fun _ _ _ _ _ => (se_var (pv 1))) (fun _ _ _ _ _ => (se_tupOf (by rfl) c.b_tuple (se_idx (hu_of hr) (se_var (pv 0)) (se_var (pv 1))))))))))
theorem sc_is_one_of : FnScope ["known", "thing"] ["known", "thing"] (C8.fnScope (topS 13)) := ⟨rfl, rfl, rfl, by decide +kernel, rfl, by decide +kernel, by decide +kernel⟩
noncomputable def b_is_one_of : MSt := (mRt (mAnd (mIsi (mVar 1) ["str"]) (mCmp dIn (mVar 1) (mVar 0))))
noncomputable def r_is_one_of : List D → Option T := runP 2 2 b_is_one_of
theorem ok_is_one_of (c : Ctx K mg) : C8.Cal P w K mg base 1 "is_one_of" (spP K r_is_one_of) [] := by
  obtain ⟨f, fd, df, bi⟩ := c.d_is_one_of
  exact cal_P df bi sc_is_one_of rfl rfl fun cdv A outer s H E hr => (sb_one (ss_ret (se_and (se_isi1 (pe_bltn (by rfl) c.b_str PyProof.Rows.boot_str rfl) (by rfl) c.b_isinstance (se_var (pv 1))) (se_one (se_cmp (op_inDD (hu100 hr)) (se_var (pv 1)) (se_var (pv 0)))))))
theorem sc_known_tellings : FnScope ["known", "tellings", "index", "one"] ["known", "tellings"] (C8.fnScope (topS 20)) := ⟨rfl, rfl, rfl, by decide +kernel, rfl, by decide +kernel, by decide +kernel⟩
noncomputable def l1_known_tellings : MSt := (mSeq (mIfS (mOr (mNot (mCall r_is_list (mCons (mVar 3) mNil))) (mOr (mCmp dNe (mB bLen (mCons (mVar 3) mNil)) (mC (.int 3))) (mNot (mCall r_is_one_of (mCons (mVar 0) (mCons (mHz (mIdx (mVar 3) (mC (.int 0)))) mNil)))))) mNo mNx)
    (mIfS (mOr (mNot (mCall r_is_number (mCons (mHz (mIdx (mVar 3) (mC (.int 1)))) mNil))) (mNot (mCall r_is_integer (mCons (mHz (mIdx (mVar 3) (mC (.int 2)))) mNil)))) mNo mNx))
noncomputable def b_known_tellings : MSt := (mSeq (mIfS (mNot (mCall r_is_list (mCons (mVar 1) mNil))) mNo mNx)
    (mSeq (mFor (.tp [(.nm 2), (.nm 3)]) (mEnum (mCons (mVar 1) mNil)) l1_known_tellings)
    (mRt (mLc [3] (.nm 3) (mIt (mVar 1)) mYes (mTupOf (mVar 3))))))
noncomputable def r_known_tellings : List D → Option T := runP 4 2 b_known_tellings
theorem ok_known_tellings (c : Ctx K mg) : C8.Cal P w K mg base 3 "known_tellings" (spP K r_known_tellings) [] := by
  obtain ⟨f, fd, df, bi⟩ := c.d_known_tellings
  exact cal_P df bi sc_known_tellings rfl rfl fun cdv A outer s H E hr => (sb_cons (ss_if (st_not (st_val (se_call (ok_is_list c) hr (by decide) (by rfl) (sa_cons (se_var (pv 1)) sa_nil)))) (sb_one ss_no) sb_nil)
    (sb_cons (ss_for PassesOwn.never rfl (si_enum (by rfl) c.b_enumerate (sa_cons (se_var (pv 1)) sa_nil)) (tg_tp rfl (tgs_cons (tg_nm (pg_name sc_known_tellings.nd rfl (by first | exact .inl rfl | exact .inr rfl))) (tgs_cons (tg_nm (pg_name sc_known_tellings.nd rfl (by first | exact .inl rfl | exact .inr rfl))) tgs_nil))) (sb_cons (ss_if (sw_pt (sw_or (st_not (st_val (se_call (ok_is_list c) hr (by decide) (by rfl) (sa_cons (se_var (pv 3)) sa_nil)))) (sw_or (st_cmp (op_neDD (hu100 hr)) (se_b ok_len call_lenD (by rfl) c.b_len PySem.boot_len (sa_cons (se_var (pv 3)) sa_nil)) se_int) (sw_or1 (st_not (st_val (se_call (ok_is_one_of c) hr (by decide) (by rfl) (sa_cons (se_var (pv 0)) (sa_cons (se_hz (se_idx (hu_of hr) (se_var (pv 3)) se_int)) sa_nil))))))))) (sb_one ss_no) sb_nil)
    (sb_one (ss_if (sw_pt (sw_or (st_not (st_val (se_call (ok_is_number c) hr (by decide) (by rfl) (sa_cons (se_hz (se_idx (hu_of hr) (se_var (pv 3)) se_int)) sa_nil)))) (sw_or1 (st_not (st_val (se_call (ok_is_integer c) hr (by decide) (by rfl) (sa_cons (se_hz (se_idx (hu_of hr) (se_var (pv 3)) se_int)) sa_nil))))))) (sb_one ss_no) sb_nil))))
    (sb_one (ss_ret (se_lc (own := [("one", 3)]) rfl sc_known_tellings.nd (si_it (se_var (pv 1))) (blkOk_by (by rfl)) (by decide) (fun _ _ _ _ _ => (tg_nm (pg_name sc_known_tellings.nd rfl (by first | exact .inl rfl | exact .inr rfl)))) (fun _ _ _ _ _ => sts_nil) (fun _ _ _ _ _ => (se_tupOf (by rfl) c.b_tuple (se_var (pv 3)))))))))
theorem sc_last_told : FnScope ["rows", "one"] ["rows"] (C8.fnScope (topS 25)) := ⟨rfl, rfl, rfl, by decide +kernel, rfl, by decide +kernel, by decide +kernel⟩
noncomputable def b_last_told : MSt := (mRt (mB bMaxL (mCons (mLst (mCons (mC (.int 0)) (mStar (mLc [1] (.nm 1) (mIt (mVar 0)) mYes (mIdx (mVar 1) (mC (.int 1)))) mNil))) mNil)))
noncomputable def r_last_told : List D → Option T := runP 2 1 b_last_told
theorem ok_last_told (c : Ctx K mg) : C8.Cal P w K mg base 1 "last_told" (spP K r_last_told) [] := by
  obtain ⟨f, fd, df, bi⟩ := c.d_last_told
  exact cal_P df bi sc_last_told rfl rfl fun cdv A outer s H E hr => (sb_one (ss_ret (se_b ok_maxL (cr_max rfl) (by rfl) c.b_max PyProof.Rows.boot_max (sa_cons (se_lst (sa_cons se_int (sa_star (se_lc (own := [("one", 1)]) rfl sc_last_told.nd (si_it (se_var (pv 0))) (blkOk_by (by rfl)) (by decide) (fun _ _ _ _ _ => (tg_nm (pg_name sc_last_told.nd rfl (by first | exact .inl rfl | exact .inr rfl)))) (fun _ _ _ _ _ => sts_nil) (fun _ _ _ _ _ => (se_idx (hu_of hr) (se_var (pv 1)) se_int))) sa_nil))) sa_nil))))
theorem sc_is_lives_or_clash : FnScope ["ranges", "tellings", "thing", "known", "rows"] ["ranges", "tellings", "thing"] (C8.fnScope (topS 30)) := ⟨rfl, rfl, rfl, by decide +kernel, rfl, by decide +kernel, by decide +kernel⟩
noncomputable def b_is_lives_or_clash : MSt := (mSeq (mSet 3 (mFz (mCall r_known_ranges (mCons (mVar 0) mNil))))
    (mSeq (mSet 4 (mFz (mCall r_known_tellings (mCons (mVar 3) (mCons (mVar 1) mNil)))))
    (mSeq (mIfS (mCall r_is_word_row (mCons (mVar 2) (mCons (mC (.str "lives")) (mCons (mC (.int 2)) mNil)))) (mRt (mCall r_are_lives (mCons (mVar 3) (mCons (mVar 4) (mCons (mHz (mIdx (mVar 2) (mC (.int 1)))) (mCons (mHz (mCall r_last_told (mCons (mVar 4) mNil))) mNil)))))) mNx)
    (mSeq (mIfS (mOr (mNot (mCall r_is_word_row (mCons (mVar 2) (mCons (mC (.str "clash")) (mCons (mC (.int 2)) mNil))))) (mOr (mNot (mCall r_is_climbing (mCons (mHz (mIdx (mVar 2) (mC (.int 1)))) (mCons (mHz (mB bLen (mCons (mVar 4) mNil))) mNil)))) (mCmp dNotIn (mB bLen (mCons (mIdx (mVar 2) (mC (.int 1))) mNil)) (mTup (mCons (mC (.int 1)) (mCons (mC (.int 2)) mNil)))))) (mRt (mC (.bool false))) mNx)
    (mSeq (mIfS (mCmp dEq (mB bLen (mCons (mIdx (mVar 2) (mC (.int 1))) mNil)) (mC (.int 1))) (mRt (mCall r_is_out_of_range (mCons (mVar 3) (mCons (mHz (mIdx (mVar 4) (mIdx (mIdx (mVar 2) (mC (.int 1))) (mC (.int 0))))) mNil)))) mNx)
    (mRt (mCall r_do_differ (mCons (mVar 3) (mCons (mHz (mIdx (mVar 4) (mIdx (mIdx (mVar 2) (mC (.int 1))) (mC (.int 0))))) (mCons (mHz (mIdx (mVar 4) (mIdx (mIdx (mVar 2) (mC (.int 1))) (mC (.int 1))))) mNil))))))))))
noncomputable def r_is_lives_or_clash : List D → Option T := runP 5 3 b_is_lives_or_clash
theorem ok_is_lives_or_clash (c : Ctx K mg) : C8.Cal P w K mg base 4 "is_lives_or_clash" (spP K r_is_lives_or_clash) [] := by
  obtain ⟨f, fd, df, bi⟩ := c.d_is_lives_or_clash
  exact cal_P df bi sc_is_lives_or_clash rfl rfl fun cdv A outer s H E hr => (sb_cons (ss_set sc_is_lives_or_clash.nd rfl (by first | exact .inl rfl | exact .inr rfl) (se_fz (se_call (ok_known_ranges c) hr (by decide) (by rfl) (sa_cons (se_var (pv 0)) sa_nil))))
    (sb_cons (ss_set sc_is_lives_or_clash.nd rfl (by first | exact .inl rfl | exact .inr rfl) (se_fz (se_call (ok_known_tellings c) hr (by decide) (by rfl) (sa_cons (se_var (pv 3)) (sa_cons (se_var (pv 1)) sa_nil)))))
    (sb_cons (ss_if (st_val (se_call (ok_is_word_row c) hr (by decide) (by rfl) (sa_cons (se_var (pv 2)) (sa_cons se_str (sa_cons se_int sa_nil))))) (sb_one (ss_ret (se_call (ok_are_lives c) hr (by decide) (by rfl) (sa_cons (se_var (pv 3)) (sa_cons (se_var (pv 4)) (sa_cons (se_hz (se_idx (hu_of hr) (se_var (pv 2)) se_int)) (sa_cons (se_hz (se_call (ok_last_told c) hr (by decide) (by rfl) (sa_cons (se_var (pv 4)) sa_nil))) sa_nil))))))) sb_nil)
    (sb_cons (ss_if (sw_pt (sw_or (st_not (st_val (se_call (ok_is_word_row c) hr (by decide) (by rfl) (sa_cons (se_var (pv 2)) (sa_cons se_str (sa_cons se_int sa_nil)))))) (sw_or (st_not (st_val (se_call (ok_is_climbing c) hr (by decide) (by rfl) (sa_cons (se_hz (se_idx (hu_of hr) (se_var (pv 2)) se_int)) (sa_cons (se_hz (se_b ok_len call_lenD (by rfl) c.b_len PySem.boot_len (sa_cons (se_var (pv 4)) sa_nil))) sa_nil))))) (sw_or1 (st_cmp (op_notInDD (hu100 hr)) (se_b ok_len call_lenD (by rfl) c.b_len PySem.boot_len (sa_cons (se_idx (hu_of hr) (se_var (pv 2)) se_int) sa_nil)) (se_tup (sa_cons se_int (sa_cons se_int sa_nil)))))))) (sb_one (ss_ret se_bl)) sb_nil)
    (sb_cons (ss_if (st_cmp (op_eqDD (hu100 hr)) (se_b ok_len call_lenD (by rfl) c.b_len PySem.boot_len (sa_cons (se_idx (hu_of hr) (se_var (pv 2)) se_int) sa_nil)) se_int) (sb_one (ss_ret (se_call (ok_is_out_of_range c) hr (by decide) (by rfl) (sa_cons (se_var (pv 3)) (sa_cons (se_hz (se_idx (hu_of hr) (se_var (pv 4)) (se_idx (hu_of hr) (se_idx (hu_of hr) (se_var (pv 2)) se_int) se_int))) sa_nil))))) sb_nil)
    (sb_one (ss_ret (se_call (ok_do_differ c) hr (by decide) (by rfl) (sa_cons (se_var (pv 3)) (sa_cons (se_hz (se_idx (hu_of hr) (se_var (pv 4)) (se_idx (hu_of hr) (se_idx (hu_of hr) (se_var (pv 2)) se_int) se_int))) (sa_cons (se_hz (se_idx (hu_of hr) (se_var (pv 4)) (se_idx (hu_of hr) (se_idx (hu_of hr) (se_var (pv 2)) se_int) se_int))) sa_nil)))))))))))
theorem sc_clash_of : FnScope ["known", "rows", "index", "one", "before"] ["known", "rows"] (C8.fnScope (topS 23)) := ⟨rfl, rfl, rfl, by decide +kernel, rfl, by decide +kernel, by decide +kernel⟩
noncomputable def l1_clash_of : MSt := (mIfS (mCall r_do_differ (mCons (mVar 0) (mCons (mHz (mIdx (mVar 1) (mVar 4))) (mCons (mVar 3) mNil)))) (mRt (mLst (mCons (mVar 4) (mCons (mVar 2) mNil)))) mNx)
noncomputable def l2_clash_of : MSt := (mSeq (mIfS (mCall r_is_out_of_range (mCons (mVar 0) (mCons (mVar 3) mNil))) (mRt (mLst (mCons (mVar 2) mNil))) mNx)
    (mFor (.nm 4) (mRng1 (mCons (mVar 2) mNil)) l1_clash_of))
noncomputable def b_clash_of : MSt := (mSeq (mFor (.tp [(.nm 2), (.nm 3)]) (mEnum (mCons (mVar 1) mNil)) l2_clash_of)
    (mRt (mC .none)))
noncomputable def r_clash_of : List D → Option T := runP 5 2 b_clash_of
theorem ok_clash_of (c : Ctx K mg) : C8.Cal P w K mg base 2 "clash_of" (spP K r_clash_of) [] := by
  obtain ⟨f, fd, df, bi⟩ := c.d_clash_of
  exact cal_P df bi sc_clash_of rfl rfl fun cdv A outer s H E hr => (sb_cons (ss_for PassesOwn.never rfl (si_enum (by rfl) c.b_enumerate (sa_cons (se_var (pv 1)) sa_nil)) (tg_tp rfl (tgs_cons (tg_nm (pg_name sc_clash_of.nd rfl (by first | exact .inl rfl | exact .inr rfl))) (tgs_cons (tg_nm (pg_name sc_clash_of.nd rfl (by first | exact .inl rfl | exact .inr rfl))) tgs_nil))) (sb_cons (ss_if (st_val (se_call (ok_is_out_of_range c) hr (by decide) (by rfl) (sa_cons (se_var (pv 0)) (sa_cons (se_var (pv 3)) sa_nil)))) (sb_one (ss_ret (se_lst (sa_cons (se_var (pv 2)) sa_nil)))) sb_nil)
    (sb_one (ss_for PassesOwn.never rfl (si_rng1 (by rfl) c.b_range (sa_cons (se_var (pv 2)) sa_nil)) (tg_nm (pg_name sc_clash_of.nd rfl (by first | exact .inl rfl | exact .inr rfl))) (sb_one (ss_if (st_val (se_call (ok_do_differ c) hr (by decide) (by rfl) (sa_cons (se_var (pv 0)) (sa_cons (se_hz (se_idx (hu_of hr) (se_var (pv 1)) (se_var (pv 4)))) (sa_cons (se_var (pv 3)) sa_nil))))) (sb_one (ss_ret (se_lst (sa_cons (se_var (pv 4)) (sa_cons (se_var (pv 2)) sa_nil))))) sb_nil))))))
    (sb_one (ss_ret se_non)))
theorem sc_ends_at : FnScope ["known", "rows", "store", "hour", "low", "high", "most", "mine", "lows", "one"] ["known", "rows", "store", "hour"] (C8.fnScope (topS 24)) := ⟨rfl, rfl, rfl, by decide +kernel, rfl, by decide +kernel, by decide +kernel⟩
noncomputable def b_ends_at : MSt := (mSeq (mAsgT (.tp [(.nm 4), (.nm 5), (.nm 6)]) (mIdx (mVar 0) (mVar 2)))
    (mSeq (mPost 7 (mSet 7 (mLc [9] (.nm 9) (mIt (mVar 1)) (mCmp dEq (mIdx (mVar 9) (mC (.int 0))) (mVar 2)) (mVar 9))))
    (mSeq (mPost 8 (mSet 8 (mLc [9] (.nm 9) (mIt (mVar 7)) mYes (mSubI (mIdx (mVar 9) (mC (.int 2))) (mMulI (mVar 6) (mB bAbs (mCons (mSubI (mIdx (mVar 9) (mC (.int 1))) (mVar 3)) mNil)))))))
    (mRt (mTup (mCons (mB bMaxL (mCons (mLst (mCons (mVar 4) (mStar (mVar 8) mNil))) mNil)) (mCons (mB bMinL (mCons (mLst (mCons (mVar 5) (mStar (mLc [9] (.nm 9) (mIt (mVar 7)) mYes (mAdd (mIdx (mVar 9) (mC (.int 2))) (mMulI (mVar 6) (mB bAbs (mCons (mSubI (mIdx (mVar 9) (mC (.int 1))) (mVar 3)) mNil))))) mNil))) mNil)) mNil)))))))
noncomputable def r_ends_at : List D → Option T := runP 10 4 b_ends_at
theorem ok_ends_at (c : Ctx K mg) : C8.Cal P w K mg base 1 "ends_at" (spP K r_ends_at) [] := by
  obtain ⟨f, fd, df, bi⟩ := c.d_ends_at
  exact cal_P df bi sc_ends_at rfl rfl fun cdv A outer s H E hr => (sb_cons (ss_asgT (tg_tp rfl (tgs_cons (tg_nm (pg_name sc_ends_at.nd rfl (by first | exact .inl rfl | exact .inr rfl))) (tgs_cons (tg_nm (pg_name sc_ends_at.nd rfl (by first | exact .inl rfl | exact .inr rfl))) (tgs_cons (tg_nm (pg_name sc_ends_at.nd rfl (by first | exact .inl rfl | exact .inr rfl))) tgs_nil)))) (se_idx (hu_of hr) (se_var (pv 0)) (se_var (pv 2))))
    (sb_cons (ss_post (ss_setLc (own := [("one", 9)]) rfl sc_ends_at.nd rfl rfl (sw_true rfl rfl rfl (by decide +kernel)) (si_it (se_var (pv 1))) (blkOk_by (by rfl)) (by decide) (fun _ _ _ _ _ => (tg_nm (pg_name sc_ends_at.nd rfl (by first | exact .inl rfl | exact .inr rfl)))) (fun _ _ _ _ _ => (sts_one (st_cmp (op_eqDD (hu100 hr)) (se_idx (hu_of hr) (se_var (pv 9)) se_int) (se_var (pv 2))))) (fun _ _ _ _ _ => (se_var (pv 9)))))
    (sb_cons (ss_post (ss_setLc (own := [("one", 9)]) rfl sc_ends_at.nd rfl rfl (sw_true rfl rfl rfl (by decide +kernel)) (si_it (se_var (pv 7))) (blkOk_by (by rfl)) (by decide) (fun _ _ _ _ _ => (tg_nm (pg_name sc_ends_at.nd rfl (by first | exact .inl rfl | exact .inr rfl)))) (fun _ _ _ _ _ => sts_nil) (fun _ _ _ _ _ => (se_subI (se_idx (hu_of hr) (se_var (pv 9)) se_int) (se_mulI (se_var (pv 6)) (se_b ok_abs call_abs (by rfl) c.b_abs PyProof.Rows.boot_abs (sa_cons (se_subI (se_idx (hu_of hr) (se_var (pv 9)) se_int) (se_var (pv 3))) sa_nil)))))))
    (sb_one (ss_ret (se_tup (sa_cons (se_b ok_maxL (cr_max rfl) (by rfl) c.b_max PyProof.Rows.boot_max (sa_cons (se_lst (sa_cons (se_var (pv 4)) (sa_star (se_var (pv 8)) sa_nil))) sa_nil)) (sa_cons (se_b ok_minL (cr_min rfl) (by rfl) c.b_min PyProof.Rows.boot_min (sa_cons (se_lst (sa_cons (se_var (pv 5)) (sa_star (se_lc (own := [("one", 9)]) rfl sc_ends_at.nd (si_it (se_var (pv 7))) (blkOk_by (by rfl)) (by decide) (fun _ _ _ _ _ => (tg_nm (pg_name sc_ends_at.nd rfl (by first | exact .inl rfl | exact .inr rfl)))) (fun _ _ _ _ _ => sts_nil) (fun _ _ _ _ _ => (se_add (se_idx (hu_of hr) (se_var (pv 9)) se_int) (se_mulI (se_var (pv 6)) (se_b ok_abs call_abs (by rfl) c.b_abs PyProof.Rows.boot_abs (sa_cons (se_subI (se_idx (hu_of hr) (se_var (pv 9)) se_int) (se_var (pv 3))) sa_nil)))))) sa_nil))) sa_nil)) sa_nil))))))))
theorem sc_highest_lives : FnScope ["known", "rows", "last", "store", "hour"] ["known", "rows", "last"] (C8.fnScope (topS 26)) := ⟨rfl, rfl, rfl, by decide +kernel, rfl, by decide +kernel, by decide +kernel⟩
noncomputable def b_highest_lives : MSt := (mRt (mDc [3] (.nm 3) (mKeys 0) mYes (mVar 3) (mLc [4] (.nm 4) (mRng1 (mCons (mAdd (mVar 2) (mC (.int 1))) mNil)) mYes (mIdx (mCall r_ends_at (mCons (mVar 0) (mCons (mVar 1) (mCons (mVar 3) (mCons (mVar 4) mNil))))) (mC (.int 1))))))
noncomputable def r_highest_lives : List D → Option T := runP 5 3 b_highest_lives
theorem ok_highest_lives (c : Ctx K mg) : C8.Cal P w K mg base 2 "highest_lives" (spP K r_highest_lives) [] := by
  obtain ⟨f, fd, df, bi⟩ := c.d_highest_lives
  exact cal_P df bi sc_highest_lives rfl rfl fun cdv A outer s H E hr => (sb_one (ss_ret (se_dcK (own := [("store", 3)]) rfl sc_highest_lives.nd (si_keys (pv 0)) (blkOk_by (by rfl)) (by decide) (fun _ _ _ _ _ => (tg_nm (pg_name sc_highest_lives.nd rfl (by first | exact .inl rfl | exact .inr rfl)))) (fun _ _ _ _ _ => sts_nil) (fun _ _ _ _ _ => (se_var (pv 3))) (fun _ _ _ _ _ => (se_lc (own := [("hour", 4)]) rfl sc_highest_lives.nd (si_rng1 (by rfl) c.b_range (sa_cons (se_add (se_var (pv 2)) se_int) sa_nil)) (blkOk_by (by rfl)) (by decide) (fun _ _ _ _ _ => (tg_nm (pg_name sc_highest_lives.nd rfl (by first | exact .inl rfl | exact .inr rfl)))) (fun _ _ _ _ _ => sts_nil) (fun _ _ _ _ _ => (se_idx (hu_of hr) (se_call (ok_ends_at c) hr (by decide) (by rfl) (sa_cons (se_var (pv 0)) (sa_cons (se_var (pv 1)) (sa_cons (se_var (pv 3)) (sa_cons (se_var (pv 4)) sa_nil))))) se_int)))))))
theorem sc_lives_or_clash : FnScope ["ranges", "tellings", "known", "rows", "clash"] ["ranges", "tellings"] (C8.fnScope (topS 27)) := ⟨rfl, rfl, rfl, by decide +kernel, rfl, by decide +kernel, by decide +kernel⟩
noncomputable def b_lives_or_clash : MSt := (mSeq (mSet 2 (mFz (mCall r_known_ranges (mCons (mVar 0) mNil))))
    (mSeq (mSet 3 (mFz (mCall r_known_tellings (mCons (mVar 2) (mCons (mVar 1) mNil)))))
    (mSeq (mSet 4 (mFz (mCall r_clash_of (mCons (mVar 2) (mCons (mVar 3) mNil)))))
    (mRt (mIf (mIs false (mVar 4) (mC .none)) (mTup (mCons (mC (.str "lives")) (mCons (mCall r_highest_lives (mCons (mVar 2) (mCons (mVar 3) (mCons (mHz (mCall r_last_told (mCons (mVar 3) mNil))) mNil)))) mNil))) (mTup (mCons (mC (.str "clash")) (mCons (mVar 4) mNil))))))))
noncomputable def r_lives_or_clash : List D → Option T := runP 5 2 b_lives_or_clash
theorem ok_lives_or_clash (c : Ctx K mg) : C8.Cal P w K mg base 4 "lives_or_clash" (spP K r_lives_or_clash) [] := by
  obtain ⟨f, fd, df, bi⟩ := c.d_lives_or_clash
  exact cal_P df bi sc_lives_or_clash rfl rfl fun cdv A outer s H E hr => (sb_cons (ss_set sc_lives_or_clash.nd rfl (by first | exact .inl rfl | exact .inr rfl) (se_fz (se_call (ok_known_ranges c) hr (by decide) (by rfl) (sa_cons (se_var (pv 0)) sa_nil))))
    (sb_cons (ss_set sc_lives_or_clash.nd rfl (by first | exact .inl rfl | exact .inr rfl) (se_fz (se_call (ok_known_tellings c) hr (by decide) (by rfl) (sa_cons (se_var (pv 2)) (sa_cons (se_var (pv 1)) sa_nil)))))
    (sb_cons (ss_set sc_lives_or_clash.nd rfl (by first | exact .inl rfl | exact .inr rfl) (se_fz (se_call (ok_clash_of c) hr (by decide) (by rfl) (sa_cons (se_var (pv 2)) (sa_cons (se_var (pv 3)) sa_nil)))))
    (sb_one (ss_ret (se_if (st_isN (se_var (pv 4)) se_non) (se_tup (sa_cons se_str (sa_cons (se_call (ok_highest_lives c) hr (by decide) (by rfl) (sa_cons (se_var (pv 2)) (sa_cons (se_var (pv 3)) (sa_cons (se_hz (se_call (ok_last_told c) hr (by decide) (by rfl) (sa_cons (se_var (pv 3)) sa_nil))) sa_nil)))) sa_nil))) (se_tup (sa_cons se_str (sa_cons (se_var (pv 4)) sa_nil)))))))))
theorem sc__law_lv_lives_right : FnScope ["stream", "ranges", "rows", "lives", "last", "own", "told", "mine", "least", "great", "some", "one", "other", "here", "store", "odd", "found", "at", "name"] ["stream", "ranges", "rows", "lives"] (C8.fnScope (topS 60)) := ⟨rfl, rfl, rfl, by decide +kernel, rfl, by decide +kernel, by decide +kernel⟩
noncomputable def l1__law_lv_lives_right : MSt := (mSeq (mIfS (mNot (mCall r__law_kn_are_lives (mCons (mVar 1) (mCons (mVar 2) (mCons (mVar 13) (mCons (mVar 4) mNil)))))) (mRt (mC (.bool false))) mNx)
    (mSeq (mIfS (mOr (mCmp dNe (mIdx (mCall r__law_lv_both (mCons (mVar 13) (mCons (mVar 8) mNil))) (mC (.int 1))) (mVar 8)) (mCmp dNe (mIdx (mCall r__law_lv_both (mCons (mVar 13) (mCons (mVar 9) mNil))) (mC (.int 0))) (mVar 9))) (mRt (mC (.bool false))) mNx)
    (mIfS (mNot (mCall (r__law_same 13) (mCons (mHz (mCall r_is_lives_or_clash (mCons (mHz (mIdx (mVar 5) (mC (.int 0)))) (mCons (mHz (mIdx (mVar 5) (mC (.int 1)))) (mCons (mHz (mTup (mCons (mC (.str "lives")) (mCons (mCall (r__law_copied 13) (mCons (mVar 13) mNil)) mNil)))) mNil))))) (mCons (mC (.bool true)) mNil)))) (mRt (mC (.bool false))) mNx)))
noncomputable def b__law_lv_lives_right : MSt := (mSeq (mAsgT (.tp [(.nm 4), (.nm 5)]) (mTup (mCons (mCall r__law_kn_last (mCons (mVar 2) mNil)) (mCons (mCall (r__law_copied 13) (mCons (mHz (mLst (mCons (mVar 1) (mCons (mVar 2) mNil)))) mNil)) mNil))))
    (mSeq (mSet 6 (mFz (mCall (r__law_copied 13) (mCons (mHz (mCall r_lives_or_clash (mCons (mHz (mIdx (mVar 5) (mC (.int 0)))) (mCons (mHz (mIdx (mVar 5) (mC (.int 1)))) mNil)))) mNil))))
    (mSeq (mIfS (mOr (mCmp dNe (mIdx (mVar 6) (mC (.int 0))) (mC (.str "lives"))) (mNot (mCall r__law_kn_are_lives (mCons (mVar 1) (mCons (mVar 2) (mCons (mHz (mIdx (mVar 6) (mC (.int 1)))) (mCons (mVar 4) mNil))))))) (mRt (mC (.bool false))) mNx)
    (mSeq (mSet 7 (mFz (mDicP (mLc [14] (.nm 14) (mIt (mSorted (mVar 3))) mYes (mTup (mCons (mVar 14) (mCons (mSl (mIdx (mVar 3) (mVar 14)) moNo (moSome (mAdd (mVar 4) (mC (.int 1))))) mNil)))))))
    (mSeq (mAsgT (.tp [(.nm 8), (.nm 9)]) (mLc [17] (.nm 17) (mIt (mTup (mCons (mC (.int 0)) (mCons (mC (.int 1)) mNil)))) mYes (mCall r__law_lv_all (mCons (mVar 1) (mCons (mVar 2) (mCons (mVar 4) (mCons (mVar 17) mNil)))))))
    (mSeq (mSet 10 (mFz (mLst (mCons (mVar 7) (mCons (mIdx (mVar 6) (mC (.int 1))) (mCons (mVar 8) (mCons (mVar 9) mNil)))))))
    (mSeq (mPar [11, 12] (mCons (mFz (mCallS r__law_pick (mgS 0 (mgD (mVar 10) mgNil)))) (mCons (mFz (mCallS r__law_pick (mgS 0 (mgD (mVar 10) mgNil)))) mNil)))
    (mSeq (mFor (.nm 13) (mIt (mAdd (mAdd (mCall r__law_lv_both (mCons (mVar 11) (mCons (mVar 12) mNil))) (mCall r__law_lv_both (mCons (mVar 7) (mCons (mHz (mIdx (mVar 6) (mC (.int 1)))) mNil)))) (mTup (mCons (mVar 8) (mCons (mVar 9) mNil))))) l1__law_lv_lives_right)
    (mSeq (mSet 14 (mFz (mCallS r__law_pick (mgS 0 (mgD (mSorted (mVar 1)) mgNil)))))
    (mSeq (mSet 15 (mDicP (mLc [18] (.nm 18) (mIt (mSorted (mVar 9))) mYes (mTup (mCons (mVar 18) (mCons (mLstOf (mIdx (mVar 9) (mVar 18))) mNil))))))
    (mSeq (mSto (mAdd (mIdx (mIdx (mVar 15) (mVar 14)) (mNeg (mC (.int 1)))) (mC (.int 1))) (mpSub (mpVar 15) (mVar 14)) (mNeg (mC (.int 1))))
    (mSeq (mPre1 15 (mSet 16 (mFz (mCall r_is_lives_or_clash (mCons (mHz (mIdx (mVar 5) (mC (.int 0)))) (mCons (mHz (mIdx (mVar 5) (mC (.int 1)))) (mCons (mHz (mTup (mCons (mC (.str "lives")) (mCons (mVar 15) mNil)))) mNil)))))))
    (mPre1 15 (mRt (mCall (r__law_same 13) (mCons (mHz (mLst (mCons (mVar 16) (mCons (mVar 5) mNil)))) (mCons (mHz (mLst (mCons (mCall r__law_kn_are_lives (mCons (mVar 1) (mCons (mVar 2) (mCons (mVar 15) (mCons (mVar 4) mNil))))) (mCons (mLst (mCons (mVar 1) (mCons (mVar 2) mNil))) mNil)))) mNil)))))))))))))))))
noncomputable def r__law_lv_lives_right : List DV.Arg → S → Option (T × S) := runS 19 4 b__law_lv_lives_right
theorem ok__law_lv_lives_right (c : Ctx K mg) : C8.Cal P w K mg base 14 "_law_lv_lives_right" (spS K r__law_lv_lives_right) [] := by
  obtain ⟨f, fd, df, bi⟩ := c.d__law_lv_lives_right
  exact cal_S df bi sc__law_lv_lives_right rfl rfl fun cdv A outer s H E stm hr => (sb_cons (ss_asgT (tg_tp rfl (tgs_cons (tg_nm (pg_name sc__law_lv_lives_right.nd rfl (by first | exact .inl rfl | exact .inr rfl))) (tgs_cons (tg_nm (pg_name sc__law_lv_lives_right.nd rfl (by first | exact .inl rfl | exact .inr rfl))) tgs_nil))) (se_tup (sa_cons (se_call (ok__law_kn_last c) hr (by decide) (by rfl) (sa_cons (se_var (pv 2)) sa_nil)) (sa_cons (se_call (ok__law_copied c 13) hr (by decide) (by rfl) (sa_cons (se_hz (se_lst (sa_cons (se_var (pv 1)) (sa_cons (se_var (pv 2)) sa_nil)))) sa_nil)) sa_nil))))
    (sb_cons (ss_set sc__law_lv_lives_right.nd rfl (by first | exact .inl rfl | exact .inr rfl) (se_fz (se_call (ok__law_copied c 13) hr (by decide) (by rfl) (sa_cons (se_hz (se_call (ok_lives_or_clash c) hr (by decide) (by rfl) (sa_cons (se_hz (se_idx (hu_of hr) (se_var (pv 5)) se_int)) (sa_cons (se_hz (se_idx (hu_of hr) (se_var (pv 5)) se_int)) sa_nil)))) sa_nil))))
    (sb_cons (ss_if (sw_pt (sw_or (st_cmp (op_neDD (hu100 hr)) (se_idx (hu_of hr) (se_var (pv 6)) se_int) se_str) (sw_or1 (st_not (st_val (se_call (ok__law_kn_are_lives c) hr (by decide) (by rfl) (sa_cons (se_var (pv 1)) (sa_cons (se_var (pv 2)) (sa_cons (se_hz (se_idx (hu_of hr) (se_var (pv 6)) se_int)) (sa_cons (se_var (pv 4)) sa_nil)))))))))) (sb_one (ss_ret se_bl)) sb_nil)
    (sb_cons (ss_set sc__law_lv_lives_right.nd rfl (by first | exact .inl rfl | exact .inr rfl) (se_fz (se_dicP rfl (by rfl) c.b_dict (se_lc (own := [("store", 14)]) rfl sc__law_lv_lives_right.nd (si_it (se_sorted rfl (hu100 hr) (by rfl) c.b_sorted (se_var (pv 3)))) (blkOk_by (by rfl)) (by decide) (fun _ _ _ _ _ => (tg_nm (pg_name sc__law_lv_lives_right.nd rfl (by first | exact .inl rfl | exact .inr rfl)))) (fun _ _ _ _ _ => sts_nil) (fun _ _ _ _ _ => (se_tup (sa_cons (se_var (pv 14)) (sa_cons (se_sl (se_idx (hu_of hr) (se_var (pv 3)) (se_var (pv 14))) so_none (so_some (se_add (se_var (pv 4)) se_int))) sa_nil))))))))
    (sb_cons (ss_asgT (tg_tp rfl (tgs_cons (tg_nm (pg_name sc__law_lv_lives_right.nd rfl (by first | exact .inl rfl | exact .inr rfl))) (tgs_cons (tg_nm (pg_name sc__law_lv_lives_right.nd rfl (by first | exact .inl rfl | exact .inr rfl))) tgs_nil))) (se_lc (own := [("at", 17)]) rfl sc__law_lv_lives_right.nd (si_it (se_tup (sa_cons se_int (sa_cons se_int sa_nil)))) (blkOk_by (by rfl)) (by decide) (fun _ _ _ _ _ => (tg_nm (pg_name sc__law_lv_lives_right.nd rfl (by first | exact .inl rfl | exact .inr rfl)))) (fun _ _ _ _ _ => sts_nil) (fun _ _ _ _ _ => (se_call (ok__law_lv_all c) hr (by decide) (by rfl) (sa_cons (se_var (pv 1)) (sa_cons (se_var (pv 2)) (sa_cons (se_var (pv 4)) (sa_cons (se_var (pv 17)) sa_nil))))))))
    (sb_cons (ss_set sc__law_lv_lives_right.nd rfl (by first | exact .inl rfl | exact .inr rfl) (se_fz (se_lst (sa_cons (se_var (pv 7)) (sa_cons (se_idx (hu_of hr) (se_var (pv 6)) se_int) (sa_cons (se_var (pv 8)) (sa_cons (se_var (pv 9)) sa_nil)))))))
    (sb_cons (ss_par rfl sc__law_lv_lives_right.nd rfl rfl (by decide) rfl rfl (sa_cons (se_fz (se_callS (ok__law_pick c) hr (by decide) (by rfl) (sg_s (pv 0) (sg_d (se_var (pv 10)) sg_nil)))) (sa_cons (se_fz (se_callS (ok__law_pick c) hr (by decide) (by rfl) (sg_s (pv 0) (sg_d (se_var (pv 10)) sg_nil)))) sa_nil)) rfl)
    (sb_cons (ss_for PassesOwn.never rfl (si_it (se_add (se_add (se_call (ok__law_lv_both c) hr (by decide) (by rfl) (sa_cons (se_var (pv 11)) (sa_cons (se_var (pv 12)) sa_nil))) (se_call (ok__law_lv_both c) hr (by decide) (by rfl) (sa_cons (se_var (pv 7)) (sa_cons (se_hz (se_idx (hu_of hr) (se_var (pv 6)) se_int)) sa_nil)))) (se_tup (sa_cons (se_var (pv 8)) (sa_cons (se_var (pv 9)) sa_nil))))) (tg_nm (pg_name sc__law_lv_lives_right.nd rfl (by first | exact .inl rfl | exact .inr rfl))) (sb_cons (ss_if (st_not (st_val (se_call (ok__law_kn_are_lives c) hr (by decide) (by rfl) (sa_cons (se_var (pv 1)) (sa_cons (se_var (pv 2)) (sa_cons (se_var (pv 13)) (sa_cons (se_var (pv 4)) sa_nil))))))) (sb_one (ss_ret se_bl)) sb_nil)
    (sb_cons (ss_if (sw_pt (sw_or (st_cmp (op_neDD (hu100 hr)) (se_idx (hu_of hr) (se_call (ok__law_lv_both c) hr (by decide) (by rfl) (sa_cons (se_var (pv 13)) (sa_cons (se_var (pv 8)) sa_nil))) se_int) (se_var (pv 8))) (sw_or1 (st_cmp (op_neDD (hu100 hr)) (se_idx (hu_of hr) (se_call (ok__law_lv_both c) hr (by decide) (by rfl) (sa_cons (se_var (pv 13)) (sa_cons (se_var (pv 9)) sa_nil))) se_int) (se_var (pv 9)))))) (sb_one (ss_ret se_bl)) sb_nil)
    (sb_one (ss_if (st_not (st_val (se_call (ok__law_same c 13) hr (by decide) (by rfl) (sa_cons (se_hz (se_call (ok_is_lives_or_clash c) hr (by decide) (by rfl) (sa_cons (se_hz (se_idx (hu_of hr) (se_var (pv 5)) se_int)) (sa_cons (se_hz (se_idx (hu_of hr) (se_var (pv 5)) se_int)) (sa_cons (se_hz (se_tup (sa_cons se_str (sa_cons (se_call (ok__law_copied c 13) hr (by decide) (by rfl) (sa_cons (se_var (pv 13)) sa_nil)) sa_nil)))) sa_nil))))) (sa_cons se_bl sa_nil))))) (sb_one (ss_ret se_bl)) sb_nil)))))
    (sb_cons (ss_set sc__law_lv_lives_right.nd rfl (by first | exact .inl rfl | exact .inr rfl) (se_fz (se_callS (ok__law_pick c) hr (by decide) (by rfl) (sg_s (pv 0) (sg_d (se_sorted rfl (hu100 hr) (by rfl) c.b_sorted (se_var (pv 1))) sg_nil)))))
    (sb_cons (ss_set sc__law_lv_lives_right.nd rfl (by first | exact .inl rfl | exact .inr rfl) (se_dicP rfl (by rfl) c.b_dict (se_lc (own := [("name", 18)]) rfl sc__law_lv_lives_right.nd (si_it (se_sorted rfl (hu100 hr) (by rfl) c.b_sorted (se_var (pv 9)))) (blkOk_by (by rfl)) (by decide) (fun _ _ _ _ _ => (tg_nm (pg_name sc__law_lv_lives_right.nd rfl (by first | exact .inl rfl | exact .inr rfl)))) (fun _ _ _ _ _ => sts_nil) (fun _ _ _ _ _ => (se_tup (sa_cons (se_var (pv 18)) (sa_cons (se_lstOf rfl (by rfl) c.b_list (se_idx (hu_of hr) (se_var (pv 9)) (se_var (pv 18)))) sa_nil)))))))
    (sb_cons (ss_sto (hu_of hr) (se_add (se_idx (hu_of hr) (se_idx (hu_of hr) (se_var (pv 15)) (se_var (pv 14))) (se_neg se_int)) se_int) (sp_sub (hu_of hr) (sp_var (pv 15)) (se_var (pv 14))) (se_neg se_int))
    (sb_cons (ss_pre1 (ss_set sc__law_lv_lives_right.nd rfl (by first | exact .inl rfl | exact .inr rfl) (se_fz (se_call (ok_is_lives_or_clash c) hr (by decide) (by rfl) (sa_cons (se_hz (se_idx (hu_of hr) (se_var (pv 5)) se_int)) (sa_cons (se_hz (se_idx (hu_of hr) (se_var (pv 5)) se_int)) (sa_cons (se_hz (se_tup (sa_cons se_str (sa_cons (se_var (pv 15)) sa_nil)))) sa_nil)))))))
    (sb_one (ss_pre1 (ss_ret (se_call (ok__law_same c 13) hr (by decide) (by rfl) (sa_cons (se_hz (se_lst (sa_cons (se_var (pv 16)) (sa_cons (se_var (pv 5)) sa_nil)))) (sa_cons (se_hz (se_lst (sa_cons (se_call (ok__law_kn_are_lives c) hr (by decide) (by rfl) (sa_cons (se_var (pv 1)) (sa_cons (se_var (pv 2)) (sa_cons (se_var (pv 15)) (sa_cons (se_var (pv 4)) sa_nil))))) (sa_cons (se_lst (sa_cons (se_var (pv 1)) (sa_cons (se_var (pv 2)) sa_nil))) sa_nil)))) sa_nil))))))))))))))))))
theorem sc_look_told : FnScope ["known", "rows"] ["known", "rows"] (C8.fnScope (topS 31)) := ⟨rfl, rfl, rfl, by decide +kernel, rfl, by decide +kernel, by decide +kernel⟩
noncomputable def b_look_told : MSt := (mIfS (mIs true (mCall r_clash_of (mCons (mVar 0) (mCons (mVar 1) mNil))) (mC .none)) mNo mNx)
noncomputable def r_look_told : List D → Option T := runP 2 2 b_look_told
theorem ok_look_told (c : Ctx K mg) : C8.Cal P w K mg base 3 "look_told" (spP K r_look_told) [] := by
  obtain ⟨f, fd, df, bi⟩ := c.d_look_told
  exact cal_P df bi sc_look_told rfl rfl fun cdv A outer s H E hr => (sb_one (ss_if (st_notN (se_call (ok_clash_of c) hr (by decide) (by rfl) (sa_cons (se_var (pv 0)) (sa_cons (se_var (pv 1)) sa_nil))) se_non) (sb_one ss_no) sb_nil))
theorem sc_can_have : FnScope ["ranges", "tellings", "store", "hour", "known", "rows"] ["ranges", "tellings", "store", "hour"] (C8.fnScope (topS 32)) := ⟨rfl, rfl, rfl, by decide +kernel, rfl, by decide +kernel, by decide +kernel⟩
noncomputable def b_can_have : MSt := (mSeq (mSet 4 (mFz (mCall r_known_ranges (mCons (mVar 0) mNil))))
    (mSeq (mSet 5 (mFz (mCall r_known_tellings (mCons (mVar 4) (mCons (mVar 1) mNil)))))
    (mSeq (mIfS (mNot (mCall r_is_one_of (mCons (mVar 4) (mCons (mVar 2) mNil)))) mNo mNx)
    (mSeq (mIfS (mNot (mCall r_is_number (mCons (mVar 3) mNil))) mNo mNx)
    (mSeq (mDrop (mCall r_look_told (mCons (mVar 4) (mCons (mVar 5) mNil))))
    (mRt (mCall r_ends_at (mCons (mVar 4) (mCons (mVar 5) (mCons (mVar 2) (mCons (mVar 3) mNil)))))))))))
noncomputable def r_can_have : List D → Option T := runP 6 4 b_can_have
theorem ok_can_have (c : Ctx K mg) : C8.Cal P w K mg base 4 "can_have" (spP K r_can_have) [] := by
  obtain ⟨f, fd, df, bi⟩ := c.d_can_have
  exact cal_P df bi sc_can_have rfl rfl fun cdv A outer s H E hr => (sb_cons (ss_set sc_can_have.nd rfl (by first | exact .inl rfl | exact .inr rfl) (se_fz (se_call (ok_known_ranges c) hr (by decide) (by rfl) (sa_cons (se_var (pv 0)) sa_nil))))
    (sb_cons (ss_set sc_can_have.nd rfl (by first | exact .inl rfl | exact .inr rfl) (se_fz (se_call (ok_known_tellings c) hr (by decide) (by rfl) (sa_cons (se_var (pv 4)) (sa_cons (se_var (pv 1)) sa_nil)))))
    (sb_cons (ss_if (st_not (st_val (se_call (ok_is_one_of c) hr (by decide) (by rfl) (sa_cons (se_var (pv 4)) (sa_cons (se_var (pv 2)) sa_nil))))) (sb_one ss_no) sb_nil)
    (sb_cons (ss_if (st_not (st_val (se_call (ok_is_number c) hr (by decide) (by rfl) (sa_cons (se_var (pv 3)) sa_nil)))) (sb_one ss_no) sb_nil)
    (sb_cons (ss_expr (se_call (ok_look_told c) hr (by decide) (by rfl) (sa_cons (se_var (pv 4)) (sa_cons (se_var (pv 5)) sa_nil))))
    (sb_one (ss_ret (se_call (ok_ends_at c) hr (by decide) (by rfl) (sa_cons (se_var (pv 4)) (sa_cons (se_var (pv 5)) (sa_cons (se_var (pv 2)) (sa_cons (se_var (pv 3)) sa_nil))))))))))))
theorem sc_told_at : FnScope ["ranges", "tellings", "hour", "known", "rows"] ["ranges", "tellings", "hour"] (C8.fnScope (topS 33)) := ⟨rfl, rfl, rfl, by decide +kernel, rfl, by decide +kernel, by decide +kernel⟩
noncomputable def b_told_at : MSt := (mSeq (mSet 3 (mFz (mCall r_known_ranges (mCons (mVar 0) mNil))))
    (mSeq (mSet 4 (mFz (mCall r_known_tellings (mCons (mVar 3) (mCons (mVar 1) mNil)))))
    (mSeq (mIfS (mNot (mCall r_is_number (mCons (mVar 2) mNil))) mNo mNx)
    (mRt (mTup (mCons (mVar 3) (mCons (mVar 4) mNil)))))))
noncomputable def r_told_at : List D → Option T := runP 5 3 b_told_at
theorem ok_told_at (c : Ctx K mg) : C8.Cal P w K mg base 4 "told_at" (spP K r_told_at) [] := by
  obtain ⟨f, fd, df, bi⟩ := c.d_told_at
  exact cal_P df bi sc_told_at rfl rfl fun cdv A outer s H E hr => (sb_cons (ss_set sc_told_at.nd rfl (by first | exact .inl rfl | exact .inr rfl) (se_fz (se_call (ok_known_ranges c) hr (by decide) (by rfl) (sa_cons (se_var (pv 0)) sa_nil))))
    (sb_cons (ss_set sc_told_at.nd rfl (by first | exact .inl rfl | exact .inr rfl) (se_fz (se_call (ok_known_tellings c) hr (by decide) (by rfl) (sa_cons (se_var (pv 3)) (sa_cons (se_var (pv 1)) sa_nil)))))
    (sb_cons (ss_if (st_not (st_val (se_call (ok_is_number c) hr (by decide) (by rfl) (sa_cons (se_var (pv 2)) sa_nil)))) (sb_one ss_no) sb_nil)
    (sb_one (ss_ret (se_tup (sa_cons (se_var (pv 3)) (sa_cons (se_var (pv 4)) sa_nil))))))))
theorem sc_widths_by : FnScope ["known", "rows", "hour", "ends", "store"] ["known", "rows", "hour"] (C8.fnScope (topS 40)) := ⟨rfl, rfl, rfl, by decide +kernel, rfl, by decide +kernel, by decide +kernel⟩
noncomputable def b_widths_by : MSt := (mSeq (mSet 3 (mFz (mDc [4] (.nm 4) (mKeys 0) mYes (mVar 4) (mCall r_ends_at (mCons (mVar 0) (mCons (mVar 1) (mCons (mVar 4) (mCons (mVar 2) mNil))))))))
    (mRt (mDc [4] (.nm 4) (mKeys 0) mYes (mVar 4) (mSubI (mIdx (mIdx (mVar 3) (mVar 4)) (mC (.int 1))) (mIdx (mIdx (mVar 3) (mVar 4)) (mC (.int 0)))))))
noncomputable def r_widths_by : List D → Option T := runP 5 3 b_widths_by
theorem ok_widths_by (c : Ctx K mg) : C8.Cal P w K mg base 2 "widths_by" (spP K r_widths_by) [] := by
  obtain ⟨f, fd, df, bi⟩ := c.d_widths_by
  exact cal_P df bi sc_widths_by rfl rfl fun cdv A outer s H E hr => (sb_cons (ss_set sc_widths_by.nd rfl (by first | exact .inl rfl | exact .inr rfl) (se_fz (se_dcK (own := [("store", 4)]) rfl sc_widths_by.nd (si_keys (pv 0)) (blkOk_by (by rfl)) (by decide) (fun _ _ _ _ _ => (tg_nm (pg_name sc_widths_by.nd rfl (by first | exact .inl rfl | exact .inr rfl)))) (fun _ _ _ _ _ => sts_nil) (fun _ _ _ _ _ => (se_var (pv 4))) (fun _ _ _ _ _ => (se_call (ok_ends_at c) hr (by decide) (by rfl) (sa_cons (se_var (pv 0)) (sa_cons (se_var (pv 1)) (sa_cons (se_var (pv 4)) (sa_cons (se_var (pv 2)) sa_nil)))))))))
    (sb_one (ss_ret (se_dcK (own := [("store", 4)]) rfl sc_widths_by.nd (si_keys (pv 0)) (blkOk_by (by rfl)) (by decide) (fun _ _ _ _ _ => (tg_nm (pg_name sc_widths_by.nd rfl (by first | exact .inl rfl | exact .inr rfl)))) (fun _ _ _ _ _ => sts_nil) (fun _ _ _ _ _ => (se_var (pv 4))) (fun _ _ _ _ _ => (se_subI (se_idx (hu_of hr) (se_idx (hu_of hr) (se_var (pv 3)) (se_var (pv 4))) se_int) (se_idx (hu_of hr) (se_idx (hu_of hr) (se_var (pv 3)) (se_var (pv 4))) se_int)))))))
theorem sc_open_widths : FnScope ["ranges", "tellings", "hour", "known", "rows"] ["ranges", "tellings", "hour"] (C8.fnScope (topS 41)) := ⟨rfl, rfl, rfl, by decide +kernel, rfl, by decide +kernel, by decide +kernel⟩
noncomputable def b_open_widths : MSt := (mSeq (mAsgT (.tp [(.nm 3), (.nm 4)]) (mCall r_told_at (mCons (mVar 0) (mCons (mVar 1) (mCons (mVar 2) mNil)))))
    (mSeq (mDrop (mCall r_look_told (mCons (mVar 3) (mCons (mVar 4) mNil))))
    (mRt (mCall r_widths_by (mCons (mVar 3) (mCons (mVar 4) (mCons (mVar 2) mNil)))))))
noncomputable def r_open_widths : List D → Option T := runP 5 3 b_open_widths
theorem ok_open_widths (c : Ctx K mg) : C8.Cal P w K mg base 5 "open_widths" (spP K r_open_widths) [] := by
  obtain ⟨f, fd, df, bi⟩ := c.d_open_widths
  exact cal_P df bi sc_open_widths rfl rfl fun cdv A outer s H E hr => (sb_cons (ss_asgT (tg_tp rfl (tgs_cons (tg_nm (pg_name sc_open_widths.nd rfl (by first | exact .inl rfl | exact .inr rfl))) (tgs_cons (tg_nm (pg_name sc_open_widths.nd rfl (by first | exact .inl rfl | exact .inr rfl))) tgs_nil))) (se_call (ok_told_at c) hr (by decide) (by rfl) (sa_cons (se_var (pv 0)) (sa_cons (se_var (pv 1)) (sa_cons (se_var (pv 2)) sa_nil)))))
    (sb_cons (ss_expr (se_call (ok_look_told c) hr (by decide) (by rfl) (sa_cons (se_var (pv 3)) (sa_cons (se_var (pv 4)) sa_nil))))
    (sb_one (ss_ret (se_call (ok_widths_by c) hr (by decide) (by rfl) (sa_cons (se_var (pv 3)) (sa_cons (se_var (pv 4)) (sa_cons (se_var (pv 2)) sa_nil))))))))
theorem sc_least_at : FnScope ["ranges", "tellings", "hour", "least", "known", "rows"] ["ranges", "tellings", "hour", "least"] (C8.fnScope (topS 37)) := ⟨rfl, rfl, rfl, by decide +kernel, rfl, by decide +kernel, by decide +kernel⟩
noncomputable def b_least_at : MSt := (mSeq (mAsgT (.tp [(.nm 4), (.nm 5)]) (mCall r_told_at (mCons (mVar 0) (mCons (mVar 1) (mCons (mVar 2) mNil)))))
    (mSeq (mIfS (mNot (mCall r_is_integer (mCons (mVar 3) mNil))) mNo mNx)
    (mSeq (mDrop (mCall r_look_told (mCons (mVar 4) (mCons (mVar 5) mNil))))
    (mRt (mTup (mCons (mVar 4) (mCons (mVar 5) mNil)))))))
noncomputable def r_least_at : List D → Option T := runP 6 4 b_least_at
theorem ok_least_at (c : Ctx K mg) : C8.Cal P w K mg base 5 "least_at" (spP K r_least_at) [] := by
  obtain ⟨f, fd, df, bi⟩ := c.d_least_at
  exact cal_P df bi sc_least_at rfl rfl fun cdv A outer s H E hr => (sb_cons (ss_asgT (tg_tp rfl (tgs_cons (tg_nm (pg_name sc_least_at.nd rfl (by first | exact .inl rfl | exact .inr rfl))) (tgs_cons (tg_nm (pg_name sc_least_at.nd rfl (by first | exact .inl rfl | exact .inr rfl))) tgs_nil))) (se_call (ok_told_at c) hr (by decide) (by rfl) (sa_cons (se_var (pv 0)) (sa_cons (se_var (pv 1)) (sa_cons (se_var (pv 2)) sa_nil)))))
    (sb_cons (ss_if (st_not (st_val (se_call (ok_is_integer c) hr (by decide) (by rfl) (sa_cons (se_var (pv 3)) sa_nil)))) (sb_one ss_no) sb_nil)
    (sb_cons (ss_expr (se_call (ok_look_told c) hr (by decide) (by rfl) (sa_cons (se_var (pv 4)) (sa_cons (se_var (pv 5)) sa_nil))))
    (sb_one (ss_ret (se_tup (sa_cons (se_var (pv 4)) (sa_cons (se_var (pv 5)) sa_nil))))))))
theorem sc_whole_ends : FnScope ["known", "rows", "hour", "ends", "store", "low", "high"] ["known", "rows", "hour"] (C8.fnScope (topS 34)) := ⟨rfl, rfl, rfl, by decide +kernel, rfl, by decide +kernel, by decide +kernel⟩
noncomputable def b_whole_ends : MSt := (mSeq (mPost 3 (mSet 3 (mLc [4] (.nm 4) (mKeys 0) mYes (mCall r_ends_at (mCons (mVar 0) (mCons (mVar 1) (mCons (mVar 4) (mCons (mVar 2) mNil))))))))
    (mRt (mTup (mCons (mB bSum (mCons (mLc [5, 6] (.tp [(.nm 5), (.nm 6)]) (mIt (mVar 3)) mYes (mVar 5)) mNil)) (mCons (mB bSum (mCons (mLc [5, 6] (.tp [(.nm 5), (.nm 6)]) (mIt (mVar 3)) mYes (mVar 6)) mNil)) mNil)))))
noncomputable def r_whole_ends : List D → Option T := runP 7 3 b_whole_ends
theorem ok_whole_ends (c : Ctx K mg) : C8.Cal P w K mg base 2 "whole_ends" (spP K r_whole_ends) [] := by
  obtain ⟨f, fd, df, bi⟩ := c.d_whole_ends
  exact cal_P df bi sc_whole_ends rfl rfl fun cdv A outer s H E hr => (sb_cons (ss_post (ss_setLcK (own := [("store", 4)]) rfl sc_whole_ends.nd rfl rfl (sw_true rfl rfl rfl (by decide +kernel)) (si_keys (pv 0)) (blkOk_by (by rfl)) (by decide) (fun _ _ _ _ _ => (tg_nm (pg_name sc_whole_ends.nd rfl (by first | exact .inl rfl | exact .inr rfl)))) (fun _ _ _ _ _ => sts_nil) (fun _ _ _ _ _ => (se_call (ok_ends_at c) hr (by decide) (by rfl) (sa_cons (se_var (pv 0)) (sa_cons (se_var (pv 1)) (sa_cons (se_var (pv 4)) (sa_cons (se_var (pv 2)) sa_nil))))))))
    (sb_one (ss_ret (se_tup (sa_cons (se_b ok_sum (cr_sum rfl) (by rfl) c.b_sum PyProof.Rows.boot_sum (sa_cons (se_lc (own := [("low", 5), ("high", 6)]) rfl sc_whole_ends.nd (si_it (se_var (pv 3))) (blkOk_by (by rfl)) (by decide) (fun _ _ _ _ _ => (tg_tp rfl (tgs_cons (tg_nm (pg_name sc_whole_ends.nd rfl (by first | exact .inl rfl | exact .inr rfl))) (tgs_cons (tg_nm (pg_name sc_whole_ends.nd rfl (by first | exact .inl rfl | exact .inr rfl))) tgs_nil)))) (fun _ _ _ _ _ => sts_nil) (fun _ _ _ _ _ => (se_var (pv 5)))) sa_nil)) (sa_cons (se_b ok_sum (cr_sum rfl) (by rfl) c.b_sum PyProof.Rows.boot_sum (sa_cons (se_lc (own := [("low", 5), ("high", 6)]) rfl sc_whole_ends.nd (si_it (se_var (pv 3))) (blkOk_by (by rfl)) (by decide) (fun _ _ _ _ _ => (tg_tp rfl (tgs_cons (tg_nm (pg_name sc_whole_ends.nd rfl (by first | exact .inl rfl | exact .inr rfl))) (tgs_cons (tg_nm (pg_name sc_whole_ends.nd rfl (by first | exact .inl rfl | exact .inr rfl))) tgs_nil)))) (fun _ _ _ _ _ => sts_nil) (fun _ _ _ _ _ => (se_var (pv 6)))) sa_nil)) sa_nil))))))
theorem sc_lives_by : FnScope ["known", "rows", "hour", "total", "more", "left", "store", "low", "high"] ["known", "rows", "hour", "total"] (C8.fnScope (topS 36)) := ⟨rfl, rfl, rfl, by decide +kernel, rfl, by decide +kernel, by decide +kernel⟩
noncomputable def l1_lives_by : MSt := (mSeq (mAsgT (.tp [(.nm 7), (.nm 8)]) (mCall r_ends_at (mCons (mVar 0) (mCons (mVar 1) (mCons (mVar 6) (mCons (mVar 2) mNil))))))
    (mSeq (mApp (mpVar 4) (mTup (mCons (mVar 6) (mCons (mVar 2) (mCons (mAdd (mVar 7) (mB bMin2 (mCons (mVar 5) (mCons (mSubI (mVar 8) (mVar 7)) mNil)))) mNil)))))
    (mAug 5 (fun i j => i - j) (mB bMin2 (mCons (mVar 5) (mCons (mSubI (mVar 8) (mVar 7)) mNil))))))
noncomputable def b_lives_by : MSt := (mSeq (mSet 4 (mLst (mStar (mVar 1) mNil)))
    (mSeq (mSet 5 (mFz (mSubI (mVar 3) (mIdx (mCall r_whole_ends (mCons (mVar 0) (mCons (mVar 1) (mCons (mVar 2) mNil)))) (mC (.int 0))))))
    (mSeq (mFor (.nm 6) (mKeys 0) l1_lives_by)
    (mPre1 4 (mRt (mCall r_highest_lives (mCons (mVar 0) (mCons (mVar 4) (mCons (mHz (mCall r_last_told (mCons (mVar 4) mNil))) mNil)))))))))
noncomputable def r_lives_by : List D → Option T := runP 9 4 b_lives_by
theorem ok_lives_by (c : Ctx K mg) : C8.Cal P w K mg base 3 "lives_by" (spP K r_lives_by) [] := by
  obtain ⟨f, fd, df, bi⟩ := c.d_lives_by
  exact cal_P df bi sc_lives_by rfl rfl fun cdv A outer s H E hr => (sb_cons (ss_set sc_lives_by.nd rfl (by first | exact .inl rfl | exact .inr rfl) (se_lst (sa_star (se_var (pv 1)) sa_nil)))
    (sb_cons (ss_set sc_lives_by.nd rfl (by first | exact .inl rfl | exact .inr rfl) (se_fz (se_subI (se_var (pv 3)) (se_idx (hu_of hr) (se_call (ok_whole_ends c) hr (by decide) (by rfl) (sa_cons (se_var (pv 0)) (sa_cons (se_var (pv 1)) (sa_cons (se_var (pv 2)) sa_nil)))) se_int))))
    (sb_cons (ss_forK PassesOwn.never rfl (si_keys (pv 0)) (tg_nm (pg_name sc_lives_by.nd rfl (by first | exact .inl rfl | exact .inr rfl))) (sb_cons (ss_asgT (tg_tp rfl (tgs_cons (tg_nm (pg_name sc_lives_by.nd rfl (by first | exact .inl rfl | exact .inr rfl))) (tgs_cons (tg_nm (pg_name sc_lives_by.nd rfl (by first | exact .inl rfl | exact .inr rfl))) tgs_nil))) (se_call (ok_ends_at c) hr (by decide) (by rfl) (sa_cons (se_var (pv 0)) (sa_cons (se_var (pv 1)) (sa_cons (se_var (pv 6)) (sa_cons (se_var (pv 2)) sa_nil))))))
    (sb_cons (ss_app (sp_var (pv 4)) (se_tup (sa_cons (se_var (pv 6)) (sa_cons (se_var (pv 2)) (sa_cons (se_add (se_var (pv 7)) (se_b ok_min2 (call_min2 rfl) (by rfl) c.b_min PyProof.Rows.boot_min (sa_cons (se_var (pv 5)) (sa_cons (se_subI (se_var (pv 8)) (se_var (pv 7))) sa_nil)))) sa_nil)))))
    (sb_one (ss_aug ip_sub sc_lives_by.nd rfl (by first | exact .inl rfl | exact .inr rfl) (se_b ok_min2 (call_min2 rfl) (by rfl) c.b_min PyProof.Rows.boot_min (sa_cons (se_var (pv 5)) (sa_cons (se_subI (se_var (pv 8)) (se_var (pv 7))) sa_nil))))))))
    (sb_one (ss_pre1 (ss_ret (se_call (ok_highest_lives c) hr (by decide) (by rfl) (sa_cons (se_var (pv 0)) (sa_cons (se_var (pv 4)) (sa_cons (se_hz (se_call (ok_last_told c) hr (by decide) (by rfl) (sa_cons (se_var (pv 4)) sa_nil))) sa_nil))))))))))
theorem sc_sure_word : FnScope ["known", "rows", "hour", "least", "low", "high"] ["known", "rows", "hour", "least"] (C8.fnScope (topS 38)) := ⟨rfl, rfl, rfl, by decide +kernel, rfl, by decide +kernel, by decide +kernel⟩
noncomputable def b_sure_word : MSt := (mSeq (mAsgT (.tp [(.nm 4), (.nm 5)]) (mCall r_whole_ends (mCons (mVar 0) (mCons (mVar 1) (mCons (mVar 2) mNil)))))
    (mRt (mIf (mCmp dGe (mVar 4) (mVar 3)) (mC (.str "yes")) (mIf (mCmp dLt (mVar 5) (mVar 3)) (mC (.str "no")) (mC (.str "open"))))))
noncomputable def r_sure_word : List D → Option T := runP 6 4 b_sure_word
theorem ok_sure_word (c : Ctx K mg) : C8.Cal P w K mg base 3 "sure_word" (spP K r_sure_word) [] := by
  obtain ⟨f, fd, df, bi⟩ := c.d_sure_word
  exact cal_P df bi sc_sure_word rfl rfl fun cdv A outer s H E hr => (sb_cons (ss_asgT (tg_tp rfl (tgs_cons (tg_nm (pg_name sc_sure_word.nd rfl (by first | exact .inl rfl | exact .inr rfl))) (tgs_cons (tg_nm (pg_name sc_sure_word.nd rfl (by first | exact .inl rfl | exact .inr rfl))) tgs_nil))) (se_call (ok_whole_ends c) hr (by decide) (by rfl) (sa_cons (se_var (pv 0)) (sa_cons (se_var (pv 1)) (sa_cons (se_var (pv 2)) sa_nil)))))
    (sb_one (ss_ret (se_if (st_cmp (op_geD (hu100 hr)) (se_var (pv 4)) (se_var (pv 3))) se_str (se_if (st_cmp (op_ltD (hu100 hr)) (se_var (pv 5)) (se_var (pv 3))) se_str se_str)))))
theorem sc_sure_or_two : FnScope ["ranges", "tellings", "hour", "least", "known", "rows", "word"] ["ranges", "tellings", "hour", "least"] (C8.fnScope (topS 39)) := ⟨rfl, rfl, rfl, by decide +kernel, rfl, by decide +kernel, by decide +kernel⟩
noncomputable def b_sure_or_two : MSt := (mSeq (mAsgT (.tp [(.nm 4), (.nm 5)]) (mCall r_least_at (mCons (mVar 0) (mCons (mVar 1) (mCons (mVar 2) (mCons (mVar 3) mNil))))))
    (mSeq (mSet 6 (mFz (mCall r_sure_word (mCons (mVar 4) (mCons (mVar 5) (mCons (mVar 2) (mCons (mVar 3) mNil)))))))
    (mSeq (mIfS (mCmp dNe (mVar 6) (mC (.str "open"))) (mRt (mTup (mCons (mVar 6) mNil))) mNx)
    (mRt (mTup (mCons (mC (.str "open")) (mCons (mCall r_lives_by (mCons (mVar 4) (mCons (mVar 5) (mCons (mVar 2) (mCons (mVar 3) mNil))))) (mCons (mCall r_lives_by (mCons (mVar 4) (mCons (mVar 5) (mCons (mVar 2) (mCons (mHz (mSubI (mVar 3) (mC (.int 1)))) mNil))))) mNil))))))))
noncomputable def r_sure_or_two : List D → Option T := runP 7 4 b_sure_or_two
theorem ok_sure_or_two (c : Ctx K mg) : C8.Cal P w K mg base 6 "sure_or_two" (spP K r_sure_or_two) [] := by
  obtain ⟨f, fd, df, bi⟩ := c.d_sure_or_two
  exact cal_P df bi sc_sure_or_two rfl rfl fun cdv A outer s H E hr => (sb_cons (ss_asgT (tg_tp rfl (tgs_cons (tg_nm (pg_name sc_sure_or_two.nd rfl (by first | exact .inl rfl | exact .inr rfl))) (tgs_cons (tg_nm (pg_name sc_sure_or_two.nd rfl (by first | exact .inl rfl | exact .inr rfl))) tgs_nil))) (se_call (ok_least_at c) hr (by decide) (by rfl) (sa_cons (se_var (pv 0)) (sa_cons (se_var (pv 1)) (sa_cons (se_var (pv 2)) (sa_cons (se_var (pv 3)) sa_nil))))))
    (sb_cons (ss_set sc_sure_or_two.nd rfl (by first | exact .inl rfl | exact .inr rfl) (se_fz (se_call (ok_sure_word c) hr (by decide) (by rfl) (sa_cons (se_var (pv 4)) (sa_cons (se_var (pv 5)) (sa_cons (se_var (pv 2)) (sa_cons (se_var (pv 3)) sa_nil)))))))
    (sb_cons (ss_if (st_cmp (op_neDD (hu100 hr)) (se_var (pv 6)) se_str) (sb_one (ss_ret (se_tup (sa_cons (se_var (pv 6)) sa_nil)))) sb_nil)
    (sb_one (ss_ret (se_tup (sa_cons se_str (sa_cons (se_call (ok_lives_by c) hr (by decide) (by rfl) (sa_cons (se_var (pv 4)) (sa_cons (se_var (pv 5)) (sa_cons (se_var (pv 2)) (sa_cons (se_var (pv 3)) sa_nil))))) (sa_cons (se_call (ok_lives_by c) hr (by decide) (by rfl) (sa_cons (se_var (pv 4)) (sa_cons (se_var (pv 5)) (sa_cons (se_var (pv 2)) (sa_cons (se_hz (se_subI (se_var (pv 3)) se_int)) sa_nil))))) sa_nil)))))))))
theorem sc_whole_between : FnScope ["ranges", "tellings", "hour", "known", "rows"] ["ranges", "tellings", "hour"] (C8.fnScope (topS 35)) := ⟨rfl, rfl, rfl, by decide +kernel, rfl, by decide +kernel, by decide +kernel⟩
noncomputable def b_whole_between : MSt := (mSeq (mAsgT (.tp [(.nm 3), (.nm 4)]) (mCall r_told_at (mCons (mVar 0) (mCons (mVar 1) (mCons (mVar 2) mNil)))))
    (mSeq (mDrop (mCall r_look_told (mCons (mVar 3) (mCons (mVar 4) mNil))))
    (mRt (mCall r_whole_ends (mCons (mVar 3) (mCons (mVar 4) (mCons (mVar 2) mNil)))))))
noncomputable def r_whole_between : List D → Option T := runP 5 3 b_whole_between
theorem ok_whole_between (c : Ctx K mg) : C8.Cal P w K mg base 5 "whole_between" (spP K r_whole_between) [] := by
  obtain ⟨f, fd, df, bi⟩ := c.d_whole_between
  exact cal_P df bi sc_whole_between rfl rfl fun cdv A outer s H E hr => (sb_cons (ss_asgT (tg_tp rfl (tgs_cons (tg_nm (pg_name sc_whole_between.nd rfl (by first | exact .inl rfl | exact .inr rfl))) (tgs_cons (tg_nm (pg_name sc_whole_between.nd rfl (by first | exact .inl rfl | exact .inr rfl))) tgs_nil))) (se_call (ok_told_at c) hr (by decide) (by rfl) (sa_cons (se_var (pv 0)) (sa_cons (se_var (pv 1)) (sa_cons (se_var (pv 2)) sa_nil)))))
    (sb_cons (ss_expr (se_call (ok_look_told c) hr (by decide) (by rfl) (sa_cons (se_var (pv 3)) (sa_cons (se_var (pv 4)) sa_nil))))
    (sb_one (ss_ret (se_call (ok_whole_ends c) hr (by decide) (by rfl) (sa_cons (se_var (pv 3)) (sa_cons (se_var (pv 4)) (sa_cons (se_var (pv 2)) sa_nil))))))))
theorem sc__law_lv_put_right : FnScope ["stream", "ranges", "lots", "both", "hour", "own", "sums", "rows", "ends", "whole", "found", "due", "least", "word", "store", "one", "other", "last"] ["stream", "ranges", "lots"] (C8.fnScope (topS 61)) := ⟨rfl, rfl, rfl, by decide +kernel, rfl, by decide +kernel, by decide +kernel⟩
noncomputable def l1__law_lv_put_right : MSt := (mSeq (mSet 8 (mFz (mDicP (mLc [14] (.nm 14) (mIt (mSorted (mVar 1))) mYes (mTup (mCons (mVar 14) (mCons (mCall r__law_lv_ends (mCons (mVar 1) (mCons (mVar 7) (mCons (mVar 14) (mCons (mVar 4) mNil))))) mNil)))))))
    (mSeq (mApp (mpVar 6) (mVar 8))
    (mSeq (mSet 9 (mFz (mTup (mCons (mB bSum (mCons (mLc [14] (.nm 14) (mKeys 8) mYes (mIdx (mIdx (mVar 8) (mVar 14)) (mC (.int 0)))) mNil)) (mCons (mB bSum (mCons (mLc [14] (.nm 14) (mKeys 8) mYes (mIdx (mIdx (mVar 8) (mVar 14)) (mC (.int 1)))) mNil)) mNil)))))
    (mSeq (mSet 10 (mLc [14] (.nm 14) (mIt (mSorted (mVar 1))) mYes (mCall r_can_have (mCons (mHz (mIdx (mVar 5) (mC (.int 0)))) (mCons (mHz (mCall (r__law_copied 13) (mCons (mVar 7) mNil))) (mCons (mVar 14) (mCons (mVar 4) mNil)))))))
    (mSeq (mExt (mpVar 10) (mLst (mCons (mCall r_whole_between (mCons (mHz (mIdx (mVar 5) (mC (.int 0)))) (mCons (mHz (mCall (r__law_copied 13) (mCons (mVar 7) mNil))) (mCons (mVar 4) mNil)))) (mCons (mCall r_open_widths (mCons (mHz (mIdx (mVar 5) (mC (.int 0)))) (mCons (mHz (mCall (r__law_copied 13) (mCons (mVar 7) mNil))) (mCons (mVar 4) mNil)))) mNil))))
    (mSeq (mSet 11 (mLc [14] (.nm 14) (mIt (mSorted (mVar 1))) mYes (mIdx (mVar 8) (mVar 14))))
    (mSeq (mExt (mpVar 11) (mLst (mCons (mVar 9) (mCons (mDicP (mLc [14] (.nm 14) (mIt (mSorted (mVar 1))) mYes (mTup (mCons (mVar 14) (mCons (mSubI (mIdx (mIdx (mVar 8) (mVar 14)) (mC (.int 1))) (mIdx (mIdx (mVar 8) (mVar 14)) (mC (.int 0)))) mNil))))) mNil))))
    (mSeq (mSet 12 (mFz (mSubI (mAdd (mIdx (mVar 9) (mC (.int 0))) (mCallS r__law_draw (mgS 0 (mgD (mC (.int 5)) mgNil)))) (mC (.int 1)))))
    (mSeq (mSet 13 (mFz (mIf (mCmp dGe (mIdx (mVar 9) (mC (.int 0))) (mVar 12)) (mC (.str "yes")) (mIf (mCmp dLt (mIdx (mVar 9) (mC (.int 1))) (mVar 12)) (mC (.str "no")) (mC (.str "open"))))))
    (mSeq (mApp (mpVar 10) (mIdx (mCall r_sure_or_two (mCons (mHz (mIdx (mVar 5) (mC (.int 0)))) (mCons (mHz (mCall (r__law_copied 13) (mCons (mVar 7) mNil))) (mCons (mVar 4) (mCons (mVar 12) mNil))))) (mC (.int 0))))
    (mSeq (mPre1 11 (mPre1 10 (mIfS (mNot (mCall (r__law_same 13) (mCons (mHz (mLst (mCons (mVar 10) (mCons (mVar 5) mNil)))) (mCons (mHz (mLst (mCons (mAdd (mVar 11) (mLst (mCons (mVar 13) mNil))) (mCons (mLst (mCons (mVar 1) (mCons (mVar 2) (mCons (mVar 3) mNil)))) mNil)))) mNil)))) (mRt (mC (.bool false))) mNx)))
    (mIfS (mAnd (mCmp dEq (mVar 13) (mC (.str "yes"))) (mNot (mCall (r__law_same 13) (mCons (mHz (mCall r_sure_or_two (mCons (mHz (mIdx (mVar 5) (mC (.int 0)))) (mCons (mHz (mIdx (mVar 5) (mC (.int 2)))) (mCons (mVar 4) (mCons (mVar 12) mNil)))))) (mCons (mHz (mTup (mCons (mC (.str "yes")) mNil))) mNil))))) (mRt (mC (.bool false))) mNx))))))))))))
noncomputable def l2__law_lv_put_right : MSt := (mSeq (mPre1 6 (mAsgT (.tp [(.nm 15), (.nm 16), (.nm 17)]) (mLc [8] (.nm 8) (mIt (mVar 6)) mYes (mIdx (mVar 8) (mVar 14)))))
    (mIfS (mCmp dNe (mVar 17) (mTup (mCons (mB bMax2 (mCons (mIdx (mVar 15) (mC (.int 0))) (mCons (mIdx (mVar 16) (mC (.int 0))) mNil))) (mCons (mB bMin2 (mCons (mIdx (mVar 15) (mC (.int 1))) (mCons (mIdx (mVar 16) (mC (.int 1))) mNil))) mNil)))) (mRt (mC (.bool false))) mNx))
noncomputable def b__law_lv_put_right : MSt := (mSeq (mAsgT (.tp [(.nm 3), (.nm 4)]) (mTup (mCons (mAdd (mIdx (mVar 2) (mC (.int 0))) (mIdx (mVar 2) (mC (.int 1)))) (mCons (mCallS r__law_draw (mgS 0 (mgD (mC (.int 15)) mgNil))) mNil))))
    (mSeq (mPost 5 (mUnp [5, 6] (mTup (mCons (mCall (r__law_copied 13) (mCons (mHz (mLst (mCons (mVar 1) (mCons (mVar 2) (mCons (mVar 3) mNil))))) mNil)) (mCons (mLst mNil) mNil)))))
    (mSeq (mFor (.nm 7) (mIt (mAdd (mVar 2) (mLst (mCons (mVar 3) mNil)))) l1__law_lv_put_right)
    (mSeq (mFor (.nm 14) (mKeys 1) l2__law_lv_put_right)
    (mRt (mC (.bool true)))))))
noncomputable def r__law_lv_put_right : List DV.Arg → S → Option (T × S) := runS 18 3 b__law_lv_put_right
theorem ok__law_lv_put_right (c : Ctx K mg) : C8.Cal P w K mg base 14 "_law_lv_put_right" (spS K r__law_lv_put_right) [] := by
  obtain ⟨f, fd, df, bi⟩ := c.d__law_lv_put_right
  exact cal_S df bi sc__law_lv_put_right rfl rfl fun cdv A outer s H E stm hr => (sb_cons (ss_asgT (tg_tp rfl (tgs_cons (tg_nm (pg_name sc__law_lv_put_right.nd rfl (by first | exact .inl rfl | exact .inr rfl))) (tgs_cons (tg_nm (pg_name sc__law_lv_put_right.nd rfl (by first | exact .inl rfl | exact .inr rfl))) tgs_nil))) (se_tup (sa_cons (se_add (se_idx (hu_of hr) (se_var (pv 2)) se_int) (se_idx (hu_of hr) (se_var (pv 2)) se_int)) (sa_cons (se_callS (ok__law_draw c) hr (by decide) (by rfl) (sg_s (pv 0) (sg_d se_int sg_nil))) sa_nil))))
    (sb_cons (ss_post (ss_unp (tg_tp rfl (tgs_cons (tg_nm (pg_name sc__law_lv_put_right.nd rfl (by first | exact .inl rfl | exact .inr rfl))) (tgs_cons (tg_nm (pg_name sc__law_lv_put_right.nd rfl (by first | exact .inl rfl | exact .inr rfl))) tgs_nil))) (se_tup (sa_cons (se_call (ok__law_copied c 13) hr (by decide) (by rfl) (sa_cons (se_hz (se_lst (sa_cons (se_var (pv 1)) (sa_cons (se_var (pv 2)) (sa_cons (se_var (pv 3)) sa_nil))))) sa_nil)) (sa_cons (se_lst sa_nil) sa_nil)))))
    (sb_cons (ss_for PassesOwn.never rfl (si_it (se_add (se_var (pv 2)) (se_lst (sa_cons (se_var (pv 3)) sa_nil)))) (tg_nm (pg_name sc__law_lv_put_right.nd rfl (by first | exact .inl rfl | exact .inr rfl))) (sb_cons (ss_set sc__law_lv_put_right.nd rfl (by first | exact .inl rfl | exact .inr rfl) (se_fz (se_dicP rfl (by rfl) c.b_dict (se_lc (own := [("store", 14)]) rfl sc__law_lv_put_right.nd (si_it (se_sorted rfl (hu100 hr) (by rfl) c.b_sorted (se_var (pv 1)))) (blkOk_by (by rfl)) (by decide) (fun _ _ _ _ _ => (tg_nm (pg_name sc__law_lv_put_right.nd rfl (by first | exact .inl rfl | exact .inr rfl)))) (fun _ _ _ _ _ => sts_nil) (fun _ _ _ _ _ => (se_tup (sa_cons (se_var (pv 14)) (sa_cons (se_call (ok__law_lv_ends c) hr (by decide) (by rfl) (sa_cons (se_var (pv 1)) (sa_cons (se_var (pv 7)) (sa_cons (se_var (pv 14)) (sa_cons (se_var (pv 4)) sa_nil))))) sa_nil))))))))
    (sb_cons (ss_app (sp_var (pv 6)) (se_var (pv 8)))
    (sb_cons (ss_set sc__law_lv_put_right.nd rfl (by first | exact .inl rfl | exact .inr rfl) (se_fz (se_tup (sa_cons (se_b ok_sum (cr_sum rfl) (by rfl) c.b_sum PyProof.Rows.boot_sum (sa_cons (se_lcK (own := [("store", 14)]) rfl sc__law_lv_put_right.nd (si_keys (pv 8)) (blkOk_by (by rfl)) (by decide) (fun _ _ _ _ _ => (tg_nm (pg_name sc__law_lv_put_right.nd rfl (by first | exact .inl rfl | exact .inr rfl)))) (fun _ _ _ _ _ => sts_nil) (fun _ _ _ _ _ => (se_idx (hu_of hr) (se_idx (hu_of hr) (se_var (pv 8)) (se_var (pv 14))) se_int))) sa_nil)) (sa_cons (se_b ok_sum (cr_sum rfl) (by rfl) c.b_sum PyProof.Rows.boot_sum (sa_cons (se_lcK (own := [("store", 14)]) rfl sc__law_lv_put_right.nd (si_keys (pv 8)) (blkOk_by (by rfl)) (by decide) (fun _ _ _ _ _ => (tg_nm (pg_name sc__law_lv_put_right.nd rfl (by first | exact .inl rfl | exact .inr rfl)))) (fun _ _ _ _ _ => sts_nil) (fun _ _ _ _ _ => (se_idx (hu_of hr) (se_idx (hu_of hr) (se_var (pv 8)) (se_var (pv 14))) se_int))) sa_nil)) sa_nil)))))
    (sb_cons (ss_setLc (own := [("store", 14)]) rfl sc__law_lv_put_right.nd rfl rfl (sw_true rfl rfl rfl (by decide +kernel)) (si_it (se_sorted rfl (hu100 hr) (by rfl) c.b_sorted (se_var (pv 1)))) (blkOk_by (by rfl)) (by decide) (fun _ _ _ _ _ => (tg_nm (pg_name sc__law_lv_put_right.nd rfl (by first | exact .inl rfl | exact .inr rfl)))) (fun _ _ _ _ _ => sts_nil) (fun _ _ _ _ _ => (se_call (ok_can_have c) hr (by decide) (by rfl) (sa_cons (se_hz (se_idx (hu_of hr) (se_var (pv 5)) se_int)) (sa_cons (se_hz (se_call (ok__law_copied c 13) hr (by decide) (by rfl) (sa_cons (se_var (pv 7)) sa_nil))) (sa_cons (se_var (pv 14)) (sa_cons (se_var (pv 4)) sa_nil)))))))
    (sb_cons (ss_ext (sp_var (pv 10)) (se_lst (sa_cons (se_call (ok_whole_between c) hr (by decide) (by rfl) (sa_cons (se_hz (se_idx (hu_of hr) (se_var (pv 5)) se_int)) (sa_cons (se_hz (se_call (ok__law_copied c 13) hr (by decide) (by rfl) (sa_cons (se_var (pv 7)) sa_nil))) (sa_cons (se_var (pv 4)) sa_nil)))) (sa_cons (se_call (ok_open_widths c) hr (by decide) (by rfl) (sa_cons (se_hz (se_idx (hu_of hr) (se_var (pv 5)) se_int)) (sa_cons (se_hz (se_call (ok__law_copied c 13) hr (by decide) (by rfl) (sa_cons (se_var (pv 7)) sa_nil))) (sa_cons (se_var (pv 4)) sa_nil)))) sa_nil))))
    (sb_cons (ss_setLc (own := [("store", 14)]) rfl sc__law_lv_put_right.nd rfl rfl (sw_true rfl rfl rfl (by decide +kernel)) (si_it (se_sorted rfl (hu100 hr) (by rfl) c.b_sorted (se_var (pv 1)))) (blkOk_by (by rfl)) (by decide) (fun _ _ _ _ _ => (tg_nm (pg_name sc__law_lv_put_right.nd rfl (by first | exact .inl rfl | exact .inr rfl)))) (fun _ _ _ _ _ => sts_nil) (fun _ _ _ _ _ => (se_idx (hu_of hr) (se_var (pv 8)) (se_var (pv 14)))))
    (sb_cons (ss_ext (sp_var (pv 11)) (se_lst (sa_cons (se_var (pv 9)) (sa_cons (se_dicP rfl (by rfl) c.b_dict (se_lc (own := [("store", 14)]) rfl sc__law_lv_put_right.nd (si_it (se_sorted rfl (hu100 hr) (by rfl) c.b_sorted (se_var (pv 1)))) (blkOk_by (by rfl)) (by decide) (fun _ _ _ _ _ => (tg_nm (pg_name sc__law_lv_put_right.nd rfl (by first | exact .inl rfl | exact .inr rfl)))) (fun _ _ _ _ _ => sts_nil) (fun _ _ _ _ _ => (se_tup (sa_cons (se_var (pv 14)) (sa_cons (se_subI (se_idx (hu_of hr) (se_idx (hu_of hr) (se_var (pv 8)) (se_var (pv 14))) se_int) (se_idx (hu_of hr) (se_idx (hu_of hr) (se_var (pv 8)) (se_var (pv 14))) se_int)) sa_nil)))))) sa_nil))))
    (sb_cons (ss_set sc__law_lv_put_right.nd rfl (by first | exact .inl rfl | exact .inr rfl) (se_fz (se_subI (se_add (se_idx (hu_of hr) (se_var (pv 9)) se_int) (se_callS (ok__law_draw c) hr (by decide) (by rfl) (sg_s (pv 0) (sg_d se_int sg_nil)))) se_int)))
    (sb_cons (ss_set sc__law_lv_put_right.nd rfl (by first | exact .inl rfl | exact .inr rfl) (se_fz (se_if (st_cmp (op_geD (hu100 hr)) (se_idx (hu_of hr) (se_var (pv 9)) se_int) (se_var (pv 12))) se_str (se_if (st_cmp (op_ltD (hu100 hr)) (se_idx (hu_of hr) (se_var (pv 9)) se_int) (se_var (pv 12))) se_str se_str))))
    (sb_cons (ss_app (sp_var (pv 10)) (se_idx (hu_of hr) (se_call (ok_sure_or_two c) hr (by decide) (by rfl) (sa_cons (se_hz (se_idx (hu_of hr) (se_var (pv 5)) se_int)) (sa_cons (se_hz (se_call (ok__law_copied c 13) hr (by decide) (by rfl) (sa_cons (se_var (pv 7)) sa_nil))) (sa_cons (se_var (pv 4)) (sa_cons (se_var (pv 12)) sa_nil))))) se_int))
    (sb_cons (ss_pre1 (ss_pre1 (ss_if (st_not (st_val (se_call (ok__law_same c 13) hr (by decide) (by rfl) (sa_cons (se_hz (se_lst (sa_cons (se_var (pv 10)) (sa_cons (se_var (pv 5)) sa_nil)))) (sa_cons (se_hz (se_lst (sa_cons (se_add (se_var (pv 11)) (se_lst (sa_cons (se_var (pv 13)) sa_nil))) (sa_cons (se_lst (sa_cons (se_var (pv 1)) (sa_cons (se_var (pv 2)) (sa_cons (se_var (pv 3)) sa_nil)))) sa_nil)))) sa_nil))))) (sb_one (ss_ret se_bl)) sb_nil)))
    (sb_one (ss_if (sw_pt (sw_and (st_cmp (op_eqDD (hu100 hr)) (se_var (pv 13)) se_str) (sw_and1 (st_not (st_val (se_call (ok__law_same c 13) hr (by decide) (by rfl) (sa_cons (se_hz (se_call (ok_sure_or_two c) hr (by decide) (by rfl) (sa_cons (se_hz (se_idx (hu_of hr) (se_var (pv 5)) se_int)) (sa_cons (se_hz (se_idx (hu_of hr) (se_var (pv 5)) se_int)) (sa_cons (se_var (pv 4)) (sa_cons (se_var (pv 12)) sa_nil)))))) (sa_cons (se_hz (se_tup (sa_cons se_str sa_nil))) sa_nil)))))))) (sb_one (ss_ret se_bl)) sb_nil))))))))))))))
    (sb_cons (ss_forK PassesOwn.never rfl (si_keys (pv 1)) (tg_nm (pg_name sc__law_lv_put_right.nd rfl (by first | exact .inl rfl | exact .inr rfl))) (sb_cons (ss_pre1 (ss_asgT (tg_tp rfl (tgs_cons (tg_nm (pg_name sc__law_lv_put_right.nd rfl (by first | exact .inl rfl | exact .inr rfl))) (tgs_cons (tg_nm (pg_name sc__law_lv_put_right.nd rfl (by first | exact .inl rfl | exact .inr rfl))) (tgs_cons (tg_nm (pg_name sc__law_lv_put_right.nd rfl (by first | exact .inl rfl | exact .inr rfl))) tgs_nil)))) (se_lc (own := [("ends", 8)]) rfl sc__law_lv_put_right.nd (si_it (se_var (pv 6))) (blkOk_by (by rfl)) (by decide) (fun _ _ _ _ _ => (tg_nm (pg_name sc__law_lv_put_right.nd rfl (by first | exact .inl rfl | exact .inr rfl)))) (fun _ _ _ _ _ => sts_nil) (fun _ _ _ _ _ => (se_idx (hu_of hr) (se_var (pv 8)) (se_var (pv 14)))))))
    (sb_one (ss_if (st_cmp (op_neDD (hu100 hr)) (se_var (pv 17)) (se_tup (sa_cons (se_b ok_max2 (call_max2 rfl) (by rfl) c.b_max PyProof.Rows.boot_max (sa_cons (se_idx (hu_of hr) (se_var (pv 15)) se_int) (sa_cons (se_idx (hu_of hr) (se_var (pv 16)) se_int) sa_nil))) (sa_cons (se_b ok_min2 (call_min2 rfl) (by rfl) c.b_min PyProof.Rows.boot_min (sa_cons (se_idx (hu_of hr) (se_var (pv 15)) se_int) (sa_cons (se_idx (hu_of hr) (se_var (pv 16)) se_int) sa_nil))) sa_nil)))) (sb_one (ss_ret se_bl)) sb_nil))))
    (sb_one (ss_ret se_bl))))))
theorem sc__law_start : FnScope ["script"] ["script"] (C8.fnScope (topS 51)) := ⟨rfl, rfl, rfl, by decide +kernel, rfl, by decide +kernel, by decide +kernel⟩
theorem ok__law_start (c : Ctx K mg) : C8.Cal P w K mg base 1 "_law_start" (spStart K) [] := by
  obtain ⟨f, fd, df, bi⟩ := c.d__law_start
  refine C8.cal0 df bi .nil sc__law_start (fun vs H Q E h => start_len h) fun cdv A outer s H vs Q E hr h => ⟨_,
    pss_one (ps_ret (pe_lst (pa_cons (pe_callTy call_list_of (by rfl) c.b_list boot_list (pa_cons (pv 0) pa_nil)) (pa_cons pe_int (pa_cons pe_int (pa_cons pe_int pa_nil)))))), start_reads h⟩
theorem sc_law : FnScope ["script", "stream", "turn", "ranges", "rows", "lives", "cut", "lots"] ["script"] (C8.fnScope (topS 62)) := ⟨rfl, rfl, rfl, by decide +kernel, rfl, by decide +kernel, by decide +kernel⟩
noncomputable def l1_law : MSt := (mSeq (mSet 3 (mFz (mCallS r__law_kn_ranges (mgS 1 (mgD (mC (.int 4)) mgNil)))))
    (mSeq (mAsgT (.tp [(.nm 4), (.nm 5)]) (mCallS r__law_kn_told (mgS 1 (mgD (mVar 3) (mgD (mC (.int 6)) mgNil)))))
    (mSeq (mIfS (mNot (mCallS r__law_lv_lives_right (mgS 1 (mgD (mVar 3) (mgD (mVar 4) (mgD (mVar 5) mgNil)))))) (mRt (mC (.bool false))) mNx)
    (mSeq (mSet 6 (mFz (mCallS r__law_draw (mgS 1 (mgD (mAdd (mB bLen (mCons (mVar 4) mNil)) (mC (.int 1))) mgNil)))))
    (mSeq (mSet 7 (mFz (mCallS r__law_mixed (mgS 1 (mgD (mVar 4) mgNil)))))
    (mIfS (mNot (mCallS r__law_lv_put_right (mgS 1 (mgD (mVar 3) (mgD (mLst (mCons (mSl (mVar 7) moNo (moSome (mVar 6))) (mCons (mSl (mVar 7) (moSome (mVar 6)) moNo) mNil))) mgNil))))) (mRt (mC (.bool false))) mNx))))))
noncomputable def b_law : MSt := (mSeq (mFor (.nm 2) (mRng1 (mCons (mC (.int 8)) mNil)) l1_law)
    (mRt (mC (.bool true))))
def Right : Prop := ∀ ns : List Int, ns.length ≤ 63 → ∃ g s, b_law (none :: some .s :: List.replicate 6 none) ⟨ns, 0, 0, 89⟩ = some (.rt (.fz (.bool true)), g, s)
theorem ok_law (hm : Right) (c : Ctx K mg) {f : Addr} {fd : FuncData} (df : C8.Def K mg "law" (topS 62) f fd) : FnOk P w K mg base C8.CX0 15 f fd ["script"] (spLaw K) := by
  refine C8.fn0 df.fn sc_law (fun vs H Q E h => law_len h) fun cdv A outer s H vs Q E hr h => ⟨_, pss_cons (ps_set (i := 1) sc_law.nd rfl (by first | exact .inl rfl | exact .inr rfl) (C8.pe_c (ok__law_start c) hr (by decide) (by rfl) (pa_cons (pv 0) pa_nil)))
    (any_st fun st => (sb_cons (ss_for PassesOwn.never rfl (si_rng1 (by rfl) c.b_range (sa_cons se_int sa_nil)) (tg_nm (pg_name sc_law.nd rfl (by first | exact .inl rfl | exact .inr rfl))) (sb_cons (ss_set sc_law.nd rfl (by first | exact .inl rfl | exact .inr rfl) (se_fz (se_callS (ok__law_kn_ranges c) hr (by decide) (by rfl) (sg_s (pv 1) (sg_d se_int sg_nil)))))
    (sb_cons (ss_asgT (tg_tp rfl (tgs_cons (tg_nm (pg_name sc_law.nd rfl (by first | exact .inl rfl | exact .inr rfl))) (tgs_cons (tg_nm (pg_name sc_law.nd rfl (by first | exact .inl rfl | exact .inr rfl))) tgs_nil))) (se_callS (ok__law_kn_told c) hr (by decide) (by rfl) (sg_s (pv 1) (sg_d (se_var (pv 3)) (sg_d se_int sg_nil)))))
    (sb_cons (ss_if (st_not (st_val (se_callS (ok__law_lv_lives_right c) hr (by decide) (by rfl) (sg_s (pv 1) (sg_d (se_var (pv 3)) (sg_d (se_var (pv 4)) (sg_d (se_var (pv 5)) sg_nil))))))) (sb_one (ss_ret se_bl)) sb_nil)
    (sb_cons (ss_set sc_law.nd rfl (by first | exact .inl rfl | exact .inr rfl) (se_fz (se_callS (ok__law_draw c) hr (by decide) (by rfl) (sg_s (pv 1) (sg_d (se_add (se_b ok_len call_lenD (by rfl) c.b_len PySem.boot_len (sa_cons (se_var (pv 4)) sa_nil)) se_int) sg_nil)))))
    (sb_cons (ss_set sc_law.nd rfl (by first | exact .inl rfl | exact .inr rfl) (se_fz (se_callS (ok__law_mixed c) hr (by decide) (by rfl) (sg_s (pv 1) (sg_d (se_var (pv 4)) sg_nil)))))
    (sb_one (ss_if (st_not (st_val (se_callS (ok__law_lv_put_right c) hr (by decide) (by rfl) (sg_s (pv 1) (sg_d (se_var (pv 3)) (sg_d (se_lst (sa_cons (se_sl (se_var (pv 7)) so_none (so_some (se_var (pv 6)))) (sa_cons (se_sl (se_var (pv 7)) (so_some (se_var (pv 6))) so_none) sa_nil))) sg_nil)))))) (sb_one (ss_ret se_bl)) sb_nil))))))))
    (sb_one (ss_ret se_bl)))), law_reads (m := b_law) rfl hm h⟩
end
theorem ctx_mk {K : PySem.W.Frag} {mg : Str → Option Value} {h : Heap} (X : K.In h) (G : h.Ns mainGlobals mg)
    {f1 : Addr} {od1 an1 : Option Addr} {sl1 : Array (Option Value)} {oc1 kV1 dc1 pm1 cd1 ct1 : Value}
    {f2 : Addr} {od2 an2 : Option Addr} {sl2 : Array (Option Value)} {oc2 kV2 dc2 pm2 cd2 ct2 : Value}
    {f3 : Addr} {od3 an3 : Option Addr} {sl3 : Array (Option Value)} {oc3 kV3 dc3 pm3 cd3 ct3 : Value}
    {f4 : Addr} {od4 an4 : Option Addr} {sl4 : Array (Option Value)} {oc4 kV4 dc4 pm4 cd4 ct4 : Value}
    {f5 : Addr} {od5 an5 : Option Addr} {sl5 : Array (Option Value)} {oc5 kV5 dc5 pm5 cd5 ct5 : Value}
    {f6 : Addr} {od6 an6 : Option Addr} {sl6 : Array (Option Value)} {oc6 kV6 dc6 pm6 cd6 ct6 : Value}
    {f7 : Addr} {od7 an7 : Option Addr} {sl7 : Array (Option Value)} {oc7 kV7 dc7 pm7 cd7 ct7 : Value}
    {f8 : Addr} {od8 an8 : Option Addr} {sl8 : Array (Option Value)} {oc8 kV8 dc8 pm8 cd8 ct8 : Value}
    {f9 : Addr} {od9 an9 : Option Addr} {sl9 : Array (Option Value)} {oc9 kV9 dc9 pm9 cd9 ct9 : Value}
    {f10 : Addr} {od10 an10 : Option Addr} {sl10 : Array (Option Value)} {oc10 kV10 dc10 pm10 cd10 ct10 : Value}
    {f11 : Addr} {od11 an11 : Option Addr} {sl11 : Array (Option Value)} {oc11 kV11 dc11 pm11 cd11 ct11 : Value}
    {f12 : Addr} {od12 an12 : Option Addr} {sl12 : Array (Option Value)} {oc12 kV12 dc12 pm12 cd12 ct12 : Value}
    {f13 : Addr} {od13 an13 : Option Addr} {sl13 : Array (Option Value)} {oc13 kV13 dc13 pm13 cd13 ct13 : Value}
    {f14 : Addr} {od14 an14 : Option Addr} {sl14 : Array (Option Value)} {oc14 kV14 dc14 pm14 cd14 ct14 : Value}
    {f15 : Addr} {od15 an15 : Option Addr} {sl15 : Array (Option Value)} {oc15 kV15 dc15 pm15 cd15 ct15 : Value}
    {f16 : Addr} {od16 an16 : Option Addr} {sl16 : Array (Option Value)} {oc16 kV16 dc16 pm16 cd16 ct16 : Value}
    {f17 : Addr} {od17 an17 : Option Addr} {sl17 : Array (Option Value)} {oc17 kV17 dc17 pm17 cd17 ct17 : Value}
    {f18 : Addr} {od18 an18 : Option Addr} {sl18 : Array (Option Value)} {oc18 kV18 dc18 pm18 cd18 ct18 : Value}
    {f19 : Addr} {od19 an19 : Option Addr} {sl19 : Array (Option Value)} {oc19 kV19 dc19 pm19 cd19 ct19 : Value}
    {f20 : Addr} {od20 an20 : Option Addr} {sl20 : Array (Option Value)} {oc20 kV20 dc20 pm20 cd20 ct20 : Value}
    {f21 : Addr} {od21 an21 : Option Addr} {sl21 : Array (Option Value)} {oc21 kV21 dc21 pm21 cd21 ct21 : Value}
    {f22 : Addr} {od22 an22 : Option Addr} {sl22 : Array (Option Value)} {oc22 kV22 dc22 pm22 cd22 ct22 : Value}
    {f23 : Addr} {od23 an23 : Option Addr} {sl23 : Array (Option Value)} {oc23 kV23 dc23 pm23 cd23 ct23 : Value}
    {f24 : Addr} {od24 an24 : Option Addr} {sl24 : Array (Option Value)} {oc24 kV24 dc24 pm24 cd24 ct24 : Value}
    {f25 : Addr} {od25 an25 : Option Addr} {sl25 : Array (Option Value)} {oc25 kV25 dc25 pm25 cd25 ct25 : Value}
    {f26 : Addr} {od26 an26 : Option Addr} {sl26 : Array (Option Value)} {oc26 kV26 dc26 pm26 cd26 ct26 : Value}
    {f27 : Addr} {od27 an27 : Option Addr} {sl27 : Array (Option Value)} {oc27 kV27 dc27 pm27 cd27 ct27 : Value}
    {f28 : Addr} {od28 an28 : Option Addr} {sl28 : Array (Option Value)} {oc28 kV28 dc28 pm28 cd28 ct28 : Value}
    {f29 : Addr} {od29 an29 : Option Addr} {sl29 : Array (Option Value)} {oc29 kV29 dc29 pm29 cd29 ct29 : Value}
    {f30 : Addr} {od30 an30 : Option Addr} {sl30 : Array (Option Value)} {oc30 kV30 dc30 pm30 cd30 ct30 : Value}
    {f31 : Addr} {od31 an31 : Option Addr} {sl31 : Array (Option Value)} {oc31 kV31 dc31 pm31 cd31 ct31 : Value}
    {f32 : Addr} {od32 an32 : Option Addr} {sl32 : Array (Option Value)} {oc32 kV32 dc32 pm32 cd32 ct32 : Value}
    {f33 : Addr} {od33 an33 : Option Addr} {sl33 : Array (Option Value)} {oc33 kV33 dc33 pm33 cd33 ct33 : Value}
    {f34 : Addr} {od34 an34 : Option Addr} {sl34 : Array (Option Value)} {oc34 kV34 dc34 pm34 cd34 ct34 : Value}
    {f35 : Addr} {od35 an35 : Option Addr} {sl35 : Array (Option Value)} {oc35 kV35 dc35 pm35 cd35 ct35 : Value}
    {f36 : Addr} {od36 an36 : Option Addr} {sl36 : Array (Option Value)} {oc36 kV36 dc36 pm36 cd36 ct36 : Value}
    {f37 : Addr} {od37 an37 : Option Addr} {sl37 : Array (Option Value)} {oc37 kV37 dc37 pm37 cd37 ct37 : Value}
    {f38 : Addr} {od38 an38 : Option Addr} {sl38 : Array (Option Value)} {oc38 kV38 dc38 pm38 cd38 ct38 : Value}
    {f39 : Addr} {od39 an39 : Option Addr} {sl39 : Array (Option Value)} {oc39 kV39 dc39 pm39 cd39 ct39 : Value}
    {f40 : Addr} {od40 an40 : Option Addr} {sl40 : Array (Option Value)} {oc40 kV40 dc40 pm40 cd40 ct40 : Value}
    {f41 : Addr} {od41 an41 : Option Addr} {sl41 : Array (Option Value)} {oc41 kV41 dc41 pm41 cd41 ct41 : Value}
    {f42 : Addr} {od42 an42 : Option Addr} {sl42 : Array (Option Value)} {oc42 kV42 dc42 pm42 cd42 ct42 : Value}
    {f43 : Addr} {od43 an43 : Option Addr} {sl43 : Array (Option Value)} {oc43 kV43 dc43 pm43 cd43 ct43 : Value}
    {f44 : Addr} {od44 an44 : Option Addr} {sl44 : Array (Option Value)} {oc44 kV44 dc44 pm44 cd44 ct44 : Value}
    {f45 : Addr} {od45 an45 : Option Addr} {sl45 : Array (Option Value)} {oc45 kV45 dc45 pm45 cd45 ct45 : Value}
    {f46 : Addr} {od46 an46 : Option Addr} {sl46 : Array (Option Value)} {oc46 kV46 dc46 pm46 cd46 ct46 : Value}
    {f47 : Addr} {od47 an47 : Option Addr} {sl47 : Array (Option Value)} {oc47 kV47 dc47 pm47 cd47 ct47 : Value}
    {f48 : Addr} {od48 an48 : Option Addr} {sl48 : Array (Option Value)} {oc48 kV48 dc48 pm48 cd48 ct48 : Value}
    {f49 : Addr} {od49 an49 : Option Addr} {sl49 : Array (Option Value)} {oc49 kV49 dc49 pm49 cd49 ct49 : Value}
    {f50 : Addr} {od50 an50 : Option Addr} {sl50 : Array (Option Value)} {oc50 kV50 dc50 pm50 cd50 ct50 : Value}
    {f51 : Addr} {od51 an51 : Option Addr} {sl51 : Array (Option Value)} {oc51 kV51 dc51 pm51 cd51 ct51 : Value}
    (a1 : PySem.W.nsIn K mainGlobals "_law_draw" = some (some (.ref f1))) (l1 : K.lookup f1 = some ⟨oc1, od1, .func (PySem.W.fnOf "_law_draw" "_law_draw" (C8.fnArgs (topS 52)) (C8.fnBody (topS 52)) (C8.fnScope (topS 52)) .none kV1 dc1 pm1 an1 cd1 ct1), sl1⟩) (c1 : PySem.W.codeIn K cd1 "_law_draw" = true) (k1 : PySem.W.keepIn K (.ref f1) = true)
    (a2 : PySem.W.nsIn K mainGlobals "_law_mixed" = some (some (.ref f2))) (l2 : K.lookup f2 = some ⟨oc2, od2, .func (PySem.W.fnOf "_law_mixed" "_law_mixed" (C8.fnArgs (topS 54)) (C8.fnBody (topS 54)) (C8.fnScope (topS 54)) .none kV2 dc2 pm2 an2 cd2 ct2), sl2⟩) (c2 : PySem.W.codeIn K cd2 "_law_mixed" = true) (k2 : PySem.W.keepIn K (.ref f2) = true)
    (a3 : PySem.W.nsIn K mainGlobals "_law_ev_names" = some (some (.ref f3))) (l3 : K.lookup f3 = some ⟨oc3, od3, .func (PySem.W.fnOf "_law_ev_names" "_law_ev_names" (C8.fnArgs (topS 44)) (C8.fnBody (topS 44)) (C8.fnScope (topS 44)) .none kV3 dc3 pm3 an3 cd3 ct3), sl3⟩) (c3 : PySem.W.codeIn K cd3 "_law_ev_names" = true) (k3 : PySem.W.keepIn K (.ref f3) = true)
    (a4 : PySem.W.nsIn K mainGlobals "_law_pick" = some (some (.ref f4))) (l4 : K.lookup f4 = some ⟨oc4, od4, .func (PySem.W.fnOf "_law_pick" "_law_pick" (C8.fnArgs (topS 53)) (C8.fnBody (topS 53)) (C8.fnScope (topS 53)) .none kV4 dc4 pm4 an4 cd4 ct4), sl4⟩) (c4 : PySem.W.codeIn K cd4 "_law_pick" = true) (k4 : PySem.W.keepIn K (.ref f4) = true)
    (a5 : PySem.W.nsIn K mainGlobals "_law_kn_ranges" = some (some (.ref f5))) (l5 : K.lookup f5 = some ⟨oc5, od5, .func (PySem.W.fnOf "_law_kn_ranges" "_law_kn_ranges" (C8.fnArgs (topS 45)) (C8.fnBody (topS 45)) (C8.fnScope (topS 45)) .none kV5 dc5 pm5 an5 cd5 ct5), sl5⟩) (c5 : PySem.W.codeIn K cd5 "_law_kn_ranges" = true) (k5 : PySem.W.keepIn K (.ref f5) = true)
    (a6 : PySem.W.nsIn K mainGlobals "_law_kn_life" = some (some (.ref f6))) (l6 : K.lookup f6 = some ⟨oc6, od6, .func (PySem.W.fnOf "_law_kn_life" "_law_kn_life" (C8.fnArgs (topS 46)) (C8.fnBody (topS 46)) (C8.fnScope (topS 46)) .none kV6 dc6 pm6 an6 cd6 ct6), sl6⟩) (c6 : PySem.W.codeIn K cd6 "_law_kn_life" = true) (k6 : PySem.W.keepIn K (.ref f6) = true)
    (a7 : PySem.W.nsIn K mainGlobals "_law_kn_told" = some (some (.ref f7))) (l7 : K.lookup f7 = some ⟨oc7, od7, .func (PySem.W.fnOf "_law_kn_told" "_law_kn_told" (C8.fnArgs (topS 47)) (C8.fnBody (topS 47)) (C8.fnScope (topS 47)) .none kV7 dc7 pm7 an7 cd7 ct7), sl7⟩) (c7 : PySem.W.codeIn K cd7 "_law_kn_told" = true) (k7 : PySem.W.keepIn K (.ref f7) = true)
    (a8 : PySem.W.nsIn K mainGlobals "_law_copied" = some (some (.ref f8))) (l8 : K.lookup f8 = some ⟨oc8, od8, .func (PySem.W.fnOf "_law_copied" "_law_copied" (C8.fnArgs (topS 55)) (C8.fnBody (topS 55)) (C8.fnScope (topS 55)) .none kV8 dc8 pm8 an8 cd8 ct8), sl8⟩) (c8 : PySem.W.codeIn K cd8 "_law_copied" = true) (k8 : PySem.W.keepIn K (.ref f8) = true)
    (a9 : PySem.W.nsIn K mainGlobals "_law_a_is_integer" = some (some (.ref f9))) (l9 : K.lookup f9 = some ⟨oc9, od9, .func (PySem.W.fnOf "_law_a_is_integer" "_law_a_is_integer" (C8.fnArgs (topS 43)) (C8.fnBody (topS 43)) (C8.fnScope (topS 43)) .none kV9 dc9 pm9 an9 cd9 ct9), sl9⟩) (c9 : PySem.W.codeIn K cd9 "_law_a_is_integer" = true) (k9 : PySem.W.keepIn K (.ref f9) = true)
    (a10 : PySem.W.nsIn K mainGlobals "_law_kn_is_life" = some (some (.ref f10))) (l10 : K.lookup f10 = some ⟨oc10, od10, .func (PySem.W.fnOf "_law_kn_is_life" "_law_kn_is_life" (C8.fnArgs (topS 49)) (C8.fnBody (topS 49)) (C8.fnScope (topS 49)) .none kV10 dc10 pm10 an10 cd10 ct10), sl10⟩) (c10 : PySem.W.codeIn K cd10 "_law_kn_is_life" = true) (k10 : PySem.W.keepIn K (.ref f10) = true)
    (a11 : PySem.W.nsIn K mainGlobals "_law_kn_are_lives" = some (some (.ref f11))) (l11 : K.lookup f11 = some ⟨oc11, od11, .func (PySem.W.fnOf "_law_kn_are_lives" "_law_kn_are_lives" (C8.fnArgs (topS 50)) (C8.fnBody (topS 50)) (C8.fnScope (topS 50)) .none kV11 dc11 pm11 an11 cd11 ct11), sl11⟩) (c11 : PySem.W.codeIn K cd11 "_law_kn_are_lives" = true) (k11 : PySem.W.keepIn K (.ref f11) = true)
    (a12 : PySem.W.nsIn K mainGlobals "_law_kn_last" = some (some (.ref f12))) (l12 : K.lookup f12 = some ⟨oc12, od12, .func (PySem.W.fnOf "_law_kn_last" "_law_kn_last" (C8.fnArgs (topS 48)) (C8.fnBody (topS 48)) (C8.fnScope (topS 48)) .none kV12 dc12 pm12 an12 cd12 ct12), sl12⟩) (c12 : PySem.W.codeIn K cd12 "_law_kn_last" = true) (k12 : PySem.W.keepIn K (.ref f12) = true)
    (a13 : PySem.W.nsIn K mainGlobals "_law_lv_ends" = some (some (.ref f13))) (l13 : K.lookup f13 = some ⟨oc13, od13, .func (PySem.W.fnOf "_law_lv_ends" "_law_lv_ends" (C8.fnArgs (topS 57)) (C8.fnBody (topS 57)) (C8.fnScope (topS 57)) .none kV13 dc13 pm13 an13 cd13 ct13), sl13⟩) (c13 : PySem.W.codeIn K cd13 "_law_lv_ends" = true) (k13 : PySem.W.keepIn K (.ref f13) = true)
    (a14 : PySem.W.nsIn K mainGlobals "_law_lv_all" = some (some (.ref f14))) (l14 : K.lookup f14 = some ⟨oc14, od14, .func (PySem.W.fnOf "_law_lv_all" "_law_lv_all" (C8.fnArgs (topS 58)) (C8.fnBody (topS 58)) (C8.fnScope (topS 58)) .none kV14 dc14 pm14 an14 cd14 ct14), sl14⟩) (c14 : PySem.W.codeIn K cd14 "_law_lv_all" = true) (k14 : PySem.W.keepIn K (.ref f14) = true)
    (a15 : PySem.W.nsIn K mainGlobals "_law_lv_both" = some (some (.ref f15))) (l15 : K.lookup f15 = some ⟨oc15, od15, .func (PySem.W.fnOf "_law_lv_both" "_law_lv_both" (C8.fnArgs (topS 59)) (C8.fnBody (topS 59)) (C8.fnScope (topS 59)) .none kV15 dc15 pm15 an15 cd15 ct15), sl15⟩) (c15 : PySem.W.codeIn K cd15 "_law_lv_both" = true) (k15 : PySem.W.keepIn K (.ref f15) = true)
    (a16 : PySem.W.nsIn K mainGlobals "_law_same" = some (some (.ref f16))) (l16 : K.lookup f16 = some ⟨oc16, od16, .func (PySem.W.fnOf "_law_same" "_law_same" (C8.fnArgs (topS 56)) (C8.fnBody (topS 56)) (C8.fnScope (topS 56)) .none kV16 dc16 pm16 an16 cd16 ct16), sl16⟩) (c16 : PySem.W.codeIn K cd16 "_law_same" = true) (k16 : PySem.W.keepIn K (.ref f16) = true)
    (a17 : PySem.W.nsIn K mainGlobals "is_integer" = some (some (.ref f17))) (l17 : K.lookup f17 = some ⟨oc17, od17, .func (PySem.W.fnOf "is_integer" "is_integer" (C8.fnArgs (topS 10)) (C8.fnBody (topS 10)) (C8.fnScope (topS 10)) .none kV17 dc17 pm17 an17 cd17 ct17), sl17⟩) (c17 : PySem.W.codeIn K cd17 "is_integer" = true) (k17 : PySem.W.keepIn K (.ref f17) = true)
    (a18 : PySem.W.nsIn K mainGlobals "is_list" = some (some (.ref f18))) (l18 : K.lookup f18 = some ⟨oc18, od18, .func (PySem.W.fnOf "is_list" "is_list" (C8.fnArgs (topS 9)) (C8.fnBody (topS 9)) (C8.fnScope (topS 9)) .none kV18 dc18 pm18 an18 cd18 ct18), sl18⟩) (c18 : PySem.W.codeIn K cd18 "is_list" = true) (k18 : PySem.W.keepIn K (.ref f18) = true)
    (a19 : PySem.W.nsIn K mainGlobals "is_life" = some (some (.ref f19))) (l19 : K.lookup f19 = some ⟨oc19, od19, .func (PySem.W.fnOf "is_life" "is_life" (C8.fnArgs (topS 28)) (C8.fnBody (topS 28)) (C8.fnScope (topS 28)) .none kV19 dc19 pm19 an19 cd19 ct19), sl19⟩) (c19 : PySem.W.codeIn K cd19 "is_life" = true) (k19 : PySem.W.keepIn K (.ref f19) = true)
    (a20 : PySem.W.nsIn K mainGlobals "are_lives" = some (some (.ref f20))) (l20 : K.lookup f20 = some ⟨oc20, od20, .func (PySem.W.fnOf "are_lives" "are_lives" (C8.fnArgs (topS 29)) (C8.fnBody (topS 29)) (C8.fnScope (topS 29)) .none kV20 dc20 pm20 an20 cd20 ct20), sl20⟩) (c20 : PySem.W.codeIn K cd20 "are_lives" = true) (k20 : PySem.W.keepIn K (.ref f20) = true)
    (a21 : PySem.W.nsIn K mainGlobals "do_differ" = some (some (.ref f21))) (l21 : K.lookup f21 = some ⟨oc21, od21, .func (PySem.W.fnOf "do_differ" "do_differ" (C8.fnArgs (topS 22)) (C8.fnBody (topS 22)) (C8.fnScope (topS 22)) .none kV21 dc21 pm21 an21 cd21 ct21), sl21⟩) (c21 : PySem.W.codeIn K cd21 "do_differ" = true) (k21 : PySem.W.keepIn K (.ref f21) = true)
    (a22 : PySem.W.nsIn K mainGlobals "is_number" = some (some (.ref f22))) (l22 : K.lookup f22 = some ⟨oc22, od22, .func (PySem.W.fnOf "is_number" "is_number" (C8.fnArgs (topS 11)) (C8.fnBody (topS 11)) (C8.fnScope (topS 11)) .none kV22 dc22 pm22 an22 cd22 ct22), sl22⟩) (c22 : PySem.W.codeIn K cd22 "is_number" = true) (k22 : PySem.W.keepIn K (.ref f22) = true)
    (a23 : PySem.W.nsIn K mainGlobals "is_climbing" = some (some (.ref f23))) (l23 : K.lookup f23 = some ⟨oc23, od23, .func (PySem.W.fnOf "is_climbing" "is_climbing" (C8.fnArgs (topS 15)) (C8.fnBody (topS 15)) (C8.fnScope (topS 15)) .none kV23 dc23 pm23 an23 cd23 ct23), sl23⟩) (c23 : PySem.W.codeIn K cd23 "is_climbing" = true) (k23 : PySem.W.keepIn K (.ref f23) = true)
    (a24 : PySem.W.nsIn K mainGlobals "is_out_of_range" = some (some (.ref f24))) (l24 : K.lookup f24 = some ⟨oc24, od24, .func (PySem.W.fnOf "is_out_of_range" "is_out_of_range" (C8.fnArgs (topS 21)) (C8.fnBody (topS 21)) (C8.fnScope (topS 21)) .none kV24 dc24 pm24 an24 cd24 ct24), sl24⟩) (c24 : PySem.W.codeIn K cd24 "is_out_of_range" = true) (k24 : PySem.W.keepIn K (.ref f24) = true)
    (a25 : PySem.W.nsIn K mainGlobals "is_word_row" = some (some (.ref f25))) (l25 : K.lookup f25 = some ⟨oc25, od25, .func (PySem.W.fnOf "is_word_row" "is_word_row" (C8.fnArgs (topS 16)) (C8.fnBody (topS 16)) (C8.fnScope (topS 16)) .none kV25 dc25 pm25 an25 cd25 ct25), sl25⟩) (c25 : PySem.W.codeIn K cd25 "is_word_row" = true) (k25 : PySem.W.keepIn K (.ref f25) = true)
    (a26 : PySem.W.nsIn K mainGlobals "is_name" = some (some (.ref f26))) (l26 : K.lookup f26 = some ⟨oc26, od26, .func (PySem.W.fnOf "is_name" "is_name" (C8.fnArgs (topS 12)) (C8.fnBody (topS 12)) (C8.fnScope (topS 12)) .none kV26 dc26 pm26 an26 cd26 ct26), sl26⟩) (c26 : PySem.W.codeIn K cd26 "is_name" = true) (k26 : PySem.W.keepIn K (.ref f26) = true)
    (a27 : PySem.W.nsIn K mainGlobals "is_range_row" = some (some (.ref f27))) (l27 : K.lookup f27 = some ⟨oc27, od27, .func (PySem.W.fnOf "is_range_row" "is_range_row" (C8.fnArgs (topS 18)) (C8.fnBody (topS 18)) (C8.fnScope (topS 18)) .none kV27 dc27 pm27 an27 cd27 ct27), sl27⟩) (c27 : PySem.W.codeIn K cd27 "is_range_row" = true) (k27 : PySem.W.keepIn K (.ref f27) = true)
    (a28 : PySem.W.nsIn K mainGlobals "known_ranges" = some (some (.ref f28))) (l28 : K.lookup f28 = some ⟨oc28, od28, .func (PySem.W.fnOf "known_ranges" "known_ranges" (C8.fnArgs (topS 19)) (C8.fnBody (topS 19)) (C8.fnScope (topS 19)) .none kV28 dc28 pm28 an28 cd28 ct28), sl28⟩) (c28 : PySem.W.codeIn K cd28 "known_ranges" = true) (k28 : PySem.W.keepIn K (.ref f28) = true)
    (a29 : PySem.W.nsIn K mainGlobals "is_one_of" = some (some (.ref f29))) (l29 : K.lookup f29 = some ⟨oc29, od29, .func (PySem.W.fnOf "is_one_of" "is_one_of" (C8.fnArgs (topS 13)) (C8.fnBody (topS 13)) (C8.fnScope (topS 13)) .none kV29 dc29 pm29 an29 cd29 ct29), sl29⟩) (c29 : PySem.W.codeIn K cd29 "is_one_of" = true) (k29 : PySem.W.keepIn K (.ref f29) = true)
    (a30 : PySem.W.nsIn K mainGlobals "known_tellings" = some (some (.ref f30))) (l30 : K.lookup f30 = some ⟨oc30, od30, .func (PySem.W.fnOf "known_tellings" "known_tellings" (C8.fnArgs (topS 20)) (C8.fnBody (topS 20)) (C8.fnScope (topS 20)) .none kV30 dc30 pm30 an30 cd30 ct30), sl30⟩) (c30 : PySem.W.codeIn K cd30 "known_tellings" = true) (k30 : PySem.W.keepIn K (.ref f30) = true)
    (a31 : PySem.W.nsIn K mainGlobals "last_told" = some (some (.ref f31))) (l31 : K.lookup f31 = some ⟨oc31, od31, .func (PySem.W.fnOf "last_told" "last_told" (C8.fnArgs (topS 25)) (C8.fnBody (topS 25)) (C8.fnScope (topS 25)) .none kV31 dc31 pm31 an31 cd31 ct31), sl31⟩) (c31 : PySem.W.codeIn K cd31 "last_told" = true) (k31 : PySem.W.keepIn K (.ref f31) = true)
    (a32 : PySem.W.nsIn K mainGlobals "is_lives_or_clash" = some (some (.ref f32))) (l32 : K.lookup f32 = some ⟨oc32, od32, .func (PySem.W.fnOf "is_lives_or_clash" "is_lives_or_clash" (C8.fnArgs (topS 30)) (C8.fnBody (topS 30)) (C8.fnScope (topS 30)) .none kV32 dc32 pm32 an32 cd32 ct32), sl32⟩) (c32 : PySem.W.codeIn K cd32 "is_lives_or_clash" = true) (k32 : PySem.W.keepIn K (.ref f32) = true)
    (a33 : PySem.W.nsIn K mainGlobals "clash_of" = some (some (.ref f33))) (l33 : K.lookup f33 = some ⟨oc33, od33, .func (PySem.W.fnOf "clash_of" "clash_of" (C8.fnArgs (topS 23)) (C8.fnBody (topS 23)) (C8.fnScope (topS 23)) .none kV33 dc33 pm33 an33 cd33 ct33), sl33⟩) (c33 : PySem.W.codeIn K cd33 "clash_of" = true) (k33 : PySem.W.keepIn K (.ref f33) = true)
    (a34 : PySem.W.nsIn K mainGlobals "ends_at" = some (some (.ref f34))) (l34 : K.lookup f34 = some ⟨oc34, od34, .func (PySem.W.fnOf "ends_at" "ends_at" (C8.fnArgs (topS 24)) (C8.fnBody (topS 24)) (C8.fnScope (topS 24)) .none kV34 dc34 pm34 an34 cd34 ct34), sl34⟩) (c34 : PySem.W.codeIn K cd34 "ends_at" = true) (k34 : PySem.W.keepIn K (.ref f34) = true)
    (a35 : PySem.W.nsIn K mainGlobals "highest_lives" = some (some (.ref f35))) (l35 : K.lookup f35 = some ⟨oc35, od35, .func (PySem.W.fnOf "highest_lives" "highest_lives" (C8.fnArgs (topS 26)) (C8.fnBody (topS 26)) (C8.fnScope (topS 26)) .none kV35 dc35 pm35 an35 cd35 ct35), sl35⟩) (c35 : PySem.W.codeIn K cd35 "highest_lives" = true) (k35 : PySem.W.keepIn K (.ref f35) = true)
    (a36 : PySem.W.nsIn K mainGlobals "lives_or_clash" = some (some (.ref f36))) (l36 : K.lookup f36 = some ⟨oc36, od36, .func (PySem.W.fnOf "lives_or_clash" "lives_or_clash" (C8.fnArgs (topS 27)) (C8.fnBody (topS 27)) (C8.fnScope (topS 27)) .none kV36 dc36 pm36 an36 cd36 ct36), sl36⟩) (c36 : PySem.W.codeIn K cd36 "lives_or_clash" = true) (k36 : PySem.W.keepIn K (.ref f36) = true)
    (a37 : PySem.W.nsIn K mainGlobals "_law_lv_lives_right" = some (some (.ref f37))) (l37 : K.lookup f37 = some ⟨oc37, od37, .func (PySem.W.fnOf "_law_lv_lives_right" "_law_lv_lives_right" (C8.fnArgs (topS 60)) (C8.fnBody (topS 60)) (C8.fnScope (topS 60)) .none kV37 dc37 pm37 an37 cd37 ct37), sl37⟩) (c37 : PySem.W.codeIn K cd37 "_law_lv_lives_right" = true) (k37 : PySem.W.keepIn K (.ref f37) = true)
    (a38 : PySem.W.nsIn K mainGlobals "look_told" = some (some (.ref f38))) (l38 : K.lookup f38 = some ⟨oc38, od38, .func (PySem.W.fnOf "look_told" "look_told" (C8.fnArgs (topS 31)) (C8.fnBody (topS 31)) (C8.fnScope (topS 31)) .none kV38 dc38 pm38 an38 cd38 ct38), sl38⟩) (c38 : PySem.W.codeIn K cd38 "look_told" = true) (k38 : PySem.W.keepIn K (.ref f38) = true)
    (a39 : PySem.W.nsIn K mainGlobals "can_have" = some (some (.ref f39))) (l39 : K.lookup f39 = some ⟨oc39, od39, .func (PySem.W.fnOf "can_have" "can_have" (C8.fnArgs (topS 32)) (C8.fnBody (topS 32)) (C8.fnScope (topS 32)) .none kV39 dc39 pm39 an39 cd39 ct39), sl39⟩) (c39 : PySem.W.codeIn K cd39 "can_have" = true) (k39 : PySem.W.keepIn K (.ref f39) = true)
    (a40 : PySem.W.nsIn K mainGlobals "told_at" = some (some (.ref f40))) (l40 : K.lookup f40 = some ⟨oc40, od40, .func (PySem.W.fnOf "told_at" "told_at" (C8.fnArgs (topS 33)) (C8.fnBody (topS 33)) (C8.fnScope (topS 33)) .none kV40 dc40 pm40 an40 cd40 ct40), sl40⟩) (c40 : PySem.W.codeIn K cd40 "told_at" = true) (k40 : PySem.W.keepIn K (.ref f40) = true)
    (a41 : PySem.W.nsIn K mainGlobals "widths_by" = some (some (.ref f41))) (l41 : K.lookup f41 = some ⟨oc41, od41, .func (PySem.W.fnOf "widths_by" "widths_by" (C8.fnArgs (topS 40)) (C8.fnBody (topS 40)) (C8.fnScope (topS 40)) .none kV41 dc41 pm41 an41 cd41 ct41), sl41⟩) (c41 : PySem.W.codeIn K cd41 "widths_by" = true) (k41 : PySem.W.keepIn K (.ref f41) = true)
    (a42 : PySem.W.nsIn K mainGlobals "open_widths" = some (some (.ref f42))) (l42 : K.lookup f42 = some ⟨oc42, od42, .func (PySem.W.fnOf "open_widths" "open_widths" (C8.fnArgs (topS 41)) (C8.fnBody (topS 41)) (C8.fnScope (topS 41)) .none kV42 dc42 pm42 an42 cd42 ct42), sl42⟩) (c42 : PySem.W.codeIn K cd42 "open_widths" = true) (k42 : PySem.W.keepIn K (.ref f42) = true)
    (a43 : PySem.W.nsIn K mainGlobals "least_at" = some (some (.ref f43))) (l43 : K.lookup f43 = some ⟨oc43, od43, .func (PySem.W.fnOf "least_at" "least_at" (C8.fnArgs (topS 37)) (C8.fnBody (topS 37)) (C8.fnScope (topS 37)) .none kV43 dc43 pm43 an43 cd43 ct43), sl43⟩) (c43 : PySem.W.codeIn K cd43 "least_at" = true) (k43 : PySem.W.keepIn K (.ref f43) = true)
    (a44 : PySem.W.nsIn K mainGlobals "whole_ends" = some (some (.ref f44))) (l44 : K.lookup f44 = some ⟨oc44, od44, .func (PySem.W.fnOf "whole_ends" "whole_ends" (C8.fnArgs (topS 34)) (C8.fnBody (topS 34)) (C8.fnScope (topS 34)) .none kV44 dc44 pm44 an44 cd44 ct44), sl44⟩) (c44 : PySem.W.codeIn K cd44 "whole_ends" = true) (k44 : PySem.W.keepIn K (.ref f44) = true)
    (a45 : PySem.W.nsIn K mainGlobals "lives_by" = some (some (.ref f45))) (l45 : K.lookup f45 = some ⟨oc45, od45, .func (PySem.W.fnOf "lives_by" "lives_by" (C8.fnArgs (topS 36)) (C8.fnBody (topS 36)) (C8.fnScope (topS 36)) .none kV45 dc45 pm45 an45 cd45 ct45), sl45⟩) (c45 : PySem.W.codeIn K cd45 "lives_by" = true) (k45 : PySem.W.keepIn K (.ref f45) = true)
    (a46 : PySem.W.nsIn K mainGlobals "sure_word" = some (some (.ref f46))) (l46 : K.lookup f46 = some ⟨oc46, od46, .func (PySem.W.fnOf "sure_word" "sure_word" (C8.fnArgs (topS 38)) (C8.fnBody (topS 38)) (C8.fnScope (topS 38)) .none kV46 dc46 pm46 an46 cd46 ct46), sl46⟩) (c46 : PySem.W.codeIn K cd46 "sure_word" = true) (k46 : PySem.W.keepIn K (.ref f46) = true)
    (a47 : PySem.W.nsIn K mainGlobals "sure_or_two" = some (some (.ref f47))) (l47 : K.lookup f47 = some ⟨oc47, od47, .func (PySem.W.fnOf "sure_or_two" "sure_or_two" (C8.fnArgs (topS 39)) (C8.fnBody (topS 39)) (C8.fnScope (topS 39)) .none kV47 dc47 pm47 an47 cd47 ct47), sl47⟩) (c47 : PySem.W.codeIn K cd47 "sure_or_two" = true) (k47 : PySem.W.keepIn K (.ref f47) = true)
    (a48 : PySem.W.nsIn K mainGlobals "whole_between" = some (some (.ref f48))) (l48 : K.lookup f48 = some ⟨oc48, od48, .func (PySem.W.fnOf "whole_between" "whole_between" (C8.fnArgs (topS 35)) (C8.fnBody (topS 35)) (C8.fnScope (topS 35)) .none kV48 dc48 pm48 an48 cd48 ct48), sl48⟩) (c48 : PySem.W.codeIn K cd48 "whole_between" = true) (k48 : PySem.W.keepIn K (.ref f48) = true)
    (a49 : PySem.W.nsIn K mainGlobals "_law_lv_put_right" = some (some (.ref f49))) (l49 : K.lookup f49 = some ⟨oc49, od49, .func (PySem.W.fnOf "_law_lv_put_right" "_law_lv_put_right" (C8.fnArgs (topS 61)) (C8.fnBody (topS 61)) (C8.fnScope (topS 61)) .none kV49 dc49 pm49 an49 cd49 ct49), sl49⟩) (c49 : PySem.W.codeIn K cd49 "_law_lv_put_right" = true) (k49 : PySem.W.keepIn K (.ref f49) = true)
    (a50 : PySem.W.nsIn K mainGlobals "_law_start" = some (some (.ref f50))) (l50 : K.lookup f50 = some ⟨oc50, od50, .func (PySem.W.fnOf "_law_start" "_law_start" (C8.fnArgs (topS 51)) (C8.fnBody (topS 51)) (C8.fnScope (topS 51)) .none kV50 dc50 pm50 an50 cd50 ct50), sl50⟩) (c50 : PySem.W.codeIn K cd50 "_law_start" = true) (k50 : PySem.W.keepIn K (.ref f50) = true)
    (a51 : PySem.W.nsIn K mainGlobals "law" = some (some (.ref f51))) (l51 : K.lookup f51 = some ⟨oc51, od51, .func (PySem.W.fnOf "law" "law" (C8.fnArgs (topS 62)) (C8.fnBody (topS 62)) (C8.fnScope (topS 62)) .none kV51 dc51 pm51 an51 cd51 ct51), sl51⟩) (c51 : PySem.W.codeIn K cd51 "law" = true) (k51 : PySem.W.keepIn K (.ref f51) = true)
    (z1 : PySem.W.nsIn K mainGlobals "abs" = some none)
    (z2 : PySem.W.nsIn K mainGlobals "all" = some none)
    (z3 : PySem.W.nsIn K mainGlobals "bool" = some none)
    (z4 : PySem.W.nsIn K mainGlobals "dict" = some none)
    (z5 : PySem.W.nsIn K mainGlobals "enumerate" = some none)
    (z6 : PySem.W.nsIn K mainGlobals "int" = some none)
    (z7 : PySem.W.nsIn K mainGlobals "isinstance" = some none)
    (z8 : PySem.W.nsIn K mainGlobals "len" = some none)
    (z9 : PySem.W.nsIn K mainGlobals "list" = some none)
    (z10 : PySem.W.nsIn K mainGlobals "max" = some none)
    (z11 : PySem.W.nsIn K mainGlobals "min" = some none)
    (z12 : PySem.W.nsIn K mainGlobals "range" = some none)
    (z13 : PySem.W.nsIn K mainGlobals "sorted" = some none)
    (z14 : PySem.W.nsIn K mainGlobals "str" = some none)
    (z15 : PySem.W.nsIn K mainGlobals "sum" = some none)
    (z16 : PySem.W.nsIn K mainGlobals "tuple" = some none)
    (z17 : PySem.W.nsIn K mainGlobals "zip" = some none) : Ctx K mg :=
  ⟨def_mk X G a1 l1 c1 k1 (fun _ _ _ _ _ _ us hl => match us, hl with | [_, _], _ => rfl),
   def_mk X G a2 l2 c2 k2 (fun _ _ _ _ _ _ us hl => match us, hl with | [_, _], _ => rfl),
   def_mk X G a3 l3 c3 k3 (fun _ _ _ _ _ _ us hl => match us, hl with | [_, _], _ => rfl),
   def_mk X G a4 l4 c4 k4 (fun _ _ _ _ _ _ us hl => match us, hl with | [_, _], _ => rfl),
   def_mk X G a5 l5 c5 k5 (fun _ _ _ _ _ _ us hl => match us, hl with | [_, _], _ => rfl),
   def_mk X G a6 l6 c6 k6 (fun _ _ _ _ _ _ us hl => match us, hl with | [_, _, _], _ => rfl),
   def_mk X G a7 l7 c7 k7 (fun _ _ _ _ _ _ us hl => match us, hl with | [_, _, _], _ => rfl),
   def_mk X G a8 l8 c8 k8 (fun _ _ _ _ _ _ us hl => match us, hl with | [_], _ => rfl),
   def_mk X G a9 l9 c9 k9 (fun _ _ _ _ _ _ us hl => match us, hl with | [_], _ => rfl),
   def_mk X G a10 l10 c10 k10 (fun _ _ _ _ _ _ us hl => match us, hl with | [_, _, _], _ => rfl),
   def_mk X G a11 l11 c11 k11 (fun _ _ _ _ _ _ us hl => match us, hl with | [_, _, _, _], _ => rfl),
   def_mk X G a12 l12 c12 k12 (fun _ _ _ _ _ _ us hl => match us, hl with | [_], _ => rfl),
   def_mk X G a13 l13 c13 k13 (fun _ _ _ _ _ _ us hl => match us, hl with | [_, _, _, _], _ => rfl),
   def_mk X G a14 l14 c14 k14 (fun _ _ _ _ _ _ us hl => match us, hl with | [_, _, _, _], _ => rfl),
   def_mk X G a15 l15 c15 k15 (fun _ _ _ _ _ _ us hl => match us, hl with | [_, _], _ => rfl),
   def_mk X G a16 l16 c16 k16 (fun _ _ _ _ _ _ us hl => match us, hl with | [_, _], _ => rfl),
   def_mk X G a17 l17 c17 k17 (fun _ _ _ _ _ _ us hl => match us, hl with | [_], _ => rfl),
   def_mk X G a18 l18 c18 k18 (fun _ _ _ _ _ _ us hl => match us, hl with | [_], _ => rfl),
   def_mk X G a19 l19 c19 k19 (fun _ _ _ _ _ _ us hl => match us, hl with | [_, _, _], _ => rfl),
   def_mk X G a20 l20 c20 k20 (fun _ _ _ _ _ _ us hl => match us, hl with | [_, _, _, _], _ => rfl),
   def_mk X G a21 l21 c21 k21 (fun _ _ _ _ _ _ us hl => match us, hl with | [_, _, _], _ => rfl),
   def_mk X G a22 l22 c22 k22 (fun _ _ _ _ _ _ us hl => match us, hl with | [_], _ => rfl),
   def_mk X G a23 l23 c23 k23 (fun _ _ _ _ _ _ us hl => match us, hl with | [_, _], _ => rfl),
   def_mk X G a24 l24 c24 k24 (fun _ _ _ _ _ _ us hl => match us, hl with | [_, _], _ => rfl),
   def_mk X G a25 l25 c25 k25 (fun _ _ _ _ _ _ us hl => match us, hl with | [_, _, _], _ => rfl),
   def_mk X G a26 l26 c26 k26 (fun _ _ _ _ _ _ us hl => match us, hl with | [_], _ => rfl),
   def_mk X G a27 l27 c27 k27 (fun _ _ _ _ _ _ us hl => match us, hl with | [_], _ => rfl),
   def_mk X G a28 l28 c28 k28 (fun _ _ _ _ _ _ us hl => match us, hl with | [_], _ => rfl),
   def_mk X G a29 l29 c29 k29 (fun _ _ _ _ _ _ us hl => match us, hl with | [_, _], _ => rfl),
   def_mk X G a30 l30 c30 k30 (fun _ _ _ _ _ _ us hl => match us, hl with | [_, _], _ => rfl),
   def_mk X G a31 l31 c31 k31 (fun _ _ _ _ _ _ us hl => match us, hl with | [_], _ => rfl),
   def_mk X G a32 l32 c32 k32 (fun _ _ _ _ _ _ us hl => match us, hl with | [_, _, _], _ => rfl),
   def_mk X G a33 l33 c33 k33 (fun _ _ _ _ _ _ us hl => match us, hl with | [_, _], _ => rfl),
   def_mk X G a34 l34 c34 k34 (fun _ _ _ _ _ _ us hl => match us, hl with | [_, _, _, _], _ => rfl),
   def_mk X G a35 l35 c35 k35 (fun _ _ _ _ _ _ us hl => match us, hl with | [_, _, _], _ => rfl),
   def_mk X G a36 l36 c36 k36 (fun _ _ _ _ _ _ us hl => match us, hl with | [_, _], _ => rfl),
   def_mk X G a37 l37 c37 k37 (fun _ _ _ _ _ _ us hl => match us, hl with | [_, _, _, _], _ => rfl),
   def_mk X G a38 l38 c38 k38 (fun _ _ _ _ _ _ us hl => match us, hl with | [_, _], _ => rfl),
   def_mk X G a39 l39 c39 k39 (fun _ _ _ _ _ _ us hl => match us, hl with | [_, _, _, _], _ => rfl),
   def_mk X G a40 l40 c40 k40 (fun _ _ _ _ _ _ us hl => match us, hl with | [_, _, _], _ => rfl),
   def_mk X G a41 l41 c41 k41 (fun _ _ _ _ _ _ us hl => match us, hl with | [_, _, _], _ => rfl),
   def_mk X G a42 l42 c42 k42 (fun _ _ _ _ _ _ us hl => match us, hl with | [_, _, _], _ => rfl),
   def_mk X G a43 l43 c43 k43 (fun _ _ _ _ _ _ us hl => match us, hl with | [_, _, _, _], _ => rfl),
   def_mk X G a44 l44 c44 k44 (fun _ _ _ _ _ _ us hl => match us, hl with | [_, _, _], _ => rfl),
   def_mk X G a45 l45 c45 k45 (fun _ _ _ _ _ _ us hl => match us, hl with | [_, _, _, _], _ => rfl),
   def_mk X G a46 l46 c46 k46 (fun _ _ _ _ _ _ us hl => match us, hl with | [_, _, _, _], _ => rfl),
   def_mk X G a47 l47 c47 k47 (fun _ _ _ _ _ _ us hl => match us, hl with | [_, _, _, _], _ => rfl),
   def_mk X G a48 l48 c48 k48 (fun _ _ _ _ _ _ us hl => match us, hl with | [_, _, _], _ => rfl),
   def_mk X G a49 l49 c49 k49 (fun _ _ _ _ _ _ us hl => match us, hl with | [_, _, _], _ => rfl),
   def_mk X G a50 l50 c50 k50 (fun _ _ _ _ _ _ us hl => match us, hl with | [_], _ => rfl),
   defL_mk X G a51 l51 c51 k51 (fun _ _ _ _ _ _ _ => rfl),
   PySem.W.mg_none_of X G z1,
   PySem.W.mg_none_of X G z2,
   PySem.W.mg_none_of X G z3,
   PySem.W.mg_none_of X G z4,
   PySem.W.mg_none_of X G z5,
   PySem.W.mg_none_of X G z6,
   PySem.W.mg_none_of X G z7,
   PySem.W.mg_none_of X G z8,
   PySem.W.mg_none_of X G z9,
   PySem.W.mg_none_of X G z10,
   PySem.W.mg_none_of X G z11,
   PySem.W.mg_none_of X G z12,
   PySem.W.mg_none_of X G z13,
   PySem.W.mg_none_of X G z14,
   PySem.W.mg_none_of X G z15,
   PySem.W.mg_none_of X G z16,
   PySem.W.mg_none_of X G z17⟩
theorem all_mk (hm : Right) {P : Program} {w : World} {K : PySem.W.Frag} {mg : Str → Option Value} {fa : Addr} (hfa : mg "law" = some (.ref fa)) (c : Ctx K mg) :
    ∃ fd : FuncData, (∀ (s : Shared) (v : Value), BindsTo s fd ⟨[v], []⟩ [("script", v)]) ∧ ∀ base : Heap, K.In base → base.Ns mainGlobals mg → FnOk P w K mg base C8.CX0 15 fa fd ["script"] (spLaw K) := by
  obtain ⟨f, fd, df, bi⟩ := c.d_law
  exact law_mk hfa df bi fun base => ok_law hm c df
end Lk29

namespace Lk29
open PySem PySem.Spec PyProof.Rows L2 DV
theorem cp_eq : ∀ n, r__law_copied n = cpR n
  | 0 => rfl
  | n + 1 => by
    show runP 4 1 (b__law_copied (r__law_copied n)) = _
    rw [cp_eq n]; rfl
theorem sm_eq : ∀ n, r__law_same n = smR n
  | 0 => rfl
  | n + 1 => by
    show runP 4 2 (b__law_same (r__law_same n)) = _
    rw [sm_eq n]; rfl
theorem e_is_integer (k : Int) : r_is_integer [.int k] = some (.fz (.bool true)) := by
  simp [r_is_integer, b_is_integer, ev_runP]
theorem e_law_is_integer (k : Int) : r__law_a_is_integer [.int k] = some (.fz (.bool true)) := by
  simp [r__law_a_is_integer, b__law_a_is_integer, ev_runP]
theorem e_is_number (k : Int) : r_is_number [.int k] = some (.fz (.bool (decide (0 ≤ k)))) := by
  simp [r_is_number, b_is_number, ev_runP, e_is_integer]
theorem e_is_list_l (l : List D) : r_is_list [.list l] = some (.fz (.bool true)) := by
  simp [r_is_list, b_is_list, ev_runP]
theorem e_is_list_t (l : List D) : r_is_list [.tuple l] = some (.fz (.bool true)) := by
  simp [r_is_list, b_is_list, ev_runP]
theorem e_is_one_of {α : Type} (k : α → Str) (v : α → D) (l : List α) (x : Str) : r_is_one_of [.dict (l.map fun a => (.str (k a), v a)), .str x] = some (.fz (.bool (decide (x ∈ l.map k)))) := by
  simp [r_is_one_of, b_is_one_of, ev_runP]
def NM : List Str := ["a", "b", "c1", "ann", "bo", "j0", "zoe", "twelvesigns0", "k", "s1", "s10", "x"]
theorem nm1 : ∀ x ∈ NM, r_is_name [.str x] = some (.fz (.bool true)) := by
  have h : (NM.all fun x => isT (r_is_name [.str x])) = true := by decide +kernel
  intro x hx
  exact isT_eq (List.all_eq_true.mp h x hx)
theorem nm2 : ∀ x ∈ NM, PyData.strOk x = true := by decide +kernel
structure Rg where
  lo : Int
  hi : Int
  most : Int
abbrev Row := Str × Rg
structure Tl where
  st : Str
  at_ : Nat
  had : Int
abbrev rgD (rs : List Row) : D := .dict (rs.map fun p => (.str p.1, .tuple [.int p.2.lo, .int p.2.hi, .int p.2.most]))
abbrev tlD (ts : List Tl) : D := .list (ts.map fun t => .tuple [.str t.st, .int t.at_, .int t.had])
/-- lists of numbers by names -/
abbrev lvD (rs : List Row) (F : Row → List Int) : D := .dict (rs.map fun p => (.str p.1, .list ((F p).map .int)))
/-- ranges are right -/
structure RgOk (rs : List Row) : Prop where
  nd : (rs.map (·.1)).Nodup
  srt : sortS (rs.map (·.1)) = rs.map (·.1)
  nm : ∀ p ∈ rs, p.1 ∈ NM
  ok : ∀ p ∈ rs, p.2.lo ≤ p.2.hi ∧ 0 ≤ p.2.most ∧ p.2.most ≤ 3 ∧ -100 ≤ p.2.lo ∧ p.2.hi ≤ 100
  ne : rs ≠ []
  len : rs.length ≤ 12
/-- tellings are right -/
structure TlOk (rs : List Row) (ts : List Tl) : Prop where
  nm : ∀ t ∈ ts, t.st ∈ rs.map (·.1)
  at_ : ∀ t ∈ ts, t.at_ ≤ 100
  len : ts.length ≤ 100
theorem e_is_range_row (r : Rg) (h : r.lo ≤ r.hi) (h0 : 0 ≤ r.most) : r_is_range_row [.tuple [.int r.lo, .int r.hi, .int r.most]] = some (.fz (.bool true)) := by
  simp [h, h0, r_is_range_row, b_is_range_row, ev_runP, e_is_integer, e_is_list_t]
theorem find_row {rs : List Row} (nd : (rs.map (·.1)).Nodup) : ∀ p ∈ rs, (rs.find? fun a => decide (a.1 = p.1)) = some p := fun p hp => find_mem (fun p : Row => p.1) nd hp
theorem e_known_ranges {rs : List Row} (ok : RgOk rs) : r_known_ranges [rgD rs] = some (.dic false (rs.map fun p => (.str p.1, .fz (.tuple [.int p.2.lo, .int p.2.hi, .int p.2.most])))) := by
  have h1 : ∀ p ∈ rs, r_is_name [.str p.1] = some (.fz (.bool true)) := fun p hp => nm1 _ (ok.nm p hp)
  have h2 : ∀ p ∈ rs, r_is_range_row [.tuple [.int p.2.lo, .int p.2.hi, .int p.2.most]] = some (.fz (.bool true)) := fun p hp => e_is_range_row _ (ok.ok p hp).1 (ok.ok p hp).2.1
  have h3 := find_row ok.nd
  have h4 := ok.len
  have h5 := ok.ne
  have h6 : rs.length < 64 := by omega
  have h7 : (rs.map fun p => p.1).map PyData.str = rs.map fun p => PyData.str p.1 := by rw [List.map_map]; rfl
  have h8 := dcF_new (s := S0) (fun p : Row => p.1) (fun p => T.fz (.tuple [.int p.2.lo, .int p.2.hi, .int p.2.most])) rs ok.nd
  have h9 := ok.srt
  simp (disch := first | assumption | omega | (refine List.mem_range.mp ?_; assumption)) [r_known_ranges, b_known_ranges, ev_runP, h1, h2, h3, h5, h6, h9, h8]

theorem e_known_tellings {rs : List Row} {ts : List Tl} (ok : TlOk rs ts) : Rt (r_known_tellings [rgD rs, tlD ts]) (tlD ts) := by
  have h4 := ok.len
  have hn := ok.nm
  obtain ⟨g', s', e, ⟨a, b, rfl⟩, rfl⟩ := for_skip (tg := .tp [(.nm 2), (.nm 3)]) (n := l1_known_tellings) (f := fun p : Tl × Nat => PyData.tuple [.int (p.2 : Nat), .tuple [.str p.1.st, .int p.1.at_, .int p.1.had]]) (l := ts.zipIdx) (J := fun g s => (∃ a b, g = [some (.t (.fz (rgD rs))), some (.t (.fz (tlD ts))), a, b]) ∧ s = S0) (g := [some (.t (.fz (rgD rs))), some (.t (.fz (tlD ts))), none, none]) (s := S0) ⟨⟨_, _, rfl⟩, rfl⟩ (by
      rintro ⟨t, i⟩ ht g s ⟨⟨a, b, rfl⟩, rfl⟩
      have ht : t ∈ ts := zx_mem ht
      simp [-List.mem_map, l1_known_tellings, e_is_list_t, e_is_one_of, e_is_number, e_is_integer, hn t ht])
  refine ⟨.lst (ts.map fun t => .fz (.tuple [.str t.st, .int t.at_, .int t.had])), ?_, by simp⟩
  simp (disch := first | assumption | omega | (refine List.mem_range.mp ?_; assumption)) [r_known_tellings, b_known_tellings, ev_runP, e_is_list_l] at e ⊢
  rw [e]
  simp (disch := first | assumption | omega | (refine List.mem_range.mp ?_; assumption))
theorem absI (k : Int) : (if k < 0 then -k else k) = (k.natAbs : Int) := by split <;> omega
def mineOf (ts : List Tl) (x : Str) : List Tl := ts.filter fun t => decide (t.st = x)
def loAt (ts : List Tl) (p : Row) (h : Int) : Int := maxL (p.2.lo :: (mineOf ts p.1).map fun t => t.had - p.2.most * ((t.at_ : Int) - h).natAbs)
def hiAt (ts : List Tl) (p : Row) (h : Int) : Int := minL (p.2.hi :: (mineOf ts p.1).map fun t => t.had + p.2.most * ((t.at_ : Int) - h).natAbs)
theorem sm_most {rs : List Row} (ok : RgOk rs) {p : Row} (hp : p ∈ rs) : sm64 p.2.most = true := sm64_le (by have := ok.ok _ hp; omega) (by have := ok.ok _ hp; omega)
theorem e_ends_at {rs : List Row} {ts : List Tl} (ok : RgOk rs) (hl : ts.length ≤ 1000) : ∀ p ∈ rs, ∀ h : Int, r_ends_at [rgD rs, tlD ts, .str p.1, .int h] = some (.tup [.fz (.int (loAt ts p h)), .fz (.int (hiAt ts p h))]) := by
  intro p hp h
  have lx := find_row ok.nd p hp
  have sm := sm_most ok hp
  have lm : (ts.filter fun t => decide (t.st = p.1)).length ≤ ts.length := List.length_filter_le _ _
  simp (disch := first | assumption | omega | (refine List.mem_range.mp ?_; assumption)) [loAt, hiAt, mineOf, r_ends_at, b_ends_at, ev_runP, lx, sm]
def lastN (ts : List Tl) : Nat := (maxL (0 :: ts.map fun t => (t.at_ : Int))).toNat
theorem last_eq (ts : List Tl) : maxL (0 :: ts.map fun t => (t.at_ : Int)) = (lastN ts : Int) := by
  have : (0 : Int) ≤ maxL (0 :: ts.map fun t => (t.at_ : Int)) := maxL_le List.mem_cons_self
  unfold lastN; omega
theorem e_last_told {ts : List Tl} (hl : ts.length ≤ 1000) : r_last_told [tlD ts] = some (.fz (.int (lastN ts))) := by
  simp (disch := first | assumption | omega | (refine List.mem_range.mp ?_; assumption)) [r_last_told, b_last_told, ev_runP, last_eq]
def hiL (ts : List Tl) (last : Nat) (p : Row) : List Int := (List.range (last + 1)).map fun h : Nat => hiAt ts p h
def loL (ts : List Tl) (last : Nat) (p : Row) : List Int := (List.range (last + 1)).map fun h : Nat => loAt ts p h
theorem e_highest {rs : List Row} {ts : List Tl} (ok : RgOk rs) (hl : ts.length ≤ 1000) (last : Nat) (h : last ≤ 1000) : Rt (r_highest_lives [rgD rs, tlD ts, .int last]) (lvD rs (hiL ts last)) := by
  have h3 := find_row ok.nd
  have h4 := ok.len
  have e := e_ends_at ok hl
  refine ⟨.dic false (rs.map fun p => (.str p.1, .lst ((List.range (last + 1)).map fun h : Nat => .fz (.int (hiAt ts p h))))), ?_, by simp [hiL]⟩
  have h8 := dcF_new (s := S0) (fun p : Row => p.1) (fun p => T.lst ((List.range (last + 1)).map fun h : Nat => .fz (.int (hiAt ts p h)))) rs ok.nd
  have h9 : ((last : Int) + 1).toNat = last + 1 := by omega
  simp (disch := first | assumption | omega | (refine List.mem_range.mp ?_; assumption)) [r_highest_lives, b_highest_lives, ev_runP, h8, h9, e]
structure Calm (rs : List Row) (ts : List Tl) : Prop where
  inr : ∀ p ∈ rs, ∀ t ∈ ts, t.st = p.1 → p.2.lo ≤ t.had ∧ t.had ≤ p.2.hi
  near : ∀ p ∈ rs, ∀ t ∈ ts, ∀ u ∈ ts, t.st = p.1 → u.st = p.1 → ((t.had - u.had).natAbs : Int) ≤ p.2.most * ((t.at_ : Int) - u.at_).natAbs
theorem TlOk.row {rs : List Row} {ts : List Tl} (ok : TlOk rs ts) {t : Tl} (ht : t ∈ ts) : ∃ p ∈ rs, t.st = p.1 := by
  obtain ⟨p, hp, e⟩ := List.mem_map.mp (ok.nm t ht)
  exact ⟨p, hp, e.symm⟩
theorem e_out {rs : List Row} {ts : List Tl} (ok : RgOk rs) (tk : TlOk rs ts) (c : Calm rs ts) {t : Tl} (ht : t ∈ ts) : r_is_out_of_range [rgD rs, .tuple [.str t.st, .int t.at_, .int t.had]] = some (.fz (.bool false)) := by
  obtain ⟨p, hp, e⟩ := tk.row ht
  have h3 := find_row ok.nd p hp
  have h4 := c.inr p hp t ht e
  simp [r_is_out_of_range, b_is_out_of_range, ev_runP, e, h3, h4]
theorem e_differ {rs : List Row} {ts : List Tl} (ok : RgOk rs) (tk : TlOk rs ts) (c : Calm rs ts) {t u : Tl} (ht : t ∈ ts) (hu : u ∈ ts) : r_do_differ [rgD rs, .tuple [.str t.st, .int t.at_, .int t.had], .tuple [.str u.st, .int u.at_, .int u.had]] = some (.fz (.bool false)) := by
  obtain ⟨p, hp, e⟩ := tk.row ht
  have h3 := find_row ok.nd p hp
  have sm := sm_most ok hp
  by_cases h : p.1 = u.st
  · have h4 := c.near p hp t ht u hu e h.symm
    simp [r_do_differ, b_do_differ, ev_runP, e, h3, h, sm]
    rw [h] at h3
    simp [h3, sm]
    omega
  · simp [r_do_differ, b_do_differ, ev_runP, e, h3, h]
theorem e_clash {rs : List Row} {ts : List Tl} (ok : RgOk rs) (tk : TlOk rs ts) (c : Calm rs ts) : r_clash_of [rgD rs, tlD ts] = some (.fz .none) := by
  have h4 := tk.len
  obtain ⟨g', s', e, ⟨a, b, d, rfl⟩, rfl⟩ := for_skip (tg := .tp [(.nm 2), (.nm 3)]) (n := l2_clash_of) (f := fun p : Tl × Nat => PyData.tuple [.int (p.2 : Nat), .tuple [.str p.1.st, .int p.1.at_, .int p.1.had]]) (l := ts.zipIdx) (J := fun g s => (∃ a b c, g = [some (.t (.fz (rgD rs))), some (.t (.fz (tlD ts))), a, b, c]) ∧ s = S0) (g := [some (.t (.fz (rgD rs))), some (.t (.fz (tlD ts))), none, none, none]) (s := S0) ⟨⟨_, _, _, rfl⟩, rfl⟩ (by
      rintro ⟨t, i⟩ ht g s ⟨⟨a, b, d, rfl⟩, rfl⟩
      have hi := zx_get ht
      have ht : t ∈ ts := zx_mem ht
      have li : i < ts.length := (List.getElem?_eq_some_iff.mp hi).1
      obtain ⟨g2, s2, e, ⟨x, rfl⟩, rfl⟩ := for_skip (tg := .nm 4) (n := l1_clash_of) (f := fun k : Nat => PyData.int (0 + (k : Int))) (l := List.range i) (J := fun g s => (∃ c, g = [some (.t (.fz (rgD rs))), some (.t (.fz (tlD ts))), some (.t (.fz (.int i))), some (.t (.fz (.tuple [.str t.st, .int t.at_, .int t.had]))), c]) ∧ s = S0) (g := [some (.t (.fz (rgD rs))), some (.t (.fz (tlD ts))), some (.t (.fz (.int i))), some (.t (.fz (.tuple [.str t.st, .int t.at_, .int t.had]))), d]) (s := S0) ⟨⟨_, rfl⟩, rfl⟩ (by
        rintro k hk g s ⟨⟨x, rfl⟩, rfl⟩
        have hk : k < i := List.mem_range.mp hk
        have hk2 : k < ts.length := by omega
        have hu : ts[k] ∈ ts := List.getElem_mem hk2
        have e := e_differ ok tk c hu ht
        simp [l1_clash_of, hk2, e])
      have h62 : ok62 (i : Int) = true := ok62_of (by omega)
      simp [e_out ok tk c ht, l2_clash_of, h62] at e ⊢
      simp [e])
  simp (disch := first | assumption | omega | (refine List.mem_range.mp ?_; assumption)) [r_clash_of, b_clash_of, ev_runP] at e ⊢
  rw [e]
  simp
def lifeB (r : Rg) (F : List Int) : Bool := (F.all fun x => decide (r.lo ≤ x) && decide (x ≤ r.hi)) && (F.zip (F.drop 1)).all fun p => decide (((p.1 - p.2).natAbs : Int) ≤ r.most)
def rowOf (rs : List Row) (x : Str) : Row := (rs.find? fun a => decide (a.1 = x)).getD ("", ⟨0, 0, 0⟩)
def valOf (rs : List Row) (F : Row → List Int) (t : Tl) : Int := (F (rowOf rs t.st)).getD t.at_ 0
def areB (rs : List Row) (ts : List Tl) (F : Row → List Int) : Bool := (rs.all fun p => lifeB p.2 (F p)) && ts.all fun t => decide (valOf rs F t = t.had)
theorem find_rowOf {rs : List Row} {x : Str} (h : x ∈ rs.map (·.1)) : (rs.find? fun a => decide (a.1 = x)) = some (rowOf rs x) ∧ rowOf rs x ∈ rs ∧ (rowOf rs x).1 = x := by
  obtain ⟨a, e, ha, ek⟩ := find_some (fun p : Row => p.1) h
  unfold rowOf
  rw [e]
  exact ⟨rfl, ha, ek⟩
theorem e_is_life (r : Rg) (F : List Int) (hF : F.length ≤ 1000) : r_is_life [.tuple [.int r.lo, .int r.hi, .int r.most], .list (F.map .int), .int (F.length : Nat)] = some (.fz (.bool (lifeB r F))) := by
  have hz : (F.zip F.tail).length ≤ 1000 := by rw [List.length_zip]; omega
  simp (disch := first | assumption | omega | (refine List.mem_range.mp ?_; assumption)) [r_is_life, b_is_life, ev_runP, e_is_list_l, e_is_integer, lifeB]
  rw [Bool.eq_iff_iff]
  simp
theorem e_are_lives {rs : List Row} {ts : List Tl} (ok : RgOk rs) (tk : TlOk rs ts) (F : Row → List Int) (hF : ∀ p ∈ rs, (F p).length = lastN ts + 1) (hl : lastN ts ≤ 900) : r_are_lives [rgD rs, tlD ts, lvD rs F, .int (lastN ts)] = some (.fz (.bool (areB rs ts F))) := by
  have h1 := find_row ok.nd
  have h2 := ok.len
  have h3 := tk.len
  have h4 : ∀ p ∈ rs, r_is_life [.tuple [.int p.2.lo, .int p.2.hi, .int p.2.most], .list ((F p).map .int), .int ((lastN ts : Int) + 1)] = some (.fz (.bool (lifeB p.2 (F p)))) := fun p hp => by
    have := e_is_life p.2 (F p) (by rw [hF p hp]; omega)
    rw [hF p hp] at this
    exact this
  have h5 : ∀ t ∈ ts, (rs.find? fun a => decide (a.1 = t.st)) = some (rowOf rs t.st) := fun t ht => (find_rowOf (tk.nm t ht)).1
  have h6 : ∀ t ∈ ts, (F (rowOf rs t.st))[t.at_]? = some (valOf rs F t) := fun t ht => by
    have hl := hF _ (find_rowOf (tk.nm t ht)).2.1
    have : t.at_ < (F (rowOf rs t.st)).length := by
      have h7 : (t.at_ : Int) ≤ maxL (0 :: ts.map fun t => (t.at_ : Int)) := maxL_le (List.mem_cons_of_mem _ (List.mem_map_of_mem (f := fun t : Tl => (t.at_ : Int)) ht))
      rw [last_eq] at h7
      omega
    rw [List.getElem?_eq_getElem this]
    unfold valOf
    rw [List.getD_eq_getElem?_getD, List.getElem?_eq_getElem this]; rfl
  simp (disch := first | assumption | omega | (refine List.mem_range.mp ?_; assumption)) [r_are_lives, b_are_lives, ev_runP, h1, h4, h5, h6, areB]
  exact fun _ _ a b h => ⟨b, h⟩
theorem e_law_is_life (r : Rg) (F : List Int) (hF : F.length ≤ 1000) : r__law_kn_is_life [.tuple [.int r.lo, .int r.hi, .int r.most], .list (F.map .int), .int (F.length : Nat)] = some (.fz (.bool (lifeB r F))) := by
  have hz : (F.zip F.tail).length ≤ 1000 := by rw [List.length_zip]; omega
  simp (disch := first | assumption | omega | (refine List.mem_range.mp ?_; assumption)) [r__law_kn_is_life, b__law_kn_is_life, ev_runP, e_law_is_integer, lifeB]
  rw [Bool.eq_iff_iff]
  simp
theorem e_law_are_lives {rs : List Row} {ts : List Tl} (ok : RgOk rs) (tk : TlOk rs ts) (F : Row → List Int) (hF : ∀ p ∈ rs, (F p).length = lastN ts + 1) (hl : lastN ts ≤ 900) : r__law_kn_are_lives [rgD rs, tlD ts, lvD rs F, .int (lastN ts)] = some (.fz (.bool (areB rs ts F))) := by
  have h1 := find_row ok.nd
  have h2 := ok.len
  have h3 := tk.len
  have h4 : ∀ p ∈ rs, r__law_kn_is_life [.tuple [.int p.2.lo, .int p.2.hi, .int p.2.most], .list ((F p).map .int), .int ((lastN ts : Int) + 1)] = some (.fz (.bool (lifeB p.2 (F p)))) := fun p hp => by
    have := e_law_is_life p.2 (F p) (by rw [hF p hp]; omega)
    rw [hF p hp] at this
    exact this
  have h5 : ∀ t ∈ ts, (rs.find? fun a => decide (a.1 = t.st)) = some (rowOf rs t.st) := fun t ht => (find_rowOf (tk.nm t ht)).1
  have h6 : ∀ t ∈ ts, (F (rowOf rs t.st))[t.at_]? = some (valOf rs F t) := fun t ht => by
    have hl := hF _ (find_rowOf (tk.nm t ht)).2.1
    have : t.at_ < (F (rowOf rs t.st)).length := by
      have h7 : (t.at_ : Int) ≤ maxL (0 :: ts.map fun t => (t.at_ : Int)) := maxL_le (List.mem_cons_of_mem _ (List.mem_map_of_mem (f := fun t : Tl => (t.at_ : Int)) ht))
      rw [last_eq] at h7
      omega
    rw [List.getElem?_eq_getElem this]
    unfold valOf
    rw [List.getD_eq_getElem?_getD, List.getElem?_eq_getElem this]; rfl
  simp (disch := first | assumption | omega | (refine List.mem_range.mp ?_; assumption)) [r__law_kn_are_lives, b__law_kn_are_lives, ev_runP, h1, h4, h5, h6, areB]
  exact fun _ _ a b h => ⟨b, h⟩
theorem e_word (w : Str) (x : D) : r_is_word_row [.tuple [.str w, x], .str w, .int 2] = some (.fz (.bool true)) := by
  simp (disch := first | assumption | omega | (refine List.mem_range.mp ?_; assumption)) [r_is_word_row, b_is_word_row, ev_runP, e_is_list_t]
theorem e_lives_or_clash {rs : List Row} {ts : List Tl} (ok : RgOk rs) (tk : TlOk rs ts) (c : Calm rs ts) (hl : lastN ts ≤ 900) : Rt (r_lives_or_clash [rgD rs, tlD ts]) (.tuple [.str "lives", lvD rs (hiL ts (lastN ts))]) := by
  have h1 := e_known_ranges ok
  obtain ⟨t2, h2, d2⟩ := e_known_tellings tk
  have h3 := e_clash ok tk c
  have h4 := e_last_told (ts := ts) (by have := tk.len; omega)
  obtain ⟨t5, h5, d5⟩ := e_highest ok (ts := ts) (by have := tk.len; omega) (lastN ts) (by omega)
  refine ⟨.tup [.fz (.str "lives"), t5], ?_, by simp [d5]⟩
  simp (disch := first | assumption | omega | (refine List.mem_range.mp ?_; assumption)) [r_lives_or_clash, b_lives_or_clash, ev_runP, h1, h2, d2, h3, h4, h5]
theorem e_is_lives {rs : List Row} {ts : List Tl} (ok : RgOk rs) (tk : TlOk rs ts) (F : Row → List Int) (hF : ∀ p ∈ rs, (F p).length = lastN ts + 1) (hl : lastN ts ≤ 900) : r_is_lives_or_clash [rgD rs, tlD ts, .tuple [.str "lives", lvD rs F]] = some (.fz (.bool (areB rs ts F))) := by
  have h1 := e_known_ranges ok
  obtain ⟨t2, h2, d2⟩ := e_known_tellings tk
  have h4 := e_last_told (ts := ts) (by have := tk.len; omega)
  have h5 := e_are_lives ok tk F hF hl
  have h6 := e_word "lives" (lvD rs F)
  simp (disch := first | assumption | omega | (refine List.mem_range.mp ?_; assumption)) [r_is_lives_or_clash, b_is_lives_or_clash, ev_runP, h1, h2, d2, h4, h5, h6]
theorem e_look {rs : List Row} {ts : List Tl} (ok : RgOk rs) (tk : TlOk rs ts) (c : Calm rs ts) : r_look_told [rgD rs, tlD ts] = some (.fz .none) := by
  simp (disch := first | assumption | omega | (refine List.mem_range.mp ?_; assumption)) [r_look_told, b_look_told, ev_runP, e_clash ok tk c]
theorem e_can_have {rs : List Row} {ts : List Tl} (ok : RgOk rs) (tk : TlOk rs ts) (c : Calm rs ts) (h : Nat) : ∀ p ∈ rs, r_can_have [rgD rs, tlD ts, .str p.1, .int h] = some (.tup [.fz (.int (loAt ts p h)), .fz (.int (hiAt ts p h))]) := by
  intro p hp
  have h1 := e_known_ranges ok
  obtain ⟨t2, h2, d2⟩ := e_known_tellings tk
  have h3 := e_look ok tk c
  have h4 := e_ends_at ok (ts := ts) (by have := tk.len; omega) p hp h
  have h5 : p.1 ∈ rs.map (·.1) := List.mem_map_of_mem hp
  simp (disch := first | assumption | omega | (refine List.mem_range.mp ?_; assumption)) [-List.mem_map, r_can_have, b_can_have, ev_runP, h1, h2, d2, h3, h4, h5, e_is_one_of, e_is_number]
theorem e_told_at {rs : List Row} {ts : List Tl} (ok : RgOk rs) (tk : TlOk rs ts) (h : Nat) : Rt (r_told_at [rgD rs, tlD ts, .int h]) (.tuple [rgD rs, tlD ts]) := by
  have h1 := e_known_ranges ok
  obtain ⟨t2, h2, d2⟩ := e_known_tellings tk
  refine ⟨.tup [.fz (rgD rs), .fz (tlD ts)], ?_, by simp⟩
  simp (disch := first | assumption | omega | (refine List.mem_range.mp ?_; assumption)) [r_told_at, b_told_at, ev_runP, h1, h2, d2, e_is_number]
def loW (rs : List Row) (ts : List Tl) (h : Int) : Int := (rs.map fun p => loAt ts p h).sum
def hiW (rs : List Row) (ts : List Tl) (h : Int) : Int := (rs.map fun p => hiAt ts p h).sum
theorem e_whole_ends {rs : List Row} {ts : List Tl} (ok : RgOk rs) (hl : ts.length ≤ 1000) (h : Int) : r_whole_ends [rgD rs, tlD ts, .int h] = some (.tup [.fz (.int (loW rs ts h)), .fz (.int (hiW rs ts h))]) := by
  have h2 := ok.len
  have e := e_ends_at ok hl
  simp (disch := first | assumption | omega | (refine List.mem_range.mp ?_; assumption)) [r_whole_ends, b_whole_ends, ev_runP, e, loW, hiW]
theorem e_whole_between {rs : List Row} {ts : List Tl} (ok : RgOk rs) (tk : TlOk rs ts) (c : Calm rs ts) (h : Nat) : r_whole_between [rgD rs, tlD ts, .int h] = some (.tup [.fz (.int (loW rs ts h)), .fz (.int (hiW rs ts h))]) := by
  obtain ⟨t2, h2, d2⟩ := e_told_at ok tk h
  have h3 := e_look ok tk c
  have h4 := e_whole_ends ok (ts := ts) (by have := tk.len; omega) h
  simp (disch := first | assumption | omega | (refine List.mem_range.mp ?_; assumption)) [r_whole_between, b_whole_between, ev_runP, h2, d2, h3, h4]
theorem e_widths_by {rs : List Row} {ts : List Tl} (ok : RgOk rs) (hl : ts.length ≤ 1000) (h : Int) : Rt (r_widths_by [rgD rs, tlD ts, .int h]) (.dict (rs.map fun p => (.str p.1, .int (hiAt ts p h - loAt ts p h)))) := by
  have h2 := ok.len
  have h3 := find_row ok.nd
  have e := e_ends_at ok hl
  have h8 := dcF_new (s := S0) (fun p : Row => p.1) (fun p => T.tup [.fz (.int (loAt ts p h)), .fz (.int (hiAt ts p h))]) rs ok.nd
  have h9 := dcF_new (s := S0) (fun p : Row => p.1) (fun p => T.fz (.int (hiAt ts p h - loAt ts p h))) rs ok.nd
  refine ⟨.dic false (rs.map fun p => (.str p.1, .fz (.int (hiAt ts p h - loAt ts p h)))), ?_, by simp⟩
  simp (disch := first | assumption | omega | (refine List.mem_range.mp ?_; assumption)) [r_widths_by, b_widths_by, ev_runP, e, h3, h8, h9]
theorem e_open_widths {rs : List Row} {ts : List Tl} (ok : RgOk rs) (tk : TlOk rs ts) (c : Calm rs ts) (h : Nat) : Rt (r_open_widths [rgD rs, tlD ts, .int h]) (.dict (rs.map fun p => (.str p.1, .int (hiAt ts p h - loAt ts p h)))) := by
  obtain ⟨t2, h2, d2⟩ := e_told_at ok tk h
  have h3 := e_look ok tk c
  obtain ⟨t4, h4, d4⟩ := e_widths_by ok (ts := ts) (by have := tk.len; omega) h
  refine ⟨t4, ?_, d4⟩
  simp (disch := first | assumption | omega | (refine List.mem_range.mp ?_; assumption)) [r_open_widths, b_open_widths, ev_runP, h2, d2, h3, h4]
theorem e_least_at {rs : List Row} {ts : List Tl} (ok : RgOk rs) (tk : TlOk rs ts) (c : Calm rs ts) (h : Nat) (least : Int) : Rt (r_least_at [rgD rs, tlD ts, .int h, .int least]) (.tuple [rgD rs, tlD ts]) := by
  obtain ⟨t2, h2, d2⟩ := e_told_at ok tk h
  have h3 := e_look ok tk c
  refine ⟨.tup [.fz (rgD rs), .fz (tlD ts)], ?_, by simp⟩
  simp (disch := first | assumption | omega | (refine List.mem_range.mp ?_; assumption)) [r_least_at, b_least_at, ev_runP, h2, d2, h3, e_is_integer]
def wordOf (lo hi least : Int) : Str := if least ≤ lo then "yes" else if hi < least then "no" else "open"
theorem e_sure_word {rs : List Row} {ts : List Tl} (ok : RgOk rs) (hl : ts.length ≤ 1000) (h least : Int) : r_sure_word [rgD rs, tlD ts, .int h, .int least] = some (.fz (.str (wordOf (loW rs ts h) (hiW rs ts h) least))) := by
  have h4 := e_whole_ends ok hl h
  simp (disch := first | assumption | omega | (refine List.mem_range.mp ?_; assumption)) [r_sure_word, b_sure_word, ev_runP, h4, wordOf]
/-- tellings put behind, one of each store -/
theorem e_lives_by {rs : List Row} {ts : List Tl} (ok : RgOk rs) (tk : TlOk rs ts) (h : Nat) (hh : h ≤ 100) (total : Int) : ∃ t, r_lives_by [rgD rs, tlD ts, .int h, .int total] = some t := by
  have h1 := tk.len
  have h2 := ok.len
  have e1 := e_whole_ends ok (ts := ts) (by omega) h
  have e2 := e_ends_at ok (ts := ts) (by omega)
  have key := for_all (tg := .nm 6) (n := l1_lives_by) (f := fun p : Row => PyData.str p.1) (l := rs) (J := fun l g s => (∃ (us : List Tl) (vs : List T) (left : Int) (a b c : Option Sl), us.length + l.length = ts.length + rs.length ∧ (∀ u ∈ us, u.at_ ≤ 100) ∧ vs.map T.d = us.map (fun t => .tuple [.str t.st, .int t.at_, .int t.had]) ∧ g = [some (.t (.fz (rgD rs))), some (.t (.fz (tlD ts))), some (.t (.fz (.int h))), some (.t (.fz (.int total))), some (.t (.lst vs)), some (.t (.fz (.int left))), a, b, c]) ∧ s = S0) (g := [some (.t (.fz (rgD rs))), some (.t (.fz (tlD ts))), some (.t (.fz (.int h))), some (.t (.fz (.int total))), some (.t (.lst (ts.map fun t => .fz (.tuple [.str t.st, .int t.at_, .int t.had])))), some (.t (.fz (.int (total - loW rs ts h)))), none, none, none]) (s := S0) ⟨⟨ts, _, _, _, _, _, rfl, tk.at_, by simp, rfl⟩, rfl⟩ (by
      rintro l0 p l' g s hl ⟨⟨us, vs, left, a, b, c, hu1, hu2, hu3, rfl⟩, rfl⟩
      have hp : p ∈ rs := by rw [hl]; simp
      have e3 := e2 p hp h
      have h4 : vs.length ≤ 1000 := by
        have := congrArg List.length hu3
        simp at hu1 this; omega
      simp (disch := first | assumption | omega | (refine List.mem_range.mp ?_; assumption)) [l1_lives_by, e3]
      refine ⟨us ++ [⟨p.1, h, loAt ts p h + min left (hiAt ts p h - loAt ts p h)⟩], ?_, ?_, ?_⟩
      · simp at hu1 ⊢; omega
      · intro u hu
        rcases List.mem_append.mp hu with hu | hu
        · exact hu2 u hu
        · simp at hu; subst hu; exact hh
      · simp [hu3])
  obtain ⟨g', s', e, ⟨us, vs, left, a, b, c, hu1, hu2, hu3, rfl⟩, rfl⟩ := key
  have h3 : us.length ≤ 1000 := by simp at hu1; omega
  have e5 := e_last_told (ts := us) h3
  have h5 : lastN us ≤ 100 := by
    have h6 := maxL_mem (l := 0 :: us.map fun t => (t.at_ : Int)) (List.cons_ne_nil _ _)
    rw [last_eq] at h6
    rcases List.mem_cons.mp h6 with h6 | h6
    · omega
    · obtain ⟨u, hu, eu⟩ := List.mem_map.mp h6
      have := hu2 u hu
      omega
  obtain ⟨t6, e6, _⟩ := e_highest ok (ts := us) h3 (lastN us) (by omega)
  refine ⟨t6, ?_⟩
  simp (disch := first | assumption | omega | (refine List.mem_range.mp ?_; assumption)) [r_lives_by, b_lives_by, ev_runP, e1, e, hu3, e5, e6] at e ⊢
theorem e_sure {rs : List Row} {ts : List Tl} (ok : RgOk rs) (tk : TlOk rs ts) (c : Calm rs ts) (h : Nat) (hh : h ≤ 100) (least : Int) : ∃ ds, Rt (r_sure_or_two [rgD rs, tlD ts, .int h, .int least]) (.tuple (.str (wordOf (loW rs ts h) (hiW rs ts h) least) :: ds)) ∧ (least ≤ loW rs ts h → ds = []) := by
  have h1 := tk.len
  obtain ⟨t2, h2, d2⟩ := e_least_at ok tk c h least
  have h3 := e_sure_word ok (ts := ts) (by omega) h least
  obtain ⟨t4, h4⟩ := e_lives_by ok tk h hh least
  obtain ⟨t5, h5⟩ := e_lives_by ok tk h hh (least - 1)
  by_cases ho : wordOf (loW rs ts h) (hiW rs ts h) least = "open"
  · refine ⟨[t4.d, t5.d], ⟨.tup [.fz (.str "open"), t4, t5], ?_, by simp [ho]⟩, ?_⟩
    · rw [ho] at h3
      simp (disch := first | assumption | omega | (refine List.mem_range.mp ?_; assumption)) [r_sure_or_two, b_sure_or_two, ev_runP, h2, d2, h3, h4, h5]
    · intro hl
      rw [wordOf, if_pos hl] at ho
      cases ho
  · refine ⟨[], ⟨.tup [.fz (.str (wordOf (loW rs ts h) (hiW rs ts h) least))], ?_, by simp⟩, fun _ => rfl⟩
    simp (disch := first | assumption | omega | (refine List.mem_range.mp ?_; assumption)) [r_sure_or_two, b_sure_or_two, ev_runP, h2, d2, h3, ho]
end Lk29

namespace Lk29
open PySem PySem.Spec PyProof.Rows L2 DV
theorem e_pick {α : Type} (f : α → D) (l : List α) {b : Nat} {s : S} (h : Gd (b + 1) s) (h1 : l ≠ []) (h2 : l.length ≤ 1000000) : ∃ a ∈ l, ∃ s', r__law_pick [.s, .d (.list (l.map f))] s = some (.fz (f a), s') ∧ Gd b s' := by
  have hp : 0 < l.length := List.length_pos_iff.mpr h1
  obtain ⟨v, s', e, hv, g⟩ := draw_nat l.length h (by omega) (by omega)
  refine ⟨l[v]'(by omega), List.getElem_mem (by omega), s', ?_, g⟩
  have hv : v < l.length := by omega
  simp [r__law_pick, b__law_pick, ev_runS, e, hv]
theorem e_names {b : Nat} {s : S} (h : Gd (b + 13) s) : ∃ (l : List Str) (s' : S), r__law_ev_names [.s, .d (.int 4)] s = some (.lst (l.map fun x => .fz (.str x)), s') ∧ l.Nodup ∧ sortS l = l ∧ (∀ x ∈ l, x ∈ NM) ∧ 2 ≤ l.length ∧ l.length ≤ 4 ∧ Gd b s' := by
  obtain ⟨m, s1, e1, pm, g1⟩ := mixed_ok PyData.str NM (b := b + 1) (by decide) h
  obtain ⟨v, s2, e2, v0, v1, g2⟩ := draw_ok 3 g1 (by omega) (by omega)
  simp [NM] at e1
  have hm : m.length = 12 := pm.length_eq
  obtain ⟨m', hc, hn, hs, h1, h2⟩ : ∃ m', DV.cutD m none (some (2 + v)) = m' ∧ m'.Nodup ∧ (∀ x ∈ m', x ∈ NM) ∧ 2 ≤ m'.length ∧ m'.length ≤ 4 := by
    refine ⟨m.take (2 + v).toNat, cutD_toI m (by omega), (pm.nodup_iff.mpr (by decide +kernel)).sublist (List.take_sublist _ _), fun x hx => pm.mem_iff.mp (List.mem_of_mem_take hx), ?_, ?_⟩
    · simp [hm]; omega
    · simp [hm]; omega
  refine ⟨sortS m', s2, ?_, sortS_nd hn, by simp, fun x hx => hs x (by simpa using hx), by simpa using h1, by simpa using h2, g2⟩
  simp (disch := first | assumption | omega | (refine List.mem_range.mp ?_; assumption)) [r__law_ev_names, b__law_ev_names, ev_runS, e1, e2, hc]
theorem e_kn_ranges {b : Nat} {s : S} (h : Gd (b + 30) s) : ∃ (rs : List Row) (s' : S) (t : T), RgOk rs ∧ r__law_kn_ranges [.s, .d (.int 4)] s = some (t, s') ∧ t.d = rgD rs ∧ Gd b s' := by
  obtain ⟨l, s1, e1, nd, so, nm, l1, l2, g1⟩ := e_names (b := b + 17) (h.mono (by omega))
  obtain ⟨v, s2, e2, v0, v1, g2⟩ := draw_ok 4 (g1.mono (a := b + 16) (by omega)) (by omega) (by omega)
  obtain ⟨m, hc, hn, hs, h1, h2, ha⟩ : ∃ m, DV.cutD l none (some (1 + v)) = m ∧ m.Nodup ∧ (∀ x ∈ m, x ∈ NM) ∧ 1 ≤ m.length ∧ m.length ≤ 4 ∧ sortS m = m := by
    refine ⟨l.take (1 + v).toNat, cutD_toI l (by omega), nd.sublist (List.take_sublist _ _), fun x hx => nm _ (List.mem_of_mem_take hx), ?_, ?_, ?_⟩
    · simp; omega
    · simp; omega
    · refine sortS_id (AscS.sub ?_ (List.take_sublist _ _))
      rw [← so]; exact sortS_asc l
  have key := for_all (tg := .nm 3) (n := l1__law_kn_ranges) (f := fun x : Str => PyData.str x) (l := m) (J := fun l g s => ∃ (rs : List Row) (x y : Option Sl), rs.map (·.1) ++ l = m ∧ (∀ p ∈ rs, p.2.lo ≤ p.2.hi ∧ 0 ≤ p.2.most ∧ p.2.most ≤ 3 ∧ -100 ≤ p.2.lo ∧ p.2.hi ≤ 100) ∧ Gd (b + 3 * l.length) s ∧ g = [some .s, some (.t (.fz (.int 4))), some (.t (.dic false (rs.map fun p => (.str p.1, .tup [.fz (.int p.2.lo), .fz (.int p.2.hi), .fz (.int p.2.most)])))), x, y]) (g := [some .s, some (.t (.fz (.int 4))), some (.t (.dic false [])), none, none]) (s := s2) ⟨[], none, none, rfl, by simp, g2.mono (by omega), rfl⟩ (by
      rintro l0 x l' g s hl ⟨rs, a, c, hm, hr, hg, rfl⟩
      have hx : x ∉ rs.map (·.1) := by
        intro hx
        rw [← hm, List.nodup_append] at hn
        exact hn.2.2 x hx x (by simp) rfl
      have hlen : rs.length ≤ 4 := by
        have := congrArg List.length hm
        simp at this; omega
      have hg : Gd (b + 3 * l'.length + 1 + 1 + 1) s := hg.mono (by simp; omega)
      obtain ⟨w1, t1, d1, w10, w11, k1⟩ := draw_ok 12 hg (by omega) (by omega)
      obtain ⟨w2, hw2, t2, d2, k2⟩ := e_pick PyData.int [0, 1, 3, 9, 40] k1 (by simp) (by simp)
      obtain ⟨w3, t3, d3, w30, w31, k3⟩ := draw_ok 4 k2 (by omega) (by omega)
      have w2a : 0 ≤ w2 ∧ w2 ≤ 40 := by simp at hw2; omega
      simp at d2
      have pn := put_new (fun p : Row => p.1) (fun p => T.tup [.fz (.int p.2.lo), .fz (.int p.2.hi), .fz (.int p.2.most)]) rs x (.tup [.fz (.int (w1 - 8)), .fz (.int (w1 - 8 + w2)), .fz (.int w3)]) (by omega) hx
      simp (disch := first | assumption | omega | (refine List.mem_range.mp ?_; assumption)) [-Prod.forall, -Prod.exists, l1__law_kn_ranges, d1, d2, d3, pn]
      refine ⟨rs ++ [(x, ⟨w1 - 8, w1 - 8 + w2, w3⟩)], ?_, ?_, k3, ?_⟩
      · simp [hm]
      · intro p hp
        rcases List.mem_append.mp hp with hp | hp
        · exact hr p hp
        · simp at hp
          subst hp
          simp only
          omega
      · simp)
  obtain ⟨g', s', e, rs, x, y, hm, hr, hg, rfl⟩ := key
  rw [List.append_nil] at hm
  refine ⟨rs, s', .dic false (rs.map fun p => (.str p.1, .tup [.fz (.int p.2.lo), .fz (.int p.2.hi), .fz (.int p.2.most)])), ⟨by rw [hm]; exact hn, by rw [hm]; exact ha, fun p hp => hs _ (by rw [← hm]; exact List.mem_map_of_mem hp), hr, ?_, ?_⟩, ?_, ?_, hg⟩
  · intro hh
    subst hh
    simp at hm
    subst hm
    simp at h1
  · have := congrArg List.length hm
    simp at this; omega
  · simp (disch := first | assumption | omega | (refine List.mem_range.mp ?_; assumption)) [r__law_kn_ranges, b__law_kn_ranges, ev_runS, e1, e2, hc, show max (2 : Int) 4 = 4 from rfl]
    simp [e]
  · simp
structure LifeP (r : Rg) (F : List Int) : Prop where
  inr : ∀ x ∈ F, r.lo ≤ x ∧ x ≤ r.hi
  near : ∀ (i : Nat) (x y : Int), F[i]? = some x → F[i + 1]? = some y → ((x - y).natAbs : Int) ≤ r.most
theorem near_zip {m : Int} : ∀ (F : List Int), (∀ p ∈ F.zip F.tail, ((p.1 - p.2).natAbs : Int) ≤ m) ↔ ∀ (i : Nat) (x y : Int), F[i]? = some x → F[i + 1]? = some y → ((x - y).natAbs : Int) ≤ m
  | [] => by simp
  | [a] => by
    constructor
    · intro _ i x y h1 h2; simp at h2
    · intro _ p hp; simp at hp
  | a :: b :: F => by
    have ih := near_zip (m := m) (b :: F)
    constructor
    · intro h i x y h1 h2
      cases i with
      | zero => simp at h1 h2; subst h1; subst h2; exact h (a, b) (by simp)
      | succ i =>
        refine ih.mp (fun p hp => h p ?_) i x y (by simpa using h1) (by simpa using h2)
        simp only [List.tail_cons, List.zip_cons_cons, List.mem_cons] at hp ⊢
        exact .inr hp
    · intro h p hp
      simp only [List.tail_cons, List.zip_cons_cons, List.mem_cons] at hp
      rcases hp with rfl | hp
      · exact h 0 a b (by simp) (by simp)
      · exact ih.mpr (fun i x y h1 h2 => h (i + 1) x y (by simpa using h1) (by simpa using h2)) p (by simpa using hp)
theorem lifeB_iff (r : Rg) (F : List Int) : lifeB r F = true ↔ LifeP r F := by
  unfold lifeB
  simp only [Bool.and_eq_true, List.all_eq_true, decide_eq_true_eq, List.drop_one]
  rw [near_zip]
  exact ⟨fun h => ⟨h.1, h.2⟩, fun h => ⟨h.1, h.2⟩⟩
theorem LifeP.snoc {r : Rg} {F : List Int} {w z : Int} (h : LifeP r F) (hw : F.getLast? = some w) (h1 : r.lo ≤ z ∧ z ≤ r.hi) (h2 : ((w - z).natAbs : Int) ≤ r.most) : LifeP r (F ++ [z]) := by
  refine ⟨fun x hx => ?_, fun i x y e1 e2 => ?_⟩
  · rcases List.mem_append.mp hx with hx | hx
    · exact h.inr x hx
    · simp at hx; subst hx; exact h1
  · rw [List.getLast?_eq_getElem?] at hw
    by_cases hi : i + 1 < F.length
    · rw [List.getElem?_append_left (by omega)] at e1
      rw [List.getElem?_append_left hi] at e2
      exact h.near i x y e1 e2
    · have hl : i + 1 < F.length + 1 := by
        have := (List.getElem?_eq_some_iff.mp e2).1
        simpa using this
      have hi2 : i = F.length - 1 := by omega
      have hF : 0 < F.length := by
        have := (List.getElem?_eq_some_iff.mp hw).1; omega
      rw [List.getElem?_append_left (by omega), hi2, hw] at e1
      cases e1
      rw [List.getElem?_append_right (by omega)] at e2
      have : i + 1 - F.length = 0 := by omega
      rw [this] at e2
      simp at e2
      subst e2
      exact h2
theorem e_kn_life (r : Rg) (h1 : r.lo ≤ r.hi) (h2 : 0 ≤ r.most ∧ r.most ≤ 3 ∧ -100 ≤ r.lo ∧ r.hi ≤ 100) (last : Nat) (hl : last ≤ 100) {b : Nat} {s : S} (h : Gd (b + last + 1) s) : ∃ (F : List Int) (s' : S), r__law_kn_life [.s, .d (.tuple [.int r.lo, .int r.hi, .int r.most]), .d (.int last)] s = some (.lst (F.map fun x => .fz (.int x)), s') ∧ F.length = last + 1 ∧ LifeP r F ∧ Gd b s' := by
  obtain ⟨v, s1, e1, v0, v1, g1⟩ := draw_ok (r.hi - r.lo + 1) h (by omega) (by omega)
  have key := for_all (tg := .nm 7) (n := l1__law_kn_life) (f := fun i : Nat => PyData.int (i : Nat)) (l := List.range last) (J := fun l g s => ∃ (F : List Int) (x y : Option Sl), F.length + l.length = last + 1 ∧ F ≠ [] ∧ LifeP r F ∧ Gd (b + l.length) s ∧ g = [some .s, some (.t (.fz (.tuple [.int r.lo, .int r.hi, .int r.most]))), some (.t (.fz (.int last))), some (.t (.fz (.int r.lo))), some (.t (.fz (.int r.hi))), some (.t (.fz (.int r.most))), some (.t (.lst (F.map fun x => .fz (.int x)))), x, y]) (g := [some .s, some (.t (.fz (.tuple [.int r.lo, .int r.hi, .int r.most]))), some (.t (.fz (.int last))), some (.t (.fz (.int r.lo))), some (.t (.fz (.int r.hi))), some (.t (.fz (.int r.most))), some (.t (.lst [.fz (.int (r.lo + v))])), none, none]) (s := s1) ⟨[r.lo + v], none, none, by simp; omega, by simp, ⟨by simp; omega, by
      intro i x y e1 e2; simp at e2⟩, by simpa using g1, rfl⟩ (by
    rintro l0 i l' g s hl2 ⟨F, a, c, hF, hne, hL, hg, rfl⟩
    obtain ⟨w, hw⟩ : ∃ w, F.getLast? = some w := by
      cases hh : F.getLast? with
      | none => exact absurd (List.getLast?_eq_none_iff.mp hh) hne
      | some w => exact ⟨w, rfl⟩
    obtain ⟨u, t1, d1, u0, u1, k1⟩ := draw_ok (b := b + l'.length) (2 * r.most + 1) (hg.mono (by simp; omega)) (by omega) (by omega)
    have hwr := hL.inr w (List.mem_of_getLast? hw)
    simp at hF
    simp (disch := first | assumption | omega | (refine List.mem_range.mp ?_; assumption)) [-Prod.forall, -Prod.exists, l1__law_kn_life, hw, d1]
    refine ⟨F ++ [max r.lo (min r.hi (w + u - r.most))], by simp; omega, by simp, hL.snoc hw (by omega) (by omega), k1, by simp⟩)
  obtain ⟨g', s', e, F, x, y, hF, hne, hL, hg, rfl⟩ := key
  refine ⟨F, s', ?_, by simpa using hF, hL, hg⟩
  simp (disch := first | assumption | omega | (refine List.mem_range.mp ?_; assumption)) [r__law_kn_life, b__law_kn_life, ev_runS, e1] at e ⊢
  simp [e]
/-- what is told of lives -/
theorem e_kn_told {rs : List Row} (ok : RgOk rs) {b : Nat} {s : S} (h : Gd (b + 200) s) : ∃ (ts : List Tl) (F : Row → List Int) (last : Nat) (s' : S) (t : T), r__law_kn_told [.s, .d (rgD rs), .d (.int 6)] s = some (t, s') ∧ t.d = .tuple [tlD ts, lvD rs F] ∧ TlOk rs ts ∧ last ≤ 11 ∧ (∀ p ∈ rs, (F p).length = last + 1 ∧ LifeP p.2 (F p)) ∧ (∀ p ∈ rs, ∀ t ∈ ts, t.st = p.1 → (F p)[t.at_]? = some t.had) ∧ Gd b s' := by
  have h2 := ok.len
  obtain ⟨lastv, s1, e1, lv, g1⟩ := draw_nat 12 (h.mono (a := b + 199 + 1) (by omega)) (by omega) (by omega)
  obtain ⟨F, s2, e2, hF, g2⟩ := lcD_ch (Φ := fun (p : Row) _ s => stK3 (tupK (consK2 (.t (.fz (.str p.1))) (consK mNil [some .s, some (.t (.fz (rgD rs))), some (.t (.fz (.int 6))), some (.t (.fz (.int lastv))), none, none, none, some (.t (.fz (.str p.1))), none] (retTS (r__law_kn_life [.s, .d (.tuple [.int p.2.lo, .int p.2.hi, .int p.2.most]), .d (.int lastv)] s))))))
    (fun (p : Row) (F : List Int) => T.tup [.fz (.str p.1), .lst (F.map fun x => .fz (.int x))]) (fun p F => F.length = lastv + 1 ∧ LifeP p.2 F) (fun n s => Gd (b + 30 + 13 * n) s) (n := 0) (l := rs) (s := s1) (nd_of ok.nd) (fun p hp n s j => by
      have hp := ok.ok p hp
      obtain ⟨F, t1, d1, hF, hL, k1⟩ := e_kn_life p.2 hp.1 ⟨hp.2.1, hp.2.2.1, hp.2.2.2⟩ lastv (by omega) (b := b + 30 + 13 * n) (j.mono (by omega))
      exact ⟨F, t1, by simp [d1], ⟨hF, hL⟩, k1⟩) (g1.mono (by omega))
  have pu := puts_own (fun p : Row => p.1) (fun p => T.lst ((F p).map fun x => .fz (.int x))) rs ok.nd
  have h3 := find_row ok.nd
  obtain ⟨many, s3, e3, mv, g3⟩ := draw_nat 7 (g2.mono (a := b + 28 + 1) (by omega)) (by omega) (by omega)
  have key := for_all (tg := .nm 6) (n := l1__law_kn_told) (f := fun i : Nat => PyData.int (i : Nat)) (l := List.range many) (J := fun l g s => ∃ (ts : List Tl) (vs : List T) (x y z : Option Sl), TlOk rs ts ∧ (∀ p ∈ rs, ∀ t ∈ ts, t.st = p.1 → (F p)[t.at_]? = some t.had) ∧ ts.length + l.length ≤ 10 ∧ vs.map T.d = ts.map (fun t => .tuple [.str t.st, .int t.at_, .int t.had]) ∧ Gd (b + 4 * l.length) s ∧ g = [some .s, some (.t (.fz (rgD rs))), some (.t (.fz (.int 6))), some (.t (.fz (.int lastv))), some (.t (.fz (lvD rs F))), some (.t (.lst vs)), x, y, z]) (g := [some .s, some (.t (.fz (rgD rs))), some (.t (.fz (.int 6))), some (.t (.fz (.int lastv))), some (.t (.fz (lvD rs F))), some (.t (.lst [])), none, none, none]) (s := s3) ⟨[], [], none, none, none, ⟨by simp, by simp, by simp⟩, by simp, by simp; omega, rfl, g3.mono (by simp; omega), rfl⟩ (by
    rintro l0 i l' g s hl2 ⟨ts, vs, x, y, z, tk, hv, hlen, hvs, hg, rfl⟩
    obtain ⟨x1, hx1, t1, d1, k1⟩ := e_pick PyData.str (rs.map fun p => p.1) (b := b + 4 * l'.length + 3) (hg.mono (by simp; omega)) (by simpa using ok.ne) (by simp; omega)
    obtain ⟨p, hp, rfl⟩ := List.mem_map.mp hx1
    obtain ⟨u, t2, d2, hu, k2⟩ := draw_nat ((lastv : Int) + 1) (k1.mono (a := b + 4 * l'.length + 1) (by omega)) (by omega) (by omega)
    have hFp := (hF p hp).1
    obtain ⟨w, hget⟩ : ∃ w, (F p)[u]? = some w := ⟨_, List.getElem?_eq_getElem (by omega)⟩
    have hvl : vs.length ≤ 10 := by
      have := congrArg List.length hvs
      simp at this; omega
    have h4 := h3 p hp
    have h5 := ok.srt
    simp at d1
    simp (disch := first | assumption | omega | (refine List.mem_range.mp ?_; assumption)) [-Prod.forall, -Prod.exists, l1__law_kn_told, h5, d1, d2, h4, hget]
    refine ⟨ts ++ [⟨p.1, u, w⟩], ⟨?_, ?_, ?_⟩, ?_, ?_, ?_⟩
    · intro t ht
      rcases List.mem_append.mp ht with ht | ht
      · exact tk.nm t ht
      · simp at ht; subst ht; exact hx1
    · intro t ht
      rcases List.mem_append.mp ht with ht | ht
      · exact tk.at_ t ht
      · simp at ht; subst ht; simp only; omega
    · simp at hlen ⊢; omega
    · intro q hq t ht e
      rcases List.mem_append.mp ht with ht | ht
      · exact hv q hq t ht e
      · simp at ht; subst ht
        simp only at e
        have : q = p := by
          have h6 := h3 q hq
          rw [← e, h4] at h6
          exact (Option.some.inj h6).symm
        subst this
        exact hget
    · simp at hlen ⊢; omega
    · refine ⟨?_, k2⟩
      simp [hvs]
      exact (List.getElem?_eq_some_iff.mp hget).2)
  obtain ⟨g', s', e, ts, vs, x, y, z, tk, hv, hlen, hvs, hg, rfl⟩ := key
  refine ⟨ts, F, lastv, s', .tup [.fz (.list (vs.map T.d)), .fz (lvD rs F)], ?_, by simp [hvs], tk, by omega, hF, hv, hg⟩
  simp (disch := first | assumption | omega | (refine List.mem_range.mp ?_; assumption)) [r__law_kn_told, b__law_kn_told, ev_runS, e1, h3, e2, pu, e3] at e ⊢
  simp [e]
end Lk29

namespace Lk29
open PySem PySem.Spec PyProof.Rows L2 DV
theorem mem_mine {ts : List Tl} {x : Str} {t : Tl} : t ∈ mineOf ts x ↔ t ∈ ts ∧ t.st = x := by unfold mineOf; simp
theorem lo_le {ts : List Tl} {p : Row} {h b : Int} (h1 : p.2.lo ≤ b) (h2 : ∀ t ∈ ts, t.st = p.1 → t.had - p.2.most * ((t.at_ : Int) - h).natAbs ≤ b) : loAt ts p h ≤ b := by
  unfold loAt
  have := maxL_mem (l := p.2.lo :: (mineOf ts p.1).map fun t => t.had - p.2.most * ((t.at_ : Int) - h).natAbs) (List.cons_ne_nil _ _)
  rcases List.mem_cons.mp this with e | e
  · rw [e]; exact h1
  · obtain ⟨t, ht, e⟩ := List.mem_map.mp e
    rw [← e]
    exact h2 t (mem_mine.mp ht).1 (mem_mine.mp ht).2
theorem lo_ge (ts : List Tl) (p : Row) (h : Int) : p.2.lo ≤ loAt ts p h := maxL_le List.mem_cons_self
theorem lo_ge_t {ts : List Tl} {p : Row} (h : Int) {t : Tl} (ht : t ∈ ts) (e : t.st = p.1) : t.had - p.2.most * ((t.at_ : Int) - h).natAbs ≤ loAt ts p h :=
  maxL_le (List.mem_cons_of_mem _ (List.mem_map_of_mem (f := fun t : Tl => t.had - p.2.most * ((t.at_ : Int) - h).natAbs) (mem_mine.mpr ⟨ht, e⟩)))
theorem hi_ge {ts : List Tl} {p : Row} {h b : Int} (h1 : b ≤ p.2.hi) (h2 : ∀ t ∈ ts, t.st = p.1 → b ≤ t.had + p.2.most * ((t.at_ : Int) - h).natAbs) : b ≤ hiAt ts p h := by
  unfold hiAt
  have := minL_mem (l := p.2.hi :: (mineOf ts p.1).map fun t => t.had + p.2.most * ((t.at_ : Int) - h).natAbs) (List.cons_ne_nil _ _)
  rcases List.mem_cons.mp this with e | e
  · rw [e]; exact h1
  · obtain ⟨t, ht, e⟩ := List.mem_map.mp e
    rw [← e]
    exact h2 t (mem_mine.mp ht).1 (mem_mine.mp ht).2
theorem hi_le (ts : List Tl) (p : Row) (h : Int) : hiAt ts p h ≤ p.2.hi := minL_le List.mem_cons_self
theorem hi_le_t {ts : List Tl} {p : Row} (h : Int) {t : Tl} (ht : t ∈ ts) (e : t.st = p.1) : hiAt ts p h ≤ t.had + p.2.most * ((t.at_ : Int) - h).natAbs :=
  minL_le (List.mem_cons_of_mem _ (List.mem_map_of_mem (f := fun t : Tl => t.had + p.2.most * ((t.at_ : Int) - h).natAbs) (mem_mine.mpr ⟨ht, e⟩)))
/-- two hours of a life -/
theorem near_two {r : Rg} {F : List Int} (h0 : 0 ≤ r.most) (h : LifeP r F) : ∀ (d i : Nat) (x y : Int), F[i]? = some x → F[i + d]? = some y → ((x - y).natAbs : Int) ≤ r.most * d
  | 0, i, x, y, e1, e2 => by
    rw [Nat.add_zero, e1] at e2
    cases e2
    simp
  | d + 1, i, x, y, e1, e2 => by
    have hl := (List.getElem?_eq_some_iff.mp e2).1
    obtain ⟨z, ez⟩ : ∃ z, F[i + d]? = some z := ⟨_, List.getElem?_eq_getElem (by omega)⟩
    have ih := near_two h0 h d i x z e1 ez
    have h2 := h.near (i + d) z y ez e2
    have : r.most * ((d + 1 : Nat) : Int) = r.most * d + r.most := by rw [Int.natCast_add, Int.mul_add]; simp
    rw [this]
    omega
theorem near_ab {r : Rg} {F : List Int} (h0 : 0 ≤ r.most) (h : LifeP r F) (i j : Nat) (x y : Int) (e1 : F[i]? = some x) (e2 : F[j]? = some y) : ((x - y).natAbs : Int) ≤ r.most * ((i : Int) - j).natAbs := by
  rcases Nat.le_total i j with hl | hl
  · obtain ⟨d, rfl⟩ := Nat.exists_eq_add_of_le hl
    have := near_two h0 h d i x y e1 e2
    have e : ((i : Int) - ((i + d : Nat) : Int)).natAbs = d := by omega
    rw [e]; exact this
  · obtain ⟨d, rfl⟩ := Nat.exists_eq_add_of_le hl
    have := near_two h0 h d j y x e2 e1
    have e : (((j + d : Nat) : Int) - (j : Int)).natAbs = d := by omega
    rw [e]; omega
/-- what is told is so -/
def Says (ts : List Tl) (p : Row) (F : List Int) : Prop := ∀ t ∈ ts, t.st = p.1 → F[t.at_]? = some t.had
theorem lo_life {ts : List Tl} {p : Row} {F : List Int} (h0 : 0 ≤ p.2.most) (hL : LifeP p.2 F) (hS : Says ts p F) {h : Nat} {x : Int} (e : F[h]? = some x) : loAt ts p h ≤ x ∧ x ≤ hiAt ts p h := by
  have hr := hL.inr x (List.mem_of_getElem? e)
  refine ⟨lo_le hr.1 fun t ht et => ?_, hi_ge hr.2 fun t ht et => ?_⟩
  · have := near_ab h0 hL t.at_ h _ _ (hS t ht et) e
    omega
  · have := near_ab h0 hL t.at_ h _ _ (hS t ht et) e
    omega
theorem mul_near {m : Int} (h0 : 0 ≤ m) (a h : Int) : m * ((a - h).natAbs : Int) ≤ m * ((a - (h + 1)).natAbs : Int) + m ∧ m * ((a - (h + 1)).natAbs : Int) ≤ m * ((a - h).natAbs : Int) + m := by
  have e1 : ((a - h).natAbs : Int) ≤ ((a - (h + 1)).natAbs : Int) + 1 := by omega
  have e2 : ((a - (h + 1)).natAbs : Int) ≤ ((a - h).natAbs : Int) + 1 := by omega
  have e3 := Int.mul_le_mul_of_nonneg_left e1 h0
  have e4 := Int.mul_le_mul_of_nonneg_left e2 h0
  rw [Int.mul_add, Int.mul_one] at e3 e4
  exact ⟨e3, e4⟩
theorem lo_near {ts : List Tl} {p : Row} (h0 : 0 ≤ p.2.most) (h : Int) : ((loAt ts p h - loAt ts p (h + 1)).natAbs : Int) ≤ p.2.most := by
  have a : loAt ts p h ≤ loAt ts p (h + 1) + p.2.most := lo_le (by have := lo_ge ts p (h + 1); omega) fun t ht e => by
    have := lo_ge_t (h + 1) ht e
    have := mul_near h0 t.at_ h
    omega
  have b : loAt ts p (h + 1) ≤ loAt ts p h + p.2.most := lo_le (by have := lo_ge ts p h; omega) fun t ht e => by
    have := lo_ge_t h ht e
    have := mul_near h0 t.at_ h
    omega
  omega
theorem hi_near {ts : List Tl} {p : Row} (h0 : 0 ≤ p.2.most) (h : Int) : ((hiAt ts p h - hiAt ts p (h + 1)).natAbs : Int) ≤ p.2.most := by
  have a : hiAt ts p (h + 1) - p.2.most ≤ hiAt ts p h := hi_ge (by have := hi_le ts p (h + 1); omega) fun t ht e => by
    have := hi_le_t (h + 1) ht e
    have := mul_near h0 t.at_ h
    omega
  have b : hiAt ts p h - p.2.most ≤ hiAt ts p (h + 1) := hi_ge (by have := hi_le ts p h; omega) fun t ht e => by
    have := hi_le_t h ht e
    have := mul_near h0 t.at_ h
    omega
  omega
/-- lives of all stores, by what is told -/
structure Lv (rs : List Row) (ts : List Tl) (n : Nat) (F : Row → List Int) : Prop where
  len : ∀ p ∈ rs, (F p).length = n + 1
  life : ∀ p ∈ rs, LifeP p.2 (F p)
  says : ∀ p ∈ rs, Says ts p (F p)
theorem at_last {ts : List Tl} {t : Tl} (ht : t ∈ ts) : t.at_ ≤ lastN ts := by
  have h7 : (t.at_ : Int) ≤ maxL (0 :: ts.map fun t => (t.at_ : Int)) := maxL_le (List.mem_cons_of_mem _ (List.mem_map_of_mem (f := fun t : Tl => (t.at_ : Int)) ht))
  rw [last_eq] at h7
  omega
theorem last_le {ts : List Tl} {n : Nat} (h : ∀ t ∈ ts, t.at_ ≤ n) : lastN ts ≤ n := by
  have h6 := maxL_mem (l := 0 :: ts.map fun t => (t.at_ : Int)) (List.cons_ne_nil _ _)
  rw [last_eq] at h6
  rcases List.mem_cons.mp h6 with h6 | h6
  · omega
  · obtain ⟨u, hu, eu⟩ := List.mem_map.mp h6
    have := h u hu
    omega
theorem Lv.calm {rs : List Row} {ts : List Tl} {n : Nat} {F : Row → List Int} (ok : RgOk rs) (l : Lv rs ts n F) : Calm rs ts :=
  ⟨fun p hp t ht e => (l.life p hp).inr _ (List.mem_of_getElem? (l.says p hp t ht e)), fun p hp t ht u hu e e2 => near_ab (ok.ok p hp).2.1 (l.life p hp) _ _ _ _ (l.says p hp t ht e) (l.says p hp u hu e2)⟩
theorem Lv.are {rs : List Row} {ts : List Tl} {n : Nat} {F : Row → List Int} (tk : TlOk rs ts) (l : Lv rs ts n F) : areB rs ts F = true := by
  unfold areB
  rw [Bool.and_eq_true, List.all_eq_true, List.all_eq_true]
  refine ⟨fun p hp => (lifeB_iff _ _).mpr (l.life p hp), fun t ht => ?_⟩
  obtain ⟨h1, h2, h3⟩ := find_rowOf (tk.nm t ht)
  have := l.says _ h2 t ht h3.symm
  unfold valOf
  rw [List.getD_eq_getElem?_getD, this]
  simp
theorem Lv.cut {rs : List Row} {ts : List Tl} {n : Nat} {F : Row → List Int} (l : Lv rs ts n F) (h : lastN ts ≤ n) : Lv rs ts (lastN ts) fun p => (F p).take (lastN ts + 1) := by
  refine ⟨fun p hp => by rw [List.length_take, l.len p hp]; omega, fun p hp => ⟨fun x hx => (l.life p hp).inr x (List.mem_of_mem_take hx), fun i x y e1 e2 => ?_⟩, fun p hp t ht e => ?_⟩
  · have h2 := (List.getElem?_eq_some_iff.mp e2).1
    rw [List.length_take] at h2
    rw [List.getElem?_take_of_lt (by omega)] at e1 e2
    exact (l.life p hp).near i x y e1 e2
  · have := at_last ht
    rw [List.getElem?_take_of_lt (by omega)]
    exact l.says p hp t ht e
theorem rng_get (f : Int → Int) (n h : Nat) (hh : h ≤ n) : ((List.range (n + 1)).map fun h : Nat => f h)[h]? = some (f h) := by
  rw [List.getElem?_map, List.getElem?_range (by omega)]; rfl
theorem rng_get' {f : Int → Int} {n h : Nat} {x : Int} (e : ((List.range (n + 1)).map fun h : Nat => f h)[h]? = some x) : x = f h ∧ h ≤ n := by
  have hl := (List.getElem?_eq_some_iff.mp e).1
  simp at hl
  rw [rng_get f n h (by omega)] at e
  exact ⟨(Option.some.inj e).symm, by omega⟩
theorem Lv.lo {rs : List Row} {ts : List Tl} {F : Row → List Int} (ok : RgOk rs) (l : Lv rs ts (lastN ts) F) : Lv rs ts (lastN ts) (loL ts (lastN ts)) := by
  refine ⟨fun p hp => by simp [loL], fun p hp => ⟨fun x hx => ?_, fun i x y e1 e2 => ?_⟩, fun p hp t ht e => ?_⟩
  · obtain ⟨h, hh, rfl⟩ := List.mem_map.mp hx
    have hl : h < (F p).length := by rw [l.len p hp]; simpa using hh
    have a := lo_life (ok.ok p hp).2.1 (l.life p hp) (l.says p hp) (List.getElem?_eq_getElem hl)
    have b := (l.life p hp).inr _ (List.getElem_mem hl)
    exact ⟨lo_ge _ _ _, by omega⟩
  · obtain ⟨rfl, _⟩ := rng_get' e1
    obtain ⟨rfl, _⟩ := rng_get' e2
    have := lo_near (ts := ts) (ok.ok p hp).2.1 (i : Int)
    simpa using this
  · show ((List.range (lastN ts + 1)).map fun h : Nat => loAt ts p h)[t.at_]? = _
    rw [rng_get (fun h => loAt ts p h) _ _ (at_last ht)]
    have a := lo_life (ok.ok p hp).2.1 (l.life p hp) (l.says p hp) (l.says p hp t ht e)
    have b := lo_ge_t (ts := ts) (p := p) (t.at_ : Int) ht e
    simp at b
    congr 1
    omega
theorem Lv.hi {rs : List Row} {ts : List Tl} {F : Row → List Int} (ok : RgOk rs) (l : Lv rs ts (lastN ts) F) : Lv rs ts (lastN ts) (hiL ts (lastN ts)) := by
  refine ⟨fun p hp => by simp [hiL], fun p hp => ⟨fun x hx => ?_, fun i x y e1 e2 => ?_⟩, fun p hp t ht e => ?_⟩
  · obtain ⟨h, hh, rfl⟩ := List.mem_map.mp hx
    have hl : h < (F p).length := by rw [l.len p hp]; simpa using hh
    have a := lo_life (ok.ok p hp).2.1 (l.life p hp) (l.says p hp) (List.getElem?_eq_getElem hl)
    have b := (l.life p hp).inr _ (List.getElem_mem hl)
    exact ⟨by omega, hi_le _ _ _⟩
  · obtain ⟨rfl, _⟩ := rng_get' e1
    obtain ⟨rfl, _⟩ := rng_get' e2
    have := hi_near (ts := ts) (ok.ok p hp).2.1 (i : Int)
    simpa using this
  · show ((List.range (lastN ts + 1)).map fun h : Nat => hiAt ts p h)[t.at_]? = _
    rw [rng_get (fun h => hiAt ts p h) _ _ (at_last ht)]
    have a := lo_life (ok.ok p hp).2.1 (l.life p hp) (l.says p hp) (l.says p hp t ht e)
    have b := hi_le_t (ts := ts) (p := p) (t.at_ : Int) ht e
    simp at b
    congr 1
    omega
def grt (F G : Row → List Int) (p : Row) : List Int := List.zipWith max (F p) (G p)
def les (F G : Row → List Int) (p : Row) : List Int := List.zipWith min (F p) (G p)
theorem zip_get {f : Int → Int → Int} {F G : List Int} {i : Nat} {x : Int} (h : (List.zipWith f F G)[i]? = some x) : ∃ a b, F[i]? = some a ∧ G[i]? = some b ∧ x = f a b := by
  rw [List.getElem?_zipWith] at h
  cases e1 : F[i]? with
  | none => rw [e1] at h; cases h
  | some a =>
    cases e2 : G[i]? with
    | none => rw [e1, e2] at h; cases h
    | some b => rw [e1, e2] at h; exact ⟨a, b, rfl, rfl, (Option.some.inj h).symm⟩
theorem Lv.grt {rs : List Row} {ts : List Tl} {n : Nat} {F G : Row → List Int} (l : Lv rs ts n F) (k : Lv rs ts n G) : Lv rs ts n (grt F G) := by
  refine ⟨fun p hp => by unfold Lk29.grt; rw [List.length_zipWith, l.len p hp, k.len p hp]; omega, fun p hp => ⟨fun x hx => ?_, fun i x y e1 e2 => ?_⟩, fun p hp t ht e => ?_⟩
  · obtain ⟨i, e⟩ := List.mem_iff_getElem?.mp hx
    obtain ⟨a, b, ea, eb, rfl⟩ := zip_get e
    have := (l.life p hp).inr a (List.mem_of_getElem? ea)
    have := (k.life p hp).inr b (List.mem_of_getElem? eb)
    omega
  · obtain ⟨a, b, ea, eb, rfl⟩ := zip_get e1
    obtain ⟨c, d, ec, ed, rfl⟩ := zip_get e2
    have := (l.life p hp).near i a c ea ec
    have := (k.life p hp).near i b d eb ed
    omega
  · unfold Lk29.grt
    rw [List.getElem?_zipWith, l.says p hp t ht e, k.says p hp t ht e]
    simp
theorem Lv.les {rs : List Row} {ts : List Tl} {n : Nat} {F G : Row → List Int} (l : Lv rs ts n F) (k : Lv rs ts n G) : Lv rs ts n (les F G) := by
  refine ⟨fun p hp => by unfold Lk29.les; rw [List.length_zipWith, l.len p hp, k.len p hp]; omega, fun p hp => ⟨fun x hx => ?_, fun i x y e1 e2 => ?_⟩, fun p hp t ht e => ?_⟩
  · obtain ⟨i, e⟩ := List.mem_iff_getElem?.mp hx
    obtain ⟨a, b, ea, eb, rfl⟩ := zip_get e
    have := (l.life p hp).inr a (List.mem_of_getElem? ea)
    have := (k.life p hp).inr b (List.mem_of_getElem? eb)
    omega
  · obtain ⟨a, b, ea, eb, rfl⟩ := zip_get e1
    obtain ⟨c, d, ec, ed, rfl⟩ := zip_get e2
    have := (l.life p hp).near i a c ea ec
    have := (k.life p hp).near i b d eb ed
    omega
  · unfold Lk29.les
    rw [List.getElem?_zipWith, l.says p hp t ht e, k.says p hp t ht e]
    simp
theorem les_lo {rs : List Row} {ts : List Tl} {F : Row → List Int} (ok : RgOk rs) (l : Lv rs ts (lastN ts) F) : ∀ p ∈ rs, les F (loL ts (lastN ts)) p = loL ts (lastN ts) p := by
  intro p hp
  refine List.ext_getElem? fun i => ?_
  unfold Lk29.les
  rw [List.getElem?_zipWith]
  by_cases h : i ≤ lastN ts
  · have hl : i < (F p).length := by rw [l.len p hp]; omega
    have e : (loL ts (lastN ts) p)[i]? = some (loAt ts p i) := rng_get (fun h => loAt ts p h) _ _ h
    have a := lo_life (ok.ok p hp).2.1 (l.life p hp) (l.says p hp) (List.getElem?_eq_getElem hl)
    rw [e, List.getElem?_eq_getElem hl]
    simp
    omega
  · rw [List.getElem?_eq_none (by rw [l.len p hp]; omega), List.getElem?_eq_none (l := loL ts (lastN ts) p) (by simp [loL]; omega)]
theorem grt_hi {rs : List Row} {ts : List Tl} {F : Row → List Int} (ok : RgOk rs) (l : Lv rs ts (lastN ts) F) : ∀ p ∈ rs, grt F (hiL ts (lastN ts)) p = hiL ts (lastN ts) p := by
  intro p hp
  refine List.ext_getElem? fun i => ?_
  unfold Lk29.grt
  rw [List.getElem?_zipWith]
  by_cases h : i ≤ lastN ts
  · have hl : i < (F p).length := by rw [l.len p hp]; omega
    have e : (hiL ts (lastN ts) p)[i]? = some (hiAt ts p i) := rng_get (fun h => hiAt ts p h) _ _ h
    have a := lo_life (ok.ok p hp).2.1 (l.life p hp) (l.says p hp) (List.getElem?_eq_getElem hl)
    rw [e, List.getElem?_eq_getElem hl]
    simp
    omega
  · rw [List.getElem?_eq_none (by rw [l.len p hp]; omega), List.getElem?_eq_none (l := hiL ts (lastN ts) p) (by simp [hiL]; omega)]
end Lk29

namespace Lk29
open PySem PySem.Spec PyProof.Rows L2 DV
theorem e_kn_last {ts : List Tl} (hl : ts.length ≤ 1000) : r__law_kn_last [tlD ts] = some (.fz (.int (lastN ts))) := by
  simp (disch := first | assumption | omega | (refine List.mem_range.mp ?_; assumption)) [r__law_kn_last, b__law_kn_last, ev_runP, last_eq]
theorem e_lv_ends {rs : List Row} {ts : List Tl} (ok : RgOk rs) (hl : ts.length ≤ 1000) : ∀ p ∈ rs, ∀ h : Int, r__law_lv_ends [rgD rs, tlD ts, .str p.1, .int h] = some (.tup [.fz (.int (loAt ts p h)), .fz (.int (hiAt ts p h))]) := by
  intro p hp h
  have lx := find_row ok.nd p hp
  have sm := sm_most ok hp
  have lm : (ts.filter fun t => decide (t.st = p.1)).length ≤ ts.length := List.length_filter_le _ _
  simp (disch := first | assumption | omega | (refine List.mem_range.mp ?_; assumption)) [loAt, hiAt, mineOf, r__law_lv_ends, b__law_lv_ends, ev_runP, lx, sm, nab]
theorem row_new {rs l0 l' : List Row} {p : Row} (nd : (rs.map (·.1)).Nodup) (h : rs = l0 ++ p :: l') : p.1 ∉ l0.map (·.1) := by
  intro hx
  rw [h, List.map_append, List.nodup_append] at nd
  exact nd.2.2 p.1 hx p.1 (by simp) rfl
theorem e_lv_all {rs : List Row} {ts : List Tl} (ok : RgOk rs) (hl : ts.length ≤ 1000) (last : Nat) (hla : last ≤ 1000) (k : Int) (G : Row → Int → Int) (hk : (k = 0 ∧ G = loAt ts) ∨ (k = 1 ∧ G = hiAt ts)) : Rt (r__law_lv_all [rgD rs, tlD ts, .int last, .int k]) (lvD rs fun p => (List.range (last + 1)).map fun h : Nat => G p h) := by
  have h4 := ok.len
  have h5 := ok.srt
  have h7 : (rs.map fun p => p.1).map PyData.str = rs.map fun p => PyData.str p.1 := by rw [List.map_map]; rfl
  have h9 : ((last : Int) + 1).toNat = last + 1 := by omega
  obtain ⟨g', s', e, ⟨x, rfl⟩, rfl⟩ := for_done (tg := .nm 5) (n := l1__law_lv_all) (f := fun p : Row => PyData.str p.1) (l := rs) (J := fun l g s => (∃ x, g = [some (.t (.fz (rgD rs))), some (.t (.fz (tlD ts))), some (.t (.fz (.int last))), some (.t (.fz (.int k))), some (.t (.dic false (l.map fun p => (.str p.1, .lst ((List.range (last + 1)).map fun h : Nat => .fz (.int (G p h))))))), x, none]) ∧ s = S0) (g := [some (.t (.fz (rgD rs))), some (.t (.fz (tlD ts))), some (.t (.fz (.int last))), some (.t (.fz (.int k))), some (.t (.dic false [])), none, none]) (s := S0) ⟨⟨none, rfl⟩, rfl⟩ (by
      rintro l0 p l' g s hl2 ⟨⟨x, rfl⟩, rfl⟩
      have hp : p ∈ rs := by rw [hl2]; simp
      have e := e_lv_ends ok hl p hp
      have hlen : l0.length ≤ 1000000 := by
        have := congrArg List.length hl2
        simp at this; omega
      have pn := put_new (fun p : Row => p.1) (fun p => T.lst ((List.range (last + 1)).map fun h : Nat => .fz (.int (G p h)))) l0 p.1 (.lst ((List.range (last + 1)).map fun h : Nat => .fz (.int (G p h)))) hlen (row_new ok.nd hl2)
      rcases hk with ⟨rfl, rfl⟩ | ⟨rfl, rfl⟩
      · simp (disch := first | assumption | omega | (refine List.mem_range.mp ?_; assumption)) [l1__law_lv_all, h9, e, pn]
      · simp (disch := first | assumption | omega | (refine List.mem_range.mp ?_; assumption)) [l1__law_lv_all, h9, e, pn])
  refine ⟨.dic false (rs.map fun p => (.str p.1, .lst ((List.range (last + 1)).map fun h : Nat => .fz (.int (G p h))))), ?_, by simp⟩
  simp (disch := first | assumption | omega | (refine List.mem_range.mp ?_; assumption)) [r__law_lv_all, b__law_lv_all, ev_runP, h5] at e ⊢
  simp [e]
theorem e_lv_both {rs : List Row} (ok : RgOk rs) (F G : Row → List Int) (hF : ∀ p ∈ rs, (F p).length ≤ 1000) : Rt (r__law_lv_both [lvD rs F, lvD rs G]) (.tuple [lvD rs (grt F G), lvD rs (les F G)]) := by
  have h3 := find_row ok.nd
  have h4 := ok.len
  have h5 := ok.srt
  have h6 : ∀ p ∈ rs, ((F p).zip (G p)).length ≤ 1000 := fun p hp => by
    have := hF p hp
    rw [List.length_zip]; omega
  have h7 : ∀ p ∈ rs, ltLen (min (F p).length (G p).length) = true := fun p hp => ltLen_of (by have := hF p hp; omega)
  have p1 := puts_own (fun p : Row => p.1) (fun p => T.lst (((F p).zip (G p)).map fun q => .fz (.int (max q.1 q.2)))) rs ok.nd
  have p2 := puts_own (fun p : Row => p.1) (fun p => T.lst (((F p).zip (G p)).map fun q => .fz (.int (min q.1 q.2)))) rs ok.nd
  have z1 : ∀ p, ((F p).zip (G p)).map (fun q => PyData.int (max q.1 q.2)) = (grt F G p).map .int := fun p => by
    unfold grt; rw [List.zip, List.map_zipWith, List.map_zipWith]
  have z2 : ∀ p, ((F p).zip (G p)).map (fun q => PyData.int (min q.1 q.2)) = (les F G p).map .int := fun p => by
    unfold les; rw [List.zip, List.map_zipWith, List.map_zipWith]
  refine ⟨.tup [.fz (lvD rs (grt F G)), .dic false (rs.map fun p => (.str p.1, .lst (((F p).zip (G p)).map fun q => .fz (.int (min q.1 q.2)))))], ?_, by simp [z2]⟩
  simp (disch := first | assumption | omega | (refine List.mem_range.mp ?_; assumption)) [r__law_lv_both, b__law_lv_both, ev_runP, h3, h5, h6, h7, p1, p2, z1]
end Lk29

namespace Lk29
open PySem PySem.Spec PyProof.Rows L2 DV
theorem e_lv_lo {rs : List Row} {ts : List Tl} (ok : RgOk rs) (hl : ts.length ≤ 1000) (last : Nat) (hla : last ≤ 1000) : Rt (r__law_lv_all [rgD rs, tlD ts, .int last, .int 0]) (lvD rs (loL ts last)) := e_lv_all ok hl last hla 0 _ (.inl ⟨rfl, rfl⟩)
theorem e_lv_hi {rs : List Row} {ts : List Tl} (ok : RgOk rs) (hl : ts.length ≤ 1000) (last : Nat) (hla : last ≤ 1000) : Rt (r__law_lv_all [rgD rs, tlD ts, .int last, .int 1]) (lvD rs (hiL ts last)) := e_lv_all ok hl last hla 1 _ (.inr ⟨rfl, rfl⟩)
theorem dd_rg {rs : List Row} (ok : RgOk rs) (k : Nat) : Dd (k + 5) (rgD rs) := by
  have h := ok.len
  have h2 := ok.nd
  rw [show k + 5 = (k + 2) + 3 from rfl, Dd_ds]
  exact ⟨by omega, h2, by simp⟩
theorem dd_tl {ts : List Tl} (h : ts.length ≤ 1000) (k : Nat) : Dd (k + 3) (tlD ts) := by
  rw [show k + 3 = (k + 2) + 1 from rfl, Dd_l]
  exact ⟨by rw [List.length_map]; omega, by simp⟩
theorem dd_lv {rs : List Row} (ok : RgOk rs) {F : Row → List Int} (hF : ∀ p ∈ rs, (F p).length ≤ 1000) (k : Nat) : Dd (k + 5) (lvD rs F) := by
  have h := ok.len
  have h2 := ok.nd
  rw [show k + 5 = (k + 2) + 3 from rfl, Dd_ds]
  refine ⟨by omega, h2, fun p hp => ?_⟩
  have := hF p hp
  simp; omega
/-- what a turn over lives asks -/
theorem e_turn {rs : List Row} {ts : List Tl} {F : Row → List Int} (ok : RgOk rs) (tk : TlOk rs ts) (hla : lastN ts ≤ 100) (l : Lv rs ts (lastN ts) F) (x0 x3 x6 x7 x10 x11 x12 x14 x15 x16 x17 x18 : Option Sl) (s : S) :
    l1__law_lv_lives_right [x0, some (.t (.fz (rgD rs))), some (.t (.fz (tlD ts))), x3, some (.t (.fz (.int (lastN ts)))), some (.t (.fz (.list [rgD rs, tlD ts]))), x6, x7, some (.t (.fz (lvD rs (loL ts (lastN ts))))), some (.t (.fz (lvD rs (hiL ts (lastN ts))))), x10, x11, x12, some (.t (.fz (lvD rs F))), x14, x15, x16, x17, x18] s =
    some (.nx, [x0, some (.t (.fz (rgD rs))), some (.t (.fz (tlD ts))), x3, some (.t (.fz (.int (lastN ts)))), some (.t (.fz (.list [rgD rs, tlD ts]))), x6, x7, some (.t (.fz (lvD rs (loL ts (lastN ts))))), some (.t (.fz (lvD rs (hiL ts (lastN ts))))), x10, x11, x12, some (.t (.fz (lvD rs F))), x14, x15, x16, x17, x18], s) := by
  have hlen : ∀ p ∈ rs, (F p).length ≤ 1000 := fun p hp => by rw [l.len p hp]; omega
  have e1 := e_law_are_lives ok tk F l.len (by omega)
  rw [l.are tk] at e1
  obtain ⟨t2, e2, d2⟩ := e_lv_both ok F (loL ts (lastN ts)) hlen
  obtain ⟨t3, e3, d3⟩ := e_lv_both ok F (hiL ts (lastN ts)) hlen
  have h2 : lvD rs (les F (loL ts (lastN ts))) = lvD rs (loL ts (lastN ts)) := congrArg PyData.dict (List.map_congr_left fun p hp => by rw [les_lo ok l p hp])
  have h3 : lvD rs (grt F (hiL ts (lastN ts))) = lvD rs (hiL ts (lastN ts)) := congrArg PyData.dict (List.map_congr_left fun p hp => by rw [grt_hi ok l p hp])
  rw [h2] at d2
  rw [h3] at d3
  have q1 := dEq_lists (fun p : Row => p.1) (loL ts (lastN ts)) ok.nd
  have q2 := dEq_lists (fun p : Row => p.1) (hiL ts (lastN ts)) ok.nd
  obtain ⟨t4, e4, d4⟩ := cp_ok (dd_lv ok hlen 8)
  have e5 := e_is_lives ok tk F l.len (by omega)
  rw [l.are tk] at e5
  have e6 := sm_ok (Dd_b 12 true)
  simp (disch := first | assumption | omega | (refine List.mem_range.mp ?_; assumption)) [l1__law_lv_lives_right, e1, e2, d2, e3, d3, q1, q2, cp_eq, sm_eq, e4, d4, e5, e6]

theorem e_lives_right {rs : List Row} {ts : List Tl} {F : Row → List Int} {n b : Nat} {s : S} (ok : RgOk rs) (tk : TlOk rs ts) (hn : n ≤ 100) (hat : ∀ t ∈ ts, t.at_ ≤ n) (l : Lv rs ts n F) (hg : Gd (b + 3) s) :
    ∃ s', r__law_lv_lives_right [.s, .d (rgD rs), .d (tlD ts), .d (lvD rs F)] s = some (.fz (.bool true), s') ∧ Gd b s' := by
  have hla : lastN ts ≤ n := last_le hat
  have h1 := tk.len
  have h4 := ok.len
  have h5 := ok.srt
  have h3 := find_row ok.nd
  have c := l.calm ok
  have lM := l.cut hla
  have hcut : ∀ p, DV.cutD (F p) none (some ((lastN ts : Int) + 1)) = (F p).take (lastN ts + 1) := fun p => by
    rw [cutD_toI _ (by omega)]
    congr 1
  generalize hM : (fun p : Row => (F p).take (lastN ts + 1)) = M at lM
  have hcut : ∀ p, DV.cutD (F p) none (some ((lastN ts : Int) + 1)) = M p := fun p => by rw [hcut, ← hM]
  have lH := lM.hi ok
  have lL := lM.lo ok
  have e1 := e_kn_last (ts := ts) (by omega)
  obtain ⟨t2, e2, d2⟩ := cp_ok (k := 13) (d := .list [rgD rs, tlD ts]) (by
    rw [Dd_l]
    refine ⟨by simp, fun x hx => ?_⟩
    simp only [List.mem_cons, List.not_mem_nil, or_false] at hx
    rcases hx with rfl | rfl
    · exact dd_rg ok 7
    · exact dd_tl (by omega) 9)
  obtain ⟨t3, e3, d3⟩ := e_lives_or_clash ok tk c (by omega)
  have hHl : ∀ p ∈ rs, (hiL ts (lastN ts) p).length ≤ 1000 := fun p hp => by rw [lH.len p hp]; omega
  obtain ⟨t4, e4, d4⟩ := cp_ok (k := 13) (d := .tuple [.str "lives", lvD rs (hiL ts (lastN ts))]) (by
    rw [Dd_t]
    refine ⟨by simp, fun x hx => ?_⟩
    simp only [List.mem_cons, List.not_mem_nil, or_false] at hx
    rcases hx with rfl | rfl
    · simp
    · exact dd_lv ok hHl 7)
  have e5 := e_law_are_lives ok tk (hiL ts (lastN ts)) lH.len (by omega)
  rw [lH.are tk] at e5
  have p6 := puts_own (fun p : Row => p.1) (fun p => T.lst ((M p).map fun x => .fz (.int x))) rs ok.nd
  obtain ⟨t7, e7, d7⟩ := e_lv_lo ok (ts := ts) (by omega) (lastN ts) (by omega)
  obtain ⟨t8, e8, d8⟩ := e_lv_hi ok (ts := ts) (by omega) (lastN ts) (by omega)
  have hall : ∀ A ∈ [M, hiL ts (lastN ts), loL ts (lastN ts), hiL ts (lastN ts)], Lv rs ts (lastN ts) A := by
    intro A hA
    simp only [List.mem_cons, List.not_mem_nil, or_false] at hA
    rcases hA with rfl | rfl | rfl | rfl
    · exact lM
    · exact lH
    · exact lL
    · exact lH
  obtain ⟨A, hA, s1, e9, g1⟩ := e_pick (lvD rs) [M, hiL ts (lastN ts), loL ts (lastN ts), hiL ts (lastN ts)] (b := b + 2) hg (by simp) (by simp)
  obtain ⟨B, hB, s2, e10, g2⟩ := e_pick (lvD rs) [M, hiL ts (lastN ts), loL ts (lastN ts), hiL ts (lastN ts)] (b := b + 1) g1 (by simp) (by simp)
  have lA := hall A hA
  have lB := hall B hB
  obtain ⟨t11, e11, d11⟩ := e_lv_both ok A B fun p hp => by rw [lA.len p hp]; omega
  obtain ⟨t12, e12, d12⟩ := e_lv_both ok M (hiL ts (lastN ts)) fun p hp => by rw [lM.len p hp]; omega
  simp only [List.map_cons, List.map_nil] at e9 e10
  have u1 := e_turn ok tk (by omega) (lA.grt lB)
  have u2 := e_turn ok tk (by omega) (lA.les lB)
  have u3 := e_turn ok tk (by omega) (lM.grt lH)
  have u4 := e_turn ok tk (by omega) (lM.les lH)
  have u5 := e_turn ok tk (by omega) lL
  have u6 := e_turn ok tk (by omega) lH
  obtain ⟨x1, hx1, s3, e13, g3⟩ := e_pick PyData.str (rs.map fun p => p.1) (b := b) g2 (by simpa using ok.ne) (by simp; omega)
  obtain ⟨q, hq, rfl⟩ := List.mem_map.mp hx1
  simp at e13
  have p14 := puts_own (fun p : Row => p.1) (fun p => T.lst ((hiL ts (lastN ts) p).map fun x => .fz (.int x))) rs ok.nd
  have hq3 := h3 q hq
  obtain ⟨w, hw⟩ : ∃ w, (hiL ts (lastN ts) q).getLast? = some w := by
    cases hh : (hiL ts (lastN ts) q).getLast? with
    | none =>
      have h6 := List.getLast?_eq_none_iff.mp hh
      have h7 := lH.len q hq
      rw [h6] at h7; simp at h7
    | some w => exact ⟨w, rfl⟩
  have hlq := lH.len q hq
  have hix := ixN_m1 (n := lastN ts + 1) (by omega)
  have htr := tRep_strs (fun p : Row => p.1) (fun p => T.lst ((hiL ts (lastN ts) p).map fun x => .fz (.int x))) q.1 (.lst (((hiL ts (lastN ts) q).map fun x => T.fz (.int x)).set (lastN ts) (.fz (.int (w + 1))))) ok.nd
  obtain ⟨O, hO, hOl⟩ : ∃ O : Row → List Int, (rs.map fun a => (PyData.str a.1, T.d (if a.1 = q.1 then T.lst (((hiL ts (lastN ts) q).map fun x => T.fz (.int x)).set (lastN ts) (.fz (.int (w + 1)))) else T.lst ((hiL ts (lastN ts) a).map fun x => T.fz (.int x))))) = rs.map (fun p => (PyData.str p.1, PyData.list ((O p).map .int))) ∧ ∀ p ∈ rs, (O p).length = lastN ts + 1 := by
    refine ⟨fun p => if p.1 = q.1 then (hiL ts (lastN ts) q).set (lastN ts) (w + 1) else hiL ts (lastN ts) p, ?_, fun p hp => ?_⟩
    · refine List.map_congr_left fun a ha => ?_
      split
      · rename_i hh
        simp only [hh, if_true]
        simp
      · rename_i hh
        simp only [hh, if_false]
        simp
    · simp only
      split
      · rw [List.length_set, hlq]
      · exact lH.len p hp
  have e16 := e_is_lives ok tk O hOl (by omega)
  have e17 := e_law_are_lives ok tk O hOl (by omega)
  have e18 := sm_ok (k := 13) (d := .list [.bool (areB rs ts O), .list [rgD rs, tlD ts]]) (by
    rw [Dd_l]
    refine ⟨by simp, fun x hx => ?_⟩
    simp only [List.mem_cons, List.not_mem_nil, or_false] at hx
    rcases hx with rfl | rfl
    · simp
    · rw [Dd_l]
      refine ⟨by simp, fun x hx => ?_⟩
      simp only [List.mem_cons, List.not_mem_nil, or_false] at hx
      rcases hx with rfl | rfl
      · exact dd_rg ok 6
      · exact dd_tl (by omega) 8)
  refine ⟨s3, ?_, g3⟩
  simp (disch := first | assumption | omega | (refine List.mem_range.mp ?_; assumption)) [r__law_lv_lives_right, b__law_lv_lives_right, ev_runS, cp_eq, sm_eq, e1, e2, d2, e3, d3, e4, d4, e5, p6, h3, h5, hcut, e7, d7, e8, d8, e9, e10, e11, d11, e12, d12, forL_cons, u1, u2, u3, u4, u5, u6, e13, p14, hq3, hw, hlq, hix, htr, hO, e16, e17, e18]
end Lk29

namespace Lk29
open PySem PySem.Spec PyProof.Rows L2 DV
abbrev endsD (rs : List Row) (us : List Tl) (h : Nat) : D := .dict (rs.map fun p => (.str p.1, .tuple [.int (loAt us p h), .int (hiAt us p h)]))
abbrev widD (rs : List Row) (us : List Tl) (h : Nat) : D := .dict (rs.map fun p => (.str p.1, .int (hiAt us p h - loAt us p h)))
/-- what a turn over tellings asks -/
theorem e_turn2 {rs : List Row} {us t1 t2 t3 : List Tl} (ok : RgOk rs) (tk : TlOk rs us) (c : Calm rs us) (k1 : TlOk rs t1) (k2 : TlOk rs t2) (k3 : TlOk rs t3) (c3 : Calm rs t3) {h : Nat} (hh : h ≤ 100) (hw : loW rs us h ≤ loW rs t3 h) {b : Nat} {s : S} (hg : Gd (b + 1) s) (vs : List T) (hvs : vs.length ≤ 10) (x8 x9 x10 x11 x12 x13 x14 x15 x16 x17 : Option Sl) :
    Nx (fun g s => Gd b s ∧ ∃ x9 x10 x11 x12 x13, g = [some .s, some (.t (.fz (rgD rs))), some (.t (.fz (.list [tlD t1, tlD t2]))), some (.t (.fz (tlD t3))), some (.t (.fz (.int h))), some (.t (.fz (.list [rgD rs, .list [tlD t1, tlD t2], tlD t3]))), some (.t (.lst (vs ++ [.fz (endsD rs us h)]))), some (.t (.fz (tlD us))), some (.t (.fz (endsD rs us h))), x9, x10, x11, x12, x13, x14, x15, x16, x17])
      (l1__law_lv_put_right [some .s, some (.t (.fz (rgD rs))), some (.t (.fz (.list [tlD t1, tlD t2]))), some (.t (.fz (tlD t3))), some (.t (.fz (.int h))), some (.t (.fz (.list [rgD rs, .list [tlD t1, tlD t2], tlD t3]))), some (.t (.lst vs)), some (.t (.fz (tlD us))), x8, x9, x10, x11, x12, x13, x14, x15, x16, x17] s) := by
  have h1 := tk.len
  have h4 := ok.len
  have h5 := ok.srt
  have h3 := find_row ok.nd
  have e1 := e_lv_ends ok (ts := us) (by omega)
  have p2 := puts_own (fun p : Row => p.1) (fun p => T.tup [.fz (.int (loAt us p h)), .fz (.int (hiAt us p h))]) rs ok.nd
  have p3 := puts_own (fun p : Row => p.1) (fun p => T.fz (.int (hiAt us p h - loAt us p h))) rs ok.nd
  have e4 := e_can_have ok tk c h
  obtain ⟨t5, e5, d5⟩ := cp_ok (dd_tl (ts := us) (by omega) 10)
  have e6 := e_whole_between ok tk c h
  obtain ⟨t7, e7, d7⟩ := e_open_widths ok tk c h
  obtain ⟨v, s1, e8, v0, v1, g1⟩ := draw_ok 5 hg (by omega) (by omega)
  obtain ⟨ds, ⟨t9, e9, d9⟩, _⟩ := e_sure ok tk c h hh (loW rs us h + v - 1)
  obtain ⟨ds3, ⟨t10, e10, d10⟩, hd3⟩ := e_sure ok k3 c3 h hh (loW rs us h + v - 1)
  have hl : (rs.map fun p => loAt us p h).sum = loW rs us h := rfl
  have hi : (rs.map fun p => hiAt us p h).sum = hiW rs us h := rfl
  have e11 := sm_ok (Dd_b 12 true)
  have e12 := sm_ok (k := 13) (d := .list [.list ((rs.map fun p => .tuple [.int (loAt us p h), .int (hiAt us p h)]) ++ [.tuple [.int (loW rs us h), .int (hiW rs us h)], widD rs us h, .str (wordOf (loW rs us h) (hiW rs us h) (loW rs us h + v - 1))]), .list [rgD rs, .list [tlD t1, tlD t2], tlD t3]]) (by
    have q1 := dd_rg ok 6
    have q2 := dd_tl (ts := t1) (by have := k1.len; omega) 7
    have q3 := dd_tl (ts := t2) (by have := k2.len; omega) 7
    have q4 := dd_tl (ts := t3) (by have := k3.len; omega) 8
    have q5 : Dd 11 (widD rs us h) := by
      rw [show 11 = 8 + 3 from rfl, Dd_ds]
      exact ⟨by omega, ok.nd, by simp⟩
    rw [Dd_l]
    refine ⟨by simp, fun x hx => ?_⟩
    simp only [List.mem_cons, List.not_mem_nil, or_false] at hx
    rcases hx with rfl | rfl
    · rw [Dd_l]
      refine ⟨by simp; omega, fun x hx => ?_⟩
      rcases List.mem_append.mp hx with hx | hx
      · obtain ⟨p, _, rfl⟩ := List.mem_map.mp hx
        simp
      · simp only [List.mem_cons, List.not_mem_nil, or_false] at hx
        rcases hx with rfl | rfl | rfl
        · simp
        · exact q5
        · simp
    · rw [Dd_l]
      refine ⟨by simp, fun x hx => ?_⟩
      simp only [List.mem_cons, List.not_mem_nil, or_false] at hx
      rcases hx with rfl | rfl | rfl
      · exact q1
      · rw [Dd_l]
        refine ⟨by simp, fun x hx => ?_⟩
        simp only [List.mem_cons, List.not_mem_nil, or_false] at hx
        rcases hx with rfl | rfl
        · exact q2
        · exact q3
      · exact q4)
  have e13 := sm_ok (k := 13) (d := .tuple [.str "yes"]) (by simp)
  have hwd : (if loW rs us h + v - 1 ≤ loW rs us h then ("yes" : Str) else if hiW rs us h < loW rs us h + v - 1 then "no" else "open") = wordOf (loW rs us h) (hiW rs us h) (loW rs us h + v - 1) := rfl
  simp (disch := first | assumption | omega | (refine List.mem_range.mp ?_; assumption)) [-Prod.forall, -Prod.exists, l1__law_lv_put_right, cp_eq, sm_eq, h3, h5, e1, p2, p3, e4, e5, d5, e6, e7, d7, e8, e9, d9, e11, e12, hl, hi, hwd]
  by_cases hy : wordOf (loW rs us h) (hiW rs us h) (loW rs us h + v - 1) = "yes"
  · have hle : loW rs us h + v - 1 ≤ loW rs us h := by
      unfold wordOf at hy
      split at hy
      · assumption
      · exfalso
        split at hy
        · revert hy; decide +kernel
        · revert hy; decide +kernel
    have hw3 : wordOf (loW rs t3 h) (hiW rs t3 h) (loW rs us h + v - 1) = "yes" := by
      unfold wordOf
      rw [if_pos (by omega)]
    rw [hd3 (by omega), hw3] at d10
    simp (disch := first | assumption | omega | (refine List.mem_range.mp ?_; assumption)) [-Prod.forall, -Prod.exists, hy, e10, d10, e13]
    exact g1
  · simp (disch := first | assumption | omega | (refine List.mem_range.mp ?_; assumption)) [-Prod.forall, -Prod.exists, hy]
    exact g1
theorem wle {rs : List Row} {us ts : List Tl} {h : Int} (hs : ∀ t ∈ us, t ∈ ts) : loW rs us h ≤ loW rs ts h := by
  unfold loW
  induction rs with
  | nil => simp
  | cons p rs ih =>
    rw [List.map_cons, List.map_cons, List.sum_cons, List.sum_cons]
    have : loAt us p h ≤ loAt ts p h := lo_le (lo_ge _ _ _) fun t ht e => lo_ge_t h (hs t ht) e
    omega
theorem lo_both (t1 t2 : List Tl) (p : Row) (h : Int) : loAt (t1 ++ t2) p h = max (loAt t1 p h) (loAt t2 p h) := by
  have a : loAt (t1 ++ t2) p h ≤ max (loAt t1 p h) (loAt t2 p h) := lo_le (by have := lo_ge t1 p h; omega) fun t ht e => by
    rcases List.mem_append.mp ht with ht | ht
    · have := lo_ge_t h ht e; omega
    · have := lo_ge_t h ht e; omega
  have b : loAt t1 p h ≤ loAt (t1 ++ t2) p h := lo_le (lo_ge _ _ _) fun t ht e => lo_ge_t h (List.mem_append_left _ ht) e
  have c : loAt t2 p h ≤ loAt (t1 ++ t2) p h := lo_le (lo_ge _ _ _) fun t ht e => lo_ge_t h (List.mem_append_right _ ht) e
  omega
theorem hi_both (t1 t2 : List Tl) (p : Row) (h : Int) : hiAt (t1 ++ t2) p h = min (hiAt t1 p h) (hiAt t2 p h) := by
  have a : min (hiAt t1 p h) (hiAt t2 p h) ≤ hiAt (t1 ++ t2) p h := hi_ge (by have := hi_le t1 p h; omega) fun t ht e => by
    rcases List.mem_append.mp ht with ht | ht
    · have := hi_le_t h ht e; omega
    · have := hi_le_t h ht e; omega
  have b : hiAt (t1 ++ t2) p h ≤ hiAt t1 p h := hi_ge (hi_le _ _ _) fun t ht e => hi_le_t h (List.mem_append_left _ ht) e
  have c : hiAt (t1 ++ t2) p h ≤ hiAt t2 p h := hi_ge (hi_le _ _ _) fun t ht e => hi_le_t h (List.mem_append_right _ ht) e
  omega
end Lk29

namespace Lk29
open PySem PySem.Spec PyProof.Rows L2 DV
theorem e_put_right {rs : List Row} {t1 t2 : List Tl} {F : Row → List Int} {n b : Nat} {s : S} (ok : RgOk rs) (k1 : TlOk rs t1) (k2 : TlOk rs t2) (k3 : TlOk rs (t1 ++ t2)) (l1 : Lv rs t1 n F) (l2 : Lv rs t2 n F) (l3 : Lv rs (t1 ++ t2) n F) (hg : Gd (b + 4) s) :
    ∃ s', r__law_lv_put_right [.s, .d (rgD rs), .d (.list [tlD t1, tlD t2])] s = some (.fz (.bool true), s') ∧ Gd b s' := by
  obtain ⟨h, s1, e1, hh, g1⟩ := draw_nat 15 (hg.mono (a := b + 3 + 1) (by omega)) (by omega) (by omega)
  obtain ⟨t3, h3⟩ : ∃ t3, t3 = t1 ++ t2 := ⟨_, rfl⟩
  have hb : (t1.map fun t => PyData.tuple [.str t.st, .int t.at_, .int t.had]) ++ (t2.map fun t => PyData.tuple [.str t.st, .int t.at_, .int t.had]) = t3.map fun t => PyData.tuple [.str t.st, .int t.at_, .int t.had] := by rw [h3, List.map_append]
  have hlo : ∀ p, loAt t3 p h = max (loAt t1 p h) (loAt t2 p h) := fun p => by rw [h3]; exact lo_both t1 t2 p h
  have hhi : ∀ p, hiAt t3 p h = min (hiAt t1 p h) (hiAt t2 p h) := fun p => by rw [h3]; exact hi_both t1 t2 p h
  have w1 : loW rs t1 h ≤ loW rs t3 h := by rw [h3]; exact wle fun t ht => List.mem_append_left _ ht
  have w2 : loW rs t2 h ≤ loW rs t3 h := by rw [h3]; exact wle fun t ht => List.mem_append_right _ ht
  rw [← h3] at k3 l3
  have c3 := l3.calm ok
  have hl1 := k1.len
  have hl2 := k2.len
  have hl3 := k3.len
  have h4 := ok.len
  have hfr := find_row ok.nd
  obtain ⟨t5, e5, d5⟩ := cp_ok (k := 13) (d := .list [rgD rs, .list [tlD t1, tlD t2], tlD t3]) (by
    have q1 := dd_rg ok 7
    have q2 := dd_tl (ts := t1) (by omega) 8
    have q3 := dd_tl (ts := t2) (by omega) 8
    have q4 := dd_tl (ts := t3) (by omega) 9
    rw [Dd_l]
    refine ⟨by simp, fun x hx => ?_⟩
    simp only [List.mem_cons, List.not_mem_nil, or_false] at hx
    rcases hx with rfl | rfl | rfl
    · exact q1
    · rw [Dd_l]
      refine ⟨by simp, fun x hx => ?_⟩
      simp only [List.mem_cons, List.not_mem_nil, or_false] at hx
      rcases hx with rfl | rfl
      · exact q2
      · exact q3
    · exact q4)
  have key := for_done (tg := .nm 7) (n := l1__law_lv_put_right) (f := fun us : List Tl => tlD us) (l := [t1, t2, t3]) (J := fun l0 g s => Gd (b + (3 - l0.length)) s ∧ ∃ x7 x8 x9 x10 x11 x12 x13, g = [some .s, some (.t (.fz (rgD rs))), some (.t (.fz (.list [tlD t1, tlD t2]))), some (.t (.fz (tlD t3))), some (.t (.fz (.int h))), some (.t (.fz (.list [rgD rs, .list [tlD t1, tlD t2], tlD t3]))), some (.t (.lst (l0.map fun us => .fz (endsD rs us h)))), x7, x8, x9, x10, x11, x12, x13, none, none, none, none]) (g := [some .s, some (.t (.fz (rgD rs))), some (.t (.fz (.list [tlD t1, tlD t2]))), some (.t (.fz (tlD t3))), some (.t (.fz (.int h))), some (.t (.fz (.list [rgD rs, .list [tlD t1, tlD t2], tlD t3]))), some (.t (.lst [])), none, none, none, none, none, none, none, none, none, none, none]) (s := s1) ⟨g1, none, none, none, none, none, none, none, rfl⟩ (by
    rintro l0 us l' g s hl ⟨hg, x7, x8, x9, x10, x11, x12, x13, rfl⟩
    have hus : us ∈ [t1, t2, t3] := by rw [hl]; simp
    have hlen : l0.length ≤ 2 := by
      have := congrArg List.length hl
      simp at this; omega
    have hf : TlOk rs us ∧ Calm rs us ∧ loW rs us h ≤ loW rs t3 h := by
      simp only [List.mem_cons, List.not_mem_nil, or_false] at hus
      rcases hus with rfl | rfl | rfl
      · exact ⟨k1, l1.calm ok, w1⟩
      · exact ⟨k2, l2.calm ok, w2⟩
      · exact ⟨k3, l3.calm ok, Int.le_refl _⟩
    have tn := e_turn2 ok hf.1 hf.2.1 k1 k2 k3 c3 (h := h) (by omega) hf.2.2 (b := b + (3 - (l0.length + 1))) (s := s) (hg.mono (by omega)) (l0.map fun us => .fz (endsD rs us h)) (by simp; omega) x8 x9 x10 x11 x12 x13 none none none none
    simp (disch := first | assumption | omega | (refine List.mem_range.mp ?_; assumption)) [-Prod.forall, -Prod.exists] at tn ⊢
    refine tn.imp fun g s hj => ?_
    obtain ⟨hg2, y9, y10, y11, y12, y13, rfl⟩ := hj
    exact ⟨hg2, _, _, _, _, _, _, _, rfl⟩)
  obtain ⟨g', s2, e2, hg2, x7, x8, x9, x10, x11, x12, x13, rfl⟩ := key
  obtain ⟨g'', s3, e3, ⟨t6, y8, y14, y15, y16, y17, d6, rfl⟩, rfl⟩ := for_skip (tg := .nm 14) (n := l2__law_lv_put_right) (f := fun p : Row => PyData.str p.1) (l := rs) (J := fun g s => (∃ t6 y8 y14 y15 y16 y17, t6.d = .list [endsD rs t1 h, endsD rs t2 h, endsD rs t3 h] ∧ g = [some .s, some (.t (.fz (rgD rs))), some (.t (.fz (.list [tlD t1, tlD t2]))), some (.t (.fz (tlD t3))), some (.t (.fz (.int h))), some (.t (.fz (.list [rgD rs, .list [tlD t1, tlD t2], tlD t3]))), some (.t t6), x7, y8, x9, x10, x11, x12, x13, y14, y15, y16, y17]) ∧ s = s2) (g := [some .s, some (.t (.fz (rgD rs))), some (.t (.fz (.list [tlD t1, tlD t2]))), some (.t (.fz (tlD t3))), some (.t (.fz (.int h))), some (.t (.fz (.list [rgD rs, .list [tlD t1, tlD t2], tlD t3]))), some (.t (.lst ([t1, t2, t3].map fun us => .fz (endsD rs us h)))), x7, x8, x9, x10, x11, x12, x13, none, none, none, none]) (s := s2) ⟨⟨_, x8, none, none, none, none, by simp, rfl⟩, rfl⟩ (by
    rintro p hp g s ⟨⟨t6, y8, y14, y15, y16, y17, d6, rfl⟩, rfl⟩
    have hp3 := hfr p hp
    simp (disch := first | assumption | omega | (refine List.mem_range.mp ?_; assumption)) [-Prod.forall, -Prod.exists, l2__law_lv_put_right, d6, hp3, hlo, hhi])
  refine ⟨s3, ?_, hg2.mono (by simp)⟩
  simp (disch := first | assumption | omega | (refine List.mem_range.mp ?_; assumption)) [r__law_lv_put_right, b__law_lv_put_right, ev_runS, e1, hb, cp_eq, e5, d5] at e2 e3 ⊢
  simp (disch := first | assumption | omega | (refine List.mem_range.mp ?_; assumption)) [e2, e3]
end Lk29

namespace Lk29
open PySem PySem.Spec PyProof.Rows L2 DV
theorem Lv.sub {rs : List Row} {us ts : List Tl} {n : Nat} {F : Row → List Int} (l : Lv rs ts n F) (h : ∀ t ∈ us, t ∈ ts) : Lv rs us n F := ⟨l.len, l.life, fun p hp t ht e => l.says p hp t (h t ht) e⟩
theorem TlOk.sub {rs : List Row} {us ts : List Tl} (k : TlOk rs ts) (h : ∀ t ∈ us, t ∈ ts) (hl : us.length ≤ ts.length) : TlOk rs us := ⟨fun t ht => k.nm t (h t ht), fun t ht => k.at_ t (h t ht), Nat.le_trans hl k.len⟩
theorem e_law_turn {b : Nat} {s : S} (hg : Gd (b + 600) s) (x2 x3 x4 x5 x6 x7 : Option Sl) : Nx (fun g s => Gd b s ∧ ∃ x3 x4 x5 x6 x7, g = [none, some .s, x2, x3, x4, x5, x6, x7]) (l1_law [none, some .s, x2, x3, x4, x5, x6, x7] s) := by
  obtain ⟨rs, s1, t1, ok, e1, d1, g1⟩ := e_kn_ranges (b := b + 500) (hg.mono (by omega))
  obtain ⟨ts, F, last, s2, t2, e2, d2, tk, hla, hF, hS, g2⟩ := e_kn_told ok (b := b + 300) (g1.mono (by omega))
  have l : Lv rs ts last F := ⟨fun p hp => (hF p hp).1, fun p hp => (hF p hp).2, hS⟩
  have hat : ∀ t ∈ ts, t.at_ ≤ last := fun t ht => by
    obtain ⟨p, hp, e⟩ := tk.row ht
    have := (List.getElem?_eq_some_iff.mp (hS p hp t ht e)).1
    rw [(hF p hp).1] at this
    omega
  have hlen := tk.len
  obtain ⟨s3, e3, g3⟩ := e_lives_right (b := b + 200) ok tk (by omega) hat l (g2.mono (by omega))
  obtain ⟨cut, s4, e4, hcut, g4⟩ := draw_nat (b := b + 150) ((ts.length : Int) + 1) (g3.mono (by omega)) (by omega) (by omega)
  obtain ⟨l', s5, e5, pm, g5⟩ := mixed_ok (fun t : Tl => PyData.tuple [.str t.st, .int t.at_, .int t.had]) ts (b := b + 10) (by omega) (g4.mono (by omega))
  obtain ⟨u1, hu1⟩ : ∃ u1, u1 = l'.take cut := ⟨_, rfl⟩
  obtain ⟨u2, hu2⟩ : ∃ u2, u2 = l'.drop cut := ⟨_, rfl⟩
  have h12 : u1 ++ u2 = l' := by rw [hu1, hu2, List.take_append_drop]
  have hm : ∀ t ∈ u1 ++ u2, t ∈ ts := fun t ht => by rw [h12] at ht; exact pm.mem_iff.mp ht
  have hlen2 : (u1 ++ u2).length = ts.length := by rw [h12]; exact pm.length_eq
  have hlen3 : u1.length + u2.length = ts.length := by simpa using hlen2
  have hm1 : ∀ t ∈ u1, t ∈ ts := fun t ht => hm t (List.mem_append_left _ ht)
  have hm2 : ∀ t ∈ u2, t ∈ ts := fun t ht => hm t (List.mem_append_right _ ht)
  obtain ⟨s6, e6, g6⟩ := e_put_right (b := b) ok (tk.sub hm1 (by omega)) (tk.sub hm2 (by omega)) (tk.sub hm (by omega)) (l.sub hm1) (l.sub hm2) (l.sub hm) (g5.mono (by omega))
  have hc1 : DV.cutD l' none (some (cut : Int)) = u1 := by rw [cutD_to, hu1]
  have hc2 : DV.cutD l' (some (cut : Int)) none = u2 := by rw [cutD_from, hu2]
  simp (disch := first | assumption | omega | (refine List.mem_range.mp ?_; assumption)) [-Prod.forall, -Prod.exists, -cutD_toN, -cutD_fromN, l1_law, e1, d1, e2, d2, e3, e4, e5, hc1, hc2, e6]
  exact g6
theorem right : Right := by
  intro ns hns
  have g0 : Gd (600 * 8) (⟨ns, 0, 0, 89⟩ : S) := ⟨hns, by simp, by simp, by simp, by simp, by simp⟩
  obtain ⟨g', s', e, hg, x2, x3, x4, x5, x6, x7, rfl⟩ := for_all (tg := .nm 2) (n := l1_law) (f := fun i : Nat => PyData.int (i : Nat)) (l := List.range 8) (J := fun l g s => Gd (600 * l.length) s ∧ ∃ x2 x3 x4 x5 x6 x7, g = [none, some .s, x2, x3, x4, x5, x6, x7]) (g := [none, some .s, none, none, none, none, none, none]) (s := ⟨ns, 0, 0, 89⟩) ⟨by simpa using g0, _, _, _, _, _, _, rfl⟩ (by
    rintro l0 i l' g s hl ⟨hg, x2, x3, x4, x5, x6, x7, rfl⟩
    have tn := e_law_turn (b := 600 * l'.length) (s := s) (hg.mono (by simp; omega)) (some (.t (.fz (.int i)))) x3 x4 x5 x6 x7
    simp only [ev_turn, bind_nm, turnK_s, ev_setS, List.set_cons_succ, List.set_cons_zero]
    refine tn.imp fun g s hj => ?_
    obtain ⟨hg2, y3, y4, y5, y6, y7, rfl⟩ := hj
    exact ⟨hg2, _, _, _, _, _, _, rfl⟩)
  refine ⟨[none, some .s, x2, x3, x4, x5, x6, x7], s', ?_⟩
  simp (disch := first | assumption | omega | (refine List.mem_range.mp ?_; assumption)) [b_law] at e ⊢
  simp [e]
end Lk29

open PySem PySem.W PyProof.Rows
set_option maxHeartbeats 0 in
theorem PySem.Challenge.cw_partedstock_k29_main_two_lives_make_two_holds : PySem.Challenge.rw_partedstock_k29_main_two_lives_make_two.Holds := by
  w_on; o_law; k_head; (case hw => w_witness2)
  k_fill
  refine L2.walk_of (l := PySem.Challenge.rw_partedstock_k29_main_two_lives_make_two) (n := 63) (k := 15) (x := "script") (CX := fun _ => C8.CX0) (sp := fun w => DV.spLaw _) rfl (by decide) rfl ⟨rfl, by decide, by decide⟩ (fun w h Y => PySem.W.kIn_of Y) ?F (fun _ _ a ns hl _ hS => ⟨a, ns, rfl, hS, hl, fun _ => rfl⟩) (fun _ _ _ _ _ h => h)
  case F =>
    intro w mg fa h KX G hmg
    refine' Lk29.all_mk Lk29.right hmg (Lk29.ctx_mk KX G ?a1 ?l1 ?c1 ?k1 ?a2 ?l2 ?c2 ?k2 ?a3 ?l3 ?c3 ?k3 ?a4 ?l4 ?c4 ?k4 ?a5 ?l5 ?c5 ?k5 ?a6 ?l6 ?c6 ?k6 ?a7 ?l7 ?c7 ?k7 ?a8 ?l8 ?c8 ?k8 ?a9 ?l9 ?c9 ?k9 ?a10 ?l10 ?c10 ?k10 ?a11 ?l11 ?c11 ?k11 ?a12 ?l12 ?c12 ?k12 ?a13 ?l13 ?c13 ?k13 ?a14 ?l14 ?c14 ?k14 ?a15 ?l15 ?c15 ?k15 ?a16 ?l16 ?c16 ?k16 ?a17 ?l17 ?c17 ?k17 ?a18 ?l18 ?c18 ?k18 ?a19 ?l19 ?c19 ?k19 ?a20 ?l20 ?c20 ?k20 ?a21 ?l21 ?c21 ?k21 ?a22 ?l22 ?c22 ?k22 ?a23 ?l23 ?c23 ?k23 ?a24 ?l24 ?c24 ?k24 ?a25 ?l25 ?c25 ?k25 ?a26 ?l26 ?c26 ?k26 ?a27 ?l27 ?c27 ?k27 ?a28 ?l28 ?c28 ?k28 ?a29 ?l29 ?c29 ?k29 ?a30 ?l30 ?c30 ?k30 ?a31 ?l31 ?c31 ?k31 ?a32 ?l32 ?c32 ?k32 ?a33 ?l33 ?c33 ?k33 ?a34 ?l34 ?c34 ?k34 ?a35 ?l35 ?c35 ?k35 ?a36 ?l36 ?c36 ?k36 ?a37 ?l37 ?c37 ?k37 ?a38 ?l38 ?c38 ?k38 ?a39 ?l39 ?c39 ?k39 ?a40 ?l40 ?c40 ?k40 ?a41 ?l41 ?c41 ?k41 ?a42 ?l42 ?c42 ?k42 ?a43 ?l43 ?c43 ?k43 ?a44 ?l44 ?c44 ?k44 ?a45 ?l45 ?c45 ?k45 ?a46 ?l46 ?c46 ?k46 ?a47 ?l47 ?c47 ?k47 ?a48 ?l48 ?c48 ?k48 ?a49 ?l49 ?c49 ?k49 ?a50 ?l50 ?c50 ?k50 ?a51 ?l51 ?c51 ?k51 ?z1 ?z2 ?z3 ?z4 ?z5 ?z6 ?z7 ?z8 ?z9 ?z10 ?z11 ?z12 ?z13 ?z14 ?z15 ?z16 ?z17)
    (case a1 => k_is); (case l1 => k_is); (case c1 => k_is); (case k1 => k_is); (case a2 => k_is); (case l2 => k_is); (case c2 => k_is); (case k2 => k_is); (case a3 => k_is); (case l3 => k_is); (case c3 => k_is); (case k3 => k_is); (case a4 => k_is); (case l4 => k_is); (case c4 => k_is); (case k4 => k_is); (case a5 => k_is); (case l5 => k_is); (case c5 => k_is); (case k5 => k_is); (case a6 => k_is); (case l6 => k_is); (case c6 => k_is); (case k6 => k_is); (case a7 => k_is); (case l7 => k_is); (case c7 => k_is); (case k7 => k_is); (case a8 => k_is); (case l8 => k_is); (case c8 => k_is); (case k8 => k_is); (case a9 => k_is); (case l9 => k_is); (case c9 => k_is); (case k9 => k_is); (case a10 => k_is); (case l10 => k_is); (case c10 => k_is); (case k10 => k_is); (case a11 => k_is); (case l11 => k_is); (case c11 => k_is); (case k11 => k_is); (case a12 => k_is); (case l12 => k_is); (case c12 => k_is); (case k12 => k_is); (case a13 => k_is); (case l13 => k_is); (case c13 => k_is); (case k13 => k_is); (case a14 => k_is); (case l14 => k_is); (case c14 => k_is); (case k14 => k_is); (case a15 => k_is); (case l15 => k_is); (case c15 => k_is); (case k15 => k_is); (case a16 => k_is); (case l16 => k_is); (case c16 => k_is); (case k16 => k_is); (case a17 => k_is); (case l17 => k_is); (case c17 => k_is); (case k17 => k_is); (case a18 => k_is); (case l18 => k_is); (case c18 => k_is); (case k18 => k_is); (case a19 => k_is); (case l19 => k_is); (case c19 => k_is); (case k19 => k_is); (case a20 => k_is); (case l20 => k_is); (case c20 => k_is); (case k20 => k_is); (case a21 => k_is); (case l21 => k_is); (case c21 => k_is); (case k21 => k_is); (case a22 => k_is); (case l22 => k_is); (case c22 => k_is); (case k22 => k_is); (case a23 => k_is); (case l23 => k_is); (case c23 => k_is); (case k23 => k_is); (case a24 => k_is); (case l24 => k_is); (case c24 => k_is); (case k24 => k_is); (case a25 => k_is); (case l25 => k_is); (case c25 => k_is); (case k25 => k_is); (case a26 => k_is); (case l26 => k_is); (case c26 => k_is); (case k26 => k_is); (case a27 => k_is); (case l27 => k_is); (case c27 => k_is); (case k27 => k_is); (case a28 => k_is); (case l28 => k_is); (case c28 => k_is); (case k28 => k_is); (case a29 => k_is); (case l29 => k_is); (case c29 => k_is); (case k29 => k_is); (case a30 => k_is); (case l30 => k_is); (case c30 => k_is); (case k30 => k_is); (case a31 => k_is); (case l31 => k_is); (case c31 => k_is); (case k31 => k_is); (case a32 => k_is); (case l32 => k_is); (case c32 => k_is); (case k32 => k_is); (case a33 => k_is); (case l33 => k_is); (case c33 => k_is); (case k33 => k_is); (case a34 => k_is); (case l34 => k_is); (case c34 => k_is); (case k34 => k_is); (case a35 => k_is); (case l35 => k_is); (case c35 => k_is); (case k35 => k_is); (case a36 => k_is); (case l36 => k_is); (case c36 => k_is); (case k36 => k_is); (case a37 => k_is); (case l37 => k_is); (case c37 => k_is); (case k37 => k_is); (case a38 => k_is); (case l38 => k_is); (case c38 => k_is); (case k38 => k_is); (case a39 => k_is); (case l39 => k_is); (case c39 => k_is); (case k39 => k_is); (case a40 => k_is); (case l40 => k_is); (case c40 => k_is); (case k40 => k_is); (case a41 => k_is); (case l41 => k_is); (case c41 => k_is); (case k41 => k_is); (case a42 => k_is); (case l42 => k_is); (case c42 => k_is); (case k42 => k_is); (case a43 => k_is); (case l43 => k_is); (case c43 => k_is); (case k43 => k_is); (case a44 => k_is); (case l44 => k_is); (case c44 => k_is); (case k44 => k_is); (case a45 => k_is); (case l45 => k_is); (case c45 => k_is); (case k45 => k_is); (case a46 => k_is); (case l46 => k_is); (case c46 => k_is); (case k46 => k_is); (case a47 => k_is); (case l47 => k_is); (case c47 => k_is); (case k47 => k_is); (case a48 => k_is); (case l48 => k_is); (case c48 => k_is); (case k48 => k_is); (case a49 => k_is); (case l49 => k_is); (case c49 => k_is); (case k49 => k_is); (case a50 => k_is); (case l50 => k_is); (case c50 => k_is); (case k50 => k_is); (case a51 => k_is); (case l51 => k_is); (case c51 => k_is); (case k51 => k_is); (case z1 => k_is); (case z2 => k_is); (case z3 => k_is); (case z4 => k_is); (case z5 => k_is); (case z6 => k_is); (case z7 => k_is); (case z8 => k_is); (case z9 => k_is); (case z10 => k_is); (case z11 => k_is); (case z12 => k_is); (case z13 => k_is); (case z14 => k_is); (case z15 => k_is); (case z16 => k_is); (case z17 => k_is)
