import PyProof.Rows.All
import Wide.All
import OpenK.AllK
import Wide.FinOn
import HandS.ForMost
import HandS.Exc
import HandS.Defaults
import HandS.Wide
import HandS.IsInst
import HandS.TupAny
import HandS.Zip
import HandS.Style
import HandS.More
import HandS.TupLe
import KE.GoesMore
import HandS.HeadHook2
import HandS.Head0
import HandS.Head1
import HandS.Head2
import HandS.HeadHook1
import HandS.HeadHook3
import HandS.HeadEnd
import PySem.Challenge.RW_whatifdrawn_k77_whole_distances_never_gr
/-! Fw1 -/
set_option Elab.async false
set_option linter.all false
set_option maxRecDepth 100000
set_option maxHeartbeats 4000000
namespace Fw
open PySem PySem.Spec PyProof.Rows L2

/-! ### data and owned trees -/
inductive D where
  | non | bl (b : Bool) | int (i : Int) | str (s : Str)
  | tup (xs : List D) | lst (xs : List D) | obj (C : Addr) (ns : List Str) (xs : List D)
  | scr (ns : List Int)
inductive T where
  | fz (d : D) | lst (ts : List T) | tup (ts : List T) | obj (C : Addr) (ns : List Str) (ts : List T)
instance : Inhabited D := ⟨.non⟩
instance : Inhabited T := ⟨.fz .non⟩
mutual
def T.d : T → D
  | .fz d => d
  | .lst ts => .lst (T.ds ts)
  | .tup ts => .tup (T.ds ts)
  | .obj C ns ts => .obj C ns (T.ds ts)
def T.ds : List T → List D
  | [] => []
  | t :: ts => t.d :: T.ds ts
end
theorem T.ds_eq : ∀ ts : List T, T.ds ts = ts.map T.d
  | [] => rfl
  | t :: ts => by rw [T.ds, T.ds_eq ts, List.map_cons]
theorem T.ds_fz : ∀ ds : List D, T.ds (ds.map T.fz) = ds
  | [] => rfl
  | d :: ds => by rw [List.map_cons, T.ds, T.d, T.ds_fz ds]
/-! frozen data in the heap F (with the written part K) -/
mutual
def Rep (K : PySem.W.Frag) (F : Hp) : V → D → Prop
  | v, .non => v = .non
  | v, .bl b => v = .bl b
  | v, .int i => v = .int i
  | v, .str s => v = .str s
  | v, .tup ds => ∃ a xs, v = .ref a ∧ SqT K F a xs ∧ Reps K F xs ds
  | v, .lst ds => ∃ a xs, v = .ref a ∧ F a = some (.lst xs) ∧ Reps K F xs ds
  | v, .obj C ns ds => ∃ a dx xs, v = .ref a ∧ F a = some (.ins C dx (ns.zip xs)) ∧ xs.length = ns.length ∧ Reps K F xs ds
  | v, .scr ns => ∃ a, v = .ref a ∧ SqL K F a (ns.map V.int)
def Reps (K : PySem.W.Frag) (F : Hp) : List V → List D → Prop
  | xs, [] => xs = []
  | xs, d :: ds => ∃ x r, xs = x :: r ∧ Rep K F x d ∧ Reps K F r ds
end
/-! an owned tree at v: the addresses A are its own -/
mutual
def OT (K : PySem.W.Frag) (F H : Hp) : List Addr → V → T → Prop
  | A, v, .fz d => A = [] ∧ Rep K F v d
  | A, v, .lst ts => ∃ a B xs, v = .ref a ∧ A = a :: B ∧ H a = some (.lst xs) ∧ OTs K F H B xs ts
  | A, v, .tup ts => ∃ a B xs, v = .ref a ∧ A = a :: B ∧ H a = some (.tup xs) ∧ OTs K F H B xs ts
  | A, v, .obj C ns ts => ∃ a dx B xs, v = .ref a ∧ A = a :: dx :: B ∧ H a = some (.ins C dx (ns.zip xs)) ∧ H dx = some (.own a) ∧ xs.length = ns.length ∧ OTs K F H B xs ts
def OTs (K : PySem.W.Frag) (F H : Hp) : List Addr → List V → List T → Prop
  | A, xs, [] => A = [] ∧ xs = []
  | A, xs, t :: ts => ∃ A1 A2 x r, A = A1 ++ A2 ∧ xs = x :: r ∧ OT K F H A1 x t ∧ OTs K F H A2 r ts
end
section
variable {K : PySem.W.Frag} {F F' H H' : Hp}
def Sub (F F' : Hp) : Prop := ∀ a o, F a = some o → F' a = some o
theorem Sub.rd {a : Addr} {u : HO} (e : Sub F F') (h : Rd F a u) : Rd F' a u := by
  rcases h with h | ⟨o, h⟩
  · exact .inl (e _ _ h)
  · exact .inr ⟨o, e _ _ h⟩
theorem Sub.sqT {a : Addr} {xs : List V} (e : Sub F F') (h : SqT K F a xs) : SqT K F' a xs := by
  rcases h with h | h
  · exact .inl (e.rd h)
  · exact .inr h
theorem Sub.sqL {a : Addr} {xs : List V} (e : Sub F F') (h : SqL K F a xs) : SqL K F' a xs := by
  rcases h with h | h
  · exact .inl (e.rd h)
  · exact .inr h
mutual
theorem Rep.mono (e : Sub F F') : ∀ (d : D) (v : V), Rep K F v d → Rep K F' v d
  | .non, v, h => by simpa [Rep] using h
  | .bl b, v, h => by simpa [Rep] using h
  | .int i, v, h => by simpa [Rep] using h
  | .str s, v, h => by simpa [Rep] using h
  | .tup ds, v, h => by
    simp only [Rep] at h ⊢
    obtain ⟨a, xs, e1, h1, h2⟩ := h
    exact ⟨a, xs, e1, e.sqT h1, Reps.mono e ds xs h2⟩
  | .lst ds, v, h => by
    simp only [Rep] at h ⊢
    obtain ⟨a, xs, e1, h1, h2⟩ := h
    exact ⟨a, xs, e1, e _ _ h1, Reps.mono e ds xs h2⟩
  | .obj C ns ds, v, h => by
    simp only [Rep] at h ⊢
    obtain ⟨a, dx, xs, e1, h1, h3, h2⟩ := h
    exact ⟨a, dx, xs, e1, e _ _ h1, h3, Reps.mono e ds xs h2⟩
  | .scr ns, v, h => by
    simp only [Rep] at h ⊢
    obtain ⟨a, e1, h1⟩ := h
    exact ⟨a, e1, e.sqL h1⟩
theorem Reps.mono (e : Sub F F') : ∀ (ds : List D) (xs : List V), Reps K F xs ds → Reps K F' xs ds
  | [], xs, h => by simpa [Reps] using h
  | d :: ds, xs, h => by
    simp only [Reps] at h ⊢
    obtain ⟨x, r, e1, h1, h2⟩ := h
    exact ⟨x, r, e1, Rep.mono e d x h1, Reps.mono e ds r h2⟩
end
mutual
theorem OT.mono (e : Sub F F') : ∀ (t : T) (A : List Addr) (v : V), (∀ a ∈ A, H' a = H a) → OT K F H A v t → OT K F' H' A v t
  | .fz d, A, v, _, h => by
    simp only [OT] at h ⊢
    exact ⟨h.1, Rep.mono e d v h.2⟩
  | .lst ts, A, v, hA, h => by
    simp only [OT] at h ⊢
    obtain ⟨a, B, xs, e1, e2, h1, h2⟩ := h
    subst e2
    exact ⟨a, B, xs, e1, rfl, by rw [hA a (by simp)]; exact h1, OTs.mono e ts B xs (fun b hb => hA b (by simp [hb])) h2⟩
  | .tup ts, A, v, hA, h => by
    simp only [OT] at h ⊢
    obtain ⟨a, B, xs, e1, e2, h1, h2⟩ := h
    subst e2
    exact ⟨a, B, xs, e1, rfl, by rw [hA a (by simp)]; exact h1, OTs.mono e ts B xs (fun b hb => hA b (by simp [hb])) h2⟩
  | .obj C ns ts, A, v, hA, h => by
    simp only [OT] at h ⊢
    obtain ⟨a, dx, B, xs, e1, e2, h1, h3, h4, h2⟩ := h
    subst e2
    exact ⟨a, dx, B, xs, e1, rfl, by rw [hA a (by simp)]; exact h1, by rw [hA dx (by simp)]; exact h3, h4, OTs.mono e ts B xs (fun b hb => hA b (by simp [hb])) h2⟩
theorem OTs.mono (e : Sub F F') : ∀ (ts : List T) (A : List Addr) (xs : List V), (∀ a ∈ A, H' a = H a) → OTs K F H A xs ts → OTs K F' H' A xs ts
  | [], A, xs, _, h => by simpa [OTs] using h
  | t :: ts, A, xs, hA, h => by
    simp only [OTs] at h ⊢
    obtain ⟨A1, A2, x, r, e1, e2, h1, h2⟩ := h
    subst e1
    exact ⟨A1, A2, x, r, rfl, e2, OT.mono e t A1 x (fun b hb => hA b (by simp [hb])) h1, OTs.mono e ts A2 r (fun b hb => hA b (by simp [hb])) h2⟩
end

mutual
theorem OT.dom : ∀ (t : T) (A : List Addr) (v : V), OT K F H A v t → ∀ a ∈ A, ∃ o, H a = some o
  | .fz d, A, v, h, a, ha => by
    simp only [OT] at h
    rw [h.1] at ha; cases ha
  | .lst ts, A, v, h, a, ha => by
    simp only [OT] at h
    obtain ⟨b, B, xs, e1, e2, h1, h2⟩ := h
    subst e2
    rcases List.mem_cons.mp ha with e | ha
    · subst e; exact ⟨_, h1⟩
    · exact OTs.dom ts B xs h2 a ha
  | .tup ts, A, v, h, a, ha => by
    simp only [OT] at h
    obtain ⟨b, B, xs, e1, e2, h1, h2⟩ := h
    subst e2
    rcases List.mem_cons.mp ha with e | ha
    · subst e; exact ⟨_, h1⟩
    · exact OTs.dom ts B xs h2 a ha
  | .obj C ns ts, A, v, h, a, ha => by
    simp only [OT] at h
    obtain ⟨b, dx, B, xs, e1, e2, h1, h3, h4, h2⟩ := h
    subst e2
    rcases List.mem_cons.mp ha with e | ha
    · subst e; exact ⟨_, h1⟩
    · rcases List.mem_cons.mp ha with e | ha
      · subst e; exact ⟨_, h3⟩
      · exact OTs.dom ts B xs h2 a ha
theorem OTs.dom : ∀ (ts : List T) (A : List Addr) (xs : List V), OTs K F H A xs ts → ∀ a ∈ A, ∃ o, H a = some o
  | [], A, xs, h, a, ha => by
    simp only [OTs] at h
    rw [h.1] at ha; cases ha
  | t :: ts, A, xs, h, a, ha => by
    simp only [OTs] at h
    obtain ⟨A1, A2, x, r, e1, e2, h1, h2⟩ := h
    subst e1
    rcases List.mem_append.mp ha with ha | ha
    · exact OT.dom t A1 x h1 a ha
    · exact OTs.dom ts A2 r h2 a ha
end
/-- the owned part made frozen -/
def frzH (F H : Hp) (A : List Addr) : Hp := fun a => if a ∈ A then H a else F a
theorem frz_in {A : List Addr} {a : Addr} (h : a ∈ A) : frzH F H A a = H a := by unfold frzH; rw [if_pos h]
theorem frz_out {A : List Addr} {a : Addr} (h : a ∉ A) : frzH F H A a = F a := by unfold frzH; rw [if_neg h]
theorem frz_sub {A : List Addr} (h : ∀ a ∈ A, F a = none) : Sub F (frzH F H A) := fun a o e => by
  by_cases ha : a ∈ A
  · rw [h a ha] at e; cases e
  · rw [frz_out ha]; exact e
mutual
theorem OT.freeze : ∀ (t : T) (A : List Addr) (v : V), OT K F H A v t → ∀ F' : Hp, Sub F F' → (∀ a ∈ A, F' a = H a) → Rep K F' v t.d
  | .fz d, A, v, h, F', e, _ => by
    simp only [OT] at h
    exact Rep.mono e d v h.2
  | .lst ts, A, v, h, F', e, hA => by
    simp only [OT] at h
    obtain ⟨b, B, xs, e1, e2, h1, h2⟩ := h
    subst e2
    simp only [T.d, Rep]
    exact ⟨b, xs, e1, (by rw [hA b (by simp)]; exact h1), OTs.freeze ts B xs h2 F' e fun a ha => hA a (by simp [ha])⟩
  | .tup ts, A, v, h, F', e, hA => by
    simp only [OT] at h
    obtain ⟨b, B, xs, e1, e2, h1, h2⟩ := h
    subst e2
    simp only [T.d, Rep]
    exact ⟨b, xs, e1, Or.inl (Or.inl (by rw [hA b (by simp)]; exact h1)), OTs.freeze ts B xs h2 F' e fun a ha => hA a (by simp [ha])⟩
  | .obj C ns ts, A, v, h, F', e, hA => by
    simp only [OT] at h
    obtain ⟨b, dx, B, xs, e1, e2, h1, h3, h4, h2⟩ := h
    subst e2
    simp only [T.d, Rep]
    exact ⟨b, dx, xs, e1, (by rw [hA b (by simp)]; exact h1), h4, OTs.freeze ts B xs h2 F' e fun a ha => hA a (by simp [ha])⟩
theorem OTs.freeze : ∀ (ts : List T) (A : List Addr) (xs : List V), OTs K F H A xs ts → ∀ F' : Hp, Sub F F' → (∀ a ∈ A, F' a = H a) → Reps K F' xs (T.ds ts)
  | [], A, xs, h, F', e, hA => by
    simp only [OTs] at h
    simp only [T.ds, Reps]
    exact h.2
  | t :: ts, A, xs, h, F', e, hA => by
    simp only [OTs] at h
    obtain ⟨A1, A2, x, r, e1, e2, h1, h2⟩ := h
    subst e1
    simp only [T.ds, Reps]
    exact ⟨x, r, e2, OT.freeze t A1 x h1 F' e fun a ha => hA a (by simp [ha]), OTs.freeze ts A2 r h2 F' e fun a ha => hA a (by simp [ha])⟩
end
theorem Reps.length : ∀ (ds : List D) (xs : List V), Reps K F xs ds → xs.length = ds.length
  | [], xs, h => by simp only [Reps] at h; subst h; rfl
  | d :: ds, xs, h => by
    simp only [Reps] at h
    obtain ⟨x, r, e1, _, h2⟩ := h
    subst e1
    rw [List.length_cons, List.length_cons, Reps.length ds r h2]
theorem OTs.length : ∀ (ts : List T) (A : List Addr) (xs : List V), OTs K F H A xs ts → xs.length = ts.length
  | [], A, xs, h => by simp only [OTs] at h; rw [h.2]; rfl
  | t :: ts, A, xs, h => by
    simp only [OTs] at h
    obtain ⟨A1, A2, x, r, e1, e2, _, h2⟩ := h
    subst e2
    rw [List.length_cons, List.length_cons, OTs.length ts A2 r h2]
theorem OTs.fz : ∀ (ds : List D) (xs : List V), Reps K F xs ds → OTs K F H [] xs (ds.map T.fz)
  | [], xs, h => by
    simp only [Reps] at h
    simp only [List.map_nil, OTs]
    exact ⟨trivial, h⟩
  | d :: ds, xs, h => by
    simp only [Reps] at h
    obtain ⟨x, r, e1, h1, h2⟩ := h
    simp only [List.map_cons, OTs, OT]
    exact ⟨[], [], x, r, rfl, e1, ⟨rfl, h1⟩, OTs.fz ds r h2⟩
theorem Reps.get : ∀ (ds : List D) (xs : List V) (i : Nat) (d : D), Reps K F xs ds → ds[i]? = some d → ∃ x, xs[i]? = some x ∧ Rep K F x d
  | [], _, i, d, _, e => by simp at e
  | d :: ds, xs, 0, d', h, e => by
    simp only [Reps] at h
    obtain ⟨x, r, e1, h1, _⟩ := h
    simp at e
    subst e e1
    exact ⟨x, rfl, h1⟩
  | d :: ds, xs, i + 1, d', h, e => by
    simp only [Reps] at h
    obtain ⟨x, r, e1, _, h2⟩ := h
    subst e1
    obtain ⟨y, e2, h3⟩ := Reps.get ds r i d' h2 (by simpa using e)
    exact ⟨y, by simpa using e2, h3⟩
end

/-! ### the state -/
/-- frozen F, owned A, within H -/
structure Wf (F : Hp) (A : List Addr) (H : Hp) : Prop where
  sub : Sub F H
  nd : A.Nodup
  off : ∀ a ∈ A, F a = none
  dom : ∀ a ∈ A, ∃ o, H a = some o
/-- from (F, A, H) to (F', A', H') -/
structure Ext (F : Hp) (A : List Addr) (H : Hp) (F' : Hp) (A' : List Addr) (H' : Hp) : Prop where
  fz : Sub F F'
  fr : ∀ a o, H a = some o → a ∉ A → H' a = some o
  fg : ∀ a o, F' a = some o → F a = some o ∨ a ∈ A ∨ H a = none
  ag : ∀ a ∈ A', a ∈ A ∨ H a = none
  dm : ∀ a o, H a = some o → ∃ o', H' a = some o'
section
variable {K : PySem.W.Frag} {F F1 F2 F3 F' H H1 H2 H3 H' : Hp} {A A1 A2 A3 A' B C : List Addr}
theorem Ext.refl : Ext F A H F A H := ⟨fun _ _ h => h, fun _ _ h _ => h, fun _ _ h => .inl h, fun _ h => .inl h, fun _ o h => ⟨o, h⟩⟩
theorem Ext.none_of (e : Ext F1 A1 H1 F2 A2 H2) {a : Addr} (h : H2 a = none) : H1 a = none := by
  cases q : H1 a with
  | none => rfl
  | some o => obtain ⟨o', h'⟩ := e.dm a o q; rw [h] at h'; cases h'
theorem Ext.trans (e1 : Ext F1 A1 H1 F2 A2 H2) (e2 : Ext F2 A2 H2 F3 A3 H3) : Ext F1 A1 H1 F3 A3 H3 where
  fz := fun a o h => e2.fz a o (e1.fz a o h)
  fr := fun a o h ha => e2.fr a o (e1.fr a o h ha) fun z => by
    rcases e1.ag a z with z | z
    · exact ha z
    · rw [h] at z; cases z
  fg := fun a o h => by
    rcases e2.fg a o h with z | z | z
    · exact e1.fg a o z
    · rcases e1.ag a z with z | z
      · exact .inr (.inl z)
      · exact .inr (.inr z)
    · exact .inr (.inr (e1.none_of z))
  ag := fun a h => by
    rcases e2.ag a h with z | z
    · exact e1.ag a z
    · exact .inr (e1.none_of z)
  dm := fun a o h => by
    obtain ⟨o', h'⟩ := e1.dm a o h
    exact e2.dm a o' h'
/-- what is owned besides is carried along -/
theorem Ext.frame (e : Ext F1 A1 H1 F2 A2 H2) : Ext F1 (A1 ++ B) H1 F2 (A2 ++ B) H2 where
  fz := e.fz
  fr := fun a o h ha => e.fr a o h fun z => ha (List.mem_append_left _ z)
  fg := fun a o h => by
    rcases e.fg a o h with z | z | z
    · exact .inl z
    · exact .inr (.inl (List.mem_append_left _ z))
    · exact .inr (.inr z)
  ag := fun a h => by
    rcases List.mem_append.mp h with z | z
    · rcases e.ag a z with z | z
      · exact .inl (List.mem_append_left _ z)
      · exact .inr z
    · exact .inl (List.mem_append_right _ z)
  dm := e.dm
/-- by membership alone -/
theorem Ext.mem (e : Ext F1 A1 H1 F2 A2 H2) (h1 : ∀ a ∈ A1, a ∈ B) (h2 : ∀ a ∈ C, a ∈ A2) : Ext F1 B H1 F2 C H2 where
  fz := e.fz
  fr := fun a o h ha => e.fr a o h fun z => ha (h1 a z)
  fg := fun a o h => by
    rcases e.fg a o h with z | z | z
    · exact .inl z
    · exact .inr (.inl (h1 a z))
    · exact .inr (.inr z)
  ag := fun a h => by
    rcases e.ag a (h2 a h) with z | z
    · exact .inl (h1 a z)
    · exact .inr z
  dm := e.dm
theorem Wf.perm (w : Wf F A H) (p : A.Perm B) : Wf F B H :=
  ⟨w.sub, p.nodup_iff.mp w.nd, fun a h => w.off a (p.mem_iff.mpr h), fun a h => w.dom a (p.mem_iff.mpr h)⟩
theorem Wf.left (w : Wf F (A ++ B) H) : Wf F A H :=
  ⟨w.sub, (List.nodup_append.mp w.nd).1, fun a h => w.off a (List.mem_append_left _ h), fun a h => w.dom a (List.mem_append_left _ h)⟩
theorem Wf.right (w : Wf F (A ++ B) H) : Wf F B H :=
  ⟨w.sub, (List.nodup_append.mp w.nd).2.1, fun a h => w.off a (List.mem_append_right _ h), fun a h => w.dom a (List.mem_append_right _ h)⟩
theorem Wf.disj (w : Wf F (A ++ B) H) {a : Addr} (h1 : a ∈ A) (h2 : a ∈ B) : False := (List.nodup_append.mp w.nd).2.2 a h1 a h2 rfl
theorem Wf.swap (w : Wf F (A ++ B) H) : Wf F (B ++ A) H := w.perm List.perm_append_comm
/-- what is owned besides stays owned -/
theorem Wf.frame (w : Wf F1 (A1 ++ B) H1) (e : Ext F1 A1 H1 F2 A2 H2) (w2 : Wf F2 A2 H2) : Wf F2 (A2 ++ B) H2 where
  sub := w2.sub
  nd := List.nodup_append.mpr ⟨w2.nd, w.right.nd, fun a ha b hb z => by
    subst z
    rcases e.ag a ha with z | z
    · exact w.disj z hb
    · obtain ⟨o, h⟩ := w.dom a (List.mem_append_right _ hb)
      rw [z] at h; cases h⟩
  off := fun a h => by
    rcases List.mem_append.mp h with z | z
    · exact w2.off a z
    · cases q : F2 a with
      | none => rfl
      | some o =>
        rcases e.fg a o q with y | y | y
        · rw [w.off a (List.mem_append_right _ z)] at y; cases y
        · exact (w.disj y z).elim
        · obtain ⟨o, h⟩ := w.dom a (List.mem_append_right _ z)
          rw [y] at h; cases h
  dom := fun a h => by
    rcases List.mem_append.mp h with z | z
    · exact w2.dom a z
    · obtain ⟨o, h⟩ := w.dom a (List.mem_append_right _ z)
      exact e.dm a o h
theorem OT.frame {t : T} {v : V} (h : OT K F1 H1 B v t) (w : Wf F1 (A1 ++ B) H1) (e : Ext F1 A1 H1 F2 A2 H2) : OT K F2 H2 B v t :=
  h.mono e.fz t B v fun a ha => by
    obtain ⟨o, q⟩ := w.dom a (List.mem_append_right _ ha)
    rw [q]
    exact e.fr a o q fun z => w.disj z ha
theorem OTs.frame {ts : List T} {vs : List V} (h : OTs K F1 H1 B vs ts) (w : Wf F1 (A1 ++ B) H1) (e : Ext F1 A1 H1 F2 A2 H2) : OTs K F2 H2 B vs ts :=
  h.mono e.fz ts B vs fun a ha => by
    obtain ⟨o, q⟩ := w.dom a (List.mem_append_right _ ha)
    rw [q]
    exact e.fr a o q fun z => w.disj z ha
/-- B is frozen -/
theorem Wf.freeze (w : Wf F (A ++ B) H) : Wf (frzH F H B) A H where
  sub := fun a o h => by
    by_cases ha : a ∈ B
    · rw [frz_in ha] at h; exact h
    · rw [frz_out ha] at h; exact w.sub a o h
  nd := w.left.nd
  off := fun a h => by rw [frz_out fun z => w.disj h z]; exact w.off a (List.mem_append_left _ h)
  dom := w.left.dom
theorem Ext.freeze (w : Wf F (A ++ B) H) : Ext F (A ++ B) H (frzH F H B) A H where
  fz := frz_sub w.right.off
  fr := fun _ _ h _ => h
  fg := fun a o h => by
    by_cases ha : a ∈ B
    · exact .inr (.inl (List.mem_append_right _ ha))
    · rw [frz_out ha] at h; exact .inl h
  ag := fun a h => .inl (List.mem_append_left _ h)
  dm := fun _ o h => ⟨o, h⟩
/-- a new object, frozen -/
theorem Wf.newF {p : Addr} {o : HO} (w : Wf F A H) (hp : H p = none) : Wf (upd F p o) A (upd H p o) where
  sub := fun a u h => by
    by_cases e : a = p
    · subst e; rw [upd_same] at h ⊢; exact h
    · rw [upd_ne e] at h ⊢; exact w.sub a u h
  nd := w.nd
  off := fun a h => by
    have e : a ≠ p := fun z => by subst z; obtain ⟨u, q⟩ := w.dom a h; rw [hp] at q; cases q
    rw [upd_ne e]; exact w.off a h
  dom := fun a h => by
    have e : a ≠ p := fun z => by subst z; obtain ⟨u, q⟩ := w.dom a h; rw [hp] at q; cases q
    rw [upd_ne e]; exact w.dom a h
theorem Ext.newF {p : Addr} {o : HO} (w : Wf F A H) (hp : H p = none) : Ext F A H (upd F p o) A (upd H p o) where
  fz := fun a u h => by
    have e : a ≠ p := fun z => by subst z; rw [w.sub a u h] at hp; cases hp
    rw [upd_ne e]; exact h
  fr := fun a u h _ => by rw [upd_ne (ne_of_none h hp)]; exact h
  fg := fun a u h => by
    by_cases e : a = p
    · subst e; exact .inr (.inr hp)
    · rw [upd_ne e] at h; exact .inl h
  ag := fun _ h => .inl h
  dm := fun a u h => ⟨u, by rw [upd_ne (ne_of_none h hp)]; exact h⟩
/-- a new object, owned -/
theorem Wf.newO {p : Addr} {o : HO} (w : Wf F A H) (hp : H p = none) : Wf F (A ++ [p]) (upd H p o) where
  sub := fun a u h => by rw [upd_ne (ne_of_none (w.sub a u h) hp)]; exact w.sub a u h
  nd := List.nodup_append.mpr ⟨w.nd, by simp, fun a ha b hb z => by
    simp at hb; subst hb z
    obtain ⟨u, q⟩ := w.dom a ha; rw [hp] at q; cases q⟩
  off := fun a h => by
    rcases List.mem_append.mp h with z | z
    · exact w.off a z
    · simp at z; subst z
      cases q : F a with
      | none => rfl
      | some u => rw [w.sub a u q] at hp; cases hp
  dom := fun a h => by
    by_cases e : a = p
    · subst e; exact ⟨o, upd_same⟩
    · rw [upd_ne e]
      rcases List.mem_append.mp h with z | z
      · exact w.dom a z
      · simp at z; exact (e z).elim
theorem Ext.newO {p : Addr} {o : HO} (hp : H p = none) : Ext F A H F (A ++ [p]) (upd H p o) where
  fz := fun _ _ h => h
  fr := fun a u h _ => by rw [upd_ne (ne_of_none h hp)]; exact h
  fg := fun _ _ h => .inl h
  ag := fun a h => by
    rcases List.mem_append.mp h with z | z
    · exact .inl z
    · simp at z; subst z; exact .inr hp
  dm := fun a u h => ⟨u, by rw [upd_ne (ne_of_none h hp)]; exact h⟩
/-- an owned object is written -/
theorem Wf.write {p : Addr} {o : HO} (w : Wf F A H) (hp : p ∈ A) : Wf F A (upd H p o) where
  sub := fun a u h => by
    have e : a ≠ p := fun z => by subst z; rw [w.off a hp] at h; cases h
    rw [upd_ne e]; exact w.sub a u h
  nd := w.nd
  off := w.off
  dom := fun a h => by
    by_cases e : a = p
    · subst e; exact ⟨o, upd_same⟩
    · rw [upd_ne e]; exact w.dom a h
theorem Ext.write {p : Addr} {o : HO} (hp : p ∈ A) : Ext F A H F A (upd H p o) where
  fz := fun _ _ h => h
  fr := fun a u h ha => by rw [upd_ne fun z => ha (by rw [z]; exact hp)]; exact h
  fg := fun _ _ h => .inl h
  ag := fun _ h => .inl h
  dm := fun a u h => by
    by_cases e : a = p
    · subst e; exact ⟨o, upd_same⟩
    · exact ⟨u, by rw [upd_ne e]; exact h⟩
end
/-! ### the slots -/
abbrev Env := List (Option T)
def Slots (K : PySem.W.Frag) (F H : Hp) : List Addr → L2.St → Fw.Env → Prop
  | A, σ, [] => A = [] ∧ σ = []
  | A, σ, none :: e => ∃ x r, σ = x :: r ∧ Slots K F H A r e
  | A, σ, some t :: e => ∃ v r A1 A2, σ = some v :: r ∧ A = A1 ++ A2 ∧ OT K F H A1 v t ∧ Slots K F H A2 r e
section
variable {K : PySem.W.Frag} {F F1 F2 F' H H1 H2 H' : Hp} {A A1 A2 B : List Addr} {σ : L2.St}
theorem Slots.mono (s : Sub F F') : ∀ (e : Fw.Env) (A : List Addr) (σ : L2.St), (∀ a ∈ A, H' a = H a) → Slots K F H A σ e → Slots K F' H' A σ e
  | [], A, σ, _, h => by simpa [Slots] using h
  | none :: e, A, σ, hA, h => by
    simp only [Slots] at h ⊢
    obtain ⟨x, r, e1, h1⟩ := h
    exact ⟨x, r, e1, Slots.mono s e A r hA h1⟩
  | some t :: e, A, σ, hA, h => by
    simp only [Slots] at h ⊢
    obtain ⟨v, r, A1, A2, e1, e2, h1, h2⟩ := h
    subst e2
    exact ⟨v, r, A1, A2, e1, rfl, h1.mono s t A1 v fun a ha => hA a (by simp [ha]), Slots.mono s e A2 r (fun a ha => hA a (by simp [ha])) h2⟩
theorem Slots.frame {e : Fw.Env} (h : Slots K F1 H1 B σ e) (w : Wf F1 (A1 ++ B) H1) (x : Ext F1 A1 H1 F2 A2 H2) : Slots K F2 H2 B σ e :=
  h.mono x.fz e B σ fun a ha => by
    obtain ⟨o, q⟩ := w.dom a (List.mem_append_right _ ha)
    rw [q]
    exact x.fr a o q fun z => w.disj z ha
theorem Slots.length : ∀ (e : Fw.Env) (A : List Addr) (σ : L2.St), Slots K F H A σ e → σ.length = e.length
  | [], A, σ, h => by simp only [Slots] at h; rw [h.2]; rfl
  | none :: e, A, σ, h => by
    simp only [Slots] at h
    obtain ⟨x, r, e1, h1⟩ := h
    subst e1
    rw [List.length_cons, List.length_cons, Slots.length e A r h1]
  | some t :: e, A, σ, h => by
    simp only [Slots] at h
    obtain ⟨v, r, A1, A2, e1, e2, h1, h2⟩ := h
    subst e1
    rw [List.length_cons, List.length_cons, Slots.length e A2 r h2]
/-- a slot is taken out: its tree, and the rest without it -/
theorem Slots.take : ∀ (e : Fw.Env) (i : Nat) (t : T) (A : List Addr) (σ : L2.St), Slots K F H A σ e → e[i]? = some (some t) →
    ∃ v A1 A2, σ[i]? = some (some v) ∧ A.Perm (A2 ++ A1) ∧ OT K F H A1 v t ∧ Slots K F H A2 σ (e.set i none)
  | [], i, t, A, σ, _, q => by simp at q
  | none :: e, 0, t, A, σ, _, q => by simp at q
  | some u :: e, 0, t, A, σ, h, q => by
    simp only [Slots] at h
    obtain ⟨v, r, A1, A2, e1, e2, h1, h2⟩ := h
    simp at q
    subst q e1 e2
    refine ⟨v, A1, A2, rfl, List.perm_append_comm, h1, ?_⟩
    simp only [List.set_cons_zero, Slots]
    exact ⟨_, _, rfl, h2⟩
  | none :: e, i + 1, t, A, σ, h, q => by
    simp only [Slots] at h
    obtain ⟨x, r, e1, h1⟩ := h
    obtain ⟨v, A1, A2, q1, q2, q3, q4⟩ := Slots.take e i t A r h1 (by simpa using q)
    subst e1
    refine ⟨v, A1, A2, by simpa using q1, q2, q3, ?_⟩
    simp only [List.set_cons_succ, Slots]
    exact ⟨x, r, rfl, q4⟩
  | some u :: e, i + 1, t, A, σ, h, q => by
    simp only [Slots] at h
    obtain ⟨v0, r, B1, B2, e1, e2, h1, h2⟩ := h
    obtain ⟨v, A1, A2, q1, q2, q3, q4⟩ := Slots.take e i t B2 r h2 (by simpa using q)
    subst e1 e2
    refine ⟨v, A1, B1 ++ A2, by simpa using q1, ?_, q3, ?_⟩
    · rw [List.append_assoc]; exact List.Perm.append_left B1 q2
    · simp only [List.set_cons_succ, Slots]
      exact ⟨v0, r, B1, A2, rfl, rfl, h1, q4⟩
/-- a slot is forgotten -/
theorem Slots.clear : ∀ (e : Fw.Env) (i : Nat) (A : List Addr) (σ : L2.St), Slots K F H A σ e → ∃ A1 A2, A.Perm (A2 ++ A1) ∧ Slots K F H A2 σ (e.set i none)
  | [], i, A, σ, h => ⟨[], A, by simp, by simpa using h⟩
  | none :: e, 0, A, σ, h => ⟨[], A, by simp, by simpa using h⟩
  | some u :: e, 0, A, σ, h => by
    simp only [Slots] at h
    obtain ⟨v, r, A1, A2, e1, e2, h1, h2⟩ := h
    subst e1 e2
    refine ⟨A1, A2, List.perm_append_comm, ?_⟩
    simp only [List.set_cons_zero, Slots]
    exact ⟨_, _, rfl, h2⟩
  | none :: e, i + 1, A, σ, h => by
    simp only [Slots] at h
    obtain ⟨x, r, e1, h1⟩ := h
    obtain ⟨A1, A2, q2, q4⟩ := Slots.clear e i A r h1
    subst e1
    refine ⟨A1, A2, q2, ?_⟩
    simp only [List.set_cons_succ, Slots]
    exact ⟨x, r, rfl, q4⟩
  | some u :: e, i + 1, A, σ, h => by
    simp only [Slots] at h
    obtain ⟨v0, r, B1, B2, e1, e2, h1, h2⟩ := h
    obtain ⟨A1, A2, q2, q4⟩ := Slots.clear e i B2 r h2
    subst e1 e2
    refine ⟨A1, B1 ++ A2, ?_, ?_⟩
    · rw [List.append_assoc]; exact List.Perm.append_left B1 q2
    · simp only [List.set_cons_succ, Slots]
      exact ⟨v0, r, B1, A2, rfl, rfl, h1, q4⟩
/-- a tree is laid into a free slot -/
theorem Slots.put {t : T} {v : V} {A1 : List Addr} (ht : OT K F H A1 v t) : ∀ (e : Fw.Env) (i : Nat) (A : List Addr) (σ : L2.St), Slots K F H A σ e → e[i]? = some none →
    ∃ A', A'.Perm (A ++ A1) ∧ Slots K F H A' (σ.set i (some v)) (e.set i (some t))
  | [], i, A, σ, h, q => by simp at q
  | some u :: e, 0, A, σ, h, q => by simp at q
  | none :: e, 0, A, σ, h, q => by
    simp only [Slots] at h
    obtain ⟨x, r, e1, h1⟩ := h
    subst e1
    refine ⟨A1 ++ A, List.perm_append_comm, ?_⟩
    simp only [List.set_cons_zero, Slots]
    exact ⟨v, r, A1, A, rfl, rfl, ht, h1⟩
  | none :: e, i + 1, A, σ, h, q => by
    simp only [Slots] at h
    obtain ⟨x, r, e1, h1⟩ := h
    obtain ⟨A', q1, q2⟩ := Slots.put ht e i A r h1 (by simpa using q)
    subst e1
    refine ⟨A', q1, ?_⟩
    simp only [List.set_cons_succ, Slots]
    exact ⟨x, _, rfl, q2⟩
  | some u :: e, i + 1, A, σ, h, q => by
    simp only [Slots] at h
    obtain ⟨v0, r, B1, B2, e1, e2, h1, h2⟩ := h
    obtain ⟨A', q1, q2⟩ := Slots.put ht e i B2 r h2 (by simpa using q)
    subst e1 e2
    refine ⟨B1 ++ A', ?_, ?_⟩
    · rw [List.append_assoc]; exact List.Perm.append_left B1 q1
    · simp only [List.set_cons_succ, Slots]
      exact ⟨v0, _, B1, A', rfl, rfl, h1, q2⟩
/-- frozen slots own nothing -/
theorem Slots.fzv : ∀ (e : Fw.Env) (i : Nat) (d : D) (A : List Addr) (σ : L2.St), Slots K F H A σ e → e[i]? = some (some (.fz d)) → ∃ v, σ[i]? = some (some v) ∧ Rep K F v d
  | [], i, d, A, σ, _, q => by simp at q
  | none :: e, 0, d, A, σ, _, q => by simp at q
  | some u :: e, 0, d, A, σ, h, q => by
    simp only [Slots] at h
    obtain ⟨v, r, A1, A2, e1, e2, h1, h2⟩ := h
    simp at q
    subst q e1 e2
    simp only [OT] at h1
    exact ⟨v, rfl, h1.2⟩
  | none :: e, i + 1, d, A, σ, h, q => by
    simp only [Slots] at h
    obtain ⟨x, r, e1, h1⟩ := h
    subst e1
    obtain ⟨v, q1, q2⟩ := Slots.fzv e i d A r h1 (by simpa using q)
    exact ⟨v, by simpa using q1, q2⟩
  | some u :: e, i + 1, d, A, σ, h, q => by
    simp only [Slots] at h
    obtain ⟨v0, r, B1, B2, e1, e2, h1, h2⟩ := h
    subst e1
    obtain ⟨v, q1, q2⟩ := Slots.fzv e i d B2 r h2 (by simpa using q)
    exact ⟨v, by simpa using q1, q2⟩
end
/-- the slots, the owned addresses in any order -/
def SR (K : PySem.W.Frag) (F H : Hp) (A : List Addr) (σ : L2.St) (e : Fw.Env) : Prop := ∃ A', A'.Perm A ∧ Slots K F H A' σ e
section
variable {K : PySem.W.Frag} {F F1 F2 F' H H1 H2 H' : Hp} {A A1 A2 B : List Addr} {σ : L2.St} {e : Fw.Env} {t : T} {v : V} {d : D} {i : Nat}
theorem SR.perm (h : SR K F H A σ e) (p : A.Perm B) : SR K F H B σ e := let ⟨A', q, s⟩ := h; ⟨A', q.trans p, s⟩
theorem SR.len (h : SR K F H A σ e) : σ.length = e.length := let ⟨A', q, s⟩ := h; Slots.length e A' σ s
theorem SR.frame (h : SR K F1 H1 B σ e) (w : Wf F1 (A1 ++ B) H1) (x : Ext F1 A1 H1 F2 A2 H2) : SR K F2 H2 B σ e := by
  obtain ⟨A', q, s⟩ := h
  exact ⟨A', q, s.frame (w.perm (List.Perm.append_left A1 q.symm)) x⟩
theorem SR.sub (h : SR K F H A σ e) (s : Sub F F') : SR K F' H A σ e := by
  obtain ⟨A', q, z⟩ := h
  exact ⟨A', q, z.mono s e A' σ fun _ _ => rfl⟩
theorem SR.fzv (h : SR K F H A σ e) (q : e[i]? = some (some (.fz d))) : ∃ v, σ[i]? = some (some v) ∧ Rep K F v d := let ⟨A', _, s⟩ := h; Slots.fzv e i d A' σ s q
theorem SR.take (h : SR K F H A σ e) (q : e[i]? = some (some t)) : ∃ v A1 A2, σ[i]? = some (some v) ∧ A.Perm (A2 ++ A1) ∧ OT K F H A1 v t ∧ SR K F H A2 σ (e.set i none) := by
  obtain ⟨A', p, s⟩ := h
  obtain ⟨v, A1, A2, q1, q2, q3, q4⟩ := Slots.take e i t A' σ s q
  exact ⟨v, A1, A2, q1, p.symm.trans q2, q3, A2, List.Perm.refl _, q4⟩
theorem SR.clear (h : SR K F H A σ e) (i : Nat) : ∃ A1 A2, A.Perm (A2 ++ A1) ∧ SR K F H A2 σ (e.set i none) := by
  obtain ⟨A', p, s⟩ := h
  obtain ⟨A1, A2, q2, q4⟩ := Slots.clear e i A' σ s
  exact ⟨A1, A2, p.symm.trans q2, A2, List.Perm.refl _, q4⟩
theorem SR.put (h : SR K F H A σ e) (ht : OT K F H A1 v t) (q : e[i]? = some none) : SR K F H (A ++ A1) (σ.set i (some v)) (e.set i (some t)) := by
  obtain ⟨A', p, s⟩ := h
  obtain ⟨A2, q1, q2⟩ := Slots.put ht e i A' σ s q
  exact ⟨A2, q1.trans (p.append_right A1), q2⟩
theorem set_same {α : Type} {l : List α} {i : Nat} {x : α} (h : l[i]? = some x) : l.set i x = l := by
  apply List.ext_getElem?
  intro j
  by_cases e : i = j
  · subst e
    rw [List.getElem?_set_self (by exact (List.getElem?_eq_some_iff.mp h).1), h]
  · rw [List.getElem?_set_ne e]
theorem SR.back (h : SR K F H A σ e) (ht : OT K F H A1 v t) (q : e[i]? = some none) (hv : σ[i]? = some (some v)) : SR K F H (A ++ A1) σ (e.set i (some t)) := by
  have := h.put ht q
  rwa [set_same hv] at this
end
end Fw

/-! Fw2 -/
set_option Elab.async false
set_option linter.all false
set_option maxRecDepth 100000
set_option maxHeartbeats 4000000
namespace Fw
open PySem PySem.Spec PyProof.Rows L2

/-! ### readings -/
abbrev M (α : Type) := Fw.Env → Option (α × Fw.Env)
/-- an expression whose value is an owned tree -/
def rdE (K : PySem.W.Frag) (m : M T) : TE := fun σ H Q => ∃ F A e, SR K F H A σ e ∧ Wf F A H ∧ ∃ t e', m e = some (t, e') ∧
  ∀ F' A' B v H', SR K F' H' A' σ e' → OT K F' H' B v t → Wf F' (A' ++ B) H' → Ext F A H F' (A' ++ B) H' → Q v H'
/-- .. frozen data -/
def rdD (K : PySem.W.Frag) (m : M D) : TE := fun σ H Q => ∃ F A e, SR K F H A σ e ∧ Wf F A H ∧ ∃ d e', m e = some (d, e') ∧
  ∀ F' A' v H', SR K F' H' A' σ e' → Rep K F' v d → Wf F' A' H' → Ext F A H F' A' H' → Q v H'
def rdT (K : PySem.W.Frag) (m : M Bool) : TT := fun σ H Q => ∃ F A e, SR K F H A σ e ∧ Wf F A H ∧ ∃ b e', m e = some (b, e') ∧
  ∀ F' A' H', SR K F' H' A' σ e' → Wf F' A' H' → Ext F A H F' A' H' → Q b H'
def rdAE (K : PySem.W.Frag) (m : M (List T)) : TA := fun σ H Q => ∃ F A e, SR K F H A σ e ∧ Wf F A H ∧ ∃ t e', m e = some (t, e') ∧
  ∀ F' A' B v H', SR K F' H' A' σ e' → OTs K F' H' B v t → Wf F' (A' ++ B) H' → Ext F A H F' (A' ++ B) H' → Q v H'
def rdAD (K : PySem.W.Frag) (m : M (List D)) : TA := fun σ H Q => ∃ F A e, SR K F H A σ e ∧ Wf F A H ∧ ∃ d e', m e = some (d, e') ∧
  ∀ F' A' v H', SR K F' H' A' σ e' → Reps K F' v d → Wf F' A' H' → Ext F A H F' A' H' → Q v H'
def JE (X : Cx) (e : Expr) (m : M T) : Prop := PE X e (rdE X.K m)
def JD (X : Cx) (e : Expr) (m : M D) : Prop := PE X e (rdD X.K m)
def JT (X : Cx) (e : Expr) (m : M Bool) : Prop := PT X e (rdT X.K m)
def JW (X : Cx) (e : Expr) (m : M Bool) : Prop := PW X e (rdT X.K m)
def JAE (X : Cx) (es : List Expr) (m : M (List T)) : Prop := PA X es (rdAE X.K m)
def JAD (X : Cx) (es : List Expr) (m : M (List D)) : Prop := PA X es (rdAD X.K m)
theorem pe_imp {X : Cx} {e : Expr} {t t' : TE} (h : PE X e t) (i : ∀ σ H Q, t' σ H Q → t σ H Q) : PE X e t' := ⟨fun pins s σ H Q I q => h.run pins s σ H Q I (i σ H Q q)⟩
theorem pt_imp {X : Cx} {e : Expr} {t t' : TT} (h : PT X e t) (i : ∀ σ H Q, t' σ H Q → t σ H Q) : PT X e t' := ⟨fun pins s σ H Q I q => h.run pins s σ H Q I (i σ H Q q)⟩
theorem pw_imp {X : Cx} {e : Expr} {t t' : TT} (h : PW X e t) (i : ∀ σ H Q, t' σ H Q → t σ H Q) : PW X e t' := ⟨fun wh pins s σ H Q I q => h.run wh pins s σ H Q I (i σ H Q q)⟩
theorem pa_imp {X : Cx} {es : List Expr} {t t' : TA} (h : PA X es t) (i : ∀ σ H Q, t' σ H Q → t σ H Q) : PA X es t' := ⟨fun ps pins s σ H Q I q => h.run ps pins s σ H Q I (i σ H Q q)⟩

/-! ### the monad -/
def mRet {α : Type} (a : α) : M α := fun e => some (a, e)
def mBind {α β : Type} (m : M α) (f : α → M β) : M β := fun e => match m e with
  | some (a, e') => f a e'
  | none => none
def mOpt {α : Type} (o : Option α) : M α := fun e => match o with
  | some a => some (a, e)
  | none => none
theorem mBind_some {α β : Type} {m : M α} {f : α → M β} {e : Fw.Env} {r : β × Fw.Env} (h : mBind m f e = some r) : ∃ a e', m e = some (a, e') ∧ f a e' = some r := by
  unfold mBind at h
  split at h
  · exact ⟨_, _, by assumption, h⟩
  · cases h
theorem mOpt_some {α : Type} {o : Option α} {e e' : Fw.Env} {a : α} (h : mOpt o e = some (a, e')) : o = some a ∧ e' = e := by
  unfold mOpt at h
  split at h
  · cases h; exact ⟨rfl, rfl⟩
  · cases h
theorem mRet_some {α : Type} {e e' : Fw.Env} {a b : α} (h : mRet a e = some (b, e')) : b = a ∧ e' = e := by
  unfold mRet at h
  cases h; exact ⟨rfl, rfl⟩

section
variable {X : Cx} {a b c : Expr} {pos : Pos}
variable {K : PySem.W.Frag} {F F' H H' : Hp} {A A' B : List Addr} {σ : L2.St} {e e' : Fw.Env}
theorem Wf.nil (w : Wf F A H) : Wf F (A ++ []) H := by simpa using w
theorem Ext.nil (w : Ext F A H F' A' H') : Ext F A H F' (A' ++ []) H' := by simpa using w
/-- a D-value as a T-value -/
def mT (m : M D) : M T := mBind m fun d => mRet (.fz d)
theorem je_d {m : M D} (h : JD X a m) : JE X a (mT m) := pe_imp h fun σ H Q q => by
  obtain ⟨F, A, e, s, w, t, e', hm, q⟩ := q
  obtain ⟨d, e1, h1, h2⟩ := mBind_some hm
  obtain ⟨rfl, rfl⟩ := mRet_some h2
  exact ⟨F, A, e, s, w, d, _, h1, fun F' A' v H' s' r w' x => q F' A' [] v H' s' (by simp only [OT]; exact ⟨trivial, r⟩) w'.nil x.nil⟩
/-- a T-value frozen -/
def mF (m : M T) : M D := mBind m fun t => mRet t.d
theorem jd_e {m : M T} (h : JE X a m) : JD X a (mF m) := pe_imp h fun σ H Q q => by
  obtain ⟨F, A, e, s, w, d, e', hm, q⟩ := q
  obtain ⟨t, e1, h1, h2⟩ := mBind_some hm
  obtain ⟨rfl, rfl⟩ := mRet_some h2
  refine ⟨F, A, e, s, w, t, _, h1, fun F' A' B v H' s' r w' x => ?_⟩
  exact q (frzH F' H' B) A' v H' (s'.sub (frz_sub w'.right.off)) (OT.freeze t B v r _ (frz_sub w'.right.off) fun a ha => frz_in ha) w'.freeze (x.trans (Ext.freeze w'))

/-! ### names, constants -/
/-- a local name: what it owns is frozen -/
def mVar (i : Nat) : M D := fun e => match e[i]? with
  | some (some t) => some (t.d, e.set i (some (.fz t.d)))
  | _ => none
theorem jd_var {i : Nat} (h : PE X a (tVar i)) : JD X a (mVar i) := pe_imp h fun σ H Q q => by
  obtain ⟨F, A, e, s, w, d, e', hm, q⟩ := q
  unfold mVar at hm
  split at hm
  · rename_i t ht
    cases hm
    obtain ⟨v, A1, A2, q1, q2, q3, q4⟩ := s.take ht
    have w' := w.perm q2
    refine ⟨v, q1, q (frzH F H A1) A2 v H ?_ (OT.freeze t A1 v q3 _ (frz_sub w'.right.off) fun a ha => frz_in ha) w'.freeze ((Ext.freeze w').mem (fun a ha => q2.mem_iff.mpr ha) fun _ ha => ha)⟩
    have z := (q4.sub (frz_sub w'.right.off)).back (t := .fz t.d) (A1 := []) (by simp only [OT]; exact ⟨trivial, OT.freeze t A1 v q3 _ (frz_sub w'.right.off) fun a ha => frz_in ha⟩) (by
      rw [List.getElem?_set_self (by exact (List.getElem?_eq_some_iff.mp ht).1)]) q1
    rw [List.set_set] at z
    exact z.perm (by simp)
  · cases hm
/-- a local name moved out -/
def mMv (i : Nat) : M T := fun e => match e[i]? with
  | some (some t) => some (t, e.set i none)
  | _ => none
theorem je_mv {i : Nat} (h : PE X a (tVar i)) : JE X a (mMv i) := pe_imp h fun σ H Q q => by
  obtain ⟨F, A, e, s, w, d, e', hm, q⟩ := q
  unfold mMv at hm
  split at hm
  · rename_i t ht
    cases hm
    obtain ⟨v, A1, A2, q1, q2, q3, q4⟩ := s.take ht
    have w' := w.perm q2
    exact ⟨v, q1, q F A2 A1 v H q4 q3 w' (Ext.refl (A := A) |>.mem (fun a ha => ha) fun a ha => q2.mem_iff.mpr ha)⟩
  · cases hm
theorem jd_c {v : V} {d : D} (h : PE X a (tC v)) (r : ∀ F, Rep X.K F v d) : JD X a (mRet d) := pe_imp h fun σ H Q q => by
  obtain ⟨F, A, e, s, w, d', e', hm, q⟩ := q
  obtain ⟨rfl, rfl⟩ := mRet_some hm
  exact q F A v H s (r F) w Ext.refl
theorem jd_int {i : Int} {j pos} : JD X (.Constant (.int i) j pos) (mRet (.int i)) := jd_c pe_int fun _ => by simp only [Rep]
theorem jd_bl {i : Bool} {j pos} : JD X (.Constant (.bool i) j pos) (mRet (.bl i)) := jd_c pe_bl fun _ => by simp only [Rep]
theorem jd_non {j pos} : JD X (.Constant .none j pos) (mRet .non) := jd_c pe_non fun _ => by simp only [Rep]
theorem jd_str {i : Str} {j pos} : JD X (.Constant (.str i) j pos) (mRet (.str i)) := jd_c pe_str fun _ => by simp only [Rep]

/-! ### operators on data -/
/-- the heap has grown by frozen objects alone -/
structure Gr (F H F' H' : Hp) : Prop where
  w : Wf F' [] H'
  x : Ext F [] H F' [] H'
theorem Gr.refl (w : Wf F A H) : Gr F H F H := ⟨⟨w.sub, by simp, (fun _ h => by cases h), fun _ h => by cases h⟩, Ext.refl⟩
theorem Gr.new {p : Addr} {o : HO} (w : Wf F A H) (hp : H p = none) : Gr F H (upd F p o) (upd H p o) :=
  ⟨Wf.newF (Gr.refl w).w hp, Ext.newF (Gr.refl w).w hp⟩
theorem Gr.wf (g : Gr F H F' H') (w : Wf F A H) : Wf F' A H' := by
  have := Wf.frame (A1 := []) (B := A) (by simpa using w) g.x g.w
  simpa using this
theorem Gr.ext (g : Gr F H F' H') : Ext F A H F' A H' := by
  have := g.x.frame (B := A)
  simpa using this
theorem Gr.sr (g : Gr F H F' H') (w : Wf F A H) (s : SR K F H A σ e) : SR K F' H' A σ e := s.frame (A1 := []) (by simpa using w) g.x
theorem Gr.trans {F2 H2 : Hp} (g : Gr F H F' H') (g2 : Gr F' H' F2 H2) : Gr F H F2 H2 := ⟨g2.w, g.x.trans g2.x⟩
/-- a two-place operation on frozen data whose answer is frozen data -/
def OpD (X : Cx) (f : Value → Value → Sem Value) (op : D → D → Option D) : Prop :=
  ∃ r : R2, OpR X f r ∧ ∀ x y d1 d2 d F A H (Q : VK), Rep X.K F x d1 → Rep X.K F y d2 → Wf F A H → op d1 d2 = some d →
    (∀ F' v H', Rep X.K F' v d → Gr F H F' H' → Q v H') → r x y H Q
def mOp (op : D → D → Option D) (ma mb : M D) : M D := mBind ma fun x => mBind mb fun y => mOpt (op x y)
/-- two values, one after the other -/
theorem two {ma mb : M D} {β : Type} {g : D → D → M β} {r : β × Fw.Env} {Q : V → V → Hp → Prop} (s : SR K F H A σ e) (w : Wf F A H) (hm : (mBind ma fun x => mBind mb fun y => g x y) e = some r)
    (q : ∀ x y e2 F' A' u v H', g x y e2 = some r → SR K F' H' A' σ e2 → Rep K F' u x → Rep K F' v y → Wf F' A' H' → Ext F A H F' A' H' → Q u v H') :
    rdD K ma σ H fun u H1 => rdD K mb σ H1 fun v H2 => Q u v H2 := by
  obtain ⟨x, e1, h1, h2⟩ := mBind_some hm
  obtain ⟨y, e2, h3, h4⟩ := mBind_some h2
  refine ⟨F, A, e, s, w, x, e1, h1, fun F1 A1 u H1 s1 r1 w1 x1 => ?_⟩
  exact ⟨F1, A1, e1, s1, w1, y, e2, h3, fun F2 A2 v H2 s2 r2 w2 x2 => q x y e2 F2 A2 u v H2 h4 s2 (Rep.mono x2.fz _ _ r1) r2 w2 (x1.trans x2)⟩
theorem jd_op {op : Operator} {f : D → D → Option D} {ma mb : M D} (ho : OpD X (binaryOp op) f) (ha : JD X a ma) (hb : JD X b mb) : JD X (.BinOp a op b pos) (mOp f ma mb) := by
  obtain ⟨r, hr, hq⟩ := ho
  refine pe_imp (pe_op hr ha hb) fun σ H Q q => ?_
  obtain ⟨F, A, e, s, w, d, e', hm, q⟩ := q
  refine two s w hm fun x y e2 F2 A2 u v H2 h4 s2 r1 r2 w2 x2 => ?_
  obtain ⟨h5, rfl⟩ := mOpt_some h4
  exact hq u v x y d F2 A2 H2 Q r1 r2 w2 h5 fun F3 v3 H3 r3 g => q F3 A2 v3 H3 (g.sr w2 s2) r3 (g.wf w2) (x2.trans g.ext)

/-- a comparison -/
theorem jd_cmp {op : CmpOp} {f : D → D → Option D} {ma mb : M D} (ho : OpD X (compareOp op) f) (ha : JD X a ma) (hb : JD X b mb) (hm : behindInMarks op b = false := by first | exact nomark _ | rfl) : JD X (.Compare a [op] [b] pos) (mOp f ma mb) := by
  obtain ⟨r, hr, hq⟩ := ho
  refine pe_imp (pe_cmpR hr ha hb hm) fun σ H Q q => ?_
  obtain ⟨F, A, e, s, w, d, e', hm, q⟩ := q
  refine two s w hm fun x y e2 F2 A2 u v H2 h4 s2 r1 r2 w2 x2 => ?_
  obtain ⟨h5, rfl⟩ := mOpt_some h4
  exact hq u v x y d F2 A2 H2 Q r1 r2 w2 h5 fun F3 v3 H3 r3 g => q F3 A2 v3 H3 (g.sr w2 s2) r3 (g.wf w2) (x2.trans g.ext)
/-- a bool as a test -/
def blO : D → Option Bool
  | .bl b => some b
  | _ => none
def mB (m : M D) : M Bool := mBind m fun d => mOpt (blO d)
theorem rep_bl {v : V} {d : D} {k : Bool} (r : Rep K F v d) (h : blO d = some k) : v = .bl k := by
  cases d <;> simp [blO] at h
  subst h
  simpa [Rep] using r
theorem rd_test {m : M D} {Q : Bool → Hp → Prop} (q : rdT K (mB m) σ H Q) : rdD K m σ H fun x H' => ∃ k, x = .bl k ∧ Q k H' := by
  obtain ⟨F, A, e, s, w, k, e', hm, q⟩ := q
  obtain ⟨d, e1, h1, h2⟩ := mBind_some hm
  obtain ⟨h3, rfl⟩ := mOpt_some h2
  exact ⟨F, A, e, s, w, d, _, h1, fun F' A' v H' s' r w' x => ⟨k, rep_bl r h3, q F' A' H' s' w' x⟩⟩
theorem jt_cmp {op : CmpOp} {f : D → D → Option D} {ma mb : M D} (ho : OpD X (compareOp op) f) (ha : JD X a ma) (hb : JD X b mb) (hm : behindInMarks op b = false := by first | exact nomark _ | rfl) : JT X (.Compare a [op] [b] pos) (mB (mOp f ma mb)) := by
  obtain ⟨r, hr, hq⟩ := ho
  refine pt_imp (pt_cmpR hr ha hb hm) fun σ H Q q => ?_
  obtain ⟨F, A, e, s, w, d, e', hm, q⟩ := rd_test q
  refine two s w hm fun x y e2 F2 A2 u v H2 h4 s2 r1 r2 w2 x2 => ?_
  obtain ⟨h5, rfl⟩ := mOpt_some h4
  exact hq u v x y d F2 A2 H2 _ r1 r2 w2 h5 fun F3 v3 H3 r3 g => q F3 A2 v3 H3 (g.sr w2 s2) r3 (g.wf w2) (x2.trans g.ext)
theorem jt_val {m : M D} (h : JD X a m) (he : ∀ whole, isTrue a X.env whole = (do let v ← whole; standAt a.pos; holding [v] (truthy v)) := by intro _; rfl) : JT X a (mB m) :=
  pt_imp (pt_val h he) fun σ H Q q => rd_test q
/-- truth by contents -/
def truO : D → Option Bool
  | .non => some false
  | .bl b => some b
  | .int i => some (i != 0)
  | .lst xs => some (!xs.isEmpty)
  | .tup xs => some (!xs.isEmpty)
  | _ => none
def mTru (m : M D) : M Bool := mBind m fun d => mOpt (truO d)
theorem jt_tru {m : M D} (h : JD X a m) (he : ∀ whole, isTrue a X.env whole = (do let v ← whole; standAt a.pos; holding [v] (truthy v)) := by intro _; rfl) : JT X a (mTru m) := by
  refine pt_imp (pt_truth h he) fun σ H Q q => ?_
  obtain ⟨F, A, e, s, w, k, e', hm, q⟩ := q
  obtain ⟨d, e1, h1, h2⟩ := mBind_some hm
  obtain ⟨h3, rfl⟩ := mOpt_some h2
  refine ⟨F, A, e, s, w, d, _, h1, fun F' A' v H' s' r w' x => ⟨k, ?_, q F' A' H' s' w' x⟩⟩
  have sub := w'.sub
  cases d <;> simp only [truO, Option.some.injEq, reduceCtorEq] at h3 <;> simp only [Rep] at r
  · subst r; exact h3.symm
  · subst r; exact h3.symm
  · subst r; exact h3.symm
  · rename_i ds
    obtain ⟨p, xs, rfl, h4, h5⟩ := r
    refine .inr (.inl ⟨xs, sub.sqT h4, ?_⟩)
    have := Reps.length ds xs h5
    subst h3
    cases ds <;> cases xs <;> simp_all
  · rename_i ds
    obtain ⟨p, xs, rfl, h4, h5⟩ := r
    refine .inl ⟨xs, .inl (.inl (sub _ _ h4)), ?_⟩
    have := Reps.length ds xs h5
    subst h3
    cases ds <;> cases xs <;> simp_all
def mNotT (m : M Bool) : M Bool := mBind m fun b => mRet (!b)
theorem jt_not {m : M Bool} (h : JT X a m) : JT X (.UnaryOp .Not a pos) (mNotT m) := pt_imp (pt_not h) fun σ H Q q => by
  obtain ⟨F, A, e, s, w, k, e', hm, q⟩ := q
  obtain ⟨d, e1, h1, h2⟩ := mBind_some hm
  obtain ⟨rfl, rfl⟩ := mRet_some h2
  exact ⟨F, A, e, s, w, d, _, h1, q⟩
def mAndT (m n : M Bool) : M Bool := mBind m fun b => if b then n else mRet false
def mOrT (m n : M Bool) : M Bool := mBind m fun b => if b then mRet true else n
variable {rest : List Expr}
theorem jw_and1 {m : M Bool} (h : JT X a m) : JW X (.BoolOp .And [a] pos) m := pw_and1 h
theorem jw_or1 {m : M Bool} (h : JT X a m) : JW X (.BoolOp .Or [a] pos) m := pw_or1 h
theorem jw_and {m n : M Bool} (h : JT X a m) (h2 : JW X (.BoolOp .And (b :: rest) pos) n) : JW X (.BoolOp .And (a :: b :: rest) pos) (mAndT m n) := pw_imp (pw_and h h2) fun σ H Q q => by
  obtain ⟨F, A, e, s, w, k, e', hm, q⟩ := q
  obtain ⟨d, e1, h1, h2⟩ := mBind_some hm
  refine ⟨F, A, e, s, w, d, _, h1, fun F' A' H' s' w' x => ?_⟩
  cases d with
  | true => exact iteT ⟨F', A', _, s', w', k, e', by simpa using h2, fun F2 A2 H2 s2 w2 x2 => q F2 A2 H2 s2 w2 (x.trans x2)⟩
  | false =>
    obtain ⟨rfl, rfl⟩ := mRet_some (by simpa using h2)
    exact iteF (q F' A' H' s' w' x)
theorem jw_or {m n : M Bool} (h : JT X a m) (h2 : JW X (.BoolOp .Or (b :: rest) pos) n) : JW X (.BoolOp .Or (a :: b :: rest) pos) (mOrT m n) := pw_imp (pw_or h h2) fun σ H Q q => by
  obtain ⟨F, A, e, s, w, k, e', hm, q⟩ := q
  obtain ⟨d, e1, h1, h2⟩ := mBind_some hm
  refine ⟨F, A, e, s, w, d, _, h1, fun F' A' H' s' w' x => ?_⟩
  cases d with
  | false => exact iteF ⟨F', A', _, s', w', k, e', by simpa using h2, fun F2 A2 H2 s2 w2 x2 => q F2 A2 H2 s2 w2 (x.trans x2)⟩
  | true =>
    obtain ⟨rfl, rfl⟩ := mRet_some (by simpa using h2)
    exact iteT (q F' A' H' s' w' x)
theorem jt_w {m : M Bool} (h : JW X a m) : JT X a m := PW.pt h
/-- and, or, not as values -/
def mAndV (m n : M D) : M D := mBind m fun d => mBind (mOpt (blO d)) fun b => if b then n else mRet (.bl false)
def mOrV (m n : M D) : M D := mBind m fun d => mBind (mOpt (blO d)) fun b => if b then mRet (.bl true) else n
def mNotV (m : M D) : M D := mBind m fun d => mBind (mOpt (blO d)) fun b => mRet (.bl (!b))
theorem jd_one {op} {m : M D} (h : JD X a m) : JD X (.BoolOp op [a] pos) m := pe_one h
theorem jd_and {m n : M D} (h : JD X a m) (h2 : JD X (.BoolOp .And (b :: rest) pos) n) : JD X (.BoolOp .And (a :: b :: rest) pos) (mAndV m n) := pe_imp (pe_and h h2) fun σ H Q q => by
  obtain ⟨F, A, e, s, w, k, e', hm, q⟩ := q
  obtain ⟨d, e1, h1, h2⟩ := mBind_some hm
  obtain ⟨c, e2, h3, h4⟩ := mBind_some h2
  obtain ⟨h5, rfl⟩ := mOpt_some h3
  refine ⟨F, A, e, s, w, d, _, h1, fun F' A' v H' s' r w' x => ⟨c, rep_bl r h5, ?_⟩⟩
  cases c with
  | true => exact iteT ⟨F', A', _, s', w', k, e', by simpa using h4, fun F2 A2 v2 H2 s2 r2 w2 x2 => q F2 A2 v2 H2 s2 r2 w2 (x.trans x2)⟩
  | false =>
    obtain ⟨rfl, rfl⟩ := mRet_some (by simpa using h4)
    exact iteF (q F' A' _ H' s' (by simp only [Rep]) w' x)
theorem jd_or {m n : M D} (h : JD X a m) (h2 : JD X (.BoolOp .Or (b :: rest) pos) n) : JD X (.BoolOp .Or (a :: b :: rest) pos) (mOrV m n) := pe_imp (pe_or h h2) fun σ H Q q => by
  obtain ⟨F, A, e, s, w, k, e', hm, q⟩ := q
  obtain ⟨d, e1, h1, h2⟩ := mBind_some hm
  obtain ⟨c, e2, h3, h4⟩ := mBind_some h2
  obtain ⟨h5, rfl⟩ := mOpt_some h3
  refine ⟨F, A, e, s, w, d, _, h1, fun F' A' v H' s' r w' x => ⟨c, rep_bl r h5, ?_⟩⟩
  cases c with
  | false => exact iteF ⟨F', A', _, s', w', k, e', by simpa using h4, fun F2 A2 v2 H2 s2 r2 w2 x2 => q F2 A2 v2 H2 s2 r2 w2 (x.trans x2)⟩
  | true =>
    obtain ⟨rfl, rfl⟩ := mRet_some (by simpa using h4)
    exact iteT (q F' A' _ H' s' (by simp only [Rep]) w' x)
theorem jd_not {m : M D} (h : JD X a m) : JD X (.UnaryOp .Not a pos) (mNotV m) := pe_imp (pe_not h) fun σ H Q q => by
  obtain ⟨F, A, e, s, w, k, e', hm, q⟩ := q
  obtain ⟨d, e1, h1, h2⟩ := mBind_some hm
  obtain ⟨c, e2, h3, h4⟩ := mBind_some h2
  obtain ⟨h5, rfl⟩ := mOpt_some h3
  obtain ⟨rfl, rfl⟩ := mRet_some h4
  exact ⟨F, A, e, s, w, d, _, h1, fun F' A' v H' s' r w' x => ⟨c, rep_bl r h5, q F' A' _ H' s' (by simp only [Rep]) w' x⟩⟩
/-- a if t else b -/
def mIf {α : Type} (c : M Bool) (m n : M α) : M α := mBind c fun b => if b then m else n
theorem jd_if {mc : M Bool} {m n : M D} {c : Expr} (hc : JT X c mc) (ha : JD X a m) (hb : JD X b n) : JD X (.IfExp c a b pos) (mIf mc m n) := pe_imp (pe_ifExp hc ha hb) fun σ H Q q => by
  obtain ⟨F, A, e, s, w, k, e', hm, q⟩ := q
  obtain ⟨d, e1, h1, h2⟩ := mBind_some hm
  refine ⟨F, A, e, s, w, d, _, h1, fun F' A' H' s' w' x => ?_⟩
  cases d with
  | true => exact iteT ⟨F', A', _, s', w', k, e', by simpa using h2, fun F2 A2 v2 H2 s2 r2 w2 x2 => q F2 A2 v2 H2 s2 r2 w2 (x.trans x2)⟩
  | false => exact iteF ⟨F', A', _, s', w', k, e', by simpa using h2, fun F2 A2 v2 H2 s2 r2 w2 x2 => q F2 A2 v2 H2 s2 r2 w2 (x.trans x2)⟩
theorem je_if {mc : M Bool} {m n : M T} {c : Expr} (hc : JT X c mc) (ha : JE X a m) (hb : JE X b n) : JE X (.IfExp c a b pos) (mIf mc m n) := pe_imp (pe_ifExp hc ha hb) fun σ H Q q => by
  obtain ⟨F, A, e, s, w, k, e', hm, q⟩ := q
  obtain ⟨d, e1, h1, h2⟩ := mBind_some hm
  refine ⟨F, A, e, s, w, d, _, h1, fun F' A' H' s' w' x => ?_⟩
  cases d with
  | true => exact iteT ⟨F', A', _, s', w', k, e', by simpa using h2, fun F2 A2 B2 v2 H2 s2 r2 w2 x2 => q F2 A2 B2 v2 H2 s2 r2 w2 (x.trans x2)⟩
  | false => exact iteF ⟨F', A', _, s', w', k, e', by simpa using h2, fun F2 A2 B2 v2 H2 s2 r2 w2 x2 => q F2 A2 B2 v2 H2 s2 r2 w2 (x.trans x2)⟩
/-- chains of two and of three comparisons -/
def mChain (f g : D → D → Option D) (ma mb mc : M D) : M D := mBind ma fun x => mBind mb fun y => mBind (mOpt (f x y)) fun z => mBind (mOpt (blO z)) fun k => if k then mBind mc fun u => mOpt (g y u) else mRet (.bl false)
/-- an operation whose answer needs no heap -/
def OpS (X : Cx) (f : Value → Value → Sem Value) (op : D → D → Option D) : Prop :=
  ∃ r : R2, OpR X f r ∧ ∀ x y d1 d2 d F A H (Q : VK), Rep X.K F x d1 → Rep X.K F y d2 → Wf F A H → op d1 d2 = some d → (∀ v, (∀ F', Rep X.K F' v d) → Q v H) → r x y H Q
theorem OpS.d {f : Value → Value → Sem Value} {op : D → D → Option D} (h : OpS X f op) : OpD X f op := by
  obtain ⟨r, hr, hq⟩ := h
  exact ⟨r, hr, fun x y d1 d2 d F A H Q r1 r2 w h q => hq x y d1 d2 d F A H Q r1 r2 w h fun v hv => q F v H (hv F) (Gr.refl w)⟩
theorem jd_chain {op op' : CmpOp} {f g : D → D → Option D} {ma mb mc : M D} (ho : OpS X (compareOp op) f) (ho' : OpS X (compareOp op') g) (ha : JD X a ma) (hb : JD X b mb) (hc : JD X c mc)
    (hm : lastMarks [op, op'] [b, c] = false := by with_unfolding_all rfl) : JD X (.Compare a [op, op'] [b, c] pos) (mChain f g ma mb mc) := by
  obtain ⟨r, hr, hq⟩ := ho
  obtain ⟨r', hr', hq'⟩ := ho'
  refine pe_imp (pe_chain hr hr' ha hb hc hm) fun σ H Q q => ?_
  obtain ⟨F, A, e, s, w, d, e', hm, q⟩ := q
  refine two s w hm fun x y e2 F2 A2 u v H2 h4 s2 r1 r2 w2 x2 => ?_
  obtain ⟨z, e3, h5, h6⟩ := mBind_some h4
  obtain ⟨h7, rfl⟩ := mOpt_some h5
  obtain ⟨k, e4, h8, h9⟩ := mBind_some h6
  obtain ⟨h10, rfl⟩ := mOpt_some h8
  refine hq u v x y z F2 A2 H2 _ r1 r2 w2 h7 fun vz hz => ⟨k, rep_bl (hz F2) h10, ?_⟩
  cases k with
  | false =>
    obtain ⟨rfl, rfl⟩ := mRet_some (by simpa using h9)
    exact iteF (q F2 A2 _ H2 s2 (by simp only [Rep]) w2 x2)
  | true =>
    obtain ⟨p, e5, h11, h12⟩ := mBind_some (by simpa using h9)
    obtain ⟨h13, rfl⟩ := mOpt_some h12
    refine iteT ⟨F2, A2, _, s2, w2, p, _, h11, fun F3 A3 v3 H3 s3 r3 w3 x3 => ?_⟩
    exact hq' v v3 y p d F3 A3 H3 Q (Rep.mono x3.fz _ _ r2) r3 w3 h13 fun v4 h14 => q F3 A3 v4 H3 s3 (h14 F3) w3 (x2.trans x3)
def tChain3 (r r' r'' : R2) (ta tb tc td : TE) : TE := fun σ H Q => ta σ H fun x H1 => tb σ H1 fun y H2 => r x y H2 fun z H3 => ∃ k, z = .bl k ∧
  (if k = true then tc σ H3 fun w' H4 => r' y w' H4 fun z' H5 => ∃ k', z' = .bl k' ∧ (if k' = true then td σ H5 fun u' H6 => r'' w' u' H6 Q else Q (.bl false) H5) else Q (.bl false) H3)
theorem pe_chain3 {op op' op'' : CmpOp} {r r' r'' : R2} {ta tb tc td : TE} {d : Expr} (ho : OpR X (compareOp op) r) (ho' : OpR X (compareOp op') r') (ho'' : OpR X (compareOp op'') r'') (ha : PE X a ta) (hb : PE X b tb) (hc : PE X c tc) (hd : PE X d td)
    (hm : lastMarks [op, op', op''] [b, c, d] = false := by with_unfolding_all rfl) : PE X (.Compare a [op, op', op''] [b, c, d] pos) (tChain3 r r' r'' ta tb tc td) := by
  refine ⟨fun pins s σ H Q I h => ?_⟩
  refine Compare_chain (thn (ha.run pins s σ H _ I h) fun v s1 ⟨x, H1, I1, r1, q1⟩ => chain_link (thn (hb.run pins s1 σ H1 _ I1 q1) fun u s2 ⟨y, H2, I2, r2, q2⟩ =>
    thn (ho pins s2 σ H2 x y v u _ I2 r1 r2 q2) fun d' s3 ⟨z, H3, I3, r3, k, e, q3⟩ => ?_)) hm
  subst e
  cases r3
  refine wpAny_truthy_bool ?_
  cases k with
  | false => exact ite_ff ⟨.bl false, H3, I3, rfl, q3⟩
  | true =>
    refine ite_tt (chain_link (thn (hc.run pins s3 σ H3 _ I3 q3) fun w' s4 ⟨z', H4, I4, r4, q4⟩ => thn (ho' pins s4 σ H4 y z' u w' _ I4 r2 r4 q4) fun d'' s5 ⟨z2, H5, I5, r5, k2, e2, q5⟩ => ?_))
    subst e2
    cases r5
    refine wpAny_truthy_bool ?_
    cases k2 with
    | false => exact ite_ff ⟨.bl false, H5, I5, rfl, q5⟩
    | true => exact ite_tt (chain_last (thn (hd.run pins s5 σ H5 _ I5 q5) fun w'' s6 ⟨z'', H6, I6, r6, q6⟩ => ho'' pins s6 σ H6 z' z'' w' w'' Q I6 r4 r6 q6))
def mChain3 (f g h : D → D → Option D) (ma mb mc md : M D) : M D := mBind ma fun x => mBind mb fun y => mBind (mOpt (f x y)) fun z => mBind (mOpt (blO z)) fun k =>
  if k then mBind mc fun u => mBind (mOpt (g y u)) fun z' => mBind (mOpt (blO z')) fun k' => if k' then mBind md fun t => mOpt (h u t) else mRet (.bl false) else mRet (.bl false)
theorem jd_chain3 {op op' op'' : CmpOp} {f g h : D → D → Option D} {ma mb mc md : M D} {d : Expr} (ho : OpS X (compareOp op) f) (ho' : OpS X (compareOp op') g) (ho'' : OpS X (compareOp op'') h) (ha : JD X a ma) (hb : JD X b mb) (hc : JD X c mc) (hd : JD X d md)
    (hm : lastMarks [op, op', op''] [b, c, d] = false := by with_unfolding_all rfl) : JD X (.Compare a [op, op', op''] [b, c, d] pos) (mChain3 f g h ma mb mc md) := by
  obtain ⟨r, hr, hq⟩ := ho
  obtain ⟨r', hr', hq'⟩ := ho'
  obtain ⟨r'', hr'', hq''⟩ := ho''
  refine pe_imp (pe_chain3 hr hr' hr'' ha hb hc hd hm) fun σ H Q q => ?_
  obtain ⟨F, A, e, s, w, dd, e', hm, q⟩ := q
  refine two s w hm fun x y e2 F2 A2 u v H2 h4 s2 r1 r2 w2 x2 => ?_
  obtain ⟨z, e3, h5, h6⟩ := mBind_some h4
  obtain ⟨h7, rfl⟩ := mOpt_some h5
  obtain ⟨k, e4, h8, h9⟩ := mBind_some h6
  obtain ⟨h10, rfl⟩ := mOpt_some h8
  refine hq u v x y z F2 A2 H2 _ r1 r2 w2 h7 fun vz hz => ⟨k, rep_bl (hz F2) h10, ?_⟩
  cases k with
  | false =>
    obtain ⟨rfl, rfl⟩ := mRet_some (by simpa using h9)
    exact iteF (q F2 A2 _ H2 s2 (by simp only [Rep]) w2 x2)
  | true =>
    obtain ⟨p, e5, h11, h12⟩ := mBind_some (by simpa using h9)
    obtain ⟨z2, e6, h13, h14⟩ := mBind_some h12
    obtain ⟨h15, rfl⟩ := mOpt_some h13
    obtain ⟨k2, e7, h16, h17⟩ := mBind_some h14
    obtain ⟨h18, rfl⟩ := mOpt_some h16
    refine iteT ⟨F2, A2, _, s2, w2, p, _, h11, fun F3 A3 v3 H3 s3 r3 w3 x3 => ?_⟩
    refine hq' v v3 y p z2 F3 A3 H3 _ (Rep.mono x3.fz _ _ r2) r3 w3 h15 fun v4 h19 => ⟨k2, rep_bl (h19 F3) h18, ?_⟩
    cases k2 with
    | false =>
      obtain ⟨rfl, rfl⟩ := mRet_some (by simpa using h17)
      exact iteF (q F3 A3 _ H3 s3 (by simp only [Rep]) w3 (x2.trans x3))
    | true =>
      obtain ⟨p2, e8, h20, h21⟩ := mBind_some (by simpa using h17)
      obtain ⟨h22, rfl⟩ := mOpt_some h21
      refine iteT ⟨F3, A3, _, s3, w3, p2, _, h20, fun F4 A4 v5 H4 s4 r4 w4 x4 => ?_⟩
      exact hq'' v3 v5 p p2 dd F4 A4 H4 Q (Rep.mono x4.fz _ _ r3) r4 w4 h22 fun v6 h23 => q F4 A4 v6 H4 s4 (h23 F4) w4 ((x2.trans x3).trans x4)
end
end Fw

/-! Fw3 -/
set_option Elab.async false
set_option linter.all false
set_option maxRecDepth 100000
set_option maxHeartbeats 4000000
namespace Fw
open PySem PySem.Spec PyProof.Rows L2
section
variable {X : Cx} {K : PySem.W.Frag} {F F' H H' : Hp} {A A' B : List Addr} {σ : L2.St} {e e' : Fw.Env} {a b c : Expr} {pos : Pos}
theorem opR_or {f : Value → Value → Sem Value} {r r' : R2} (h : OpR X f r) (h' : OpR X f r') : OpR X f (fun x y H Q => r x y H Q ∨ r' x y H Q) := by
  intro pins s σ H x y v u Q I rx ry q
  rcases q with q | q
  · exact h pins s σ H x y v u Q I rx ry q
  · exact h' pins s σ H x y v u Q I rx ry q
theorem OpD.or {f : Value → Value → Sem Value} {g h : D → D → Option D} (hg : OpD X f g) (hh : OpD X f h) : OpD X f (fun x y => (g x y).or (h x y)) := by
  obtain ⟨r, hr, hq⟩ := hg
  obtain ⟨r', hr', hq'⟩ := hh
  refine ⟨_, opR_or hr hr', fun x y d1 d2 d F A H Q r1 r2 w e q => ?_⟩
  cases z : g d1 d2 with
  | some d' =>
    simp only [z, Option.some_or, Option.some.injEq] at e
    subst e
    exact .inl (hq x y d1 d2 _ F A H Q r1 r2 w z q)
  | none =>
    simp only [z, Option.none_or] at e
    exact .inr (hq' x y d1 d2 d F A H Q r1 r2 w e q)
theorem OpS.or {f : Value → Value → Sem Value} {g h : D → D → Option D} (hg : OpS X f g) (hh : OpS X f h) : OpS X f (fun x y => (g x y).or (h x y)) := by
  obtain ⟨r, hr, hq⟩ := hg
  obtain ⟨r', hr', hq'⟩ := hh
  refine ⟨_, opR_or hr hr', fun x y d1 d2 d F A H Q r1 r2 w e q => ?_⟩
  cases z : g d1 d2 with
  | some d' =>
    simp only [z, Option.some_or, Option.some.injEq] at e
    subst e
    exact .inl (hq x y d1 d2 _ F A H Q r1 r2 w z q)
  | none =>
    simp only [z, Option.none_or] at e
    exact .inr (hq' x y d1 d2 d F A H Q r1 r2 w e q)
/-! ### dInts -/
def opI (C : Int → Int → Prop) [∀ i j, Decidable (C i j)] (g : Int → Int → Int) : D → D → Option D
  | .int i, .int j => if C i j then some (.int (g i j)) else none
  | _, _ => none
def opI0 (g : Int → Int → Int) : D → D → Option D
  | .int i, .int j => some (.int (g i j))
  | _, _ => none
def opB0 (g : Int → Int → Bool) : D → D → Option D
  | .int i, .int j => some (.bl (g i j))
  | _, _ => none
theorem opI_s {f : Value → Value → Sem Value} {C : Int → Int → Prop} [∀ i j, Decidable (C i j)] {g : Int → Int → Int} (h : OpR X f (rI C fun i j => .int (g i j))) : OpS X f (opI C g) := by
  refine ⟨_, h, fun x y d1 d2 d F A H Q r1 r2 w e q => ?_⟩
  cases d1 <;> cases d2 <;> simp only [opI, reduceCtorEq] at e
  rename_i i j
  simp only [Rep] at r1 r2
  split at e
  · rename_i hc
    cases e
    exact ⟨i, j, r1, r2, hc, q _ fun _ => by simp only [Rep]⟩
  · cases e
theorem opI0_s {f : Value → Value → Sem Value} {g : Int → Int → Int} (h : OpR X f (rI0 fun i j => .int (g i j))) : OpS X f (opI0 g) := by
  refine ⟨_, h, fun x y d1 d2 d F A H Q r1 r2 w e q => ?_⟩
  cases d1 <;> cases d2 <;> simp only [opI0, reduceCtorEq] at e
  rename_i i j
  simp only [Rep] at r1 r2
  cases e
  exact ⟨i, j, r1, r2, q _ fun _ => by simp only [Rep]⟩
theorem opB0_s {f : Value → Value → Sem Value} {g : Int → Int → Bool} (h : OpR X f (rI0 fun i j => .bl (g i j))) : OpS X f (opB0 g) := by
  refine ⟨_, h, fun x y d1 d2 d F A H Q r1 r2 w e q => ?_⟩
  cases d1 <;> cases d2 <;> simp only [opB0, reduceCtorEq] at e
  rename_i i j
  simp only [Rep] at r1 r2
  cases e
  exact ⟨i, j, r1, r2, q _ fun _ => by simp only [Rep]⟩
instance : ∀ i j, Decidable (CMulW i j) := fun i j => by unfold CMulW; infer_instance
/-- a product: of two that are not too wide, or with one that is small -/
def CMulX (i j : Int) : Prop := CMulW i j ∨ i.natAbs.log2 < 60 ∨ j.natAbs.log2 < 60
instance : ∀ i j, Decidable (CMulX i j) := fun i j => by unfold CMulX; infer_instance
theorem small_of {i : Int} (h : i.natAbs.log2 < 60) : -(2 ^ 64) < i ∧ i < 2 ^ 64 := by
  have h1 : i.natAbs < 2 ^ 60 := by
    by_cases h0 : i.natAbs = 0
    · rw [h0]; exact Nat.two_pow_pos _
    · exact (Nat.log2_lt h0).mp h
  have h2 : (2 : Nat) ^ 60 = 1152921504606846976 := by decide
  have h3 : (2 : Int) ^ 64 = 18446744073709551616 := by decide
  rw [h2] at h1
  rw [h3]
  omega
theorem CMulX.ok {i j : Int} (h : CMulX i j) : IntMulOk i j := by
  rcases h with h | h | h
  · exact h.ok
  · exact CMul.ok (.inl (small_of h))
  · exact CMul.ok (.inr (small_of h))
theorem op_mulX {X : Cx} : OpR X (binaryOp .Mult) (rI CMulX fun i j => .int (i * j)) := L2.opI fun _ _ _ _ _ _ _ hc q => mul_int q hc.ok
theorem small_l {i j : Int} (h : i.natAbs < 2 ^ 60) : CMulX i j := .inr (.inl (by
  by_cases h0 : i.natAbs = 0
  · rw [h0]; decide
  · exact (Nat.log2_lt h0).mpr h))
theorem small_r {i j : Int} (h : j.natAbs < 2 ^ 60) : CMulX i j := .inr (.inr (by
  by_cases h0 : j.natAbs = 0
  · rw [h0]; decide
  · exact (Nat.log2_lt h0).mpr h))
instance : ∀ i j, Decidable (CDivW i j) := fun i j => by unfold CDivW; infer_instance
instance : ∀ i j, Decidable (CPow i j) := fun i j => by unfold CPow; infer_instance
abbrev oAddI := opI0 fun i j => i + j
abbrev oSub := opI0 fun i j => i - j
abbrev oMulI := opI CMulX fun i j => i * j
abbrev oDiv := opI CDivW fun i j => i / j
abbrev oMod := opI (fun _ j => 0 < j) fun i j => i % j
abbrev oShl := opI CPow fun i j => i * 2 ^ j.toNat
abbrev oPow := opI CPow fun i j => i ^ j.toNat
abbrev oShr := opI (fun _ j => 0 ≤ j) fun i j => i / 2 ^ j.toNat
abbrev oAnd := opI0 fun i j => Builtin.bitAnd i j
abbrev oOr := opI0 fun i j => Builtin.bitOr i j
abbrev oLt := opB0 fun i j => decide (i < j)
abbrev oLe := opB0 fun i j => decide (i ≤ j)
abbrev oGt := opB0 fun i j => decide (j < i)
abbrev oGe := opB0 fun i j => decide (j ≤ i)
theorem o_addI : OpS X (binaryOp .Add) oAddI := opI0_s op_add
theorem o_sub : OpS X (binaryOp .Sub) oSub := opI0_s op_sub
theorem o_mulI : OpS X (binaryOp .Mult) oMulI := opI_s op_mulX
theorem o_div : OpS X (binaryOp .FloorDiv) oDiv := opI_s op_fdivW
theorem o_mod : OpS X (binaryOp .Mod) oMod := opI_s op_mod
theorem o_shl : OpS X (binaryOp .LShift) oShl := opI_s op_shl
theorem o_pow : OpS X (binaryOp .Pow) oPow := opI_s op_pow
theorem o_shr : OpS X (binaryOp .RShift) oShr := opI_s op_shr
theorem o_and : OpS X (binaryOp .BitAnd) oAnd := opI0_s op_and
theorem o_or : OpS X (binaryOp .BitOr) oOr := opI0_s op_or
theorem o_lt : OpS X (compareOp .Lt) oLt := opB0_s op_lt
theorem o_le : OpS X (compareOp .LtE) oLe := opB0_s op_le
theorem o_gt : OpS X (compareOp .Gt) oGt := opB0_s op_gt
theorem o_ge : OpS X (compareOp .GtE) oGe := opB0_s op_ge
/-- one-place -/
def unI (g : Int → Int) : D → Option D
  | .int i => some (.int (g i))
  | _ => none
def mUn (op : D → Option D) (m : M D) : M D := mBind m fun x => mOpt (op x)
theorem jd_un {op : UnaryOp} {g : Int → Int} {m : M D} (ho : UnR X (unaryOp op) (rU fun i => .int (g i))) (ha : JD X a m) : JD X (.UnaryOp op a pos) (mUn (unI g) m) := pe_imp (pe_un ho ha) fun σ H Q q => by
  obtain ⟨F, A, e, s, w, d, e', hm, q⟩ := q
  obtain ⟨x, e1, h1, h2⟩ := mBind_some hm
  obtain ⟨h3, rfl⟩ := mOpt_some h2
  refine ⟨F, A, e, s, w, x, _, h1, fun F' A' v H' s' r w' x' => ?_⟩
  cases x <;> simp only [unI, reduceCtorEq] at h3
  rename_i i
  simp only [Rep] at r
  cases h3
  exact ⟨i, r, q F' A' _ H' s' (by simp only [Rep]) w' x'⟩
/-! ### equality -/
mutual
def D.py : D → Option PyData
  | .non => some .none
  | .bl b => some (.bool b)
  | .int i => some (.int i)
  | .str s => some (.str s)
  | .tup ds => (D.pys ds).map .tuple
  | .lst ds => (D.pys ds).map .list
  | .obj _ _ _ => none
  | .scr _ => none
def D.pys : List D → Option (List PyData)
  | [] => some []
  | d :: ds => (D.py d).bind fun x => (D.pys ds).map fun xs => x :: xs
end
mutual
theorem Rep.dp (sub : Sub F H) : ∀ (d : D) (v : V) (p : PyData), Rep K F v d → d.py = some p → Dp K H v p
  | .non, v, p, r, h => by simp only [Rep] at r; simp only [D.py, Option.some.injEq] at h; subst r h; exact .non
  | .bl b, v, p, r, h => by simp only [Rep] at r; simp only [D.py, Option.some.injEq] at h; subst r h; exact .bl b
  | .int b, v, p, r, h => by simp only [Rep] at r; simp only [D.py, Option.some.injEq] at h; subst r h; exact .int b
  | .str b, v, p, r, h => by simp only [Rep] at r; simp only [D.py, Option.some.injEq] at h; subst r h; exact .str b
  | .tup ds, v, p, r, h => by
    simp only [Rep] at r
    obtain ⟨a, xs, rfl, h1, h2⟩ := r
    simp only [D.py, Option.map_eq_some_iff] at h
    obtain ⟨ps, h3, rfl⟩ := h
    exact .tup (sub.sqT h1) (Reps.dp sub ds xs ps h2 h3)
  | .lst ds, v, p, r, h => by
    simp only [Rep] at r
    obtain ⟨a, xs, rfl, h1, h2⟩ := r
    simp only [D.py, Option.map_eq_some_iff] at h
    obtain ⟨ps, h3, rfl⟩ := h
    exact .lst (SqL.of (sub _ _ h1)) (Reps.dp sub ds xs ps h2 h3)
  | .obj _ _ _, v, p, r, h => by simp only [D.py, reduceCtorEq] at h
  | .scr _, v, p, r, h => by simp only [D.py, reduceCtorEq] at h
theorem Reps.dp (sub : Sub F H) : ∀ (ds : List D) (xs : List V) (ps : List PyData), Reps K F xs ds → D.pys ds = some ps → DpAll K H xs ps
  | [], xs, ps, r, h => by simp only [Reps] at r; simp only [D.pys, Option.some.injEq] at h; subst r h; exact .nil
  | d :: ds, xs, ps, r, h => by
    simp only [Reps] at r
    obtain ⟨x, y, rfl, h1, h2⟩ := r
    simp only [D.pys, Option.bind_eq_some_iff, Option.map_eq_some_iff] at h
    obtain ⟨p, h3, qs, h4, rfl⟩ := h
    exact .cons (Rep.dp sub d x p h1 h3) (Reps.dp sub ds y qs h2 h4)
end
/-- == as Python has it -/
def eqO (x y : D) : Option Bool := x.py.bind fun p => y.py.bind fun q => if SeqAt.shaped p = true ∧ SeqAt.shaped q = true then some (PyData.eqv p q) else none
def oEq : D → D → Option D := fun x y => (eqO x y).map .bl
def oNe : D → D → Option D := fun x y => (eqO x y).map fun b => .bl (!b)
theorem o_eq (hu : X.A.units + 64 < cLine) : OpS X (compareOp .Eq) oEq := by
  refine ⟨_, op_eqD hu, fun x y d1 d2 d F A H Q r1 r2 w e q => ?_⟩
  simp only [oEq, eqO, Option.map_eq_some_iff, Option.bind_eq_some_iff] at e
  obtain ⟨k, ⟨p, h1, p2, h2, h3⟩, rfl⟩ := e
  split at h3
  · rename_i hs
    cases h3
    exact ⟨p, p2, Rep.dp w.sub _ _ _ r1 h1, Rep.dp w.sub _ _ _ r2 h2, hs.1, hs.2, q _ fun _ => by simp only [Rep]⟩
  · cases h3
theorem o_ne (hu : X.A.units + 64 < cLine) : OpS X (compareOp .NotEq) oNe := by
  refine ⟨_, op_neD hu, fun x y d1 d2 d F A H Q r1 r2 w e q => ?_⟩
  simp only [oNe, eqO, Option.map_eq_some_iff, Option.bind_eq_some_iff] at e
  obtain ⟨k, ⟨p, h1, p2, h2, h3⟩, rfl⟩ := e
  split at h3
  · rename_i hs
    cases h3
    exact ⟨p, p2, Rep.dp w.sub _ _ _ r1 h1, Rep.dp w.sub _ _ _ r2 h2, hs.1, hs.2, q _ fun _ => by simp only [Rep]⟩
  · cases h3
/-- is None, is True -/
def isN : D → Bool
  | .non => true
  | _ => false
theorem rep_non {v : V} {d : D} (r : Rep K F v d) : decide (v = .non) = isN d := by
  cases d <;> simp only [Rep] at r
  · subst r; rfl
  · subst r; rfl
  · subst r; rfl
  · subst r; rfl
  · obtain ⟨_, _, rfl, _⟩ := r; rfl
  · obtain ⟨_, _, rfl, _⟩ := r; rfl
  · obtain ⟨_, _, _, rfl, _⟩ := r; rfl
  · obtain ⟨_, rfl, _⟩ := r; rfl
def oIs : D → D → Option D
  | x, .non => some (.bl (isN x))
  | .bl x, .bl y => some (.bl (decide (x = y)))
  | _, _ => none
def oIsNot : D → D → Option D
  | x, .non => some (.bl (!isN x))
  | .bl x, .bl y => some (.bl (!decide (x = y)))
  | _, _ => none
theorem o_is : OpS X (compareOp .Is) oIs := by
  refine ⟨_, opR_or op_isN op_is_bl, fun x y d1 d2 d F A H Q r1 r2 w e q => ?_⟩
  cases d2 with
  | non =>
    simp only [oIs, Option.some.injEq] at e
    simp only [Rep] at r2
    subst r2 e
    exact .inl ⟨rfl, by rw [rep_non r1]; exact q _ fun _ => by simp only [Rep]⟩
  | bl b2 =>
    cases d1 with
    | bl b1 =>
      simp only [oIs, Option.some.injEq] at e
      simp only [Rep] at r1 r2
      subst r1 r2 e
      exact .inr ⟨b1, b2, rfl, rfl, q _ fun _ => by simp only [Rep]⟩
    | _ => simp only [oIs, reduceCtorEq] at e
  | _ => cases d1 <;> simp only [oIs, reduceCtorEq] at e
theorem o_isNot : OpS X (compareOp .IsNot) oIsNot := by
  refine ⟨_, opR_or op_notN op_isnot_bl, fun x y d1 d2 d F A H Q r1 r2 w e q => ?_⟩
  cases d2 with
  | non =>
    simp only [oIsNot, Option.some.injEq] at e
    simp only [Rep] at r2
    subst r2 e
    exact .inl ⟨rfl, by rw [rep_non r1]; exact q _ fun _ => by simp only [Rep]⟩
  | bl b2 =>
    cases d1 with
    | bl b1 =>
      simp only [oIsNot, Option.some.injEq] at e
      simp only [Rep] at r1 r2
      subst r1 r2 e
      exact .inr ⟨b1, b2, rfl, rfl, q _ fun _ => by simp only [Rep]⟩
    | _ => simp only [oIsNot, reduceCtorEq] at e
  | _ => cases d1 <;> simp only [oIsNot, reduceCtorEq] at e
/-- in a tuple or list of texts (or of dInts) -/
def dStrs : List D → Option (List Str)
  | [] => some []
  | .str s :: ds => (dStrs ds).map (s :: ·)
  | _ :: _ => none
def dInts : List D → Option (List Int)
  | [] => some []
  | .int s :: ds => (dInts ds).map (s :: ·)
  | _ :: _ => none
def dBools : List D → Option (List Bool)
  | [] => some []
  | .bl s :: ds => (dBools ds).map (s :: ·)
  | _ :: _ => none
theorem reps_strs : ∀ (ds : List D) (xs : List V) (ss : List Str), Reps K F xs ds → dStrs ds = some ss → xs = ss.map V.str
  | [], xs, ss, r, h => by simp only [Reps] at r; simp only [dStrs, Option.some.injEq] at h; subst r h; rfl
  | d :: ds, xs, ss, r, h => by
    simp only [Reps] at r
    obtain ⟨x, y, rfl, h1, h2⟩ := r
    cases d <;> simp only [dStrs, reduceCtorEq, Option.map_eq_some_iff] at h
    obtain ⟨q, h3, rfl⟩ := h
    simp only [Rep] at h1
    rw [List.map_cons, h1, reps_strs ds y q h2 h3]
theorem reps_ints : ∀ (ds : List D) (xs : List V) (ss : List Int), Reps K F xs ds → dInts ds = some ss → xs = ss.map V.int
  | [], xs, ss, r, h => by simp only [Reps] at r; simp only [dInts, Option.some.injEq] at h; subst r h; rfl
  | d :: ds, xs, ss, r, h => by
    simp only [Reps] at r
    obtain ⟨x, y, rfl, h1, h2⟩ := r
    cases d <;> simp only [dInts, reduceCtorEq, Option.map_eq_some_iff] at h
    obtain ⟨q, h3, rfl⟩ := h
    simp only [Rep] at h1
    rw [List.map_cons, h1, reps_ints ds y q h2 h3]
theorem reps_bools : ∀ (ds : List D) (xs : List V) (ss : List Bool), Reps K F xs ds → dBools ds = some ss → xs = ss.map V.bl
  | [], xs, ss, r, h => by simp only [Reps] at r; simp only [dBools, Option.some.injEq] at h; subst r h; rfl
  | d :: ds, xs, ss, r, h => by
    simp only [Reps] at r
    obtain ⟨x, y, rfl, h1, h2⟩ := r
    cases d <;> simp only [dBools, reduceCtorEq, Option.map_eq_some_iff] at h
    obtain ⟨q, h3, rfl⟩ := h
    simp only [Rep] at h1
    rw [List.map_cons, h1, reps_bools ds y q h2 h3]
def seqD : D → Option (List D)
  | .tup ds => some ds
  | .lst ds => some ds
  | _ => none
theorem rep_seq {v : V} {d : D} {ds : List D} (sub : Sub F H) (r : Rep K F v d) (h : seqD d = some ds) : ∃ p xs, v = .ref p ∧ (SqL K H p xs ∨ SqT K H p xs) ∧ Reps K F xs ds := by
  cases d <;> simp only [seqD, reduceCtorEq, Option.some.injEq] at h
  · subst h
    simp only [Rep] at r
    obtain ⟨p, xs, rfl, h1, h2⟩ := r
    exact ⟨p, xs, rfl, .inr (sub.sqT h1), h2⟩
  · subst h
    simp only [Rep] at r
    obtain ⟨p, xs, rfl, h1, h2⟩ := r
    exact ⟨p, xs, rfl, .inl (SqL.of (sub _ _ h1)), h2⟩
def inS : D → D → Option Bool
  | .str s, y => (seqD y).bind fun ds => (dStrs ds).map fun ss => ss.any fun t => decide (t = s)
  | .int s, y => (seqD y).bind fun ds => (dInts ds).map fun ss => ss.any fun t => decide (t = s)
  | _, _ => none
def oIn : D → D → Option D := fun x y => (inS x y).map .bl
def oNotIn : D → D → Option D := fun x y => (inS x y).map fun b => .bl (!b)
theorem in_rep {x y : V} {d1 d2 : D} {k : Bool} (sub : Sub F H) (r1 : Rep K F x d1) (r2 : Rep K F y d2) (h : inS d1 d2 = some k) : ∃ p xs, y = .ref p ∧ (SqL K H p xs ∨ SqT K H p xs) ∧ flatV x = true ∧ xs.all flatV = true ∧ inV x xs = k := by
  cases d1 <;> simp only [inS, reduceCtorEq, Option.bind_eq_some_iff, Option.map_eq_some_iff] at h
  · obtain ⟨ds, h1, ss, h2, rfl⟩ := h
    obtain ⟨p, xs, rfl, h3, h4⟩ := rep_seq sub r2 h1
    have e := reps_ints ds xs ss h4 h2
    simp only [Rep] at r1
    subst e r1
    refine ⟨p, _, rfl, h3, rfl, ?_, ?_⟩
    · simp [List.all_eq_true, flatV]
    · simp [inV, List.any_map, eqV]
      rfl
  · obtain ⟨ds, h1, ss, h2, rfl⟩ := h
    obtain ⟨p, xs, rfl, h3, h4⟩ := rep_seq sub r2 h1
    have e := reps_strs ds xs ss h4 h2
    simp only [Rep] at r1
    subst e r1
    refine ⟨p, _, rfl, h3, rfl, ?_, ?_⟩
    · simp [List.all_eq_true, flatV]
    · simp [inV, List.any_map, eqV]
      rfl
theorem o_in : OpS X (compareOp .In) oIn := by
  refine ⟨_, op_in_seq, fun x y d1 d2 d F A H Q r1 r2 w e q => ?_⟩
  simp only [oIn, Option.map_eq_some_iff] at e
  obtain ⟨k, h, rfl⟩ := e
  obtain ⟨p, xs, h1, h2, h3, h4, h5⟩ := in_rep w.sub r1 r2 h
  refine ⟨p, xs, h1, h2, h3, h4, ?_⟩
  rw [h5]
  exact q _ fun _ => by simp [Rep]
theorem o_notIn : OpS X (compareOp .NotIn) oNotIn := by
  refine ⟨_, op_notIn_seq, fun x y d1 d2 d F A H Q r1 r2 w e q => ?_⟩
  simp only [oNotIn, Option.map_eq_some_iff] at e
  obtain ⟨k, h, rfl⟩ := e
  obtain ⟨p, xs, h1, h2, h3, h4, h5⟩ := in_rep w.sub r1 r2 h
  refine ⟨p, xs, h1, h2, h3, h4, ?_⟩
  rw [h5]
  exact q _ fun _ => by simp [Rep]
end
end Fw

/-! Fw4 -/
set_option Elab.async false
set_option linter.all false
set_option maxRecDepth 100000
set_option maxHeartbeats 4000000
namespace Fw
open PySem PySem.Spec PyProof.Rows L2
section
variable {X : Cx} {K : PySem.W.Frag} {F F' F1 F2 H H' H1 H2 : Hp} {A A' A1 A2 B C : List Addr} {σ : L2.St} {e e' : Fw.Env} {a b c : Expr} {es : List Expr} {pos : Pos}
/-! ### argument lists -/
def mCons {α : Type} (m : M α) (n : M (List α)) : M (List α) := mBind m fun x => mBind n fun xs => mRet (x :: xs)
theorem jad_nil : JAD X [] (mRet []) := pa_imp pa_nil fun σ H Q q => by
  obtain ⟨F, A, e, s, w, d, e', hm, q⟩ := q
  obtain ⟨rfl, rfl⟩ := mRet_some hm
  exact q F A [] H s (by simp only [Reps]) w Ext.refl
theorem jae_nil : JAE X [] (mRet []) := pa_imp pa_nil fun σ H Q q => by
  obtain ⟨F, A, e, s, w, d, e', hm, q⟩ := q
  obtain ⟨rfl, rfl⟩ := mRet_some hm
  exact q F A [] [] H s (by simp only [OTs]; exact ⟨trivial, trivial⟩) w.nil Ext.refl.nil
theorem jad_cons {m : M D} {n : M (List D)} (h : JD X a m) (h2 : JAD X es n) (hs : starEach (a :: es) X.env = (false, eval a X.env) :: starEach es X.env := by rfl) : JAD X (a :: es) (mCons m n) := pa_imp (pa_cons h h2 hs) fun σ H Q q => by
  obtain ⟨F, A, e, s, w, ds, e', hm, q⟩ := q
  obtain ⟨x, e1, h1, h2⟩ := mBind_some hm
  obtain ⟨xs, e2, h3, h4⟩ := mBind_some h2
  obtain ⟨rfl, rfl⟩ := mRet_some h4
  refine ⟨F, A, e, s, w, x, e1, h1, fun F1 A1 u H1 s1 r1 w1 x1 => ?_⟩
  refine ⟨F1, A1, e1, s1, w1, xs, _, h3, fun F2 A2 v H2 s2 r2 w2 x2 => ?_⟩
  exact q F2 A2 (u :: v) H2 s2 (by simp only [Reps]; exact ⟨u, v, rfl, Rep.mono x2.fz _ _ r1, r2⟩) w2 (x1.trans x2)
theorem jae_cons {m : M T} {n : M (List T)} (h : JE X a m) (h2 : JAE X es n) (hs : starEach (a :: es) X.env = (false, eval a X.env) :: starEach es X.env := by rfl) : JAE X (a :: es) (mCons m n) := pa_imp (pa_cons h h2 hs) fun σ H Q q => by
  obtain ⟨F, A, e, s, w, ds, e', hm, q⟩ := q
  obtain ⟨x, e1, h1, h2⟩ := mBind_some hm
  obtain ⟨xs, e2, h3, h4⟩ := mBind_some h2
  obtain ⟨rfl, rfl⟩ := mRet_some h4
  refine ⟨F, A, e, s, w, x, e1, h1, fun F1 A1 B1 u H1 s1 r1 w1 x1 => ?_⟩
  refine ⟨F1, A1, e1, s1, w1.left, xs, _, h3, fun F2 A2 B2 v H2 s2 r2 w2 x2 => ?_⟩
  have w3 := Wf.frame (B := B1) w1 x2 w2
  refine q F2 A2 (B1 ++ B2) (u :: v) H2 s2 (by simp only [OTs]; exact ⟨B1, B2, u, v, rfl, rfl, r1.frame w1 x2, r2⟩) (w3.perm ?_) ((x1.trans x2.frame).mem (fun _ h => h) fun z hz => ?_)
  · rw [List.append_assoc]; exact List.Perm.append_left A2 List.perm_append_comm
  · simp only [List.mem_append] at hz ⊢
    rcases hz with h | h | h
    · exact .inl (.inl h)
    · exact .inr h
    · exact .inl (.inr h)
/-! ### displays -/
def mTup (m : M (List D)) : M D := mBind m fun ds => mOpt (if ds.length ≤ sizeLine then some (.tup ds) else none)
theorem jd_tup {m : M (List D)} {x1} (h : JAD X es m) : JD X (.Tuple es x1 pos) (mTup m) := pe_imp (pe_tup h) fun σ H Q q => by
  obtain ⟨F, A, e, s, w, d, e', hm, q⟩ := q
  obtain ⟨ds, e1, h1, h2⟩ := mBind_some hm
  obtain ⟨h3, rfl⟩ := mOpt_some h2
  split at h3
  · rename_i hz
    cases h3
    refine ⟨F, A, e, s, w, ds, _, h1, fun F1 A1 v H1 s1 r1 w1 x1 => ⟨by rw [Reps.length ds v r1]; exact hz, fun p hp => ?_⟩⟩
    have g := Gr.new (o := .tup v) w1 hp
    exact q _ A1 _ _ (g.sr w1 s1) (by simp only [Rep]; exact ⟨p, v, rfl, .inl (.inl upd_same), Reps.mono g.x.fz ds v r1⟩) (g.wf w1) (x1.trans g.ext)
  · cases h3
def mTupT (m : M (List T)) : M T := mBind m fun ds => mOpt (if ds.length ≤ sizeLine then some (.tup ds) else none)
def mLst (m : M (List T)) : M T := mBind m fun ds => mOpt (if ds.length ≤ sizeLine then some (.lst ds) else none)
theorem newO_sr {p : Addr} {o : HO} (w : Wf F A H) (hp : H p = none) (s : SR K F H A σ e) : SR K F (upd H p o) A σ e :=
  s.frame (A1 := []) (A2 := [p]) (by simpa using w) (by have := Ext.newO (F := F) (A := []) (o := o) hp; simpa using this)
theorem newO_ots {p : Addr} {o : HO} {vs : List V} {ts : List T} (w : Wf F A H) (hp : H p = none) (s : OTs K F H A vs ts) : OTs K F (upd H p o) A vs ts :=
  s.frame (A1 := []) (A2 := [p]) (by simpa using w) (by have := Ext.newO (F := F) (A := []) (o := o) hp; simpa using this)
theorem je_lst {m : M (List T)} (h : JAE X es m) : JE X (.List es pos) (mLst m) := pe_imp (pe_lst h) fun σ H Q q => by
  obtain ⟨F, A, e, s, w, d, e', hm, q⟩ := q
  obtain ⟨ds, e1, h1, h2⟩ := mBind_some hm
  obtain ⟨h3, rfl⟩ := mOpt_some h2
  split at h3
  · rename_i hz
    cases h3
    refine ⟨F, A, e, s, w, ds, _, h1, fun F1 A1 B1 v H1 s1 r1 w1 x1 => ⟨by rw [OTs.length ds B1 v r1]; exact hz, fun p hp => ?_⟩⟩
    have w2 := Wf.newO (o := .lst v) w1 hp
    refine q F1 A1 (p :: B1) (.ref p) _ (newO_sr w1.left hp s1) (by simp only [OT]; exact ⟨p, B1, v, rfl, rfl, upd_same, newO_ots w1.right hp r1⟩) (w2.perm ?_) ((x1.trans (Ext.newO (o := .lst v) hp)).mem (fun _ h => h) fun z hz => ?_)
    · rw [List.append_assoc]; exact List.Perm.append_left A1 (List.perm_append_comm (l₁ := B1) (l₂ := [p]))
    · simp only [List.mem_append, List.mem_cons] at hz ⊢
      rcases hz with h | h | h
      · exact .inl (.inl h)
      · exact .inr (.inl h)
      · exact .inl (.inr h)
  · cases h3
theorem je_tup {m : M (List T)} {x1} (h : JAE X es m) : JE X (.Tuple es x1 pos) (mTupT m) := pe_imp (pe_tup h) fun σ H Q q => by
  obtain ⟨F, A, e, s, w, d, e', hm, q⟩ := q
  obtain ⟨ds, e1, h1, h2⟩ := mBind_some hm
  obtain ⟨h3, rfl⟩ := mOpt_some h2
  split at h3
  · rename_i hz
    cases h3
    refine ⟨F, A, e, s, w, ds, _, h1, fun F1 A1 B1 v H1 s1 r1 w1 x1 => ⟨by rw [OTs.length ds B1 v r1]; exact hz, fun p hp => ?_⟩⟩
    have w2 := Wf.newO (o := .tup v) w1 hp
    refine q F1 A1 (p :: B1) (.ref p) _ (newO_sr w1.left hp s1) (by simp only [OT]; exact ⟨p, B1, v, rfl, rfl, upd_same, newO_ots w1.right hp r1⟩) (w2.perm ?_) ((x1.trans (Ext.newO (o := .tup v) hp)).mem (fun _ h => h) fun z hz => ?_)
    · rw [List.append_assoc]; exact List.Perm.append_left A1 (List.perm_append_comm (l₁ := B1) (l₂ := [p]))
    · simp only [List.mem_append, List.mem_cons] at hz ⊢
      rcases hz with h | h | h
      · exact .inl (.inl h)
      · exact .inr (.inl h)
      · exact .inl (.inr h)
  · cases h3
/-- a new list of frozen things, from an expression's reading -/
theorem fin_lst {Q : VK} {ds : List D} {xs : List V} {p : Addr} (hp : H p = none) (s : SR K F H A σ e) (w : Wf F A H) (r : Reps K F xs ds)
    (q : ∀ F' A' B v H', SR K F' H' A' σ e → OT K F' H' B v (.lst (ds.map T.fz)) → Wf F' (A' ++ B) H' → Ext F A H F' (A' ++ B) H' → Q v H') : Q (.ref p) (upd H p (.lst xs)) :=
  q F A [p] (.ref p) _ (newO_sr w hp s) (by simp only [OT]; exact ⟨p, [], xs, rfl, rfl, upd_same, OTs.fz ds xs r⟩) (Wf.newO w hp) (Ext.newO hp)
/-! ### subscripts -/
def oIx : D → D → Option D
  | .tup ds, .int i => atI ds i
  | .lst ds, .int i => atI ds i
  | .scr ns, .int i => (atI ns i).map .int
  | _, _ => none
theorem reps_at {ds : List D} {xs : List V} {i : Int} {d : D} (r : Reps K F xs ds) (h : atI ds i = some d) : ∃ x, atI xs i = some x ∧ Rep K F x d := by
  unfold atI at h ⊢
  rw [Reps.length ds xs r]
  cases q : ixN ds.length i with
  | none => rw [q] at h; cases h
  | some j =>
    rw [q] at h
    exact Reps.get ds xs j d r h
theorem jd_ix {ma mb : M D} (ha : JD X a ma) (hb : JD X b mb) (hs : PlainIx b := by intro _ _; rfl) : JD X (.Subscript a b pos) (mOp oIx ma mb) := by
  refine pe_imp (pe_ix ix_seq ha hb hs) fun σ H Q q => ?_
  obtain ⟨F, A, e, s, w, d, e', hm, q⟩ := q
  refine two s w hm fun x y e2 F2 A2 u v H2 h4 s2 r1 r2 w2 x2 => ?_
  obtain ⟨h5, rfl⟩ := mOpt_some h4
  have sub := w2.sub
  cases x <;> cases y <;> simp only [oIx, reduceCtorEq, Option.map_eq_some_iff] at h5 <;> simp only [Rep] at r1 r2
  · obtain ⟨p, xs, rfl, h6, h7⟩ := r1
    obtain ⟨x, h8, h9⟩ := reps_at h7 h5
    exact .inr (.inl ⟨p, xs, _, x, rfl, r2, sub.sqT h6, h8, q F2 A2 x H2 s2 h9 w2 x2⟩)
  · obtain ⟨p, xs, rfl, h6, h7⟩ := r1
    obtain ⟨x, h8, h9⟩ := reps_at h7 h5
    exact .inl ⟨p, xs, _, x, rfl, r2, SqL.of (sub _ _ h6), h8, q F2 A2 x H2 s2 h9 w2 x2⟩
  · obtain ⟨p, rfl, h6⟩ := r1
    obtain ⟨n, h8, rfl⟩ := h5
    refine .inl ⟨p, _, _, .int n, rfl, r2, sub.sqL h6, ?_, q F2 A2 _ H2 s2 (by simp only [Rep]) w2 x2⟩
    unfold atI at h8 ⊢
    rw [List.length_map]
    cases z : ixN _ _ with
    | none => rw [z] at h8; cases h8
    | some j =>
      rw [z] at h8
      simp only [Option.bind_some] at h8 ⊢
      rw [List.getElem?_map, h8]; rfl
/-! ### slices -/
def cutD {α : Type} (xs : List α) (lo hi : Option Int) : List α := (xs.drop (HT.sIx xs.length 0 lo)).take (HT.sIx xs.length xs.length hi - HT.sIx xs.length 0 lo)
def mPartN : M (Option Int) := mRet none
def mPart (m : M D) : M (Option Int) := mBind m fun d => match d with
  | .int i => mRet (some i)
  | _ => mOpt none
def rdO (K : PySem.W.Frag) (m : M (Option Int)) : TO := fun σ H Q => ∃ F A e, SR K F H A σ e ∧ Wf F A H ∧ ∃ d e', m e = some (d, e') ∧
  ∀ F' A' H', SR K F' H' A' σ e' → Wf F' A' H' → Ext F A H F' A' H' → Q d H'
def JO (X : Cx) (e : Option Expr) (m : M (Option Int)) : Prop := PO X e (rdO X.K m)
theorem po_imp {X : Cx} {e : Option Expr} {t t' : TO} (h : PO X e t) (i : ∀ σ H Q, t' σ H Q → t σ H Q) : PO X e t' := ⟨fun pins s σ H Q I q => h.run pins s σ H Q I (i σ H Q q)⟩
theorem jo_none : JO X none mPartN := po_imp po_none fun σ H Q q => by
  obtain ⟨F, A, e, s, w, d, e', hm, q⟩ := q
  obtain ⟨rfl, rfl⟩ := mRet_some hm
  exact q F A H s w Ext.refl
theorem jo_some {m : M D} (h : JD X a m) : JO X (some a) (mPart m) := po_imp (po_some h) fun σ H Q q => by
  obtain ⟨F, A, e, s, w, d, e', hm, q⟩ := q
  obtain ⟨x, e1, h1, h2⟩ := mBind_some hm
  refine ⟨F, A, e, s, w, x, e1, h1, fun F' A' v H' s' r w' x' => ?_⟩
  cases x <;> simp only [mOpt, reduceCtorEq] at h2
  rename_i i
  obtain ⟨rfl, rfl⟩ := mRet_some h2
  simp only [Rep] at r
  exact ⟨i, r, q F' A' H' s' w' x'⟩
def mSl {α : Type} (m : M D) (l h : M (Option Int)) (k : D → Option Int → Option Int → Option α) : M α := mBind m fun d => mBind l fun lo => mBind h fun hi => mOpt (k d lo hi)
def slT : D → Option Int → Option Int → Option D
  | .tup ds, lo, hi => some (.tup (cutD ds lo hi))
  | _, _, _ => none
def slL : D → Option Int → Option Int → Option T
  | .lst ds, lo, hi => some (.lst ((cutD ds lo hi).map T.fz))
  | .scr ns, lo, hi => some (.lst ((cutD ns lo hi).map fun n => T.fz (.int n)))
  | _, _, _ => none
theorem reps_drop : ∀ (n : Nat) (ds : List D) (xs : List V), Reps K F xs ds → Reps K F (xs.drop n) (ds.drop n)
  | 0, ds, xs, h => h
  | n + 1, [], xs, h => by simp only [Reps] at h; subst h; simp [Reps]
  | n + 1, d :: ds, xs, h => by
    simp only [Reps] at h
    obtain ⟨x, r, rfl, _, h2⟩ := h
    exact reps_drop n ds r h2
theorem reps_take : ∀ (n : Nat) (ds : List D) (xs : List V), Reps K F xs ds → Reps K F (xs.take n) (ds.take n)
  | 0, ds, xs, h => by simp [Reps]
  | n + 1, [], xs, h => by simp only [Reps] at h; subst h; simp [Reps]
  | n + 1, d :: ds, xs, h => by
    simp only [Reps] at h
    obtain ⟨x, r, rfl, h1, h2⟩ := h
    simp only [List.take_succ_cons, Reps]
    exact ⟨x, _, rfl, h1, reps_take n ds r h2⟩
theorem reps_cut {ds : List D} {xs : List V} {lo hi : Option Int} (h : Reps K F xs ds) : Reps K F (cutV xs lo hi) (cutD ds lo hi) := by
  unfold cutV cutD
  rw [Reps.length ds xs h]
  exact reps_take _ _ _ (reps_drop _ _ _ h)
theorem reps_map_int : ∀ ns : List Int, Reps K F (ns.map V.int) (ns.map D.int)
  | [] => by simp [Reps]
  | n :: ns => by
    simp only [List.map_cons, Reps]
    exact ⟨_, _, rfl, by simp only [Rep], reps_map_int ns⟩
theorem three {α : Type} {m : M D} {l h : M (Option Int)} {k : D → Option Int → Option Int → Option α} {r : α × Fw.Env} {Q : V → Option Int → Option Int → Hp → Prop} (s : SR K F H A σ e) (w : Wf F A H) (hm : mSl m l h k e = some r)
    (q : ∀ d lo hi e2 F' A' v H', k d lo hi = some r.1 → e2 = r.2 → SR K F' H' A' σ e2 → Rep K F' v d → Wf F' A' H' → Ext F A H F' A' H' → Q v lo hi H') :
    rdD K m σ H fun u H1 => rdO K l σ H1 fun lo H2 => rdO K h σ H2 fun hi H3 => Q u lo hi H3 := by
  obtain ⟨d, e1, h1, h2⟩ := mBind_some hm
  obtain ⟨lo, e2, h3, h4⟩ := mBind_some h2
  obtain ⟨hi, e3, h5, h6⟩ := mBind_some h4
  obtain ⟨h7, h8⟩ := mOpt_some (a := r.1) (e' := r.2) (by simpa using h6)
  refine ⟨F, A, e, s, w, d, e1, h1, fun F1 A1 u H1 s1 r1 w1 x1 => ?_⟩
  refine ⟨F1, A1, e1, s1, w1, lo, e2, h3, fun F2 A2 H2 s2 w2 x2 => ?_⟩
  refine ⟨F2, A2, e2, s2, w2, hi, e3, h5, fun F3 A3 H3 s3 w3 x3 => ?_⟩
  exact q d lo hi e3 F3 A3 u H3 h7 h8.symm s3 (Rep.mono (x2.trans x3).fz _ _ r1) w3 ((x1.trans x2).trans x3)
theorem jd_slT {m : M D} {l h : M (Option Int)} {lo hi : Option Expr} {p2 : Pos} (ha : JD X a m) (hl : JO X lo l) (hh : JO X hi h) : JD X (.Subscript a (.Slice lo hi none p2) pos) (mSl m l h slT) := by
  refine pe_imp (pe_slice sl_tupA ha hl hh) fun σ H Q q => ?_
  obtain ⟨F, A, e, s, w, d, e', hm, q⟩ := q
  refine three s w hm fun x lo hi e2 F2 A2 v H2 h4 h5 s2 r1 w2 x2 => ?_
  subst h5
  cases x <;> simp only [slT, reduceCtorEq, Option.some.injEq] at h4
  rename_i ds
  subst h4
  simp only [Rep] at r1
  obtain ⟨p, xs, rfl, h6, h7⟩ := r1
  refine ⟨p, xs, rfl, w2.sub.sqT h6, fun hw => ?_, fun _ t ht => ?_⟩
  · have e1 : cutD ds lo hi = ds := by
      unfold cutD
      rw [← Reps.length ds xs h7]
      rw [hw.1, hw.2]
      simp [Reps.length ds xs h7]
    rw [e1] at q
    exact q F2 A2 _ H2 s2 (by simp only [Rep]; exact ⟨p, xs, rfl, h6, h7⟩) w2 x2
  · have g := Gr.new (o := .tup (cutV xs lo hi)) w2 ht
    exact q _ A2 _ _ (g.sr w2 s2) (by simp only [Rep]; exact ⟨t, _, rfl, .inl (.inl upd_same), Reps.mono g.x.fz _ _ (reps_cut h7)⟩) (g.wf w2) (x2.trans g.ext)
theorem je_slL {m : M D} {l h : M (Option Int)} {lo hi : Option Expr} {p2 : Pos} (ha : JD X a m) (hl : JO X lo l) (hh : JO X hi h) : JE X (.Subscript a (.Slice lo hi none p2) pos) (mSl m l h slL) := by
  refine pe_imp (pe_slice sl_list ha hl hh) fun σ H Q q => ?_
  obtain ⟨F, A, e, s, w, d, e', hm, q⟩ := q
  refine three s w hm fun x lo hi e2 F2 A2 v H2 h4 h5 s2 r1 w2 x2 => ?_
  subst h5
  cases x <;> simp only [slL, reduceCtorEq, Option.some.injEq] at h4
  · rename_i ds
    subst h4
    simp only [Rep] at r1
    obtain ⟨p, xs, rfl, h6, h7⟩ := r1
    refine ⟨p, xs, rfl, SqL.of (w2.sub _ _ h6), fun t ht => ?_⟩
    exact fin_lst ht s2 w2 (reps_cut h7) fun F3 A3 B3 v3 H3 s3 r3 w3 x3 => q F3 A3 B3 v3 H3 s3 r3 w3 (x2.trans x3)
  · rename_i ns
    subst h4
    simp only [Rep] at r1
    obtain ⟨p, rfl, h6⟩ := r1
    refine ⟨p, _, rfl, w2.sub.sqL h6, fun t ht => ?_⟩
    have z : cutD (ns.map D.int) lo hi = (cutD ns lo hi).map D.int := by
      unfold cutD
      simp [List.map_drop, List.map_take]
    have := fin_lst (Q := Q) ht s2 w2 (reps_cut (lo := lo) (hi := hi) (reps_map_int ns)) fun F3 A3 B3 v3 H3 s3 r3 w3 x3 => q F3 A3 B3 v3 H3 s3 (by rw [z, List.map_map] at r3; exact r3) w3 (x2.trans x3)
    exact this
/-! ### lists put together -/
def oCat : D → D → Option T
  | .lst xs, .lst ys => if xs.length + ys.length ≤ sizeLine then some (.lst ((xs ++ ys).map T.fz)) else none
  | _, _ => none
theorem reps_app : ∀ (ds : List D) (xs : List V) {es : List D} {ys : List V}, Reps K F xs ds → Reps K F ys es → Reps K F (xs ++ ys) (ds ++ es)
  | [], xs, es, ys, h, h2 => by simp only [Reps] at h; subst h; exact h2
  | d :: ds, xs, es, ys, h, h2 => by
    simp only [Reps] at h
    obtain ⟨x, r, rfl, h1, h3⟩ := h
    simp only [List.cons_append, Reps]
    exact ⟨x, _, rfl, h1, reps_app ds r h3 h2⟩
theorem reps_rep {ds : List D} {xs : List V} (h : Reps K F xs ds) : ∀ k : Nat, Reps K F (List.replicate k xs).flatten (List.replicate k ds).flatten
  | 0 => by simp [Reps]
  | k + 1 => by
    rw [List.replicate_succ, List.replicate_succ, List.flatten_cons, List.flatten_cons]
    exact reps_app ds xs h (reps_rep h k)
def mOpT (op : D → D → Option T) (ma mb : M D) : M T := mBind ma fun x => mBind mb fun y => mOpt (op x y)
theorem je_cat {ma mb : M D} (ha : JD X a ma) (hb : JD X b mb) : JE X (.BinOp a .Add b pos) (mOpT oCat ma mb) := by
  refine pe_imp (pe_op op_cat ha hb) fun σ H Q q => ?_
  obtain ⟨F, A, e, s, w, d, e', hm, q⟩ := q
  refine two s w hm fun x y e2 F2 A2 u v H2 h4 s2 r1 r2 w2 x2 => ?_
  obtain ⟨h5, rfl⟩ := mOpt_some h4
  cases x <;> cases y <;> simp only [oCat, reduceCtorEq] at h5
  split at h5
  · rename_i hz
    cases h5
    simp only [Rep] at r1 r2
    obtain ⟨p, xs, rfl, h6, h7⟩ := r1
    obtain ⟨p2, ys, rfl, h8, h9⟩ := r2
    refine ⟨p, p2, xs, ys, rfl, rfl, w2.sub _ _ h6, w2.sub _ _ h8, by rw [Reps.length _ _ h7, Reps.length _ _ h9]; exact hz, fun t ht => ?_⟩
    exact fin_lst ht s2 w2 (reps_app _ _ h7 h9) fun F3 A3 B3 v3 H3 s3 r3 w3 x3 => q F3 A3 B3 v3 H3 s3 r3 w3 (x2.trans x3)
  · cases h5
def oRep : D → D → Option T
  | .lst xs, .int k => if -(2 ^ 63) ≤ k ∧ k < 2 ^ 63 ∧ xs.length * k.toNat ≤ sizeLine then some (.lst (((List.replicate k.toNat xs).flatten).map T.fz)) else none
  | _, _ => none
theorem je_rep {ma mb : M D} (ha : JD X a ma) (hb : JD X b mb) : JE X (.BinOp a .Mult b pos) (mOpT oRep ma mb) := by
  refine pe_imp (pe_op op_rep ha hb) fun σ H Q q => ?_
  obtain ⟨F, A, e, s, w, d, e', hm, q⟩ := q
  refine two s w hm fun x y e2 F2 A2 u v H2 h4 s2 r1 r2 w2 x2 => ?_
  obtain ⟨h5, rfl⟩ := mOpt_some h4
  cases x <;> cases y <;> simp only [oRep, reduceCtorEq] at h5
  split at h5
  · rename_i hz
    cases h5
    simp only [Rep] at r1 r2
    obtain ⟨p, xs, rfl, h6, h7⟩ := r1
    refine ⟨p, _, xs, rfl, r2, w2.sub _ _ h6, hz.1, hz.2.1, by rw [Reps.length _ _ h7]; exact hz.2.2, fun t ht => ?_⟩
    exact fin_lst ht s2 w2 (reps_rep h7 _) fun F3 A3 B3 v3 H3 s3 r3 w3 x3 => q F3 A3 B3 v3 H3 s3 r3 w3 (x2.trans x3)
  · cases h5
/-- tuple + tuple -/
def oCatT : D → D → Option D
  | .tup xs, .tup ys => if xs.length + ys.length ≤ sizeLine then some (.tup (xs ++ ys)) else none
  | _, _ => none
theorem o_catT : OpD X (binaryOp .Add) oCatT := by
  refine ⟨_, op_catA, fun x y d1 d2 d F A H Q r1 r2 w e q => ?_⟩
  cases d1 <;> cases d2 <;> simp only [oCatT, reduceCtorEq] at e
  rename_i ds es
  split at e
  · rename_i hz
    cases e
    simp only [Rep] at r1 r2
    obtain ⟨p, xs, rfl, h6, h7⟩ := r1
    obtain ⟨p2, ys, rfl, h8, h9⟩ := r2
    have l1 := Reps.length _ _ h7
    have l2 := Reps.length _ _ h9
    refine ⟨p, p2, xs, ys, rfl, rfl, w.sub.sqT h6, w.sub.sqT h8, by rw [l1, l2]; exact hz, fun h0 => ?_, fun h0 h1 => ?_, fun h0 h1 t ht => ?_⟩
    · subst h0
      have : ds = [] := by cases ds <;> simp_all
      subst this
      exact q F _ H (by simp only [Rep]; exact ⟨p2, ys, rfl, h8, h9⟩) (Gr.refl w)
    · subst h1
      have : es = [] := by cases es <;> simp_all
      subst this
      exact q F _ H (by simp only [Rep, List.append_nil]; exact ⟨p, xs, rfl, h6, h7⟩) (Gr.refl w)
    · have g := Gr.new (o := .tup (xs ++ ys)) w ht
      exact q _ _ _ (by simp only [Rep]; exact ⟨t, _, rfl, .inl (.inl upd_same), Reps.mono g.x.fz _ _ (reps_app _ _ h7 h9)⟩) g
  · cases e
end
end Fw

/-! Fw5 -/
set_option Elab.async false
set_option linter.all false
set_option maxRecDepth 100000
set_option maxHeartbeats 4000000
namespace Fw
open PySem PySem.Spec PyProof.Rows L2
section
variable {X : Cx} {K : PySem.W.Frag} {F F' F1 F2 H H' H1 H2 : Hp} {A A' A1 A2 B C : List Addr} {σ : L2.St} {e e' : Fw.Env} {a b c : Expr} {es : List Expr} {pos p : Pos} {x : Str} {id ty : String}
/-! ### calls of built-ins -/
def CallD (X : Cx) (f : Value) (op : List D → Option D) : Prop :=
  ∃ r : List V → Hp → VK → Prop, CallR X f r ∧ ∀ xs ds d F A H (Q : VK), Reps X.K F xs ds → Wf F A H → op ds = some d → (∀ F' v H', Rep X.K F' v d → Gr F H F' H' → Q v H') → r xs H Q
def mCall (op : List D → Option D) (m : M (List D)) : M D := mBind m fun ds => mOpt (op ds)
theorem call_imp {r : List V → Hp → VK → Prop} {op : List D → Option D} {m : M (List D)} {Q : VK} (hq : ∀ xs ds d F A H (Q : VK), Reps K F xs ds → Wf F A H → op ds = some d → (∀ F' v H', Rep K F' v d → Gr F H F' H' → Q v H') → r xs H Q)
    (q : rdD K (mCall op m) σ H Q) : tCB r (rdAD K m) σ H Q := by
  obtain ⟨F, A, e, s, w, d, e', hm, q⟩ := q
  obtain ⟨ds, e1, h1, h2⟩ := mBind_some hm
  obtain ⟨h3, rfl⟩ := mOpt_some h2
  exact ⟨F, A, e, s, w, ds, _, h1, fun F1 A1 v H1 s1 r1 w1 x1 => hq v ds d F1 A1 H1 Q r1 w1 h3 fun F2 v2 H2 r2 g => q F2 A1 v2 H2 (g.sr w1 s1) r2 (g.wf w1) (x1.trans g.ext)⟩
theorem jd_callB {op : List D → Option D} {m : M (List D)} (hc : CallD X (.builtin id) op) (hm : X.mg x = none) (ha : JAD X (a :: es) m) (hg : Gl X x := by rfl) (hv : bootBuiltins x = some (.builtin id) := by decide +kernel) (hn : x ≠ "__name__" := by decide) (hdb : (x == ("__debug__" : Str)) = false := by decide)
    (he : starEach (a :: es) X.env = (false, eval a X.env) :: starEach es X.env := by rfl) (hpl : (backTo pos (starEach es X.env)).any (·.1) = false := by rfl) : JD X (.Call (.Name x p) (a :: es) [] pos) (mCall op m) := by
  obtain ⟨r, hr, hq⟩ := hc
  exact pe_imp (pe_callB hr hg hm hv ha hn hdb he hpl) fun σ H Q q => call_imp hq q
theorem jd_callTy {op : List D → Option D} {m : M (List D)} (hc : CallD X (.type ty) op) (hm : X.mg x = none) (ha : JAD X (a :: es) m) (hg : Gl X x := by rfl) (hv : bootBuiltins x = some (.type ty) := by decide +kernel) (hn : x ≠ "__name__" := by decide) (hdb : (x == ("__debug__" : Str)) = false := by decide)
    (he : starEach (a :: es) X.env = (false, eval a X.env) :: starEach es X.env := by rfl) (hpl : (backTo pos (starEach es X.env)).any (·.1) = false := by rfl) : JD X (.Call (.Name x p) (a :: es) [] pos) (mCall op m) := by
  obtain ⟨r, hr, hq⟩ := hc
  exact pe_imp (pe_callTy hr hg hm hv ha hn hdb he hpl) fun σ H Q q => call_imp hq q
def bLen : List D → Option D
  | [.tup ds] => some (.int ds.length)
  | [.lst ds] => some (.int ds.length)
  | [.scr ns] => some (.int ns.length)
  | [.str s] => if s.length ≤ sizeLine then some (.int s.length) else none
  | _ => none
theorem b_len : CallD X (.builtin "len") bLen := by
  refine ⟨_, call_len, fun xs ds d F A H Q r w e q => ?_⟩
  match ds, e with
  | [.tup es], e =>
    simp only [bLen, Option.some.injEq] at e
    simp only [Reps, Rep] at r
    obtain ⟨x, y, rfl, ⟨a, xs, rfl, h1, h2⟩, rfl⟩ := r
    subst e
    exact ⟨_, xs.length, rfl, .inr ⟨xs, w.sub.sqT h1, rfl⟩, q F _ H (by simp only [Rep]; rw [Reps.length _ _ h2]) (Gr.refl w)⟩
  | [.lst es], e =>
    simp only [bLen, Option.some.injEq] at e
    simp only [Reps, Rep] at r
    obtain ⟨x, y, rfl, ⟨a, xs, rfl, h1, h2⟩, rfl⟩ := r
    subst e
    exact ⟨_, xs.length, rfl, .inl ⟨xs, SqL.of (w.sub _ _ h1), rfl⟩, q F _ H (by simp only [Rep]; rw [Reps.length _ _ h2]) (Gr.refl w)⟩
  | [.scr es], e =>
    simp only [bLen, Option.some.injEq] at e
    simp only [Reps, Rep] at r
    obtain ⟨x, y, rfl, ⟨a, rfl, h1⟩, rfl⟩ := r
    subst e
    exact ⟨_, (es.map V.int).length, rfl, .inl ⟨_, w.sub.sqL h1, rfl⟩, q F _ H (by simp only [Rep, List.length_map]) (Gr.refl w)⟩
  | [.str s], e =>
    simp only [bLen] at e
    split at e
    · rename_i hz
      cases e
      simp only [Reps, Rep] at r
      obtain ⟨x, y, rfl, rfl, rfl⟩ := r
      exact ⟨_, s.length, rfl, ⟨hz, rfl⟩, q F _ H (by simp only [Rep]) (Gr.refl w)⟩
    · cases e
  | [], e => simp only [bLen, reduceCtorEq] at e
  | .non :: _, e => simp only [bLen, reduceCtorEq] at e
  | .bl _ :: _, e => simp only [bLen, reduceCtorEq] at e
  | .int _ :: _, e => simp only [bLen, reduceCtorEq] at e
  | .obj _ _ _ :: _, e => simp only [bLen, reduceCtorEq] at e
  | .tup _ :: _ :: _, e => simp only [bLen, reduceCtorEq] at e
  | .lst _ :: _ :: _, e => simp only [bLen, reduceCtorEq] at e
  | .scr _ :: _ :: _, e => simp only [bLen, reduceCtorEq] at e
  | .str _ :: _ :: _, e => simp only [bLen, reduceCtorEq] at e
/-- of one int -/
def b1I (g : Int → D) : List D → Option D
  | [.int i] => some (g i)
  | _ => none
theorem reps_one {xs : List V} {d : D} (r : Reps K F xs [d]) : ∃ x, xs = [x] ∧ Rep K F x d := by
  simp only [Reps] at r
  obtain ⟨x, y, rfl, h, rfl⟩ := r
  exact ⟨x, rfl, h⟩
theorem reps_two {xs : List V} {d d2 : D} (r : Reps K F xs [d, d2]) : ∃ x y, xs = [x, y] ∧ Rep K F x d ∧ Rep K F y d2 := by
  simp only [Reps] at r
  obtain ⟨x, y, rfl, h, z, w, rfl, h2, rfl⟩ := r
  exact ⟨x, z, rfl, h, h2⟩
abbrev bAbs := b1I fun i => .int (if i < 0 then -i else i)
theorem b_abs : CallD X (.builtin "abs") bAbs := by
  refine ⟨_, call_abs, fun xs ds d F A H Q r w e q => ?_⟩
  unfold bAbs b1I at e
  split at e
  · cases e
    obtain ⟨x, rfl, h⟩ := reps_one r
    simp only [Rep] at h
    exact ⟨_, by rw [h], q F _ H (by simp only [Rep]) (Gr.refl w)⟩
  · cases e
def bInt : List D → Option D
  | [.int i] => some (.int i)
  | [.bl k] => some (.int (if k then 1 else 0))
  | _ => none
theorem b_int : CallD X (.type "int") bInt := by
  refine ⟨_, call_int1, fun xs ds d F A H Q r w e q => ?_⟩
  unfold bInt at e
  split at e
  · cases e
    obtain ⟨x, rfl, h⟩ := reps_one r
    simp only [Rep] at h
    exact .inl ⟨_, by rw [h], q F _ H (by simp only [Rep]) (Gr.refl w)⟩
  · cases e
    obtain ⟨x, rfl, h⟩ := reps_one r
    simp only [Rep] at h
    exact .inr ⟨_, by rw [h], q F _ H (by simp only [Rep]) (Gr.refl w)⟩
  · cases e
def b2I (g : Int → Int → D) : List D → Option D
  | [.int i, .int j] => some (g i j)
  | _ => none
abbrev bMin2 := b2I fun i j => .int (if j < i then j else i)
abbrev bMax2 := b2I fun i j => .int (if j > i then j else i)
theorem b_min2 (hc : X.calm = true) : CallD X (.builtin "min") bMin2 := by
  refine ⟨_, call_min2 hc, fun xs ds d F A H Q r w e q => ?_⟩
  unfold bMin2 b2I at e
  split at e
  · cases e
    obtain ⟨x, y, rfl, h, h2⟩ := reps_two r
    simp only [Rep] at h h2
    exact ⟨_, _, by rw [h, h2], q F _ H (by simp only [Rep]) (Gr.refl w)⟩
  · cases e
theorem b_max2 (hc : X.calm = true) : CallD X (.builtin "max") bMax2 := by
  refine ⟨_, call_max2 hc, fun xs ds d F A H Q r w e q => ?_⟩
  unfold bMax2 b2I at e
  split at e
  · cases e
    obtain ⟨x, y, rfl, h, h2⟩ := reps_two r
    simp only [Rep] at h h2
    exact ⟨_, _, by rw [h, h2], q F _ H (by simp only [Rep]) (Gr.refl w)⟩
  · cases e
/-- of one list of ints, of bools -/
def lstI (g : List Int → Option D) : List D → Option D
  | [.lst ds] => (dInts ds).bind g
  | _ => none
def lstB (g : List Bool → D) : List D → Option D
  | [.lst ds] => (dBools ds).map g
  | _ => none
theorem lstI_rep {xs : List V} {ds : List D} {g : List Int → Option D} {d : D} (r : Reps K F xs ds) (e : lstI g ds = some d) : ∃ a ns, xs = [.ref a] ∧ F a = some (.lst (ns.map V.int)) ∧ g ns = some d := by
  unfold lstI at e
  split at e
  · obtain ⟨ns, h1, h2⟩ := Option.bind_eq_some_iff.mp e
    obtain ⟨x, rfl, h⟩ := reps_one r
    simp only [Rep] at h
    obtain ⟨a, ys, rfl, h3, h4⟩ := h
    have := reps_ints _ ys ns h4 h1
    subst this
    exact ⟨a, ns, rfl, h3, h2⟩
  · cases e
theorem lstB_rep {xs : List V} {ds : List D} {g : List Bool → D} {d : D} (r : Reps K F xs ds) (e : lstB g ds = some d) : ∃ a ns, xs = [.ref a] ∧ F a = some (.lst (ns.map V.bl)) ∧ g ns = d := by
  unfold lstB at e
  split at e
  · obtain ⟨ns, h1, h2⟩ := Option.map_eq_some_iff.mp e
    obtain ⟨x, rfl, h⟩ := reps_one r
    simp only [Rep] at h
    obtain ⟨a, ys, rfl, h3, h4⟩ := h
    have := reps_bools _ ys ns h4 h1
    subst this
    exact ⟨a, ns, rfl, h3, h2⟩
  · cases e
abbrev bSum := lstI fun ns => some (.int ns.sum)
abbrev bMax := lstI fun ns => ns.max?.map .int
abbrev bMin := lstI fun ns => ns.min?.map .int
abbrev bAll := lstB fun ns => .bl (ns.all _root_.id)
abbrev bAny := lstB fun ns => .bl (ns.any _root_.id)
theorem b_sum (hc : X.calm = true) : CallD X (.builtin "sum") bSum := by
  refine ⟨_, cr_sum hc, fun xs ds d F A H Q r w e q => ?_⟩
  obtain ⟨a, ns, h1, h2, h3⟩ := lstI_rep r e
  cases h3
  exact ⟨a, ns, h1, SqL.of (w.sub _ _ h2), q F _ H (by simp only [Rep]) (Gr.refl w)⟩
theorem b_max (hc : X.calm = true) : CallD X (.builtin "max") bMax := by
  refine ⟨_, cr_max hc, fun xs ds d F A H Q r w e q => ?_⟩
  obtain ⟨a, ns, h1, h2, h3⟩ := lstI_rep r e
  obtain ⟨m, h4, rfl⟩ := Option.map_eq_some_iff.mp h3
  obtain ⟨h5, h6⟩ := List.max?_eq_some_iff.mp h4
  refine ⟨a, ns, h1, SqL.of (w.sub _ _ h2), List.length_pos_of_mem h5, fun m' h7 h8 => ?_⟩
  have : m' = m := Int.le_antisymm (h6 m' h7) (h8 m h5)
  subst this
  exact q F _ H (by simp only [Rep]) (Gr.refl w)
theorem b_min (hc : X.calm = true) : CallD X (.builtin "min") bMin := by
  refine ⟨_, cr_min hc, fun xs ds d F A H Q r w e q => ?_⟩
  obtain ⟨a, ns, h1, h2, h3⟩ := lstI_rep r e
  obtain ⟨m, h4, rfl⟩ := Option.map_eq_some_iff.mp h3
  obtain ⟨h5, h6⟩ := List.min?_eq_some_iff.mp h4
  refine ⟨a, ns, h1, SqL.of (w.sub _ _ h2), List.length_pos_of_mem h5, fun m' h7 h8 => ?_⟩
  have : m' = m := Int.le_antisymm (h8 m h5) (h6 m' h7)
  subst this
  exact q F _ H (by simp only [Rep]) (Gr.refl w)
theorem b_all (hc : X.calm = true) : CallD X (.builtin "all") bAll := by
  refine ⟨_, cr_all hc, fun xs ds d F A H Q r w e q => ?_⟩
  obtain ⟨a, ns, h1, h2, h3⟩ := lstB_rep r e
  subst h3
  exact ⟨a, ns, h1, SqL.of (w.sub _ _ h2), q F _ H (by simp only [Rep]) (Gr.refl w)⟩
theorem b_any (hc : X.calm = true) : CallD X (.builtin "any") bAny := by
  refine ⟨_, cr_any hc, fun xs ds d F A H Q r w e q => ?_⟩
  obtain ⟨a, ns, h1, h2, h3⟩ := lstB_rep r e
  subst h3
  exact ⟨a, ns, h1, SqL.of (w.sub _ _ h2), q F _ H (by simp only [Rep]) (Gr.refl w)⟩
/-- tuple(x), list(x) -/
def bTuple : List D → Option D
  | [.lst ds] => some (.tup ds)
  | [.tup ds] => some (.tup ds)
  | _ => none
theorem b_tuple : CallD X (.type "tuple") bTuple := by
  refine ⟨_, call_tuple_of, fun xs ds d F A H Q r w e q => ?_⟩
  unfold bTuple at e
  split at e
  · cases e
    obtain ⟨x, rfl, h⟩ := reps_one r
    simp only [Rep] at h
    obtain ⟨a, ys, rfl, h3, h4⟩ := h
    refine ⟨a, ys, rfl, .inl ⟨SqL.of (w.sub _ _ h3), fun t ht => ?_⟩⟩
    have g := Gr.new (o := .tup ys) w ht
    exact q _ _ _ (by simp only [Rep]; exact ⟨t, ys, rfl, .inl (.inl upd_same), Reps.mono g.x.fz _ _ h4⟩) g
  · cases e
    obtain ⟨x, rfl, h⟩ := reps_one r
    simp only [Rep] at h
    obtain ⟨a, ys, rfl, h3, h4⟩ := h
    exact ⟨a, ys, rfl, .inr ⟨w.sub.sqT h3, q F _ H (by simp only [Rep]; exact ⟨a, ys, rfl, h3, h4⟩) (Gr.refl w)⟩⟩
  · cases e
def bList : List D → Option T
  | [.lst ds] => some (.lst (ds.map .fz))
  | [.tup ds] => some (.lst (ds.map .fz))
  | [.scr ns] => some (.lst (ns.map fun n => .fz (.int n)))
  | _ => none
def mCallT (op : List D → Option T) (m : M (List D)) : M T := mBind m fun ds => mOpt (op ds)
theorem je_list {m : M (List D)} (hm : X.mg "list" = none) (ha : JAD X (a :: es) m) (hg : Gl X "list" := by rfl) (hv : bootBuiltins "list" = some (.type "list") := by decide +kernel)
    (he : starEach (a :: es) X.env = (false, eval a X.env) :: starEach es X.env := by rfl) (hpl : (backTo pos (starEach es X.env)).any (·.1) = false := by rfl) : JE X (.Call (.Name "list" p) (a :: es) [] pos) (mCallT bList m) := by
  refine pe_imp (pe_callTy call_list_of hg hm hv ha (by decide) (by decide) he hpl) fun σ H Q q => ?_
  obtain ⟨F, A, e, s, w, d, e', hm, q⟩ := q
  obtain ⟨ds, e1, h1, h2⟩ := mBind_some hm
  obtain ⟨h3, rfl⟩ := mOpt_some h2
  refine ⟨F, A, e, s, w, ds, _, h1, fun F1 A1 v H1 s1 r1 w1 x1 => ?_⟩
  unfold bList at h3
  split at h3
  · cases h3
    obtain ⟨x, rfl, h⟩ := reps_one r1
    simp only [Rep] at h
    obtain ⟨a, ys, rfl, h3, h4⟩ := h
    exact ⟨a, ys, rfl, .inl (SqL.of (w1.sub _ _ h3)), fun t ht => fin_lst ht s1 w1 h4 fun F3 A3 B3 v3 H3 s3 r3 w3 x3 => q F3 A3 B3 v3 H3 s3 r3 w3 (x1.trans x3)⟩
  · cases h3
    obtain ⟨x, rfl, h⟩ := reps_one r1
    simp only [Rep] at h
    obtain ⟨a, ys, rfl, h3, h4⟩ := h
    exact ⟨a, ys, rfl, .inr (w1.sub.sqT h3), fun t ht => fin_lst ht s1 w1 h4 fun F3 A3 B3 v3 H3 s3 r3 w3 x3 => q F3 A3 B3 v3 H3 s3 r3 w3 (x1.trans x3)⟩
  · cases h3
    obtain ⟨x, rfl, h⟩ := reps_one r1
    simp only [Rep] at h
    obtain ⟨a, rfl, h3⟩ := h
    exact ⟨a, _, rfl, .inl (w1.sub.sqL h3), fun t ht => fin_lst ht s1 w1 (reps_map_int _) fun F3 A3 B3 v3 H3 s3 r3 w3 x3 => q F3 A3 B3 v3 H3 s3 (by rw [List.map_map] at r3; exact r3) w3 (x1.trans x3)⟩
  · cases h3
/-! ### isinstance -/
def D.tyN : D → Option String
  | .non => some "NoneType"
  | .bl _ => some "bool"
  | .int _ => some "int"
  | .str _ => some "str"
  | .tup _ => some "tuple"
  | .lst _ => some "list"
  | .scr _ => none
  | .obj _ _ _ => none
theorem rep_ty {v : V} {d : D} {n : String} (sub : Sub F H) (r : Rep K F v d) (h : d.tyN = some n) : TyX K H v (.type n) := by
  cases d <;> simp only [D.tyN, reduceCtorEq, Option.some.injEq] at h <;> subst h <;> simp only [Rep] at r
  · subst r; exact .base .non
  · subst r; exact .base (.bl _)
  · subst r; exact .base (.int _)
  · subst r; exact .base (.str _)
  · obtain ⟨a, xs, rfl, h1, h2⟩ := r
    rcases sub.sqT h1 with (h | ⟨o, h⟩) | ⟨o, its, n, h, hc, hd, _⟩
    · exact .base (.tup h)
    · exact .fTuple h
    · exact .kTuple h hc
  · obtain ⟨a, xs, rfl, h1, h2⟩ := r
    exact .base (.lst (sub _ _ h1))
def oIsi (T : String) (d : D) : Option D := (d.tyN.bind fun n => kitB n T).map .bl
theorem jd_isi {m : M D} {y : Str} {p1 p2 : Pos} (hm : X.mg "isinstance" = none) (hm2 : X.mg y = none) (ha : JD X a m) (hg : Gl X "isinstance" := by rfl) (hg2 : Gl X y := by rfl) (hv2 : bootBuiltins y = some (.type ty) := by decide +kernel) (hn : y ≠ "__name__" := by decide) (hdb : (y == ("__debug__" : Str)) = false := by decide)
    (he : starEach [a, .Name y p1] X.env = (false, eval a X.env) :: starEach [.Name y p1] X.env := by rfl) (hpl : (backTo pos (starEach [.Name y p1] X.env)).any (·.1) = false := by rfl) (he2 : starEach [.Name y p1] X.env = (false, eval (.Name y p1) X.env) :: starEach [] X.env := by rfl) :
    JD X (.Call (.Name "isinstance" p2) [a, .Name y p1] [] pos) (mUn (oIsi ty) m) := by
  refine pe_imp (pe_callB call_isi hg hm (by decide +kernel) (pa_cons ha (pa_cons (pe_bltn (v := .ty ty) hg2 hm2 hv2 rfl hn hdb) pa_nil he2) he) (by decide) (by decide) he hpl) fun σ H Q q => ?_
  obtain ⟨F, A, e, s, w, d, e', hm, q⟩ := q
  obtain ⟨x, e1, h1, h2⟩ := mBind_some hm
  obtain ⟨h3, rfl⟩ := mOpt_some h2
  refine ⟨F, A, e, s, w, x, _, h1, fun F1 A1 v H1 s1 r1 w1 x1 => ?_⟩
  obtain ⟨k, h4, rfl⟩ := Option.map_eq_some_iff.mp h3
  obtain ⟨n, h5, h6⟩ := Option.bind_eq_some_iff.mp h4
  exact ⟨v, .ty ty, _, _, k, rfl, .ty ty, rep_ty w1.sub r1 h5, kit_ty h6, q F1 A1 _ H1 s1 (by simp only [Rep]) w1 x1⟩
end
end Fw

/-! Fw6 -/
set_option Elab.async false
set_option linter.all false
set_option maxRecDepth 100000
set_option maxHeartbeats 4000000
namespace Fw
open PySem PySem.Spec PyProof.Rows L2
inductive Fl where
  | nx | bk | ct
  | rt (t : T)
abbrev MS := Fw.Env → Option (Fl × Fw.Env)
def EndOk (K : PySem.W.Frag) (D : Ends) (F H : Hp) (B : List Addr) (σ : L2.St) : Fl → Prop
  | .nx => B = [] → D.nx σ H
  | .bk => B = [] → D.bk σ H
  | .ct => B = [] → D.ct σ H
  | .rt t => ∀ v, OT K F H B v t → D.rt v H
def Kept (W : List Nat) (σ σ' : L2.St) : Prop := (∀ i, i ∉ W → σ'[i]? = σ[i]?) ∧ σ'.length = σ.length
theorem Kept.refl {W : List Nat} {σ : L2.St} : Kept W σ σ := ⟨fun _ _ => rfl, rfl⟩
theorem Kept.trans {W : List Nat} {σ σ1 σ2 : L2.St} (a : Kept W σ σ1) (b : Kept W σ1 σ2) : Kept W σ σ2 := ⟨fun i h => (b.1 i h).trans (a.1 i h), b.2.trans a.2⟩
theorem Kept.set {W : List Nat} {σ : L2.St} {i : Nat} {x : Option V} (h : i ∈ W) : Kept W σ (σ.set i x) := ⟨fun j hj => List.getElem?_set_ne fun (e : i = j) => hj (e ▸ h), List.length_set⟩
def rdS (K : PySem.W.Frag) (W : List Nat) (m : MS) : TS := fun D σ H => ∃ F A e, SR K F H A σ e ∧ Wf F A H ∧ ∃ fl e', m e = some (fl, e') ∧
  ∀ F' A' B σ' H', SR K F' H' A' σ' e' → Wf F' (A' ++ B) H' → Ext F A H F' (A' ++ B) H' → Kept W σ σ' → EndOk K D F' H' B σ' fl
def JS (X : Cx) (W : List Nat) (st : Stmt) (m : MS) : Prop := PS X st (rdS X.K W m)
def JSs (X : Cx) (W : List Nat) (st : List Stmt) (m : MS) : Prop := PSs X st (rdS X.K W m)
theorem ps_imp {X : Cx} {st : Stmt} {t t' : TS} (h : PS X st t) (i : ∀ D σ H, t' D σ H → t D σ H) : PS X st t' := ⟨fun pins s σ H D I q => h.run pins s σ H D I (i D σ H q)⟩
theorem pss_imp {X : Cx} {st : List Stmt} {t t' : TS} (h : PSs X st t) (i : ∀ D σ H, t' D σ H → t D σ H) : PSs X st t' := ⟨fun pins s σ H D I q => h.run pins s σ H D I (i D σ H q)⟩
def mNx : MS := fun e => some (.nx, e)
def mSeq (a b : MS) : MS := fun e => match a e with
  | some (.nx, e1) => b e1
  | r => r
section
variable {X : Cx} {W : List Nat} {K : PySem.W.Frag} {F F' F1 F2 H H' H1 H2 : Hp} {A A' A1 A2 B C : List Addr} {σ σ' : L2.St} {e e' : Fw.Env} {a b c : Expr} {es : List Expr} {pos p : Pos} {st : Stmt} {rest : List Stmt}
theorem jss_nil : JSs X W [] mNx := pss_imp pss_nil fun D σ H q => by
  obtain ⟨F, A, e, s, w, fl, e', hm, q⟩ := q
  cases hm
  exact q F A [] σ H s w.nil Ext.refl.nil Kept.refl rfl
theorem jss_one {m : MS} (h : JS X W st m) : JSs X W [st] m := pss_one h
theorem EndOk.imp {D D' : Ends} {fl : Fl} (h : EndOk K D F H B σ fl) (h1 : fl = .nx → ∀ σ H, D.nx σ H → D'.nx σ H) (h2 : D'.rt = D.rt) (h3 : D'.bk = D.bk) (h4 : D'.ct = D.ct) : EndOk K D' F H B σ fl := by
  cases fl with
  | nx => exact fun z => h1 rfl _ _ (h z)
  | bk => exact fun z => by rw [h3]; exact h z
  | ct => exact fun z => by rw [h4]; exact h z
  | rt t => exact fun v hv => by rw [h2]; exact h v hv
theorem jss_cons {m n : MS} (h : JS X W st m) (h2 : JSs X W rest n) : JSs X W (st :: rest) (mSeq m n) := pss_imp (pss_cons h h2) fun D σ H q => by
  obtain ⟨F, A, e, s, w, fl, e', hm, q⟩ := q
  unfold mSeq at hm
  split at hm
  · rename_i e1 h1
    refine ⟨F, A, e, s, w, .nx, e1, h1, fun F1 A1 B1 σ1 H1 s1 w1 x1 k1 hB => ?_⟩
    subst hB
    simp only [List.append_nil] at w1 x1
    exact ⟨F1, A1, e1, s1, w1, fl, e', hm, fun F2 A2 B2 σ2 H2 s2 w2 x2 k2 => q F2 A2 B2 σ2 H2 s2 w2 (x1.trans x2) (k1.trans k2)⟩
  · rename_i hne
    refine ⟨F, A, e, s, w, fl, e', hm, fun F1 A1 B1 σ1 H1 s1 w1 x1 k1 => ?_⟩
    have z := q F1 A1 B1 σ1 H1 s1 w1 x1 k1
    cases fl with
    | nx => exact (hne e' hm).elim
    | _ => exact z
theorem js_pass : JS X W (.Pass pos) mNx := ps_imp ps_pass fun D σ H q => by
  obtain ⟨F, A, e, s, w, fl, e', hm, q⟩ := q
  cases hm
  exact q F A [] σ H s w.nil Ext.refl.nil Kept.refl rfl
theorem js_break : JS X W (.Break pos) (fun e => some (.bk, e)) := ps_imp ps_break fun D σ H q => by
  obtain ⟨F, A, e, s, w, fl, e', hm, q⟩ := q
  cases hm
  exact q F A [] σ H s w.nil Ext.refl.nil Kept.refl rfl
theorem js_cont : JS X W (.Continue pos) (fun e => some (.ct, e)) := ps_imp ps_continue fun D σ H q => by
  obtain ⟨F, A, e, s, w, fl, e', hm, q⟩ := q
  cases hm
  exact q F A [] σ H s w.nil Ext.refl.nil Kept.refl rfl
/-- a statement that is never come to -/
theorem js_never : JS X W st (fun _ => none) := ps_imp ps_never fun D σ H q => by
  obtain ⟨F, A, e, s, w, fl, e', hm, q⟩ := q
  cases hm
def mExp {α : Type} (m : M α) : MS := fun e => match m e with
  | some (_, e1) => some (.nx, e1)
  | none => none
theorem js_expr {m : M D} (h : JD X a m) (hs : swapsWith a none pos.line X.env = pure false := by rfl) : JS X W (.Expr a pos) (mExp m) := ps_imp (ps_expr h hs) fun D σ H q => by
  obtain ⟨F, A, e, s, w, fl, e', hm, q⟩ := q
  unfold mExp at hm
  split at hm
  · rename_i d e1 h1
    cases hm
    exact ⟨F, A, e, s, w, d, _, h1, fun F1 A1 v H1 s1 r1 w1 x1 => q F1 A1 [] σ H1 s1 w1.nil x1.nil Kept.refl rfl⟩
  · cases hm
def mRetT (m : M T) : MS := fun e => match m e with
  | some (t, e1) => some (.rt t, e1)
  | none => none
theorem js_ret {m : M T} (h : JE X a m) : JS X W (.Return (some a) pos) (mRetT m) := ps_imp (ps_ret h) fun D σ H q => by
  obtain ⟨F, A, e, s, w, fl, e', hm, q⟩ := q
  unfold mRetT at hm
  split at hm
  · rename_i d e1 h1
    cases hm
    exact ⟨F, A, e, s, w, d, _, h1, fun F1 A1 B1 v H1 s1 r1 w1 x1 => q F1 A1 B1 σ H1 s1 w1 x1 Kept.refl v r1⟩
  · cases hm
theorem js_retN : JS X W (.Return none pos) (fun e => some (.rt (.fz .non), e)) := ps_imp ps_retN fun D σ H q => by
  obtain ⟨F, A, e, s, w, fl, e', hm, q⟩ := q
  cases hm
  exact q F A [] σ H s w.nil Ext.refl.nil Kept.refl .non (by simp [OT, Rep])
def mIfS (c : M Bool) (m n : MS) : MS := fun e => match c e with
  | some (true, e1) => m e1
  | some (false, e1) => n e1
  | none => none
theorem js_if {mc : M Bool} {m n : MS} {x y : List Stmt} (hc : JT X c mc) (ha : JSs X W x m) (hb : JSs X W y n) : JS X W (.If c x y pos) (mIfS mc m n) := ps_imp (ps_if hc ha hb) fun D σ H q => by
  obtain ⟨F, A, e, s, w, fl, e', hm, q⟩ := q
  unfold mIfS at hm
  split at hm
  · rename_i e1 h1
    refine ⟨F, A, e, s, w, true, e1, h1, fun F1 A1 H1 s1 w1 x1 => iteT ?_⟩
    exact ⟨F1, A1, e1, s1, w1, fl, e', hm, fun F2 A2 B2 σ2 H2 s2 w2 x2 k2 => q F2 A2 B2 σ2 H2 s2 w2 (x1.trans x2) k2⟩
  · rename_i e1 h1
    refine ⟨F, A, e, s, w, false, e1, h1, fun F1 A1 H1 s1 w1 x1 => iteF ?_⟩
    exact ⟨F1, A1, e1, s1, w1, fl, e', hm, fun F2 A2 B2 σ2 H2 s2 w2 x2 k2 => q F2 A2 B2 σ2 H2 s2 w2 (x1.trans x2) k2⟩
  · cases hm
/-! ### targets -/
abbrev G := T → Fw.Env → Option Fw.Env
abbrev Gs := List T → Fw.Env → Option Fw.Env
def rdG (K : PySem.W.Frag) (W : List Nat) (g : G) : TG := fun v σ H Q => ∃ F A B e t, SR K F H A σ e ∧ OT K F H B v t ∧ Wf F (A ++ B) H ∧ ∃ e', g t e = some e' ∧
  ∀ F' A' σ' H', SR K F' H' A' σ' e' → Wf F' A' H' → Ext F (A ++ B) H F' A' H' → Kept W σ σ' → Q σ' H'
def rdGs (K : PySem.W.Frag) (W : List Nat) (g : Gs) : TGs := fun v σ H Q => ∃ F A B e t, SR K F H A σ e ∧ OTs K F H B v t ∧ Wf F (A ++ B) H ∧ ∃ e', g t e = some e' ∧
  ∀ F' A' σ' H', SR K F' H' A' σ' e' → Wf F' A' H' → Ext F (A ++ B) H F' A' H' → Kept W σ σ' → Q σ' H'
def JG (X : Cx) (W : List Nat) (e : Expr) (g : G) : Prop := PG X e (rdG X.K W g)
def JGs (X : Cx) (W : List Nat) (es : List Expr) (g : Gs) : Prop := PGs X es (rdGs X.K W g)
theorem pg_imp {X : Cx} {e : Expr} {t t' : TG} (h : PG X e t) (i : ∀ v σ H Q, t' v σ H Q → t v σ H Q) : PG X e t' := ⟨fun pins s σ H v u Q I r q => h.run pins s σ H v u Q I r (i v σ H Q q)⟩
theorem pgs_imp {X : Cx} {e : List Expr} {t t' : TGs} (h : PGs X e t) (i : ∀ v σ H Q, t' v σ H Q → t v σ H Q) : PGs X e t' := ⟨fun pins s σ H v u Q I r q => h.run pins s σ H v u Q I r (i v σ H Q q)⟩
def gNm (i : Nat) : G := fun t e => if i < e.length then some (e.set i (some t)) else none
theorem SR.assign {t : T} {v : V} {i : Nat} (s : SR K F H A σ e) (ht : OT K F H B v t) (w : Wf F (A ++ B) H) (hi : i < e.length) : ∃ A', SR K F H A' (σ.set i (some v)) (e.set i (some t)) ∧ Wf F A' H ∧ ∀ a ∈ A', a ∈ A ++ B := by
  obtain ⟨A1, A2, p, s2⟩ := s.clear i
  have z := s2.put ht (i := i) (by rw [List.getElem?_set_self hi])
  rw [List.set_set] at z
  have w2 : Wf F ((A2 ++ A1) ++ B) H := w.perm (p.append_right B)
  refine ⟨A2 ++ B, z, ?_, fun a ha => ?_⟩
  · have : ((A2 ++ A1) ++ B).Perm ((A2 ++ B) ++ A1) := by
      rw [List.append_assoc, List.append_assoc]; exact List.Perm.append_left A2 List.perm_append_comm
    exact (w2.perm this).left
  · rcases List.mem_append.mp ha with h | h
    · exact List.mem_append_left _ (p.mem_iff.mpr (List.mem_append_left _ h))
    · exact List.mem_append_right _ h
theorem jg_name {x : Str} {i : Nat} (hN : X.N.Nodup) (hi : X.N[i]? = some x := by rfl) (hx : Loc X.env.scope x := by first | exact Or.inl rfl | exact Or.inr rfl) (hw : i ∈ W := by decide)
    (hf : X.fn x = true ∨ X.env.scope.names.lookup x = some .local := by first | exact Or.inl rfl | exact Or.inr rfl) : JG X W (.Name x pos) (gNm i) := pg_imp (pg_name hN hi hx hf) fun v σ H Q q => by
  obtain ⟨F, A, B, e, t, s, r, w, e', hm, q⟩ := q
  unfold gNm at hm
  split at hm
  · rename_i hi
    cases hm
    obtain ⟨A', s', w', m'⟩ := s.assign r w hi
    exact q F A' _ H s' w' (Ext.refl.mem (fun _ h => h) m') (Kept.set hw)
  · cases hm
def gNil : Gs := fun ts e => match ts with
  | [] => some e
  | _ => none
def gCons (g : G) (h : Gs) : Gs := fun ts e => match ts with
  | t :: r => (g t e).bind fun e1 => h r e1
  | [] => none
theorem jgs_nil : JGs X W [] gNil := pgs_imp pgs_nil fun v σ H Q q => by
  obtain ⟨F, A, B, e, t, s, r, w, e', hm, q⟩ := q
  cases t with
  | nil =>
    simp only [gNil, Option.some.injEq] at hm
    subst hm
    simp only [OTs] at r
    exact ⟨r.2, q F A σ H s w.left (Ext.refl.mem (fun _ h => h) fun a h => List.mem_append_left _ h) Kept.refl⟩
  | cons _ _ => simp only [gNil, reduceCtorEq] at hm
theorem jgs_cons {g : G} {h : Gs} (h1 : JG X W a g) (h2 : JGs X W es h) (hs : (assignEach (a :: es) X.env).map (·.2) = assign a X.env :: (assignEach es X.env).map (·.2) := by rfl) : JGs X W (a :: es) (gCons g h) := pgs_imp (pgs_cons h1 h2 hs) fun v σ H Q q => by
  obtain ⟨F, A, B, e, t, s, r, w, e', hm, q⟩ := q
  cases t with
  | nil => simp only [gCons, reduceCtorEq] at hm
  | cons t ts =>
    simp only [gCons, Option.bind_eq_some_iff] at hm
    obtain ⟨e1, h3, h4⟩ := hm
    simp only [OTs] at r
    obtain ⟨B1, B2, x, y, rfl, rfl, r1, r2⟩ := r
    refine ⟨x, y, rfl, F, A, B1, e, t, s, r1, (by rw [← List.append_assoc] at w; exact w.left), e1, h3, fun F1 A1 σ1 H1 s1 w1 x1 k1 => ?_⟩
    have w' : Wf F ((A ++ B1) ++ B2) H := by rw [List.append_assoc]; exact w
    have w2 := Wf.frame w' x1 w1
    refine ⟨F1, A1, B2, e1, ts, s1, r2.frame w' x1, w2, e', h4, fun F2 A2 σ2 H2 s2 w2 x2 k2 => q F2 A2 σ2 H2 s2 w2 ?_ (k1.trans k2)⟩
    have := (x1.frame (B := B2)).trans x2
    rw [List.append_assoc] at this
    exact this
def gTupM (g : Gs) : G := fun t e => match t with
  | .tup ts => g ts e
  | .fz (.tup ds) => g (ds.map .fz) e
  | _ => none
theorem jg_tup {g : Gs} {n k : Nat} (hc : X.calm = true) (h : JGs X W es g) (hl : ∀ ts e e', g ts e = some e' → ts.length = n) (hn : (assignEach es X.env).length = n := by rfl) (hst : (assignEach es X.env).findIdx? (·.1) = none := by rfl) : JG X W (.Tuple es k pos) (gTupM g) := pg_imp (pg_tup hc h hn hst) fun v σ H Q q => by
  obtain ⟨F, A, B, e, t, s, r, w, e', hm, q⟩ := q
  unfold gTupM at hm
  split at hm
  · simp only [OT] at r
    obtain ⟨a, B', xs, rfl, rfl, h1, h2⟩ := r
    have hp : (A ++ a :: B').Perm ((A ++ B') ++ [a]) := by
      rw [List.append_assoc]; exact List.Perm.append_left A (List.perm_append_comm (l₁ := [a]) (l₂ := B'))
    refine ⟨a, xs, rfl, SqT.of h1, ?_, F, A, B', e, _, s, h2, (w.perm hp).left, e', hm, fun F1 A1 σ1 H1 s1 w1 x1 k1 => q F1 A1 σ1 H1 s1 w1 (x1.mem (fun b hb => ?_) fun _ h => h) k1⟩
    · rw [OTs.length _ _ _ h2]; exact hl _ _ _ hm
    · rcases List.mem_append.mp hb with h | h
      · exact List.mem_append_left _ h
      · exact List.mem_append_right _ (List.mem_cons_of_mem _ h)
  · rename_i ds
    simp only [OT, Rep] at r
    obtain ⟨rfl, a, xs, rfl, h1, h2⟩ := r
    refine ⟨a, xs, rfl, w.sub.sqT h1, ?_, F, A, [], e, _, s, OTs.fz ds xs h2, w, e', hm, q⟩
    rw [Reps.length _ _ h2, ← List.length_map (f := T.fz)]; exact hl _ _ _ hm
  · cases hm
/-- a, b -/
theorem gs2_len {g h : G} : ∀ ts e e', gCons g (gCons h gNil) ts e = some e' → ts.length = 2
  | [], _, _, q => by simp [gCons] at q
  | [_], _, _, q => by simp [gCons] at q
  | [_, _], _, _, _ => rfl
  | _ :: _ :: _ :: _, _, _, q => by simp [gCons, gNil] at q
theorem gs3_len {g h k : G} : ∀ ts e e', gCons g (gCons h (gCons k gNil)) ts e = some e' → ts.length = 3
  | [], _, _, q => by simp [gCons] at q
  | [_], _, _, q => by simp [gCons] at q
  | [_, _], _, _, q => by simp [gCons] at q
  | [_, _, _], _, _, _ => rfl
  | _ :: _ :: _ :: _ :: _, _, _, q => by simp [gCons, gNil] at q
theorem jg_t2 {g h : G} {k : Nat} {a b : Expr} (hc : X.calm = true) (h1 : JG X W a g) (h2 : JG X W b h) (hn : (assignEach [a, b] X.env).length = 2 := by rfl) (hst : (assignEach [a, b] X.env).findIdx? (·.1) = none := by rfl)
    (hs : (assignEach [a, b] X.env).map (·.2) = assign a X.env :: (assignEach [b] X.env).map (·.2) := by rfl) (hs2 : (assignEach [b] X.env).map (·.2) = assign b X.env :: (assignEach [] X.env).map (·.2) := by rfl) : JG X W (.Tuple [a, b] k pos) (gTupM (gCons g (gCons h gNil))) :=
  jg_tup hc (jgs_cons h1 (jgs_cons h2 jgs_nil hs2) hs) gs2_len hn hst
theorem jg_t3 {g h i : G} {k : Nat} {a b c : Expr} (hc : X.calm = true) (h1 : JG X W a g) (h2 : JG X W b h) (h3 : JG X W c i) (hn : (assignEach [a, b, c] X.env).length = 3 := by rfl) (hst : (assignEach [a, b, c] X.env).findIdx? (·.1) = none := by rfl)
    (hs : (assignEach [a, b, c] X.env).map (·.2) = assign a X.env :: (assignEach [b, c] X.env).map (·.2) := by rfl) (hs2 : (assignEach [b, c] X.env).map (·.2) = assign b X.env :: (assignEach [c] X.env).map (·.2) := by rfl) (hs3 : (assignEach [c] X.env).map (·.2) = assign c X.env :: (assignEach [] X.env).map (·.2) := by rfl) :
    JG X W (.Tuple [a, b, c] k pos) (gTupM (gCons g (gCons h (gCons i gNil)))) :=
  jg_tup hc (jgs_cons h1 (jgs_cons h2 (jgs_cons h3 jgs_nil hs3) hs2) hs) gs3_len hn hst
/-! ### assignments -/
def mAsg (m : M T) (g : G) : MS := fun e => match m e with
  | some (t, e1) => (g t e1).map fun e2 => (.nx, e2)
  | none => none
theorem js_asg {m : M T} {g : G} {tg : Expr} (he : JE X a m) (hg : JG X W tg g) (hs : swapsWithSole [tg] a pos.line X.env = pure false := by rfl) (hw : swappedStores [tg] a X.env = pure none := by rfl)
    (h1 : (assignEach [tg] X.env).map (·.2) = [assign tg X.env] := by rfl) : JS X W (.Assign [tg] a pos) (mAsg m g) := ps_imp (ps_asg he hg hs hw h1) fun D σ H q => by
  obtain ⟨F, A, e, s, w, fl, e', hm, q⟩ := q
  unfold mAsg at hm
  split at hm
  · rename_i t e1 h1
    obtain ⟨e2, h2, h3⟩ := Option.map_eq_some_iff.mp hm
    cases h3
    refine ⟨F, A, e, s, w, t, e1, h1, fun F1 A1 B1 v H1 s1 r1 w1 x1 => ?_⟩
    exact ⟨F1, A1, B1, e1, t, s1, r1, w1, _, h2, fun F2 A2 σ2 H2 s2 w2 x2 k2 => q F2 A2 [] σ2 H2 s2 w2.nil (x1.trans x2).nil k2 rfl⟩
  · cases hm
theorem js_set {m : M T} {x : Str} {i : Nat} {pos' : Pos} (hN : X.N.Nodup) (he : JE X a m) (hi : X.N[i]? = some x := by rfl) (hx : Loc X.env.scope x := by first | exact Or.inl rfl | exact Or.inr rfl) (hwm : i ∈ W := by decide)
    (hs : swapsWith a (some (.Name x pos')) pos.line X.env = pure false := by rfl) (hf : X.fn x = true ∨ X.env.scope.names.lookup x = some .local := by first | exact Or.inl rfl | exact Or.inr rfl) : JS X W (.Assign [.Name x pos'] a pos) (mAsg m (gNm i)) := ps_imp (ps_set hN hi hx he hs hf) fun D σ H q => by
  obtain ⟨F, A, e, s, w, fl, e', hm, q⟩ := q
  unfold mAsg at hm
  split at hm
  · rename_i t e1 h1
    obtain ⟨e2, h2, h3⟩ := Option.map_eq_some_iff.mp hm
    cases h3
    unfold gNm at h2
    split at h2
    · rename_i hi
      cases h2
      refine ⟨F, A, e, s, w, t, e1, h1, fun F1 A1 B1 v H1 s1 r1 w1 x1 => ?_⟩
      obtain ⟨A', s', w', m'⟩ := s1.assign r1 w1 hi
      exact q F1 A' [] _ H1 s' w'.nil (x1.mem (fun _ h => h) (by simpa using m')) (Kept.set hwm) rfl
    · cases h2
  · cases hm
/-- a, b = x, y of local names -/
def mPar (i j : Nat) (m : M (List T)) : MS := fun e => match m e with
  | some ([t, u], e1) => if i < e1.length ∧ j < e1.length then some (.nx, (e1.set i (some t)).set j (some u)) else none
  | _ => none
theorem js_par {i j : Nat} {x y : Str} {m : M (List T)} {px py pt : Pos} {kt k2 pt2} (hc : X.calm = true) (hN : X.N.Nodup) (ha : JAE X [a, b] m) (hi : X.N[i]? = some x := by rfl) (hj : X.N[j]? = some y := by rfl) (hij : i ≠ j := by decide)
    (hx : X.env.scope.names.lookup x = some .local := by rfl) (hy : X.env.scope.names.lookup y = some .local := by rfl) (hwi : i ∈ W := by decide) (hwj : j ∈ W := by decide)
    (hw : swappedStores [.Tuple [.Name x px, .Name y py] kt pt] (.Tuple [a, b] k2 pt2) X.env = pure (some [x, y]) := by rfl)
    (hs : swapsWithSole [.Tuple [.Name x px, .Name y py] kt pt] (.Tuple [a, b] k2 pt2) pos.line X.env = pure false := by rfl) :
    JS X W (.Assign [.Tuple [.Name x px, .Name y py] kt pt] (.Tuple [a, b] k2 pt2) pos) (mPar i j m) := ps_imp (ps_par hc hN hi hj hij hx hy ha hw hs) fun D σ H q => by
  obtain ⟨F, A, e, s, w, fl, e', hm, q⟩ := q
  unfold mPar at hm
  split at hm
  · rename_i t u e1 h1
    split at hm
    · rename_i hij
      cases hm
      refine ⟨F, A, e, s, w, [t, u], e1, h1, fun F1 A1 B1 v H1 s1 r1 w1 x1 => ?_⟩
      simp only [OTs] at r1
      obtain ⟨C1, C2, v1, r, rfl, rfl, h2, C3, C4, v2, r', rfl, rfl, h3, rfl, rfl⟩ := r1
      simp only [List.append_nil] at w1 x1
      rw [← List.append_assoc] at w1
      refine ⟨v1, v2, rfl, ?_⟩
      obtain ⟨A2, s2, w2, m2⟩ := s1.assign h2 w1.left hij.1
      have w3 : Wf F1 (A2 ++ C3) H1 := Wf.frame w1 (Ext.refl.mem (fun _ h => h) m2) w2
      obtain ⟨A3, s3, w4, m3⟩ := s2.assign h3 w3 (by rw [List.length_set]; exact hij.2)
      refine q F1 A3 [] _ H1 s3 w4.nil (x1.mem (fun _ h => h) fun b hb => ?_) ((Kept.set hwi).trans (Kept.set hwj)) rfl
      simp only [List.append_nil] at hb
      rcases List.mem_append.mp (m3 b hb) with h | h
      · have := m2 b h
        simp only [List.mem_append] at this ⊢
        rcases this with h | h
        · exact .inl h
        · exact .inr (.inl h)
      · simp only [List.mem_append]; exact .inr (.inr h)
    · cases hm
  · cases hm
/-- x op= e -/
def mAug (i : Nat) (op : D → D → Option D) (m : M D) : MS := fun e => match e[i]? with
  | some (some (.fz x)) => (match m e with
    | some (y, e1) => (match e1[i]?, op x y with
      | some _, some z => some (.nx, e1.set i (some (.fz z)))
      | _, _ => none)
    | none => none)
  | _ => none
theorem js_aug {i : Nat} {x : Str} {op : Operator} {f : D → D → Option D} {m : M D} {pos' : Pos} (hN : X.N.Nodup) (ho : OpS X (inplaceOp op) f) (he : JD X a m) (hi : X.N[i]? = some x := by rfl) (hx : Loc X.env.scope x := by first | exact Or.inl rfl | exact Or.inr rfl) (hwm : i ∈ W := by decide)
    (hf : X.fn x = true ∨ X.env.scope.names.lookup x = some .local := by first | exact Or.inl rfl | exact Or.inr rfl) : JS X W (.AugAssign (.Name x pos') op a pos) (mAug i f m) := by
  obtain ⟨r, hr, hq⟩ := ho
  refine ps_imp (ps_aug (ti := fun x y H Q => r x y H Q) hN hi hx he (fun pins s σ H x y v u Q I r1 r2 h => hr pins s σ H x y v u Q I r1 r2 h) hf) fun D σ H q => ?_
  obtain ⟨F, A, e, s, w, fl, e', hm, q⟩ := q
  unfold mAug at hm
  split at hm
  · rename_i d h1
    split at hm
    · rename_i y e1 h2
      split at hm
      · rename_i o z h3 h4
        cases hm
        obtain ⟨v, h5, h6⟩ := s.fzv h1
        refine ⟨v, h5, F, A, e, s, w, y, e1, h2, fun F1 A1 u H1 s1 r1 w1 x1 => ?_⟩
        refine hq v u d y z F1 A1 H1 _ (Rep.mono x1.fz _ _ h6) r1 w1 h4 fun v2 h7 => ?_
        obtain ⟨A', s', w', m'⟩ := s1.assign (B := []) (t := .fz z) (v := v2) (i := i) (by simp only [OT]; exact ⟨trivial, h7 F1⟩) w1.nil (List.getElem?_eq_some_iff.mp h3).1
        exact q F1 A' [] _ H1 s' w'.nil (x1.mem (fun _ h => h) (by simpa using m')) (Kept.set hwm) rfl
      · cases hm
    · cases hm
  · cases hm
theorem i_add : OpS X (inplaceOp .Add) oAddI := opI0_s iop_add
theorem i_sub : OpS X (inplaceOp .Sub) oSub := opI0_s iop_sub
end
end Fw

/-! FwE -/
set_option Elab.async false
set_option linter.all false
set_option maxRecDepth 100000
set_option maxHeartbeats 4000000
namespace Fw
open PySem PySem.Spec PyProof.Rows L2
open Builtin Builtin.Str
/-! ### enumerate of a tuple -/
theorem meets_enumT_new (l : Addr) (xs : Array Value) :
    Meets (Builtin.«enumerate.__new__» ⟨[.type "enumerate", .ref l], []⟩) (fun _ R s => s.heap.IsTuple l xs ∧
      R (.ok (.ret (.ref (s.heap.push { cls := .type "tuple_iterator", data := .fields #[.ref l, .int 0 0] }).objs.size)))
        { s with heap := (s.heap.push { cls := .type "tuple_iterator", data := .fields #[.ref l, .int 0 0] }).push { cls := .type "enumerate", data := .fields #[.none, .bool false, .ref s.heap.objs.size, rawInt 0, .none, .none] } }) :=
  .of_wp fun prog w A R s h => by
    obtain ⟨hp, g, d, tk, os⟩ := s; obtain ⟨hl, h⟩ := h
    have hsub := sub_enumerate
    have hL : Heap.IsTuple (Shared.heap ⟨hp, g, d, tk, os⟩) l xs := hl
    wp_walk using wpAny_pyIter_tuple hL
    refine wpAny_stack_any fun st => wpAny_pure ?_
    split
    · rename_i c _ _ _ _ _
      cases (c == Value.type "enumerate")
      · wp_walk using wpAny_pyIter_tuple hL
        exact ⟨_, rfl, h⟩
      · wp_walk using wpAny_pyIter_tuple hL
        exact ⟨_, rfl, h⟩
    · wp_walk using wpAny_pyIter_tuple hL
      exact ⟨_, rfl, h⟩
section
variable {prog : Program} {w : World} {A : Around} {E : Value → Shared → Prop} {s : Shared}
theorem call_enumT {l : Addr} {items : Array Value} {Q : Value → Shared → Prop} (hL : s.heap.IsTuple l items)
    (h : ∀ h', IsEnum h' (s.heap.objs.size + 1) s.heap.objs.size 0 .none → h'.IsTupleIter s.heap.objs.size l 0 → h'.objs.size = s.heap.objs.size + 2 →
      (∀ b o, s.heap.get? b = some o → h'.get? b = some o) → Q (.ref (s.heap.objs.size + 1)) { s with heap := h' }) :
    wpAny (model prog w) A (call (.type "enumerate") [.ref l]) Q E s := by
  refine callType_new F.called_enumerate (by decide) (F.typeCall_enumerate_1 _) (F.newCall_enumerate_1 _) (fun obj => F.args_object_init_2 obj _) F.entry_enumerate_new
    (meets_enumT_new l items) ⟨hL, ?_⟩
  have hz : (s.heap.push { cls := .type "tuple_iterator", data := .fields #[.ref l, .int 0 0] }).objs.size = s.heap.objs.size + 1 := Heap.size_push ..
  show _ ∧ _
  rw [hz]
  have he : IsEnum ((s.heap.push { cls := .type "tuple_iterator", data := .fields #[.ref l, .int 0 0] }).push
      { cls := .type "enumerate", data := .fields #[.none, .bool false, .ref s.heap.objs.size, rawInt 0, .none, .none] }) (s.heap.objs.size + 1) s.heap.objs.size 0 .none := by
    have := Heap.get?_push_size (s.heap.push { cls := .type "tuple_iterator", data := .fields #[.ref l, .int 0 0] })
      (o := { cls := .type "enumerate", data := .fields #[.none, .bool false, .ref s.heap.objs.size, rawInt 0, .none, .none] }) rfl
    rw [hz] at this; exact this
  refine ⟨⟨_, he, rfl⟩, h _ he ⟨_, Heap.get?_push_of_some _ (Heap.get?_push_size _ rfl), rfl, rfl⟩ (by rw [Heap.size_push, hz]) fun b o x => Heap.get?_push_of_some _ (Heap.get?_push_of_some _ x)⟩
theorem next_enumT_end {e it l : Addr} {i : Nat} {items : Array Value} {old : Value} {Q : Option Value → Shared → Prop} (hh : A.handled = none)
    (he : IsEnum s.heap e it i old) (hit : s.heap.IsTupleIter it l i) (hl : s.heap.IsTuple l items) (hx : items[i]? = none)
    (hQ : ∀ h', Heap.ExtBut it s.heap h' → Q none { s with heap := h' }) : wpAny (model prog w) A (pyNext (.ref e)) Q E s := by
  have hT : s.TypeIs (.ref e) "enumerate" := ⟨_, he, rfl⟩
  unfold pyNext
  refine wpAny_bind (wpAny_attempt (wpAny_callSpecial?_slot (name := Str.ofString "__next__") hT F.slot_enumerate_next
    (wpAny_call_entry F.slot_enumerate_next hT F.entry_enumerate_next ?_ (F.args_enumerate_next_1 _))))
  show wpAny _ _ (field (.ref e) 2 >>= _) _ _ _
  refine wpAny_bind (wpAny_field he rfl (x := .ref it) rfl ?_)
  refine wpAny_bind (wpAny_nextOf_tuple_end hh hit hl hx fun h' x he' hx' => ?_)
  obtain ⟨o, ho, hc⟩ := hx'
  refine wpAny_bind (wpAny_isInstance (T := "StopIteration") (b := true) ⟨o, ho, hc⟩ isSubtype_stop ?_)
  exact wpAny_pure (hQ _ he')
end
/-- the tuple at a as it stands at each turn, each item in a new pair -/
def IteT (K : PySem.W.Frag) (a : Addr) : It :=
  ⟨fun i H => ∃ (xs : List V) (x : V), SqT K H a xs ∧ xs[i]? = some x, fun i H v H' => ∃ T x, v = .ref T ∧ H T = none ∧ H' = upd H T (.tup [.int (i : Nat), x]) ∧ ∀ xs, SqT K H a xs → xs[i]? = some x, fun i H => ∃ xs : List V, SqT K H a xs ∧ xs.length ≤ i⟩
theorem turn_enumT {P : Program} {w : World} {K : PySem.W.Frag} {elts : List Expr} {kk : Nat} {tpos : Pos} (a e it : Addr) :
    Turn P w K (.Tuple elts kk tpos) (IteT K a) [e, it] e (fun i h => (∃ old, IsEnum h e it ((i : Nat) : Int) old) ∧ h.IsTupleIter it a i ∧ e ≠ it ∧ a ≠ it ∧ a ≠ e) where
  mem := by simp
  obj := fun i h st b hb => by
    obtain ⟨⟨old, he⟩, ⟨o, ho, hc, hd⟩, _⟩ := st
    have e' : b = e ∨ b = it := by simpa using hb
    rcases e' with z | z
    · rw [z]; exact ⟨_, he, fun v q => nomatch q⟩
    · rw [z]; exact ⟨o, ho, fun v q => by rw [hd] at q; cases q⟩
  keep := fun i h h' st k => let ⟨⟨old, he⟩, hi, hne⟩ := st; ⟨⟨old, k e (by simp) _ he⟩, hi.at fun o q => k it (by simp) o q, hne⟩
  item := by
    intro X hP hw hK hc i pins s σ H E I hf st hg
    subst hP hw hK
    obtain ⟨⟨old, he⟩, hit, hne, hai, hae⟩ := st
    obtain ⟨xs, x, hq, hx⟩ := hg
    obtain ⟨its, rv, p, hz⟩ := I.tuple hq
    obtain ⟨u, hu, ru⟩ := rv.get hx
    have hel : e < s.heap.objs.size := Heap.lt_size he
    have hil : it < s.heap.objs.size := by obtain ⟨_, q, _⟩ := hit; exact Heap.lt_size q
    have D := Draws.tuple (prog := X.prog) (w := X.w) (A := X.A.in1) (I.ok.hd hc) it a hai its.toArray
    have hlt : i < its.toArray.size := by
      have := (List.getElem?_eq_some_iff.mp hu).1
      simpa using this
    refine wpAny_pyNext_enum_itemD D he (i := i) ⟨hit, p⟩ hlt hne (by simp [hne, Ne.symm hae]) fun y h' tk hy ho hst hT hsz hk => ?_
    have hyu : y = u := by
      have h1 : its[i]? = some y := by simpa using hy
      rw [hu] at h1; exact (Option.some.inj h1).symm
    subst hyu
    obtain ⟨hit', _⟩ := hst
    refine ⟨_, rfl, wpAny_letOwnedTupleGo_enum (s := { s with heap := h', toks := tk + 1 }) ho fun h'' he' sb => ?_⟩
    have hT2 : h''.get? s.heap.objs.size = some { cls := .type "tuple", data := .seq #[.int i tk, y] } := (sb.2 _ (Nat.ne_of_gt hel)).trans hT
    have new : ObjOk X.prog X.w (upd H s.heap.objs.size (.tup [.int (i : Nat), x])) h'' s.heap.objs.size (.tup [.int (i : Nat), x]) :=
      ⟨by show 2 ≤ sizeLine; decide, [.int i tk, y], .cons ⟨_, rfl⟩ (.cons ru .nil), ⟨_, hT2, rfl, _, rfl⟩⟩
    have I1 : Inv X pins σ (upd H s.heap.objs.size (.tup [.int (i : Nat), x])) { s with heap := h'', toks := tk + 1 } :=
      I.turnedNew (ch := [e, it]) (fun b ob hb q => (sb.2 b (fun z => hb (by simp [z]))).trans (hk b ob (fun z => hb (by simp [z])) (fun z => hb (by simp [z])) q)) hf (Nat.le_refl _) new
    refine ⟨.ref s.heap.objs.size, _, I1, rfl, ⟨_, x, rfl, I.hok.fresh (Nat.le_refl _), rfl, fun ys hy => by rw [I.tuple_inj hy hq]; exact hx⟩, ⟨⟨y, ?_⟩, hit'.at fun o q => (sb.2 it (Ne.symm hne)).trans q, hne, hai, hae⟩, fun b hb => ?_⟩
    · have e1 : ((i + 1 : Nat) : Int) = (i : Int) + 1 := by omega
      rw [e1]; exact he'
    · have hb' : b < s.heap.objs.size := by
        have e' : b = e ∨ b = it := by simpa using hb
        rcases e' with z | z
        · rw [z]; exact hel
        · rw [z]; exact hil
      rw [upd_ne (Nat.ne_of_lt hb')]
      exact (hf b hb).1
  done := by
    intro X hP hw hK hc i pins s σ H E I hf st hg
    subst hP hw hK
    obtain ⟨⟨old, he⟩, hit, hne, hai, hae⟩ := st
    obtain ⟨xs, hq, hx⟩ := hg
    obtain ⟨its, rv, p, hz⟩ := I.tuple hq
    obtain ⟨f0, f1, f2, f3, f4, f5⟩ := hf it (by simp)
    have hl := rv.length
    exact next_enumT_end (I.ok.hd hc) he hit p (by simp; omega) fun h' eb => ⟨rfl, I.turned (t' := s.toks) (fun b o hb q => eb b o hb q) f0 f1 f3 f4 f5⟩
  self := fun A i s Q E st h => let ⟨⟨_, he⟩, _⟩ := st; wpAny_pyIter_enum he h
def iEnumA (K : PySem.W.Frag) (ta : TA) : TI := fun σ H R => ta σ H fun vs H1 => ∃ a xs, vs = [.ref a] ∧ ((SqL K H1 a xs ∧ R (Ite K a) H1) ∨ (SqT K H1 a xs ∧ R (IteT K a) H1))
theorem pi_enumA {X : Cx} {e : Expr} {ta : TA} {p pos tpos : Pos} {elts : List Expr} {kk : Nat} (hg : Gl X "enumerate") (hm : X.mg "enumerate" = none) (ha : PA X [e] ta) (hs : starEach [e] X.env = [(false, eval e X.env)] := by rfl) :
    PI X (.Tuple elts kk tpos) (.Call (.Name "enumerate" p) [e] [] pos) (iEnumA X.K ta) := by
  refine ⟨fun pins s σ H R I h => ?_⟩
  refine Call_ (ld_blt I hg hm boot_enumerate (PyProof.Rows.callWith_type1 (thn (ha.run pos pins s σ H _ I h) fun us s1 ⟨vs, H1, I1, r1, q1⟩ => ?_) hs rfl))
  obtain ⟨a, xs, ex, q1⟩ := q1
  subst ex
  cases r1 with
  | cons r rr =>
    cases rr
    cases r
    have fresh : ∀ b, b ∈ [s1.heap.objs.size + 1, s1.heap.objs.size] → FpOk X pins H1 b := fun b hb => by
      have e' : b = s1.heap.objs.size + 1 ∨ b = s1.heap.objs.size := by simpa using hb
      have hle : s1.heap.objs.size ≤ b := by
        rcases e' with z | z
        · rw [z]; exact Nat.le_add_right _ _
        · rw [z]; exact Nat.le_refl _
      exact I1.fpOk hle (I1.hok.fresh hle)
    rcases q1 with ⟨hq, q⟩ | ⟨hq, q⟩
    · obtain ⟨its, rv, p', hz⟩ := I1.list hq
      refine call_enumerate_list p'.isList fun h' he hit hsz hk => wpAny_pyIter_enum he ?_
      have I2 : Inv X pins σ H1 { s1 with heap := h' } := I1.kept (t' := s1.toks) hk
      exact ⟨s1.heap.objs.size + 1, [s1.heap.objs.size + 1, s1.heap.objs.size], _, _, H1, rfl, I2, turn_enum a (s1.heap.objs.size + 1) s1.heap.objs.size, ⟨⟨.none, he⟩, hit, Nat.succ_ne_self _⟩, fresh, q⟩
    · obtain ⟨its, rv, p', hz⟩ := I1.tuple hq
      have hlt : a < s1.heap.objs.size := by obtain ⟨_, ho, _⟩ := id p'; exact Heap.lt_size ho
      refine call_enumT p' fun h' he hit hsz hk => wpAny_pyIter_enum he ?_
      have I2 : Inv X pins σ H1 { s1 with heap := h' } := I1.kept (t' := s1.toks) hk
      exact ⟨s1.heap.objs.size + 1, [s1.heap.objs.size + 1, s1.heap.objs.size], _, _, H1, rfl, I2, turn_enumT a (s1.heap.objs.size + 1) s1.heap.objs.size, ⟨⟨.none, he⟩, hit, Nat.succ_ne_self _, Nat.ne_of_lt hlt, Nat.ne_of_lt (Nat.lt_succ_of_lt hlt)⟩, fresh, q⟩
end Fw

/-! Fw7 -/
set_option Elab.async false
set_option linter.all false
set_option maxRecDepth 100000
set_option maxHeartbeats 4000000
namespace Fw
open PySem PySem.Spec PyProof.Rows L2
/-- an iterator that yields the things ds, over any frozen heap that has F -/
structure ItOk (K : PySem.W.Frag) (F : Hp) (J : It) (ds : List D) : Prop where
  go : ∀ F' H', Sub F F' → Sub F' H' → ∀ i, i < ds.length → J.go i H'
  stop : ∀ F' H', Sub F F' → Sub F' H' → J.stop ds.length H'
  yld : ∀ F' A' H', Sub F F' → Wf F' A' H' → ∀ i x H2 d, ds[i]? = some d → J.yld i H' x H2 → ∃ F2, Gr F' H' F2 H2 ∧ Rep K F2 x d
def rdI (K : PySem.W.Frag) (m : M (List D)) : TI := fun σ H R => ∃ F A e, SR K F H A σ e ∧ Wf F A H ∧ ∃ ds e', m e = some (ds, e') ∧
  ∀ F' A' J H', SR K F' H' A' σ e' → Wf F' A' H' → Ext F A H F' A' H' → ItOk K F' J ds → R J H'
def JI (X : Cx) (tg it : Expr) (m : M (List D)) : Prop := PI X tg it (rdI X.K m)
theorem pi_imp {X : Cx} {tg it : Expr} {t t' : TI} (h : PI X tg it t) (i : ∀ σ H R, t' σ H R → t σ H R) : PI X tg it t' := ⟨fun pins s σ H R I q => h.run pins s σ H R I (i σ H R q)⟩
section
variable {X : Cx} {W : List Nat} {K : PySem.W.Frag} {F F' F1 F2 H H' H1 H2 : Hp} {A A' A1 A2 B C : List Addr} {σ σ' : L2.St} {e e' : Fw.Env} {a b c tg : Expr} {es : List Expr} {pos p : Pos} {st : Stmt} {rest : List Stmt}
theorem gr_refl' (w : Wf F A H) : Gr F H F H := Gr.refl w
/-- a list that stands frozen -/
theorem itl_ok {l : Addr} {xs : List V} {ds : List D} (h : F l = some (.lst xs)) (r : Reps K F xs ds) : ItOk K F (Itl K l) ds where
  go := fun F' H' s1 s2 i hi => by
    obtain ⟨x, hx, _⟩ := Reps.get ds xs i ds[i] r (by simp [hi])
    exact ⟨xs, x, SqL.of (s2 _ _ (s1 _ _ h)), hx⟩
  stop := fun F' H' s1 s2 => ⟨xs, SqL.of (s2 _ _ (s1 _ _ h)), by rw [Reps.length ds xs r]; exact Nat.le_refl _⟩
  yld := fun F' A' H' s1 w i x H2 d hd y => by
    obtain ⟨rfl, y⟩ := y
    obtain ⟨x', hx, hr⟩ := Reps.get ds xs i d r hd
    have := y xs (SqL.of (w.sub _ _ (s1 _ _ h)))
    rw [hx] at this
    cases this
    exact ⟨F', Gr.refl w, Rep.mono s1 _ _ hr⟩
theorem itt_ok {l : Addr} {xs : List V} {ds : List D} (h : SqT K F l xs) (r : Reps K F xs ds) : ItOk K F (Itt K l) ds where
  go := fun F' H' s1 s2 i hi => by
    obtain ⟨x, hx, _⟩ := Reps.get ds xs i ds[i] r (by simp [hi])
    exact ⟨xs, x, s2.sqT (s1.sqT h), hx⟩
  stop := fun F' H' s1 s2 => ⟨xs, s2.sqT (s1.sqT h), by rw [Reps.length ds xs r]; exact Nat.le_refl _⟩
  yld := fun F' A' H' s1 w i x H2 d hd y => by
    obtain ⟨rfl, y⟩ := y
    obtain ⟨x', hx, hr⟩ := Reps.get ds xs i d r hd
    have := y xs (w.sub.sqT (s1.sqT h))
    rw [hx] at this
    cases this
    exact ⟨F', Gr.refl w, Rep.mono s1 _ _ hr⟩
theorem itr_ok {lo : Int} {n : Nat} : ItOk K F (Itr lo n) ((List.range n).map fun (i : Nat) => D.int (lo + (i : Int))) where
  go := fun F' H' s1 s2 i hi => by simpa [Itr] using hi
  stop := fun F' H' s1 s2 => by simp [Itr]
  yld := fun F' A' H' s1 w i x H2 d hd y => by
    obtain ⟨rfl, rfl⟩ := y
    rw [List.getElem?_map] at hd
    obtain ⟨j, hj, rfl⟩ := Option.map_eq_some_iff.mp hd
    have : j = i := by
      by_cases hi : i < n
      · rw [List.getElem?_range hi] at hj; cases hj; rfl
      · rw [List.getElem?_eq_none (by simpa using hi)] at hj; cases hj
    subst this
    exact ⟨F', Gr.refl w, by simp only [Rep]⟩
/-- for x in a list, a tuple -/
def mSeqL (m : M D) : M (List D) := mBind m fun d => mOpt (match d with | .lst ds => some ds | _ => none)
def mSeqT (m : M D) : M (List D) := mBind m fun d => mOpt (match d with | .tup ds => some ds | _ => none)
theorem ji_list {m : M D} (h : JD X a m) : JI X tg a (mSeqL m) := pi_imp (pi_list h) fun σ H R q => by
  obtain ⟨F, A, e, s, w, ds, e', hm, q⟩ := q
  obtain ⟨d, e1, h1, h2⟩ := mBind_some hm
  obtain ⟨h3, rfl⟩ := mOpt_some h2
  refine ⟨F, A, e, s, w, d, _, h1, fun F1 A1 v H1 s1 r1 w1 x1 => ?_⟩
  split at h3
  · cases h3
    simp only [Rep] at r1
    obtain ⟨l, xs, rfl, h4, h5⟩ := r1
    exact ⟨l, rfl, ⟨xs, SqL.of (w1.sub _ _ h4)⟩, q F1 A1 _ H1 s1 w1 x1 (itl_ok h4 h5)⟩
  · cases h3
theorem ji_tup {m : M D} (h : JD X a m) : JI X tg a (mSeqT m) := pi_imp (pi_tup h) fun σ H R q => by
  obtain ⟨F, A, e, s, w, ds, e', hm, q⟩ := q
  obtain ⟨d, e1, h1, h2⟩ := mBind_some hm
  obtain ⟨h3, rfl⟩ := mOpt_some h2
  refine ⟨F, A, e, s, w, d, _, h1, fun F1 A1 v H1 s1 r1 w1 x1 => ?_⟩
  split at h3
  · cases h3
    simp only [Rep] at r1
    obtain ⟨l, xs, rfl, h4, h5⟩ := r1
    exact ⟨l, rfl, ⟨xs, w1.sub.sqT h4⟩, q F1 A1 _ H1 s1 w1 x1 (itt_ok h4 h5)⟩
  · cases h3
theorem rng_ok {j : Int} (h : j.natAbs.log2 < 60) : -(2 ^ 62) ≤ j ∧ j < 2 ^ 62 := by
  have h1 : j.natAbs < 2 ^ 60 := by
    by_cases h0 : j.natAbs = 0
    · rw [h0]; exact Nat.two_pow_pos _
    · exact (Nat.log2_lt h0).mp h
  have h2 : (2 : Nat) ^ 60 = 1152921504606846976 := by decide
  have h3 : (2 : Int) ^ 62 = 4611686018427387904 := by decide
  rw [h2] at h1
  rw [h3]
  omega
theorem rng_in {j : Nat} (h : j < 2 ^ 60) : ((j : Int)).natAbs.log2 < 60 := by
  by_cases h0 : j = 0
  · subst h0; decide
  · rw [Int.natAbs_natCast]; exact (Nat.log2_lt h0).mpr h
def rng1 : List D → Option (List D)
  | [.int j] => if j.natAbs.log2 < 60 then some ((List.range j.toNat).map fun (i : Nat) => D.int (0 + (i : Int))) else none
  | _ => none
def rng2 : List D → Option (List D)
  | [.int i, .int j] => if i.natAbs.log2 < 60 ∧ j.natAbs.log2 < 60 then some ((List.range (j - i).toNat).map fun (k : Nat) => D.int (i + (k : Int))) else none
  | _ => none
def mIt (f : List D → Option (List D)) (m : M (List D)) : M (List D) := mBind m fun ds => mOpt (f ds)
theorem ji_range1 {m : M (List D)} (hm : X.mg "range" = none) (ha : JAD X [a] m) (hg : Gl X "range" := by rfl) (hs : starEach [a] X.env = [(false, eval a X.env)] := by rfl) : JI X tg (.Call (.Name "range" p) [a] [] pos) (mIt rng1 m) := pi_imp (pi_range1 hg hm ha hs) fun σ H R q => by
  obtain ⟨F, A, e, s, w, ds, e', hm, q⟩ := q
  obtain ⟨d, e1, h1, h2⟩ := mBind_some hm
  obtain ⟨h3, rfl⟩ := mOpt_some h2
  refine ⟨F, A, e, s, w, d, _, h1, fun F1 A1 v H1 s1 r1 w1 x1 => ?_⟩
  unfold rng1 at h3
  split at h3
  · rename_i j
    split at h3
    · rename_i hb
      cases h3
      obtain ⟨x, rfl, h⟩ := reps_one r1
      simp only [Rep] at h
      exact ⟨j, by rw [h], (rng_ok hb).1, (rng_ok hb).2, q F1 A1 _ H1 s1 w1 x1 itr_ok⟩
    · cases h3
  · cases h3
theorem ji_range2 {m : M (List D)} (hm : X.mg "range" = none) (ha : JAD X [a, b] m) (hg : Gl X "range" := by rfl) (hs : starEach [a, b] X.env = [(false, eval a X.env), (false, eval b X.env)] := by rfl) (hs2 : starEach [b] X.env = [(false, eval b X.env)] := by rfl) : JI X tg (.Call (.Name "range" p) [a, b] [] pos) (mIt rng2 m) := pi_imp (pi_range2 hg hm ha hs hs2) fun σ H R q => by
  obtain ⟨F, A, e, s, w, ds, e', hm, q⟩ := q
  obtain ⟨d, e1, h1, h2⟩ := mBind_some hm
  obtain ⟨h3, rfl⟩ := mOpt_some h2
  refine ⟨F, A, e, s, w, d, _, h1, fun F1 A1 v H1 s1 r1 w1 x1 => ?_⟩
  unfold rng2 at h3
  split at h3
  · rename_i i j
    split at h3
    · rename_i hb
      cases h3
      obtain ⟨x, y, rfl, h, h2⟩ := reps_two r1
      simp only [Rep] at h h2
      exact ⟨i, j, by rw [h, h2], ⟨(rng_ok hb.1).1, (rng_ok hb.1).2, (rng_ok hb.2).1, (rng_ok hb.2).2⟩, q F1 A1 _ H1 s1 w1 x1 itr_ok⟩
    · cases h3
  · cases h3
/-- enumerate, zip of lists -/
def enumD (n : Nat) : List D → List D
  | [] => []
  | d :: ds => .tup [.int n, d] :: enumD (n + 1) ds
theorem enumD_length : ∀ (n : Nat) (ds : List D), (enumD n ds).length = ds.length
  | _, [] => rfl
  | n, d :: ds => by simp [enumD, enumD_length (n + 1) ds]
theorem enumD_get : ∀ (n : Nat) (ds : List D) (i : Nat) (d : D), (enumD n ds)[i]? = some d → ∃ d', ds[i]? = some d' ∧ d = .tup [.int ((n + i : Nat) : Int), d']
  | _, [], i, d, h => by simp [enumD] at h
  | n, x :: ds, 0, d, h => by
    simp only [enumD, List.getElem?_cons_zero, Option.some.injEq] at h
    exact ⟨x, rfl, h.symm⟩
  | n, x :: ds, i + 1, d, h => by
    simp only [enumD, List.getElem?_cons_succ] at h
    obtain ⟨d', h1, h2⟩ := enumD_get (n + 1) ds i d h
    refine ⟨d', by simpa using h1, ?_⟩
    rw [h2, show n + 1 + i = n + (i + 1) by omega]
def zipD : List D → List D → List D
  | x :: xs, y :: ys => .tup [x, y] :: zipD xs ys
  | _, _ => []
theorem zipD_length : ∀ (xs ys : List D), (zipD xs ys).length = min xs.length ys.length
  | [], ys => by cases ys <;> simp [zipD]
  | x :: xs, [] => by simp [zipD]
  | x :: xs, y :: ys => by simp [zipD, zipD_length xs ys]
theorem zipD_get : ∀ (xs ys : List D) (i : Nat) (d : D), (zipD xs ys)[i]? = some d → ∃ x y, xs[i]? = some x ∧ ys[i]? = some y ∧ d = .tup [x, y]
  | [], ys, i, d, h => by cases ys <;> simp [zipD] at h
  | x :: xs, [], i, d, h => by simp [zipD] at h
  | x :: xs, y :: ys, 0, d, h => by
    simp only [zipD, List.getElem?_cons_zero, Option.some.injEq] at h
    exact ⟨x, y, rfl, rfl, h.symm⟩
  | x :: xs, y :: ys, i + 1, d, h => by
    simp only [zipD, List.getElem?_cons_succ] at h
    obtain ⟨u, v, h1, h2, h3⟩ := zipD_get xs ys i d h
    exact ⟨u, v, by simpa using h1, by simpa using h2, h3⟩
theorem ite_ok {l : Addr} {xs : List V} {ds : List D} (h : F l = some (.lst xs)) (r : Reps K F xs ds) : ItOk K F (Ite K l) (enumD 0 ds) where
  go := fun F' H' s1 s2 i hi => by
    rw [enumD_length] at hi
    obtain ⟨x, hx, _⟩ := Reps.get ds xs i ds[i] r (by simp [hi])
    exact ⟨xs, x, SqL.of (s2 _ _ (s1 _ _ h)), hx⟩
  stop := fun F' H' s1 s2 => ⟨xs, SqL.of (s2 _ _ (s1 _ _ h)), by rw [Reps.length ds xs r, enumD_length]; exact Nat.le_refl _⟩
  yld := fun F' A' H' s1 w i x H2 d hd y => by
    obtain ⟨t, x', rfl, ht, rfl, y⟩ := y
    obtain ⟨d', hd', rfl⟩ := enumD_get 0 ds i d hd
    obtain ⟨x2, hx, hr⟩ := Reps.get ds xs i d' r hd'
    have := y xs (SqL.of (w.sub _ _ (s1 _ _ h)))
    rw [hx] at this
    cases this
    have g := Gr.new (o := .tup [.int (i : Nat), x']) w ht
    refine ⟨_, g, ?_⟩
    simp only [Rep, Reps]
    exact ⟨t, _, rfl, .inl (.inl upd_same), _, _, rfl, by simp, _, _, rfl, Rep.mono g.x.fz _ _ (Rep.mono s1 _ _ hr), rfl⟩
theorem itz_ok {l m : Addr} {xs ys : List V} {ds es : List D} (h : F l = some (.lst xs)) (r : Reps K F xs ds) (h2 : F m = some (.lst ys)) (r2 : Reps K F ys es) : ItOk K F (Itz K l m) (zipD ds es) where
  go := fun F' H' s1 s2 i hi => by
    rw [zipD_length] at hi
    obtain ⟨x, hx, _⟩ := Reps.get ds xs i (ds[i]'(by omega)) r (by simp)
    obtain ⟨y, hy, _⟩ := Reps.get es ys i (es[i]'(by omega)) r2 (by simp)
    exact ⟨xs, ys, x, y, SqL.of (s2 _ _ (s1 _ _ h)), SqL.of (s2 _ _ (s1 _ _ h2)), hx, hy⟩
  stop := fun F' H' s1 s2 => ⟨xs, ys, SqL.of (s2 _ _ (s1 _ _ h)), SqL.of (s2 _ _ (s1 _ _ h2)), by rw [Reps.length ds xs r, Reps.length es ys r2, zipD_length]; omega⟩
  yld := fun F' A' H' s1 w i x H2 d hd y => by
    obtain ⟨t, x', y', rfl, ht, rfl, y, z⟩ := y
    obtain ⟨d1, d2, hd1, hd2, rfl⟩ := zipD_get ds es i d hd
    obtain ⟨x2, hx, hr⟩ := Reps.get ds xs i d1 r hd1
    obtain ⟨y2, hy, hr2⟩ := Reps.get es ys i d2 r2 hd2
    have := y xs (SqL.of (w.sub _ _ (s1 _ _ h)))
    rw [hx] at this
    cases this
    have := z ys (SqL.of (w.sub _ _ (s1 _ _ h2)))
    rw [hy] at this
    cases this
    have g := Gr.new (o := .tup [x', y']) w ht
    refine ⟨_, g, ?_⟩
    simp only [Rep, Reps]
    exact ⟨t, _, rfl, .inl (.inl upd_same), _, _, rfl, Rep.mono g.x.fz _ _ (Rep.mono s1 _ _ hr), _, _, rfl, Rep.mono g.x.fz _ _ (Rep.mono s1 _ _ hr2), rfl⟩
theorem iteT_ok {l : Addr} {xs : List V} {ds : List D} (h : SqT K F l xs) (r : Reps K F xs ds) : ItOk K F (IteT K l) (enumD 0 ds) where
  go := fun F' H' s1 s2 i hi => by
    rw [enumD_length] at hi
    obtain ⟨x, hx, _⟩ := Reps.get ds xs i ds[i] r (by simp [hi])
    exact ⟨xs, x, s2.sqT (s1.sqT h), hx⟩
  stop := fun F' H' s1 s2 => ⟨xs, s2.sqT (s1.sqT h), by rw [Reps.length ds xs r, enumD_length]; exact Nat.le_refl _⟩
  yld := fun F' A' H' s1 w i x H2 d hd y => by
    obtain ⟨t, x', rfl, ht, rfl, y⟩ := y
    obtain ⟨d', hd', rfl⟩ := enumD_get 0 ds i d hd
    obtain ⟨x2, hx, hr⟩ := Reps.get ds xs i d' r hd'
    have := y xs (w.sub.sqT (s1.sqT h))
    rw [hx] at this
    cases this
    have g := Gr.new (o := .tup [.int (i : Nat), x']) w ht
    refine ⟨_, g, ?_⟩
    simp only [Rep, Reps]
    exact ⟨t, _, rfl, .inl (.inl upd_same), _, _, rfl, by simp, _, _, rfl, Rep.mono g.x.fz _ _ (Rep.mono s1 _ _ hr), rfl⟩
theorem itzT_ok {l m : Addr} {xs ys : List V} {ds es : List D} (h : SqT K F l xs) (r : Reps K F xs ds) (h2 : SqT K F m ys) (r2 : Reps K F ys es) : ItOk K F (RZ.ItzT K l m) (zipD ds es) where
  go := fun F' H' s1 s2 i hi => by
    rw [zipD_length] at hi
    obtain ⟨x, hx, _⟩ := Reps.get ds xs i (ds[i]'(by omega)) r (by simp)
    obtain ⟨y, hy, _⟩ := Reps.get es ys i (es[i]'(by omega)) r2 (by simp)
    exact ⟨xs, ys, x, y, s2.sqT (s1.sqT h), s2.sqT (s1.sqT h2), hx, hy⟩
  stop := fun F' H' s1 s2 => ⟨xs, ys, s2.sqT (s1.sqT h), s2.sqT (s1.sqT h2), by rw [Reps.length ds xs r, Reps.length es ys r2, zipD_length]; omega⟩
  yld := fun F' A' H' s1 w i x H2 d hd y => by
    obtain ⟨t, x', y', rfl, ht, rfl, y, z⟩ := y
    obtain ⟨d1, d2, hd1, hd2, rfl⟩ := zipD_get ds es i d hd
    obtain ⟨x2, hx, hr⟩ := Reps.get ds xs i d1 r hd1
    obtain ⟨y2, hy, hr2⟩ := Reps.get es ys i d2 r2 hd2
    have := y xs (w.sub.sqT (s1.sqT h))
    rw [hx] at this
    cases this
    have := z ys (w.sub.sqT (s1.sqT h2))
    rw [hy] at this
    cases this
    have g := Gr.new (o := .tup [x', y']) w ht
    refine ⟨_, g, ?_⟩
    simp only [Rep, Reps]
    exact ⟨t, _, rfl, .inl (.inl upd_same), _, _, rfl, Rep.mono g.x.fz _ _ (Rep.mono s1 _ _ hr), _, _, rfl, Rep.mono g.x.fz _ _ (Rep.mono s1 _ _ hr2), rfl⟩
def enF : List D → Option (List D)
  | [.lst ds] => some (enumD 0 ds)
  | [.tup ds] => some (enumD 0 ds)
  | _ => none
def zpF : List D → Option (List D)
  | [.lst ds, .lst es] => some (zipD ds es)
  | [.tup ds, .tup es] => some (zipD ds es)
  | _ => none
theorem ji_enum {m : M (List D)} {elts : List Expr} {kk : Nat} {tpos : Pos} (hm : X.mg "enumerate" = none) (ha : JAD X [a] m) (hg : Gl X "enumerate" := by rfl) (hs : starEach [a] X.env = [(false, eval a X.env)] := by rfl) :
    JI X (.Tuple elts kk tpos) (.Call (.Name "enumerate" p) [a] [] pos) (mIt enF m) := pi_imp (pi_enumA hg hm ha hs) fun σ H R q => by
  obtain ⟨F, A, e, s, w, ds, e', hm, q⟩ := q
  obtain ⟨d, e1, h1, h2⟩ := mBind_some hm
  obtain ⟨h3, rfl⟩ := mOpt_some h2
  refine ⟨F, A, e, s, w, d, _, h1, fun F1 A1 v H1 s1 r1 w1 x1 => ?_⟩
  unfold enF at h3
  split at h3
  · cases h3
    obtain ⟨x, rfl, h⟩ := reps_one r1
    simp only [Rep] at h
    obtain ⟨l, xs, rfl, h4, h5⟩ := h
    exact ⟨l, xs, rfl, .inl ⟨SqL.of (w1.sub _ _ h4), q F1 A1 _ H1 s1 w1 x1 (ite_ok h4 h5)⟩⟩
  · cases h3
    obtain ⟨x, rfl, h⟩ := reps_one r1
    simp only [Rep] at h
    obtain ⟨l, xs, rfl, h4, h5⟩ := h
    exact ⟨l, xs, rfl, .inr ⟨w1.sub.sqT h4, q F1 A1 _ H1 s1 w1 x1 (iteT_ok h4 h5)⟩⟩
  · cases h3
theorem ji_zip {m : M (List D)} {elts : List Expr} {kk : Nat} {tpos : Pos} (hm : X.mg "zip" = none) (ha : JAD X [a, b] m) (hg : Gl X "zip" := by rfl)
    (hs : starEach [a, b] X.env = (false, eval a X.env) :: starEach [b] X.env := by rfl) (hpl : (backTo pos (starEach [b] X.env)).any (·.1) = false := by rfl) :
    JI X (.Tuple elts kk tpos) (.Call (.Name "zip" p) [a, b] [] pos) (mIt zpF m) := pi_imp (RZ.pi_zipA hg hm ha hs hpl) fun σ H R q => by
  obtain ⟨F, A, e, s, w, ds, e', hm, q⟩ := q
  obtain ⟨d, e1, h1, h2⟩ := mBind_some hm
  obtain ⟨h3, rfl⟩ := mOpt_some h2
  refine ⟨F, A, e, s, w, d, _, h1, fun F1 A1 v H1 s1 r1 w1 x1 => ?_⟩
  unfold zpF at h3
  split at h3
  · cases h3
    obtain ⟨x, y, rfl, h, h'⟩ := reps_two r1
    simp only [Rep] at h h'
    obtain ⟨l, xs, rfl, h4, h5⟩ := h
    obtain ⟨l2, ys, rfl, h6, h7⟩ := h'
    exact ⟨l, l2, xs, ys, rfl, .inl ⟨SqL.of (w1.sub _ _ h4), SqL.of (w1.sub _ _ h6), q F1 A1 _ H1 s1 w1 x1 (itz_ok h4 h5 h6 h7)⟩⟩
  · cases h3
    obtain ⟨x, y, rfl, h, h'⟩ := reps_two r1
    simp only [Rep] at h h'
    obtain ⟨l, xs, rfl, h4, h5⟩ := h
    obtain ⟨l2, ys, rfl, h6, h7⟩ := h'
    exact ⟨l, l2, xs, ys, rfl, .inr ⟨w1.sub.sqT h4, w1.sub.sqT h6, q F1 A1 _ H1 s1 w1 x1 (itzT_ok h4 h5 h6 h7)⟩⟩
  · cases h3
/-! ### for -/
def loopM (g : G) (b : MS) : List D → MS
  | [], e => some (.nx, e)
  | d :: ds, e => match g (.fz d) e with
    | none => none
    | some e1 => match b e1 with
      | some (.nx, e2) => loopM g b ds e2
      | some (.ct, e2) => loopM g b ds e2
      | some (.bk, e2) => some (.nx, e2)
      | some (.rt t, e2) => some (.rt t, e2)
      | none => none
def mFor (m : M (List D)) (g : G) (b : MS) : MS := fun e => match m e with
  | some (ds, e1) => loopM g b ds e1
  | none => none
theorem js_for {it : Expr} {body : List Stmt} {m : M (List D)} {g : G} {mb : MS} (hp : PassesOwn (model X.prog X.w) X.A X.env X.xe) (hc : X.calm = true) (hi : JI X tg it m) (hg : JG X W tg g) (hb : JSs X W body mb)
    (hs : ∀ x, foldedSetIterable it X.env x = pure x := by intro _; rfl) : JS X W (.For tg it body [] pos) (mFor m g mb) := ps_imp (ps_for hp hc hi hg hb hs) fun D σ H q => by
  obtain ⟨F, A, e, s, w, fl, eN, hm, q⟩ := q
  unfold mFor at hm
  split at hm
  case h_2 => cases hm
  rename_i ds e1 h1
  refine ⟨F, A, e, s, w, ds, e1, h1, fun F1 A1 J H1 s1 w1 x1 it => ?_⟩
  refine ⟨fun i n σ2 H2 => n = ds.length - i ∧ i ≤ ds.length ∧ ∃ F2 A2 e2, SR X.K F2 H2 A2 σ2 e2 ∧ Wf F2 A2 H2 ∧ Ext F A H F2 A2 H2 ∧ Sub F1 F2 ∧ Kept W σ σ2 ∧ loopM g mb (ds.drop i) e2 = some (fl, eN), ⟨ds.length, by simp, Nat.zero_le _, F1, A1, e1, s1, w1, x1, fun _ _ h => h, Kept.refl, by simpa using hm⟩, ?_⟩
  rintro i n σ2 H2 ⟨rfl, hi, F2, A2, e2, s2, w2, x2, sb, k2, h2⟩
  by_cases hlt : i < ds.length
  · refine .inr ⟨it.go F2 H2 sb w2.sub i hlt, fun σ3 H3 => ∃ F3 A3 e3, SR X.K F3 H3 A3 σ3 e3 ∧ Wf F3 A3 H3 ∧ Ext F A H F3 A3 H3 ∧ Sub F1 F3 ∧ Kept W σ σ3 ∧ loopM g mb (ds.drop (i + 1)) e3 = some (fl, eN), fun σ3 H3 ⟨F3, A3, e3, s3, w3, x3, sb3, k3, h3⟩ => ⟨ds.length - (i + 1), by omega, rfl, hlt, F3, A3, e3, s3, w3, x3, sb3, k3, h3⟩, fun x H3 y => ?_⟩
    obtain ⟨F3, g3, r3⟩ := it.yld F2 A2 H2 sb w2 i x H3 ds[i] (by simp [hlt]) y
    rw [List.drop_eq_getElem_cons hlt] at h2
    unfold loopM at h2
    split at h2
    case h_1 => cases h2
    rename_i e3 h3
    refine ⟨F3, A2, [], e2, .fz ds[i], g3.sr w2 s2, by simp only [OT]; exact ⟨trivial, r3⟩, (g3.wf w2).nil, e3, h3, fun F4 A4 σ4 H4 s4 w4 x4 k4 => ?_⟩
    simp only [List.append_nil] at x4
    have x24 : Ext F A H F4 A4 H4 := (x2.trans g3.ext).trans x4
    have sb4 : Sub F1 F4 := fun b o h => x4.fz _ _ (g3.x.fz _ _ (sb b o h))
    cases hb : mb e3 with
    | none => rw [hb] at h2; cases h2
    | some r =>
      obtain ⟨f2, e5⟩ := r
      rw [hb] at h2
      refine ⟨F4, A4, e3, s4, w4, f2, e5, hb, fun F5 A5 B5 σ5 H5 s5 w5 x5 k5 => ?_⟩
      have k := (k2.trans k4).trans k5
      cases f2 with
      | nx =>
        intro z; subst z
        simp only [List.append_nil] at w5 x5
        exact ⟨F5, A5, e5, s5, w5, x24.trans x5, fun b o h => x5.fz _ _ (sb4 b o h), k, h2⟩
      | ct =>
        intro z; subst z
        simp only [List.append_nil] at w5 x5
        exact ⟨F5, A5, e5, s5, w5, x24.trans x5, fun b o h => x5.fz _ _ (sb4 b o h), k, h2⟩
      | bk =>
        intro z; subst z
        cases h2
        exact q F5 A5 [] σ5 H5 s5 w5 (x24.trans x5) k rfl
      | rt t =>
        cases h2
        exact q F5 A5 B5 σ5 H5 s5 w5 (x24.trans x5) k
  · have e0 : i = ds.length := by omega
    subst e0
    rw [List.drop_length] at h2
    cases h2
    exact .inl ⟨it.stop F2 H2 sb w2.sub, q F2 A2 [] σ2 H2 s2 w2.nil x2.nil k2 rfl⟩
/-! ### while -/
def iterM (c : M Bool) (b : MS) : Nat → MS
  | 0, _ => none
  | n + 1, e => match c e with
    | some (true, e1) => (match b e1 with
      | some (.nx, e2) => iterM c b n e2
      | some (.ct, e2) => iterM c b n e2
      | some (.bk, e2) => some (.nx, e2)
      | some (.rt t, e2) => some (.rt t, e2)
      | none => none)
    | some (false, e1) => some (.nx, e1)
    | none => none
def mWhile (n : Fw.Env → Nat) (c : M Bool) (b : MS) : MS := fun e => iterM c b (n e) e
theorem js_while {n : Fw.Env → Nat} {body : List Stmt} {c : Expr} {mc : M Bool} {mb : MS} (hp : PassesOwn (model X.prog X.w) X.A X.env X.xe) (hc : JT X c mc) (hb : JSs X W body mb) : JS X W (.While c body [] pos) (mWhile n mc mb) := ps_imp (ps_while hp hc hb) fun D σ H q => by
  obtain ⟨F, A, e, s, w, fl, eN, hm, q⟩ := q
  refine ⟨fun k σ2 H2 => ∃ F2 A2 e2, SR X.K F2 H2 A2 σ2 e2 ∧ Wf F2 A2 H2 ∧ Ext F A H F2 A2 H2 ∧ Kept W σ σ2 ∧ iterM mc mb k e2 = some (fl, eN), ⟨n e, F, A, e, s, w, Ext.refl, Kept.refl, hm⟩, ?_⟩
  rintro k σ2 H2 ⟨F2, A2, e2, s2, w2, x2, k2, h2⟩
  cases k with
  | zero => cases h2
  | succ k =>
    unfold iterM at h2
    split at h2
    · rename_i e3 h3
      refine ⟨F2, A2, e2, s2, w2, true, e3, h3, fun F3 A3 H3 s3 w3 x3 => iteT ⟨fun σ4 H4 => ∃ F4 A4 e4, SR X.K F4 H4 A4 σ4 e4 ∧ Wf F4 A4 H4 ∧ Ext F A H F4 A4 H4 ∧ Kept W σ σ4 ∧ iterM mc mb k e4 = some (fl, eN), fun σ4 H4 h => ⟨k, Nat.lt_succ_self k, h⟩, ?_⟩⟩
      cases hb : mb e3 with
      | none => rw [hb] at h2; cases h2
      | some r =>
        obtain ⟨f2, e5⟩ := r
        rw [hb] at h2
        refine ⟨F3, A3, e3, s3, w3, f2, e5, hb, fun F5 A5 B5 σ5 H5 s5 w5 x5 k5 => ?_⟩
        have kk := k2.trans k5
        have xx := (x2.trans x3).trans x5
        cases f2 with
        | nx =>
          intro z; subst z
          simp only [List.append_nil] at w5 xx
          exact ⟨F5, A5, e5, s5, w5, xx, kk, h2⟩
        | ct =>
          intro z; subst z
          simp only [List.append_nil] at w5 xx
          exact ⟨F5, A5, e5, s5, w5, xx, kk, h2⟩
        | bk =>
          intro z; subst z
          cases h2
          exact q F5 A5 [] σ5 H5 s5 w5 xx kk rfl
        | rt t =>
          cases h2
          exact q F5 A5 B5 σ5 H5 s5 w5 xx kk
    · rename_i e3 h3
      cases h2
      exact ⟨F2, A2, e2, s2, w2, false, _, h3, fun F3 A3 H3 s3 w3 x3 => iteF (q F3 A3 [] σ2 H3 s3 w3.nil (x2.trans x3).nil k2 rfl)⟩
    · cases h2
end
end Fw

/-! Fw8 -/
set_option Elab.async false
set_option linter.all false
set_option maxRecDepth 100000
set_option maxHeartbeats 4000000
namespace Fw
open PySem PySem.Spec PyProof.Rows L2
/-! ### comprehensions -/
def fzS (e : Fw.Env) (i : Nat) : Option T := match e[i]? with
  | some (some (.fz d)) => some (.fz d)
  | _ => none
def fzOk (e : Fw.Env) (i : Nat) : Bool := match e[i]? with
  | some (some (.fz _)) => true
  | some none => true
  | _ => false
def wipeE (e : Fw.Env) : List Nat → Fw.Env
  | [] => e
  | v :: vs => (wipeE e vs).set v none
def restE (o : Fw.Env) : List Nat → Fw.Env → Fw.Env
  | [], c => c
  | i :: vs, c => restE o vs (c.set i (fzS o i))
section
variable {K : PySem.W.Frag} {F F' F1 F2 H H' H1 H2 : Hp} {A A' A1 A2 B C : List Addr} {σ σ' : L2.St} {e e' : Fw.Env}
theorem Slots.any {x : Option V} : ∀ (e : Fw.Env) (i : Nat) (A : List Addr) (σ : L2.St), Slots K F H A σ e → e[i]? = some none → Slots K F H A (σ.set i x) e
  | [], i, A, σ, h, q => by simp at q
  | some u :: e, 0, A, σ, h, q => by simp at q
  | none :: e, 0, A, σ, h, q => by
    simp only [Slots] at h ⊢
    obtain ⟨y, r, rfl, h1⟩ := h
    exact ⟨x, r, rfl, h1⟩
  | none :: e, i + 1, A, σ, h, q => by
    simp only [Slots] at h ⊢
    obtain ⟨y, r, rfl, h1⟩ := h
    exact ⟨y, _, rfl, Slots.any e i A r h1 (by simpa using q)⟩
  | some u :: e, i + 1, A, σ, h, q => by
    simp only [Slots] at h ⊢
    obtain ⟨v0, r, B1, B2, rfl, rfl, h1, h2⟩ := h
    exact ⟨v0, _, B1, B2, rfl, rfl, h1, Slots.any e i B2 r h2 (by simpa using q)⟩
theorem SR.any {i : Nat} {x : Option V} (h : SR K F H A σ e) (q : e[i]? = some none) : SR K F H A (σ.set i x) e := let ⟨A', p, s⟩ := h; ⟨A', p, Slots.any e i A' σ s q⟩
/-- a frozen slot set to nothing -/
theorem SR.drop {i : Nat} (h : SR K F H A σ e) (q : fzOk e i = true) : SR K F H A (σ.set i none) (e.set i none) := by
  unfold fzOk at q
  split at q
  · rename_i d hd
    obtain ⟨v, A1, A2, h1, p, h3, h4⟩ := h.take hd
    simp only [OT] at h3
    obtain ⟨rfl, _⟩ := h3
    refine (h4.perm (by simpa using p.symm)).any ?_
    rw [List.getElem?_set_self (List.getElem?_eq_some_iff.mp hd).1]
  · rename_i hd
    rw [set_same hd]
    exact h.any hd
  · cases q
theorem wipeE_length : ∀ (vs : List Nat), (wipeE e vs).length = e.length
  | [] => rfl
  | v :: vs => by rw [wipeE, List.length_set, wipeE_length vs]
theorem wipeE_get {i : Nat} : ∀ {vs : List Nat}, i ∉ vs → (wipeE e vs)[i]? = e[i]?
  | [], _ => rfl
  | v :: vs, h => by
    simp only [List.mem_cons, not_or] at h
    rw [wipeE, List.getElem?_set_ne (Ne.symm h.1), wipeE_get h.2]
theorem wipeE_in {i : Nat} : ∀ {vs : List Nat}, i ∈ vs → i < e.length → (wipeE e vs)[i]? = some none
  | [], h, _ => by cases h
  | v :: vs, h, hl => by
    rw [wipeE]
    by_cases q : v = i
    · subst q
      rw [List.getElem?_set_self (by rw [wipeE_length]; exact hl)]
    · rw [List.getElem?_set_ne q]
      rcases List.mem_cons.mp h with z | z
      · exact absurd z.symm q
      · exact wipeE_in z hl
theorem fzOk_wipe {i : Nat} {vs : List Nat} (h : fzOk e i = true) : fzOk (wipeE e vs) i = true := by
  by_cases q : i ∈ vs
  · have hl : i < e.length := by
      unfold fzOk at h
      split at h
      · rename_i z; exact (List.getElem?_eq_some_iff.mp z).1
      · rename_i z; exact (List.getElem?_eq_some_iff.mp z).1
      · cases h
    unfold fzOk
    rw [wipeE_in q hl]
  · unfold fzOk at h ⊢
    rw [wipeE_get q]; exact h
theorem SR.wipe (h : SR K F H A σ e) : ∀ (vs : List Nat), (∀ i ∈ vs, fzOk e i = true) → SR K F H A (L2.wipe σ vs) (wipeE e vs)
  | [], _ => h
  | v :: vs, q => (h.wipe vs fun i hi => q i (List.mem_cons_of_mem _ hi)).drop (fzOk_wipe (q v List.mem_cons_self))
/-- .. and laid back -/
theorem SR.rest {o : Fw.Env} (ho : SR K F1 H1 A1 σ o) (sb : Sub F1 F) : ∀ (vs : List Nat) (c : Fw.Env), vs.Nodup → (∀ i ∈ vs, fzOk o i = true) → (∀ i ∈ vs, c[i]? = some none) → SR K F H A (L2.wipe σ vs) c → SR K F H A σ (restE o vs c)
  | [], c, _, _, _, h => h
  | i :: vs, c, nd, q, z, h => by
    obtain ⟨n1, n2⟩ := List.nodup_cons.mp nd
    have e1 : (L2.wipe σ vs)[i]? = σ[i]? := wipe_out n1
    have hz := z i List.mem_cons_self
    have key : SR K F H A (L2.wipe σ vs) (c.set i (fzS o i)) := by
      have q1 := q i List.mem_cons_self
      unfold fzOk at q1
      unfold L2.wipe at h
      split at q1
      · rename_i d hd
        obtain ⟨v, hv, hr⟩ := ho.fzv hd
        have f : fzS o i = some (.fz d) := by unfold fzS; rw [hd]
        rw [f]
        have s := h.put (v := v) (A1 := []) (t := .fz d) (by simp only [OT]; exact ⟨trivial, Rep.mono sb _ _ hr⟩) hz
        rw [List.set_set, set_same (e1.trans hv), List.append_nil] at s
        exact s
      · rename_i hd
        have f : fzS o i = none := by unfold fzS; rw [hd]
        rw [f, set_same hz]
        cases hx : σ[i]? with
        | none =>
          have : (L2.wipe σ vs).set i none = L2.wipe σ vs := by
            apply List.set_eq_of_length_le
            rw [wipe_length]
            exact List.getElem?_eq_none_iff.mp hx
          rw [this] at h
          exact h
        | some x =>
          have s := h.any (x := x) hz
          rw [List.set_set, set_same (e1.trans hx)] at s
          exact s
      · cases q1
    refine SR.rest ho sb vs _ n2 (fun j hj => q j (List.mem_cons_of_mem _ hj)) (fun j hj => ?_) key
    rw [List.getElem?_set_ne fun (x : i = j) => n1 (x ▸ hj)]
    exact z j (List.mem_cons_of_mem _ hj)
theorem wipe_kept : ∀ {vs : List Nat} {σ σ2 : L2.St}, Kept vs (L2.wipe σ vs) σ2 → L2.wipe σ2 vs = L2.wipe σ vs := fun {vs σ σ2} k => by
  have hl : σ.length = σ2.length := by rw [k.2, wipe_length]
  apply List.ext_getElem?
  intro i
  by_cases hi : i ∈ vs
  · have g : ∀ (τ : L2.St), i < τ.length → (L2.wipe τ vs)[i]? = some none := fun τ hτ => by
      clear k hl
      induction vs with
      | nil => cases hi
      | cons v vs ih =>
        unfold L2.wipe
        by_cases q : v = i
        · subst q
          rw [List.getElem?_set_self (by rw [wipe_length]; exact hτ)]
        · rw [List.getElem?_set_ne q]
          rcases List.mem_cons.mp hi with z | z
          · exact absurd z.symm q
          · exact ih z
    by_cases hl2 : i < σ.length
    · rw [g σ hl2, g σ2 (by omega)]
    · rw [List.getElem?_eq_none (by rw [wipe_length]; omega), List.getElem?_eq_none (by rw [wipe_length]; omega)]
  · rw [wipe_out hi, k.1 i hi]
theorem ots_app : ∀ (ts : List T) (A : List Addr) (xs : List V) {us : List T} {B : List Addr} {ys : List V}, OTs K F H A xs ts → OTs K F H B ys us → OTs K F H (A ++ B) (xs ++ ys) (ts ++ us)
  | [], A, xs, us, B, ys, h, h2 => by
    simp only [OTs] at h
    obtain ⟨rfl, rfl⟩ := h
    exact h2
  | t :: ts, A, xs, us, B, ys, h, h2 => by
    simp only [OTs] at h
    obtain ⟨C1, C2, x, r, rfl, rfl, h3, h4⟩ := h
    simp only [List.cons_append, OTs]
    exact ⟨C1, C2 ++ B, x, r ++ ys, by rw [List.append_assoc], rfl, h3, ots_app ts C2 r h4 h2⟩
theorem ots_one {t : T} {x : V} (h : OT K F H A x t) : OTs K F H A [x] [t] := by
  simp only [OTs]
  exact ⟨A, [], x, [], by simp, rfl, h, rfl, rfl⟩
end
def loopC (vs : List Nat) (g : G) (c : M Bool) (el : M T) : List D → List T → M (List T)
  | [], acc, e => some (acc, e)
  | d :: ds, acc, e => match g (.fz d) (wipeE e vs) with
    | none => none
    | some e1 => match c e1 with
      | some (true, e2) => (match el e2 with
        | some (t, e3) => if acc.length < sizeLine ∧ vs.all (fzOk e3) = true then loopC vs g c el ds (acc ++ [t]) e3 else none
        | none => none)
      | some (false, e2) => if vs.all (fzOk e2) = true then loopC vs g c el ds acc e2 else none
      | none => none
def mLc (vs : List Nat) (m : M (List D)) (g : G) (c : M Bool) (el : M T) : M T := fun e => match m e with
  | some (ds, e1) => if vs.all (fzOk e1) = true then (match loopC vs g c el ds [] e1 with
    | some (acc, e2) => some (.lst acc, restE e1 vs (wipeE e2 vs))
    | none => none) else none
  | none => none
def JPT (X : Cx) (ifs : List Expr) (c : M Bool) : Prop := PTs X ifs (rdT X.K c)
section
variable {X : Cx} {W : List Nat} {K : PySem.W.Frag} {a b c tg elt iter : Expr} {es ifs : List Expr} {pos p : Pos}
theorem pts_imp {X : Cx} {ifs : List Expr} {t t' : TT} (h : PTs X ifs t) (i : ∀ σ H Q, t' σ H Q → t σ H Q) : PTs X ifs t' := ⟨fun pins s σ H Q I q => h.run pins s σ H Q I (i σ H Q q)⟩
theorem jpt_nil : JPT X [] (mRet true) := pts_imp pts_nil fun σ H Q q => by
  obtain ⟨F, A, e, s, w, k, e', hm, q⟩ := q
  obtain ⟨rfl, rfl⟩ := mRet_some hm
  exact q F A H s w Ext.refl
theorem jpt_one {c : Expr} {m : M Bool} (h : JT X c m) : JPT X [c] m := pts_one h
theorem wf_sub {F H : Hp} {A B C : List Addr} (w : Wf F A H) (h : B.Sublist A) : Wf F B H := ⟨w.sub, w.nd.sublist h, fun a ha => w.off a (h.subset ha), fun a ha => w.dom a (h.subset ha)⟩
/-- the loop of a comprehension, from a list that stands so far -/
theorem comp_loop {vs : List Nat} {g : G} {mc : M Bool} {el : M T} {σ : L2.St} {F1 F2 : Hp} {J : It} {ds : List D} {D : Addr} {accN : List T} {eN : Fw.Env} {Qd : Hp → Prop} (it : ItOk K F1 J ds)
    {H2 : Hp} {A2 B2 : List Addr} {e2 : Fw.Env} {acc : List T} {xs : List V} (s2 : SR K F2 H2 A2 (L2.wipe σ vs) (wipeE e2 vs)) (hd2 : H2 D = some (.lst xs)) (o2 : OTs K F2 H2 B2 xs acc) (w2 : Wf F2 (A2 ++ D :: B2) H2) (sb : Sub F1 F2) (hlen : ∀ i ∈ vs, i < e2.length) (h2 : loopC vs g mc el ds acc e2 = some (accN, eN))
    (q : ∀ F' A' B' xs' H', SR K F' H' A' (L2.wipe σ vs) (wipeE eN vs) → H' D = some (.lst xs') → OTs K F' H' B' xs' accN → Wf F' (A' ++ D :: B') H' → Ext F2 (A2 ++ D :: B2) H2 F' (A' ++ D :: B') H' → (∀ i ∈ vs, i < eN.length) → Qd H') :
    ∃ W : Nat → Nat → Hp → Prop, (∃ m, W 0 m H2) ∧ ∀ i m H, W i m H →
      (J.stop i H ∧ Qd H) ∨ (J.go i H ∧ ∃ Nx : Hp → Prop, (∀ H', Nx H' → ∃ m', m' < m ∧ W (i + 1) m' H') ∧ ∀ x H', J.yld i H x H' → rdG K vs g x (L2.wipe σ vs) H' fun σ2 H2 => L2.wipe σ2 vs = L2.wipe σ vs ∧ rdT K mc σ2 H2 fun b H3 =>
        if b = true then rdE K el σ2 H3 fun y H4 => ∃ acc, H4 D = some (.lst acc) ∧ acc.length < sizeLine ∧ Nx (upd H4 D (.lst (acc ++ [y]))) else Nx H3) := by
  refine ⟨fun i n H5 => n = ds.length - i ∧ i ≤ ds.length ∧ ∃ F5 A5 B5 e5 acc xs, SR K F5 H5 A5 (L2.wipe σ vs) (wipeE e5 vs) ∧ H5 D = some (.lst xs) ∧ OTs K F5 H5 B5 xs acc ∧ Wf F5 (A5 ++ D :: B5) H5 ∧ Ext F2 (A2 ++ D :: B2) H2 F5 (A5 ++ D :: B5) H5 ∧ Sub F1 F5 ∧ (∀ i ∈ vs, i < e5.length) ∧ loopC vs g mc el (ds.drop i) acc e5 = some (accN, eN), ⟨ds.length, by simp, Nat.zero_le _, F2, A2, B2, e2, acc, xs, s2, hd2, o2, w2, Ext.refl, sb, hlen, by simpa using h2⟩, ?_⟩
  clear s2 hd2 o2 hlen h2 sb
  rintro i n H0 ⟨rfl, hi, F0, A0, B0, e0, acc, xs, s2, hd2, o2, w2', x2, sb, hlen, h3⟩
  by_cases hlt : i < ds.length
  · refine .inr ⟨it.go F0 H0 sb w2'.sub i hlt, fun H3 => ∃ F3 A3 B3 e3 acc xs, SR K F3 H3 A3 (L2.wipe σ vs) (wipeE e3 vs) ∧ H3 D = some (.lst xs) ∧ OTs K F3 H3 B3 xs acc ∧ Wf F3 (A3 ++ D :: B3) H3 ∧ Ext F2 (A2 ++ D :: B2) H2 F3 (A3 ++ D :: B3) H3 ∧ Sub F1 F3 ∧ (∀ i ∈ vs, i < e3.length) ∧ loopC vs g mc el (ds.drop (i + 1)) acc e3 = some (accN, eN), fun H3 h => ⟨ds.length - (i + 1), by omega, rfl, hlt, h⟩, fun x H3 y => ?_⟩
    obtain ⟨F3, g3, r3⟩ := it.yld F0 _ H0 sb w2' i x H3 ds[i] (by simp [hlt]) y
    rw [List.drop_eq_getElem_cons hlt] at h3
    unfold loopC at h3
    split at h3
    case h_1 => cases h3
    rename_i e3 h4
    have w3 := g3.wf w2'
    have x3 := x2.trans (g3.ext (A := A0 ++ D :: B0))
    have s3 := g3.sr w2'.left s2
    have o3 : OTs K F3 H3 B0 xs acc := o2.frame (A1 := []) (B := B0) (by simpa using wf_sub (C := []) w2'.right (List.sublist_cons_self D B0)) g3.x
    have hd3 : H3 D = some (.lst xs) := g3.x.fr D _ hd2 (by simp)
    refine ⟨F3, A0, [], wipeE e0 vs, .fz ds[i], s3, by simp only [OT]; exact ⟨trivial, r3⟩, w3.left.nil, e3, h4, fun F4 A4 σ4 H4 s4 w4 x4 k4 => ?_⟩
    simp only [List.append_nil] at x4
    refine ⟨wipe_kept k4, ?_⟩
    have w4f := Wf.frame w3 x4 w4
    have x4f := x3.trans (x4.frame (B := D :: B0))
    have hd4 : H4 D = some (.lst xs) := x4.fr D _ hd3 fun z => w3.disj z (by simp)
    have o4 : OTs K F4 H4 B0 xs acc := o3.frame (A1 := A0) (wf_sub (C := []) w3 (by simp)) x4
    have sb4 : Sub F1 F4 := fun b o h => x4.fz _ _ (g3.x.fz _ _ (sb b o h))
    have hw4 : ∀ i ∈ vs, i < e3.length := fun i hi => by
      rw [← s4.len, k4.2, wipe_length]
      have := s3.len
      rw [wipe_length, wipeE_length] at this
      rw [this]; exact hlen i hi
    cases hc : mc e3 with
    | none => rw [hc] at h3; cases h3
    | some r =>
    obtain ⟨bb, e4⟩ := r
    rw [hc] at h3
    refine ⟨F4, A4, e3, s4, w4, bb, e4, hc, fun F5 A5 H5 s5 w5 x5 => ?_⟩
    have w5f := Wf.frame w4f x5 w5
    have x5f := x4f.trans (x5.frame (B := D :: B0))
    have hd5 : H5 D = some (.lst xs) := x5.fr D _ hd4 fun z => w4f.disj z (by simp)
    have o5 : OTs K F5 H5 B0 xs acc := o4.frame (wf_sub (C := []) w4f (by simp)) x5
    have sb5 : Sub F1 F5 := fun b o h => x5.fz _ _ (sb4 b o h)
    have hl45 : e4.length = e3.length := by rw [← s5.len, s4.len]
    cases bb with
    | false =>
      refine iteF ?_
      simp only at h3
      split at h3
      case isFalse => cases h3
      rename_i hv4
      refine ⟨F5, A5, B0, e4, acc, xs, ?_, hd5, o5, w5f, x5f, sb5, fun i hi => by rw [hl45]; exact hw4 i hi, h3⟩
      have := s5.wipe vs fun i hi => List.all_eq_true.mp hv4 i hi
      rw [wipe_kept k4] at this
      exact this
    | true =>
      refine iteT ?_
      simp only at h3
      split at h3
      case h_2 => cases h3
      rename_i t e5 h5
      split at h3
      case isFalse => cases h3
      rename_i hz
      refine ⟨F5, A5, e4, s5, w5, t, e5, h5, fun F6 A6 B6 v H6 s6 r6 w6 x6 => ?_⟩
      have w6f := Wf.frame (B := D :: B0) w5f x6 w6
      have x6f := x5f.trans (x6.frame (B := D :: B0))
      have hd6 : H6 D = some (.lst xs) := x6.fr D _ hd5 fun z => w5f.disj z (by simp)
      have o6 : OTs K F6 H6 B0 xs acc := o5.frame (wf_sub (C := []) w5f (by simp)) x6
      have hxs : xs.length = acc.length := OTs.length _ _ _ o2
      refine ⟨xs, hd6, by rw [hxs]; exact hz.1, ?_⟩
      have hp : ((A6 ++ B6) ++ D :: B0).Perm (A6 ++ D :: (B0 ++ B6)) := by
        rw [List.append_assoc]
        refine List.Perm.append_left A6 ?_
        exact (List.perm_append_comm (l₁ := B6) (l₂ := D :: B0))
      have w7 := w6f.perm hp
      have hDin : D ∈ A6 ++ D :: (B0 ++ B6) := by simp
      have w8 : Wf F6 (A6 ++ D :: (B0 ++ B6)) (upd H6 D (.lst (xs ++ [v]))) := w7.write hDin
      have nD : ∀ b ∈ B0 ++ B6, b ≠ D := fun b hb z => by
        subst z
        exact (List.nodup_cons.mp w7.right.nd).1 hb
      have nA : ∀ b ∈ A6, b ≠ D := fun b hb z => by
        subst z
        exact w7.disj hb (by simp)
      refine ⟨F6, A6, B0 ++ B6, e5, acc ++ [t], xs ++ [v], ?_, upd_same, ?_, w8, (x6f.mem (fun _ h => h) fun b hb => hp.mem_iff.mpr hb).trans (Ext.write hDin), fun b o h => x6.fz _ _ (sb5 b o h), fun i hi => ?_, h3⟩
      · have z := s6.wipe vs fun i hi => List.all_eq_true.mp hz.2 i hi
        rw [wipe_kept k4] at z
        obtain ⟨A', pp, zz⟩ := z
        exact ⟨A', pp, zz.mono (fun _ _ h => h) _ _ _ fun b hb => upd_ne (nA b (pp.mem_iff.mp hb))⟩
      · exact (ots_app acc B0 xs o6 (ots_one r6)).mono (fun _ _ h => h) _ _ _ fun b hb => upd_ne (nD b hb)
      · rw [show e5.length = e3.length by rw [← s6.len, s4.len]]; exact hw4 i hi
  · have e0' : i = ds.length := by omega
    subst e0'
    rw [List.drop_length] at h3
    cases h3
    exact .inl ⟨it.stop F0 H0 sb w2'.sub, q F0 A0 B0 xs H0 s2 hd2 o2 w2' x2 hlen⟩
theorem fz_len {e1 : Fw.Env} {i : Nat} (this : fzOk e1 i = true) : i < e1.length := by
  unfold fzOk at this
  split at this
  · rename_i z; exact (List.getElem?_eq_some_iff.mp z).1
  · rename_i z; exact (List.getElem?_eq_some_iff.mp z).1
  · cases this
theorem lc_read {vs : List Nat} (nd : vs.Nodup) {m : M (List D)} {g : G} {mc : M Bool} {el : M T} {σ : L2.St} {H : Hp} {Q : VK} (q : rdE K (mLc vs m g mc el) σ H Q) : tLc (rdI K m) (rdG K vs g) (rdT K mc) (rdE K el) vs σ H Q := by
  obtain ⟨F, A, e, s, w, t, eF, hm, q⟩ := q
  unfold mLc at hm
  split at hm
  case h_2 => cases hm
  rename_i ds e1 h1
  split at hm
  case isFalse => cases hm
  rename_i hv
  split at hm
  case h_2 => cases hm
  rename_i accN eN h2
  cases hm
  have hv1 : ∀ i ∈ vs, fzOk e1 i = true := fun i hi => List.all_eq_true.mp hv i hi
  refine ⟨F, A, e, s, w, ds, e1, h1, fun F1 A1 J H1 s1 w1 x1 it D hD => ?_⟩
  refine comp_loop it (newO_sr w1 hD (s1.wipe vs hv1)) upd_same (by simp [OTs] : OTs K F1 _ [] [] []) (Wf.newO w1 hD) (fun _ _ h => h) (fun i hi => fz_len (hv1 i hi)) h2 fun F2 A2 B2 xs H2 s2 hd2 o2 w2 x2 hlen => ?_
  refine q F2 A2 (D :: B2) (.ref D) H2 ?_ ?_ w2 ((x1.trans (Ext.newO hD)).trans x2)
  · exact s1.rest (fun b o h => x2.fz _ _ h) vs _ nd hv1 (fun i hi => wipeE_in hi (hlen i hi)) s2
  · simp only [OT]
    exact ⟨D, B2, xs, rfl, rfl, hd2, o2⟩
theorem je_lc {scope : Scope} {own : List (Str × Nat)} {m : M (List D)} {g : G} {mc : M Bool} {el : M T} (hc : X.calm = true) (hN : X.N.Nodup) (hi : JI X tg iter m) (ok : BlkOk X.N X.env.scope scope own) 
    (hg : ∀ (s : Shared) (H : Hp) (C : Addr) (cl : List (Str × Addr)) (fp : List Addr), JG (X.blk s H scope (compEnvC scope cl C X.env) fp) (own.map (·.2)) tg g) (ht : ∀ (s : Shared) (H : Hp) (C : Addr) (cl : List (Str × Addr)) (fp : List Addr), JPT (X.blk s H scope (compEnvC scope cl C X.env) fp) ifs mc)
    (he : ∀ (s : Shared) (H : Hp) (C : Addr) (cl : List (Str × Addr)) (fp : List Addr), JE (X.blk s H scope (compEnvC scope cl C X.env) fp) elt el) (nd : (own.map (·.2)).Nodup := by decide) (hs : ∀ x, foldedSetIterable iter X.env x = pure x := by intro _; rfl) :
    JE X (.ListComp elt [⟨tg, iter, ifs, 0⟩] scope pos) (mLc (own.map (·.2)) m g mc el) :=
  pe_imp (pe_lc (own := own) (g := rdG X.K (own.map fun (p : Str × Nat) => p.2) g) (tt := rdT X.K mc) (te := rdE X.K el) hc hN hi ok hg ht he hs) fun σ H Q q => lc_read nd q
/-- name = [..] -/
theorem js_setLc {i : Nat} {y : Str} {py spos : Pos} {scope : Scope} {own : List (Str × Nat)} {m : M (List D)} {g : G} {mc : M Bool} {el : M T} (hc : X.calm = true) (hN : X.N.Nodup) (hi : JI X tg iter m) (ok : BlkOk X.N X.env.scope scope own)
    (hg : ∀ (s : Shared) (H : Hp) (C : Addr) (cl : List (Str × Addr)) (fp : List Addr), JG (X.blk s H scope (compEnvC scope cl C X.env) fp) (own.map (·.2)) tg g) (ht : ∀ (s : Shared) (H : Hp) (C : Addr) (cl : List (Str × Addr)) (fp : List Addr), JPT (X.blk s H scope (compEnvC scope cl C X.env) fp) ifs mc)
    (he : ∀ (s : Shared) (H : Hp) (C : Addr) (cl : List (Str × Addr)) (fp : List Addr), JE (X.blk s H scope (compEnvC scope cl C X.env) fp) elt el) (nd : (own.map (·.2)).Nodup := by decide)
    (hy : X.N[i]? = some y := by rfl) (hyl : X.env.scope.names.lookup y = some .local := by rfl) (hwm : i ∈ W := by decide)
    (hsw : swapsWith (.ListComp elt [⟨tg, iter, ifs, 0⟩] scope pos) (some (.Name y py)) spos.line X.env = pure true := by exact sw_true rfl rfl rfl (by decide +kernel)) (hs : ∀ x, foldedSetIterable iter X.env x = pure x := by intro _; rfl) :
    JS X W (.Assign [.Name y py] (.ListComp elt [⟨tg, iter, ifs, 0⟩] scope pos) spos) (mAsg (mLc (own.map (·.2)) m g mc el) (gNm i)) := ps_imp (ps_setLc (own := own) (g := rdG X.K (own.map fun (p : Str × Nat) => p.2) g) (tt := rdT X.K mc) (te := rdE X.K el) hc hN hy hyl hsw hi ok hg ht he hs) fun D σ H q => by
  obtain ⟨F, A, e, s, w, fl, e', hm, q⟩ := q
  unfold mAsg at hm
  split at hm
  case h_2 => cases hm
  rename_i t e1 h1
  obtain ⟨e2, h2, h3⟩ := Option.map_eq_some_iff.mp hm
  cases h3
  unfold gNm at h2
  split at h2
  case isFalse => cases h2
  rename_i hi
  cases h2
  refine lc_read nd ⟨F, A, e, s, w, t, e1, h1, fun F1 A1 B1 v H1 s1 r1 w1 x1 => ?_⟩
  obtain ⟨A', s', w', m'⟩ := s1.assign r1 w1 hi
  exact q F1 A' [] _ H1 s' w'.nil (x1.mem (fun _ h => h) (by simpa using m')) (Kept.set hwm) rfl
end
end Fw

/-! Fw9 -/
set_option Elab.async false
set_option linter.all false
set_option maxRecDepth 100000
set_option maxHeartbeats 4000000
namespace Fw
open PySem PySem.Spec PyProof.Rows L2
/-! ### places within owned trees -/
def T.get : List Nat → T → Option T
  | [], t => some t
  | j :: p, .lst ts => (ts[j]?).bind (T.get p)
  | _ :: _, _ => none
def T.put : List Nat → T → T → T
  | [], s, _ => s
  | j :: p, s, .lst ts => (match ts[j]? with
    | some t => .lst (ts.set j (T.put p s t))
    | none => .lst ts)
  | _ :: _, _, t => t
def AtP (H : Hp) : V → List Nat → V → Prop
  | v, [], u => u = v
  | v, j :: p, u => ∃ a xs x, v = .ref a ∧ H a = some (.lst xs) ∧ xs[j]? = some x ∧ AtP H x p u
section
variable {K : PySem.W.Frag} {F F' F1 F2 H H' H1 H2 : Hp} {A A' A1 A2 B C : List Addr} {σ σ' : L2.St} {e e' : Fw.Env}
theorem AtP.fn : ∀ {p : List Nat} {v u u' : V}, AtP H v p u → AtP H v p u' → u = u'
  | [], v, u, u', h, h' => by rw [AtP] at h h'; rw [h, h']
  | j :: p, v, u, u', h, h' => by
    simp only [AtP] at h h'
    obtain ⟨a, xs, x, rfl, h1, h2, h3⟩ := h
    obtain ⟨a', xs', x', q, h4, h5, h6⟩ := h'
    cases q
    rw [h1] at h4
    cases h4
    rw [h2] at h5
    cases h5
    exact AtP.fn h3 h6
theorem AtP.snoc {j : Nat} {a : Addr} {xs : List V} {x : V} (h1 : H a = some (.lst xs)) (h2 : xs[j]? = some x) : ∀ {p : List Nat} {v : V}, AtP H v p (.ref a) → AtP H v (p ++ [j]) x
  | [], v, h => by
    rw [AtP] at h
    subst h
    exact ⟨a, xs, x, rfl, h1, h2, rfl⟩
  | i :: p, v, h => by
    simp only [AtP] at h
    obtain ⟨b, ys, y, rfl, h3, h4, h5⟩ := h
    exact ⟨b, ys, y, rfl, h3, h4, AtP.snoc h1 h2 h5⟩
theorem OTs.focus : ∀ (ts : List T) (j : Nat) (t : T) (A : List Addr) (xs : List V), OTs K F H A xs ts → ts[j]? = some t →
    ∃ x C D, xs[j]? = some x ∧ A.Perm (C ++ D) ∧ OT K F H C x t ∧ ∀ F' H' C' t', Sub F F' → (∀ b ∈ D, H' b = H b) → OT K F' H' C' x t' → ∃ A', A'.Perm (C' ++ D) ∧ OTs K F' H' A' xs (ts.set j t')
  | [], j, t, A, xs, _, q => by simp at q
  | u :: ts, 0, t, A, xs, h, q => by
    simp only [OTs] at h
    obtain ⟨A1, A2, x, r, rfl, rfl, h1, h2⟩ := h
    simp at q
    subst q
    refine ⟨x, A1, A2, rfl, List.Perm.refl _, h1, fun F' H' C' t' sb hD ht => ⟨C' ++ A2, List.Perm.refl _, ?_⟩⟩
    simp only [List.set_cons_zero, OTs]
    exact ⟨C', A2, x, r, rfl, rfl, ht, h2.mono sb ts A2 r hD⟩
  | u :: ts, j + 1, t, A, xs, h, q => by
    simp only [OTs] at h
    obtain ⟨A1, A2, x, r, rfl, rfl, h1, h2⟩ := h
    obtain ⟨y, C, D, q1, q2, q3, q4⟩ := OTs.focus ts j t A2 r h2 (by simpa using q)
    refine ⟨y, C, A1 ++ D, by simpa using q1, ?_, q3, fun F' H' C' t' sb hD ht => ?_⟩
    · refine (List.Perm.append_left A1 q2).trans ?_
      rw [← List.append_assoc, ← List.append_assoc]
      exact List.perm_append_comm.append_right D
    · obtain ⟨A', p1, p2⟩ := q4 F' H' C' t' sb (fun b hb => hD b (by simp [hb])) ht
      refine ⟨A1 ++ A', ?_, ?_⟩
      · refine (List.Perm.append_left A1 p1).trans ?_
        rw [← List.append_assoc, ← List.append_assoc]
        exact List.perm_append_comm.append_right D
      · simp only [List.set_cons_succ, OTs]
        exact ⟨A1, A', x, r, rfl, rfl, h1.mono sb u A1 x fun b hb => hD b (by simp [hb]), p2⟩
/-- the part at a path: its value, what it owns; how the whole stands when the part is another one -/
theorem OT.focus : ∀ (p : List Nat) (t s : T) (A : List Addr) (v : V), OT K F H A v t → T.get p t = some s →
    ∃ u C D, (∀ H', (∀ b ∈ A, H' b = H b) → AtP H' v p u) ∧ A.Perm (C ++ D) ∧ OT K F H C u s ∧ ∀ F' H' C' s', Sub F F' → (∀ b ∈ D, H' b = H b) → OT K F' H' C' u s' → ∃ A', A'.Perm (C' ++ D) ∧ OT K F' H' A' v (T.put p s' t)
  | [], t, s, A, v, h, q => by
    simp only [T.get, Option.some.injEq] at q
    subst q
    exact ⟨v, A, [], fun H' _ => rfl, by simp, h, fun F' H' C' s' sb _ hs => ⟨C', by simp, hs⟩⟩
  | j :: p, .lst ts, s, A, v, h, q => by
    simp only [T.get, Option.bind_eq_some_iff] at q
    obtain ⟨t, q1, q2⟩ := q
    simp only [OT] at h
    obtain ⟨a, B, xs, rfl, rfl, h1, h2⟩ := h
    obtain ⟨x, C1, D1, p1, p2, p3, p4⟩ := OTs.focus ts j t B xs h2 q1
    obtain ⟨u, C, D, r1, r2, r3, r4⟩ := OT.focus p t s C1 x p3 q2
    refine ⟨u, C, a :: (D ++ D1), fun H' hH => ⟨a, xs, x, rfl, by rw [hH a (by simp)]; exact h1, p1, r1 H' fun b hb => hH b (List.mem_cons_of_mem _ (p2.mem_iff.mpr (by simp [hb])))⟩, ?_, r3, fun F' H' C' s' sb hD hs => ?_⟩
    · refine (List.Perm.cons a (p2.trans (r2.append_right D1))).trans ?_
      rw [List.append_assoc]
      exact (List.perm_middle (a := a) (l₁ := C) (l₂ := D ++ D1)).symm
    · obtain ⟨A', z1, z2⟩ := r4 F' H' C' s' sb (fun b hb => hD b (by simp [hb])) hs
      obtain ⟨A2, z3, z4⟩ := p4 F' H' A' (T.put p s' t) sb (fun b hb => hD b (by simp [hb])) z2
      refine ⟨a :: A2, ?_, ?_⟩
      · refine (List.Perm.cons a (z3.trans (z1.append_right D1))).trans ?_
        rw [List.append_assoc]
        exact (List.perm_middle (a := a) (l₁ := C') (l₂ := D ++ D1)).symm
      · simp only [T.put, q1, OT]
        exact ⟨a, A2, xs, rfl, rfl, by rw [hD a (by simp)]; exact h1, z4⟩
  | _ :: _, .fz _, s, A, v, h, q => by simp only [T.get, reduceCtorEq] at q
  | _ :: _, .tup _, s, A, v, h, q => by simp only [T.get, reduceCtorEq] at q
  | _ :: _, .obj _ _ _, s, A, v, h, q => by simp only [T.get, reduceCtorEq] at q
end
abbrev Pl := Nat × List Nat
def rdP (K : PySem.W.Frag) (m : M Pl) : TE := fun σ H Q => ∃ F A e, SR K F H A σ e ∧ Wf F A H ∧ ∃ ip e', m e = some (ip, e') ∧
  ∀ F' A' v H', SR K F' H' A' σ e' → Wf F' A' H' → Ext F A H F' A' H' → (∃ v0, σ[ip.1]? = some (some v0) ∧ AtP H' v0 ip.2 v) → Q v H'
def JP (X : Cx) (e : Expr) (m : M Pl) : Prop := PE X e (rdP X.K m)
def pNm (i : Nat) : M Pl := fun e => match e[i]? with
  | some (some _) => some ((i, []), e)
  | _ => none
/-- the tree at a place -/
def treeAt (e : Fw.Env) (ip : Pl) : Option (T × T) := match e[ip.1]? with
  | some (some t) => (T.get ip.2 t).map fun s => (t, s)
  | _ => none
theorem treeAt_some {e : Fw.Env} {ip : Pl} {t s : T} (h : treeAt e ip = some (t, s)) : e[ip.1]? = some (some t) ∧ T.get ip.2 t = some s := by
  unfold treeAt at h
  split at h
  · obtain ⟨s', h1, h2⟩ := Option.map_eq_some_iff.mp h
    cases h2
    exact ⟨by assumption, h1⟩
  · cases h
def intO : D → Option Int
  | .int i => some i
  | _ => none
theorem rep_int {K : PySem.W.Frag} {F : Hp} {v : V} {d : D} {k : Int} (r : Rep K F v d) (h : intO d = some k) : v = .int k := by
  cases d <;> simp [intO] at h
  subst h
  simpa [Rep] using r
/-- the index within a list at a place, the place's tree lent out meanwhile: (the tree, the list, the index, the slots without the tree) -/
def ixAt (pm : M Pl) (mb : M D) (e : Fw.Env) : Option (Pl × T × List T × Nat × Fw.Env) := match pm e with
  | some (ip, e1) => (match treeAt e1 ip with
    | some (t, .lst ts) => (match mb (e1.set ip.1 none) with
      | some (d, e2) => (match intO d, e2[ip.1]? with
        | some k, some none => (ixN ts.length k).map fun j => (ip, t, ts, j, e2)
        | _, _ => none)
      | none => none)
    | _ => none)
  | none => none
section
variable {X : Cx} {W : List Nat} {K : PySem.W.Frag} {F F' F1 F2 H H' H1 H2 : Hp} {A A' A1 A2 B C : List Addr} {σ σ' : L2.St} {e e' : Fw.Env} {a b c tg : Expr} {es : List Expr} {pos p : Pos}
theorem jp_name {i : Nat} (h : PE X a (tVar i)) : JP X a (pNm i) := pe_imp h fun σ H Q q => by
  obtain ⟨F, A, e, s, w, d, e', hm, q⟩ := q
  unfold pNm at hm
  split at hm
  · rename_i t ht
    cases hm
    obtain ⟨v, A1, A2, q1, q2, q3, q4⟩ := s.take ht
    exact ⟨v, q1, q F A v H s w Ext.refl ⟨v, q1, rfl⟩⟩
  · cases hm
/-- a place, then an index in it -/
theorem ix_read {pm : M Pl} {mb : M D} {ip : Pl} {t : T} {ts : List T} {j : Nat} {e2 : Fw.Env} {Q : V → V → Hp → Prop} (s : SR K F H A σ e) (w : Wf F A H) (hm : ixAt pm mb e = some (ip, t, ts, j, e2))
    (q : ∀ F' A' C v0 u k H', SR K F' H' A' σ e2 → e2[ip.1]? = some none → σ[ip.1]? = some (some v0) → OT K F' H' C v0 t → T.get ip.2 t = some (.lst ts) → Wf F' (A' ++ C) H' → Ext F A H F' (A' ++ C) H' → AtP H' v0 ip.2 u → ixN ts.length k = some j → Q u (.int k) H') :
    rdP K pm σ H fun u H1 => rdD K mb σ H1 fun v H2 => Q u v H2 := by
  unfold ixAt at hm
  split at hm
  case h_2 => cases hm
  rename_i ip' e1 h1
  split at hm
  case h_2 => cases hm
  rename_i t' ts' h2
  split at hm
  case h_2 => cases hm
  rename_i d e3 h3
  split at hm
  case h_2 => cases hm
  rename_i k h4 h5
  obtain ⟨j', h6, h7⟩ := Option.map_eq_some_iff.mp hm
  cases h7
  obtain ⟨g1, g2⟩ := treeAt_some h2
  refine ⟨F, A, e, s, w, ip, e1, h1, fun F1 A1 u H1 s1 w1 x1 ⟨v0, hv, hat⟩ => ?_⟩
  obtain ⟨v0', B1, B2, q1, q2, q3, q4⟩ := s1.take g1
  have : v0' = v0 := by rw [q1] at hv; cases hv; rfl
  subst this
  have w1' := w1.perm q2
  obtain ⟨u', C, D, f1, f2, f3, f4⟩ := OT.focus ip.2 t _ B1 v0' q3 g2
  have hu : u = u' := AtP.fn hat (f1 H1 fun _ _ => rfl)
  subst hu
  refine ⟨F1, B2, _, q4, w1'.left, d, e2, h3, fun F2 A2 v H2 s2 r2 w2 x2 => ?_⟩
  have hv := rep_int r2 h4
  subst hv
  have w3 := Wf.frame w1' x2 w2
  refine q F2 A2 B1 v0' u k H2 s2 h5 q1 (q3.frame w1' x2) g2 w3 ((x1.mem (fun _ h => h) fun a ha => q2.mem_iff.mpr ha).trans x2.frame) (f1 H2 fun b hb => ?_) h6
  obtain ⟨o, ho⟩ := w1'.dom b (List.mem_append_right _ hb)
  rw [ho]
  exact x2.fr b o ho fun z => w1'.disj z hb
theorem e_set {ip : Pl} {x : Option T} (h : e[ip.1]? = some none) : (e.set ip.1 x)[ip.1]? = some x := List.getElem?_set_self (List.getElem?_eq_some_iff.mp h).1
def pIx (pm : M Pl) (mb : M D) : M Pl := fun e => match ixAt pm mb e with
  | some (ip, t, ts, j, e2) => if j < ts.length then some ((ip.1, ip.2 ++ [j]), e2.set ip.1 (some t)) else none
  | none => none
theorem ixN_lt {n : Nat} {k : Int} {j : Nat} (h : ixN n k = some j) : j < n := (ixN_seq h).2.1
theorem ot_list {l : Addr} {ts : List T} {v : V} (h : OT K F H A v (.lst ts)) : ∃ l B xs, v = .ref l ∧ A = l :: B ∧ H l = some (.lst xs) ∧ OTs K F H B xs ts ∧ xs.length = ts.length := by
  simp only [OT] at h
  obtain ⟨a, B, xs, h1, h2, h3, h4⟩ := h
  exact ⟨a, B, xs, h1, h2, h3, h4, OTs.length _ _ _ h4⟩
theorem jp_ix {pm : M Pl} {mb : M D} (ha : JP X a pm) (hb : JD X b mb) (hs : PlainIx b := by intro _ _; rfl) : JP X (.Subscript a b pos) (pIx pm mb) := pe_imp (pe_ix ix_list ha hb hs) fun σ H Q q => by
  obtain ⟨F, A, e, s, w, ip', e', hm, q⟩ := q
  unfold pIx at hm
  split at hm
  case h_2 => cases hm
  rename_i ip t ts j e2 h1
  split at hm
  case isFalse => cases hm
  rename_i hj
  cases hm
  refine ix_read s w h1 fun F2 A2 C v0 u k H2 s2 z hv ot hg w2 x2 hat hk => ?_
  obtain ⟨u', C1, D, f1, f2, f3, f4⟩ := OT.focus ip.2 t _ C v0 ot hg
  have hu : u = u' := AtP.fn hat (f1 H2 fun _ _ => rfl)
  subst hu
  obtain ⟨l, B, xs, rfl, rfl, h3, h4, h5⟩ := ot_list (l := 0) f3
  have hx : xs[j]? = some (xs[j]'(by omega)) := by simp
  refine ⟨l, xs, k, _, rfl, rfl, SqL.of h3, by unfold atI; rw [h5, hk]; exact hx, ?_⟩
  refine q F2 (A2 ++ C) _ H2 ?_ w2 x2 ⟨v0, hv, AtP.snoc h3 hx hat⟩
  exact s2.back ot z hv
/-- what stands at a place, as frozen data -/
def mPl (pm : M Pl) : M D := fun e => match pm e with
  | some (ip, e1) => (match treeAt e1 ip with
    | some (_, .fz d) => some (d, e1)
    | some (t, s) => some (s.d, e1.set ip.1 (some (T.put ip.2 (.fz s.d) t)))
    | none => none)
  | none => none
theorem pl_fz {t : T} {ip : Pl} {e1 : Fw.Env} {v : V} {s0 : T} (s1 : SR K F H A σ e1) (w1 : Wf F A H) (g1 : e1[ip.1]? = some (some t)) (g2 : T.get ip.2 t = some s0) (hat : ∃ v0, σ[ip.1]? = some (some v0) ∧ AtP H v0 ip.2 v) :
    ∃ F' A', SR K F' H A' σ (e1.set ip.1 (some (T.put ip.2 (.fz s0.d) t))) ∧ Rep K F' v s0.d ∧ Wf F' A' H ∧ Ext F A H F' A' H := by
  obtain ⟨v0, hv, hat⟩ := hat
  obtain ⟨v0', B1, B2, q1, q2, q3, q4⟩ := s1.take g1
  have : v0' = v0 := by rw [q1] at hv; cases hv; rfl
  subst this
  have w1' := w1.perm q2
  obtain ⟨u', C, D, f1, f2, f3, f4⟩ := OT.focus ip.2 t _ B1 v0' q3 g2
  have hu : v = u' := AtP.fn hat (f1 H fun _ _ => rfl)
  subst hu
  have w2 : Wf F ((B2 ++ D) ++ C) H := w1'.perm (by
    refine (List.Perm.append_left B2 f2).trans ?_
    rw [List.append_assoc]
    exact List.Perm.append_left B2 List.perm_append_comm)
  have r := OT.freeze _ C v f3 (frzH F H C) (frz_sub w2.right.off) fun a ha => frz_in ha
  obtain ⟨A', p1, p2⟩ := f4 (frzH F H C) H [] (.fz s0.d) (frz_sub w2.right.off) (fun _ _ => rfl) (by simp only [OT]; exact ⟨trivial, r⟩)
  refine ⟨frzH F H C, B2 ++ D, ?_, r, w2.freeze, (Ext.freeze w2).mem (fun a ha => ?_) fun _ h => h⟩
  · have z := (q4.sub (frz_sub w2.right.off)).back p2 (by rw [List.getElem?_set_self (List.getElem?_eq_some_iff.mp g1).1]) q1
    rw [List.set_set] at z
    exact z.perm (List.Perm.append_left B2 (by simpa using p1))
  · refine q2.mem_iff.mpr ?_
    simp only [List.mem_append] at ha ⊢
    rcases ha with (h | h) | h
    · exact .inl h
    · exact .inr (f2.mem_iff.mpr (by simp [h]))
    · exact .inr (f2.mem_iff.mpr (by simp [h]))
theorem jd_pl {pm : M Pl} (h : JP X a pm) : JD X a (mPl pm) := pe_imp h fun σ H Q q => by
  obtain ⟨F, A, e, s, w, d, e', hm, q⟩ := q
  unfold mPl at hm
  split at hm
  case h_2 => cases hm
  rename_i ip e1 h1
  refine ⟨F, A, e, s, w, ip, e1, h1, fun F1 A1 v H1 s1 w1 x1 hat => ?_⟩
  split at hm
  · rename_i t d' h2
    cases hm
    obtain ⟨g1, g2⟩ := treeAt_some h2
    obtain ⟨v0, hv, hat⟩ := hat
    obtain ⟨v0', B1, B2, q1, q2, q3, q4⟩ := s1.take g1
    have : v0' = v0 := by rw [q1] at hv; cases hv; rfl
    subst this
    obtain ⟨u', C, D, f1, f2, f3, f4⟩ := OT.focus ip.2 t _ B1 v0' q3 g2
    have hu : v = u' := AtP.fn hat (f1 H1 fun _ _ => rfl)
    subst hu
    simp only [OT] at f3
    exact q F1 A1 v H1 s1 f3.2 w1 x1
  · rename_i t s0 _ h2
    cases hm
    obtain ⟨g1, g2⟩ := treeAt_some h2
    obtain ⟨F2, A2, s2, r2, w2, x2⟩ := pl_fz s1 w1 g1 g2 hat
    exact q F2 A2 v H1 s2 r2 w2 (x1.trans x2)
  · cases hm
/-- len of what stands at a place -/
def mLenP (pm : M Pl) : M D := fun e => match pm e with
  | some (ip, e1) => (match treeAt e1 ip with
    | some (_, .lst ts) => some (.int ts.length, e1)
    | _ => none)
  | none => none
theorem jd_lenP {pm : M Pl} (hm : X.mg "len" = none) (ha : JP X a pm) (hg : Gl X "len" := by rfl)
    (he : starEach [a] X.env = (false, eval a X.env) :: starEach [] X.env := by rfl) (hpl : (backTo pos (starEach [] X.env)).any (·.1) = false := by rfl) : JD X (.Call (.Name "len" p) [a] [] pos) (mLenP pm) :=
  pe_imp (pe_callB call_len_seq hg hm (by decide +kernel) (pa_cons ha pa_nil he) (by decide) (by decide) he hpl) fun σ H Q q => by
  obtain ⟨F, A, e, s, w, d, e', hm, q⟩ := q
  unfold mLenP at hm
  split at hm
  case h_2 => cases hm
  rename_i ip e1 h1
  refine ⟨F, A, e, s, w, ip, e1, h1, fun F1 A1 v H1 s1 w1 x1 hat => ?_⟩
  split at hm
  case h_2 => cases hm
  rename_i t ts h2
  cases hm
  obtain ⟨g1, g2⟩ := treeAt_some h2
  obtain ⟨v0, hv, hat⟩ := hat
  obtain ⟨v0', B1, B2, q1, q2, q3, q4⟩ := s1.take g1
  have : v0' = v0 := by rw [q1] at hv; cases hv; rfl
  subst this
  obtain ⟨u', C, D, f1, f2, f3, f4⟩ := OT.focus ip.2 t _ B1 v0' q3 g2
  have hu : v = u' := AtP.fn hat (f1 H1 fun _ _ => rfl)
  subst hu
  obtain ⟨l, B, xs, rfl, rfl, h3, h4, h5⟩ := ot_list (l := 0) f3
  exact ⟨l, xs, rfl, .inl (SqL.of h3), q F1 A1 _ H1 s1 (by simp only [Rep]; rw [h5]) w1 x1⟩
/-- the list at a place is written: what stands then -/
theorem pl_write {t : T} {ts us : List T} {i : Nat} {pth : List Nat} {e2 : Fw.Env} {v0 : V} {C B : List Addr} {ys : List V} {l : Addr} (P : List Addr → Prop) (s2 : SR K F H A σ e2) (z : e2[i]? = some none) (hv : σ[i]? = some (some v0)) (ot : OT K F H C v0 t) (hg : T.get pth t = some (.lst ts)) (w : Wf F (A ++ C ++ B) H) (hat : AtP H v0 pth (.ref l))
    (hu : ∀ B0 xs, H l = some (.lst xs) → OTs K F H B0 xs ts → ∃ B1 B', OTs K F H B1 ys us ∧ (B0 ++ B).Perm (B1 ++ B') ∧ P B') :
    ∃ A' B', P B' ∧ SR K F (upd H l (.lst ys)) A' σ (e2.set i (some (T.put pth (.lst us) t))) ∧ Wf F (A' ++ B') (upd H l (.lst ys)) ∧ (A ++ C ++ B).Perm (A' ++ B') ∧ l ∈ A ++ C ++ B ∧ l ∉ B' := by
  obtain ⟨u', C1, D, f1, f2, f3, f4⟩ := OT.focus pth t _ C v0 ot hg
  have hu' : V.ref l = u' := AtP.fn hat (f1 H fun _ _ => rfl)
  subst hu'
  obtain ⟨l', B0, xs, h1, rfl, h3, h4, h5⟩ := ot_list (l := 0) f3
  cases h1
  obtain ⟨B1, B', o1, p1, hP⟩ := hu B0 xs h3 h4
  have perm : (A ++ C ++ B).Perm ((A ++ (l :: (B1 ++ D))) ++ B') := by
    rw [List.append_assoc, List.append_assoc]
    refine List.Perm.append_left A ?_
    refine (f2.append_right B).trans ?_
    simp only [List.cons_append, List.append_assoc]
    refine List.Perm.cons l ?_
    refine (List.Perm.append_left B0 (List.perm_append_comm (l₁ := D) (l₂ := B))).trans ?_
    rw [← List.append_assoc]
    refine (p1.append_right D).trans ?_
    rw [List.append_assoc]
    exact List.Perm.append_left B1 List.perm_append_comm
  have w1 := w.perm perm
  have nd := w1.nd
  have hne : ∀ b, b ∈ A ∨ b ∈ B1 ∨ b ∈ D ∨ b ∈ B' → b ≠ l := fun b hb e => by
    subst e
    rw [List.append_assoc, List.nodup_append] at nd
    obtain ⟨_, h2, h3⟩ := nd
    simp only [List.cons_append, List.nodup_cons, List.mem_append] at h2
    rcases hb with hb | hb | hb | hb
    · exact h3 b hb b (by simp) rfl
    · exact h2.1 (.inl (.inl hb))
    · exact h2.1 (.inl (.inr hb))
    · exact h2.1 (.inr hb)
  have o2 : OT K F (upd H l (.lst ys)) (l :: B1) (.ref l) (.lst us) := by
    simp only [OT]
    exact ⟨l, B1, ys, rfl, rfl, upd_same, o1.mono (fun _ _ h => h) _ _ _ fun b hb => upd_ne (hne b (.inr (.inl hb)))⟩
  obtain ⟨A', q1, q2⟩ := f4 F (upd H l (.lst ys)) (l :: B1) (.lst us) (fun _ _ h => h) (fun b hb => upd_ne (hne b (.inr (.inr (.inl hb))))) o2
  have s3 : SR K F (upd H l (.lst ys)) A σ e2 := by
    obtain ⟨A0, pp, zz⟩ := s2
    exact ⟨A0, pp, zz.mono (fun _ _ h => h) _ _ _ fun b hb => upd_ne (hne b (.inl (pp.mem_iff.mp hb)))⟩
  have s4 := s3.back q2 z hv
  have perm2 : (A ++ C ++ B).Perm ((A ++ A') ++ B') := perm.trans ((List.Perm.append_left A q1.symm).append_right B')
  have lin : l ∈ A ++ C ++ B := perm.mem_iff.mpr (by simp)
  exact ⟨A ++ A', B', hP, s4, (w.write lin).perm perm2, perm2, lin, fun h => hne l (.inr (.inr (.inr h))) rfl⟩
/-- o[i] = v -/
def gIx (pm : M Pl) (mb : M D) : G := fun v e => match ixAt pm mb e with
  | some (ip, t, ts, j, e2) => if j < ts.length then some (e2.set ip.1 (some (T.put ip.2 (.lst (ts.set j v)) t))) else none
  | none => none
theorem ots_set {t : T} {x : V} (ht : OT K F H B x t) : ∀ (ts : List T) (j : Nat) (A : List Addr) (xs : List V), OTs K F H A xs ts → j < ts.length → ∃ A' A'', OTs K F H A' (xs.set j x) (ts.set j t) ∧ (A ++ B).Perm (A' ++ A'')
  | [], j, A, xs, _, h => by simp at h
  | u :: ts, 0, A, xs, h, _ => by
    simp only [OTs] at h
    obtain ⟨A1, A2, y, r, rfl, rfl, h1, h2⟩ := h
    refine ⟨B ++ A2, A1, ?_, ?_⟩
    · simp only [List.set_cons_zero, OTs]
      exact ⟨B, A2, x, r, rfl, rfl, ht, h2⟩
    · rw [List.append_assoc]
      exact List.perm_append_comm.trans ((List.perm_append_comm (l₁ := A2) (l₂ := B)).append_right A1)
  | u :: ts, j + 1, A, xs, h, hj => by
    simp only [OTs] at h
    obtain ⟨A1, A2, y, r, rfl, rfl, h1, h2⟩ := h
    obtain ⟨A', A'', q1, q2⟩ := ots_set ht ts j A2 r h2 (by simpa using hj)
    refine ⟨A1 ++ A', A'', ?_, ?_⟩
    · simp only [List.set_cons_succ, OTs]
      exact ⟨A1, A', y, _, rfl, rfl, h1, q1⟩
    · rw [List.append_assoc, List.append_assoc]
      exact List.Perm.append_left A1 q2
theorem ixN_int {n : Nat} {k : Int} {j : Nat} (h : ixN n k = some j) : j < n := (ixN_seq h).2.1
theorem AtP.ref {t : T} {ts : List T} {pth : List Nat} {v0 u : V} (ot : OT K F H C v0 t) (hg : T.get pth t = some (.lst ts)) (hat : AtP H v0 pth u) : ∃ l xs, u = .ref l ∧ H l = some (.lst xs) ∧ xs.length = ts.length := by
  obtain ⟨u', C1, D, f1, f2, f3, f4⟩ := OT.focus pth t _ C v0 ot hg
  have hu' : u = u' := AtP.fn hat (f1 H fun _ _ => rfl)
  subst hu'
  obtain ⟨l', B0, xs, h1, rfl, h3, h4, h5⟩ := ot_list (l := 0) f3
  exact ⟨l', xs, h1, h3, h5⟩
theorem jg_ix {pm : M Pl} {mb : M D} (ha : JP X a pm) (hb : JD X b mb) (he : ∀ v, assign (.Subscript a b pos) X.env v = (do
      let ov ← holding [v] (eval a X.env)
      let iv ← holding [v, ov] (eval b X.env)
      standAt pos
      holding [v, ov, iv] (setItem ov iv v)
      release [v, ov, iv] []) := by intro _; rfl) : JG X W (.Subscript a b pos) (gIx pm mb) := pg_imp (pg_sub ha hb set_list he) fun v σ H Q q => by
  obtain ⟨F, A, B, e, t, s, r, w, e', hm, q⟩ := q
  unfold gIx at hm
  split at hm
  case h_2 => cases hm
  rename_i ip t0 ts j e2 h1
  split at hm
  case isFalse => cases hm
  rename_i hj
  cases hm
  refine ix_read s w.left h1 fun F2 A2 C v0 u k H2 s2 z hv ot hg w2 x2 hat hk => ?_
  have w3 := Wf.frame w x2 w2
  have r2 := r.frame w x2
  obtain ⟨l, xs, rfl, h3, h5⟩ := hat.ref ot hg
  refine ⟨l, xs, k, j, rfl, rfl, h3, by rw [h5]; exact hk, ?_⟩
  obtain ⟨A', B', _, s4, w4, p4, lin, _⟩ := pl_write (us := ts.set j t) (ys := xs.set j v) (fun _ => True) s2 z hv ot hg w3 hat fun B0 xs' hx ho => by
    rw [h3] at hx
    cases hx
    obtain ⟨B1, B', o1, p1⟩ := ots_set r2 ts j B0 xs ho hj
    exact ⟨B1, B', o1, p1, trivial⟩
  exact q F2 A' σ _ s4 w4.left ((x2.frame (B := B)).trans ((Ext.write lin).mem (fun _ h => h) fun a ha => p4.mem_iff.mpr (List.mem_append_left _ ha))) Kept.refl
/-- the place's tree lent out while the argument is reckoned -/
def argAt {α : Type} (pm : M Pl) (mb : M α) (e : Fw.Env) : Option (Pl × T × List T × α × Fw.Env) := match pm e with
  | some (ip, e1) => (match treeAt e1 ip with
    | some (t, .lst ts) => (match mb (e1.set ip.1 none) with
      | some (d, e2) => (match e2[ip.1]? with
        | some none => some (ip, t, ts, d, e2)
        | _ => none)
      | none => none)
    | _ => none)
  | none => none
theorem arg_read {pm : M Pl} {mb : M T} {ip : Pl} {t d : T} {ts : List T} {e2 : Fw.Env} {Q : V → List V → Hp → Prop} {Pr : V → Hp → Prop} (s : SR K F H A σ e) (w : Wf F A H) (hm : argAt pm mb e = some (ip, t, ts, d, e2))
    (hp : ∀ u H' l xs, u = .ref l → H' l = some (.lst xs) → Pr u H')
    (q : ∀ F' A' B C v0 u v H', SR K F' H' A' σ e2 → e2[ip.1]? = some none → σ[ip.1]? = some (some v0) → OT K F' H' C v0 t → T.get ip.2 t = some (.lst ts) → OT K F' H' B v d → Wf F' (A' ++ C ++ B) H' → Ext F A H F' (A' ++ C ++ B) H' → AtP H' v0 ip.2 u → Q u [v] H') :
    rdP K pm σ H fun u H1 => Pr u H1 ∧ tCons (rdE K mb) tNil σ H1 fun v H2 => Q u v H2 := by
  unfold argAt at hm
  split at hm
  case h_2 => cases hm
  rename_i ip' e1 h1
  split at hm
  case h_2 => cases hm
  rename_i t' ts' h2
  split at hm
  case h_2 => cases hm
  rename_i d' e3 h3
  split at hm
  case h_2 => cases hm
  rename_i h5
  cases hm
  obtain ⟨g1, g2⟩ := treeAt_some h2
  refine ⟨F, A, e, s, w, ip, e1, h1, fun F1 A1 u H1 s1 w1 x1 ⟨v0, hv, hat⟩ => ?_⟩
  obtain ⟨v0', B1, B2, q1, q2, q3, q4⟩ := s1.take g1
  have : v0' = v0 := by rw [q1] at hv; cases hv; rfl
  subst this
  have w1' := w1.perm q2
  obtain ⟨u', C, D, f1, f2, f3, f4⟩ := OT.focus ip.2 t _ B1 v0' q3 g2
  have hu : u = u' := AtP.fn hat (f1 H1 fun _ _ => rfl)
  subst hu
  refine ⟨?_, F1, B2, _, q4, w1'.left, d, e2, h3, fun F2 A2 B v H2 s2 r2 w2 x2 => ?_⟩
  · obtain ⟨l, xs, h6, h7, _⟩ := hat.ref q3 g2
    exact hp u H1 l xs h6 h7
  have w3 := Wf.frame w1' x2 w2
  have pp : (A2 ++ B ++ B1).Perm (A2 ++ B1 ++ B) := by
    rw [List.append_assoc, List.append_assoc]; exact List.Perm.append_left A2 List.perm_append_comm
  refine q F2 A2 B B1 v0' u v H2 s2 h5 q1 (q3.frame w1' x2) g2 r2 (w3.perm pp) (((x1.mem (fun _ h => h) fun a ha => q2.mem_iff.mpr ha).trans x2.frame).mem (fun _ h => h) fun a ha => pp.mem_iff.mpr ha) (f1 H2 fun b hb => ?_)
  obtain ⟨o, ho⟩ := w1'.dom b (List.mem_append_right _ hb)
  rw [ho]
  exact x2.fr b o ho fun z => w1'.disj z hb
/-- x.append(e) -/
def mApp (pm : M Pl) (mb : M T) : M D := fun e => match argAt pm mb e with
  | some (ip, t, ts, y, e2) => if ts.length < sizeLine then some (.non, e2.set ip.1 (some (T.put ip.2 (.lst (ts ++ [y])) t))) else none
  | none => none
theorem jd_app {pm : M Pl} {mb : M T} {apos : Pos} (ha : JP X a pm) (hb : JE X b mb) (hbase : attributeBase a "append" X.env (eval a X.env) = eval a X.env := by rfl)
    (hfew : ((backTo pos (starEach [b] X.env)).all (fun x => !x.1) && (backToKw pos (keywordEach [] X.env)).all (fun x => x.1.isSome)
      && decide ([b].length + ([] : List Keyword).length + (if ([] : List Keyword).isEmpty then 0 else 1) < 30)) = true := by rfl)
    (hline : (apos.endLine == pos.line) = true := by rfl) (hs : starEach [b] X.env = (false, eval b X.env) :: starEach [] X.env := by rfl) (hplain : (backTo pos (starEach [] X.env)).any (·.1) = false := by rfl) :
    JD X (.Call (.Attribute a "append" apos) [b] [] pos) (mApp pm mb) := pe_imp (pe_bm PySem.F.plainAttrs_list PySem.F.slot_list_append PySem.F.type_list_append mt_append ha (pa_cons hb pa_nil hs) hbase hfew hline hs hplain) fun σ H Q q => by
  obtain ⟨F, A, e, s, w, d, e', hm, q⟩ := q
  unfold mApp at hm
  split at hm
  case h_2 => cases hm
  rename_i ip t ts y e2 h1
  split at hm
  case isFalse => cases hm
  rename_i hz
  cases hm
  refine arg_read s w h1 (fun u H' l xs h2 h3 => by subst h2; exact .inl ⟨rfl, _, SqL.of h3⟩) fun F2 A2 B C v0 u v H2 s2 z hv ot hg oy w2 x2 hat => ?_
  obtain ⟨l, xs, rfl, h3, h5⟩ := hat.ref ot hg
  refine ⟨l, xs, v, rfl, rfl, h3, by rw [h5]; exact hz, ?_⟩
  obtain ⟨A', B', hB', s4, w4, p4, lin, _⟩ := pl_write (us := ts ++ [y]) (ys := xs ++ [v]) (fun B => B = []) s2 z hv ot hg w2 hat fun B0 xs' hx ho => by
    rw [h3] at hx
    cases hx
    exact ⟨B0 ++ B, [], ots_app ts B0 xs ho (ots_one oy), by simp, rfl⟩
  subst hB'
  exact q F2 A' .non _ s4 (by simp only [Rep]) w4.left (x2.trans ((Ext.write lin).mem (fun _ h => h) fun a ha => p4.mem_iff.mpr (List.mem_append_left _ ha)))
/-- x.extend(e) -/
def mExt (pm : M Pl) (mb : M T) : M D := fun e => match argAt pm mb e with
  | some (ip, t, ts, .fz (.lst ys), e2) => if ts.length + ys.length ≤ sizeLine then some (.non, e2.set ip.1 (some (T.put ip.2 (.lst (ts ++ ys.map .fz)) t))) else none
  | _ => none
theorem jd_ext {pm : M Pl} {mb : M D} {apos : Pos} (ha : JP X a pm) (hb : JD X b mb) (hbase : attributeBase a "extend" X.env (eval a X.env) = eval a X.env := by rfl)
    (hfew : ((backTo pos (starEach [b] X.env)).all (fun x => !x.1) && (backToKw pos (keywordEach [] X.env)).all (fun x => x.1.isSome)
      && decide ([b].length + ([] : List Keyword).length + (if ([] : List Keyword).isEmpty then 0 else 1) < 30)) = true := by rfl)
    (hline : (apos.endLine == pos.line) = true := by rfl) (hs : starEach [b] X.env = (false, eval b X.env) :: starEach [] X.env := by rfl) (hplain : (backTo pos (starEach [] X.env)).any (·.1) = false := by rfl) :
    JD X (.Call (.Attribute a "extend" apos) [b] [] pos) (mExt pm (mT mb)) := pe_imp (pe_bm PySem.F.plainAttrs_list PySem.F.slot_list_extend PySem.F.type_list_extend mt_extend ha (pa_cons (je_d hb) pa_nil hs) hbase hfew hline hs hplain) fun σ H Q q => by
  obtain ⟨F, A, e, s, w, d, e', hm, q⟩ := q
  unfold mExt at hm
  split at hm
  case h_2 => cases hm
  rename_i ip t ts zs e2 h1
  split at hm
  case isFalse => cases hm
  rename_i hz
  cases hm
  refine arg_read s w h1 (fun u H' l xs h2 h3 => by subst h2; exact .inl ⟨rfl, _, SqL.of h3⟩) fun F2 A2 B C v0 u v H2 s2 z hv ot hg oy w2 x2 hat => ?_
  obtain ⟨l, xs, rfl, h3, h5⟩ := hat.ref ot hg
  simp only [OT, Rep] at oy
  obtain ⟨rfl, l2, ys, rfl, h6, h7⟩ := oy
  refine ⟨l, l2, xs, ys, rfl, rfl, h3, w2.sub _ _ h6, by rw [h5, Reps.length _ _ h7]; exact hz, ?_⟩
  obtain ⟨A', B', hB', s4, w4, p4, lin, _⟩ := pl_write (us := ts ++ zs.map .fz) (ys := xs ++ ys) (fun B => B = []) s2 z hv ot hg w2 hat fun B0 xs' hx ho => by
    rw [h3] at hx
    cases hx
    exact ⟨B0 ++ [], [], ots_app ts B0 xs ho (OTs.fz zs ys h7), by simp, rfl⟩
  subst hB'
  exact q F2 A' .non _ s4 (by simp only [Rep]) w4.left ((x2.trans ((Ext.write lin).mem (fun _ h => h) fun a ha => p4.mem_iff.mpr (List.mem_append_left _ ha))))
/-- x.pop() -/
def mPop (pm : M Pl) : M T := fun e => match pm e with
  | some (ip, e1) => (match treeAt e1 ip with
    | some (t, .lst ts) => (match ts[ts.length - 1]? with
      | some y => some (y, e1.set ip.1 (some (T.put ip.2 (.lst ts.dropLast) t)))
      | none => none)
    | _ => none)
  | none => none
theorem ots_last : ∀ (ts : List T) (A : List Addr) (xs : List V) (y : T), OTs K F H A xs ts → ts[ts.length - 1]? = some y → ∃ A1 A2 x, xs[xs.length - 1]? = some x ∧ OTs K F H A1 xs.dropLast ts.dropLast ∧ OT K F H A2 x y ∧ A.Perm (A1 ++ A2)
  | [], A, xs, y, _, q => by simp at q
  | [t], A, xs, y, h, q => by
    simp only [OTs] at h
    obtain ⟨A1, A2, x, r, rfl, rfl, h1, rfl, rfl⟩ := h
    simp at q
    subst q
    exact ⟨[], A1, x, rfl, by simp [OTs], h1, by simp⟩
  | t :: u :: ts, A, xs, y, h, q => by
    unfold OTs at h
    obtain ⟨A1, A2, x, r, rfl, rfl, h1, h2⟩ := h
    obtain ⟨B1, B2, z, q1, q2, q3, q4⟩ := ots_last (u :: ts) A2 r y h2 (by simpa using q)
    have hr := OTs.length _ _ _ h2
    cases r with
    | nil => simp at hr
    | cons r0 r =>
      refine ⟨A1 ++ B1, B2, z, by simpa using q1, ?_, q3, ?_⟩
      · simp only [List.dropLast_cons₂, OTs]
        exact ⟨A1, B1, x, _, rfl, rfl, h1, q2⟩
      · rw [List.append_assoc]; exact List.Perm.append_left A1 q4
theorem je_pop {pm : M Pl} {apos : Pos} (ha : JP X a pm) (hbase : attributeBase a "pop" X.env (eval a X.env) = eval a X.env := by rfl) (hline : (apos.endLine == pos.line) = true := by rfl) :
    JE X (.Call (.Attribute a "pop" apos) [] [] pos) (mPop pm) := pe_imp (pe_bm0 PySem.F.plainAttrs_list PySem.F.slot_list_pop PySem.F.type_list_pop mt_pop ha hbase hline) fun σ H Q q => by
  obtain ⟨F, A, e, s, w, d, e', hm, q⟩ := q
  unfold mPop at hm
  split at hm
  case h_2 => cases hm
  rename_i ip e1 h1
  split at hm
  case h_2 => cases hm
  rename_i t ts h2
  split at hm
  case h_2 => cases hm
  rename_i y hy
  cases hm
  obtain ⟨g1, g2⟩ := treeAt_some h2
  refine ⟨F, A, e, s, w, ip, e1, h1, fun F1 A1 u H1 s1 w1 x1 ⟨v0, hv, hat⟩ => ?_⟩
  obtain ⟨v0', B1, B2, q1, q2, q3, q4⟩ := s1.take g1
  have : v0' = v0 := by rw [q1] at hv; cases hv; rfl
  subst this
  have w1' := w1.perm q2
  obtain ⟨l, xs, rfl, h3, h5⟩ := hat.ref q3 g2
  obtain ⟨u', C1, D, f1, f2, f3, f4⟩ := OT.focus ip.2 t _ B1 v0' q3 g2
  have hu' : V.ref l = u' := AtP.fn hat (f1 H1 fun _ _ => rfl)
  subst hu'
  obtain ⟨l', B0, xs', h6, rfl, h7, h8, h9⟩ := ot_list (l := 0) f3
  cases h6
  rw [h3] at h7
  cases h7
  obtain ⟨E1, E2, x, y1, y2, y3, y4⟩ := ots_last ts B0 xs _ h8 hy
  refine ⟨.inl ⟨rfl, _, SqL.of h3⟩, l, xs, x, rfl, rfl, h3, y1, ?_⟩
  have z : (e1.set ip.1 none)[ip.1]? = some none := by rw [List.getElem?_set_self (List.getElem?_eq_some_iff.mp g1).1]
  obtain ⟨A', B', hB', s4, w4, p4, lin, nl⟩ := pl_write (B := []) (us := ts.dropLast) (ys := xs.dropLast) (fun B => OT X.K F1 H1 B x d) q4 z q1 q3 g2 (by simpa using w1') hat fun B00 xs' hx ho => by
    rw [h3] at hx
    cases hx
    obtain ⟨E1, E2, x', y1', y2, y3, y4⟩ := ots_last ts B00 xs _ ho hy
    rw [y1] at y1'
    cases y1'
    exact ⟨E1, E2, y2, by simpa using y4, y3⟩
  rw [List.set_set] at s4
  refine q F1 A' B' x _ s4 (hB'.mono (fun _ _ h => h) _ _ _ fun b hb => upd_ne fun e => nl (e ▸ hb)) w4 (x1.trans ((Ext.write (A := A1) ?_).mem (fun _ h => h) fun a ha => ?_))
  · exact q2.mem_iff.mpr (by simpa using lin)
  · exact q2.mem_iff.mpr (by have := p4.mem_iff.mpr ha; simpa using this)
end
end Fw

/-! Fw10 -/
set_option Elab.async false
set_option linter.all false
set_option maxRecDepth 100000
set_option maxHeartbeats 4000000
namespace Fw
open PySem PySem.Spec PyProof.Rows L2
/-! ### functions -/
/-- what a def does: from its arguments' trees the answer's tree and the arguments' trees behind it -/
abbrev Fn := List T → Option (T × List T)
def spT (K : PySem.W.Frag) (f : Fn) : Sp := fun vs H Q _ => ∃ F A ts, OTs K F H A vs ts ∧ Wf F A H ∧ ∃ r ts', f ts = some (r, ts') ∧
  ∀ F' A' B v H', OTs K F' H' A' vs ts' → OT K F' H' B v r → Wf F' (A' ++ B) H' → Ext F A H F' (A' ++ B) H' → Q v H'
def outsM (W : List Nat) : Nat → List T → Fw.Env → Option (List T)
  | _, [], _ => some []
  | i, .fz d :: ts, e => (outsM W (i + 1) ts e).map (T.fz d :: ·)
  | i, _ :: ts, e => if i ∈ W then none else (match e[i]? with
    | some (some t) => (outsM W (i + 1) ts (e.set i none)).map (t :: ·)
    | _ => none)
def resT : Fl → Option T
  | .nx => some (.fz .non)
  | .rt t => some t
  | _ => none
def mkFn (n total : Nat) (W : List Nat) (body : MS) : Fn := fun ts => if ts.length = n then (match body (ts.map some ++ List.replicate (total - n) none) with
  | some (fl, e) => (match resT fl, outsM W 0 ts e with
    | some r, some ts' => some (r, ts')
    | _, _ => none)
  | none => none) else none
section
variable {K : PySem.W.Frag} {F F' F1 F2 H H' H1 H2 : Hp} {A A' A1 A2 B C : List Addr} {σ σ' : L2.St} {e e' : Fw.Env}
theorem outs_sr {W : List Nat} : ∀ (ts : List T) (i : Nat) (e : Fw.Env) (A A0 : List Addr) (us : List T) (vs : List V), SR K F H A σ e → OTs K F1 H1 A0 vs ts → Sub F1 F → (∀ j v, j < ts.length → i + j ∉ W → vs[j]? = some v → σ[i + j]? = some (some v)) → outsM W i ts e = some us →
    ∃ B1 B2, A.Perm (B1 ++ B2) ∧ OTs K F H B1 vs us
  | [], i, e, A, A0, us, vs, s, h, sb, hv, q => by
    simp only [outsM, Option.some.injEq] at q
    simp only [OTs] at h
    obtain ⟨rfl, rfl⟩ := h
    subst q
    exact ⟨[], A, by simp, by simp [OTs]⟩
  | t :: ts, i, e, A, A0, us, vs, s, h, sb, hv, q => by
    simp only [OTs] at h
    obtain ⟨C1, C2, x, r, rfl, rfl, h1, h2⟩ := h
    have hv' : ∀ j v, j < ts.length → i + 1 + j ∉ W → r[j]? = some v → σ[i + 1 + j]? = some (some v) := fun j v h3 h4 h5 => by
      have := hv (j + 1) v (by simpa using h3) (by rwa [show i + (j + 1) = i + 1 + j by omega]) (by simpa using h5)
      rwa [show i + (j + 1) = i + 1 + j by omega] at this
    cases t with
    | fz d =>
      simp only [outsM, Option.map_eq_some_iff] at q
      obtain ⟨us', q1, rfl⟩ := q
      obtain ⟨B1, B2, p, o⟩ := outs_sr ts (i + 1) e A C2 us' r s h2 sb hv' q1
      simp only [OT] at h1
      refine ⟨B1, B2, p, ?_⟩
      simp only [OTs, OT]
      exact ⟨[], B1, x, r, rfl, rfl, ⟨rfl, Rep.mono sb _ _ h1.2⟩, o⟩
    | _ =>
      simp only [outsM] at q
      split at q
      · cases q
      · rename_i hw
        split at q
        · rename_i t' ht
          simp only [Option.map_eq_some_iff] at q
          obtain ⟨us', q1, rfl⟩ := q
          obtain ⟨v, D1, D2, g1, g2, g3, g4⟩ := s.take ht
          have : v = x := by
            have := hv 0 x (by simp) (by simpa using hw) rfl
            simp only [Nat.add_zero] at this
            rw [g1] at this
            cases this; rfl
          subst this
          obtain ⟨B1, B2, p, o⟩ := outs_sr ts (i + 1) _ D2 C2 us' r g4 h2 sb hv' q1
          refine ⟨D1 ++ B1, B2, ?_, ?_⟩
          · refine g2.trans ((p.append_right D1).trans ?_)
            rw [List.append_assoc, List.append_assoc]
            exact (List.Perm.append_left B1 List.perm_append_comm).trans (by
              rw [← List.append_assoc, ← List.append_assoc]
              exact List.perm_append_comm.append_right B2)
          · simp only [OTs]
            exact ⟨D1, B1, v, r, rfl, rfl, g3, o⟩
        · cases q
theorem slots_start : ∀ (ts : List T) (A : List Addr) (vs : List V) (n : Nat), OTs K F H A vs ts → Slots K F H A (vs.map some ++ List.replicate n none) (ts.map some ++ List.replicate n none)
  | [], A, vs, n, h => by
    simp only [OTs] at h
    obtain ⟨rfl, rfl⟩ := h
    simp only [List.map_nil, List.nil_append]
    induction n with
    | zero => simp [Slots]
    | succ n ih =>
      simp only [List.replicate_succ, Slots]
      exact ⟨_, _, rfl, ih⟩
  | t :: ts, A, vs, n, h => by
    simp only [OTs] at h
    obtain ⟨C1, C2, x, r, rfl, rfl, h1, h2⟩ := h
    simp only [List.map_cons, List.cons_append, Slots]
    exact ⟨x, _, C1, C2, rfl, rfl, h1, slots_start ts C2 r n h2⟩
end
/-- the def at the module's name x does f, by at most k calls one in another -/
structure FnT (P : Program) (w : World) (K : PySem.W.Frag) (mg : Str → Option Value) (base : Heap) (a : Addr) (k : Nat) (ps : List Str) (f : Fn) : Prop where
  ex : ∃ fd, Binds K fd ps [] ∧ FnOk P w K mg base CX0 k a fd ps (spT K f)
  kp : PySem.W.keepIn K (.ref a) = true
section
variable {P : Program} {w : World} {K : PySem.W.Frag} {mg : Str → Option Value} {base : Heap} {a : Addr} {k : Nat} {ps : List Str}
theorem FnT.none : PySem.W.keepIn K (.ref a) = true → (∃ fd, Binds K fd ps []) → FnT P w K mg base a k ps (fun _ => none) := fun kp ⟨fd, b⟩ => by
  have no : ∀ vs H Q E, ¬ spT K (fun _ => Option.none) vs H Q E := fun vs H Q E ⟨_, _, _, _, _, _, _, h, _⟩ => by cases h
  exact ⟨⟨fd, b, ⟨fun vs H Q E h => absurd h (no vs H Q E), fun A outer s H args us vs Q E _ _ _ _ h => absurd h (no vs H Q E)⟩⟩, kp⟩
theorem FnT.mono {f : Fn} {j : Nat} (h : FnT P w K mg base a j ps f) (hk : j ≤ k) : FnT P w K mg base a k ps f := let ⟨⟨fd, b, o⟩, kp⟩ := h; ⟨⟨fd, b, o.mono hk⟩, kp⟩
/-- THE RULE for a def -/
theorem fnT_of {d : He.DefD} {W : List Nat} {N : List Str} {body : MS} {fd : FuncData} {np nn : Nat} (Fd : FunD K d.name d.qual d.params d.body d.scope [] [] a fd) (S : FnScope N ps d.scope) (hb : Binds K fd ps [])
    (h : ∀ (cdv : Value) (A : Around) (outer : List PySem.Env) (s : Shared) (H : Hp) (E : XK), Room k (A.deeper (envOfC d.qual d.scope s.heap.objs.size a cdv)) → JSs (cxOf CX0 P w K mg base N d.qual d.scope a cdv A outer s H E).nox W d.body body)
    (hp : ps.length = np := by rfl) (hn : N.length = nn := by rfl) : FnT P w K mg base a (k + 1) ps (mkFn np nn W body) := by
  subst hp hn
  refine ⟨⟨fd, hb, Fd.ok S (fun vs H Q E h => ?_) fun cdv A outer s H vs Q E hr hsp => ⟨_, PSs.nox (h cdv A outer s H E hr), ?_⟩⟩, Fd.kp⟩
  · obtain ⟨F, A, ts, h1, h2, r, ts', h3, _⟩ := h
    unfold mkFn at h3
    split at h3
    · rename_i hl
      rw [OTs.length _ _ _ h1, hl]
    · cases h3
  · obtain ⟨F, A0, ts, h1, h2, r, ts', h3, q⟩ := hsp
    unfold mkFn at h3
    split at h3
    case isFalse => cases h3
    rename_i hl
    split at h3
    case h_2 => cases h3
    rename_i fl e' h4
    split at h3
    case h_2 => cases h3
    rename_i r' ts'' h5 h6
    cases h3
    have hvl : vs.length = ps.length := by rw [OTs.length _ _ _ h1, hl]
    have s0 := slots_start ts A0 vs (N.length - ps.length) h1
    refine ⟨F, A0, _, ⟨A0, List.Perm.refl _, by unfold L2.start; rw [hvl]; exact s0⟩, h2, fl, e', h4, fun F1 A1 B1 σ1 H1 s1 w1 x1 k1 => ?_⟩
    have hs : ∀ j v, j < ts.length → 0 + j ∉ W → vs[j]? = some v → σ1[0 + j]? = some (some v) := fun j v h7 h8 h9 => by
      rw [Nat.zero_add] at h8 ⊢
      rw [k1.1 j h8]
      unfold L2.start
      rw [List.getElem?_append_left (by rw [List.length_map, OTs.length _ _ _ h1]; exact h7), List.getElem?_map, h9]
      rfl
    obtain ⟨C1, C2, p, o⟩ := outs_sr ts 0 e' A1 A0 ts' vs s1 h1 x1.fz hs h6
    have pp : (A1 ++ B1).Perm ((C1 ++ B1) ++ C2) := by
      refine (p.append_right B1).trans ?_
      rw [List.append_assoc, List.append_assoc]
      exact List.Perm.append_left C1 List.perm_append_comm
    have w2 := (w1.perm pp).left
    have x2 : Ext F A0 H F1 (C1 ++ B1) H1 := x1.mem (fun _ h => h) fun b hb => pp.mem_iff.mpr (List.mem_append_left _ hb)
    cases fl with
    | nx =>
      simp only [resT, Option.some.injEq] at h5
      subst h5
      intro hB
      subst hB
      exact q F1 C1 [] .non H1 o (by simp [OT, Rep]) w2 x2
    | rt t =>
      simp only [resT, Option.some.injEq] at h5
      subst h5
      exact fun v hv => q F1 C1 B1 v H1 o hv w2 x2
    | bk => simp [resT] at h5
    | ct => simp [resT] at h5
end
/-! ### arguments: by value, or lent -/
def BkOk (σ : L2.St) : List (Option Nat) → List V → Prop
  | [], vs => vs = []
  | none :: bk, vs => ∃ v r, vs = v :: r ∧ BkOk σ bk r
  | some i :: bk, vs => ∃ v r, vs = v :: r ∧ σ[i]? = some (some v) ∧ BkOk σ bk r
def rdArg (K : PySem.W.Frag) (m : M (List T)) (bk : List (Option Nat)) : TA := fun σ H Q => ∃ F A e, SR K F H A σ e ∧ Wf F A H ∧ ∃ t e', m e = some (t, e') ∧
  ∀ F' A' B v H', SR K F' H' A' σ e' → OTs K F' H' B v t → BkOk σ bk v → Wf F' (A' ++ B) H' → Ext F A H F' (A' ++ B) H' → Q v H'
def JArg (X : Cx) (es : List Expr) (m : M (List T)) (bk : List (Option Nat)) : Prop := PA X es (rdArg X.K m bk)
def putB : List (Option Nat) → List T → Fw.Env → Option Fw.Env
  | [], [], e => some e
  | none :: bk, _ :: ts, e => putB bk ts e
  | some i :: bk, t :: ts, e => (match e[i]? with
    | some none => putB bk ts (e.set i (some t))
    | _ => none)
  | _, _, _ => none
section
variable {X : Cx} {W : List Nat} {K : PySem.W.Frag} {F F' F1 F2 H H' H1 H2 : Hp} {A A' A1 A2 B C : List Addr} {σ σ' : L2.St} {e e' : Fw.Env} {a b c tg : Expr} {es : List Expr} {pos p : Pos}
theorem putB_sr : ∀ (bk : List (Option Nat)) (ts : List T) (vs : List V) (e e' : Fw.Env) (A B : List Addr), SR K F H A σ e → OTs K F H B vs ts → BkOk σ bk vs → putB bk ts e = some e' → Wf F (A ++ B) H → ∃ A', SR K F H A' σ e' ∧ Wf F A' H ∧ ∀ a ∈ A', a ∈ A ++ B
  | [], [], vs, e, e', A, B, s, o, b, q, w => by
    simp only [putB, Option.some.injEq] at q
    subst q
    exact ⟨A, s, w.left, fun a h => List.mem_append_left _ h⟩
  | none :: bk, t :: ts, vs, e, e', A, B, s, o, b, q, w => by
    simp only [putB] at q
    simp only [OTs] at o
    obtain ⟨C1, C2, x, r, rfl, rfl, h1, h2⟩ := o
    simp only [BkOk] at b
    obtain ⟨v, r', hr, b⟩ := b
    cases hr
    have w' : Wf F ((A ++ C2) ++ C1) H := w.perm (by
      rw [List.append_assoc]; exact List.Perm.append_left A List.perm_append_comm)
    obtain ⟨A', z1, z2, z3⟩ := putB_sr bk ts _ e e' A C2 s h2 b q w'.left
    exact ⟨A', z1, z2, fun a ha => by
      have := z3 a ha
      simp only [List.mem_append] at this ⊢
      rcases this with h | h
      · exact .inl h
      · exact .inr (.inr h)⟩
  | some i :: bk, t :: ts, vs, e, e', A, B, s, o, b, q, w => by
    simp only [putB] at q
    split at q
    case h_2 => cases q
    rename_i hi
    simp only [OTs] at o
    obtain ⟨C1, C2, x, r, rfl, rfl, h1, h2⟩ := o
    simp only [BkOk] at b
    obtain ⟨v, r', hr, hv, b⟩ := b
    cases hr
    have s2 := s.back h1 hi hv
    obtain ⟨A', z1, z2, z3⟩ := putB_sr bk ts _ _ e' (A ++ C1) C2 s2 h2 b q (by rw [List.append_assoc]; exact w)
    exact ⟨A', z1, z2, fun a ha => by
      have := z3 a ha
      rwa [List.append_assoc] at this⟩
  | [], _ :: _, _, _, _, _, _, _, _, _, q, _ => by simp only [putB, reduceCtorEq] at q
  | none :: _, [], _, _, _, _, _, _, _, _, q, _ => by simp only [putB, reduceCtorEq] at q
  | some _ :: _, [], _, _, _, _, _, _, _, _, q, _ => by simp only [putB, reduceCtorEq] at q
theorem ja_nil : JArg X [] (mRet []) [] := pa_imp pa_nil fun σ H Q q => by
  obtain ⟨F, A, e, s, w, d, e', hm, q⟩ := q
  obtain ⟨rfl, rfl⟩ := mRet_some hm
  exact q F A [] [] H s (by simp [OTs]) rfl w.nil Ext.refl.nil
theorem ja_e {m : M T} {n : M (List T)} {bk : List (Option Nat)} (h : JE X a m) (h2 : JArg X es n bk) (hs : starEach (a :: es) X.env = (false, eval a X.env) :: starEach es X.env := by rfl) : JArg X (a :: es) (mCons m n) (none :: bk) := pa_imp (pa_cons h h2 hs) fun σ H Q q => by
  obtain ⟨F, A, e, s, w, ds, e', hm, q⟩ := q
  obtain ⟨x, e1, h1, h2⟩ := mBind_some hm
  obtain ⟨xs, e2, h3, h4⟩ := mBind_some h2
  obtain ⟨rfl, rfl⟩ := mRet_some h4
  refine ⟨F, A, e, s, w, x, e1, h1, fun F1 A1 B1 u H1 s1 r1 w1 x1 => ?_⟩
  refine ⟨F1, A1, e1, s1, w1.left, xs, _, h3, fun F2 A2 B2 v H2 s2 r2 b2 w2 x2 => ?_⟩
  have w3 := Wf.frame (B := B1) w1 x2 w2
  refine q F2 A2 (B1 ++ B2) (u :: v) H2 s2 (by simp only [OTs]; exact ⟨B1, B2, u, v, rfl, rfl, r1.frame w1 x2, r2⟩) ⟨u, v, rfl, b2⟩ (w3.perm ?_) ((x1.trans x2.frame).mem (fun _ h => h) fun z hz => ?_)
  · rw [List.append_assoc]; exact List.Perm.append_left A2 List.perm_append_comm
  · simp only [List.mem_append] at hz ⊢
    rcases hz with h | h | h
    · exact .inl (.inl h)
    · exact .inr h
    · exact .inl (.inr h)
/-- an argument by value -/
theorem ja_v {m : M D} {n : M (List T)} {bk : List (Option Nat)} (h : JD X a m) (h2 : JArg X es n bk) (hs : starEach (a :: es) X.env = (false, eval a X.env) :: starEach es X.env := by rfl) : JArg X (a :: es) (mCons (mT m) n) (none :: bk) := ja_e (je_d h) h2 hs
/-- a local name's object lent to the callee -/
theorem ja_b {i : Nat} {n : M (List T)} {bk : List (Option Nat)} (h : PE X a (tVar i)) (h2 : JArg X es n bk) (hs : starEach (a :: es) X.env = (false, eval a X.env) :: starEach es X.env := by rfl) : JArg X (a :: es) (mCons (mMv i) n) (some i :: bk) := pa_imp (pa_cons h h2 hs) fun σ H Q q => by
  obtain ⟨F, A, e, s, w, ds, e', hm, q⟩ := q
  obtain ⟨x, e1, h1, h2⟩ := mBind_some hm
  obtain ⟨xs, e2, h3, h4⟩ := mBind_some h2
  obtain ⟨rfl, rfl⟩ := mRet_some h4
  unfold mMv at h1
  split at h1
  case h_2 => cases h1
  rename_i t ht
  cases h1
  obtain ⟨v0, C1, C2, q1, q2, q3, q4⟩ := s.take ht
  have w1 := w.perm q2
  refine ⟨v0, q1, F, C2, _, q4, w1.left, xs, _, h3, fun F2 A2 B2 v H2 s2 r2 b2 w2 x2 => ?_⟩
  have w3 := Wf.frame (B := C1) w1 x2 w2
  refine q F2 A2 (C1 ++ B2) (v0 :: v) H2 s2 (by simp only [OTs]; exact ⟨C1, B2, v0, v, rfl, rfl, q3.frame w1 x2, r2⟩) ⟨v0, v, rfl, q1, b2⟩ (w3.perm ?_) ((x2.frame (B := C1)).mem (fun a ha => q2.mem_iff.mpr ha) fun z hz => ?_)
  · rw [List.append_assoc]; exact List.Perm.append_left A2 List.perm_append_comm
  · simp only [List.mem_append] at hz ⊢
    rcases hz with h | h | h
    · exact .inl (.inl h)
    · exact .inr h
    · exact .inl (.inr h)
/-! ### calls -/
def mCallF (f : Fn) (bk : List (Option Nat)) (m : M (List T)) : M T := fun e => match m e with
  | some (ts, e1) => (match f ts with
    | some (r, ts') => (putB bk ts' e1).map fun e2 => (r, e2)
    | none => none)
  | none => none
theorem call_read {f : Fn} {bk : List (Option Nat)} {m : M (List T)} {Q : VK} (q : rdE K (mCallF f bk m) σ H Q) : tCall (spT K f) [] E0 (rdArg K m bk) σ H Q := by
  obtain ⟨F, A, e, s, w, r, e', hm, q⟩ := q
  unfold mCallF at hm
  split at hm
  case h_2 => cases hm
  rename_i ts e1 h1
  split at hm
  case h_2 => cases hm
  rename_i r' ts' h2
  obtain ⟨e2, h3, h4⟩ := Option.map_eq_some_iff.mp hm
  cases h4
  refine ⟨F, A, e, s, w, ts, e1, h1, fun F1 A1 B1 vs H1 s1 o1 b1 w1 x1 => ?_⟩
  show spT K f (vs ++ []) H1 Q E0
  rw [List.append_nil]
  refine ⟨F1, B1, ts, o1, w1.right, r, ts', h2, fun F2 A2 B2 v H2 o2 r2 w2 x2 => ?_⟩
  have w1' := w1.swap
  have w3 : Wf F2 ((A2 ++ B2) ++ A1) H2 := Wf.frame w1' x2 w2
  have s2 := s1.frame w1' x2
  have pp : ((A2 ++ B2) ++ A1).Perm ((A1 ++ A2) ++ B2) := by
    refine List.perm_append_comm.trans ?_
    rw [List.append_assoc]
  have w4 := w3.perm pp
  obtain ⟨A', z1, z2, z3⟩ := putB_sr bk ts' vs e1 _ A1 A2 s2 o2 b1 h3 w4.left
  refine q F2 A' B2 v H2 z1 r2 (Wf.frame w4 (Ext.refl.mem (fun _ h => h) z3) z2) ((x1.trans ((x2.frame (B := A1)).mem (fun a ha => ?_) fun _ h => h)).mem (fun _ h => h) fun a ha => ?_)
  · simp only [List.mem_append] at ha ⊢
    rcases ha with h | h
    · exact .inr h
    · exact .inl h
  · refine pp.mem_iff.mpr ?_
    rcases List.mem_append.mp ha with h | h
    · exact List.mem_append_left _ (z3 a h)
    · exact List.mem_append_right _ h
theorem je_call {x : Str} {ad : Addr} {k : Nat} {ps : List Str} {f : Fn} {m : M (List T)} {bk : List (Option Nat)} (G : FnT X.prog X.w X.K X.mg X.base ad k ps f) (hr : Room k X.A) (hm : X.mg x = some (.ref ad)) (ha : JArg X (a :: es) m bk) (hg : Gl X x := by rfl)
    (hdb : (x == ("__debug__" : Str)) = false := by decide) (he : starEach (a :: es) X.env = (false, eval a X.env) :: starEach es X.env := by rfl) (hpl : (backTo pos (starEach es X.env)).any (·.1) = false := by rfl) : JE X (.Call (.Name x p) (a :: es) [] pos) (mCallF f bk m) := by
  obtain ⟨fd, b, o⟩ := G.ex
  exact pe_imp (pe_call o hr hg hm G.kp b .nil pass0 ha hdb he hpl) fun σ H Q q => call_read q
theorem je_call0 {x : Str} {ad : Addr} {k : Nat} {ps : List Str} {f : Fn} (G : FnT X.prog X.w X.K X.mg X.base ad k ps f) (hr : Room k X.A) (hm : X.mg x = some (.ref ad)) (hg : Gl X x := by rfl)
    (hdb : (x == ("__debug__" : Str)) = false := by decide) : JE X (.Call (.Name x p) [] [] pos) (mCallF f [] (mRet [])) := by
  obtain ⟨fd, b, o⟩ := G.ex
  refine pe_imp (pe_call0 o hr hg hm G.kp b .nil pass0 hdb) fun σ H Q q => ?_
  have z := call_read q
  obtain ⟨F, A, e, s, w, t, e', hm, z⟩ := z
  obtain ⟨rfl, rfl⟩ := mRet_some hm
  exact z F A [] [] H s (by simp [OTs]) rfl w.nil Ext.refl.nil
end
end Fw

/-! FwO -/
set_option Elab.async false
set_option linter.all false
set_option maxRecDepth 100000
set_option maxHeartbeats 4000000
namespace Fw
open PySem PySem.Spec PyProof.Rows L2
section
variable {P : Program} {w : World} {K : PySem.W.Frag} {mg : Str → Option Value} {base : Heap} {a : Addr} {k : Nat} {ps : List Str}
/-- THE RULE for a def -/
theorem fnO_of {d : He.DefD} {W : List Nat} {N : List Str} {body : MS} {fd : FuncData} {np nn : Nat} (Fd : FunD K d.name d.qual d.params d.body d.scope [] [] a fd) (S : FnScope N ps d.scope) (hb : Binds K fd ps [])
    (h : ∀ (cdv : Value) (A : Around) (outer : List PySem.Env) (s : Shared) (H : Hp) (E : XK), Room k (A.deeper (envOfC d.qual d.scope s.heap.objs.size a cdv)) → JSs (cxOf CX0 P w K mg base N d.qual d.scope a cdv A outer s H E).nox W d.body body)
    (hp : ps.length = np := by rfl) (hn : N.length = nn := by rfl) : FnOk P w K mg base CX0 (k + 1) a fd ps (spT K (mkFn np nn W body)) := by
  subst hp hn
  refine Fd.ok S (fun vs H Q E h => ?_) fun cdv A outer s H vs Q E hr hsp => ⟨_, PSs.nox (h cdv A outer s H E hr), ?_⟩
  · obtain ⟨F, A, ts, h1, h2, r, ts', h3, _⟩ := h
    unfold mkFn at h3
    split at h3
    · rename_i hl
      rw [OTs.length _ _ _ h1, hl]
    · cases h3
  · obtain ⟨F, A0, ts, h1, h2, r, ts', h3, q⟩ := hsp
    unfold mkFn at h3
    split at h3
    case isFalse => cases h3
    rename_i hl
    split at h3
    case h_2 => cases h3
    rename_i fl e' h4
    split at h3
    case h_2 => cases h3
    rename_i r' ts'' h5 h6
    cases h3
    have hvl : vs.length = ps.length := by rw [OTs.length _ _ _ h1, hl]
    have s0 := slots_start ts A0 vs (N.length - ps.length) h1
    refine ⟨F, A0, _, ⟨A0, List.Perm.refl _, by unfold L2.start; rw [hvl]; exact s0⟩, h2, fl, e', h4, fun F1 A1 B1 σ1 H1 s1 w1 x1 k1 => ?_⟩
    have hs : ∀ j v, j < ts.length → 0 + j ∉ W → vs[j]? = some v → σ1[0 + j]? = some (some v) := fun j v h7 h8 h9 => by
      rw [Nat.zero_add] at h8 ⊢
      rw [k1.1 j h8]
      unfold L2.start
      rw [List.getElem?_append_left (by rw [List.length_map, OTs.length _ _ _ h1]; exact h7), List.getElem?_map, h9]
      rfl
    obtain ⟨C1, C2, p, o⟩ := outs_sr ts 0 e' A1 A0 ts' vs s1 h1 x1.fz hs h6
    have pp : (A1 ++ B1).Perm ((C1 ++ B1) ++ C2) := by
      refine (p.append_right B1).trans ?_
      rw [List.append_assoc, List.append_assoc]
      exact List.Perm.append_left C1 List.perm_append_comm
    have w2 := (w1.perm pp).left
    have x2 : Ext F A0 H F1 (C1 ++ B1) H1 := x1.mem (fun _ h => h) fun b hb => pp.mem_iff.mpr (List.mem_append_left _ hb)
    cases fl with
    | nx =>
      simp only [Fw.resT, Option.some.injEq] at h5
      subst h5
      intro hB
      subst hB
      exact q F1 C1 [] .non H1 o (by simp [OT, Rep]) w2 x2
    | rt t =>
      simp only [Fw.resT, Option.some.injEq] at h5
      subst h5
      exact fun v hv => q F1 C1 B1 v H1 o hv w2 x2
    | bk => simp [Fw.resT] at h5
    | ct => simp [Fw.resT] at h5
end
end Fw

/-! Fw11 -/
set_option Elab.async false
set_option linter.all false
set_option maxRecDepth 100000
set_option maxHeartbeats 4000000
namespace Fw
open PySem PySem.Spec PyProof.Rows L2
/-! ### objects -/
def fldO {α : Type} (f : Str) : List Str → List α → Option α
  | n :: ns, x :: xs => if f = n then some x else fldO f ns xs
  | _, _ => none
section
variable {K : PySem.W.Frag} {F F' F1 F2 H H' H1 H2 : Hp} {A A' A1 A2 B C : List Addr} {σ σ' : L2.St} {e e' : Fw.Env}
theorem look_zip {f : Str} : ∀ (ns : List Str) (ds : List D) (xs : List V) (d : D), Reps K F xs ds → fldO f ns ds = some d → ∃ x, (ns.zip xs).lookup f = some x ∧ Rep K F x d
  | [], ds, xs, d, _, q => by cases ds <;> simp [fldO] at q
  | n :: ns, [], xs, d, _, q => by simp [fldO] at q
  | n :: ns, d0 :: ds, xs, d, r, q => by
    simp only [Reps] at r
    obtain ⟨x, y, rfl, h1, h2⟩ := r
    simp only [fldO] at q
    rw [List.zip_cons_cons, List.lookup_cons]
    by_cases h : f = n
    · rw [if_pos h] at q
      cases q
      subst h
      exact ⟨x, by simp, h1⟩
    · rw [if_neg h] at q
      obtain ⟨z, q1, q2⟩ := look_zip ns ds y d h2 q
      have : (f == n) = false := by simpa using h
      exact ⟨z, by rw [this]; exact q1, q2⟩
theorem look_none {f : Str} : ∀ (ns : List Str) (xs : List V), f ∉ ns → (ns.zip xs).lookup f = none
  | [], xs, _ => by simp
  | n :: ns, [], _ => by simp
  | n :: ns, x :: xs, h => by
    simp only [List.mem_cons, not_or] at h
    rw [List.zip_cons_cons, List.lookup_cons]
    have : (f == n) = false := by simpa using h.1
    rw [this]
    exact look_none ns xs h.2
end
section
variable {X : Cx} {W : List Nat} {K : PySem.W.Frag} {F F' F1 F2 H H' H1 H2 : Hp} {A A' A1 A2 B : List Addr} {σ σ' : L2.St} {e e' : Fw.Env} {a b c tg o : Expr} {es : List Expr} {pos p apos : Pos} {C : Addr} {f m : Str}
def fldD (C : Addr) (f : Str) : D → Option D
  | .obj C' ns ds => if C' = C then fldO f ns ds else none
  | _ => none
def mFld (C : Addr) (f : Str) (m : M D) : M D := mBind m fun d => mOpt (fldD C f d)
theorem jd_fld {m : M D} (c : Cls X.K C) (n : NoAttr X.K C f) (h : JD X o m) (hb : attributeBase o f X.env (eval o X.env) = eval o X.env := by rfl) : JD X (.Attribute o f pos) (mFld C f m) := pe_imp (pe_fld h hb) fun σ H Q q => by
  obtain ⟨F, A, e, s, w, d, e', hm, q⟩ := q
  obtain ⟨x, e1, h1, h2⟩ := mBind_some hm
  obtain ⟨h3, rfl⟩ := mOpt_some h2
  refine ⟨F, A, e, s, w, x, _, h1, fun F1 A1 v H1 s1 r1 w1 x1 => ?_⟩
  unfold fldD at h3
  split at h3
  · split at h3
    · rename_i hC
      subst hC
      simp only [Rep] at r1
      obtain ⟨p, dx, xs, rfl, h4, h5, h6⟩ := r1
      obtain ⟨y, h7, h8⟩ := look_zip _ _ _ _ h6 h3
      exact ⟨p, _, dx, _, y, rfl, w1.sub _ _ h4, c, n, h7, q F1 A1 y H1 s1 h8 w1 x1⟩
    · cases h3
  · cases h3
/-- a method's receiver -/
def recO (C : Addr) (m : Str) : D → Option D
  | .obj C' ns ds => if C' = C ∧ m ∉ ns then some (.obj C' ns ds) else none
  | _ => none
def mRec (C : Addr) (m : Str) (mo : M D) : M D := mBind mo fun d => mOpt (recO C m d)
theorem je_meth {ad : Addr} {k : Nat} {ps : List Str} {g : Fn} {mo : M D} {ma : M (List T)} {bk : List (Option Nat)} {pl : Sem Bool} (c : Cls X.K C) (hm : Meth X.K C m ad) (G : FnT X.prog X.w X.K X.mg X.base ad k ps g) (hr : Room k X.A) (ho : JD X o mo) (ha : JArg X (a :: es) ma bk)
    (hst : starEach (a :: es) X.env = (false, eval a X.env) :: starEach es X.env := by rfl) (hpl : (backTo pos (starEach es X.env)).any (·.1) = false := by rfl)
    (ht : eval (.Call (.Attribute o m apos) (a :: es) [] pos) X.env = (do
      let ov ← eval o X.env
      standAt apos.atName
      let (f, first) ← holding [ov] (getMethod ov m pl)
      callWith pos f first (backTo pos (starEach (a :: es) X.env)) (backToKw pos (keywordEach [] X.env))) := by rfl) :
    JE X (.Call (.Attribute o m apos) (a :: es) [] pos) (mCallF g (none :: bk) (mCons (mT (mRec C m mo)) ma)) := by
  obtain ⟨fd, b, ok⟩ := G.ex
  refine pe_imp (pe_meth ho c hm ok hr b .nil pass0 ha hst hpl ht) fun σ H Q q => ?_
  have z := call_read q
  obtain ⟨F, A, e, s, w, ts, e', hm, z⟩ := z
  obtain ⟨t1, e1, h1, h2⟩ := mBind_some hm
  obtain ⟨ts1, e2, h3, h4⟩ := mBind_some h2
  obtain ⟨rfl, rfl⟩ := mRet_some h4
  obtain ⟨d1, e3, h5, h6⟩ := mBind_some h1
  obtain ⟨rfl, rfl⟩ := mRet_some h6
  obtain ⟨d2, e4, h7, h8⟩ := mBind_some h5
  obtain ⟨h9, rfl⟩ := mOpt_some h8
  refine ⟨F, A, e, s, w, d2, _, h7, fun F1 A1 v H1 s1 r1 w1 x1 => ?_⟩
  unfold recO at h9
  split at h9
  case h_2 => cases h9
  split at h9
  case isFalse => cases h9
  rename_i hC
  obtain ⟨rfl, hC⟩ := hC
  cases h9
  have r1' := r1
  simp only [Rep] at r1
  obtain ⟨p, dx, xs, rfl, h10, h11, h12⟩ := r1
  refine ⟨p, dx, _, rfl, w1.sub _ _ h10, look_none _ _ hC, ?_⟩
  refine ⟨F1, A1, _, s1, w1, ts1, _, h3, fun F2 A2 B2 vs H2 s2 o2 b2 w2 x2 => ?_⟩
  exact z F2 A2 B2 (V.ref p :: vs) H2 s2 (by simp only [OTs, OT]; exact ⟨[], B2, _, vs, rfl, rfl, ⟨rfl, Rep.mono x2.fz _ _ r1'⟩, o2⟩) ⟨_, _, rfl, b2⟩ w2 (x1.trans x2)
theorem je_meth0 {ad : Addr} {k : Nat} {ps : List Str} {g : Fn} {mo : M D} {pl : Sem Bool} (c : Cls X.K C) (hm : Meth X.K C m ad) (G : FnT X.prog X.w X.K X.mg X.base ad k ps g) (hr : Room k X.A) (ho : JD X o mo)
    (ht : eval (.Call (.Attribute o m apos) [] [] pos) X.env = (do
      let ov ← eval o X.env
      standAt apos.atName
      let (f, first) ← holding [ov] (getMethod ov m pl)
      callWith pos f first [] []) := by rfl) :
    JE X (.Call (.Attribute o m apos) [] [] pos) (mCallF g [none] (mCons (mT (mRec C m mo)) (mRet []))) := by
  obtain ⟨fd, b, ok⟩ := G.ex
  refine pe_imp (pe_meth0 ho c hm ok hr b .nil pass0 ht) fun σ H Q q => ?_
  have z := call_read q
  obtain ⟨F, A, e, s, w, ts, e', hm, z⟩ := z
  obtain ⟨t1, e1, h1, h2⟩ := mBind_some hm
  obtain ⟨ts1, e2, h3, h4⟩ := mBind_some h2
  obtain ⟨rfl, rfl⟩ := mRet_some h4
  obtain ⟨rfl, rfl⟩ := mRet_some h3
  obtain ⟨d1, e3, h5, h6⟩ := mBind_some h1
  obtain ⟨rfl, rfl⟩ := mRet_some h6
  obtain ⟨d2, e4, h7, h8⟩ := mBind_some h5
  obtain ⟨h9, rfl⟩ := mOpt_some h8
  refine ⟨F, A, e, s, w, d2, _, h7, fun F1 A1 v H1 s1 r1 w1 x1 => ?_⟩
  unfold recO at h9
  split at h9
  case h_2 => cases h9
  split at h9
  case isFalse => cases h9
  rename_i hC
  obtain ⟨rfl, hC⟩ := hC
  cases h9
  have r1' := r1
  simp only [Rep] at r1
  obtain ⟨p, dx, xs, rfl, h10, h11, h12⟩ := r1
  refine ⟨p, dx, _, rfl, w1.sub _ _ h10, look_none _ _ hC, ?_⟩
  exact z F1 A1 [] (V.ref p :: []) H1 s1 (by simp only [OTs, OT]; exact ⟨[], [], _, [], rfl, rfl, ⟨rfl, r1'⟩, rfl, rfl⟩) ⟨_, _, rfl, rfl⟩ w1.nil x1.nil
/-- C(..) -/
def mMake (C : Addr) (g : Fn) (bk : List (Option Nat)) (ma : M (List T)) : M T := fun e => match ma e with
  | some (ts, e1) => (match g (.obj C [] [] :: ts) with
    | some (.fz .non, t :: ts') => (putB bk ts' e1).map fun e2 => (t, e2)
    | _ => none)
  | none => none
theorem make_read {g : Fn} {bk : List (Option Nat)} {ma : M (List T)} {Q : VK} (q : rdE K (mMake C g bk ma) σ H Q) : tMake C (spT K g) [] E0 (rdArg K ma bk) σ H Q := by
  obtain ⟨F, A, e, s, w, r, e', hm, q⟩ := q
  unfold mMake at hm
  split at hm
  case h_2 => cases hm
  rename_i ts e1 h1
  split at hm
  case h_2 => cases hm
  rename_i t ts' h2
  obtain ⟨e2, h3, h4⟩ := Option.map_eq_some_iff.mp hm
  cases h4
  refine ⟨F, A, e, s, w, ts, e1, h1, fun F1 A1 B1 vs H1 s1 o1 b1 w1 x1 => ?_⟩
  intro x dx hx hdx hne
  show spT K g (V.ref x :: (vs ++ [])) _ _ E0
  rw [List.append_nil]
  have g1 := Wf.newO (o := .own x) w1 hdx
  have y1 := Ext.newO (F := F1) (A := A1 ++ B1) (o := .own x) hdx
  have hx' : upd H1 dx (.own x) x = none := by rw [upd_ne (fun z => hne z.symm)]; exact hx
  have g2 := Wf.newO (o := .ins C dx []) g1 hx'
  have y2 := y1.trans (Ext.newO (F := F1) (o := .ins C dx []) hx')
  have pp : ((A1 ++ B1) ++ [dx] ++ [x]).Perm ((x :: dx :: B1) ++ A1) := by
    have : ((A1 ++ B1) ++ [dx] ++ [x]).Perm ([x] ++ ([dx] ++ (B1 ++ A1))) := by
      refine List.perm_append_comm.trans (List.Perm.append_left [x] ?_)
      exact List.perm_append_comm.trans (List.Perm.append_left [dx] List.perm_append_comm)
    simpa using this
  have g3 := g2.perm pp
  have sI : Sub H1 (upd (upd H1 dx (.own x)) x (.ins C dx [])) := fun b u h => by
    rw [upd_ne (ne_of_none h hx), upd_ne (ne_of_none h hdx)]; exact h
  have nb : ∀ b ∈ A1 ++ B1, upd (upd H1 dx (.own x)) x (.ins C dx []) b = H1 b := fun b hb => by
    obtain ⟨u, hu⟩ := w1.dom b hb
    rw [sI b u hu, hu]
  refine ⟨F1, x :: dx :: B1, _, ?_, g3.left, _, _, h2, fun F2 A2 B2 v H2 o2 r2 w2 x2 => ?_⟩
  · simp only [OTs, OT]
    exact ⟨[x, dx], B1, _, vs, by simp, rfl, ⟨x, dx, [], [], rfl, rfl, upd_same, by rw [upd_ne hne, upd_same], rfl, rfl, rfl⟩, o1.mono (fun _ _ h => h) _ _ _ fun b hb => nb b (by simp [hb])⟩
  · simp only [OT, Rep] at r2
    obtain ⟨rfl, rfl⟩ := r2
    refine ⟨rfl, ?_⟩
    simp only [List.append_nil] at w2 x2
    simp only [OTs] at o2
    obtain ⟨C1, C2, z, zs, rfl, hz, o3, o4⟩ := o2
    cases hz
    have w3 : Wf F2 ((C1 ++ C2) ++ A1) H2 := Wf.frame g3 x2 w2
    have s2 : SR K F2 H2 A1 σ e1 := by
      obtain ⟨A0, p0, z0⟩ := s1
      have z1 : SR K F1 (upd (upd H1 dx (.own x)) x (.ins C dx [])) A1 σ e1 := ⟨A0, p0, z0.mono (fun _ _ h => h) _ _ _ fun b hb => nb b (by simp [p0.mem_iff.mp hb])⟩
      exact z1.frame g3 x2
    have p3 : ((C1 ++ C2) ++ A1).Perm ((A1 ++ C2) ++ C1) := by
      refine List.perm_append_comm.trans ?_
      rw [List.append_assoc]
      exact List.Perm.append_left A1 List.perm_append_comm
    have w4 := w3.perm p3
    obtain ⟨A', q1, q2, q3⟩ := putB_sr bk ts' vs e1 _ A1 C2 s2 o4 b1 h3 w4.left
    refine q F2 A' C1 (V.ref x) H2 q1 o3 (Wf.frame w4 (Ext.refl.mem (fun _ h => h) q3) q2) (((x1.trans y2).trans ((x2.frame (B := A1)).mem (fun a ha => ?_) fun _ h => h)).mem (fun _ h => h) fun a ha => ?_)
    · exact pp.mem_iff.mpr ha
    · refine p3.mem_iff.mpr ?_
      rcases List.mem_append.mp ha with h | h
      · exact List.mem_append_left _ (q3 a h)
      · exact List.mem_append_right _ h
theorem je_make {x : Str} {fi : Addr} {k : Nat} {ps : List Str} {g : Fn} {ma : M (List T)} {bk : List (Option Nat)} (Mx : Mk X.K C fi) (G : FnT X.prog X.w X.K X.mg X.base fi k ps g) (hr : Room (k + 1) X.A) (hm : X.mg x = some (.ref C)) (ha : JArg X (a :: es) ma bk) (hg : Gl X x := by rfl)
    (hdb : (x == ("__debug__" : Str)) = false := by decide) (he : starEach (a :: es) X.env = (false, eval a X.env) :: starEach es X.env := by rfl) (hpl : (backTo pos (starEach es X.env)).any (·.1) = false := by rfl) : JE X (.Call (.Name x p) (a :: es) [] pos) (mMake C g bk ma) := by
  obtain ⟨fd, b, ok⟩ := G.ex
  exact pe_imp (pe_make Mx ok hr hg hm b .nil pass0 ha hdb he hpl) fun σ H Q q => make_read q
/-! ### a field of a local object is stored -/
def putNs (f : Str) : List Str → List Str
  | [] => [f]
  | n :: ns => if n = f then n :: ns else n :: putNs f ns
def putTs {α : Type} (f : Str) (x : α) : List Str → List α → List α
  | [], _ => [x]
  | n :: ns, y :: ys => if n = f then x :: ys else y :: putTs f x ns ys
  | _ :: _, [] => []
theorem putF_zip {y : V} : ∀ (ns : List Str) (xs : List V), xs.length = ns.length → putF f y (ns.zip xs) = (putNs f ns).zip (putTs f y ns xs)
  | [], xs, h => by
    have : xs = [] := by simpa using h
    subst this; rfl
  | n :: ns, [], h => by simp at h
  | n :: ns, x :: xs, h => by
    rw [List.zip_cons_cons]
    simp only [putF, putNs, putTs]
    by_cases q : n = f
    · simp [q]
    · simp [q, putF_zip ns xs (by simpa using h)]
theorem putTs_len {α : Type} {x : α} : ∀ (ns : List Str) (xs : List α), xs.length = ns.length → (putTs f x ns xs).length = (putNs f ns).length
  | [], xs, h => by simp [putTs, putNs]
  | n :: ns, [], h => by simp at h
  | n :: ns, y :: ys, h => by
    simp only [putTs, putNs]
    by_cases q : n = f
    · simp [q]; simpa using h
    · simp [q, putTs_len ns ys (by simpa using h)]
theorem ots_putTs {t : T} {y : V} (ht : OT K F H B y t) : ∀ (ns : List Str) (ts : List T) (A : List Addr) (xs : List V), OTs K F H A xs ts → ts.length = ns.length → ∃ A' A'', OTs K F H A' (putTs f y ns xs) (putTs f t ns ts) ∧ (A ++ B).Perm (A' ++ A'')
  | [], ts, A, xs, h, hl => by
    have : ts = [] := by simpa using hl
    subst this
    simp only [OTs] at h
    obtain ⟨rfl, rfl⟩ := h
    exact ⟨B, [], by simp only [putTs]; exact ots_one ht, by simp⟩
  | n :: ns, [], A, xs, h, hl => by simp at hl
  | n :: ns, u :: ts, A, xs, h, hl => by
    simp only [OTs] at h
    obtain ⟨A1, A2, x, r, rfl, rfl, h1, h2⟩ := h
    simp only [putTs]
    by_cases q : n = f
    · simp only [q, if_true]
      refine ⟨B ++ A2, A1, ?_, ?_⟩
      · simp only [OTs]
        exact ⟨B, A2, y, r, rfl, rfl, ht, h2⟩
      · rw [List.append_assoc]
        exact List.perm_append_comm.trans ((List.perm_append_comm (l₁ := A2) (l₂ := B)).append_right A1)
    · simp only [q, if_false]
      obtain ⟨A', A'', z1, z2⟩ := ots_putTs ht ns ts A2 r h2 (by simpa using hl)
      refine ⟨A1 ++ A', A'', ?_, ?_⟩
      · simp only [OTs]
        exact ⟨A1, A', x, _, rfl, rfl, h1, z1⟩
      · rw [List.append_assoc, List.append_assoc]
        exact List.Perm.append_left A1 z2
def mSetF (C : Addr) (f : Str) (i : Nat) (m : M T) : MS := fun e => match m e with
  | some (t, e1) => (match e1[i]? with
    | some (some (.obj C' ns ts)) => if C' = C ∧ ns.length < 1000 ∧ ts.length = ns.length then some (.nx, e1.set i (some (.obj C (putNs f ns) (putTs f t ns ts)))) else none
    | _ => none)
  | none => none
theorem js_fld {i : Nat} {m : M T} {pos' : Pos} (c : Cls X.K C) (n : NoAttr X.K C f) (ho : PE X o (tVar i)) (h : JE X a m) (hs : swapsWith a (some (.Attribute o f pos')) pos.line X.env = pure false := by rfl) : JS X W (.Assign [.Attribute o f pos'] a pos) (mSetF C f i m) := ps_imp (ps_fld ho h hs) fun D σ H q => by
  obtain ⟨F, A, e, s, w, fl, e', hm, q⟩ := q
  unfold mSetF at hm
  split at hm
  case h_2 => cases hm
  rename_i t e1 h1
  split at hm
  case h_2 => cases hm
  rename_i C' ns ts h2
  split at hm
  case isFalse => cases hm
  rename_i hC
  obtain ⟨rfl, hl, htl⟩ := hC
  cases hm
  refine ⟨F, A, e, s, w, t, e1, h1, fun F1 A1 B1 y H1 s1 r1 w1 x1 => ?_⟩
  obtain ⟨v, D1, D2, q1, q2, q3, q4⟩ := s1.take h2
  simp only [OT] at q3
  obtain ⟨ad, dx, B0, xs, rfl, rfl, h3, h4, h5, h6⟩ := q3
  refine ⟨_, q1, ad, C', dx, _, rfl, h3, c, n, by rw [List.length_zip, h5]; simpa using hl, ?_⟩
  rw [putF_zip ns xs h5]
  obtain ⟨E1, E2, o1, p1⟩ := ots_putTs (f := f) r1 ns ts B0 xs h6 htl
  have pp : (A1 ++ B1).Perm ((D2 ++ (ad :: dx :: E1)) ++ E2) := by
    refine (q2.append_right B1).trans ?_
    rw [List.append_assoc, List.append_assoc]
    refine List.Perm.append_left D2 ?_
    simp only [List.cons_append]
    exact List.Perm.cons ad (List.Perm.cons dx p1)
  have w2 := w1.perm pp
  have nd := w2.left.nd
  have hne : ∀ b, b ∈ D2 ∨ b = dx ∨ b ∈ E1 → b ≠ ad := fun b hb z => by
    subst z
    rw [List.nodup_append] at nd
    obtain ⟨_, n2, n3⟩ := nd
    simp only [List.nodup_cons, List.mem_cons, not_or] at n2
    rcases hb with hb | hb | hb
    · exact n3 b hb b (by simp) rfl
    · exact n2.1.1 hb
    · exact n2.1.2 hb
  have hin : ad ∈ D2 ++ (ad :: dx :: E1) := by simp
  have s2 : SR X.K F1 (upd H1 ad (.ins C' dx ((putNs f ns).zip (putTs f y ns xs)))) D2 σ (e1.set i none) := by
    obtain ⟨A0, p0, z0⟩ := q4
    exact ⟨A0, p0, z0.mono (fun _ _ h => h) _ _ _ fun b hb => upd_ne (hne b (.inl (p0.mem_iff.mp hb)))⟩
  have ot : OT X.K F1 (upd H1 ad (.ins C' dx ((putNs f ns).zip (putTs f y ns xs)))) (ad :: dx :: E1) (.ref ad) (.obj C' (putNs f ns) (putTs f t ns ts)) := by
    simp only [OT]
    exact ⟨ad, dx, E1, _, rfl, rfl, upd_same, by rw [upd_ne (hne dx (.inr (.inl rfl)))]; exact h4, putTs_len ns xs h5, o1.mono (fun _ _ h => h) _ _ _ fun b hb => upd_ne (hne b (.inr (.inr hb)))⟩
  have s3 := s2.back ot (by rw [List.getElem?_set_self (List.getElem?_eq_some_iff.mp h2).1]) q1
  rw [List.set_set] at s3
  have x2 : Ext F A H F1 ((D2 ++ (ad :: dx :: E1)) ++ []) (upd H1 ad (.ins C' dx ((putNs f ns).zip (putTs f y ns xs)))) := by
    rw [List.append_nil]
    exact x1.trans ((Ext.write (F := F1) (A := A1 ++ B1) (H := H1) (p := ad) (pp.mem_iff.mpr (by simp))).mem (fun _ h => h) fun b hb => pp.mem_iff.mpr (List.mem_append_left _ hb))
  exact q F1 _ [] σ _ s3 (w2.left.write hin).nil x2 Kept.refl rfl
/-! ### the module's constants, its tables -/
theorem jd_glob {x : Str} {v : V} {u : Value} {d : D} (hm : X.mg x = some u) (r : RelV v u) (hd : ∀ F, Rep X.K F v d) (hg : Gl X x := by rfl) (hdb : (x == ("__debug__" : Str)) = false := by decide) : JD X (.Name x pos) (mRet d) := jd_c (pe_glob hg hm r hdb) hd
/-- a table with text keys, of ints -/
def Tab (K : PySem.W.Frag) (w : World) (ad : Addr) (kvs : List (Str × Int)) : Prop := (∃ es n, KDict K w ad es n) ∧ ∀ q ∈ kvs, ∃ u, PySem.W.nsIn K ad q.1 = some (some u) ∧ RelV (.int q.2) u
def tabO (kvs : List (Str × Int)) : D → Option Int
  | .str z => kvs.lookup z
  | _ => none
theorem lookup_in {z : Str} {k : Int} : ∀ {kvs : List (Str × Int)}, kvs.lookup z = some k → (z, k) ∈ kvs
  | [], h => by simp at h
  | (y, j) :: r, h => by
    rw [List.lookup_cons] at h
    cases q : z == y with
    | true =>
      rw [q] at h
      cases h
      have : z = y := by simpa using q
      subst this
      exact List.mem_cons_self
    | false =>
      rw [q] at h
      exact List.mem_cons_of_mem _ (lookup_in h)
theorem jd_notInTab {m : M D} {ad : Addr} {kvs : List (Str × Int)} (t : Tab X.K X.w ad kvs) (ha : JD X a m) (hb : PE X b (tC (.ref ad))) (hm : behindInMarks .NotIn b = false := by rfl) : JD X (.Compare a [.NotIn] [b] pos) (mUn (fun d => (tabO kvs d).map fun _ => .bl false) m) := by
  obtain ⟨⟨es, n, kd⟩, ht⟩ := t
  refine pe_imp (pe_cmpR (op_notIn_kd kd) ha hb hm) fun σ H Q q => ?_
  obtain ⟨F, A, e, s, w, d, e', hm, q⟩ := q
  obtain ⟨x, e1, h1, h2⟩ := mBind_some hm
  obtain ⟨h3, rfl⟩ := mOpt_some h2
  obtain ⟨k, h4, rfl⟩ := Option.map_eq_some_iff.mp h3
  refine ⟨F, A, e, s, w, x, _, h1, fun F1 A1 v H1 s1 r1 w1 x1 => ?_⟩
  cases x <;> simp only [tabO, reduceCtorEq] at h4
  rename_i z
  simp only [Rep] at r1
  subst r1
  obtain ⟨u, h5, h6⟩ := ht (z, k) (lookup_in h4)
  exact ⟨z, some u, rfl, rfl, h5, q F1 A1 _ H1 s1 (by simp [Rep]) w1 x1⟩
theorem jt_notInTab {m : M D} {ad : Addr} {kvs : List (Str × Int)} (t : Tab X.K X.w ad kvs) (ha : JD X a m) (hb : PE X b (tC (.ref ad))) (hm : behindInMarks .NotIn b = false := by rfl) : JT X (.Compare a [.NotIn] [b] pos) (mB (mUn (fun d => (tabO kvs d).map fun _ => .bl false) m)) := by
  obtain ⟨⟨es, n, kd⟩, ht⟩ := t
  refine pt_imp (pt_cmpR (op_notIn_kd kd) ha hb hm) fun σ H Q q => ?_
  obtain ⟨F, A, e, s, w, d, e', hm, q⟩ := rd_test q
  obtain ⟨x, e1, h1, h2⟩ := mBind_some hm
  obtain ⟨h3, rfl⟩ := mOpt_some h2
  obtain ⟨k, h4, rfl⟩ := Option.map_eq_some_iff.mp h3
  refine ⟨F, A, e, s, w, x, _, h1, fun F1 A1 v H1 s1 r1 w1 x1 => ?_⟩
  cases x <;> simp only [tabO, reduceCtorEq] at h4
  rename_i z
  simp only [Rep] at r1
  subst r1
  obtain ⟨u, h5, h6⟩ := ht (z, k) (lookup_in h4)
  exact ⟨z, some u, rfl, rfl, h5, q F1 A1 _ H1 s1 (by simp [Rep]) w1 x1⟩
theorem jd_tab {m : M D} {ad : Addr} {kvs : List (Str × Int)} (t : Tab X.K X.w ad kvs) (ha : PE X a (tC (.ref ad))) (hb : JD X b m) (hs : PlainIx b := by intro _ _; rfl) : JD X (.Subscript a b pos) (mUn (fun d => (tabO kvs d).map .int) m) := by
  obtain ⟨⟨es, n, kd⟩, ht⟩ := t
  refine pe_imp (pe_ix ix_kdict ha hb hs) fun σ H Q q => ?_
  obtain ⟨F, A, e, s, w, d, e', hm, q⟩ := q
  obtain ⟨x, e1, h1, h2⟩ := mBind_some hm
  obtain ⟨h3, rfl⟩ := mOpt_some h2
  obtain ⟨k, h4, rfl⟩ := Option.map_eq_some_iff.mp h3
  refine ⟨F, A, e, s, w, x, _, h1, fun F1 A1 v H1 s1 r1 w1 x1 => ?_⟩
  cases x <;> simp only [tabO, reduceCtorEq] at h4
  rename_i z
  simp only [Rep] at r1
  subst r1
  obtain ⟨u, h5, h6⟩ := ht (z, k) (lookup_in h4)
  exact ⟨ad, z, .int k, rfl, rfl, ⟨es, n, u, kd.at_, kd.lit, h5, h6⟩, q F1 A1 _ H1 s1 (by simp [Rep]) w1 x1⟩
end
end Fw

/-! Fw12 -/
set_option Elab.async false
set_option linter.all false
set_option maxRecDepth 100000
set_option maxHeartbeats 4000000
namespace Fw
open PySem PySem.Spec PyProof.Rows L2
section
variable {X : Cx} {W : List Nat} {K : PySem.W.Frag} {F F' F1 F2 H H' H1 H2 : Hp} {A A' A1 A2 B C : List Addr} {σ σ' : L2.St} {e e' : Fw.Env} {a b c tg elt iter : Expr} {es ifs : List Expr} {pos p : Pos}
/-! ### + and * of ints, texts, tuples, lists -/
def oAdd (x y : D) : Option T := match x, y with
  | .int i, .int j => some (.fz (.int (i + j)))
  | .str s, .str t => if s.length + t.length ≤ sizeLine then some (.fz (.str (s ++ t))) else none
  | .tup xs, .tup ys => if xs.length + ys.length ≤ sizeLine then some (.fz (.tup (xs ++ ys))) else none
  | .lst xs, .lst ys => if xs.length + ys.length ≤ sizeLine then some (.lst ((xs ++ ys).map T.fz)) else none
  | _, _ => none
def oMul (x y : D) : Option T := match x, y with
  | .int i, .int j => if CMulX i j then some (.fz (.int (i * j))) else none
  | .lst xs, .int k => if k.natAbs.log2 < 60 ∧ xs.length * k.toNat ≤ sizeLine then some (.lst (((List.replicate k.toNat xs).flatten).map T.fz)) else none
  | _, _ => none
theorem rng63 {j : Int} (h : j.natAbs.log2 < 60) : -(2 ^ 63) ≤ j ∧ j < 2 ^ 63 := by
  have h0 := rng_ok h
  have h2 : (2 : Int) ^ 63 = 9223372036854775808 := by decide
  have h3 : (2 : Int) ^ 62 = 4611686018427387904 := by decide
  rw [h3] at h0
  rw [h2]
  omega
theorem je_fin {Q : VK} {v : V} {d : D} (s : SR K F H A σ e) (r : Rep K F v d) (w : Wf F A H) (x : Ext F1 A1 H1 F A H) (q : ∀ F' A' B v H', SR K F' H' A' σ e → OT K F' H' B v (.fz d) → Wf F' (A' ++ B) H' → Ext F1 A1 H1 F' (A' ++ B) H' → Q v H') : Q v H :=
  q F A [] v H s (by simp only [OT]; exact ⟨trivial, r⟩) w.nil x.nil
theorem je_add {ma mb : M D} (ha : JD X a ma) (hb : JD X b mb) : JE X (.BinOp a .Add b pos) (mOpT oAdd ma mb) := by
  refine pe_imp (pe_op (opR_or op_add (opR_or op_add_str (opR_or op_catA op_cat))) ha hb) fun σ H Q q => ?_
  obtain ⟨F, A, e, s, w, d, e', hm, q⟩ := q
  refine two s w hm fun x y e2 F2 A2 u v H2 h4 s2 r1 r2 w2 x2 => ?_
  obtain ⟨h5, rfl⟩ := mOpt_some h4
  cases x <;> cases y <;> simp only [oAdd, reduceCtorEq, Option.some.injEq] at h5
  · simp only [Rep] at r1 r2
    subst h5
    exact .inl ⟨_, _, r1, r2, je_fin s2 (by simp only [Rep]) w2 x2 q⟩
  · split at h5
    · rename_i hz
      cases h5
      simp only [Rep] at r1 r2
      exact .inr (.inl ⟨_, _, r1, r2, hz, je_fin s2 (by simp only [Rep]) w2 x2 q⟩)
    · cases h5
  · split at h5
    · rename_i ds es hz
      cases h5
      simp only [Rep] at r1 r2
      obtain ⟨p, xs, rfl, h6, h7⟩ := r1
      obtain ⟨p2, ys, rfl, h8, h9⟩ := r2
      have l1 := Reps.length _ _ h7
      have l2 := Reps.length _ _ h9
      refine .inr (.inr (.inl ⟨p, p2, xs, ys, rfl, rfl, w2.sub.sqT h6, w2.sub.sqT h8, by rw [l1, l2]; exact hz, fun h0 => ?_, fun h0 h1 => ?_, fun h0 h1 t ht => ?_⟩))
      · subst h0
        have : ds = [] := by cases ds <;> simp_all
        subst this
        exact je_fin s2 (by simp only [Rep]; exact ⟨p2, ys, rfl, h8, h9⟩) w2 x2 q
      · subst h1
        have : es = [] := by cases es <;> simp_all
        subst this
        exact je_fin s2 (by simp only [Rep, List.append_nil]; exact ⟨p, xs, rfl, h6, h7⟩) w2 x2 q
      · have g := Gr.new (o := .tup (xs ++ ys)) w2 ht
        exact je_fin (g.sr w2 s2) (by simp only [Rep]; exact ⟨t, _, rfl, .inl (.inl upd_same), Reps.mono g.x.fz _ _ (reps_app _ _ h7 h9)⟩) (g.wf w2) (x2.trans g.ext) q
    · cases h5
  · split at h5
    · rename_i hz
      cases h5
      simp only [Rep] at r1 r2
      obtain ⟨p, xs, rfl, h6, h7⟩ := r1
      obtain ⟨p2, ys, rfl, h8, h9⟩ := r2
      refine .inr (.inr (.inr ⟨p, p2, xs, ys, rfl, rfl, w2.sub _ _ h6, w2.sub _ _ h8, by rw [Reps.length _ _ h7, Reps.length _ _ h9]; exact hz, fun t ht => ?_⟩))
      exact fin_lst ht s2 w2 (reps_app _ _ h7 h9) fun F3 A3 B3 v3 H3 s3 r3 w3 x3 => q F3 A3 B3 v3 H3 s3 r3 w3 (x2.trans x3)
    · cases h5
theorem je_mul {ma mb : M D} (ha : JD X a ma) (hb : JD X b mb) : JE X (.BinOp a .Mult b pos) (mOpT oMul ma mb) := by
  refine pe_imp (pe_op (opR_or op_mulX op_rep) ha hb) fun σ H Q q => ?_
  obtain ⟨F, A, e, s, w, d, e', hm, q⟩ := q
  refine two s w hm fun x y e2 F2 A2 u v H2 h4 s2 r1 r2 w2 x2 => ?_
  obtain ⟨h5, rfl⟩ := mOpt_some h4
  cases x <;> cases y <;> simp only [oMul, reduceCtorEq, Option.some.injEq] at h5
  · split at h5
    · rename_i hz
      cases h5
      simp only [Rep] at r1 r2
      exact .inl ⟨_, _, r1, r2, hz, je_fin s2 (by simp only [Rep]) w2 x2 q⟩
    · cases h5
  · split at h5
    · rename_i hz
      cases h5
      simp only [Rep] at r1 r2
      obtain ⟨p, xs, rfl, h6, h7⟩ := r1
      refine .inr ⟨p, _, xs, rfl, r2, w2.sub _ _ h6, (rng63 hz.1).1, (rng63 hz.1).2, by rw [Reps.length _ _ h7]; exact hz.2, fun t ht => ?_⟩
      exact fin_lst ht s2 w2 (reps_rep h7 _) fun F3 A3 B3 v3 H3 s3 r3 w3 x3 => q F3 A3 B3 v3 H3 s3 r3 w3 (x2.trans x3)
    · cases h5
/-! ### slices -/
def slO : D → Option Int → Option Int → Option T
  | .tup ds, lo, hi => some (.fz (.tup (cutD ds lo hi)))
  | .lst ds, lo, hi => some (.lst ((cutD ds lo hi).map T.fz))
  | .scr ns, lo, hi => some (.lst ((cutD ns lo hi).map fun n => T.fz (.int n)))
  | _, _, _ => none
theorem je_sl {m : M D} {l h : M (Option Int)} {lo hi : Option Expr} {p2 : Pos} (ha : JD X a m) (hl : JO X lo l) (hh : JO X hi h) : JE X (.Subscript a (.Slice lo hi none p2) pos) (mSl m l h slO) := by
  refine pe_imp (pe_slice (sl_list.or sl_tupA) ha hl hh) fun σ H Q q => ?_
  obtain ⟨F, A, e, s, w, d, e', hm, q⟩ := q
  refine three s w hm fun x lo hi e2 F2 A2 v H2 h4 h5 s2 r1 w2 x2 => ?_
  subst h5
  cases x <;> simp only [slO, reduceCtorEq, Option.some.injEq] at h4
  · rename_i ds
    subst h4
    simp only [Rep] at r1
    obtain ⟨p, xs, rfl, h6, h7⟩ := r1
    refine .inr ⟨p, xs, rfl, w2.sub.sqT h6, fun hw => ?_, fun _ t ht => ?_⟩
    · have e1 : cutD ds lo hi = ds := by
        unfold cutD
        rw [← Reps.length ds xs h7]
        rw [hw.1, hw.2]
        simp [Reps.length ds xs h7]
      rw [e1] at q
      exact je_fin s2 (by simp only [Rep]; exact ⟨p, xs, rfl, h6, h7⟩) w2 x2 q
    · have g := Gr.new (o := .tup (cutV xs lo hi)) w2 ht
      exact je_fin (g.sr w2 s2) (by simp only [Rep]; exact ⟨t, _, rfl, .inl (.inl upd_same), Reps.mono g.x.fz _ _ (reps_cut h7)⟩) (g.wf w2) (x2.trans g.ext) q
  · rename_i ds
    subst h4
    simp only [Rep] at r1
    obtain ⟨p, xs, rfl, h6, h7⟩ := r1
    refine .inl ⟨p, xs, rfl, SqL.of (w2.sub _ _ h6), fun t ht => ?_⟩
    exact fin_lst ht s2 w2 (reps_cut h7) fun F3 A3 B3 v3 H3 s3 r3 w3 x3 => q F3 A3 B3 v3 H3 s3 r3 w3 (x2.trans x3)
  · rename_i ns
    subst h4
    simp only [Rep] at r1
    obtain ⟨p, rfl, h6⟩ := r1
    refine .inl ⟨p, _, rfl, w2.sub.sqL h6, fun t ht => ?_⟩
    have z : cutD (ns.map D.int) lo hi = (cutD ns lo hi).map D.int := by
      unfold cutD
      simp [List.map_drop, List.map_take]
    exact fin_lst (Q := Q) ht s2 w2 (reps_cut (lo := lo) (hi := hi) (reps_map_int ns)) fun F3 A3 B3 v3 H3 s3 r3 w3 x3 => q F3 A3 B3 v3 H3 s3 (by rw [z, List.map_map] at r3; exact r3) w3 (x2.trans x3)
/-! ### for x in a list or a tuple -/
theorem pi_or {it : Expr} {t u : TI} (h : PI X tg it t) (h2 : PI X tg it u) : PI X tg it (fun σ H R => t σ H R ∨ u σ H R) := ⟨fun pins s σ H R I q => by
  rcases q with q | q
  · exact h.run pins s σ H R I q
  · exact h2.run pins s σ H R I q⟩
def mSq (m : M D) : M (List D) := mBind m fun d => mOpt (seqD d)
theorem ji_seq {m : M D} (h : JD X a m) : JI X tg a (mSq m) := pi_imp (pi_or (ji_list h) (ji_tup h)) fun σ H R q => by
  obtain ⟨F, A, e, s, w, ds, e', hm, q⟩ := q
  obtain ⟨d, e1, h1, h2⟩ := mBind_some hm
  obtain ⟨h3, rfl⟩ := mOpt_some h2
  cases d <;> simp only [seqD, reduceCtorEq, Option.some.injEq] at h3
  · subst h3
    exact .inr ⟨F, A, e, s, w, _, _, by simp only [mSeqT, mBind, h1, mOpt], q⟩
  · subst h3
    exact .inl ⟨F, A, e, s, w, _, _, by simp only [mSeqL, mBind, h1, mOpt], q⟩
/-! ### two for in one comprehension -/
def loopC2 (vs vs1 : List Nat) (g : G) (c : M Bool) (m1 : M (List D)) (g1 : G) (c1 : M Bool) (el : M T) : List D → List T → M (List T)
  | [], acc, e => some (acc, e)
  | d :: ds, acc, e => match g (.fz d) (wipeE e vs) with
    | none => none
    | some e1 => match c e1 with
      | some (true, e2) => (match m1 e2 with
        | some (ds1, e3) => if vs1.all (fzOk e3) = true then (match loopC vs1 g1 c1 el ds1 acc e3 with
          | some (acc2, e4) => if vs.all (fzOk (wipeE e4 vs1)) = true then loopC2 vs vs1 g c m1 g1 c1 el ds acc2 (wipeE e4 vs1) else none
          | none => none) else none
        | none => none)
      | some (false, e2) => if vs.all (fzOk e2) = true then loopC2 vs vs1 g c m1 g1 c1 el ds acc e2 else none
      | none => none
def mLc2 (vs vs1 : List Nat) (m : M (List D)) (g : G) (c : M Bool) (m1 : M (List D)) (g1 : G) (c1 : M Bool) (el : M T) : M T := fun e => match m e with
  | some (ds, e1) => if vs.all (fzOk e1) = true then (match loopC2 vs vs1 g c m1 g1 c1 el ds [] e1 with
    | some (acc, e2) => some (.lst acc, restE e1 vs (wipeE e2 vs))
    | none => none) else none
  | none => none
theorem wipe_wipe {vs vs1 : List Nat} {σ : L2.St} (h : ∀ i ∈ vs1, i ∈ vs) : L2.wipe (L2.wipe σ vs1) vs = L2.wipe σ vs := by
  have : Kept vs (L2.wipe σ vs) (L2.wipe (L2.wipe σ vs1) vs) := ⟨fun i hi => by
    rw [wipe_out hi, wipe_out hi, wipe_out fun z => hi (h i z)], by rw [wipe_length, wipe_length, wipe_length]⟩
  have z := wipe_kept this
  have g : ∀ (τ : L2.St), L2.wipe (L2.wipe τ vs) vs = L2.wipe τ vs := fun τ => by
    have : Kept vs (L2.wipe τ vs) (L2.wipe τ vs) := Kept.refl
    exact wipe_kept this
  rw [g] at z
  exact z

theorem lc2_read {vs vs1 : List Nat} (nd : vs.Nodup) (sub1 : ∀ i ∈ vs1, i ∈ vs) {m m1 : M (List D)} {g g1 : G} {mc mc1 : M Bool} {el : M T} {σ : L2.St} {H : Hp} {Q : VK} (q : rdE K (mLc2 vs vs1 m g mc m1 g1 mc1 el) σ H Q) :
    tLc2 (rdI K m) (rdG K vs g) (rdT K mc) (rdI K m1) (rdG K vs1 g1) (rdT K mc1) (rdE K el) vs vs1 σ H Q := by
  obtain ⟨F, A, e, s, w, t, eF, hm, q⟩ := q
  unfold mLc2 at hm
  split at hm
  case h_2 => cases hm
  rename_i ds e1 h1
  split at hm
  case isFalse => cases hm
  rename_i hv
  split at hm
  case h_2 => cases hm
  rename_i accN eN h2
  cases hm
  have hv1 : ∀ i ∈ vs, fzOk e1 i = true := fun i hi => List.all_eq_true.mp hv i hi
  refine ⟨F, A, e, s, w, ds, e1, h1, fun F1 A1 J H1 s1 w1 x1 it D hD => ?_⟩
  refine ⟨fun i n H5 => n = ds.length - i ∧ i ≤ ds.length ∧ ∃ F5 A5 B5 e5 acc xs, SR K F5 H5 A5 (L2.wipe σ vs) (wipeE e5 vs) ∧ H5 D = some (.lst xs) ∧ OTs K F5 H5 B5 xs acc ∧ Wf F5 (A5 ++ D :: B5) H5 ∧ Ext F A H F5 (A5 ++ D :: B5) H5 ∧ Sub F1 F5 ∧ (∀ i ∈ vs, i < e5.length) ∧ loopC2 vs vs1 g mc m1 g1 mc1 el (ds.drop i) acc e5 = some (accN, eN),
    ⟨ds.length, by simp, Nat.zero_le _, F1, A1, [], e1, [], [], newO_sr w1 hD (s1.wipe vs hv1), upd_same, by simp [OTs], Wf.newO w1 hD, x1.trans (Ext.newO hD), fun _ _ h => h, fun i hi => fz_len (hv1 i hi), by simpa using h2⟩, ?_⟩
  rintro i n H0 ⟨rfl, hi, F0, A0, B0, e0, acc, xs, s2, hd2, o2, w2', x2, sb, hlen, h3⟩
  by_cases hlt : i < ds.length
  · refine .inr ⟨it.go F0 H0 sb w2'.sub i hlt, fun H3 => ∃ F3 A3 B3 e3 acc xs, SR K F3 H3 A3 (L2.wipe σ vs) (wipeE e3 vs) ∧ H3 D = some (.lst xs) ∧ OTs K F3 H3 B3 xs acc ∧ Wf F3 (A3 ++ D :: B3) H3 ∧ Ext F A H F3 (A3 ++ D :: B3) H3 ∧ Sub F1 F3 ∧ (∀ i ∈ vs, i < e3.length) ∧ loopC2 vs vs1 g mc m1 g1 mc1 el (ds.drop (i + 1)) acc e3 = some (accN, eN), fun H3 h => ⟨ds.length - (i + 1), by omega, rfl, hlt, h⟩, fun x H3 y => ?_⟩
    obtain ⟨F3, g3, r3⟩ := it.yld F0 _ H0 sb w2' i x H3 ds[i] (by simp [hlt]) y
    rw [List.drop_eq_getElem_cons hlt] at h3
    unfold loopC2 at h3
    split at h3
    case h_1 => cases h3
    rename_i e3 h4
    have w3 := g3.wf w2'
    have x3 := x2.trans (g3.ext (A := A0 ++ D :: B0))
    have s3 := g3.sr w2'.left s2
    have o3 : OTs K F3 H3 B0 xs acc := o2.frame (A1 := []) (B := B0) (by simpa using wf_sub (C := []) w2'.right (List.sublist_cons_self D B0)) g3.x
    have hd3 : H3 D = some (.lst xs) := g3.x.fr D _ hd2 (by simp)
    refine ⟨F3, A0, [], wipeE e0 vs, .fz ds[i], s3, by simp only [OT]; exact ⟨trivial, r3⟩, w3.left.nil, e3, h4, fun F4 A4 σ4 H4 s4 w4 x4 k4 => ?_⟩
    simp only [List.append_nil] at x4
    refine ⟨wipe_kept k4, ?_⟩
    have w4f := Wf.frame w3 x4 w4
    have x4f := x3.trans (x4.frame (B := D :: B0))
    have hd4 : H4 D = some (.lst xs) := x4.fr D _ hd3 fun z => w3.disj z (by simp)
    have o4 : OTs K F4 H4 B0 xs acc := o3.frame (A1 := A0) (wf_sub (C := []) w3 (by simp)) x4
    have sb4 : Sub F1 F4 := fun b o h => x4.fz _ _ (g3.x.fz _ _ (sb b o h))
    have hw4 : ∀ i ∈ vs, i < e3.length := fun i hi => by
      rw [← s4.len, k4.2, wipe_length]
      have := s3.len
      rw [wipe_length, wipeE_length] at this
      rw [this]; exact hlen i hi
    cases hc : mc e3 with
    | none => rw [hc] at h3; cases h3
    | some r =>
    obtain ⟨bb, e4⟩ := r
    rw [hc] at h3
    refine ⟨F4, A4, e3, s4, w4, bb, e4, hc, fun F5 A5 H5 s5 w5 x5 => ?_⟩
    have w5f := Wf.frame w4f x5 w5
    have x5f := x4f.trans (x5.frame (B := D :: B0))
    have hd5 : H5 D = some (.lst xs) := x5.fr D _ hd4 fun z => w4f.disj z (by simp)
    have o5 : OTs K F5 H5 B0 xs acc := o4.frame (wf_sub (C := []) w4f (by simp)) x5
    have sb5 : Sub F1 F5 := fun b o h => x5.fz _ _ (sb4 b o h)
    have hl45 : e4.length = e3.length := by rw [← s5.len, s4.len]
    cases bb with
    | false =>
      refine iteF ?_
      simp only at h3
      split at h3
      case isFalse => cases h3
      rename_i hv4
      refine ⟨F5, A5, B0, e4, acc, xs, ?_, hd5, o5, w5f, x5f, sb5, fun i hi => by rw [hl45]; exact hw4 i hi, h3⟩
      have := s5.wipe vs fun i hi => List.all_eq_true.mp hv4 i hi
      rw [wipe_kept k4] at this
      exact this
    | true =>
      refine iteT ?_
      simp only at h3
      split at h3
      case h_2 => cases h3
      rename_i ds1 e5 h5
      split at h3
      case isFalse => cases h3
      rename_i hv5
      split at h3
      case h_2 => cases h3
      rename_i acc2 e6 h6
      split at h3
      case isFalse => cases h3
      rename_i hv6
      have hv5' : ∀ i ∈ vs1, fzOk e5 i = true := fun i hi => List.all_eq_true.mp hv5 i hi
      refine ⟨F5, A5, e4, s5, w5, ds1, e5, h5, fun F6 A6 J1 H6 s6 w6 x6 it1 => ?_⟩
      have w6f := Wf.frame (B := D :: B0) w5f x6 w6
      have x6f := x5f.trans (x6.frame (B := D :: B0))
      have hd6 : H6 D = some (.lst xs) := x6.fr D _ hd5 fun z => w5f.disj z (by simp)
      have o6 : OTs K F6 H6 B0 xs acc := o5.frame (wf_sub (C := []) w5f (by simp)) x6
      refine comp_loop it1 (s6.wipe vs1 hv5') hd6 o6 w6f (fun _ _ h => h) (fun i hi => fz_len (hv5' i hi)) h6 fun F7 A7 B7 xs7 H7 s7 hd7 o7 w7 x7 hlen7 => ?_
      refine ⟨F7, A7, B7, wipeE e6 vs1, acc2, xs7, ?_, hd7, o7, w7, x6f.trans x7, fun b o h => x7.fz _ _ (x6.fz _ _ (sb5 b o h)), fun i hi => fz_len (List.all_eq_true.mp hv6 i hi), h3⟩
      have z := s7.wipe vs fun i hi => List.all_eq_true.mp hv6 i hi
      rw [wipe_wipe sub1, wipe_kept k4] at z
      exact z
  · have e0' : i = ds.length := by omega
    subst e0'
    rw [List.drop_length] at h3
    cases h3
    refine .inl ⟨it.stop F0 H0 sb w2'.sub, q F0 A0 (D :: B0) (.ref D) H0 ?_ ?_ w2' x2⟩
    · exact s1.rest sb vs _ nd hv1 (fun i hi => wipeE_in hi (hlen i hi)) s2
    · simp only [OT]
      exact ⟨D, B0, xs, rfl, rfl, hd2, o2⟩
theorem je_lc2 {tg1 iter1 : Expr} {ifs1 : List Expr} {scope : Scope} {own : List (Str × Nat)} {vs1 : List Nat} {m m1 : M (List D)} {g g1 : G} {mc mc1 : M Bool} {el : M T} (hc : X.calm = true) (hN : X.N.Nodup) (hi : JI X tg iter m) (ok : BlkOk X.N X.env.scope scope own)
    (hg : ∀ (s : Shared) (H : Hp) (C : Addr) (cl : List (Str × Addr)) (fp : List Addr), JG (X.blk s H scope (compEnvC scope cl C X.env) fp) (own.map (·.2)) tg g) (ht : ∀ (s : Shared) (H : Hp) (C : Addr) (cl : List (Str × Addr)) (fp : List Addr), JPT (X.blk s H scope (compEnvC scope cl C X.env) fp) ifs mc)
    (hi1 : ∀ (s : Shared) (H : Hp) (C : Addr) (cl : List (Str × Addr)) (fp : List Addr), JI (X.blk s H scope (compEnvC scope cl C X.env) fp) tg1 iter1 m1)
    (hg1 : ∀ (s : Shared) (H : Hp) (C : Addr) (cl : List (Str × Addr)) (fp : List Addr), JG (X.blk s H scope (compEnvC scope cl C X.env) fp) vs1 tg1 g1) (ht1 : ∀ (s : Shared) (H : Hp) (C : Addr) (cl : List (Str × Addr)) (fp : List Addr), JPT (X.blk s H scope (compEnvC scope cl C X.env) fp) ifs1 mc1)
    (he : ∀ (s : Shared) (H : Hp) (C : Addr) (cl : List (Str × Addr)) (fp : List Addr), JE (X.blk s H scope (compEnvC scope cl C X.env) fp) elt el) (nd : (own.map (·.2)).Nodup := by decide) (hv : ∀ i ∈ vs1, i ∈ own.map (·.2) := by decide) (hs : ∀ x, foldedSetIterable iter X.env x = pure x := by intro _; rfl) (hs1 : ∀ env x, foldedSetIterable iter1 env x = pure x := by intro _ _; rfl) :
    JE X (.ListComp elt [⟨tg, iter, ifs, 0⟩, ⟨tg1, iter1, ifs1, 0⟩] scope pos) (mLc2 (own.map (·.2)) vs1 m g mc m1 g1 mc1 el) :=
  pe_imp (pe_lc2 (own := own) (vs1 := vs1) (wi1 := rdI X.K m1) (g := rdG X.K (own.map fun (p : Str × Nat) => p.2) g) (g1 := rdG X.K vs1 g1) (tt := rdT X.K mc) (tt1 := rdT X.K mc1) (te := rdE X.K el) hc hN hi ok hv hg ht hi1 hg1 ht1 he hs hs1) fun σ H Q q => lc2_read nd hv q
end
/-! ### a module constant -/
def GlobX (K : PySem.W.Frag) (mg : Str → Option Value) (x : Str) (d : D) : Prop := ∃ (u : Value) (v : V), mg x = some u ∧ RelV v u ∧ ∀ F, Rep K F v d
theorem jd_globx {X : Cx} {x : Str} {pos : Pos} {d : D} (h : GlobX X.K X.mg x d) (hg : Gl X x := by rfl) (hdb : (x == ("__debug__" : Str)) = false := by decide) : JD X (.Name x pos) (mRet d) := by
  obtain ⟨u, v, e, r, z⟩ := h
  exact jd_glob e r z hg hdb
end Fw

/-! Fw13 -/
set_option Elab.async false
set_option linter.all false
set_option maxRecDepth 100000
set_option maxHeartbeats 4000000
namespace Fw
open PySem PySem.Spec PyProof.Rows L2
/-! ### the combinators as rewriting -/
@[simp] theorem ofs_inj {a b : String} : Str.ofString a = Str.ofString b ↔ a = b := by
  constructor
  · intro h
    rw [Str.ofString_eq_toList, Str.ofString_eq_toList] at h
    have h1 := congrArg (fun s : Str => s.cps.toList) h
    simp only [] at h1
    have h2 : a.toList = b.toList := by
      have inj : ∀ (xs ys : List Char), xs.map Char.toNat = ys.map Char.toNat → xs = ys := by
        intro xs
        induction xs with
        | nil => intro ys h; cases ys <;> simp at h ⊢
        | cons x xs ih =>
          intro ys h
          cases ys with
          | nil => simp at h
          | cons y ys =>
            simp only [List.map_cons, List.cons.injEq] at h
            have : x = y := by
              have := h.1
              exact Char.toNat_inj.mp this
            rw [this, ih ys h.2]
      exact inj _ _ (by simpa using h1)
    exact String.toList_inj.mp h2
  · intro h; rw [h]
section
variable {α β : Type} (e : Fw.Env)
@[simp] theorem a_ret (a : α) : mRet a e = some (a, e) := rfl
@[simp] theorem a_bind (m : M α) (f : α → M β) : mBind m f e = (m e).bind fun p => f p.1 p.2 := by
  unfold mBind; cases m e with
  | none => rfl
  | some p => rfl
@[simp] theorem a_opt (o : Option α) : mOpt o e = o.map fun a => (a, e) := by cases o <;> rfl
@[simp] theorem a_T (m : M D) : mT m e = (m e).map fun p => (T.fz p.1, p.2) := by
  unfold mT; rw [a_bind]; cases m e <;> rfl
@[simp] theorem a_F (m : M T) : mF m e = (m e).map fun p => (p.1.d, p.2) := by
  unfold mF; rw [a_bind]; cases m e <;> rfl
@[simp] theorem a_var (i : Nat) : mVar i e = (e[i]?.join).map fun t => (t.d, e.set i (some (.fz t.d))) := by
  unfold mVar; cases h : e[i]? with
  | none => simp
  | some o => cases o <;> simp
@[simp] theorem a_mv (i : Nat) : mMv i e = (e[i]?.join).map fun t => (t, e.set i none) := by
  unfold mMv; cases h : e[i]? with
  | none => simp
  | some o => cases o <;> simp
@[simp] theorem a_op (op : D → D → Option D) (ma mb : M D) : mOp op ma mb e = (ma e).bind fun p => (mb p.2).bind fun q => (op p.1 q.1).map fun z => (z, q.2) := by
  unfold mOp; simp
@[simp] theorem a_opT (op : D → D → Option T) (ma mb : M D) : mOpT op ma mb e = (ma e).bind fun p => (mb p.2).bind fun q => (op p.1 q.1).map fun z => (z, q.2) := by
  unfold mOpT; simp
@[simp] theorem a_un (op : D → Option D) (m : M D) : mUn op m e = (m e).bind fun p => (op p.1).map fun z => (z, p.2) := by
  unfold mUn; simp
@[simp] theorem a_B (m : M D) : mB m e = (m e).bind fun p => (blO p.1).map fun z => (z, p.2) := by
  unfold mB; simp
@[simp] theorem a_Tru (m : M D) : mTru m e = (m e).bind fun p => (truO p.1).map fun z => (z, p.2) := by
  unfold mTru; simp
@[simp] theorem a_notT (m : M Bool) : mNotT m e = (m e).map fun p => (!p.1, p.2) := by
  unfold mNotT; rw [a_bind]; cases m e <;> rfl
@[simp] theorem a_andT (m n : M Bool) : mAndT m n e = (m e).bind fun p => if p.1 then n p.2 else some (false, p.2) := by
  unfold mAndT; rw [a_bind]; congr; funext p; split <;> rfl
@[simp] theorem a_orT (m n : M Bool) : mOrT m n e = (m e).bind fun p => if p.1 then some (true, p.2) else n p.2 := by
  unfold mOrT; rw [a_bind]; congr; funext p; split <;> rfl
@[simp] theorem a_if (c : M Bool) (m n : M α) : mIf c m n e = (c e).bind fun p => if p.1 then m p.2 else n p.2 := by
  unfold mIf; rw [a_bind]; congr; funext p; split <;> rfl
@[simp] theorem a_andV (m n : M D) : mAndV m n e = (m e).bind fun p => (blO p.1).bind fun b => if b then n p.2 else some (.bl false, p.2) := by
  unfold mAndV; simp only [a_bind, a_opt]
  cases m e with
  | none => rfl
  | some p =>
    simp only [Option.bind_some]
    cases blO p.1 with
    | none => rfl
    | some b => cases b <;> rfl
@[simp] theorem a_orV (m n : M D) : mOrV m n e = (m e).bind fun p => (blO p.1).bind fun b => if b then some (.bl true, p.2) else n p.2 := by
  unfold mOrV; simp only [a_bind, a_opt]
  cases m e with
  | none => rfl
  | some p =>
    simp only [Option.bind_some]
    cases blO p.1 with
    | none => rfl
    | some b => cases b <;> rfl
@[simp] theorem a_notV (m : M D) : mNotV m e = (m e).bind fun p => (blO p.1).map fun b => (.bl (!b), p.2) := by
  unfold mNotV; simp only [a_bind, a_opt]
  cases m e with
  | none => rfl
  | some p => simp only [Option.bind_some]; cases blO p.1 <;> rfl
@[simp] theorem a_cons (m : M α) (n : M (List α)) : mCons m n e = (m e).bind fun p => (n p.2).map fun q => (p.1 :: q.1, q.2) := by
  unfold mCons; simp only [a_bind]
  cases m e with
  | none => rfl
  | some p => simp only [Option.bind_some]; cases n p.2 <;> rfl
@[simp] theorem a_tup (m : M (List D)) : mTup m e = (m e).bind fun p => if p.1.length ≤ sizeLine then some (.tup p.1, p.2) else none := by
  unfold mTup; simp only [a_bind, a_opt]; congr; funext p; split <;> rfl
@[simp] theorem a_tupT (m : M (List T)) : mTupT m e = (m e).bind fun p => if p.1.length ≤ sizeLine then some (.tup p.1, p.2) else none := by
  unfold mTupT; simp only [a_bind, a_opt]; congr; funext p; split <;> rfl
@[simp] theorem a_lst (m : M (List T)) : mLst m e = (m e).bind fun p => if p.1.length ≤ sizeLine then some (.lst p.1, p.2) else none := by
  unfold mLst; simp only [a_bind, a_opt]; congr; funext p; split <;> rfl
@[simp] theorem a_call (op : List D → Option D) (m : M (List D)) : mCall op m e = (m e).bind fun p => (op p.1).map fun z => (z, p.2) := by
  unfold mCall; simp
@[simp] theorem a_callT (op : List D → Option T) (m : M (List D)) : mCallT op m e = (m e).bind fun p => (op p.1).map fun z => (z, p.2) := by
  unfold mCallT; simp
@[simp] theorem a_callF (f : Fn) (bk : List (Option Nat)) (m : M (List T)) : mCallF f bk m e = (m e).bind fun p => (f p.1).bind fun r => (putB bk r.2 p.2).map fun e2 => (r.1, e2) := by
  unfold mCallF; cases m e with
  | none => rfl
  | some p =>
    simp only [Option.bind_some]
    cases f p.1 <;> rfl
@[simp] theorem a_nx : mNx e = some (.nx, e) := rfl
@[simp] theorem a_exp (m : M α) : mExp m e = (m e).map fun p => (.nx, p.2) := by unfold mExp; cases m e <;> rfl
@[simp] theorem a_retT (m : M T) : mRetT m e = (m e).map fun p => (.rt p.1, p.2) := by unfold mRetT; cases m e <;> rfl
def seqK (b : MS) : Fl × Fw.Env → Option (Fl × Fw.Env)
  | (.nx, e) => b e
  | r => some r
@[simp] theorem seqK_nx (b : MS) : seqK b (.nx, e) = b e := rfl
@[simp] theorem seqK_rt (b : MS) (t : T) : seqK b (.rt t, e) = some (.rt t, e) := rfl
@[simp] theorem seqK_bk (b : MS) : seqK b (.bk, e) = some (.bk, e) := rfl
@[simp] theorem seqK_ct (b : MS) : seqK b (.ct, e) = some (.ct, e) := rfl
@[simp] theorem a_seq (a b : MS) : mSeq a b e = (a e).bind (seqK b) := by
  unfold mSeq; cases h : a e with
  | none => rfl
  | some p => obtain ⟨fl, e1⟩ := p; cases fl <;> rfl
@[simp] theorem a_ifS (c : M Bool) (m n : MS) : mIfS c m n e = (c e).bind fun p => if p.1 then m p.2 else n p.2 := by
  unfold mIfS; cases h : c e with
  | none => rfl
  | some p => obtain ⟨b, e1⟩ := p; cases b <;> rfl
@[simp] theorem a_asg (m : M T) (g : G) : mAsg m g e = (m e).bind fun p => (g p.1 p.2).map fun e2 => (.nx, e2) := by
  unfold mAsg; cases m e <;> rfl
@[simp] theorem a_gNm (i : Nat) (t : T) : gNm i t e = if i < e.length then some (e.set i (some t)) else none := rfl
@[simp] theorem a_gNil0 : gNil [] e = some e := rfl
@[simp] theorem a_gCons (g : G) (h : Gs) (t : T) (r : List T) : gCons g h (t :: r) e = (g t e).bind fun e1 => h r e1 := rfl
@[simp] theorem a_gTup (g : Gs) (ts : List T) : gTupM g (.tup ts) e = g ts e := rfl
@[simp] theorem a_gTupF (g : Gs) (ds : List D) : gTupM g (.fz (.tup ds)) e = g (ds.map .fz) e := rfl
@[simp] theorem a_for (m : M (List D)) (g : G) (b : MS) : mFor m g b e = (m e).bind fun p => loopM g b p.1 p.2 := by unfold mFor; cases m e <;> rfl
@[simp] theorem a_while (n : Fw.Env → Nat) (c : M Bool) (b : MS) : mWhile n c b e = iterM c b (n e) e := rfl
@[simp] theorem a_it (f : List D → Option (List D)) (m : M (List D)) : mIt f m e = (m e).bind fun p => (f p.1).map fun z => (z, p.2) := by
  unfold mIt; simp
@[simp] theorem a_sq (m : M D) : mSq m e = (m e).bind fun p => (seqD p.1).map fun z => (z, p.2) := by
  unfold mSq; simp
end
@[simp] theorem td_fz (d : D) : (T.fz d).d = d := by simp [T.d]
@[simp] theorem td_lst (ts : List T) : (T.lst ts).d = .lst (ts.map T.d) := by simp only [T.d, T.ds_eq]
@[simp] theorem td_tup (ts : List T) : (T.tup ts).d = .tup (ts.map T.d) := by simp only [T.d, T.ds_eq]
@[simp] theorem td_obj (C : Addr) (ns : List Str) (ts : List T) : (T.obj C ns ts).d = .obj C ns (ts.map T.d) := by simp only [T.d, T.ds_eq]
@[simp] theorem td_comp : (T.d ∘ T.fz) = (_root_.id : D → D) := by funext d; simp
@[simp] theorem td_map (ds : List D) : (ds.map T.fz).map T.d = ds := by simp
@[simp] theorem pB0 (e : Fw.Env) : putB [] [] e = some e := rfl
@[simp] theorem pB1 (bk : List (Option Nat)) (t : T) (ts : List T) (e : Fw.Env) : putB (none :: bk) (t :: ts) e = putB bk ts e := rfl
def onHole {α : Type} (k : Option α) : Option (Option T) → Option α
  | some none => k
  | _ => none
def onLst {α : Type} (k : List T → Option α) : Option (Option T) → Option α
  | some (some (.lst ts)) => k ts
  | _ => none
def onFz {α : Type} (k : D → Option α) : Option (Option T) → Option α
  | some (some (.fz d)) => k d
  | _ => none
@[simp] theorem onHole_n {α : Type} (k : Option α) : onHole k (some none) = k := rfl
@[simp] theorem onLst_s {α : Type} (k : List T → Option α) (ts : List T) : onLst k (some (some (.lst ts))) = k ts := rfl
@[simp] theorem onFz_s {α : Type} (k : D → Option α) (d : D) : onFz k (some (some (.fz d))) = k d := rfl
@[simp] theorem pB2 (i : Nat) (e : Fw.Env) (bk : List (Option Nat)) (t : T) (ts : List T) : putB (some i :: bk) (t :: ts) e = onHole (putB bk ts (e.set i (some t))) e[i]? := by
  simp only [putB]
  cases h : e[i]? with
  | none => rfl
  | some o => cases o <;> rfl
@[simp] theorem oM0 (W : List Nat) (i : Nat) (e : Fw.Env) : outsM W i [] e = some [] := by simp [outsM]
@[simp] theorem oM1 (W : List Nat) (i : Nat) (d : D) (ts : List T) (e : Fw.Env) : outsM W i (.fz d :: ts) e = (outsM W (i + 1) ts e).map (T.fz d :: ·) := by simp [outsM]
@[simp] theorem blO_bl (b : Bool) : blO (.bl b) = some b := rfl
@[simp] theorem ix_tup (ds : List D) (i : Int) : oIx (.tup ds) (.int i) = atI ds i := rfl
@[simp] theorem ix_lst (ds : List D) (i : Int) : oIx (.lst ds) (.int i) = atI ds i := rfl
@[simp] theorem atI_natCast {α : Type} (xs : List α) (j : Nat) : atI xs (j : Int) = xs[j]? := by
  unfold atI
  by_cases h : j < xs.length
  · have : ixN xs.length (j : Int) = some j := by
      unfold ixN; rw [if_pos (by omega), if_pos (by omega)]; simp
    rw [this]; rfl
  · have : ixN xs.length (j : Int) = none := by
      unfold ixN; rw [if_pos (by omega), if_neg (by omega)]
    rw [this, List.getElem?_eq_none (by omega)]; rfl
@[simp] theorem atI_0 {α : Type} (xs : List α) : atI xs 0 = xs[0]? := atI_natCast xs 0
@[simp] theorem atI_1 {α : Type} (xs : List α) : atI xs 1 = xs[1]? := atI_natCast xs 1
@[simp] theorem atI_2 {α : Type} (xs : List α) : atI xs 2 = xs[2]? := atI_natCast xs 2
@[simp] theorem atI_3 {α : Type} (xs : List α) : atI xs 3 = xs[3]? := atI_natCast xs 3
@[simp] theorem atI_4 {α : Type} (xs : List α) : atI xs 4 = xs[4]? := atI_natCast xs 4
@[simp] theorem opI_ii (C : Int → Int → Prop) [∀ i j, Decidable (C i j)] (g : Int → Int → Int) (i j : Int) : opI C g (.int i) (.int j) = if C i j then some (.int (g i j)) else none := rfl
@[simp] theorem opI0_ii (g : Int → Int → Int) (i j : Int) : opI0 g (.int i) (.int j) = some (.int (g i j)) := rfl
@[simp] theorem opB0_ii (g : Int → Int → Bool) (i j : Int) : opB0 g (.int i) (.int j) = some (.bl (g i j)) := rfl
@[simp] theorem oAdd_ii (i j : Int) : oAdd (.int i) (.int j) = some (.fz (.int (i + j))) := rfl
@[simp] theorem oMul_ii (i j : Int) : oMul (.int i) (.int j) = if CMulX i j then some (.fz (.int (i * j))) else none := rfl
@[simp] theorem oAdd_tt (xs ys : List D) : oAdd (.tup xs) (.tup ys) = if xs.length + ys.length ≤ sizeLine then some (.fz (.tup (xs ++ ys))) else none := rfl
@[simp] theorem oAdd_ll (xs ys : List D) : oAdd (.lst xs) (.lst ys) = if xs.length + ys.length ≤ sizeLine then some (.lst ((xs ++ ys).map T.fz)) else none := rfl
theorem eq_sh {x y : D} {p q : PyData} (hx : x.py = some p) (hy : y.py = some q) (h1 : SeqAt.shaped p = true) (h2 : SeqAt.shaped q = true) : eqO x y = some (PyData.eqv p q) := by
  simp [eqO, hx, hy, h1, h2]
@[simp] theorem eqO_ii (i j : Int) : eqO (.int i) (.int j) = some (decide (i = j)) := by
  rw [eq_sh (p := .int i) (q := .int j) rfl rfl rfl rfl]
  simp only [PyData.eqv]; rfl
@[simp] theorem eqO_bb (i j : Bool) : eqO (.bl i) (.bl j) = some (decide (i = j)) := by
  rw [eq_sh (p := .bool i) (q := .bool j) rfl rfl rfl rfl]
  cases i <;> cases j <;> rfl
/-! loops -/
def loopK (k : MS) : Fl × Fw.Env → Option (Fl × Fw.Env)
  | (.nx, e) => k e
  | (.ct, e) => k e
  | (.bk, e) => some (.nx, e)
  | (.rt t, e) => some (.rt t, e)
section
variable (e : Fw.Env)
@[simp] theorem loopK_nx (k : MS) : loopK k (.nx, e) = k e := rfl
@[simp] theorem loopK_ct (k : MS) : loopK k (.ct, e) = k e := rfl
@[simp] theorem loopK_bk (k : MS) : loopK k (.bk, e) = some (.nx, e) := rfl
@[simp] theorem loopK_rt (k : MS) (t : T) : loopK k (.rt t, e) = some (.rt t, e) := rfl
theorem a_iter (c : M Bool) (b : MS) (n : Nat) : iterM c b (n + 1) e = (c e).bind fun p => if p.1 then (b p.2).bind (loopK (iterM c b n)) else some (.nx, p.2) := by
  simp only [iterM]
  cases h : c e with
  | none => rfl
  | some p =>
    obtain ⟨k, e1⟩ := p
    cases k with
    | false => rfl
    | true =>
      simp only [Option.bind_some, if_true]
      cases h : b e1 with
      | none => rfl
      | some p => obtain ⟨fl, e2⟩ := p; cases fl <;> rfl
@[simp] theorem a_loop0 (g : G) (b : MS) : loopM g b [] e = some (.nx, e) := by simp [loopM]
theorem a_loop (g : G) (b : MS) (d : D) (ds : List D) : loopM g b (d :: ds) e = (g (.fz d) e).bind fun e1 => (b e1).bind (loopK (loopM g b ds)) := by
  simp only [loopM]
  cases h : g (.fz d) e with
  | none => rfl
  | some e1 =>
    simp only [Option.bind_some]
    cases h : b e1 with
    | none => rfl
    | some p => obtain ⟨fl, e2⟩ := p; cases fl <;> rfl
def parK (i j : Nat) : List T × Fw.Env → Option (Fl × Fw.Env)
  | ([t, u], e1) => if i < e1.length ∧ j < e1.length then some (.nx, (e1.set i (some t)).set j (some u)) else none
  | _ => none
@[simp] theorem parK_2 (i j : Nat) (t u : T) : parK i j ([t, u], e) = if i < e.length ∧ j < e.length then some (.nx, (e.set i (some t)).set j (some u)) else none := rfl
@[simp] theorem a_par (i j : Nat) (m : M (List T)) : mPar i j m e = (m e).bind (parK i j) := by
  unfold mPar
  cases h : m e with
  | none => rfl
  | some p =>
    obtain ⟨ts, e1⟩ := p
    simp only [Option.bind_some, parK]
    cases ts with
    | nil => rfl
    | cons t ts => cases ts with
      | nil => rfl
      | cons u ts => cases ts <;> rfl
@[simp] theorem a_aug (i : Nat) (op : D → D → Option D) (m : M D) : mAug i op m e = onFz (fun x => (m e).bind fun p => (p.2[i]?).bind fun _ => (op x p.1).map fun z => (.nx, p.2.set i (some (.fz z)))) e[i]? := by
  unfold mAug
  split
  · rename_i x h
    rw [h, onFz_s]
    cases h : m e with
    | none => rfl
    | some p =>
      obtain ⟨y, e1⟩ := p
      simp only [Option.bind_some]
      cases h1 : e1[i]? with
      | none => rfl
      | some o => cases op x y <;> rfl
  · rename_i h
    symm
    unfold onFz
    split
    · rename_i d h1; exact absurd h1 (h d)
    · rfl
end
@[simp] theorem l_join {α : Type} (x : Option α) : (some x).join = x := by cases x <;> rfl
theorem outsM_fz (W : List Nat) (e : Fw.Env) : ∀ (ds : List D) (i : Nat), outsM W i (ds.map .fz) e = some (ds.map .fz) := by
  intro ds; induction ds with
  | nil => simp
  | cons d ds ih => intro i; simp [ih]
theorem fn_rt {n total : Nat} {W : List Nat} {body : MS} {r : T} {e : Fw.Env} (ds : List D) (h : body (ds.map (fun d => some (.fz d)) ++ List.replicate (total - n) none) = some (.rt r, e)) (hl : ds.length = n := by rfl) : mkFn n total W body (ds.map .fz) = some (r, ds.map .fz) := by
  have h2 : body ((ds.map T.fz).map some ++ List.replicate (total - n) none) = some (.rt r, e) := by
    rw [List.map_map]; exact h
  unfold mkFn
  rw [if_pos (by simpa using hl), h2]
  simp only [Fw.resT, outsM_fz]
theorem fn_nx {n total : Nat} {W : List Nat} {body : MS} {e : Fw.Env} (ds : List D) (h : body (ds.map (fun d => some (.fz d)) ++ List.replicate (total - n) none) = some (.nx, e)) (hl : ds.length = n := by rfl) : mkFn n total W body (ds.map .fz) = some (.fz .non, ds.map .fz) := by
  have h2 : body ((ds.map T.fz).map some ++ List.replicate (total - n) none) = some (.nx, e) := by
    rw [List.map_map]; exact h
  unfold mkFn
  rw [if_pos (by simpa using hl), h2]
  simp only [Fw.resT, outsM_fz]
/-! comprehensions -/
def stepC (g : G) (c : M Bool) (el : M T) (d : D) (e : Fw.Env) : Option (Option T × Fw.Env) :=
  (g (.fz d) e).bind fun e1 => (c e1).bind fun p => if p.1 then (el p.2).map fun q => (some q.1, q.2) else some (none, p.2)
theorem loopC_inv {vs : List Nat} {g : G} {c : M Bool} {el : M T} (out : D → Option T) (I : Fw.Env → Prop) : ∀ (ds : List D) (acc : List T) (e : Fw.Env), I (wipeE e vs) →
    (∀ d ∈ ds, ∀ e, I e → ∃ e2, stepC g c el d e = some (out d, e2) ∧ I (wipeE e2 vs) ∧ vs.all (fzOk e2) = true) → acc.length + ds.length ≤ sizeLine → ∃ e3, I (wipeE e3 vs) ∧ loopC vs g c el ds acc e = some (acc ++ ds.filterMap out, e3)
  | [], acc, e, h0, _, _ => ⟨e, h0, by simp [loopC]⟩
  | d :: ds, acc, e, h0, hs, hl => by
    obtain ⟨e2, h1, h2, h3⟩ := hs d (by simp) _ h0
    simp only [List.length_cons] at hl
    unfold stepC at h1
    obtain ⟨e1, g1, h1⟩ := Option.bind_eq_some_iff.mp h1
    obtain ⟨⟨b, e4⟩, g2, h1⟩ := Option.bind_eq_some_iff.mp h1
    cases b with
    | true =>
      simp only [if_true] at h1
      obtain ⟨⟨t, e5⟩, g3, h1⟩ := Option.map_eq_some_iff.mp h1
      simp only [Prod.mk.injEq] at h1
      obtain ⟨h4, rfl⟩ := h1
      obtain ⟨e3, h5, h6⟩ := loopC_inv out I ds (acc ++ [t]) e5 h2 (fun d hd => hs d (by simp [hd])) (by simp; omega)
      refine ⟨e3, h5, ?_⟩
      simp only [loopC, g1, g2, g3]
      rw [if_pos ⟨by omega, h3⟩, h6]
      simp [← h4]
    | false =>
      simp only [Bool.false_eq_true, if_false, Option.some.injEq, Prod.mk.injEq] at h1
      obtain ⟨h4, rfl⟩ := h1
      obtain ⟨e3, h5, h6⟩ := loopC_inv out I ds acc e4 h2 (fun d hd => hs d (by simp [hd])) (by omega)
      refine ⟨e3, h5, ?_⟩
      simp only [loopC, g1, g2]
      rw [if_pos h3, h6]
      simp [← h4]
theorem lc_inv {vs : List Nat} {m : M (List D)} {g : G} {c : M Bool} {el : M T} {e e1 : Fw.Env} {ds : List D} (out : D → Option T) (I : Fw.Env → Prop) (hm : m e = some (ds, e1)) (hv : vs.all (fzOk e1) = true) (h0 : I (wipeE e1 vs))
    (hs : ∀ d ∈ ds, ∀ e, I e → ∃ e2, stepC g c el d e = some (out d, e2) ∧ I (wipeE e2 vs) ∧ vs.all (fzOk e2) = true) (hl : ds.length ≤ sizeLine) : ∃ e3, I e3 ∧ mLc vs m g c el e = some (.lst (ds.filterMap out), restE e1 vs e3) := by
  obtain ⟨e3, h1, h2⟩ := loopC_inv (acc := []) out I ds e1 h0 hs (by simpa using hl)
  refine ⟨wipeE e3 vs, h1, ?_⟩
  unfold mLc
  rw [hm]
  simp only [hv, if_true, h2]
  simp
/-- where the state of the outer slots does not change -/
theorem lc_eq {vs : List Nat} {m : M (List D)} {g : G} {c : M Bool} {el : M T} {e e1 : Fw.Env} {ds : List D} (out : D → Option T) (hm : m e = some (ds, e1)) (hv : vs.all (fzOk e1) = true)
    (hs : ∀ d ∈ ds, ∃ e2, stepC g c el d (wipeE e1 vs) = some (out d, e2) ∧ wipeE e2 vs = wipeE e1 vs ∧ vs.all (fzOk e2) = true) (hl : ds.length ≤ sizeLine) : mLc vs m g c el e = some (.lst (ds.filterMap out), restE e1 vs (wipeE e1 vs)) := by
  obtain ⟨e3, h1, h2⟩ := lc_inv out (fun e => e = wipeE e1 vs) hm hv rfl (fun d hd e he => by subst he; exact hs d hd) hl
  rw [h2, h1]
@[simp] theorem wipeE0 (e : Fw.Env) : wipeE e [] = e := rfl
@[simp] theorem wipeE1 (e : Fw.Env) (v : Nat) (vs : List Nat) : wipeE e (v :: vs) = (wipeE e vs).set v none := rfl
@[simp] theorem restE0 (o c : Fw.Env) : restE o [] c = c := rfl
@[simp] theorem restE1 (o c : Fw.Env) (i : Nat) (vs : List Nat) : restE o (i :: vs) c = restE o vs (c.set i (fzS o i)) := rfl
theorem fm_some {α β : Type} (f : α → β) (xs : List α) : xs.filterMap (fun x => some (f x)) = xs.map f := by
  induction xs with
  | nil => rfl
  | cons x xs ih => simp [ih]
def okO : Option (Option T) → Bool
  | some (some (.fz _)) => true
  | some none => true
  | _ => false
def fsO : Option (Option T) → Option T
  | some (some (.fz d)) => some (.fz d)
  | _ => none
@[simp] theorem fzOk_eq (e : Fw.Env) (i : Nat) : fzOk e i = okO e[i]? := by
  unfold fzOk okO
  cases h : e[i]? with
  | none => rfl
  | some o => cases o with
    | none => rfl
    | some t => cases t <;> rfl
@[simp] theorem fzS_eq (e : Fw.Env) (i : Nat) : fzS e i = fsO e[i]? := by
  unfold fzS fsO
  cases h : e[i]? with
  | none => rfl
  | some o => cases o with
    | none => rfl
    | some t => cases t <;> rfl
@[simp] theorem okO_n : okO (some none) = true := rfl
@[simp] theorem okO_f (d : D) : okO (some (some (.fz d))) = true := rfl
@[simp] theorem okO_m (o : Option D) : okO (some (o.map T.fz)) = true := by cases o <;> rfl
@[simp] theorem fsO_n : fsO (some none) = none := rfl
@[simp] theorem fsO_f (d : D) : fsO (some (some (.fz d))) = some (.fz d) := rfl
@[simp] theorem fsO_m (o : Option D) : fsO (some (o.map T.fz)) = o.map T.fz := by cases o <;> rfl
/-! places -/
def t2 {α : Type} (k : T → List T → Option α) : Option (T × T) → Option α
  | some (t, .lst ts) => k t ts
  | _ => none
@[simp] theorem tree_nm (e : Fw.Env) (i : Nat) : treeAt e (i, []) = (e[i]?.join).map fun t => (t, t) := by
  unfold treeAt
  cases h : e[i]? with
  | none => simp
  | some o => cases o <;> simp [T.get]
@[simp] theorem a_nm (i : Nat) (e : Fw.Env) : pNm i e = (e[i]?.join).map fun _ => ((i, []), e) := by
  unfold pNm
  cases h : e[i]? with
  | none => simp
  | some o => cases o <;> simp
@[simp] theorem put_nil (s t : T) : T.put [] s t = s := by cases t <;> simp [T.put]
def onT {α : Type} (k : List T → Option α) : T → Option α
  | .lst ts => k ts
  | _ => none
@[simp] theorem onT_l {α : Type} (k : List T → Option α) (ts : List T) : onT k (.lst ts) = k ts := rfl
def extK (k : List D → Option (D × Fw.Env)) : T → Option (D × Fw.Env)
  | .fz (.lst ys) => k ys
  | _ => none
@[simp] theorem extK_l (k : List D → Option (D × Fw.Env)) (ys : List D) : extK k (.fz (.lst ys)) = k ys := rfl
theorem a_app (i : Nat) (mb : M T) (e : Fw.Env) : mApp (pNm i) mb e = onLst (fun ts => (mb (e.set i none)).bind fun p => onHole (if ts.length < sizeLine then some (.non, p.2.set i (some (.lst (ts ++ [p.1])))) else none) p.2[i]?) e[i]? := by
  unfold mApp argAt
  rw [a_nm]
  cases h : e[i]? with
  | none => rfl
  | some o => cases o with
    | none => rfl
    | some t =>
      simp only [Option.join_some, Option.map_some, tree_nm, h]
      cases t with
      | lst ts =>
        simp only [onLst_s]
        cases hm : mb (e.set i none) with
        | none => rfl
        | some p =>
          obtain ⟨y, e2⟩ := p
          simp only [Option.bind_some]
          cases h2 : e2[i]? with
          | none => rfl
          | some o => cases o with
            | none => simp
            | some _ => rfl
      | _ => rfl
theorem a_ext (i : Nat) (mb : M T) (e : Fw.Env) : mExt (pNm i) mb e = onLst (fun ts => (mb (e.set i none)).bind fun p => onHole (extK (fun ys => if ts.length + ys.length ≤ sizeLine then some (.non, p.2.set i (some (.lst (ts ++ ys.map .fz)))) else none) p.1) p.2[i]?) e[i]? := by
  unfold mExt argAt
  rw [a_nm]
  cases h : e[i]? with
  | none => rfl
  | some o => cases o with
    | none => rfl
    | some t =>
      simp only [Option.join_some, Option.map_some, tree_nm, h]
      cases t with
      | lst ts =>
        simp only [onLst_s]
        cases hm : mb (e.set i none) with
        | none => rfl
        | some p =>
          obtain ⟨y, e2⟩ := p
          simp only [Option.bind_some]
          cases h2 : e2[i]? with
          | none => rfl
          | some o => cases o with
            | none =>
              simp only [onHole_n]
              cases y with
              | fz d => cases d <;> simp [extK]
              | _ => rfl
            | some _ => rfl
      | _ => rfl
theorem ixAt_nm (i : Nat) (mb : M D) (e : Fw.Env) : ixAt (pNm i) mb e = onLst (fun ts => (mb (e.set i none)).bind fun p => (intO p.1).bind fun k => onHole ((ixN ts.length k).map fun j => ((i, []), .lst ts, ts, j, p.2)) p.2[i]?) e[i]? := by
  unfold ixAt
  rw [a_nm]
  cases h : e[i]? with
  | none => rfl
  | some o => cases o with
    | none => rfl
    | some t =>
      simp only [Option.join_some, Option.map_some, tree_nm, h]
      cases t with
      | lst ts =>
        simp only [onLst_s]
        cases hm : mb (e.set i none) with
        | none => rfl
        | some p =>
          obtain ⟨y, e2⟩ := p
          simp only [Option.bind_some]
          cases intO y with
          | none => rfl
          | some k =>
            simp only [Option.bind_some]
            cases h2 : e2[i]? with
            | none => rfl
            | some o => cases o <;> rfl
      | _ => rfl
@[simp] theorem ixN_c (n j : Nat) : ixN n (j : Int) = if j < n then some j else none := by
  unfold ixN
  by_cases h : j < n
  · rw [if_pos (by omega), if_pos (by omega), if_pos h]; simp
  · rw [if_pos (by omega), if_neg (by omega), if_neg h]
@[simp] theorem ixN_0 (n : Nat) : ixN n 0 = if 0 < n then some 0 else none := ixN_c n 0
@[simp] theorem ixN_1 (n : Nat) : ixN n 1 = if 1 < n then some 1 else none := ixN_c n 1
@[simp] theorem ixN_2 (n : Nat) : ixN n 2 = if 2 < n then some 2 else none := ixN_c n 2
@[simp] theorem ixN_3 (n : Nat) : ixN n 3 = if 3 < n then some 3 else none := ixN_c n 3
@[simp] theorem ixN_4 (n : Nat) : ixN n 4 = if 4 < n then some 4 else none := ixN_c n 4
@[simp] theorem intO_i (i : Int) : intO (.int i) = some i := rfl
/-- a[i] = v -/
theorem a_gIx (i : Nat) (mb : M D) (v : T) (e : Fw.Env) : gIx (pNm i) mb v e = onLst (fun ts => (mb (e.set i none)).bind fun p => (intO p.1).bind fun k => onHole ((ixN ts.length k).bind fun j => if j < ts.length then some (p.2.set i (some (.lst (ts.set j v)))) else none) p.2[i]?) e[i]? := by
  unfold gIx
  rw [ixAt_nm]
  cases h : e[i]? with
  | none => rfl
  | some o => cases o with
    | none => rfl
    | some t => cases t with
      | lst ts =>
        simp only [onLst_s]
        cases hm : mb (e.set i none) with
        | none => rfl
        | some p =>
          obtain ⟨y, e2⟩ := p
          simp only [Option.bind_some]
          cases intO y with
          | none => rfl
          | some k =>
            simp only [Option.bind_some]
            cases h2 : e2[i]? with
            | none => rfl
            | some o => cases o with
              | none =>
                simp only [onHole_n]
                cases ixN ts.length k with
                | none => rfl
                | some j => simp
              | some _ => rfl
      | _ => rfl
/-- what is read at a place: a frozen thing as it is -/
def plK (e1 : Fw.Env) (i : Nat) (p : List Nat) (t : T) : T → Option (D × Fw.Env)
  | .fz d => some (d, e1)
  | s => some (s.d, e1.set i (some (T.put p (.fz s.d) t)))
@[simp] theorem plK_fz (e1 : Fw.Env) (i : Nat) (p : List Nat) (t : T) (d : D) : plK e1 i p t (.fz d) = some (d, e1) := rfl
theorem a_plIx (i : Nat) (mb : M D) (e : Fw.Env) : mPl (pIx (pNm i) mb) e = onLst (fun ts => (mb (e.set i none)).bind fun p => (intO p.1).bind fun k => onHole ((ixN ts.length k).bind fun j => (ts[j]?).bind (plK (p.2.set i (some (.lst ts))) i [j] (.lst ts))) p.2[i]?) e[i]? := by
  unfold mPl pIx
  rw [ixAt_nm]
  cases h : e[i]? with
  | none => rfl
  | some o => cases o with
    | none => rfl
    | some t => cases t with
      | lst ts =>
        simp only [onLst_s]
        cases hm : mb (e.set i none) with
        | none => rfl
        | some p =>
          obtain ⟨y, e2⟩ := p
          simp only [Option.bind_some]
          cases intO y with
          | none => rfl
          | some k =>
            simp only [Option.bind_some]
            cases h2 : e2[i]? with
            | none => rfl
            | some o => cases o with
              | none =>
                simp only [onHole_n]
                cases ixN ts.length k with
                | none => rfl
                | some j =>
                  have hi : i < e2.length := (List.getElem?_eq_some_iff.mp h2).1
                  simp only [Option.map_some, Option.bind_some, List.nil_append]
                  by_cases hj : j < ts.length
                  · rw [if_pos hj]
                    simp only [treeAt, List.getElem?_set_self hi, T.get, List.getElem?_eq_getElem hj, Option.bind_some, Option.map_some]
                    cases ts[j] <;> rfl
                  · rw [if_neg hj, List.getElem?_eq_none (by omega)]; rfl
              | some _ => rfl
      | _ => rfl
theorem loop_nx {g : G} {b : MS} {d : D} {ds : List D} {e e1 e2 : Fw.Env} {r : Option (Fl × Fw.Env)} (h1 : g (.fz d) e = some e1) (h2 : b e1 = some (.nx, e2)) (h3 : loopM g b ds e2 = r) : loopM g b (d :: ds) e = r := by
  rw [a_loop, h1, Option.bind_some, h2, Option.bind_some, loopK_nx, h3]
theorem loop_rt {g : G} {b : MS} {d : D} {ds : List D} {e e1 e2 : Fw.Env} {t : T} (h1 : g (.fz d) e = some e1) (h2 : b e1 = some (.rt t, e2)) : loopM g b (d :: ds) e = some (.rt t, e2) := by
  rw [a_loop, h1, Option.bind_some, h2, Option.bind_some, loopK_rt]
theorem iter_nx {c : M Bool} {b : MS} {n : Nat} {e e1 e2 : Fw.Env} {r : Option (Fl × Fw.Env)} (h1 : c e = some (true, e1)) (h2 : b e1 = some (.nx, e2)) (h3 : iterM c b n e2 = r) : iterM c b (n + 1) e = r := by
  rw [a_iter, h1, Option.bind_some]
  simp only [if_true]
  rw [h2, Option.bind_some, loopK_nx, h3]
theorem iter_end {c : M Bool} {b : MS} {n : Nat} {e e1 : Fw.Env} (h1 : c e = some (false, e1)) : iterM c b (n + 1) e = some (.nx, e1) := by
  rw [a_iter, h1, Option.bind_some]
  rfl
theorem rng1_n (j : Nat) (h : j < 2 ^ 60) : rng1 [.int (j : Int)] = some ((List.range j).map fun (i : Nat) => D.int (i : Int)) := by
  simp only [rng1]
  rw [if_pos (rng_in h)]
  simp
end Fw

/-! K77Top -/
set_option Elab.async false
set_option linter.all false
set_option maxRecDepth 100000
set_option maxHeartbeats 0
namespace Lw
open PySem PySem.Spec PyProof.Rows L2 Fw
def top (i : Nat) : Stmt := PySem.Challenge.pw_whatifdrawn_k77_whole_distances_never_gr.main.body.getD i (.Pass ⟨0, 0, 0, 0⟩)
abbrev s_is_integer : Stmt := top 9
abbrev s_is_between : Stmt := top 10
abbrev s_common : Stmt := top 11
abbrev s_share : Stmt := top 12
abbrev s_is_fraction : Stmt := top 13
abbrev s_plus : Stmt := top 14
abbrev s_minus : Stmt := top 15
abbrev s_times : Stmt := top 16
abbrev s_over : Stmt := top 17
abbrev s_is_less : Stmt := top 18
abbrev s_total : Stmt := top 19
abbrev s_left_of : Stmt := top 20
abbrev s_is_chance : Stmt := top 21
abbrev s_are_shares : Stmt := top 22
abbrev s_inner_of : Stmt := top 27
abbrev s_is_saying_of : Stmt := top 28
abbrev s_many_worlds : Stmt := top 29
abbrev s_holds : Stmt := top 30
abbrev s_with_letter : Stmt := top 31
abbrev s_blocks_in : Stmt := top 39
abbrev s_is_head : Stmt := top 40
abbrev s_is_block : Stmt := top 41
abbrev s_draws_on : Stmt := top 42
abbrev s_told_size : Stmt := top 43
abbrev s_is_program : Stmt := top 44
abbrev s_need_program : Stmt := top 45
abbrev s_solved : Stmt := top 47
abbrev s_signed_over : Stmt := top 48
abbrev s_turned : Stmt := top 49
abbrev s_leaving : Stmt := top 50
abbrev s_summed_rows : Stmt := top 51
abbrev s_Led_init : Stmt := inClass (top 53) 0
abbrev s_Led_start : Stmt := inClass (top 53) 1
abbrev s_Led_block : Stmt := inClass (top 53) 2
abbrev s_Led_statement : Stmt := inClass (top 53) 3
abbrev s_Led_changed : Stmt := inClass (top 53) 4
abbrev s_Led_ways : Stmt := inClass (top 53) 5
abbrev s_Led_parted : Stmt := inClass (top 53) 6
abbrev s_Led_joined : Stmt := inClass (top 53) 7
abbrev s_Led_seen : Stmt := inClass (top 53) 8
abbrev s_Led_until : Stmt := inClass (top 53) 9
abbrev s_led_from : Stmt := top 54
abbrev s_outcome : Stmt := top 55
abbrev s_masses_of : Stmt := top 56
abbrev s_need_pair : Stmt := top 58
abbrev s_whole_masses : Stmt := top 59
abbrev s_less_of : Stmt := top 60
abbrev s_distance_of : Stmt := top 61
abbrev s_distance : Stmt := top 62
abbrev s_telling_lot : Stmt := top 63
abbrev s_drawn_together : Stmt := top 64
abbrev s_is_joint : Stmt := top 65
abbrev s_is_drawn_together : Stmt := top 66
abbrev s_law_hand : Stmt := top 68
abbrev s_law_draw : Stmt := top 69
abbrev s_law_some : Stmt := top 70
abbrev s_law_kept : Stmt := top 71
abbrev s_law_saying : Stmt := top 72
abbrev s_law_true : Stmt := top 73
abbrev s_law_gcd : Stmt := top 74
abbrev s_law_frac : Stmt := top 75
abbrev s_law_plus : Stmt := top 76
abbrev s_law_minus : Stmt := top 77
abbrev s_law_times : Stmt := top 78
abbrev s_law_less : Stmt := top 79
abbrev s_law_sum : Stmt := top 80
abbrev s_law_shares : Stmt := top 81
abbrev s_law_block : Stmt := top 82
abbrev s_law_program : Stmt := top 83
abbrev s_law_with : Stmt := top 84
abbrev s_law_go : Stmt := top 85
abbrev s_law_rows : Stmt := top 86
abbrev s_law_chance : Stmt := top 87
abbrev s_law_masses : Stmt := top 88
abbrev s_law_changed : Stmt := top 89
abbrev s_law_far : Stmt := top 90
abbrev s_law : Stmt := top 91
def d_is_integer : He.DefD := ⟨("is_integer", none), "is_integer", "is_integer", defArgs s_is_integer, defBody s_is_integer, defScope s_is_integer, [], []⟩
def d_is_between : He.DefD := ⟨("is_between", none), "is_between", "is_between", defArgs s_is_between, defBody s_is_between, defScope s_is_between, [], []⟩
def d_common : He.DefD := ⟨("common", none), "common", "common", defArgs s_common, defBody s_common, defScope s_common, [], []⟩
def d_share : He.DefD := ⟨("share", none), "share", "share", defArgs s_share, defBody s_share, defScope s_share, [], []⟩
def d_is_fraction : He.DefD := ⟨("is_fraction", none), "is_fraction", "is_fraction", defArgs s_is_fraction, defBody s_is_fraction, defScope s_is_fraction, [], []⟩
def d_plus : He.DefD := ⟨("plus", none), "plus", "plus", defArgs s_plus, defBody s_plus, defScope s_plus, [], []⟩
def d_minus : He.DefD := ⟨("minus", none), "minus", "minus", defArgs s_minus, defBody s_minus, defScope s_minus, [], []⟩
def d_times : He.DefD := ⟨("times", none), "times", "times", defArgs s_times, defBody s_times, defScope s_times, [], []⟩
def d_over : He.DefD := ⟨("over", none), "over", "over", defArgs s_over, defBody s_over, defScope s_over, [], []⟩
def d_is_less : He.DefD := ⟨("is_less", none), "is_less", "is_less", defArgs s_is_less, defBody s_is_less, defScope s_is_less, [], []⟩
def d_total : He.DefD := ⟨("total", none), "total", "total", defArgs s_total, defBody s_total, defScope s_total, [], []⟩
def d_left_of : He.DefD := ⟨("left_of", none), "left_of", "left_of", defArgs s_left_of, defBody s_left_of, defScope s_left_of, [], []⟩
def d_is_chance : He.DefD := ⟨("is_chance", none), "is_chance", "is_chance", defArgs s_is_chance, defBody s_is_chance, defScope s_is_chance, [], []⟩
def d_are_shares : He.DefD := ⟨("are_shares", none), "are_shares", "are_shares", defArgs s_are_shares, defBody s_are_shares, defScope s_are_shares, [], []⟩
def d_inner_of : He.DefD := ⟨("inner_of", none), "inner_of", "inner_of", defArgs s_inner_of, defBody s_inner_of, defScope s_inner_of, [], []⟩
def d_is_saying_of : He.DefD := ⟨("is_saying_of", none), "is_saying_of", "is_saying_of", defArgs s_is_saying_of, defBody s_is_saying_of, defScope s_is_saying_of, [], []⟩
def d_many_worlds : He.DefD := ⟨("many_worlds", none), "many_worlds", "many_worlds", defArgs s_many_worlds, defBody s_many_worlds, defScope s_many_worlds, [], []⟩
def d_holds : He.DefD := ⟨("holds", none), "holds", "holds", defArgs s_holds, defBody s_holds, defScope s_holds, [], []⟩
def d_with_letter : He.DefD := ⟨("with_letter", none), "with_letter", "with_letter", defArgs s_with_letter, defBody s_with_letter, defScope s_with_letter, [], []⟩
def d_blocks_in : He.DefD := ⟨("blocks_in", none), "blocks_in", "blocks_in", defArgs s_blocks_in, defBody s_blocks_in, defScope s_blocks_in, [], []⟩
def d_is_head : He.DefD := ⟨("is_head", none), "is_head", "is_head", defArgs s_is_head, defBody s_is_head, defScope s_is_head, [], []⟩
def d_is_block : He.DefD := ⟨("is_block", none), "is_block", "is_block", defArgs s_is_block, defBody s_is_block, defScope s_is_block, [], []⟩
def d_draws_on : He.DefD := ⟨("draws_on", none), "draws_on", "draws_on", defArgs s_draws_on, defBody s_draws_on, defScope s_draws_on, [], []⟩
def d_told_size : He.DefD := ⟨("told_size", none), "told_size", "told_size", defArgs s_told_size, defBody s_told_size, defScope s_told_size, [], []⟩
def d_is_program : He.DefD := ⟨("is_program", none), "is_program", "is_program", defArgs s_is_program, defBody s_is_program, defScope s_is_program, [], []⟩
def d_need_program : He.DefD := ⟨("need_program", none), "need_program", "need_program", defArgs s_need_program, defBody s_need_program, defScope s_need_program, [], []⟩
def d_solved : He.DefD := ⟨("solved", none), "solved", "solved", defArgs s_solved, defBody s_solved, defScope s_solved, [], []⟩
def d_signed_over : He.DefD := ⟨("signed_over", none), "signed_over", "signed_over", defArgs s_signed_over, defBody s_signed_over, defScope s_signed_over, [], []⟩
def d_turned : He.DefD := ⟨("turned", none), "turned", "turned", defArgs s_turned, defBody s_turned, defScope s_turned, [], []⟩
def d_leaving : He.DefD := ⟨("leaving", none), "leaving", "leaving", defArgs s_leaving, defBody s_leaving, defScope s_leaving, [], []⟩
def d_summed_rows : He.DefD := ⟨("summed_rows", none), "summed_rows", "summed_rows", defArgs s_summed_rows, defBody s_summed_rows, defScope s_summed_rows, [], []⟩
def d_Led_init : He.DefD := ⟨("Led", some "__init__"), "__init__", "Led.__init__", defArgs s_Led_init, defBody s_Led_init, defScope s_Led_init, [], []⟩
def d_Led_start : He.DefD := ⟨("Led", some "start"), "start", "Led.start", defArgs s_Led_start, defBody s_Led_start, defScope s_Led_start, [], []⟩
def d_Led_block : He.DefD := ⟨("Led", some "block"), "block", "Led.block", defArgs s_Led_block, defBody s_Led_block, defScope s_Led_block, [], []⟩
def d_Led_statement : He.DefD := ⟨("Led", some "statement"), "statement", "Led.statement", defArgs s_Led_statement, defBody s_Led_statement, defScope s_Led_statement, [], []⟩
def d_Led_changed : He.DefD := ⟨("Led", some "changed"), "changed", "Led.changed", defArgs s_Led_changed, defBody s_Led_changed, defScope s_Led_changed, [], []⟩
def d_Led_ways : He.DefD := ⟨("Led", some "ways"), "ways", "Led.ways", defArgs s_Led_ways, defBody s_Led_ways, defScope s_Led_ways, [], []⟩
def d_Led_parted : He.DefD := ⟨("Led", some "parted"), "parted", "Led.parted", defArgs s_Led_parted, defBody s_Led_parted, defScope s_Led_parted, [], []⟩
def d_Led_joined : He.DefD := ⟨("Led", some "joined"), "joined", "Led.joined", defArgs s_Led_joined, defBody s_Led_joined, defScope s_Led_joined, [], []⟩
def d_Led_seen : He.DefD := ⟨("Led", some "seen"), "seen", "Led.seen", defArgs s_Led_seen, defBody s_Led_seen, defScope s_Led_seen, [], []⟩
def d_Led_until : He.DefD := ⟨("Led", some "until"), "until", "Led.until", defArgs s_Led_until, defBody s_Led_until, defScope s_Led_until, [], []⟩
def d_led_from : He.DefD := ⟨("led_from", none), "led_from", "led_from", defArgs s_led_from, defBody s_led_from, defScope s_led_from, [], []⟩
def d_outcome : He.DefD := ⟨("outcome", none), "outcome", "outcome", defArgs s_outcome, defBody s_outcome, defScope s_outcome, [], []⟩
def d_masses_of : He.DefD := ⟨("masses_of", none), "masses_of", "masses_of", defArgs s_masses_of, defBody s_masses_of, defScope s_masses_of, [], []⟩
def d_need_pair : He.DefD := ⟨("need_pair", none), "need_pair", "need_pair", defArgs s_need_pair, defBody s_need_pair, defScope s_need_pair, [], []⟩
def d_whole_masses : He.DefD := ⟨("whole_masses", none), "whole_masses", "whole_masses", defArgs s_whole_masses, defBody s_whole_masses, defScope s_whole_masses, [], []⟩
def d_less_of : He.DefD := ⟨("less_of", none), "less_of", "less_of", defArgs s_less_of, defBody s_less_of, defScope s_less_of, [], []⟩
def d_distance_of : He.DefD := ⟨("distance_of", none), "distance_of", "distance_of", defArgs s_distance_of, defBody s_distance_of, defScope s_distance_of, [], []⟩
def d_distance : He.DefD := ⟨("distance", none), "distance", "distance", defArgs s_distance, defBody s_distance, defScope s_distance, [], []⟩
def d_telling_lot : He.DefD := ⟨("telling_lot", none), "telling_lot", "telling_lot", defArgs s_telling_lot, defBody s_telling_lot, defScope s_telling_lot, [], []⟩
def d_drawn_together : He.DefD := ⟨("drawn_together", none), "drawn_together", "drawn_together", defArgs s_drawn_together, defBody s_drawn_together, defScope s_drawn_together, [], []⟩
def d_is_joint : He.DefD := ⟨("is_joint", none), "is_joint", "is_joint", defArgs s_is_joint, defBody s_is_joint, defScope s_is_joint, [], []⟩
def d_is_drawn_together : He.DefD := ⟨("is_drawn_together", none), "is_drawn_together", "is_drawn_together", defArgs s_is_drawn_together, defBody s_is_drawn_together, defScope s_is_drawn_together, [], []⟩
def d_law_hand : He.DefD := ⟨("_law_hand", none), "_law_hand", "_law_hand", defArgs s_law_hand, defBody s_law_hand, defScope s_law_hand, [], []⟩
def d_law_draw : He.DefD := ⟨("_law_draw", none), "_law_draw", "_law_draw", defArgs s_law_draw, defBody s_law_draw, defScope s_law_draw, [], []⟩
def d_law_some : He.DefD := ⟨("_law_some", none), "_law_some", "_law_some", defArgs s_law_some, defBody s_law_some, defScope s_law_some, [], []⟩
def d_law_kept : He.DefD := ⟨("_law_kept", none), "_law_kept", "_law_kept", defArgs s_law_kept, defBody s_law_kept, defScope s_law_kept, [], []⟩
def d_law_saying : He.DefD := ⟨("_law_saying", none), "_law_saying", "_law_saying", defArgs s_law_saying, defBody s_law_saying, defScope s_law_saying, [], []⟩
def d_law_true : He.DefD := ⟨("_law_true", none), "_law_true", "_law_true", defArgs s_law_true, defBody s_law_true, defScope s_law_true, [], []⟩
def d_law_gcd : He.DefD := ⟨("_law_gcd", none), "_law_gcd", "_law_gcd", defArgs s_law_gcd, defBody s_law_gcd, defScope s_law_gcd, [], []⟩
def d_law_frac : He.DefD := ⟨("_law_frac", none), "_law_frac", "_law_frac", defArgs s_law_frac, defBody s_law_frac, defScope s_law_frac, [], []⟩
def d_law_plus : He.DefD := ⟨("_law_plus", none), "_law_plus", "_law_plus", defArgs s_law_plus, defBody s_law_plus, defScope s_law_plus, [], []⟩
def d_law_minus : He.DefD := ⟨("_law_minus", none), "_law_minus", "_law_minus", defArgs s_law_minus, defBody s_law_minus, defScope s_law_minus, [], []⟩
def d_law_times : He.DefD := ⟨("_law_times", none), "_law_times", "_law_times", defArgs s_law_times, defBody s_law_times, defScope s_law_times, [], []⟩
def d_law_less : He.DefD := ⟨("_law_less", none), "_law_less", "_law_less", defArgs s_law_less, defBody s_law_less, defScope s_law_less, [], []⟩
def d_law_sum : He.DefD := ⟨("_law_sum", none), "_law_sum", "_law_sum", defArgs s_law_sum, defBody s_law_sum, defScope s_law_sum, [], []⟩
def d_law_shares : He.DefD := ⟨("_law_shares", none), "_law_shares", "_law_shares", defArgs s_law_shares, defBody s_law_shares, defScope s_law_shares, [], []⟩
def d_law_block : He.DefD := ⟨("_law_block", none), "_law_block", "_law_block", defArgs s_law_block, defBody s_law_block, defScope s_law_block, [], []⟩
def d_law_program : He.DefD := ⟨("_law_program", none), "_law_program", "_law_program", defArgs s_law_program, defBody s_law_program, defScope s_law_program, [], []⟩
def d_law_with : He.DefD := ⟨("_law_with", none), "_law_with", "_law_with", defArgs s_law_with, defBody s_law_with, defScope s_law_with, [], []⟩
def d_law_go : He.DefD := ⟨("_law_go", none), "_law_go", "_law_go", defArgs s_law_go, defBody s_law_go, defScope s_law_go, [], []⟩
def d_law_rows : He.DefD := ⟨("_law_rows", none), "_law_rows", "_law_rows", defArgs s_law_rows, defBody s_law_rows, defScope s_law_rows, [], []⟩
def d_law_chance : He.DefD := ⟨("_law_chance", none), "_law_chance", "_law_chance", defArgs s_law_chance, defBody s_law_chance, defScope s_law_chance, [], []⟩
def d_law_masses : He.DefD := ⟨("_law_masses", none), "_law_masses", "_law_masses", defArgs s_law_masses, defBody s_law_masses, defScope s_law_masses, [], []⟩
def d_law_changed : He.DefD := ⟨("_law_changed", none), "_law_changed", "_law_changed", defArgs s_law_changed, defBody s_law_changed, defScope s_law_changed, [], []⟩
def d_law_far : He.DefD := ⟨("_law_far", none), "_law_far", "_law_far", defArgs s_law_far, defBody s_law_far, defScope s_law_far, [], []⟩
def d_law : He.DefD := ⟨("law", none), "law", "law", defArgs s_law, defBody s_law, defScope s_law, [], []⟩
def fn : List He.DefD := [d_is_integer, d_is_between, d_common, d_share, d_is_fraction, d_plus, d_minus, d_times, d_over, d_is_less, d_total, d_left_of, d_is_chance, d_are_shares, d_inner_of, d_is_saying_of, d_many_worlds, d_holds, d_with_letter, d_blocks_in, d_is_head, d_is_block, d_draws_on, d_told_size, d_is_program, d_need_program, d_solved, d_signed_over, d_turned, d_leaving, d_summed_rows, d_Led_init, d_Led_start, d_Led_block, d_Led_statement, d_Led_changed, d_Led_ways, d_Led_parted, d_Led_joined, d_Led_seen, d_Led_until, d_led_from, d_outcome, d_masses_of, d_need_pair, d_whole_masses, d_less_of, d_distance_of, d_distance, d_telling_lot, d_drawn_together, d_is_joint, d_is_drawn_together, d_law_hand, d_law_draw, d_law_some, d_law_kept, d_law_saying, d_law_true, d_law_gcd, d_law_frac, d_law_plus, d_law_minus, d_law_times, d_law_less, d_law_sum, d_law_shares, d_law_block, d_law_program, d_law_with, d_law_go, d_law_rows, d_law_chance, d_law_masses, d_law_changed, d_law_far, d_law]
def fa0 : List He.Fa := [.glo "is_integer", .glo "is_between", .glo "common", .glo "share", .glo "is_fraction", .glo "plus", .glo "minus", .glo "times", .glo "over", .glo "is_less", .glo "total", .glo "left_of", .glo "is_chance", .glo "are_shares", .glo "inner_of", .glo "is_saying_of", .glo "many_worlds", .glo "holds", .glo "with_letter", .glo "blocks_in", .glo "is_head", .glo "is_block", .glo "draws_on", .glo "told_size", .glo "is_program"]
def fa1 : List He.Fa := [.glo "need_program", .glo "solved", .glo "signed_over", .glo "turned", .glo "leaving", .glo "summed_rows", .glo "led_from", .glo "outcome", .glo "masses_of", .glo "need_pair", .glo "whole_masses", .glo "less_of", .glo "distance_of", .glo "distance", .glo "telling_lot", .glo "drawn_together", .glo "is_joint", .glo "is_drawn_together", .glo "_law_hand", .glo "_law_draw", .glo "_law_some", .glo "_law_kept", .glo "_law_saying", .glo "_law_true", .glo "_law_gcd"]
def fa2 : List He.Fa := [.glo "_law_frac", .glo "_law_plus", .glo "_law_minus", .glo "_law_times", .glo "_law_less", .glo "_law_sum", .glo "_law_shares", .glo "_law_block", .glo "_law_program", .glo "_law_with", .glo "_law_go", .glo "_law_rows", .glo "_law_chance", .glo "_law_masses", .glo "_law_changed", .glo "_law_far", .glo "law", .glo "DrawError", .glo "NoProgram", .glo "NoPrograms", .glo "Led", .cls "Led", .mkr "Led", .meth "Led" "start", .meth "Led" "block"]
def fa3 : List He.Fa := [.meth "Led" "statement", .meth "Led" "changed", .meth "Led" "ways", .meth "Led" "parted", .meth "Led" "joined", .meth "Led" "seen", .meth "Led" "until", .noat "Led" "letters", .noat "Led" "many", .noat "Led" "shares", .free "ValueError", .free "abs", .free "all", .free "any", .free "bool", .free "enumerate", .free "int", .free "isinstance", .free "len", .free "list", .free "max", .free "min", .free "range", .free "sorted", .free "str"]
def fa4 : List He.Fa := [.free "sum", .free "tuple", .free "zip", .int "MOST_SHARES" 4, .int "MOST_PART" 1000, .glo "ZERO", .glo "ONE", .int "MOST_LETTERS" 4, .int "MOST_DEPTH" 8, .glo "PAIRS", .int "MOST_LONG" 30, .int "MOST_DEEP" 6, .int "MOST_ROUNDS" 4, .int "MOST_DRAWS" 12, .int "MOST_TOLD" 300, .glo "SIZES"]
def fa : List He.Fa := fa0 ++ fa1 ++ fa2 ++ fa3 ++ fa4
def ts : List He.Tab := [(fun K => He.ga K "SIZES", ["draw", "set", "if", "rounds", "see", "until"])]
def exB0 (K : PySem.W.Frag) : Bool := He.tupB K "ZERO" [.int 0, .int 1]
def exB1 (K : PySem.W.Frag) : Bool := He.tupB K "ONE" [.int 1, .int 1]
def exB2 (K : PySem.W.Frag) : Bool := He.tupB K "PAIRS" [.str "and", .str "or", .str "then", .str "same"]
def exB3 (K : PySem.W.Frag) : Bool := He.valsB K (He.ga K "SIZES") [("draw", .int 3), ("set", .int 3), ("if", .int 4), ("rounds", .int 3), ("see", .int 2), ("until", .int 3)]
def exB (K : PySem.W.Frag) : Bool := exB0 K && (exB1 K && (exB2 K && (exB3 K && (true))))
def as0 : List Addr := [3, 6, 4, 24, 37, 49, 52, 53, 60, 67, 74, 81, 86, 93, 100, 107, 114, 121, 128, 135, 142, 147, 148, 155, 162, 169, 176, 183, 184, 191]
def as1 : List Addr := [198, 203, 208, 213, 220, 227, 232, 239, 244, 249, 254, 328, 339, 346, 353, 360, 367, 374, 379, 386, 391, 396, 401, 406, 411, 418, 425, 430, 437, 444]
def as2 : List Addr := [451, 458, 465, 472, 479, 486, 493, 498, 505, 512, 519, 526, 533, 540, 547, 554, 559, 566, 0, 23, 36, 48, 59, 66, 73, 80, 85, 92, 99, 106]
def as3 : List Addr := [113, 120, 127, 134, 141, 146, 154, 161, 168, 175, 182, 190, 197, 202, 207, 212, 219, 226, 231, 238, 243, 248, 253, 327, 338, 345, 352, 359, 366, 373]
def as4 : List Addr := [378, 385, 390, 395, 400, 405, 410, 417, 424, 429, 436, 443, 450, 457, 464, 471, 478, 485, 492, 497, 504, 511, 518, 525, 532, 539, 546, 553, 558, 565]
def as5 : List Addr := [22, 25, 35, 47, 54, 55, 56, 57, 58, 61, 62, 63, 64, 65, 68, 69, 70, 71, 72, 75, 76, 77, 78, 79, 82, 83, 84, 87, 88, 89]
def as6 : List Addr := [90, 91, 94, 95, 96, 97, 98, 101, 102, 103, 104, 105, 108, 109, 110, 111, 112, 115, 116, 117, 118, 119, 122, 123, 124, 125, 126, 129, 130, 131]
def as7 : List Addr := [132, 133, 136, 137, 138, 139, 140, 143, 144, 145, 149, 150, 151, 152, 153, 156, 157, 158, 159, 160, 163, 164, 165, 166, 167, 170, 171, 172, 173, 174]
def as8 : List Addr := [177, 178, 179, 180, 181, 185, 186, 187, 188, 189, 192, 193, 194, 195, 196, 199, 200, 201, 204, 205, 206, 209, 210, 211, 214, 215, 216, 217, 218, 221]
def as9 : List Addr := [222, 223, 224, 225, 228, 229, 230, 233, 234, 235, 236, 237, 240, 241, 242, 245, 246, 247, 250, 251, 252, 268, 273, 280, 287, 294, 301, 308, 313, 320]
def as10 : List Addr := [325, 326, 329, 330, 333, 334, 335, 336, 337, 340, 341, 342, 343, 344, 347, 348, 349, 350, 351, 354, 355, 356, 357, 358, 361, 362, 363, 364, 365, 368]
def as11 : List Addr := [369, 370, 371, 372, 375, 376, 377, 380, 381, 382, 383, 384, 387, 388, 389, 392, 393, 394, 397, 398, 399, 402, 403, 404, 407, 408, 409, 412, 413, 414]
def as12 : List Addr := [415, 416, 419, 420, 421, 422, 423, 426, 427, 428, 431, 432, 433, 434, 435, 438, 439, 440, 441, 442, 445, 446, 447, 448, 449, 452, 453, 454, 455, 456]
def as13 : List Addr := [459, 460, 461, 462, 463, 466, 467, 468, 469, 470, 473, 474, 475, 476, 477, 480, 481, 482, 483, 484, 487, 488, 489, 490, 491, 494, 495, 496, 499, 500]
def as14 : List Addr := [501, 502, 503, 506, 507, 508, 509, 510, 513, 514, 515, 516, 517, 520, 521, 522, 523, 524, 527, 528, 529, 530, 531, 534, 535, 536, 537, 538, 541, 542]
def as15 : List Addr := [543, 544, 545, 548, 549, 550, 551, 552, 555, 556, 557, 560, 561, 562, 563, 564, 267, 272, 279, 286, 293, 300, 307, 312, 319, 324, 262, 263, 264, 265]
def as16 : List Addr := [266, 269, 270, 271, 274, 275, 276, 277, 278, 281, 282, 283, 284, 285, 288, 289, 290, 291, 292, 295, 296, 297, 298, 299, 302, 303, 304, 305, 306, 309]
def as17 : List Addr := [310, 311, 314, 315, 316, 317, 318, 321, 322, 323]
def as_ : List Addr := as0 ++ as1 ++ as2 ++ as3 ++ as4 ++ as5 ++ as6 ++ as7 ++ as8 ++ as9 ++ as10 ++ as11 ++ as12 ++ as13 ++ as14 ++ as15 ++ as16 ++ as17
abbrev R : PySem.W.OpenRow := PySem.W.OpenLaw.row PySem.Challenge.rw_whatifdrawn_k77_whole_distances_never_gr
def obK (w' : PySem.W.Frag) : He.AlT × Bool := (He.obsT fa fn ts w', exB w')
def hk : PySem.W.Hook where
  α := He.AlT × Bool
  obs := fun s => obK (He.frG s.heap.get? as_)
  val := fun w => (He.valT fn ts w, true)
  says := fun w h => ∃ K : PySem.W.Frag, K.In h ∧ He.SaysT fa fn ts w K ∧ exB K = true
  of := fun _ _ e => ⟨_, He.frG_in, congrArg (fun z : He.AlT × Bool => z.1) e, congrArg (fun z : He.AlT × Bool => z.2) e⟩
  keeps := fun _ _ _ ⟨K, hK, c⟩ k => ⟨K, PySem.W.Frag.In.keeps hK k, c⟩
def ob (s : PySem.W.SharedT) : He.AlT × Bool := obK (He.frG (HandSHeadRun.getT s) as_)
theorem ob_eq (s : PySem.W.SharedT) : ob s = hk.obs s.abs := by
  show obK (He.frG (HandSHeadRun.getT s) as_) = obK (He.frG s.abs.heap.get? as_)
  rw [show HandSHeadRun.getT s = s.abs.heap.get? from funext (HandSHeadRun.getT_eq s)]
def loose0 : List Str := ["DrawError", "NoProgram", "NoPrograms", "MOST_SHARES", "MOST_PART", "ZERO", "ONE", "is_integer", "is_between", "common", "share", "is_fraction", "plus", "minus", "times"]
def loose1 : List Str := ["over", "is_less", "total", "left_of", "is_chance", "are_shares", "MOST_LETTERS", "MOST_DEPTH", "PAIRS", "inner_of", "is_saying_of", "many_worlds", "holds", "with_letter", "MOST_LONG"]
def loose2 : List Str := ["MOST_DEEP", "MOST_ROUNDS", "MOST_DRAWS", "MOST_TOLD", "SIZES", "blocks_in", "is_head", "is_block", "draws_on", "told_size", "is_program", "need_program", "solved", "signed_over", "turned"]
def loose3 : List Str := ["leaving", "summed_rows", "Led", "led_from", "outcome", "masses_of", "need_pair", "whole_masses", "less_of", "distance_of", "distance", "telling_lot", "drawn_together", "is_joint", "is_drawn_together"]
def loose4 : List Str := ["_law_hand", "_law_draw", "_law_some", "_law_kept", "_law_saying", "_law_true", "_law_gcd", "_law_frac", "_law_plus", "_law_minus", "_law_times", "_law_less", "_law_sum", "_law_shares", "_law_block"]
def loose5 : List Str := ["_law_program", "_law_with", "_law_go", "_law_rows", "_law_chance", "_law_masses", "_law_changed", "_law_far"]
def loose : List Str := loose0 ++ loose1 ++ loose2 ++ loose3 ++ loose4 ++ loose5
structure Top (P : Program) (w : World) (K : PySem.W.Frag) (mg : Str → Option Value) (base : Heap) : Prop where
  kin : K.In base
  ns : base.Ns mainGlobals mg
  says : He.SaysT fa fn ts w K
  ex : exB K = true
section
variable {P : Program} {w : World} {K : PySem.W.Frag} {mg : Str → Option Value} {base : Heap}
theorem Top.ex_0 (t : Top P w K mg base) : He.tupB K "ZERO" [.int 0, .int 1] = true := (He.ba t.ex).1
theorem Top.ex_1 (t : Top P w K mg base) : He.tupB K "ONE" [.int 1, .int 1] = true := (He.ba (He.ba t.ex).2).1
theorem Top.ex_2 (t : Top P w K mg base) : He.tupB K "PAIRS" [.str "and", .str "or", .str "then", .str "same"] = true := (He.ba (He.ba (He.ba t.ex).2).2).1
theorem Top.ex_3 (t : Top P w K mg base) : He.valsB K (He.ga K "SIZES") [("draw", .int 3), ("set", .int 3), ("if", .int 4), ("rounds", .int 3), ("see", .int 2), ("until", .int 3)] = true := (He.ba (He.ba (He.ba (He.ba t.ex).2).2).2).1
theorem Top.g_is_integer (t : Top P w K mg base) : mg "is_integer" = some (.ref (He.ga K "is_integer")) := He.glo_ok t.kin t.ns (t.says.d.fact 0 (f := .glo "is_integer") rfl)
theorem Top.g_is_between (t : Top P w K mg base) : mg "is_between" = some (.ref (He.ga K "is_between")) := He.glo_ok t.kin t.ns (t.says.d.fact 1 (f := .glo "is_between") rfl)
theorem Top.g_common (t : Top P w K mg base) : mg "common" = some (.ref (He.ga K "common")) := He.glo_ok t.kin t.ns (t.says.d.fact 2 (f := .glo "common") rfl)
theorem Top.g_share (t : Top P w K mg base) : mg "share" = some (.ref (He.ga K "share")) := He.glo_ok t.kin t.ns (t.says.d.fact 3 (f := .glo "share") rfl)
theorem Top.g_is_fraction (t : Top P w K mg base) : mg "is_fraction" = some (.ref (He.ga K "is_fraction")) := He.glo_ok t.kin t.ns (t.says.d.fact 4 (f := .glo "is_fraction") rfl)
theorem Top.g_plus (t : Top P w K mg base) : mg "plus" = some (.ref (He.ga K "plus")) := He.glo_ok t.kin t.ns (t.says.d.fact 5 (f := .glo "plus") rfl)
theorem Top.g_minus (t : Top P w K mg base) : mg "minus" = some (.ref (He.ga K "minus")) := He.glo_ok t.kin t.ns (t.says.d.fact 6 (f := .glo "minus") rfl)
theorem Top.g_times (t : Top P w K mg base) : mg "times" = some (.ref (He.ga K "times")) := He.glo_ok t.kin t.ns (t.says.d.fact 7 (f := .glo "times") rfl)
theorem Top.g_over (t : Top P w K mg base) : mg "over" = some (.ref (He.ga K "over")) := He.glo_ok t.kin t.ns (t.says.d.fact 8 (f := .glo "over") rfl)
theorem Top.g_is_less (t : Top P w K mg base) : mg "is_less" = some (.ref (He.ga K "is_less")) := He.glo_ok t.kin t.ns (t.says.d.fact 9 (f := .glo "is_less") rfl)
theorem Top.g_total (t : Top P w K mg base) : mg "total" = some (.ref (He.ga K "total")) := He.glo_ok t.kin t.ns (t.says.d.fact 10 (f := .glo "total") rfl)
theorem Top.g_left_of (t : Top P w K mg base) : mg "left_of" = some (.ref (He.ga K "left_of")) := He.glo_ok t.kin t.ns (t.says.d.fact 11 (f := .glo "left_of") rfl)
theorem Top.g_is_chance (t : Top P w K mg base) : mg "is_chance" = some (.ref (He.ga K "is_chance")) := He.glo_ok t.kin t.ns (t.says.d.fact 12 (f := .glo "is_chance") rfl)
theorem Top.g_are_shares (t : Top P w K mg base) : mg "are_shares" = some (.ref (He.ga K "are_shares")) := He.glo_ok t.kin t.ns (t.says.d.fact 13 (f := .glo "are_shares") rfl)
theorem Top.g_inner_of (t : Top P w K mg base) : mg "inner_of" = some (.ref (He.ga K "inner_of")) := He.glo_ok t.kin t.ns (t.says.d.fact 14 (f := .glo "inner_of") rfl)
theorem Top.g_is_saying_of (t : Top P w K mg base) : mg "is_saying_of" = some (.ref (He.ga K "is_saying_of")) := He.glo_ok t.kin t.ns (t.says.d.fact 15 (f := .glo "is_saying_of") rfl)
theorem Top.g_many_worlds (t : Top P w K mg base) : mg "many_worlds" = some (.ref (He.ga K "many_worlds")) := He.glo_ok t.kin t.ns (t.says.d.fact 16 (f := .glo "many_worlds") rfl)
theorem Top.g_holds (t : Top P w K mg base) : mg "holds" = some (.ref (He.ga K "holds")) := He.glo_ok t.kin t.ns (t.says.d.fact 17 (f := .glo "holds") rfl)
theorem Top.g_with_letter (t : Top P w K mg base) : mg "with_letter" = some (.ref (He.ga K "with_letter")) := He.glo_ok t.kin t.ns (t.says.d.fact 18 (f := .glo "with_letter") rfl)
theorem Top.g_blocks_in (t : Top P w K mg base) : mg "blocks_in" = some (.ref (He.ga K "blocks_in")) := He.glo_ok t.kin t.ns (t.says.d.fact 19 (f := .glo "blocks_in") rfl)
theorem Top.g_is_head (t : Top P w K mg base) : mg "is_head" = some (.ref (He.ga K "is_head")) := He.glo_ok t.kin t.ns (t.says.d.fact 20 (f := .glo "is_head") rfl)
theorem Top.g_is_block (t : Top P w K mg base) : mg "is_block" = some (.ref (He.ga K "is_block")) := He.glo_ok t.kin t.ns (t.says.d.fact 21 (f := .glo "is_block") rfl)
theorem Top.g_draws_on (t : Top P w K mg base) : mg "draws_on" = some (.ref (He.ga K "draws_on")) := He.glo_ok t.kin t.ns (t.says.d.fact 22 (f := .glo "draws_on") rfl)
theorem Top.g_told_size (t : Top P w K mg base) : mg "told_size" = some (.ref (He.ga K "told_size")) := He.glo_ok t.kin t.ns (t.says.d.fact 23 (f := .glo "told_size") rfl)
theorem Top.g_is_program (t : Top P w K mg base) : mg "is_program" = some (.ref (He.ga K "is_program")) := He.glo_ok t.kin t.ns (t.says.d.fact 24 (f := .glo "is_program") rfl)
theorem Top.g_need_program (t : Top P w K mg base) : mg "need_program" = some (.ref (He.ga K "need_program")) := He.glo_ok t.kin t.ns (t.says.d.fact 25 (f := .glo "need_program") rfl)
theorem Top.g_solved (t : Top P w K mg base) : mg "solved" = some (.ref (He.ga K "solved")) := He.glo_ok t.kin t.ns (t.says.d.fact 26 (f := .glo "solved") rfl)
theorem Top.g_signed_over (t : Top P w K mg base) : mg "signed_over" = some (.ref (He.ga K "signed_over")) := He.glo_ok t.kin t.ns (t.says.d.fact 27 (f := .glo "signed_over") rfl)
theorem Top.g_turned (t : Top P w K mg base) : mg "turned" = some (.ref (He.ga K "turned")) := He.glo_ok t.kin t.ns (t.says.d.fact 28 (f := .glo "turned") rfl)
theorem Top.g_leaving (t : Top P w K mg base) : mg "leaving" = some (.ref (He.ga K "leaving")) := He.glo_ok t.kin t.ns (t.says.d.fact 29 (f := .glo "leaving") rfl)
theorem Top.g_summed_rows (t : Top P w K mg base) : mg "summed_rows" = some (.ref (He.ga K "summed_rows")) := He.glo_ok t.kin t.ns (t.says.d.fact 30 (f := .glo "summed_rows") rfl)
theorem Top.g_led_from (t : Top P w K mg base) : mg "led_from" = some (.ref (He.ga K "led_from")) := He.glo_ok t.kin t.ns (t.says.d.fact 31 (f := .glo "led_from") rfl)
theorem Top.g_outcome (t : Top P w K mg base) : mg "outcome" = some (.ref (He.ga K "outcome")) := He.glo_ok t.kin t.ns (t.says.d.fact 32 (f := .glo "outcome") rfl)
theorem Top.g_masses_of (t : Top P w K mg base) : mg "masses_of" = some (.ref (He.ga K "masses_of")) := He.glo_ok t.kin t.ns (t.says.d.fact 33 (f := .glo "masses_of") rfl)
theorem Top.g_need_pair (t : Top P w K mg base) : mg "need_pair" = some (.ref (He.ga K "need_pair")) := He.glo_ok t.kin t.ns (t.says.d.fact 34 (f := .glo "need_pair") rfl)
theorem Top.g_whole_masses (t : Top P w K mg base) : mg "whole_masses" = some (.ref (He.ga K "whole_masses")) := He.glo_ok t.kin t.ns (t.says.d.fact 35 (f := .glo "whole_masses") rfl)
theorem Top.g_less_of (t : Top P w K mg base) : mg "less_of" = some (.ref (He.ga K "less_of")) := He.glo_ok t.kin t.ns (t.says.d.fact 36 (f := .glo "less_of") rfl)
theorem Top.g_distance_of (t : Top P w K mg base) : mg "distance_of" = some (.ref (He.ga K "distance_of")) := He.glo_ok t.kin t.ns (t.says.d.fact 37 (f := .glo "distance_of") rfl)
theorem Top.g_distance (t : Top P w K mg base) : mg "distance" = some (.ref (He.ga K "distance")) := He.glo_ok t.kin t.ns (t.says.d.fact 38 (f := .glo "distance") rfl)
theorem Top.g_telling_lot (t : Top P w K mg base) : mg "telling_lot" = some (.ref (He.ga K "telling_lot")) := He.glo_ok t.kin t.ns (t.says.d.fact 39 (f := .glo "telling_lot") rfl)
theorem Top.g_drawn_together (t : Top P w K mg base) : mg "drawn_together" = some (.ref (He.ga K "drawn_together")) := He.glo_ok t.kin t.ns (t.says.d.fact 40 (f := .glo "drawn_together") rfl)
theorem Top.g_is_joint (t : Top P w K mg base) : mg "is_joint" = some (.ref (He.ga K "is_joint")) := He.glo_ok t.kin t.ns (t.says.d.fact 41 (f := .glo "is_joint") rfl)
theorem Top.g_is_drawn_together (t : Top P w K mg base) : mg "is_drawn_together" = some (.ref (He.ga K "is_drawn_together")) := He.glo_ok t.kin t.ns (t.says.d.fact 42 (f := .glo "is_drawn_together") rfl)
theorem Top.g__law_hand (t : Top P w K mg base) : mg "_law_hand" = some (.ref (He.ga K "_law_hand")) := He.glo_ok t.kin t.ns (t.says.d.fact 43 (f := .glo "_law_hand") rfl)
theorem Top.g__law_draw (t : Top P w K mg base) : mg "_law_draw" = some (.ref (He.ga K "_law_draw")) := He.glo_ok t.kin t.ns (t.says.d.fact 44 (f := .glo "_law_draw") rfl)
theorem Top.g__law_some (t : Top P w K mg base) : mg "_law_some" = some (.ref (He.ga K "_law_some")) := He.glo_ok t.kin t.ns (t.says.d.fact 45 (f := .glo "_law_some") rfl)
theorem Top.g__law_kept (t : Top P w K mg base) : mg "_law_kept" = some (.ref (He.ga K "_law_kept")) := He.glo_ok t.kin t.ns (t.says.d.fact 46 (f := .glo "_law_kept") rfl)
theorem Top.g__law_saying (t : Top P w K mg base) : mg "_law_saying" = some (.ref (He.ga K "_law_saying")) := He.glo_ok t.kin t.ns (t.says.d.fact 47 (f := .glo "_law_saying") rfl)
theorem Top.g__law_true (t : Top P w K mg base) : mg "_law_true" = some (.ref (He.ga K "_law_true")) := He.glo_ok t.kin t.ns (t.says.d.fact 48 (f := .glo "_law_true") rfl)
theorem Top.g__law_gcd (t : Top P w K mg base) : mg "_law_gcd" = some (.ref (He.ga K "_law_gcd")) := He.glo_ok t.kin t.ns (t.says.d.fact 49 (f := .glo "_law_gcd") rfl)
theorem Top.g__law_frac (t : Top P w K mg base) : mg "_law_frac" = some (.ref (He.ga K "_law_frac")) := He.glo_ok t.kin t.ns (t.says.d.fact 50 (f := .glo "_law_frac") rfl)
theorem Top.g__law_plus (t : Top P w K mg base) : mg "_law_plus" = some (.ref (He.ga K "_law_plus")) := He.glo_ok t.kin t.ns (t.says.d.fact 51 (f := .glo "_law_plus") rfl)
theorem Top.g__law_minus (t : Top P w K mg base) : mg "_law_minus" = some (.ref (He.ga K "_law_minus")) := He.glo_ok t.kin t.ns (t.says.d.fact 52 (f := .glo "_law_minus") rfl)
theorem Top.g__law_times (t : Top P w K mg base) : mg "_law_times" = some (.ref (He.ga K "_law_times")) := He.glo_ok t.kin t.ns (t.says.d.fact 53 (f := .glo "_law_times") rfl)
theorem Top.g__law_less (t : Top P w K mg base) : mg "_law_less" = some (.ref (He.ga K "_law_less")) := He.glo_ok t.kin t.ns (t.says.d.fact 54 (f := .glo "_law_less") rfl)
theorem Top.g__law_sum (t : Top P w K mg base) : mg "_law_sum" = some (.ref (He.ga K "_law_sum")) := He.glo_ok t.kin t.ns (t.says.d.fact 55 (f := .glo "_law_sum") rfl)
theorem Top.g__law_shares (t : Top P w K mg base) : mg "_law_shares" = some (.ref (He.ga K "_law_shares")) := He.glo_ok t.kin t.ns (t.says.d.fact 56 (f := .glo "_law_shares") rfl)
theorem Top.g__law_block (t : Top P w K mg base) : mg "_law_block" = some (.ref (He.ga K "_law_block")) := He.glo_ok t.kin t.ns (t.says.d.fact 57 (f := .glo "_law_block") rfl)
theorem Top.g__law_program (t : Top P w K mg base) : mg "_law_program" = some (.ref (He.ga K "_law_program")) := He.glo_ok t.kin t.ns (t.says.d.fact 58 (f := .glo "_law_program") rfl)
theorem Top.g__law_with (t : Top P w K mg base) : mg "_law_with" = some (.ref (He.ga K "_law_with")) := He.glo_ok t.kin t.ns (t.says.d.fact 59 (f := .glo "_law_with") rfl)
theorem Top.g__law_go (t : Top P w K mg base) : mg "_law_go" = some (.ref (He.ga K "_law_go")) := He.glo_ok t.kin t.ns (t.says.d.fact 60 (f := .glo "_law_go") rfl)
theorem Top.g__law_rows (t : Top P w K mg base) : mg "_law_rows" = some (.ref (He.ga K "_law_rows")) := He.glo_ok t.kin t.ns (t.says.d.fact 61 (f := .glo "_law_rows") rfl)
theorem Top.g__law_chance (t : Top P w K mg base) : mg "_law_chance" = some (.ref (He.ga K "_law_chance")) := He.glo_ok t.kin t.ns (t.says.d.fact 62 (f := .glo "_law_chance") rfl)
theorem Top.g__law_masses (t : Top P w K mg base) : mg "_law_masses" = some (.ref (He.ga K "_law_masses")) := He.glo_ok t.kin t.ns (t.says.d.fact 63 (f := .glo "_law_masses") rfl)
theorem Top.g__law_changed (t : Top P w K mg base) : mg "_law_changed" = some (.ref (He.ga K "_law_changed")) := He.glo_ok t.kin t.ns (t.says.d.fact 64 (f := .glo "_law_changed") rfl)
theorem Top.g__law_far (t : Top P w K mg base) : mg "_law_far" = some (.ref (He.ga K "_law_far")) := He.glo_ok t.kin t.ns (t.says.d.fact 65 (f := .glo "_law_far") rfl)
theorem Top.g_law (t : Top P w K mg base) : mg "law" = some (.ref (He.ga K "law")) := He.glo_ok t.kin t.ns (t.says.d.fact 66 (f := .glo "law") rfl)
theorem Top.g_DrawError (t : Top P w K mg base) : mg "DrawError" = some (.ref (He.ga K "DrawError")) := He.glo_ok t.kin t.ns (t.says.d.fact 67 (f := .glo "DrawError") rfl)
theorem Top.g_NoProgram (t : Top P w K mg base) : mg "NoProgram" = some (.ref (He.ga K "NoProgram")) := He.glo_ok t.kin t.ns (t.says.d.fact 68 (f := .glo "NoProgram") rfl)
theorem Top.g_NoPrograms (t : Top P w K mg base) : mg "NoPrograms" = some (.ref (He.ga K "NoPrograms")) := He.glo_ok t.kin t.ns (t.says.d.fact 69 (f := .glo "NoPrograms") rfl)
theorem Top.g_Led (t : Top P w K mg base) : mg "Led" = some (.ref (He.ga K "Led")) := He.glo_ok t.kin t.ns (t.says.d.fact 70 (f := .glo "Led") rfl)
theorem Top.cls_Led (t : Top P w K mg base) : Cls K (He.ga K "Led") := He.cls_ok (t.says.d.fact 71 (f := .cls "Led") rfl)
theorem Top.mk_Led (t : Top P w K mg base) : Mk K (He.ga K "Led") (He.ma K (He.ga K "Led") "__init__") := He.mkr_ok (t.says.d.fact 72 (f := .mkr "Led") rfl)
theorem Top.meth_Led_start (t : Top P w K mg base) : Meth K (He.ga K "Led") "start" (He.ma K (He.ga K "Led") "start") := He.meth_ok (t.says.d.fact 73 (f := .meth "Led" "start") rfl)
theorem Top.meth_Led_block (t : Top P w K mg base) : Meth K (He.ga K "Led") "block" (He.ma K (He.ga K "Led") "block") := He.meth_ok (t.says.d.fact 74 (f := .meth "Led" "block") rfl)
theorem Top.meth_Led_statement (t : Top P w K mg base) : Meth K (He.ga K "Led") "statement" (He.ma K (He.ga K "Led") "statement") := He.meth_ok (t.says.d.fact 75 (f := .meth "Led" "statement") rfl)
theorem Top.meth_Led_changed (t : Top P w K mg base) : Meth K (He.ga K "Led") "changed" (He.ma K (He.ga K "Led") "changed") := He.meth_ok (t.says.d.fact 76 (f := .meth "Led" "changed") rfl)
theorem Top.meth_Led_ways (t : Top P w K mg base) : Meth K (He.ga K "Led") "ways" (He.ma K (He.ga K "Led") "ways") := He.meth_ok (t.says.d.fact 77 (f := .meth "Led" "ways") rfl)
theorem Top.meth_Led_parted (t : Top P w K mg base) : Meth K (He.ga K "Led") "parted" (He.ma K (He.ga K "Led") "parted") := He.meth_ok (t.says.d.fact 78 (f := .meth "Led" "parted") rfl)
theorem Top.meth_Led_joined (t : Top P w K mg base) : Meth K (He.ga K "Led") "joined" (He.ma K (He.ga K "Led") "joined") := He.meth_ok (t.says.d.fact 79 (f := .meth "Led" "joined") rfl)
theorem Top.meth_Led_seen (t : Top P w K mg base) : Meth K (He.ga K "Led") "seen" (He.ma K (He.ga K "Led") "seen") := He.meth_ok (t.says.d.fact 80 (f := .meth "Led" "seen") rfl)
theorem Top.meth_Led_until (t : Top P w K mg base) : Meth K (He.ga K "Led") "until" (He.ma K (He.ga K "Led") "until") := He.meth_ok (t.says.d.fact 81 (f := .meth "Led" "until") rfl)
theorem Top.noat_Led_letters (t : Top P w K mg base) : NoAttr K (He.ga K "Led") "letters" := He.noat_ok (t.says.d.fact 82 (f := .noat "Led" "letters") rfl)
theorem Top.noat_Led_many (t : Top P w K mg base) : NoAttr K (He.ga K "Led") "many" := He.noat_ok (t.says.d.fact 83 (f := .noat "Led" "many") rfl)
theorem Top.noat_Led_shares (t : Top P w K mg base) : NoAttr K (He.ga K "Led") "shares" := He.noat_ok (t.says.d.fact 84 (f := .noat "Led" "shares") rfl)
theorem Top.n_ValueError (t : Top P w K mg base) : mg "ValueError" = none := He.free_ok t.kin t.ns (t.says.d.fact 85 (f := .free "ValueError") rfl)
theorem Top.n_abs (t : Top P w K mg base) : mg "abs" = none := He.free_ok t.kin t.ns (t.says.d.fact 86 (f := .free "abs") rfl)
theorem Top.n_all (t : Top P w K mg base) : mg "all" = none := He.free_ok t.kin t.ns (t.says.d.fact 87 (f := .free "all") rfl)
theorem Top.n_any (t : Top P w K mg base) : mg "any" = none := He.free_ok t.kin t.ns (t.says.d.fact 88 (f := .free "any") rfl)
theorem Top.n_bool (t : Top P w K mg base) : mg "bool" = none := He.free_ok t.kin t.ns (t.says.d.fact 89 (f := .free "bool") rfl)
theorem Top.n_enumerate (t : Top P w K mg base) : mg "enumerate" = none := He.free_ok t.kin t.ns (t.says.d.fact 90 (f := .free "enumerate") rfl)
theorem Top.n_int (t : Top P w K mg base) : mg "int" = none := He.free_ok t.kin t.ns (t.says.d.fact 91 (f := .free "int") rfl)
theorem Top.n_isinstance (t : Top P w K mg base) : mg "isinstance" = none := He.free_ok t.kin t.ns (t.says.d.fact 92 (f := .free "isinstance") rfl)
theorem Top.n_len (t : Top P w K mg base) : mg "len" = none := He.free_ok t.kin t.ns (t.says.d.fact 93 (f := .free "len") rfl)
theorem Top.n_list (t : Top P w K mg base) : mg "list" = none := He.free_ok t.kin t.ns (t.says.d.fact 94 (f := .free "list") rfl)
theorem Top.n_max (t : Top P w K mg base) : mg "max" = none := He.free_ok t.kin t.ns (t.says.d.fact 95 (f := .free "max") rfl)
theorem Top.n_min (t : Top P w K mg base) : mg "min" = none := He.free_ok t.kin t.ns (t.says.d.fact 96 (f := .free "min") rfl)
theorem Top.n_range (t : Top P w K mg base) : mg "range" = none := He.free_ok t.kin t.ns (t.says.d.fact 97 (f := .free "range") rfl)
theorem Top.n_sorted (t : Top P w K mg base) : mg "sorted" = none := He.free_ok t.kin t.ns (t.says.d.fact 98 (f := .free "sorted") rfl)
theorem Top.n_str (t : Top P w K mg base) : mg "str" = none := He.free_ok t.kin t.ns (t.says.d.fact 99 (f := .free "str") rfl)
theorem Top.n_sum (t : Top P w K mg base) : mg "sum" = none := He.free_ok t.kin t.ns (t.says.d.fact 100 (f := .free "sum") rfl)
theorem Top.n_tuple (t : Top P w K mg base) : mg "tuple" = none := He.free_ok t.kin t.ns (t.says.d.fact 101 (f := .free "tuple") rfl)
theorem Top.n_zip (t : Top P w K mg base) : mg "zip" = none := He.free_ok t.kin t.ns (t.says.d.fact 102 (f := .free "zip") rfl)
abbrev c_MOST_SHARES : D := .int 4
theorem Top.c_MOST_SHARES (t : Top P w K mg base) : GlobX K mg "MOST_SHARES" c_MOST_SHARES := by
  obtain ⟨k, e⟩ := He.int_ok t.kin t.ns (t.says.d.fact 103 (f := .int "MOST_SHARES" 4) rfl)
  exact ⟨_, .int 4, e, ⟨k, rfl⟩, fun _ => by simp only [Rep]⟩
abbrev c_MOST_PART : D := .int 1000
theorem Top.c_MOST_PART (t : Top P w K mg base) : GlobX K mg "MOST_PART" c_MOST_PART := by
  obtain ⟨k, e⟩ := He.int_ok t.kin t.ns (t.says.d.fact 104 (f := .int "MOST_PART" 1000) rfl)
  exact ⟨_, .int 1000, e, ⟨k, rfl⟩, fun _ => by simp only [Rep]⟩
abbrev c_ZERO : D := .tup [(.int 0), (.int 1)]
theorem Top.c_ZERO (t : Top P w K mg base) : GlobX K mg "ZERO" c_ZERO :=
  ⟨_, .ref (He.ga K "ZERO"), He.glo_ok t.kin t.ns (t.says.d.fact 105 (f := .glo "ZERO") rfl), rfl, fun F => by
    have h := He.tupB_ok (t.ex_0) F
    simp only [Rep, Reps]
    exact ⟨_, _, rfl, h, _, _, rfl, rfl, _, _, rfl, rfl, rfl⟩⟩
abbrev c_ONE : D := .tup [(.int 1), (.int 1)]
theorem Top.c_ONE (t : Top P w K mg base) : GlobX K mg "ONE" c_ONE :=
  ⟨_, .ref (He.ga K "ONE"), He.glo_ok t.kin t.ns (t.says.d.fact 106 (f := .glo "ONE") rfl), rfl, fun F => by
    have h := He.tupB_ok (t.ex_1) F
    simp only [Rep, Reps]
    exact ⟨_, _, rfl, h, _, _, rfl, rfl, _, _, rfl, rfl, rfl⟩⟩
abbrev c_MOST_LETTERS : D := .int 4
theorem Top.c_MOST_LETTERS (t : Top P w K mg base) : GlobX K mg "MOST_LETTERS" c_MOST_LETTERS := by
  obtain ⟨k, e⟩ := He.int_ok t.kin t.ns (t.says.d.fact 107 (f := .int "MOST_LETTERS" 4) rfl)
  exact ⟨_, .int 4, e, ⟨k, rfl⟩, fun _ => by simp only [Rep]⟩
abbrev c_MOST_DEPTH : D := .int 8
theorem Top.c_MOST_DEPTH (t : Top P w K mg base) : GlobX K mg "MOST_DEPTH" c_MOST_DEPTH := by
  obtain ⟨k, e⟩ := He.int_ok t.kin t.ns (t.says.d.fact 108 (f := .int "MOST_DEPTH" 8) rfl)
  exact ⟨_, .int 8, e, ⟨k, rfl⟩, fun _ => by simp only [Rep]⟩
abbrev c_PAIRS : D := .tup [(.str "and"), (.str "or"), (.str "then"), (.str "same")]
theorem Top.c_PAIRS (t : Top P w K mg base) : GlobX K mg "PAIRS" c_PAIRS :=
  ⟨_, .ref (He.ga K "PAIRS"), He.glo_ok t.kin t.ns (t.says.d.fact 109 (f := .glo "PAIRS") rfl), rfl, fun F => by
    have h := He.tupB_ok (t.ex_2) F
    simp only [Rep, Reps]
    exact ⟨_, _, rfl, h, _, _, rfl, rfl, _, _, rfl, rfl, _, _, rfl, rfl, _, _, rfl, rfl, rfl⟩⟩
abbrev c_MOST_LONG : D := .int 30
theorem Top.c_MOST_LONG (t : Top P w K mg base) : GlobX K mg "MOST_LONG" c_MOST_LONG := by
  obtain ⟨k, e⟩ := He.int_ok t.kin t.ns (t.says.d.fact 110 (f := .int "MOST_LONG" 30) rfl)
  exact ⟨_, .int 30, e, ⟨k, rfl⟩, fun _ => by simp only [Rep]⟩
abbrev c_MOST_DEEP : D := .int 6
theorem Top.c_MOST_DEEP (t : Top P w K mg base) : GlobX K mg "MOST_DEEP" c_MOST_DEEP := by
  obtain ⟨k, e⟩ := He.int_ok t.kin t.ns (t.says.d.fact 111 (f := .int "MOST_DEEP" 6) rfl)
  exact ⟨_, .int 6, e, ⟨k, rfl⟩, fun _ => by simp only [Rep]⟩
abbrev c_MOST_ROUNDS : D := .int 4
theorem Top.c_MOST_ROUNDS (t : Top P w K mg base) : GlobX K mg "MOST_ROUNDS" c_MOST_ROUNDS := by
  obtain ⟨k, e⟩ := He.int_ok t.kin t.ns (t.says.d.fact 112 (f := .int "MOST_ROUNDS" 4) rfl)
  exact ⟨_, .int 4, e, ⟨k, rfl⟩, fun _ => by simp only [Rep]⟩
abbrev c_MOST_DRAWS : D := .int 12
theorem Top.c_MOST_DRAWS (t : Top P w K mg base) : GlobX K mg "MOST_DRAWS" c_MOST_DRAWS := by
  obtain ⟨k, e⟩ := He.int_ok t.kin t.ns (t.says.d.fact 113 (f := .int "MOST_DRAWS" 12) rfl)
  exact ⟨_, .int 12, e, ⟨k, rfl⟩, fun _ => by simp only [Rep]⟩
abbrev c_MOST_TOLD : D := .int 300
theorem Top.c_MOST_TOLD (t : Top P w K mg base) : GlobX K mg "MOST_TOLD" c_MOST_TOLD := by
  obtain ⟨k, e⟩ := He.int_ok t.kin t.ns (t.says.d.fact 114 (f := .int "MOST_TOLD" 300) rfl)
  exact ⟨_, .int 300, e, ⟨k, rfl⟩, fun _ => by simp only [Rep]⟩
theorem Top.g_SIZES (t : Top P w K mg base) : mg "SIZES" = some (.ref (He.ga K "SIZES")) := He.glo_ok t.kin t.ns (t.says.d.fact 115 (f := .glo "SIZES") rfl)
abbrev c_SIZES : List (Str × Int) := [("draw", 3), ("set", 3), ("if", 4), ("rounds", 3), ("see", 2), ("until", 3)]
theorem Top.t_SIZES (t : Top P w K mg base) : Tab K w (He.ga K "SIZES") c_SIZES := by
  refine ⟨t.says.tab 0 (t := (fun K => He.ga K "SIZES", ["draw", "set", "if", "rounds", "see", "until"])) rfl, fun q hq => ?_⟩
  have h := t.ex_3
  simp only [c_SIZES, List.mem_cons, List.not_mem_nil, or_false] at hq
  rcases hq with rfl | rfl | rfl | rfl | rfl | rfl
  · exact He.valsB_ok h (q := ("draw", .int 3)) (by simp)
  · exact He.valsB_ok h (q := ("set", .int 3)) (by simp)
  · exact He.valsB_ok h (q := ("if", .int 4)) (by simp)
  · exact He.valsB_ok h (q := ("rounds", .int 3)) (by simp)
  · exact He.valsB_ok h (q := ("see", .int 2)) (by simp)
  · exact He.valsB_ok h (q := ("until", .int 3)) (by simp)
theorem Top.f_is_integer (t : Top P w K mg base) : ∃ fd, FunD K d_is_integer.name d_is_integer.qual d_is_integer.params d_is_integer.body d_is_integer.scope [] [] (He.fAd K d_is_integer.at_) fd := t.says.d.def_ 0 (d := d_is_integer) rfl
theorem sc_is_integer : FnScope ["thing"] ["thing"] d_is_integer.scope := ⟨rfl, rfl, rfl, by decide +kernel, rfl, by decide +kernel, by decide +kernel⟩
theorem Top.b_is_integer (t : Top P w K mg base) : ∃ fd, FunD K d_is_integer.name d_is_integer.qual d_is_integer.params d_is_integer.body d_is_integer.scope [] [] (He.fAd K d_is_integer.at_) fd ∧ Binds K fd ["thing"] [] := by
  obtain ⟨fd, F⟩ := t.f_is_integer
  exact ⟨fd, F, F.bindsN fun _ _ _ _ _ _ us hl => match us, hl with | [_], _ => rfl⟩
theorem Top.f_is_between (t : Top P w K mg base) : ∃ fd, FunD K d_is_between.name d_is_between.qual d_is_between.params d_is_between.body d_is_between.scope [] [] (He.fAd K d_is_between.at_) fd := t.says.d.def_ 1 (d := d_is_between) rfl
theorem sc_is_between : FnScope ["thing", "least", "greatest"] ["thing", "least", "greatest"] d_is_between.scope := ⟨rfl, rfl, rfl, by decide +kernel, rfl, by decide +kernel, by decide +kernel⟩
theorem Top.b_is_between (t : Top P w K mg base) : ∃ fd, FunD K d_is_between.name d_is_between.qual d_is_between.params d_is_between.body d_is_between.scope [] [] (He.fAd K d_is_between.at_) fd ∧ Binds K fd ["thing", "least", "greatest"] [] := by
  obtain ⟨fd, F⟩ := t.f_is_between
  exact ⟨fd, F, F.bindsN fun _ _ _ _ _ _ us hl => match us, hl with | [_, _, _], _ => rfl⟩
theorem Top.f_common (t : Top P w K mg base) : ∃ fd, FunD K d_common.name d_common.qual d_common.params d_common.body d_common.scope [] [] (He.fAd K d_common.at_) fd := t.says.d.def_ 2 (d := d_common) rfl
theorem sc_common : FnScope ["one", "other"] ["one", "other"] d_common.scope := ⟨rfl, rfl, rfl, by decide +kernel, rfl, by decide +kernel, by decide +kernel⟩
theorem Top.b_common (t : Top P w K mg base) : ∃ fd, FunD K d_common.name d_common.qual d_common.params d_common.body d_common.scope [] [] (He.fAd K d_common.at_) fd ∧ Binds K fd ["one", "other"] [] := by
  obtain ⟨fd, F⟩ := t.f_common
  exact ⟨fd, F, F.bindsN fun _ _ _ _ _ _ us hl => match us, hl with | [_, _], _ => rfl⟩
theorem Top.f_share (t : Top P w K mg base) : ∃ fd, FunD K d_share.name d_share.qual d_share.params d_share.body d_share.scope [] [] (He.fAd K d_share.at_) fd := t.says.d.def_ 3 (d := d_share) rfl
theorem sc_share : FnScope ["top", "bottom", "many"] ["top", "bottom"] d_share.scope := ⟨rfl, rfl, rfl, by decide +kernel, rfl, by decide +kernel, by decide +kernel⟩
theorem Top.b_share (t : Top P w K mg base) : ∃ fd, FunD K d_share.name d_share.qual d_share.params d_share.body d_share.scope [] [] (He.fAd K d_share.at_) fd ∧ Binds K fd ["top", "bottom"] [] := by
  obtain ⟨fd, F⟩ := t.f_share
  exact ⟨fd, F, F.bindsN fun _ _ _ _ _ _ us hl => match us, hl with | [_, _], _ => rfl⟩
theorem Top.f_is_fraction (t : Top P w K mg base) : ∃ fd, FunD K d_is_fraction.name d_is_fraction.qual d_is_fraction.params d_is_fraction.body d_is_fraction.scope [] [] (He.fAd K d_is_fraction.at_) fd := t.says.d.def_ 4 (d := d_is_fraction) rfl
theorem sc_is_fraction : FnScope ["thing", "part"] ["thing"] d_is_fraction.scope := ⟨rfl, rfl, rfl, by decide +kernel, rfl, by decide +kernel, by decide +kernel⟩
theorem Top.b_is_fraction (t : Top P w K mg base) : ∃ fd, FunD K d_is_fraction.name d_is_fraction.qual d_is_fraction.params d_is_fraction.body d_is_fraction.scope [] [] (He.fAd K d_is_fraction.at_) fd ∧ Binds K fd ["thing"] [] := by
  obtain ⟨fd, F⟩ := t.f_is_fraction
  exact ⟨fd, F, F.bindsN fun _ _ _ _ _ _ us hl => match us, hl with | [_], _ => rfl⟩
theorem Top.f_plus (t : Top P w K mg base) : ∃ fd, FunD K d_plus.name d_plus.qual d_plus.params d_plus.body d_plus.scope [] [] (He.fAd K d_plus.at_) fd := t.says.d.def_ 5 (d := d_plus) rfl
theorem sc_plus : FnScope ["one", "other"] ["one", "other"] d_plus.scope := ⟨rfl, rfl, rfl, by decide +kernel, rfl, by decide +kernel, by decide +kernel⟩
theorem Top.b_plus (t : Top P w K mg base) : ∃ fd, FunD K d_plus.name d_plus.qual d_plus.params d_plus.body d_plus.scope [] [] (He.fAd K d_plus.at_) fd ∧ Binds K fd ["one", "other"] [] := by
  obtain ⟨fd, F⟩ := t.f_plus
  exact ⟨fd, F, F.bindsN fun _ _ _ _ _ _ us hl => match us, hl with | [_, _], _ => rfl⟩
theorem Top.f_minus (t : Top P w K mg base) : ∃ fd, FunD K d_minus.name d_minus.qual d_minus.params d_minus.body d_minus.scope [] [] (He.fAd K d_minus.at_) fd := t.says.d.def_ 6 (d := d_minus) rfl
theorem sc_minus : FnScope ["one", "other"] ["one", "other"] d_minus.scope := ⟨rfl, rfl, rfl, by decide +kernel, rfl, by decide +kernel, by decide +kernel⟩
theorem Top.b_minus (t : Top P w K mg base) : ∃ fd, FunD K d_minus.name d_minus.qual d_minus.params d_minus.body d_minus.scope [] [] (He.fAd K d_minus.at_) fd ∧ Binds K fd ["one", "other"] [] := by
  obtain ⟨fd, F⟩ := t.f_minus
  exact ⟨fd, F, F.bindsN fun _ _ _ _ _ _ us hl => match us, hl with | [_, _], _ => rfl⟩
theorem Top.f_times (t : Top P w K mg base) : ∃ fd, FunD K d_times.name d_times.qual d_times.params d_times.body d_times.scope [] [] (He.fAd K d_times.at_) fd := t.says.d.def_ 7 (d := d_times) rfl
theorem sc_times : FnScope ["one", "other"] ["one", "other"] d_times.scope := ⟨rfl, rfl, rfl, by decide +kernel, rfl, by decide +kernel, by decide +kernel⟩
theorem Top.b_times (t : Top P w K mg base) : ∃ fd, FunD K d_times.name d_times.qual d_times.params d_times.body d_times.scope [] [] (He.fAd K d_times.at_) fd ∧ Binds K fd ["one", "other"] [] := by
  obtain ⟨fd, F⟩ := t.f_times
  exact ⟨fd, F, F.bindsN fun _ _ _ _ _ _ us hl => match us, hl with | [_, _], _ => rfl⟩
theorem Top.f_over (t : Top P w K mg base) : ∃ fd, FunD K d_over.name d_over.qual d_over.params d_over.body d_over.scope [] [] (He.fAd K d_over.at_) fd := t.says.d.def_ 8 (d := d_over) rfl
theorem sc_over : FnScope ["one", "other"] ["one", "other"] d_over.scope := ⟨rfl, rfl, rfl, by decide +kernel, rfl, by decide +kernel, by decide +kernel⟩
theorem Top.b_over (t : Top P w K mg base) : ∃ fd, FunD K d_over.name d_over.qual d_over.params d_over.body d_over.scope [] [] (He.fAd K d_over.at_) fd ∧ Binds K fd ["one", "other"] [] := by
  obtain ⟨fd, F⟩ := t.f_over
  exact ⟨fd, F, F.bindsN fun _ _ _ _ _ _ us hl => match us, hl with | [_, _], _ => rfl⟩
theorem Top.f_is_less (t : Top P w K mg base) : ∃ fd, FunD K d_is_less.name d_is_less.qual d_is_less.params d_is_less.body d_is_less.scope [] [] (He.fAd K d_is_less.at_) fd := t.says.d.def_ 9 (d := d_is_less) rfl
theorem sc_is_less : FnScope ["one", "other"] ["one", "other"] d_is_less.scope := ⟨rfl, rfl, rfl, by decide +kernel, rfl, by decide +kernel, by decide +kernel⟩
theorem Top.b_is_less (t : Top P w K mg base) : ∃ fd, FunD K d_is_less.name d_is_less.qual d_is_less.params d_is_less.body d_is_less.scope [] [] (He.fAd K d_is_less.at_) fd ∧ Binds K fd ["one", "other"] [] := by
  obtain ⟨fd, F⟩ := t.f_is_less
  exact ⟨fd, F, F.bindsN fun _ _ _ _ _ _ us hl => match us, hl with | [_, _], _ => rfl⟩
theorem Top.f_total (t : Top P w K mg base) : ∃ fd, FunD K d_total.name d_total.qual d_total.params d_total.body d_total.scope [] [] (He.fAd K d_total.at_) fd := t.says.d.def_ 10 (d := d_total) rfl
theorem sc_total : FnScope ["many", "found", "one"] ["many"] d_total.scope := ⟨rfl, rfl, rfl, by decide +kernel, rfl, by decide +kernel, by decide +kernel⟩
theorem Top.b_total (t : Top P w K mg base) : ∃ fd, FunD K d_total.name d_total.qual d_total.params d_total.body d_total.scope [] [] (He.fAd K d_total.at_) fd ∧ Binds K fd ["many"] [] := by
  obtain ⟨fd, F⟩ := t.f_total
  exact ⟨fd, F, F.bindsN fun _ _ _ _ _ _ us hl => match us, hl with | [_], _ => rfl⟩
theorem Top.f_left_of (t : Top P w K mg base) : ∃ fd, FunD K d_left_of.name d_left_of.qual d_left_of.params d_left_of.body d_left_of.scope [] [] (He.fAd K d_left_of.at_) fd := t.says.d.def_ 11 (d := d_left_of) rfl
theorem sc_left_of : FnScope ["one"] ["one"] d_left_of.scope := ⟨rfl, rfl, rfl, by decide +kernel, rfl, by decide +kernel, by decide +kernel⟩
theorem Top.b_left_of (t : Top P w K mg base) : ∃ fd, FunD K d_left_of.name d_left_of.qual d_left_of.params d_left_of.body d_left_of.scope [] [] (He.fAd K d_left_of.at_) fd ∧ Binds K fd ["one"] [] := by
  obtain ⟨fd, F⟩ := t.f_left_of
  exact ⟨fd, F, F.bindsN fun _ _ _ _ _ _ us hl => match us, hl with | [_], _ => rfl⟩
theorem Top.f_is_chance (t : Top P w K mg base) : ∃ fd, FunD K d_is_chance.name d_is_chance.qual d_is_chance.params d_is_chance.body d_is_chance.scope [] [] (He.fAd K d_is_chance.at_) fd := t.says.d.def_ 12 (d := d_is_chance) rfl
theorem sc_is_chance : FnScope ["thing"] ["thing"] d_is_chance.scope := ⟨rfl, rfl, rfl, by decide +kernel, rfl, by decide +kernel, by decide +kernel⟩
theorem Top.b_is_chance (t : Top P w K mg base) : ∃ fd, FunD K d_is_chance.name d_is_chance.qual d_is_chance.params d_is_chance.body d_is_chance.scope [] [] (He.fAd K d_is_chance.at_) fd ∧ Binds K fd ["thing"] [] := by
  obtain ⟨fd, F⟩ := t.f_is_chance
  exact ⟨fd, F, F.bindsN fun _ _ _ _ _ _ us hl => match us, hl with | [_], _ => rfl⟩
theorem Top.f_are_shares (t : Top P w K mg base) : ∃ fd, FunD K d_are_shares.name d_are_shares.qual d_are_shares.params d_are_shares.body d_are_shares.scope [] [] (He.fAd K d_are_shares.at_) fd := t.says.d.def_ 13 (d := d_are_shares) rfl
theorem sc_are_shares : FnScope ["thing", "one"] ["thing"] d_are_shares.scope := ⟨rfl, rfl, rfl, by decide +kernel, rfl, by decide +kernel, by decide +kernel⟩
theorem Top.b_are_shares (t : Top P w K mg base) : ∃ fd, FunD K d_are_shares.name d_are_shares.qual d_are_shares.params d_are_shares.body d_are_shares.scope [] [] (He.fAd K d_are_shares.at_) fd ∧ Binds K fd ["thing"] [] := by
  obtain ⟨fd, F⟩ := t.f_are_shares
  exact ⟨fd, F, F.bindsN fun _ _ _ _ _ _ us hl => match us, hl with | [_], _ => rfl⟩
theorem Top.f_inner_of (t : Top P w K mg base) : ∃ fd, FunD K d_inner_of.name d_inner_of.qual d_inner_of.params d_inner_of.body d_inner_of.scope [] [] (He.fAd K d_inner_of.at_) fd := t.says.d.def_ 14 (d := d_inner_of) rfl
theorem sc_inner_of : FnScope ["thing", "letters"] ["thing", "letters"] d_inner_of.scope := ⟨rfl, rfl, rfl, by decide +kernel, rfl, by decide +kernel, by decide +kernel⟩
theorem Top.b_inner_of (t : Top P w K mg base) : ∃ fd, FunD K d_inner_of.name d_inner_of.qual d_inner_of.params d_inner_of.body d_inner_of.scope [] [] (He.fAd K d_inner_of.at_) fd ∧ Binds K fd ["thing", "letters"] [] := by
  obtain ⟨fd, F⟩ := t.f_inner_of
  exact ⟨fd, F, F.bindsN fun _ _ _ _ _ _ us hl => match us, hl with | [_, _], _ => rfl⟩
theorem Top.f_is_saying_of (t : Top P w K mg base) : ∃ fd, FunD K d_is_saying_of.name d_is_saying_of.qual d_is_saying_of.params d_is_saying_of.body d_is_saying_of.scope [] [] (He.fAd K d_is_saying_of.at_) fd := t.says.d.def_ 15 (d := d_is_saying_of) rfl
theorem sc_is_saying_of : FnScope ["letters", "thing", "row", "_", "further", "here", "inner"] ["letters", "thing"] d_is_saying_of.scope := ⟨rfl, rfl, rfl, by decide +kernel, rfl, by decide +kernel, by decide +kernel⟩
theorem Top.b_is_saying_of (t : Top P w K mg base) : ∃ fd, FunD K d_is_saying_of.name d_is_saying_of.qual d_is_saying_of.params d_is_saying_of.body d_is_saying_of.scope [] [] (He.fAd K d_is_saying_of.at_) fd ∧ Binds K fd ["letters", "thing"] [] := by
  obtain ⟨fd, F⟩ := t.f_is_saying_of
  exact ⟨fd, F, F.bindsN fun _ _ _ _ _ _ us hl => match us, hl with | [_, _], _ => rfl⟩
theorem Top.f_many_worlds (t : Top P w K mg base) : ∃ fd, FunD K d_many_worlds.name d_many_worlds.qual d_many_worlds.params d_many_worlds.body d_many_worlds.scope [] [] (He.fAd K d_many_worlds.at_) fd := t.says.d.def_ 16 (d := d_many_worlds) rfl
theorem sc_many_worlds : FnScope ["letters"] ["letters"] d_many_worlds.scope := ⟨rfl, rfl, rfl, by decide +kernel, rfl, by decide +kernel, by decide +kernel⟩
theorem Top.b_many_worlds (t : Top P w K mg base) : ∃ fd, FunD K d_many_worlds.name d_many_worlds.qual d_many_worlds.params d_many_worlds.body d_many_worlds.scope [] [] (He.fAd K d_many_worlds.at_) fd ∧ Binds K fd ["letters"] [] := by
  obtain ⟨fd, F⟩ := t.f_many_worlds
  exact ⟨fd, F, F.bindsN fun _ _ _ _ _ _ us hl => match us, hl with | [_], _ => rfl⟩
theorem Top.f_holds (t : Top P w K mg base) : ∃ fd, FunD K d_holds.name d_holds.qual d_holds.params d_holds.body d_holds.scope [] [] (He.fAd K d_holds.at_) fd := t.says.d.def_ 17 (d := d_holds) rfl
theorem sc_holds : FnScope ["saying", "world", "word", "one", "other"] ["saying", "world"] d_holds.scope := ⟨rfl, rfl, rfl, by decide +kernel, rfl, by decide +kernel, by decide +kernel⟩
theorem Top.b_holds (t : Top P w K mg base) : ∃ fd, FunD K d_holds.name d_holds.qual d_holds.params d_holds.body d_holds.scope [] [] (He.fAd K d_holds.at_) fd ∧ Binds K fd ["saying", "world"] [] := by
  obtain ⟨fd, F⟩ := t.f_holds
  exact ⟨fd, F, F.bindsN fun _ _ _ _ _ _ us hl => match us, hl with | [_, _], _ => rfl⟩
theorem Top.f_with_letter (t : Top P w K mg base) : ∃ fd, FunD K d_with_letter.name d_with_letter.qual d_with_letter.params d_with_letter.body d_with_letter.scope [] [] (He.fAd K d_with_letter.at_) fd := t.says.d.def_ 18 (d := d_with_letter) rfl
theorem sc_with_letter : FnScope ["world", "letter", "flag", "bit"] ["world", "letter", "flag"] d_with_letter.scope := ⟨rfl, rfl, rfl, by decide +kernel, rfl, by decide +kernel, by decide +kernel⟩
theorem Top.b_with_letter (t : Top P w K mg base) : ∃ fd, FunD K d_with_letter.name d_with_letter.qual d_with_letter.params d_with_letter.body d_with_letter.scope [] [] (He.fAd K d_with_letter.at_) fd ∧ Binds K fd ["world", "letter", "flag"] [] := by
  obtain ⟨fd, F⟩ := t.f_with_letter
  exact ⟨fd, F, F.bindsN fun _ _ _ _ _ _ us hl => match us, hl with | [_, _, _], _ => rfl⟩
theorem Top.f_blocks_in (t : Top P w K mg base) : ∃ fd, FunD K d_blocks_in.name d_blocks_in.qual d_blocks_in.params d_blocks_in.body d_blocks_in.scope [] [] (He.fAd K d_blocks_in.at_) fd := t.says.d.def_ 19 (d := d_blocks_in) rfl
theorem sc_blocks_in : FnScope ["here"] ["here"] d_blocks_in.scope := ⟨rfl, rfl, rfl, by decide +kernel, rfl, by decide +kernel, by decide +kernel⟩
theorem Top.b_blocks_in (t : Top P w K mg base) : ∃ fd, FunD K d_blocks_in.name d_blocks_in.qual d_blocks_in.params d_blocks_in.body d_blocks_in.scope [] [] (He.fAd K d_blocks_in.at_) fd ∧ Binds K fd ["here"] [] := by
  obtain ⟨fd, F⟩ := t.f_blocks_in
  exact ⟨fd, F, F.bindsN fun _ _ _ _ _ _ us hl => match us, hl with | [_], _ => rfl⟩
theorem Top.f_is_head (t : Top P w K mg base) : ∃ fd, FunD K d_is_head.name d_is_head.qual d_is_head.params d_is_head.body d_is_head.scope [] [] (He.fAd K d_is_head.at_) fd := t.says.d.def_ 20 (d := d_is_head) rfl
theorem sc_is_head : FnScope ["letters", "shares", "here"] ["letters", "shares", "here"] d_is_head.scope := ⟨rfl, rfl, rfl, by decide +kernel, rfl, by decide +kernel, by decide +kernel⟩
theorem Top.b_is_head (t : Top P w K mg base) : ∃ fd, FunD K d_is_head.name d_is_head.qual d_is_head.params d_is_head.body d_is_head.scope [] [] (He.fAd K d_is_head.at_) fd ∧ Binds K fd ["letters", "shares", "here"] [] := by
  obtain ⟨fd, F⟩ := t.f_is_head
  exact ⟨fd, F, F.bindsN fun _ _ _ _ _ _ us hl => match us, hl with | [_, _, _], _ => rfl⟩
theorem Top.f_is_block (t : Top P w K mg base) : ∃ fd, FunD K d_is_block.name d_is_block.qual d_is_block.params d_is_block.body d_is_block.scope [] [] (He.fAd K d_is_block.at_) fd := t.says.d.def_ 21 (d := d_is_block) rfl
theorem sc_is_block : FnScope ["letters", "shares", "thing", "deep", "row", "_", "further", "block", "here"] ["letters", "shares", "thing", "deep"] d_is_block.scope := ⟨rfl, rfl, rfl, by decide +kernel, rfl, by decide +kernel, by decide +kernel⟩
theorem Top.b_is_block (t : Top P w K mg base) : ∃ fd, FunD K d_is_block.name d_is_block.qual d_is_block.params d_is_block.body d_is_block.scope [] [] (He.fAd K d_is_block.at_) fd ∧ Binds K fd ["letters", "shares", "thing", "deep"] [] := by
  obtain ⟨fd, F⟩ := t.f_is_block
  exact ⟨fd, F, F.bindsN fun _ _ _ _ _ _ us hl => match us, hl with | [_, _, _, _], _ => rfl⟩
theorem Top.f_draws_on (t : Top P w K mg base) : ∃ fd, FunD K d_draws_on.name d_draws_on.qual d_draws_on.params d_draws_on.body d_draws_on.scope [] [] (He.fAd K d_draws_on.at_) fd := t.says.d.def_ 22 (d := d_draws_on) rfl
theorem sc_draws_on : FnScope ["block", "most", "here", "inner"] ["block"] d_draws_on.scope := ⟨rfl, rfl, rfl, by decide +kernel, rfl, by decide +kernel, by decide +kernel⟩
theorem Top.b_draws_on (t : Top P w K mg base) : ∃ fd, FunD K d_draws_on.name d_draws_on.qual d_draws_on.params d_draws_on.body d_draws_on.scope [] [] (He.fAd K d_draws_on.at_) fd ∧ Binds K fd ["block"] [] := by
  obtain ⟨fd, F⟩ := t.f_draws_on
  exact ⟨fd, F, F.bindsN fun _ _ _ _ _ _ us hl => match us, hl with | [_], _ => rfl⟩
theorem Top.f_told_size (t : Top P w K mg base) : ∃ fd, FunD K d_told_size.name d_told_size.qual d_told_size.params d_told_size.body d_told_size.scope [] [] (He.fAd K d_told_size.at_) fd := t.says.d.def_ 23 (d := d_told_size) rfl
theorem sc_told_size : FnScope ["block", "total", "here", "inner", "part"] ["block"] d_told_size.scope := ⟨rfl, rfl, rfl, by decide +kernel, rfl, by decide +kernel, by decide +kernel⟩
theorem Top.b_told_size (t : Top P w K mg base) : ∃ fd, FunD K d_told_size.name d_told_size.qual d_told_size.params d_told_size.body d_told_size.scope [] [] (He.fAd K d_told_size.at_) fd ∧ Binds K fd ["block"] [] := by
  obtain ⟨fd, F⟩ := t.f_told_size
  exact ⟨fd, F, F.bindsN fun _ _ _ _ _ _ us hl => match us, hl with | [_], _ => rfl⟩
theorem Top.f_is_program (t : Top P w K mg base) : ∃ fd, FunD K d_is_program.name d_is_program.qual d_is_program.params d_is_program.body d_is_program.scope [] [] (He.fAd K d_is_program.at_) fd := t.says.d.def_ 24 (d := d_is_program) rfl
theorem sc_is_program : FnScope ["thing", "letters", "shares", "block"] ["thing"] d_is_program.scope := ⟨rfl, rfl, rfl, by decide +kernel, rfl, by decide +kernel, by decide +kernel⟩
theorem Top.b_is_program (t : Top P w K mg base) : ∃ fd, FunD K d_is_program.name d_is_program.qual d_is_program.params d_is_program.body d_is_program.scope [] [] (He.fAd K d_is_program.at_) fd ∧ Binds K fd ["thing"] [] := by
  obtain ⟨fd, F⟩ := t.f_is_program
  exact ⟨fd, F, F.bindsN fun _ _ _ _ _ _ us hl => match us, hl with | [_], _ => rfl⟩
theorem Top.f_need_program (t : Top P w K mg base) : ∃ fd, FunD K d_need_program.name d_need_program.qual d_need_program.params d_need_program.body d_need_program.scope [] [] (He.fAd K d_need_program.at_) fd := t.says.d.def_ 25 (d := d_need_program) rfl
theorem sc_need_program : FnScope ["thing"] ["thing"] d_need_program.scope := ⟨rfl, rfl, rfl, by decide +kernel, rfl, by decide +kernel, by decide +kernel⟩
theorem Top.b_need_program (t : Top P w K mg base) : ∃ fd, FunD K d_need_program.name d_need_program.qual d_need_program.params d_need_program.body d_need_program.scope [] [] (He.fAd K d_need_program.at_) fd ∧ Binds K fd ["thing"] [] := by
  obtain ⟨fd, F⟩ := t.f_need_program
  exact ⟨fd, F, F.bindsN fun _ _ _ _ _ _ us hl => match us, hl with | [_], _ => rfl⟩
theorem Top.f_solved (t : Top P w K mg base) : ∃ fd, FunD K d_solved.name d_solved.qual d_solved.params d_solved.body d_solved.scope [] [] (He.fAd K d_solved.at_) fd := t.says.d.def_ 26 (d := d_solved) rfl
theorem sc_solved : FnScope ["rows", "goals", "many", "table", "at", "row", "pivot", "lead", "place", "share", "number", "mine", "theirs"] ["rows", "goals"] d_solved.scope := ⟨rfl, rfl, rfl, by decide +kernel, rfl, by decide +kernel, by decide +kernel⟩
theorem Top.b_solved (t : Top P w K mg base) : ∃ fd, FunD K d_solved.name d_solved.qual d_solved.params d_solved.body d_solved.scope [] [] (He.fAd K d_solved.at_) fd ∧ Binds K fd ["rows", "goals"] [] := by
  obtain ⟨fd, F⟩ := t.f_solved
  exact ⟨fd, F, F.bindsN fun _ _ _ _ _ _ us hl => match us, hl with | [_, _], _ => rfl⟩
theorem Top.f_signed_over (t : Top P w K mg base) : ∃ fd, FunD K d_signed_over.name d_signed_over.qual d_signed_over.params d_signed_over.body d_signed_over.scope [] [] (He.fAd K d_signed_over.at_) fd := t.says.d.def_ 27 (d := d_signed_over) rfl
theorem sc_signed_over : FnScope ["one", "other"] ["one", "other"] d_signed_over.scope := ⟨rfl, rfl, rfl, by decide +kernel, rfl, by decide +kernel, by decide +kernel⟩
theorem Top.b_signed_over (t : Top P w K mg base) : ∃ fd, FunD K d_signed_over.name d_signed_over.qual d_signed_over.params d_signed_over.body d_signed_over.scope [] [] (He.fAd K d_signed_over.at_) fd ∧ Binds K fd ["one", "other"] [] := by
  obtain ⟨fd, F⟩ := t.f_signed_over
  exact ⟨fd, F, F.bindsN fun _ _ _ _ _ _ us hl => match us, hl with | [_, _], _ => rfl⟩
theorem Top.f_turned (t : Top P w K mg base) : ∃ fd, FunD K d_turned.name d_turned.qual d_turned.params d_turned.body d_turned.scope [] [] (He.fAd K d_turned.at_) fd := t.says.d.def_ 28 (d := d_turned) rfl
theorem sc_turned : FnScope ["rows", "column"] ["rows"] d_turned.scope := ⟨rfl, rfl, rfl, by decide +kernel, rfl, by decide +kernel, by decide +kernel⟩
theorem Top.b_turned (t : Top P w K mg base) : ∃ fd, FunD K d_turned.name d_turned.qual d_turned.params d_turned.body d_turned.scope [] [] (He.fAd K d_turned.at_) fd ∧ Binds K fd ["rows"] [] := by
  obtain ⟨fd, F⟩ := t.f_turned
  exact ⟨fd, F, F.bindsN fun _ _ _ _ _ _ us hl => match us, hl with | [_], _ => rfl⟩
theorem Top.f_leaving (t : Top P w K mg base) : ∃ fd, FunD K d_leaving.name d_leaving.qual d_leaving.params d_leaving.body d_leaving.scope [] [] (He.fAd K d_leaving.at_) fd := t.says.d.def_ 29 (d := d_leaving) rfl
theorem sc_leaving : FnScope ["rows", "outs", "found", "grown", "place", "row", "there", "share"] ["rows", "outs"] d_leaving.scope := ⟨rfl, rfl, rfl, by decide +kernel, rfl, by decide +kernel, by decide +kernel⟩
theorem Top.b_leaving (t : Top P w K mg base) : ∃ fd, FunD K d_leaving.name d_leaving.qual d_leaving.params d_leaving.body d_leaving.scope [] [] (He.fAd K d_leaving.at_) fd ∧ Binds K fd ["rows", "outs"] [] := by
  obtain ⟨fd, F⟩ := t.f_leaving
  exact ⟨fd, F, F.bindsN fun _ _ _ _ _ _ us hl => match us, hl with | [_, _], _ => rfl⟩
theorem Top.f_summed_rows (t : Top P w K mg base) : ∃ fd, FunD K d_summed_rows.name d_summed_rows.qual d_summed_rows.params d_summed_rows.body d_summed_rows.scope [] [] (He.fAd K d_summed_rows.at_) fd := t.says.d.def_ 30 (d := d_summed_rows) rfl
theorem sc_summed_rows : FnScope ["rows", "weights", "found", "row", "weight", "mine", "theirs"] ["rows", "weights"] d_summed_rows.scope := ⟨rfl, rfl, rfl, by decide +kernel, rfl, by decide +kernel, by decide +kernel⟩
theorem Top.b_summed_rows (t : Top P w K mg base) : ∃ fd, FunD K d_summed_rows.name d_summed_rows.qual d_summed_rows.params d_summed_rows.body d_summed_rows.scope [] [] (He.fAd K d_summed_rows.at_) fd ∧ Binds K fd ["rows", "weights"] [] := by
  obtain ⟨fd, F⟩ := t.f_summed_rows
  exact ⟨fd, F, F.bindsN fun _ _ _ _ _ _ us hl => match us, hl with | [_, _], _ => rfl⟩
theorem Top.f_Led_init (t : Top P w K mg base) : ∃ fd, FunD K d_Led_init.name d_Led_init.qual d_Led_init.params d_Led_init.body d_Led_init.scope [] [] (He.fAd K d_Led_init.at_) fd := t.says.d.def_ 31 (d := d_Led_init) rfl
theorem sc_Led_init : FnScope ["self", "letters", "shares"] ["self", "letters", "shares"] d_Led_init.scope := ⟨rfl, rfl, rfl, by decide +kernel, rfl, by decide +kernel, by decide +kernel⟩
theorem Top.b_Led_init (t : Top P w K mg base) : ∃ fd, FunD K d_Led_init.name d_Led_init.qual d_Led_init.params d_Led_init.body d_Led_init.scope [] [] (He.fAd K d_Led_init.at_) fd ∧ Binds K fd ["self", "letters", "shares"] [] := by
  obtain ⟨fd, F⟩ := t.f_Led_init
  exact ⟨fd, F, F.bindsN fun _ _ _ _ _ _ us hl => match us, hl with | [_, _, _], _ => rfl⟩
theorem Top.f_Led_start (t : Top P w K mg base) : ∃ fd, FunD K d_Led_start.name d_Led_start.qual d_Led_start.params d_Led_start.body d_Led_start.scope [] [] (He.fAd K d_Led_start.at_) fd := t.says.d.def_ 32 (d := d_Led_start) rfl
theorem sc_Led_start : FnScope ["self", "world", "at"] ["self", "world"] d_Led_start.scope := ⟨rfl, rfl, rfl, by decide +kernel, rfl, by decide +kernel, by decide +kernel⟩
theorem Top.b_Led_start (t : Top P w K mg base) : ∃ fd, FunD K d_Led_start.name d_Led_start.qual d_Led_start.params d_Led_start.body d_Led_start.scope [] [] (He.fAd K d_Led_start.at_) fd ∧ Binds K fd ["self", "world"] [] := by
  obtain ⟨fd, F⟩ := t.f_Led_start
  exact ⟨fd, F, F.bindsN fun _ _ _ _ _ _ us hl => match us, hl with | [_, _], _ => rfl⟩
theorem Top.f_Led_block (t : Top P w K mg base) : ∃ fd, FunD K d_Led_block.name d_Led_block.qual d_Led_block.params d_Led_block.body d_Led_block.scope [] [] (He.fAd K d_Led_block.at_) fd := t.says.d.def_ 33 (d := d_Led_block) rfl
theorem sc_Led_block : FnScope ["self", "block", "masses", "here"] ["self", "block", "masses"] d_Led_block.scope := ⟨rfl, rfl, rfl, by decide +kernel, rfl, by decide +kernel, by decide +kernel⟩
theorem Top.b_Led_block (t : Top P w K mg base) : ∃ fd, FunD K d_Led_block.name d_Led_block.qual d_Led_block.params d_Led_block.body d_Led_block.scope [] [] (He.fAd K d_Led_block.at_) fd ∧ Binds K fd ["self", "block", "masses"] [] := by
  obtain ⟨fd, F⟩ := t.f_Led_block
  exact ⟨fd, F, F.bindsN fun _ _ _ _ _ _ us hl => match us, hl with | [_, _, _], _ => rfl⟩
theorem Top.f_Led_statement (t : Top P w K mg base) : ∃ fd, FunD K d_Led_statement.name d_Led_statement.qual d_Led_statement.params d_Led_statement.body d_Led_statement.scope [] [] (He.fAd K d_Led_statement.at_) fd := t.says.d.def_ 34 (d := d_Led_statement) rfl
theorem sc_Led_statement : FnScope ["self", "here", "masses", "_", "yes", "no"] ["self", "here", "masses"] d_Led_statement.scope := ⟨rfl, rfl, rfl, by decide +kernel, rfl, by decide +kernel, by decide +kernel⟩
theorem Top.b_Led_statement (t : Top P w K mg base) : ∃ fd, FunD K d_Led_statement.name d_Led_statement.qual d_Led_statement.params d_Led_statement.body d_Led_statement.scope [] [] (He.fAd K d_Led_statement.at_) fd ∧ Binds K fd ["self", "here", "masses"] [] := by
  obtain ⟨fd, F⟩ := t.f_Led_statement
  exact ⟨fd, F, F.bindsN fun _ _ _ _ _ _ us hl => match us, hl with | [_, _, _], _ => rfl⟩
theorem Top.f_Led_changed (t : Top P w K mg base) : ∃ fd, FunD K d_Led_changed.name d_Led_changed.qual d_Led_changed.params d_Led_changed.body d_Led_changed.scope [] [] (He.fAd K d_Led_changed.at_) fd := t.says.d.def_ 35 (d := d_Led_changed) rfl
theorem sc_Led_changed : FnScope ["self", "here", "masses", "found", "world", "mass", "flag", "share", "there"] ["self", "here", "masses"] d_Led_changed.scope := ⟨rfl, rfl, rfl, by decide +kernel, rfl, by decide +kernel, by decide +kernel⟩
theorem Top.b_Led_changed (t : Top P w K mg base) : ∃ fd, FunD K d_Led_changed.name d_Led_changed.qual d_Led_changed.params d_Led_changed.body d_Led_changed.scope [] [] (He.fAd K d_Led_changed.at_) fd ∧ Binds K fd ["self", "here", "masses"] [] := by
  obtain ⟨fd, F⟩ := t.f_Led_changed
  exact ⟨fd, F, F.bindsN fun _ _ _ _ _ _ us hl => match us, hl with | [_, _, _], _ => rfl⟩
theorem Top.f_Led_ways (t : Top P w K mg base) : ∃ fd, FunD K d_Led_ways.name d_Led_ways.qual d_Led_ways.params d_Led_ways.body d_Led_ways.scope [] [] (He.fAd K d_Led_ways.at_) fd := t.says.d.def_ 36 (d := d_Led_ways) rfl
theorem sc_Led_ways : FnScope ["self", "here", "world", "share"] ["self", "here", "world"] d_Led_ways.scope := ⟨rfl, rfl, rfl, by decide +kernel, rfl, by decide +kernel, by decide +kernel⟩
theorem Top.b_Led_ways (t : Top P w K mg base) : ∃ fd, FunD K d_Led_ways.name d_Led_ways.qual d_Led_ways.params d_Led_ways.body d_Led_ways.scope [] [] (He.fAd K d_Led_ways.at_) fd ∧ Binds K fd ["self", "here", "world"] [] := by
  obtain ⟨fd, F⟩ := t.f_Led_ways
  exact ⟨fd, F, F.bindsN fun _ _ _ _ _ _ us hl => match us, hl with | [_, _, _], _ => rfl⟩
theorem Top.f_Led_parted (t : Top P w K mg base) : ∃ fd, FunD K d_Led_parted.name d_Led_parted.qual d_Led_parted.params d_Led_parted.body d_Led_parted.scope [] [] (He.fAd K d_Led_parted.at_) fd := t.says.d.def_ 37 (d := d_Led_parted) rfl
theorem sc_Led_parted : FnScope ["self", "saying", "masses", "yes", "no", "world"] ["self", "saying", "masses"] d_Led_parted.scope := ⟨rfl, rfl, rfl, by decide +kernel, rfl, by decide +kernel, by decide +kernel⟩
theorem Top.b_Led_parted (t : Top P w K mg base) : ∃ fd, FunD K d_Led_parted.name d_Led_parted.qual d_Led_parted.params d_Led_parted.body d_Led_parted.scope [] [] (He.fAd K d_Led_parted.at_) fd ∧ Binds K fd ["self", "saying", "masses"] [] := by
  obtain ⟨fd, F⟩ := t.f_Led_parted
  exact ⟨fd, F, F.bindsN fun _ _ _ _ _ _ us hl => match us, hl with | [_, _, _], _ => rfl⟩
theorem Top.f_Led_joined (t : Top P w K mg base) : ∃ fd, FunD K d_Led_joined.name d_Led_joined.qual d_Led_joined.params d_Led_joined.body d_Led_joined.scope [] [] (He.fAd K d_Led_joined.at_) fd := t.says.d.def_ 38 (d := d_Led_joined) rfl
theorem sc_Led_joined : FnScope ["self", "one", "other", "mine", "theirs"] ["self", "one", "other"] d_Led_joined.scope := ⟨rfl, rfl, rfl, by decide +kernel, rfl, by decide +kernel, by decide +kernel⟩
theorem Top.b_Led_joined (t : Top P w K mg base) : ∃ fd, FunD K d_Led_joined.name d_Led_joined.qual d_Led_joined.params d_Led_joined.body d_Led_joined.scope [] [] (He.fAd K d_Led_joined.at_) fd ∧ Binds K fd ["self", "one", "other"] [] := by
  obtain ⟨fd, F⟩ := t.f_Led_joined
  exact ⟨fd, F, F.bindsN fun _ _ _ _ _ _ us hl => match us, hl with | [_, _, _], _ => rfl⟩
theorem Top.f_Led_seen (t : Top P w K mg base) : ∃ fd, FunD K d_Led_seen.name d_Led_seen.qual d_Led_seen.params d_Led_seen.body d_Led_seen.scope [] [] (He.fAd K d_Led_seen.at_) fd := t.says.d.def_ 39 (d := d_Led_seen) rfl
theorem sc_Led_seen : FnScope ["self", "saying", "masses", "yes", "no"] ["self", "saying", "masses"] d_Led_seen.scope := ⟨rfl, rfl, rfl, by decide +kernel, rfl, by decide +kernel, by decide +kernel⟩
theorem Top.b_Led_seen (t : Top P w K mg base) : ∃ fd, FunD K d_Led_seen.name d_Led_seen.qual d_Led_seen.params d_Led_seen.body d_Led_seen.scope [] [] (He.fAd K d_Led_seen.at_) fd ∧ Binds K fd ["self", "saying", "masses"] [] := by
  obtain ⟨fd, F⟩ := t.f_Led_seen
  exact ⟨fd, F, F.bindsN fun _ _ _ _ _ _ us hl => match us, hl with | [_, _, _], _ => rfl⟩
theorem Top.f_Led_until (t : Top P w K mg base) : ∃ fd, FunD K d_Led_until.name d_Led_until.qual d_Led_until.params d_Led_until.body d_Led_until.scope [] [] (He.fAd K d_Led_until.at_) fd := t.says.d.def_ 40 (d := d_Led_until) rfl
theorem sc_Led_until : FnScope ["self", "here", "masses", "inner", "rows", "back", "outs", "ends", "kept", "visits", "found", "lost", "row", "at", "share", "world", "there", "one", "other"] ["self", "here", "masses"] d_Led_until.scope := ⟨rfl, rfl, rfl, by decide +kernel, rfl, by decide +kernel, by decide +kernel⟩
theorem Top.b_Led_until (t : Top P w K mg base) : ∃ fd, FunD K d_Led_until.name d_Led_until.qual d_Led_until.params d_Led_until.body d_Led_until.scope [] [] (He.fAd K d_Led_until.at_) fd ∧ Binds K fd ["self", "here", "masses"] [] := by
  obtain ⟨fd, F⟩ := t.f_Led_until
  exact ⟨fd, F, F.bindsN fun _ _ _ _ _ _ us hl => match us, hl with | [_, _, _], _ => rfl⟩
theorem Top.f_led_from (t : Top P w K mg base) : ∃ fd, FunD K d_led_from.name d_led_from.qual d_led_from.params d_led_from.body d_led_from.scope [] [] (He.fAd K d_led_from.at_) fd := t.says.d.def_ 41 (d := d_led_from) rfl
theorem sc_led_from : FnScope ["program", "world", "led"] ["program", "world"] d_led_from.scope := ⟨rfl, rfl, rfl, by decide +kernel, rfl, by decide +kernel, by decide +kernel⟩
theorem Top.b_led_from (t : Top P w K mg base) : ∃ fd, FunD K d_led_from.name d_led_from.qual d_led_from.params d_led_from.body d_led_from.scope [] [] (He.fAd K d_led_from.at_) fd ∧ Binds K fd ["program", "world"] [] := by
  obtain ⟨fd, F⟩ := t.f_led_from
  exact ⟨fd, F, F.bindsN fun _ _ _ _ _ _ us hl => match us, hl with | [_, _], _ => rfl⟩
theorem Top.f_outcome (t : Top P w K mg base) : ∃ fd, FunD K d_outcome.name d_outcome.qual d_outcome.params d_outcome.body d_outcome.scope [] [] (He.fAd K d_outcome.at_) fd := t.says.d.def_ 42 (d := d_outcome) rfl
theorem sc_outcome : FnScope ["program", "found", "many"] ["program"] d_outcome.scope := ⟨rfl, rfl, rfl, by decide +kernel, rfl, by decide +kernel, by decide +kernel⟩
theorem Top.b_outcome (t : Top P w K mg base) : ∃ fd, FunD K d_outcome.name d_outcome.qual d_outcome.params d_outcome.body d_outcome.scope [] [] (He.fAd K d_outcome.at_) fd ∧ Binds K fd ["program"] [] := by
  obtain ⟨fd, F⟩ := t.f_outcome
  exact ⟨fd, F, F.bindsN fun _ _ _ _ _ _ us hl => match us, hl with | [_], _ => rfl⟩
theorem Top.f_masses_of (t : Top P w K mg base) : ∃ fd, FunD K d_masses_of.name d_masses_of.qual d_masses_of.params d_masses_of.body d_masses_of.scope [] [] (He.fAd K d_masses_of.at_) fd := t.says.d.def_ 43 (d := d_masses_of) rfl
theorem sc_masses_of : FnScope ["program"] ["program"] d_masses_of.scope := ⟨rfl, rfl, rfl, by decide +kernel, rfl, by decide +kernel, by decide +kernel⟩
theorem Top.b_masses_of (t : Top P w K mg base) : ∃ fd, FunD K d_masses_of.name d_masses_of.qual d_masses_of.params d_masses_of.body d_masses_of.scope [] [] (He.fAd K d_masses_of.at_) fd ∧ Binds K fd ["program"] [] := by
  obtain ⟨fd, F⟩ := t.f_masses_of
  exact ⟨fd, F, F.bindsN fun _ _ _ _ _ _ us hl => match us, hl with | [_], _ => rfl⟩
theorem Top.f_need_pair (t : Top P w K mg base) : ∃ fd, FunD K d_need_pair.name d_need_pair.qual d_need_pair.params d_need_pair.body d_need_pair.scope [] [] (He.fAd K d_need_pair.at_) fd := t.says.d.def_ 44 (d := d_need_pair) rfl
theorem sc_need_pair : FnScope ["one", "other"] ["one", "other"] d_need_pair.scope := ⟨rfl, rfl, rfl, by decide +kernel, rfl, by decide +kernel, by decide +kernel⟩
theorem Top.b_need_pair (t : Top P w K mg base) : ∃ fd, FunD K d_need_pair.name d_need_pair.qual d_need_pair.params d_need_pair.body d_need_pair.scope [] [] (He.fAd K d_need_pair.at_) fd ∧ Binds K fd ["one", "other"] [] := by
  obtain ⟨fd, F⟩ := t.f_need_pair
  exact ⟨fd, F, F.bindsN fun _ _ _ _ _ _ us hl => match us, hl with | [_, _], _ => rfl⟩
theorem Top.f_whole_masses (t : Top P w K mg base) : ∃ fd, FunD K d_whole_masses.name d_whole_masses.qual d_whole_masses.params d_whole_masses.body d_whole_masses.scope [] [] (He.fAd K d_whole_masses.at_) fd := t.says.d.def_ 45 (d := d_whole_masses) rfl
theorem sc_whole_masses : FnScope ["program", "masses"] ["program"] d_whole_masses.scope := ⟨rfl, rfl, rfl, by decide +kernel, rfl, by decide +kernel, by decide +kernel⟩
theorem Top.b_whole_masses (t : Top P w K mg base) : ∃ fd, FunD K d_whole_masses.name d_whole_masses.qual d_whole_masses.params d_whole_masses.body d_whole_masses.scope [] [] (He.fAd K d_whole_masses.at_) fd ∧ Binds K fd ["program"] [] := by
  obtain ⟨fd, F⟩ := t.f_whole_masses
  exact ⟨fd, F, F.bindsN fun _ _ _ _ _ _ us hl => match us, hl with | [_], _ => rfl⟩
theorem Top.f_less_of (t : Top P w K mg base) : ∃ fd, FunD K d_less_of.name d_less_of.qual d_less_of.params d_less_of.body d_less_of.scope [] [] (He.fAd K d_less_of.at_) fd := t.says.d.def_ 46 (d := d_less_of) rfl
theorem sc_less_of : FnScope ["one", "other"] ["one", "other"] d_less_of.scope := ⟨rfl, rfl, rfl, by decide +kernel, rfl, by decide +kernel, by decide +kernel⟩
theorem Top.b_less_of (t : Top P w K mg base) : ∃ fd, FunD K d_less_of.name d_less_of.qual d_less_of.params d_less_of.body d_less_of.scope [] [] (He.fAd K d_less_of.at_) fd ∧ Binds K fd ["one", "other"] [] := by
  obtain ⟨fd, F⟩ := t.f_less_of
  exact ⟨fd, F, F.bindsN fun _ _ _ _ _ _ us hl => match us, hl with | [_, _], _ => rfl⟩
theorem Top.f_distance_of (t : Top P w K mg base) : ∃ fd, FunD K d_distance_of.name d_distance_of.qual d_distance_of.params d_distance_of.body d_distance_of.scope [] [] (He.fAd K d_distance_of.at_) fd := t.says.d.def_ 47 (d := d_distance_of) rfl
theorem sc_distance_of : FnScope ["mine", "theirs", "one", "other"] ["mine", "theirs"] d_distance_of.scope := ⟨rfl, rfl, rfl, by decide +kernel, rfl, by decide +kernel, by decide +kernel⟩
theorem Top.b_distance_of (t : Top P w K mg base) : ∃ fd, FunD K d_distance_of.name d_distance_of.qual d_distance_of.params d_distance_of.body d_distance_of.scope [] [] (He.fAd K d_distance_of.at_) fd ∧ Binds K fd ["mine", "theirs"] [] := by
  obtain ⟨fd, F⟩ := t.f_distance_of
  exact ⟨fd, F, F.bindsN fun _ _ _ _ _ _ us hl => match us, hl with | [_, _], _ => rfl⟩
theorem Top.f_distance (t : Top P w K mg base) : ∃ fd, FunD K d_distance.name d_distance.qual d_distance.params d_distance.body d_distance.scope [] [] (He.fAd K d_distance.at_) fd := t.says.d.def_ 48 (d := d_distance) rfl
theorem sc_distance : FnScope ["one", "other"] ["one", "other"] d_distance.scope := ⟨rfl, rfl, rfl, by decide +kernel, rfl, by decide +kernel, by decide +kernel⟩
theorem Top.b_distance (t : Top P w K mg base) : ∃ fd, FunD K d_distance.name d_distance.qual d_distance.params d_distance.body d_distance.scope [] [] (He.fAd K d_distance.at_) fd ∧ Binds K fd ["one", "other"] [] := by
  obtain ⟨fd, F⟩ := t.f_distance
  exact ⟨fd, F, F.bindsN fun _ _ _ _ _ _ us hl => match us, hl with | [_, _], _ => rfl⟩
theorem Top.f_telling_lot (t : Top P w K mg base) : ∃ fd, FunD K d_telling_lot.name d_telling_lot.qual d_telling_lot.params d_telling_lot.body d_telling_lot.scope [] [] (He.fAd K d_telling_lot.at_) fd := t.says.d.def_ 49 (d := d_telling_lot) rfl
theorem sc_telling_lot : FnScope ["one", "other", "first", "second", "end", "mass"] ["one", "other"] d_telling_lot.scope := ⟨rfl, rfl, rfl, by decide +kernel, rfl, by decide +kernel, by decide +kernel⟩
theorem Top.b_telling_lot (t : Top P w K mg base) : ∃ fd, FunD K d_telling_lot.name d_telling_lot.qual d_telling_lot.params d_telling_lot.body d_telling_lot.scope [] [] (He.fAd K d_telling_lot.at_) fd ∧ Binds K fd ["one", "other"] [] := by
  obtain ⟨fd, F⟩ := t.f_telling_lot
  exact ⟨fd, F, F.bindsN fun _ _ _ _ _ _ us hl => match us, hl with | [_, _], _ => rfl⟩
theorem Top.f_drawn_together (t : Top P w K mg base) : ∃ fd, FunD K d_drawn_together.name d_drawn_together.qual d_drawn_together.params d_drawn_together.body d_drawn_together.scope [] [] (He.fAd K d_drawn_together.at_) fd := t.says.d.def_ 50 (d := d_drawn_together) rfl
theorem sc_drawn_together : FnScope ["one", "other", "mine", "theirs", "many", "found", "end", "left", "lack", "there", "part", "_", "mass", "row"] ["one", "other"] d_drawn_together.scope := ⟨rfl, rfl, rfl, by decide +kernel, rfl, by decide +kernel, by decide +kernel⟩
theorem Top.b_drawn_together (t : Top P w K mg base) : ∃ fd, FunD K d_drawn_together.name d_drawn_together.qual d_drawn_together.params d_drawn_together.body d_drawn_together.scope [] [] (He.fAd K d_drawn_together.at_) fd ∧ Binds K fd ["one", "other"] [] := by
  obtain ⟨fd, F⟩ := t.f_drawn_together
  exact ⟨fd, F, F.bindsN fun _ _ _ _ _ _ us hl => match us, hl with | [_, _], _ => rfl⟩
theorem Top.f_is_joint (t : Top P w K mg base) : ∃ fd, FunD K d_is_joint.name d_is_joint.qual d_is_joint.params d_is_joint.body d_is_joint.scope [] [] (He.fAd K d_is_joint.at_) fd := t.says.d.def_ 51 (d := d_is_joint) rfl
theorem sc_is_joint : FnScope ["mine", "theirs", "thing", "many", "row", "part", "end"] ["mine", "theirs", "thing"] d_is_joint.scope := ⟨rfl, rfl, rfl, by decide +kernel, rfl, by decide +kernel, by decide +kernel⟩
theorem Top.b_is_joint (t : Top P w K mg base) : ∃ fd, FunD K d_is_joint.name d_is_joint.qual d_is_joint.params d_is_joint.body d_is_joint.scope [] [] (He.fAd K d_is_joint.at_) fd ∧ Binds K fd ["mine", "theirs", "thing"] [] := by
  obtain ⟨fd, F⟩ := t.f_is_joint
  exact ⟨fd, F, F.bindsN fun _ _ _ _ _ _ us hl => match us, hl with | [_, _, _], _ => rfl⟩
theorem Top.f_is_drawn_together (t : Top P w K mg base) : ∃ fd, FunD K d_is_drawn_together.name d_is_drawn_together.qual d_is_drawn_together.params d_is_drawn_together.body d_is_drawn_together.scope [] [] (He.fAd K d_is_drawn_together.at_) fd := t.says.d.def_ 52 (d := d_is_drawn_together) rfl
theorem sc_is_drawn_together : FnScope ["one", "other", "thing", "mine", "theirs", "end", "row"] ["one", "other", "thing"] d_is_drawn_together.scope := ⟨rfl, rfl, rfl, by decide +kernel, rfl, by decide +kernel, by decide +kernel⟩
theorem Top.b_is_drawn_together (t : Top P w K mg base) : ∃ fd, FunD K d_is_drawn_together.name d_is_drawn_together.qual d_is_drawn_together.params d_is_drawn_together.body d_is_drawn_together.scope [] [] (He.fAd K d_is_drawn_together.at_) fd ∧ Binds K fd ["one", "other", "thing"] [] := by
  obtain ⟨fd, F⟩ := t.f_is_drawn_together
  exact ⟨fd, F, F.bindsN fun _ _ _ _ _ _ us hl => match us, hl with | [_, _, _], _ => rfl⟩
theorem Top.f_law_hand (t : Top P w K mg base) : ∃ fd, FunD K d_law_hand.name d_law_hand.qual d_law_hand.params d_law_hand.body d_law_hand.scope [] [] (He.fAd K d_law_hand.at_) fd := t.says.d.def_ 53 (d := d_law_hand) rfl
theorem sc_law_hand : FnScope ["script", "cells", "cell"] ["script"] d_law_hand.scope := ⟨rfl, rfl, rfl, by decide +kernel, rfl, by decide +kernel, by decide +kernel⟩
theorem Top.b_law_hand (t : Top P w K mg base) : ∃ fd, FunD K d_law_hand.name d_law_hand.qual d_law_hand.params d_law_hand.body d_law_hand.scope [] [] (He.fAd K d_law_hand.at_) fd ∧ Binds K fd ["script"] [] := by
  obtain ⟨fd, F⟩ := t.f_law_hand
  exact ⟨fd, F, F.bindsN fun _ _ _ _ _ _ us hl => match us, hl with | [_], _ => rfl⟩
theorem Top.f_law_draw (t : Top P w K mg base) : ∃ fd, FunD K d_law_draw.name d_law_draw.qual d_law_draw.params d_law_draw.body d_law_draw.scope [] [] (He.fAd K d_law_draw.at_) fd := t.says.d.def_ 54 (d := d_law_draw) rfl
theorem sc_law_draw : FnScope ["hand", "many", "cell", "digit", "number"] ["hand", "many"] d_law_draw.scope := ⟨rfl, rfl, rfl, by decide +kernel, rfl, by decide +kernel, by decide +kernel⟩
theorem Top.b_law_draw (t : Top P w K mg base) : ∃ fd, FunD K d_law_draw.name d_law_draw.qual d_law_draw.params d_law_draw.body d_law_draw.scope [] [] (He.fAd K d_law_draw.at_) fd ∧ Binds K fd ["hand", "many"] [] := by
  obtain ⟨fd, F⟩ := t.f_law_draw
  exact ⟨fd, F, F.bindsN fun _ _ _ _ _ _ us hl => match us, hl with | [_, _], _ => rfl⟩
theorem Top.f_law_some (t : Top P w K mg base) : ∃ fd, FunD K d_law_some.name d_law_some.qual d_law_some.params d_law_some.body d_law_some.scope [] [] (He.fAd K d_law_some.at_) fd := t.says.d.def_ 55 (d := d_law_some) rfl
theorem sc_law_some : FnScope ["hand", "things"] ["hand", "things"] d_law_some.scope := ⟨rfl, rfl, rfl, by decide +kernel, rfl, by decide +kernel, by decide +kernel⟩
theorem Top.b_law_some (t : Top P w K mg base) : ∃ fd, FunD K d_law_some.name d_law_some.qual d_law_some.params d_law_some.body d_law_some.scope [] [] (He.fAd K d_law_some.at_) fd ∧ Binds K fd ["hand", "things"] [] := by
  obtain ⟨fd, F⟩ := t.f_law_some
  exact ⟨fd, F, F.bindsN fun _ _ _ _ _ _ us hl => match us, hl with | [_, _], _ => rfl⟩
theorem Top.f_law_kept (t : Top P w K mg base) : ∃ fd, FunD K d_law_kept.name d_law_kept.qual d_law_kept.params d_law_kept.body d_law_kept.scope [] [] (He.fAd K d_law_kept.at_) fd := t.says.d.def_ 56 (d := d_law_kept) rfl
theorem sc_law_kept : FnScope ["told", "due", "at"] ["told", "due"] d_law_kept.scope := ⟨rfl, rfl, rfl, by decide +kernel, rfl, by decide +kernel, by decide +kernel⟩
theorem Top.b_law_kept (t : Top P w K mg base) : ∃ fd, FunD K d_law_kept.name d_law_kept.qual d_law_kept.params d_law_kept.body d_law_kept.scope [] [] (He.fAd K d_law_kept.at_) fd ∧ Binds K fd ["told", "due"] [] := by
  obtain ⟨fd, F⟩ := t.f_law_kept
  exact ⟨fd, F, F.bindsN fun _ _ _ _ _ _ us hl => match us, hl with | [_, _], _ => rfl⟩
theorem Top.f_law_saying (t : Top P w K mg base) : ∃ fd, FunD K d_law_saying.name d_law_saying.qual d_law_saying.params d_law_saying.body d_law_saying.scope [] [] (He.fAd K d_law_saying.at_) fd := t.says.d.def_ 57 (d := d_law_saying) rfl
theorem sc_law_saying : FnScope ["hand", "letters", "depth", "kind", "word"] ["hand", "letters", "depth"] d_law_saying.scope := ⟨rfl, rfl, rfl, by decide +kernel, rfl, by decide +kernel, by decide +kernel⟩
theorem Top.b_law_saying (t : Top P w K mg base) : ∃ fd, FunD K d_law_saying.name d_law_saying.qual d_law_saying.params d_law_saying.body d_law_saying.scope [] [] (He.fAd K d_law_saying.at_) fd ∧ Binds K fd ["hand", "letters", "depth"] [] := by
  obtain ⟨fd, F⟩ := t.f_law_saying
  exact ⟨fd, F, F.bindsN fun _ _ _ _ _ _ us hl => match us, hl with | [_, _, _], _ => rfl⟩
theorem Top.f_law_true (t : Top P w K mg base) : ∃ fd, FunD K d_law_true.name d_law_true.qual d_law_true.params d_law_true.body d_law_true.scope [] [] (He.fAd K d_law_true.at_) fd := t.says.d.def_ 58 (d := d_law_true) rfl
theorem sc_law_true : FnScope ["saying", "world", "word", "one", "other"] ["saying", "world"] d_law_true.scope := ⟨rfl, rfl, rfl, by decide +kernel, rfl, by decide +kernel, by decide +kernel⟩
theorem Top.b_law_true (t : Top P w K mg base) : ∃ fd, FunD K d_law_true.name d_law_true.qual d_law_true.params d_law_true.body d_law_true.scope [] [] (He.fAd K d_law_true.at_) fd ∧ Binds K fd ["saying", "world"] [] := by
  obtain ⟨fd, F⟩ := t.f_law_true
  exact ⟨fd, F, F.bindsN fun _ _ _ _ _ _ us hl => match us, hl with | [_, _], _ => rfl⟩
theorem Top.f_law_gcd (t : Top P w K mg base) : ∃ fd, FunD K d_law_gcd.name d_law_gcd.qual d_law_gcd.params d_law_gcd.body d_law_gcd.scope [] [] (He.fAd K d_law_gcd.at_) fd := t.says.d.def_ 59 (d := d_law_gcd) rfl
theorem sc_law_gcd : FnScope ["one", "other", "step"] ["one", "other"] d_law_gcd.scope := ⟨rfl, rfl, rfl, by decide +kernel, rfl, by decide +kernel, by decide +kernel⟩
theorem Top.b_law_gcd (t : Top P w K mg base) : ∃ fd, FunD K d_law_gcd.name d_law_gcd.qual d_law_gcd.params d_law_gcd.body d_law_gcd.scope [] [] (He.fAd K d_law_gcd.at_) fd ∧ Binds K fd ["one", "other"] [] := by
  obtain ⟨fd, F⟩ := t.f_law_gcd
  exact ⟨fd, F, F.bindsN fun _ _ _ _ _ _ us hl => match us, hl with | [_, _], _ => rfl⟩
theorem Top.f_law_frac (t : Top P w K mg base) : ∃ fd, FunD K d_law_frac.name d_law_frac.qual d_law_frac.params d_law_frac.body d_law_frac.scope [] [] (He.fAd K d_law_frac.at_) fd := t.says.d.def_ 60 (d := d_law_frac) rfl
theorem sc_law_frac : FnScope ["top", "bottom", "many"] ["top", "bottom"] d_law_frac.scope := ⟨rfl, rfl, rfl, by decide +kernel, rfl, by decide +kernel, by decide +kernel⟩
theorem Top.b_law_frac (t : Top P w K mg base) : ∃ fd, FunD K d_law_frac.name d_law_frac.qual d_law_frac.params d_law_frac.body d_law_frac.scope [] [] (He.fAd K d_law_frac.at_) fd ∧ Binds K fd ["top", "bottom"] [] := by
  obtain ⟨fd, F⟩ := t.f_law_frac
  exact ⟨fd, F, F.bindsN fun _ _ _ _ _ _ us hl => match us, hl with | [_, _], _ => rfl⟩
theorem Top.f_law_plus (t : Top P w K mg base) : ∃ fd, FunD K d_law_plus.name d_law_plus.qual d_law_plus.params d_law_plus.body d_law_plus.scope [] [] (He.fAd K d_law_plus.at_) fd := t.says.d.def_ 61 (d := d_law_plus) rfl
theorem sc_law_plus : FnScope ["one", "other"] ["one", "other"] d_law_plus.scope := ⟨rfl, rfl, rfl, by decide +kernel, rfl, by decide +kernel, by decide +kernel⟩
theorem Top.b_law_plus (t : Top P w K mg base) : ∃ fd, FunD K d_law_plus.name d_law_plus.qual d_law_plus.params d_law_plus.body d_law_plus.scope [] [] (He.fAd K d_law_plus.at_) fd ∧ Binds K fd ["one", "other"] [] := by
  obtain ⟨fd, F⟩ := t.f_law_plus
  exact ⟨fd, F, F.bindsN fun _ _ _ _ _ _ us hl => match us, hl with | [_, _], _ => rfl⟩
theorem Top.f_law_minus (t : Top P w K mg base) : ∃ fd, FunD K d_law_minus.name d_law_minus.qual d_law_minus.params d_law_minus.body d_law_minus.scope [] [] (He.fAd K d_law_minus.at_) fd := t.says.d.def_ 62 (d := d_law_minus) rfl
theorem sc_law_minus : FnScope ["one", "other"] ["one", "other"] d_law_minus.scope := ⟨rfl, rfl, rfl, by decide +kernel, rfl, by decide +kernel, by decide +kernel⟩
theorem Top.b_law_minus (t : Top P w K mg base) : ∃ fd, FunD K d_law_minus.name d_law_minus.qual d_law_minus.params d_law_minus.body d_law_minus.scope [] [] (He.fAd K d_law_minus.at_) fd ∧ Binds K fd ["one", "other"] [] := by
  obtain ⟨fd, F⟩ := t.f_law_minus
  exact ⟨fd, F, F.bindsN fun _ _ _ _ _ _ us hl => match us, hl with | [_, _], _ => rfl⟩
theorem Top.f_law_times (t : Top P w K mg base) : ∃ fd, FunD K d_law_times.name d_law_times.qual d_law_times.params d_law_times.body d_law_times.scope [] [] (He.fAd K d_law_times.at_) fd := t.says.d.def_ 63 (d := d_law_times) rfl
theorem sc_law_times : FnScope ["one", "other"] ["one", "other"] d_law_times.scope := ⟨rfl, rfl, rfl, by decide +kernel, rfl, by decide +kernel, by decide +kernel⟩
theorem Top.b_law_times (t : Top P w K mg base) : ∃ fd, FunD K d_law_times.name d_law_times.qual d_law_times.params d_law_times.body d_law_times.scope [] [] (He.fAd K d_law_times.at_) fd ∧ Binds K fd ["one", "other"] [] := by
  obtain ⟨fd, F⟩ := t.f_law_times
  exact ⟨fd, F, F.bindsN fun _ _ _ _ _ _ us hl => match us, hl with | [_, _], _ => rfl⟩
theorem Top.f_law_less (t : Top P w K mg base) : ∃ fd, FunD K d_law_less.name d_law_less.qual d_law_less.params d_law_less.body d_law_less.scope [] [] (He.fAd K d_law_less.at_) fd := t.says.d.def_ 64 (d := d_law_less) rfl
theorem sc_law_less : FnScope ["one", "other"] ["one", "other"] d_law_less.scope := ⟨rfl, rfl, rfl, by decide +kernel, rfl, by decide +kernel, by decide +kernel⟩
theorem Top.b_law_less (t : Top P w K mg base) : ∃ fd, FunD K d_law_less.name d_law_less.qual d_law_less.params d_law_less.body d_law_less.scope [] [] (He.fAd K d_law_less.at_) fd ∧ Binds K fd ["one", "other"] [] := by
  obtain ⟨fd, F⟩ := t.f_law_less
  exact ⟨fd, F, F.bindsN fun _ _ _ _ _ _ us hl => match us, hl with | [_, _], _ => rfl⟩
theorem Top.f_law_sum (t : Top P w K mg base) : ∃ fd, FunD K d_law_sum.name d_law_sum.qual d_law_sum.params d_law_sum.body d_law_sum.scope [] [] (He.fAd K d_law_sum.at_) fd := t.says.d.def_ 65 (d := d_law_sum) rfl
theorem sc_law_sum : FnScope ["many", "found", "here"] ["many"] d_law_sum.scope := ⟨rfl, rfl, rfl, by decide +kernel, rfl, by decide +kernel, by decide +kernel⟩
theorem Top.b_law_sum (t : Top P w K mg base) : ∃ fd, FunD K d_law_sum.name d_law_sum.qual d_law_sum.params d_law_sum.body d_law_sum.scope [] [] (He.fAd K d_law_sum.at_) fd ∧ Binds K fd ["many"] [] := by
  obtain ⟨fd, F⟩ := t.f_law_sum
  exact ⟨fd, F, F.bindsN fun _ _ _ _ _ _ us hl => match us, hl with | [_], _ => rfl⟩
theorem Top.f_law_shares (t : Top P w K mg base) : ∃ fd, FunD K d_law_shares.name d_law_shares.qual d_law_shares.params d_law_shares.body d_law_shares.scope [] [] (He.fAd K d_law_shares.at_) fd := t.says.d.def_ 66 (d := d_law_shares) rfl
theorem sc_law_shares : FnScope ["hand", "step"] ["hand"] d_law_shares.scope := ⟨rfl, rfl, rfl, by decide +kernel, rfl, by decide +kernel, by decide +kernel⟩
theorem Top.b_law_shares (t : Top P w K mg base) : ∃ fd, FunD K d_law_shares.name d_law_shares.qual d_law_shares.params d_law_shares.body d_law_shares.scope [] [] (He.fAd K d_law_shares.at_) fd ∧ Binds K fd ["hand"] [] := by
  obtain ⟨fd, F⟩ := t.f_law_shares
  exact ⟨fd, F, F.bindsN fun _ _ _ _ _ _ us hl => match us, hl with | [_], _ => rfl⟩
theorem Top.f_law_block (t : Top P w K mg base) : ∃ fd, FunD K d_law_block.name d_law_block.qual d_law_block.params d_law_block.body d_law_block.scope [] [] (He.fAd K d_law_block.at_) fd := t.says.d.def_ 67 (d := d_law_block) rfl
theorem sc_law_block : FnScope ["hand", "letters", "shares", "left", "depth", "found", "step", "kind", "many", "inner", "less", "one", "other", "more"] ["hand", "letters", "shares", "left", "depth"] d_law_block.scope := ⟨rfl, rfl, rfl, by decide +kernel, rfl, by decide +kernel, by decide +kernel⟩
theorem Top.b_law_block (t : Top P w K mg base) : ∃ fd, FunD K d_law_block.name d_law_block.qual d_law_block.params d_law_block.body d_law_block.scope [] [] (He.fAd K d_law_block.at_) fd ∧ Binds K fd ["hand", "letters", "shares", "left", "depth"] [] := by
  obtain ⟨fd, F⟩ := t.f_law_block
  exact ⟨fd, F, F.bindsN fun _ _ _ _ _ _ us hl => match us, hl with | [_, _, _, _, _], _ => rfl⟩
theorem Top.f_law_program (t : Top P w K mg base) : ∃ fd, FunD K d_law_program.name d_law_program.qual d_law_program.params d_law_program.body d_law_program.scope [] [] (He.fAd K d_law_program.at_) fd := t.says.d.def_ 68 (d := d_law_program) rfl
theorem sc_law_program : FnScope ["hand", "most", "draws", "letters", "shares"] ["hand", "most", "draws"] d_law_program.scope := ⟨rfl, rfl, rfl, by decide +kernel, rfl, by decide +kernel, by decide +kernel⟩
theorem Top.b_law_program (t : Top P w K mg base) : ∃ fd, FunD K d_law_program.name d_law_program.qual d_law_program.params d_law_program.body d_law_program.scope [] [] (He.fAd K d_law_program.at_) fd ∧ Binds K fd ["hand", "most", "draws"] [] := by
  obtain ⟨fd, F⟩ := t.f_law_program
  exact ⟨fd, F, F.bindsN fun _ _ _ _ _ _ us hl => match us, hl with | [_, _, _], _ => rfl⟩
theorem Top.f_law_with (t : Top P w K mg base) : ∃ fd, FunD K d_law_with.name d_law_with.qual d_law_with.params d_law_with.body d_law_with.scope [] [] (He.fAd K d_law_with.at_) fd := t.says.d.def_ 69 (d := d_law_with) rfl
theorem sc_law_with : FnScope ["world", "letter", "flag", "rest"] ["world", "letter", "flag"] d_law_with.scope := ⟨rfl, rfl, rfl, by decide +kernel, rfl, by decide +kernel, by decide +kernel⟩
theorem Top.b_law_with (t : Top P w K mg base) : ∃ fd, FunD K d_law_with.name d_law_with.qual d_law_with.params d_law_with.body d_law_with.scope [] [] (He.fAd K d_law_with.at_) fd ∧ Binds K fd ["world", "letter", "flag"] [] := by
  obtain ⟨fd, F⟩ := t.f_law_with
  exact ⟨fd, F, F.bindsN fun _ _ _ _ _ _ us hl => match us, hl with | [_, _, _], _ => rfl⟩
theorem Top.f_law_go (t : Top P w K mg base) : ∃ fd, FunD K d_law_go.name d_law_go.qual d_law_go.params d_law_go.body d_law_go.scope [] [] (He.fAd K d_law_go.at_) fd := t.says.d.def_ 70 (d := d_law_go) rfl
theorem sc_law_go : FnScope ["block", "world", "flags", "told", "here", "flag", "step"] ["block", "world", "flags", "told"] d_law_go.scope := ⟨rfl, rfl, rfl, by decide +kernel, rfl, by decide +kernel, by decide +kernel⟩
theorem Top.b_law_go (t : Top P w K mg base) : ∃ fd, FunD K d_law_go.name d_law_go.qual d_law_go.params d_law_go.body d_law_go.scope [] [] (He.fAd K d_law_go.at_) fd ∧ Binds K fd ["block", "world", "flags", "told"] [] := by
  obtain ⟨fd, F⟩ := t.f_law_go
  exact ⟨fd, F, F.bindsN fun _ _ _ _ _ _ us hl => match us, hl with | [_, _, _, _], _ => rfl⟩
theorem Top.f_law_rows (t : Top P w K mg base) : ∃ fd, FunD K d_law_rows.name d_law_rows.qual d_law_rows.params d_law_rows.body d_law_rows.scope [] [] (He.fAd K d_law_rows.at_) fd := t.says.d.def_ 71 (d := d_law_rows) rfl
theorem sc_law_rows : FnScope ["block", "world", "found", "waiting", "flags", "told", "end"] ["block", "world"] d_law_rows.scope := ⟨rfl, rfl, rfl, by decide +kernel, rfl, by decide +kernel, by decide +kernel⟩
theorem Top.b_law_rows (t : Top P w K mg base) : ∃ fd, FunD K d_law_rows.name d_law_rows.qual d_law_rows.params d_law_rows.body d_law_rows.scope [] [] (He.fAd K d_law_rows.at_) fd ∧ Binds K fd ["block", "world"] [] := by
  obtain ⟨fd, F⟩ := t.f_law_rows
  exact ⟨fd, F, F.bindsN fun _ _ _ _ _ _ us hl => match us, hl with | [_, _], _ => rfl⟩
theorem Top.f_law_chance (t : Top P w K mg base) : ∃ fd, FunD K d_law_chance.name d_law_chance.qual d_law_chance.params d_law_chance.body d_law_chance.scope [] [] (He.fAd K d_law_chance.at_) fd := t.says.d.def_ 72 (d := d_law_chance) rfl
theorem sc_law_chance : FnScope ["shares", "pairs", "found", "share_v", "flag"] ["shares", "pairs"] d_law_chance.scope := ⟨rfl, rfl, rfl, by decide +kernel, rfl, by decide +kernel, by decide +kernel⟩
theorem Top.b_law_chance (t : Top P w K mg base) : ∃ fd, FunD K d_law_chance.name d_law_chance.qual d_law_chance.params d_law_chance.body d_law_chance.scope [] [] (He.fAd K d_law_chance.at_) fd ∧ Binds K fd ["shares", "pairs"] [] := by
  obtain ⟨fd, F⟩ := t.f_law_chance
  exact ⟨fd, F, F.bindsN fun _ _ _ _ _ _ us hl => match us, hl with | [_, _], _ => rfl⟩
theorem Top.f_law_masses (t : Top P w K mg base) : ∃ fd, FunD K d_law_masses.name d_law_masses.qual d_law_masses.params d_law_masses.body d_law_masses.scope [] [] (He.fAd K d_law_masses.at_) fd := t.says.d.def_ 73 (d := d_law_masses) rfl
theorem sc_law_masses : FnScope ["program", "shares", "found", "flags", "end", "pairs"] ["program", "shares"] d_law_masses.scope := ⟨rfl, rfl, rfl, by decide +kernel, rfl, by decide +kernel, by decide +kernel⟩
theorem Top.b_law_masses (t : Top P w K mg base) : ∃ fd, FunD K d_law_masses.name d_law_masses.qual d_law_masses.params d_law_masses.body d_law_masses.scope [] [] (He.fAd K d_law_masses.at_) fd ∧ Binds K fd ["program", "shares"] [] := by
  obtain ⟨fd, F⟩ := t.f_law_masses
  exact ⟨fd, F, F.bindsN fun _ _ _ _ _ _ us hl => match us, hl with | [_, _], _ => rfl⟩
theorem Top.f_law_changed (t : Top P w K mg base) : ∃ fd, FunD K d_law_changed.name d_law_changed.qual d_law_changed.params d_law_changed.body d_law_changed.scope [] [] (He.fAd K d_law_changed.at_) fd := t.says.d.def_ 74 (d := d_law_changed) rfl
theorem sc_law_changed : FnScope ["hand", "program", "letters", "shares", "block", "kind"] ["hand", "program"] d_law_changed.scope := ⟨rfl, rfl, rfl, by decide +kernel, rfl, by decide +kernel, by decide +kernel⟩
theorem Top.b_law_changed (t : Top P w K mg base) : ∃ fd, FunD K d_law_changed.name d_law_changed.qual d_law_changed.params d_law_changed.body d_law_changed.scope [] [] (He.fAd K d_law_changed.at_) fd ∧ Binds K fd ["hand", "program"] [] := by
  obtain ⟨fd, F⟩ := t.f_law_changed
  exact ⟨fd, F, F.bindsN fun _ _ _ _ _ _ us hl => match us, hl with | [_, _], _ => rfl⟩
theorem Top.f_law_far (t : Top P w K mg base) : ∃ fd, FunD K d_law_far.name d_law_far.qual d_law_far.params d_law_far.body d_law_far.scope [] [] (He.fAd K d_law_far.at_) fd := t.says.d.def_ 75 (d := d_law_far) rfl
theorem sc_law_far : FnScope ["one", "other", "mine", "theirs", "at"] ["one", "other"] d_law_far.scope := ⟨rfl, rfl, rfl, by decide +kernel, rfl, by decide +kernel, by decide +kernel⟩
theorem Top.b_law_far (t : Top P w K mg base) : ∃ fd, FunD K d_law_far.name d_law_far.qual d_law_far.params d_law_far.body d_law_far.scope [] [] (He.fAd K d_law_far.at_) fd ∧ Binds K fd ["one", "other"] [] := by
  obtain ⟨fd, F⟩ := t.f_law_far
  exact ⟨fd, F, F.bindsN fun _ _ _ _ _ _ us hl => match us, hl with | [_, _], _ => rfl⟩
theorem Top.f_law (t : Top P w K mg base) : ∃ fd, FunD K d_law.name d_law.qual d_law.params d_law.body d_law.scope [] [] (He.fAd K d_law.at_) fd := t.says.d.def_ 76 (d := d_law) rfl
theorem sc_law : FnScope ["script", "hand", "turn", "one", "other", "block", "far", "first", "second", "ahead", "behind", "third"] ["script"] d_law.scope := ⟨rfl, rfl, rfl, by decide +kernel, rfl, by decide +kernel, by decide +kernel⟩
theorem Top.b_law (t : Top P w K mg base) : ∃ fd, FunD K d_law.name d_law.qual d_law.params d_law.body d_law.scope [] [] (He.fAd K d_law.at_) fd ∧ Binds K fd ["script"] [] := by
  obtain ⟨fd, F⟩ := t.f_law
  exact ⟨fd, F, F.bindsN fun _ _ _ _ _ _ us hl => match us, hl with | [_], _ => rfl⟩
end
end Lw

/-! K77W_is_integer -/
set_option Elab.async false
set_option linter.all false
set_option maxRecDepth 100000
set_option maxHeartbeats 4000000
namespace Lw
open PySem PySem.Spec PyProof.Rows L2 Fw
section
variable {P : Program} {w : World} {K : PySem.W.Frag} {mg : Str → Option Value} {base : Heap}
/-! is_integer -/
def b_is_integer : MS := (mRetT (mT (mAndV (mUn (oIsi "int") (mVar 0)) (mNotV (mUn (oIsi "bool") (mVar 0))))))
def f_is_integer : Fn := mkFn 1 1 [] (b_is_integer)
theorem ok_is_integer (t : Top P w K mg base) : FnT P w K mg base (He.fAd K d_is_integer.at_) 1 ["thing"] (f_is_integer) := by
  obtain ⟨fd, F, B⟩ := t.b_is_integer
  exact fnT_of (k := 0) (np := 1) (nn := 1) (W := []) (body := b_is_integer) F sc_is_integer B fun cdv A outer s H E hr => (jss_one (js_ret (je_d (jd_and (jd_isi t.n_isinstance t.n_int (jd_var (pv 0))) (jd_one (jd_not (jd_isi t.n_isinstance t.n_bool (jd_var (pv 0)))))))))
end
end Lw

/-! K77W_is_between -/
set_option Elab.async false
set_option linter.all false
set_option maxRecDepth 100000
set_option maxHeartbeats 4000000
namespace Lw
open PySem PySem.Spec PyProof.Rows L2 Fw
section
variable {P : Program} {w : World} {K : PySem.W.Frag} {mg : Str → Option Value} {base : Heap}
/-! is_between -/
def b_is_between : MS := (mRetT (mT (mAndV (mF (mCallF f_is_integer [none] (mCons (mT (mVar 0)) (mRet [])))) (mChain oLe oLe (mVar 1) (mVar 0) (mVar 2)))))
def f_is_between : Fn := mkFn 3 3 [] (b_is_between)
theorem ok_is_between (t : Top P w K mg base) : FnT P w K mg base (He.fAd K d_is_between.at_) 2 ["thing", "least", "greatest"] (f_is_between) := by
  obtain ⟨fd, F, B⟩ := t.b_is_between
  exact fnT_of (k := 1) (np := 3) (nn := 3) (W := []) (body := b_is_between) F sc_is_between B fun cdv A outer s H E hr => (jss_one (js_ret (je_d (jd_and (jd_e (je_call (ok_is_integer t) (hr.mono (by decide)) t.g_is_integer (ja_v (jd_var (pv 0)) ja_nil))) (jd_one (jd_chain o_le o_le (jd_var (pv 1)) (jd_var (pv 0)) (jd_var (pv 2))))))))
end
end Lw

/-! K77W_common -/
set_option Elab.async false
set_option linter.all false
set_option maxRecDepth 100000
set_option maxHeartbeats 4000000
namespace Lw
open PySem PySem.Spec PyProof.Rows L2 Fw
section
variable {P : Program} {w : World} {K : PySem.W.Frag} {mg : Str → Option Value} {base : Heap}
/-! common -/
def w_common_1 : M Bool := (mB (mOp oGt (mVar 1) (mRet (.int 0))))
def l_common_1 : MS := (mPar 0 1 (mCons (mT (mVar 1)) (mCons (mT (mOp oMod (mVar 0) (mVar 1))) (mRet []))))
def b_common : MS := (mSeq (mWhile (fun e : Fw.Env => match (e[1]? : Option (Option T)) with | some (some (.fz (.int i))) => i.toNat + 1 | _ => 0) w_common_1 l_common_1)
    (mRetT (mT (mVar 0))))
def f_common : Fn := mkFn 2 2 [0, 1] (b_common)
theorem ok_common (t : Top P w K mg base) : FnT P w K mg base (He.fAd K d_common.at_) 1 ["one", "other"] (f_common) := by
  obtain ⟨fd, F, B⟩ := t.b_common
  exact fnT_of (k := 0) (np := 2) (nn := 2) (W := [0, 1]) (body := b_common) F sc_common B fun cdv A outer s H E hr => (jss_cons (js_while (n := (fun e : Fw.Env => match (e[1]? : Option (Option T)) with | some (some (.fz (.int i))) => i.toNat + 1 | _ => 0)) PassesOwn.never (jt_cmp o_gt.d (jd_var (pv 1)) jd_int) (jss_one (js_par rfl sc_common.nd (jae_cons (je_d (jd_var (pv 1))) (jae_cons (je_d (jd_op o_mod.d (jd_var (pv 0)) (jd_var (pv 1)))) jae_nil)))))
    (jss_one (js_ret (je_d (jd_var (pv 0))))))
end
end Lw

/-! K77W_share -/
set_option Elab.async false
set_option linter.all false
set_option maxRecDepth 100000
set_option maxHeartbeats 4000000
namespace Lw
open PySem PySem.Spec PyProof.Rows L2 Fw
section
variable {P : Program} {w : World} {K : PySem.W.Frag} {mg : Str → Option Value} {base : Heap}
/-! share -/
def b_share : MS := (mSeq (mAsg (mCallF f_common [none, none] (mCons (mT (mCall bAbs (mCons (mVar 0) (mRet [])))) (mCons (mT (mVar 1)) (mRet [])))) (gNm 2))
    (mRetT (mT (mTup (mCons (mOp oDiv (mVar 0) (mVar 2)) (mCons (mOp oDiv (mVar 1) (mVar 2)) (mRet [])))))))
def f_share : Fn := mkFn 2 3 [2] (b_share)
theorem ok_share (t : Top P w K mg base) : FnT P w K mg base (He.fAd K d_share.at_) 2 ["top", "bottom"] (f_share) := by
  obtain ⟨fd, F, B⟩ := t.b_share
  exact fnT_of (k := 1) (np := 2) (nn := 3) (W := [2]) (body := b_share) F sc_share B fun cdv A outer s H E hr => (jss_cons (js_set sc_share.nd (je_call (ok_common t) (hr.mono (by decide)) t.g_common (ja_v (jd_callB b_abs t.n_abs (jad_cons (jd_var (pv 0)) jad_nil)) (ja_v (jd_var (pv 1)) ja_nil))))
    (jss_one (js_ret (je_d (jd_tup (jad_cons (jd_op o_div.d (jd_var (pv 0)) (jd_var (pv 2))) (jad_cons (jd_op o_div.d (jd_var (pv 1)) (jd_var (pv 2))) jad_nil)))))))
end
end Lw

/-! K77W_is_fraction -/
set_option Elab.async false
set_option linter.all false
set_option maxRecDepth 100000
set_option maxHeartbeats 4000000
namespace Lw
open PySem PySem.Spec PyProof.Rows L2 Fw
section
variable {P : Program} {w : World} {K : PySem.W.Frag} {mg : Str → Option Value} {base : Heap}
/-! is_fraction -/
def q_is_fraction_1 : M T := mLc [1] (mSq (mVar 0)) (gNm 1) (mRet true) (mCallF f_is_integer [none] (mCons (mT (mVar 1)) (mRet [])))
def b_is_fraction : MS := (mSeq (mIfS (mOrT (mNotT (mB (mUn (oIsi "tuple") (mVar 0)))) (mOrT (mB (mOp oNe (mCall bLen (mCons (mVar 0) (mRet []))) (mRet (.int 2)))) (mNotT (mB (mCall bAll (mCons (mF q_is_fraction_1) (mRet []))))))) (mRetT (mT (mRet (.bl false)))) mNx)
    (mRetT (mT (mAndV (mOp oGt (mOp oIx (mVar 0) (mRet (.int 1))) (mRet (.int 0))) (mOp oEq (mF (mCallF f_common [none, none] (mCons (mT (mCall bAbs (mCons (mOp oIx (mVar 0) (mRet (.int 0))) (mRet [])))) (mCons (mT (mOp oIx (mVar 0) (mRet (.int 1)))) (mRet []))))) (mRet (.int 1)))))))
def f_is_fraction : Fn := mkFn 1 2 [] (b_is_fraction)
theorem ok_is_fraction (t : Top P w K mg base) : FnT P w K mg base (He.fAd K d_is_fraction.at_) 2 ["thing"] (f_is_fraction) := by
  obtain ⟨fd, F, B⟩ := t.b_is_fraction
  exact fnT_of (k := 1) (np := 1) (nn := 2) (W := []) (body := b_is_fraction) F sc_is_fraction B fun cdv A outer s H E hr => (jss_cons (js_if (jt_w (jw_or (jt_not (jt_val (jd_isi t.n_isinstance t.n_tuple (jd_var (pv 0))))) (jw_or (jt_cmp (o_ne hr.units).d (jd_callB b_len t.n_len (jad_cons (jd_var (pv 0)) jad_nil)) jd_int) (jw_or1 (jt_not (jt_val (jd_callB (b_all rfl) t.n_all (jad_cons (jd_e (je_lc (own := [("part", 1)]) rfl sc_is_fraction.nd (ji_seq (jd_var (pv 0))) (blkOk_by (by kernel_rfl)) (fun _ _ _ _ _ => (jg_name sc_is_fraction.nd)) (fun _ _ _ _ _ => jpt_nil) (fun _ _ _ _ _ => (je_call (ok_is_integer t) (hr.mono (by decide)) t.g_is_integer (ja_v (jd_var (pv 1)) ja_nil))))) jad_nil)))))))) (jss_one (js_ret (je_d jd_bl))) jss_nil)
    (jss_one (js_ret (je_d (jd_and (jd_cmp o_gt.d (jd_ix (jd_var (pv 0)) jd_int) jd_int) (jd_one (jd_cmp (o_eq hr.units).d (jd_e (je_call (ok_common t) (hr.mono (by decide)) t.g_common (ja_v (jd_callB b_abs t.n_abs (jad_cons (jd_ix (jd_var (pv 0)) jd_int) jad_nil)) (ja_v (jd_ix (jd_var (pv 0)) jd_int) ja_nil)))) jd_int)))))))
end
end Lw

/-! K77W_plus -/
set_option Elab.async false
set_option linter.all false
set_option maxRecDepth 100000
set_option maxHeartbeats 4000000
namespace Lw
open PySem PySem.Spec PyProof.Rows L2 Fw
section
variable {P : Program} {w : World} {K : PySem.W.Frag} {mg : Str → Option Value} {base : Heap}
/-! plus -/
def b_plus : MS := (mSeq (mIfS (mB (mOp oEq (mOp oIx (mVar 0) (mRet (.int 0))) (mRet (.int 0)))) (mRetT (mT (mVar 1))) mNx)
    (mSeq (mIfS (mB (mOp oEq (mOp oIx (mVar 1) (mRet (.int 0))) (mRet (.int 0)))) (mRetT (mT (mVar 0))) mNx)
    (mRetT (mCallF f_share [none, none] (mCons (mT (mF (mOpT oAdd (mF (mOpT oMul (mOp oIx (mVar 0) (mRet (.int 0))) (mOp oIx (mVar 1) (mRet (.int 1))))) (mF (mOpT oMul (mOp oIx (mVar 1) (mRet (.int 0))) (mOp oIx (mVar 0) (mRet (.int 1)))))))) (mCons (mT (mF (mOpT oMul (mOp oIx (mVar 0) (mRet (.int 1))) (mOp oIx (mVar 1) (mRet (.int 1)))))) (mRet [])))))))
def f_plus : Fn := mkFn 2 2 [] (b_plus)
theorem ok_plus (t : Top P w K mg base) : FnT P w K mg base (He.fAd K d_plus.at_) 3 ["one", "other"] (f_plus) := by
  obtain ⟨fd, F, B⟩ := t.b_plus
  exact fnT_of (k := 2) (np := 2) (nn := 2) (W := []) (body := b_plus) F sc_plus B fun cdv A outer s H E hr => (jss_cons (js_if (jt_cmp (o_eq hr.units).d (jd_ix (jd_var (pv 0)) jd_int) jd_int) (jss_one (js_ret (je_d (jd_var (pv 1))))) jss_nil)
    (jss_cons (js_if (jt_cmp (o_eq hr.units).d (jd_ix (jd_var (pv 1)) jd_int) jd_int) (jss_one (js_ret (je_d (jd_var (pv 0))))) jss_nil)
    (jss_one (js_ret (je_call (ok_share t) (hr.mono (by decide)) t.g_share (ja_v (jd_e (je_add (jd_e (je_mul (jd_ix (jd_var (pv 0)) jd_int) (jd_ix (jd_var (pv 1)) jd_int))) (jd_e (je_mul (jd_ix (jd_var (pv 1)) jd_int) (jd_ix (jd_var (pv 0)) jd_int))))) (ja_v (jd_e (je_mul (jd_ix (jd_var (pv 0)) jd_int) (jd_ix (jd_var (pv 1)) jd_int))) ja_nil)))))))
end
end Lw

/-! K77W_minus -/
set_option Elab.async false
set_option linter.all false
set_option maxRecDepth 100000
set_option maxHeartbeats 4000000
namespace Lw
open PySem PySem.Spec PyProof.Rows L2 Fw
section
variable {P : Program} {w : World} {K : PySem.W.Frag} {mg : Str → Option Value} {base : Heap}
/-! minus -/
def b_minus : MS := (mRetT (mCallF f_plus [none, none] (mCons (mT (mVar 0)) (mCons (mT (mTup (mCons (mOp oSub (mRet (.int 0)) (mOp oIx (mVar 1) (mRet (.int 0)))) (mCons (mOp oIx (mVar 1) (mRet (.int 1))) (mRet []))))) (mRet [])))))
def f_minus : Fn := mkFn 2 2 [] (b_minus)
theorem ok_minus (t : Top P w K mg base) : FnT P w K mg base (He.fAd K d_minus.at_) 4 ["one", "other"] (f_minus) := by
  obtain ⟨fd, F, B⟩ := t.b_minus
  exact fnT_of (k := 3) (np := 2) (nn := 2) (W := []) (body := b_minus) F sc_minus B fun cdv A outer s H E hr => (jss_one (js_ret (je_call (ok_plus t) (hr.mono (by decide)) t.g_plus (ja_v (jd_var (pv 0)) (ja_v (jd_tup (jad_cons (jd_op o_sub.d jd_int (jd_ix (jd_var (pv 1)) jd_int)) (jad_cons (jd_ix (jd_var (pv 1)) jd_int) jad_nil))) ja_nil)))))
end
end Lw

/-! K77W_times -/
set_option Elab.async false
set_option linter.all false
set_option maxRecDepth 100000
set_option maxHeartbeats 4000000
namespace Lw
open PySem PySem.Spec PyProof.Rows L2 Fw
section
variable {P : Program} {w : World} {K : PySem.W.Frag} {mg : Str → Option Value} {base : Heap}
/-! times -/
def b_times : MS := (mSeq (mIfS (mOrT (mB (mOp oEq (mOp oIx (mVar 0) (mRet (.int 0))) (mRet (.int 0)))) (mB (mOp oEq (mOp oIx (mVar 1) (mRet (.int 0))) (mRet (.int 0))))) (mRetT (mT (mRet c_ZERO))) mNx)
    (mRetT (mCallF f_share [none, none] (mCons (mT (mF (mOpT oMul (mOp oIx (mVar 0) (mRet (.int 0))) (mOp oIx (mVar 1) (mRet (.int 0)))))) (mCons (mT (mF (mOpT oMul (mOp oIx (mVar 0) (mRet (.int 1))) (mOp oIx (mVar 1) (mRet (.int 1)))))) (mRet []))))))
def f_times : Fn := mkFn 2 2 [] (b_times)
theorem ok_times (t : Top P w K mg base) : FnT P w K mg base (He.fAd K d_times.at_) 3 ["one", "other"] (f_times) := by
  obtain ⟨fd, F, B⟩ := t.b_times
  exact fnT_of (k := 2) (np := 2) (nn := 2) (W := []) (body := b_times) F sc_times B fun cdv A outer s H E hr => (jss_cons (js_if (jt_w (jw_or (jt_cmp (o_eq hr.units).d (jd_ix (jd_var (pv 0)) jd_int) jd_int) (jw_or1 (jt_cmp (o_eq hr.units).d (jd_ix (jd_var (pv 1)) jd_int) jd_int)))) (jss_one (js_ret (je_d (jd_globx (t.c_ZERO))))) jss_nil)
    (jss_one (js_ret (je_call (ok_share t) (hr.mono (by decide)) t.g_share (ja_v (jd_e (je_mul (jd_ix (jd_var (pv 0)) jd_int) (jd_ix (jd_var (pv 1)) jd_int))) (ja_v (jd_e (je_mul (jd_ix (jd_var (pv 0)) jd_int) (jd_ix (jd_var (pv 1)) jd_int))) ja_nil))))))
end
end Lw

/-! K77W_is_less -/
set_option Elab.async false
set_option linter.all false
set_option maxRecDepth 100000
set_option maxHeartbeats 4000000
namespace Lw
open PySem PySem.Spec PyProof.Rows L2 Fw
section
variable {P : Program} {w : World} {K : PySem.W.Frag} {mg : Str → Option Value} {base : Heap}
/-! is_less -/
def b_is_less : MS := (mRetT (mT (mOp oLt (mF (mOpT oMul (mOp oIx (mVar 0) (mRet (.int 0))) (mOp oIx (mVar 1) (mRet (.int 1))))) (mF (mOpT oMul (mOp oIx (mVar 1) (mRet (.int 0))) (mOp oIx (mVar 0) (mRet (.int 1))))))))
def f_is_less : Fn := mkFn 2 2 [] (b_is_less)
theorem ok_is_less (t : Top P w K mg base) : FnT P w K mg base (He.fAd K d_is_less.at_) 1 ["one", "other"] (f_is_less) := by
  obtain ⟨fd, F, B⟩ := t.b_is_less
  exact fnT_of (k := 0) (np := 2) (nn := 2) (W := []) (body := b_is_less) F sc_is_less B fun cdv A outer s H E hr => (jss_one (js_ret (je_d (jd_cmp o_lt.d (jd_e (je_mul (jd_ix (jd_var (pv 0)) jd_int) (jd_ix (jd_var (pv 1)) jd_int))) (jd_e (je_mul (jd_ix (jd_var (pv 1)) jd_int) (jd_ix (jd_var (pv 0)) jd_int)))))))
end
end Lw

/-! K77W_total -/
set_option Elab.async false
set_option linter.all false
set_option maxRecDepth 100000
set_option maxHeartbeats 4000000
namespace Lw
open PySem PySem.Spec PyProof.Rows L2 Fw
section
variable {P : Program} {w : World} {K : PySem.W.Frag} {mg : Str → Option Value} {base : Heap}
/-! total -/
def l_total_1 : MS := (mAsg (mCallF f_plus [none, none] (mCons (mT (mVar 1)) (mCons (mT (mVar 2)) (mRet [])))) (gNm 1))
def b_total : MS := (mSeq (mAsg (mT (mRet c_ZERO)) (gNm 1))
    (mSeq (mFor (mSq (mVar 0)) (gNm 2) l_total_1)
    (mRetT (mMv 1))))
def f_total : Fn := mkFn 1 3 [1, 2] (b_total)
theorem ok_total (t : Top P w K mg base) : FnT P w K mg base (He.fAd K d_total.at_) 4 ["many"] (f_total) := by
  obtain ⟨fd, F, B⟩ := t.b_total
  exact fnT_of (k := 3) (np := 1) (nn := 3) (W := [1, 2]) (body := b_total) F sc_total B fun cdv A outer s H E hr => (jss_cons (js_set sc_total.nd (je_d (jd_globx (t.c_ZERO))))
    (jss_cons (js_for PassesOwn.never rfl (ji_seq (jd_var (pv 0))) (jg_name sc_total.nd) (jss_one (js_set sc_total.nd (je_call (ok_plus t) (hr.mono (by decide)) t.g_plus (ja_v (jd_var (pv 1)) (ja_v (jd_var (pv 2)) ja_nil))))))
    (jss_one (js_ret (je_mv (pv 1))))))
end
end Lw

/-! K77W_left_of -/
set_option Elab.async false
set_option linter.all false
set_option maxRecDepth 100000
set_option maxHeartbeats 4000000
namespace Lw
open PySem PySem.Spec PyProof.Rows L2 Fw
section
variable {P : Program} {w : World} {K : PySem.W.Frag} {mg : Str → Option Value} {base : Heap}
/-! left_of -/
def b_left_of : MS := (mRetT (mCallF f_minus [none, none] (mCons (mT (mRet c_ONE)) (mCons (mT (mVar 0)) (mRet [])))))
def f_left_of : Fn := mkFn 1 1 [] (b_left_of)
theorem ok_left_of (t : Top P w K mg base) : FnT P w K mg base (He.fAd K d_left_of.at_) 5 ["one"] (f_left_of) := by
  obtain ⟨fd, F, B⟩ := t.b_left_of
  exact fnT_of (k := 4) (np := 1) (nn := 1) (W := []) (body := b_left_of) F sc_left_of B fun cdv A outer s H E hr => (jss_one (js_ret (je_call (ok_minus t) (hr.mono (by decide)) t.g_minus (ja_v (jd_globx (t.c_ONE)) (ja_v (jd_var (pv 0)) ja_nil)))))
end
end Lw

/-! K77W_is_chance -/
set_option Elab.async false
set_option linter.all false
set_option maxRecDepth 100000
set_option maxHeartbeats 4000000
namespace Lw
open PySem PySem.Spec PyProof.Rows L2 Fw
section
variable {P : Program} {w : World} {K : PySem.W.Frag} {mg : Str → Option Value} {base : Heap}
/-! is_chance -/
def b_is_chance : MS := (mRetT (mT (mAndV (mF (mCallF f_is_fraction [none] (mCons (mT (mVar 0)) (mRet [])))) (mChain3 oLe oLe oLe (mRet (.int 0)) (mOp oIx (mVar 0) (mRet (.int 0))) (mOp oIx (mVar 0) (mRet (.int 1))) (mRet c_MOST_PART)))))
def f_is_chance : Fn := mkFn 1 1 [] (b_is_chance)
theorem ok_is_chance (t : Top P w K mg base) : FnT P w K mg base (He.fAd K d_is_chance.at_) 3 ["thing"] (f_is_chance) := by
  obtain ⟨fd, F, B⟩ := t.b_is_chance
  exact fnT_of (k := 2) (np := 1) (nn := 1) (W := []) (body := b_is_chance) F sc_is_chance B fun cdv A outer s H E hr => (jss_one (js_ret (je_d (jd_and (jd_e (je_call (ok_is_fraction t) (hr.mono (by decide)) t.g_is_fraction (ja_v (jd_var (pv 0)) ja_nil))) (jd_one (jd_chain3 o_le o_le o_le jd_int (jd_ix (jd_var (pv 0)) jd_int) (jd_ix (jd_var (pv 0)) jd_int) (jd_globx (t.c_MOST_PART))))))))
end
end Lw

/-! K77W_are_shares -/
set_option Elab.async false
set_option linter.all false
set_option maxRecDepth 100000
set_option maxHeartbeats 4000000
namespace Lw
open PySem PySem.Spec PyProof.Rows L2 Fw
section
variable {P : Program} {w : World} {K : PySem.W.Frag} {mg : Str → Option Value} {base : Heap}
/-! are_shares -/
def q_are_shares_1 : M T := mLc [1] (mSq (mVar 0)) (gNm 1) (mRet true) (mCallF f_is_chance [none] (mCons (mT (mVar 1)) (mRet [])))
def b_are_shares : MS := (mRetT (mT (mAndV (mUn (oIsi "tuple") (mVar 0)) (mAndV (mOp oLe (mCall bLen (mCons (mVar 0) (mRet []))) (mRet c_MOST_SHARES)) (mCall bAll (mCons (mF q_are_shares_1) (mRet [])))))))
def f_are_shares : Fn := mkFn 1 2 [] (b_are_shares)
theorem ok_are_shares (t : Top P w K mg base) : FnT P w K mg base (He.fAd K d_are_shares.at_) 4 ["thing"] (f_are_shares) := by
  obtain ⟨fd, F, B⟩ := t.b_are_shares
  exact fnT_of (k := 3) (np := 1) (nn := 2) (W := []) (body := b_are_shares) F sc_are_shares B fun cdv A outer s H E hr => (jss_one (js_ret (je_d (jd_and (jd_isi t.n_isinstance t.n_tuple (jd_var (pv 0))) (jd_and (jd_cmp o_le.d (jd_callB b_len t.n_len (jad_cons (jd_var (pv 0)) jad_nil)) (jd_globx (t.c_MOST_SHARES))) (jd_one (jd_callB (b_all rfl) t.n_all (jad_cons (jd_e (je_lc (own := [("one", 1)]) rfl sc_are_shares.nd (ji_seq (jd_var (pv 0))) (blkOk_by (by kernel_rfl)) (fun _ _ _ _ _ => (jg_name sc_are_shares.nd)) (fun _ _ _ _ _ => jpt_nil) (fun _ _ _ _ _ => (je_call (ok_is_chance t) (hr.mono (by decide)) t.g_is_chance (ja_v (jd_var (pv 1)) ja_nil))))) jad_nil))))))))
end
end Lw

/-! K77W_inner_of -/
set_option Elab.async false
set_option linter.all false
set_option maxRecDepth 100000
set_option maxHeartbeats 4000000
namespace Lw
open PySem PySem.Spec PyProof.Rows L2 Fw
section
variable {P : Program} {w : World} {K : PySem.W.Frag} {mg : Str → Option Value} {base : Heap}
/-! inner_of -/
def b_inner_of : MS := (mSeq (mIfS (mOrT (mNotT (mB (mUn (oIsi "tuple") (mVar 0)))) (mOrT (mB (mOp oEq (mCall bLen (mCons (mVar 0) (mRet []))) (mRet (.int 0)))) (mNotT (mB (mUn (oIsi "str") (mOp oIx (mVar 0) (mRet (.int 0)))))))) (mRetT (mT (mRet .non))) mNx)
    (mSeq (mIfS (mB (mOp oIn (mOp oIx (mVar 0) (mRet (.int 0))) (mTup (mCons (mRet (.str "true")) (mCons (mRet (.str "false")) (mRet [])))))) (mRetT (mIf (mB (mOp oEq (mCall bLen (mCons (mVar 0) (mRet []))) (mRet (.int 1)))) (mLst (mRet [])) (mT (mRet .non)))) mNx)
    (mSeq (mIfS (mB (mOp oEq (mOp oIx (mVar 0) (mRet (.int 0))) (mRet (.str "letter")))) (mRetT (mIf (mAndT (mB (mOp oEq (mCall bLen (mCons (mVar 0) (mRet []))) (mRet (.int 2)))) (mB (mF (mCallF f_is_between [none, none, none] (mCons (mT (mOp oIx (mVar 0) (mRet (.int 1)))) (mCons (mT (mRet (.int 0))) (mCons (mT (mOp oSub (mVar 1) (mRet (.int 1)))) (mRet [])))))))) (mLst (mRet [])) (mT (mRet .non)))) mNx)
    (mSeq (mIfS (mB (mOp oEq (mOp oIx (mVar 0) (mRet (.int 0))) (mRet (.str "not")))) (mRetT (mIf (mB (mOp oEq (mCall bLen (mCons (mVar 0) (mRet []))) (mRet (.int 2)))) (mLst (mCons (mT (mOp oIx (mVar 0) (mRet (.int 1)))) (mRet []))) (mT (mRet .non)))) mNx)
    (mRetT (mIf (mAndT (mB (mOp oIn (mOp oIx (mVar 0) (mRet (.int 0))) (mRet c_PAIRS))) (mB (mOp oEq (mCall bLen (mCons (mVar 0) (mRet []))) (mRet (.int 3))))) (mLst (mCons (mT (mOp oIx (mVar 0) (mRet (.int 1)))) (mCons (mT (mOp oIx (mVar 0) (mRet (.int 2)))) (mRet [])))) (mT (mRet .non))))))))
def f_inner_of : Fn := mkFn 2 2 [] (b_inner_of)
theorem ok_inner_of (t : Top P w K mg base) : FnT P w K mg base (He.fAd K d_inner_of.at_) 3 ["thing", "letters"] (f_inner_of) := by
  obtain ⟨fd, F, B⟩ := t.b_inner_of
  exact fnT_of (k := 2) (np := 2) (nn := 2) (W := []) (body := b_inner_of) F sc_inner_of B fun cdv A outer s H E hr => (jss_cons (js_if (jt_w (jw_or (jt_not (jt_val (jd_isi t.n_isinstance t.n_tuple (jd_var (pv 0))))) (jw_or (jt_cmp (o_eq hr.units).d (jd_callB b_len t.n_len (jad_cons (jd_var (pv 0)) jad_nil)) jd_int) (jw_or1 (jt_not (jt_val (jd_isi t.n_isinstance t.n_str (jd_ix (jd_var (pv 0)) jd_int)))))))) (jss_one (js_ret (je_d jd_non))) jss_nil)
    (jss_cons (js_if (jt_cmp o_in.d (jd_ix (jd_var (pv 0)) jd_int) (jd_tup (jad_cons jd_str (jad_cons jd_str jad_nil)))) (jss_one (js_ret (je_if (jt_cmp (o_eq hr.units).d (jd_callB b_len t.n_len (jad_cons (jd_var (pv 0)) jad_nil)) jd_int) (je_lst jae_nil) (je_d jd_non)))) jss_nil)
    (jss_cons (js_if (jt_cmp (o_eq hr.units).d (jd_ix (jd_var (pv 0)) jd_int) jd_str) (jss_one (js_ret (je_if (jt_w (jw_and (jt_cmp (o_eq hr.units).d (jd_callB b_len t.n_len (jad_cons (jd_var (pv 0)) jad_nil)) jd_int) (jw_and1 (jt_val (jd_e (je_call (ok_is_between t) (hr.mono (by decide)) t.g_is_between (ja_v (jd_ix (jd_var (pv 0)) jd_int) (ja_v jd_int (ja_v (jd_op o_sub.d (jd_var (pv 1)) jd_int) ja_nil))))))))) (je_lst jae_nil) (je_d jd_non)))) jss_nil)
    (jss_cons (js_if (jt_cmp (o_eq hr.units).d (jd_ix (jd_var (pv 0)) jd_int) jd_str) (jss_one (js_ret (je_if (jt_cmp (o_eq hr.units).d (jd_callB b_len t.n_len (jad_cons (jd_var (pv 0)) jad_nil)) jd_int) (je_lst (jae_cons (je_d (jd_ix (jd_var (pv 0)) jd_int)) jae_nil)) (je_d jd_non)))) jss_nil)
    (jss_one (js_ret (je_if (jt_w (jw_and (jt_cmp o_in.d (jd_ix (jd_var (pv 0)) jd_int) (jd_globx (t.c_PAIRS))) (jw_and1 (jt_cmp (o_eq hr.units).d (jd_callB b_len t.n_len (jad_cons (jd_var (pv 0)) jad_nil)) jd_int)))) (je_lst (jae_cons (je_d (jd_ix (jd_var (pv 0)) jd_int)) (jae_cons (je_d (jd_ix (jd_var (pv 0)) jd_int)) jae_nil))) (je_d jd_non))))))))
end
end Lw

/-! K77W_is_saying_of -/
set_option Elab.async false
set_option linter.all false
set_option maxRecDepth 100000
set_option maxHeartbeats 4000000
namespace Lw
open PySem PySem.Spec PyProof.Rows L2 Fw
section
variable {P : Program} {w : World} {K : PySem.W.Frag} {mg : Str → Option Value} {base : Heap}
/-! is_saying_of -/
def l_is_saying_of_1 : MS := (mSeq (mAsg (mCallF f_inner_of [none, none] (mCons (mT (mVar 5)) (mCons (mT (mVar 0)) (mRet [])))) (gNm 6))
    (mSeq (mIfS (mB (mOp oIs (mVar 6) (mRet .non))) (mRetT (mT (mRet (.bl false)))) mNx)
    (mExp (mExt (pNm 4) (mT (mVar 6))))))
def l_is_saying_of_2 : MS := (mSeq (mAsg (mLst (mRet [])) (gNm 4))
    (mSeq (mFor (mSq (mVar 2)) (gNm 5) l_is_saying_of_1)
    (mAsg (mT (mVar 4)) (gNm 2))))
def b_is_saying_of : MS := (mSeq (mAsg (mLst (mCons (mT (mVar 1)) (mRet []))) (gNm 2))
    (mSeq (mFor (mIt rng1 (mCons (mRet c_MOST_DEPTH) (mRet []))) (gNm 3) l_is_saying_of_2)
    (mRetT (mT (mOp oEq (mCall bLen (mCons (mVar 2) (mRet []))) (mRet (.int 0)))))))
def f_is_saying_of : Fn := mkFn 2 7 [2, 3, 4, 5, 6] (b_is_saying_of)
theorem ok_is_saying_of (t : Top P w K mg base) : FnT P w K mg base (He.fAd K d_is_saying_of.at_) 4 ["letters", "thing"] (f_is_saying_of) := by
  obtain ⟨fd, F, B⟩ := t.b_is_saying_of
  exact fnT_of (k := 3) (np := 2) (nn := 7) (W := [2, 3, 4, 5, 6]) (body := b_is_saying_of) F sc_is_saying_of B fun cdv A outer s H E hr => (jss_cons (js_set sc_is_saying_of.nd (je_lst (jae_cons (je_d (jd_var (pv 1))) jae_nil)))
    (jss_cons (js_for PassesOwn.never rfl (ji_range1 t.n_range (jad_cons (jd_globx (t.c_MOST_DEPTH)) jad_nil)) (jg_name sc_is_saying_of.nd) (jss_cons (js_set sc_is_saying_of.nd (je_lst jae_nil))
    (jss_cons (js_for PassesOwn.never rfl (ji_seq (jd_var (pv 2))) (jg_name sc_is_saying_of.nd) (jss_cons (js_set sc_is_saying_of.nd (je_call (ok_inner_of t) (hr.mono (by decide)) t.g_inner_of (ja_v (jd_var (pv 5)) (ja_v (jd_var (pv 0)) ja_nil))))
    (jss_cons (js_if (jt_cmp o_is.d (jd_var (pv 6)) jd_non) (jss_one (js_ret (je_d jd_bl))) jss_nil)
    (jss_one (js_expr (jd_ext (jp_name (pv 4)) (jd_var (pv 6))))))))
    (jss_one (js_set sc_is_saying_of.nd (je_d (jd_var (pv 4))))))))
    (jss_one (js_ret (je_d (jd_cmp (o_eq hr.units).d (jd_callB b_len t.n_len (jad_cons (jd_var (pv 2)) jad_nil)) jd_int))))))
end
end Lw

/-! K77W_many_worlds -/
set_option Elab.async false
set_option linter.all false
set_option maxRecDepth 100000
set_option maxHeartbeats 4000000
namespace Lw
open PySem PySem.Spec PyProof.Rows L2 Fw
section
variable {P : Program} {w : World} {K : PySem.W.Frag} {mg : Str → Option Value} {base : Heap}
/-! many_worlds -/
def b_many_worlds : MS := (mRetT (mT (mOp oShl (mRet (.int 1)) (mVar 0))))
def f_many_worlds : Fn := mkFn 1 1 [] (b_many_worlds)
theorem ok_many_worlds (t : Top P w K mg base) : FnT P w K mg base (He.fAd K d_many_worlds.at_) 1 ["letters"] (f_many_worlds) := by
  obtain ⟨fd, F, B⟩ := t.b_many_worlds
  exact fnT_of (k := 0) (np := 1) (nn := 1) (W := []) (body := b_many_worlds) F sc_many_worlds B fun cdv A outer s H E hr => (jss_one (js_ret (je_d (jd_op o_shl.d jd_int (jd_var (pv 0))))))
end
end Lw

/-! K77W_holds -/
set_option Elab.async false
set_option linter.all false
set_option maxRecDepth 100000
set_option maxHeartbeats 4000000
namespace Lw
open PySem PySem.Spec PyProof.Rows L2 Fw
section
variable {P : Program} {w : World} {K : PySem.W.Frag} {mg : Str → Option Value} {base : Heap}
/-! holds -/
def b_holds (r_holds : Fn) : MS := (mSeq (mAsg (mT (mOp oIx (mVar 0) (mRet (.int 0)))) (gNm 2))
    (mSeq (mIfS (mB (mOp oIn (mVar 2) (mTup (mCons (mRet (.str "true")) (mCons (mRet (.str "false")) (mRet [])))))) (mRetT (mT (mOp oEq (mVar 2) (mRet (.str "true"))))) mNx)
    (mSeq (mIfS (mB (mOp oEq (mVar 2) (mRet (.str "letter")))) (mRetT (mT (mOp oEq (mOp oAnd (mOp oShr (mVar 1) (mOp oIx (mVar 0) (mRet (.int 1)))) (mRet (.int 1))) (mRet (.int 1))))) mNx)
    (mSeq (mAsg (mCallF r_holds [none, none] (mCons (mT (mOp oIx (mVar 0) (mRet (.int 1)))) (mCons (mT (mVar 1)) (mRet [])))) (gNm 3))
    (mSeq (mIfS (mB (mOp oEq (mVar 2) (mRet (.str "not")))) (mRetT (mT (mNotV (mVar 3)))) mNx)
    (mSeq (mAsg (mCallF r_holds [none, none] (mCons (mT (mOp oIx (mVar 0) (mRet (.int 2)))) (mCons (mT (mVar 1)) (mRet [])))) (gNm 4))
    (mSeq (mIfS (mB (mOp oEq (mVar 2) (mRet (.str "and")))) (mRetT (mT (mAndV (mVar 3) (mVar 4)))) mNx)
    (mSeq (mIfS (mB (mOp oEq (mVar 2) (mRet (.str "or")))) (mRetT (mT (mOrV (mVar 3) (mVar 4)))) mNx)
    (mRetT (mT (mIf (mB (mOp oEq (mVar 2) (mRet (.str "then")))) (mOrV (mVar 4) (mNotV (mVar 3))) (mOp oEq (mVar 3) (mVar 4)))))))))))))
def f_holds : Nat → Fn
  | 0 => fun _ => none
  | n + 1 => mkFn 2 5 [2, 3, 4] (b_holds (f_holds n))
theorem ok_holds (t : Top P w K mg base) : ∀ n, FnT P w K mg base (He.fAd K d_holds.at_) (0 + n) ["saying", "world"] (f_holds n)
  | 0 => by
    obtain ⟨fd_holds, F_holds, B_holds⟩ := t.b_holds
    exact FnT.none F_holds.kp ⟨fd_holds, B_holds⟩
  | n + 1 => by
    obtain ⟨fd_holds, F_holds, B_holds⟩ := t.b_holds
    have ih := ok_holds t n
    have ih_holds := ih
    exact fnT_of (k := 0 + n) (np := 2) (nn := 5) (W := [2, 3, 4]) (body := b_holds (f_holds n)) F_holds sc_holds B_holds fun cdv A outer s H E hr => (jss_cons (js_set sc_holds.nd (je_d (jd_ix (jd_var (pv 0)) jd_int)))
    (jss_cons (js_if (jt_cmp o_in.d (jd_var (pv 2)) (jd_tup (jad_cons jd_str (jad_cons jd_str jad_nil)))) (jss_one (js_ret (je_d (jd_cmp (o_eq hr.units).d (jd_var (pv 2)) jd_str)))) jss_nil)
    (jss_cons (js_if (jt_cmp (o_eq hr.units).d (jd_var (pv 2)) jd_str) (jss_one (js_ret (je_d (jd_cmp (o_eq hr.units).d (jd_op o_and.d (jd_op o_shr.d (jd_var (pv 1)) (jd_ix (jd_var (pv 0)) jd_int)) jd_int) jd_int)))) jss_nil)
    (jss_cons (js_set sc_holds.nd (je_call ih_holds (hr.mono (by omega)) t.g_holds (ja_v (jd_ix (jd_var (pv 0)) jd_int) (ja_v (jd_var (pv 1)) ja_nil))))
    (jss_cons (js_if (jt_cmp (o_eq hr.units).d (jd_var (pv 2)) jd_str) (jss_one (js_ret (je_d (jd_not (jd_var (pv 3)))))) jss_nil)
    (jss_cons (js_set sc_holds.nd (je_call ih_holds (hr.mono (by omega)) t.g_holds (ja_v (jd_ix (jd_var (pv 0)) jd_int) (ja_v (jd_var (pv 1)) ja_nil))))
    (jss_cons (js_if (jt_cmp (o_eq hr.units).d (jd_var (pv 2)) jd_str) (jss_one (js_ret (je_d (jd_and (jd_var (pv 3)) (jd_one (jd_var (pv 4))))))) jss_nil)
    (jss_cons (js_if (jt_cmp (o_eq hr.units).d (jd_var (pv 2)) jd_str) (jss_one (js_ret (je_d (jd_or (jd_var (pv 3)) (jd_one (jd_var (pv 4))))))) jss_nil)
    (jss_one (js_ret (je_d (jd_if (jt_cmp (o_eq hr.units).d (jd_var (pv 2)) jd_str) (jd_or (jd_var (pv 4)) (jd_one (jd_not (jd_var (pv 3))))) (jd_cmp (o_eq hr.units).d (jd_var (pv 3)) (jd_var (pv 4)))))))))))))))
end
end Lw

/-! K77W_with_letter -/
set_option Elab.async false
set_option linter.all false
set_option maxRecDepth 100000
set_option maxHeartbeats 4000000
namespace Lw
open PySem PySem.Spec PyProof.Rows L2 Fw
section
variable {P : Program} {w : World} {K : PySem.W.Frag} {mg : Str → Option Value} {base : Heap}
/-! with_letter -/
def b_with_letter : MS := (mSeq (mAsg (mT (mOp oShl (mRet (.int 1)) (mVar 1))) (gNm 3))
    (mRetT (mT (mIf (mB (mVar 2)) (mOp oOr (mVar 0) (mVar 3)) (mOp oAnd (mVar 0) (mUn (unI fun i => Builtin.bitNot i) (mVar 3)))))))
def f_with_letter : Fn := mkFn 3 4 [3] (b_with_letter)
theorem ok_with_letter (t : Top P w K mg base) : FnT P w K mg base (He.fAd K d_with_letter.at_) 1 ["world", "letter", "flag"] (f_with_letter) := by
  obtain ⟨fd, F, B⟩ := t.b_with_letter
  exact fnT_of (k := 0) (np := 3) (nn := 4) (W := [3]) (body := b_with_letter) F sc_with_letter B fun cdv A outer s H E hr => (jss_cons (js_set sc_with_letter.nd (je_d (jd_op o_shl.d jd_int (jd_var (pv 1)))))
    (jss_one (js_ret (je_d (jd_if (jt_val (jd_var (pv 2))) (jd_op o_or.d (jd_var (pv 0)) (jd_var (pv 3))) (jd_op o_and.d (jd_var (pv 0)) (jd_un un_inv (jd_var (pv 3)))))))))
end
end Lw

/-! K77W_blocks_in -/
set_option Elab.async false
set_option linter.all false
set_option maxRecDepth 100000
set_option maxHeartbeats 4000000
namespace Lw
open PySem PySem.Spec PyProof.Rows L2 Fw
section
variable {P : Program} {w : World} {K : PySem.W.Frag} {mg : Str → Option Value} {base : Heap}
/-! blocks_in -/
def b_blocks_in : MS := (mSeq (mIfS (mB (mOp oEq (mOp oIx (mVar 0) (mRet (.int 0))) (mRet (.str "if")))) (mRetT (mLst (mCons (mT (mOp oIx (mVar 0) (mRet (.int 2)))) (mCons (mT (mOp oIx (mVar 0) (mRet (.int 3)))) (mRet []))))) mNx)
    (mRetT (mIf (mB (mOp oIn (mOp oIx (mVar 0) (mRet (.int 0))) (mTup (mCons (mRet (.str "rounds")) (mCons (mRet (.str "until")) (mRet [])))))) (mLst (mCons (mT (mOp oIx (mVar 0) (mRet (.int 2)))) (mRet []))) (mLst (mRet [])))))
def f_blocks_in : Fn := mkFn 1 1 [] (b_blocks_in)
theorem ok_blocks_in (t : Top P w K mg base) : FnT P w K mg base (He.fAd K d_blocks_in.at_) 1 ["here"] (f_blocks_in) := by
  obtain ⟨fd, F, B⟩ := t.b_blocks_in
  exact fnT_of (k := 0) (np := 1) (nn := 1) (W := []) (body := b_blocks_in) F sc_blocks_in B fun cdv A outer s H E hr => (jss_cons (js_if (jt_cmp (o_eq hr.units).d (jd_ix (jd_var (pv 0)) jd_int) jd_str) (jss_one (js_ret (je_lst (jae_cons (je_d (jd_ix (jd_var (pv 0)) jd_int)) (jae_cons (je_d (jd_ix (jd_var (pv 0)) jd_int)) jae_nil))))) jss_nil)
    (jss_one (js_ret (je_if (jt_cmp o_in.d (jd_ix (jd_var (pv 0)) jd_int) (jd_tup (jad_cons jd_str (jad_cons jd_str jad_nil)))) (je_lst (jae_cons (je_d (jd_ix (jd_var (pv 0)) jd_int)) jae_nil)) (je_lst jae_nil)))))
end
end Lw

/-! K77W_is_head -/
set_option Elab.async false
set_option linter.all false
set_option maxRecDepth 100000
set_option maxHeartbeats 4000000
namespace Lw
open PySem PySem.Spec PyProof.Rows L2 Fw
section
variable {P : Program} {w : World} {K : PySem.W.Frag} {mg : Str → Option Value} {base : Heap}
/-! is_head -/
def b_is_head : MS := (mSeq (mIfS (mOrT (mNotT (mB (mUn (oIsi "tuple") (mVar 2)))) (mOrT (mB (mOp oEq (mCall bLen (mCons (mVar 2) (mRet []))) (mRet (.int 0)))) (mOrT (mNotT (mB (mUn (oIsi "str") (mOp oIx (mVar 2) (mRet (.int 0)))))) (mB (mUn (fun d => (tabO c_SIZES d).map fun _ => .bl false) (mOp oIx (mVar 2) (mRet (.int 0)))))))) (mRetT (mT (mRet (.bl false)))) mNx)
    (mSeq (mIfS (mB (mOp oNe (mCall bLen (mCons (mVar 2) (mRet []))) (mUn (fun d => (tabO c_SIZES d).map .int) (mOp oIx (mVar 2) (mRet (.int 0)))))) (mRetT (mT (mRet (.bl false)))) mNx)
    (mSeq (mIfS (mB (mOp oEq (mOp oIx (mVar 2) (mRet (.int 0))) (mRet (.str "draw")))) (mRetT (mT (mAndV (mF (mCallF f_is_between [none, none, none] (mCons (mT (mOp oIx (mVar 2) (mRet (.int 1)))) (mCons (mT (mRet (.int 0))) (mCons (mT (mOp oSub (mVar 0) (mRet (.int 1)))) (mRet [])))))) (mF (mCallF f_is_between [none, none, none] (mCons (mT (mOp oIx (mVar 2) (mRet (.int 2)))) (mCons (mT (mRet (.int 0))) (mCons (mT (mOp oSub (mVar 1) (mRet (.int 1)))) (mRet []))))))))) mNx)
    (mSeq (mIfS (mB (mOp oEq (mOp oIx (mVar 2) (mRet (.int 0))) (mRet (.str "set")))) (mRetT (mT (mAndV (mF (mCallF f_is_between [none, none, none] (mCons (mT (mOp oIx (mVar 2) (mRet (.int 1)))) (mCons (mT (mRet (.int 0))) (mCons (mT (mOp oSub (mVar 0) (mRet (.int 1)))) (mRet [])))))) (mF (mCallF f_is_saying_of [none, none] (mCons (mT (mVar 0)) (mCons (mT (mOp oIx (mVar 2) (mRet (.int 2)))) (mRet [])))))))) mNx)
    (mSeq (mIfS (mB (mOp oEq (mOp oIx (mVar 2) (mRet (.int 0))) (mRet (.str "rounds")))) (mRetT (mCallF f_is_between [none, none, none] (mCons (mT (mOp oIx (mVar 2) (mRet (.int 1)))) (mCons (mT (mRet (.int 0))) (mCons (mT (mRet c_MOST_ROUNDS)) (mRet [])))))) mNx)
    (mRetT (mCallF f_is_saying_of [none, none] (mCons (mT (mVar 0)) (mCons (mT (mOp oIx (mVar 2) (mRet (.int 1)))) (mRet []))))))))))
def f_is_head : Fn := mkFn 3 3 [] (b_is_head)
theorem ok_is_head (t : Top P w K mg base) : FnT P w K mg base (He.fAd K d_is_head.at_) 5 ["letters", "shares", "here"] (f_is_head) := by
  obtain ⟨fd, F, B⟩ := t.b_is_head
  exact fnT_of (k := 4) (np := 3) (nn := 3) (W := []) (body := b_is_head) F sc_is_head B fun cdv A outer s H E hr => (jss_cons (js_if (jt_w (jw_or (jt_not (jt_val (jd_isi t.n_isinstance t.n_tuple (jd_var (pv 2))))) (jw_or (jt_cmp (o_eq hr.units).d (jd_callB b_len t.n_len (jad_cons (jd_var (pv 2)) jad_nil)) jd_int) (jw_or (jt_not (jt_val (jd_isi t.n_isinstance t.n_str (jd_ix (jd_var (pv 2)) jd_int)))) (jw_or1 (jt_notInTab t.t_SIZES (jd_ix (jd_var (pv 2)) jd_int) (pe_glob rfl t.g_SIZES rfl))))))) (jss_one (js_ret (je_d jd_bl))) jss_nil)
    (jss_cons (js_if (jt_cmp (o_ne hr.units).d (jd_callB b_len t.n_len (jad_cons (jd_var (pv 2)) jad_nil)) (jd_tab t.t_SIZES (pe_glob rfl t.g_SIZES rfl) (jd_ix (jd_var (pv 2)) jd_int))) (jss_one (js_ret (je_d jd_bl))) jss_nil)
    (jss_cons (js_if (jt_cmp (o_eq hr.units).d (jd_ix (jd_var (pv 2)) jd_int) jd_str) (jss_one (js_ret (je_d (jd_and (jd_e (je_call (ok_is_between t) (hr.mono (by decide)) t.g_is_between (ja_v (jd_ix (jd_var (pv 2)) jd_int) (ja_v jd_int (ja_v (jd_op o_sub.d (jd_var (pv 0)) jd_int) ja_nil))))) (jd_one (jd_e (je_call (ok_is_between t) (hr.mono (by decide)) t.g_is_between (ja_v (jd_ix (jd_var (pv 2)) jd_int) (ja_v jd_int (ja_v (jd_op o_sub.d (jd_var (pv 1)) jd_int) ja_nil)))))))))) jss_nil)
    (jss_cons (js_if (jt_cmp (o_eq hr.units).d (jd_ix (jd_var (pv 2)) jd_int) jd_str) (jss_one (js_ret (je_d (jd_and (jd_e (je_call (ok_is_between t) (hr.mono (by decide)) t.g_is_between (ja_v (jd_ix (jd_var (pv 2)) jd_int) (ja_v jd_int (ja_v (jd_op o_sub.d (jd_var (pv 0)) jd_int) ja_nil))))) (jd_one (jd_e (je_call (ok_is_saying_of t) (hr.mono (by decide)) t.g_is_saying_of (ja_v (jd_var (pv 0)) (ja_v (jd_ix (jd_var (pv 2)) jd_int) ja_nil))))))))) jss_nil)
    (jss_cons (js_if (jt_cmp (o_eq hr.units).d (jd_ix (jd_var (pv 2)) jd_int) jd_str) (jss_one (js_ret (je_call (ok_is_between t) (hr.mono (by decide)) t.g_is_between (ja_v (jd_ix (jd_var (pv 2)) jd_int) (ja_v jd_int (ja_v (jd_globx (t.c_MOST_ROUNDS)) ja_nil)))))) jss_nil)
    (jss_one (js_ret (je_call (ok_is_saying_of t) (hr.mono (by decide)) t.g_is_saying_of (ja_v (jd_var (pv 0)) (ja_v (jd_ix (jd_var (pv 2)) jd_int) ja_nil))))))))))
end
end Lw

/-! K77W_is_block -/
set_option Elab.async false
set_option linter.all false
set_option maxRecDepth 100000
set_option maxHeartbeats 4000000
namespace Lw
open PySem PySem.Spec PyProof.Rows L2 Fw
section
variable {P : Program} {w : World} {K : PySem.W.Frag} {mg : Str → Option Value} {base : Heap}
/-! is_block -/
def l_is_block_1 : MS := (mExp (mExt (pNm 6) (mT (mF (mCallF f_blocks_in [none] (mCons (mT (mVar 8)) (mRet [])))))))
def q_is_block_1 : M T := mLc [8] (mSq (mVar 7)) (gNm 8) (mRet true) (mCallF f_is_head [none, none, none] (mCons (mT (mVar 0)) (mCons (mT (mVar 1)) (mCons (mT (mVar 8)) (mRet [])))))
def l_is_block_2 : MS := (mSeq (mIfS (mOrT (mNotT (mB (mUn (oIsi "tuple") (mVar 7)))) (mB (mOp oGt (mCall bLen (mCons (mVar 7) (mRet []))) (mRet c_MOST_LONG)))) (mRetT (mT (mRet (.bl false)))) mNx)
    (mSeq (mIfS (mNotT (mB (mCall bAll (mCons (mF q_is_block_1) (mRet []))))) (mRetT (mT (mRet (.bl false)))) mNx)
    (mFor (mSq (mVar 7)) (gNm 8) l_is_block_1)))
def l_is_block_3 : MS := (mSeq (mAsg (mLst (mRet [])) (gNm 6))
    (mSeq (mFor (mSq (mVar 4)) (gNm 7) l_is_block_2)
    (mAsg (mT (mVar 6)) (gNm 4))))
def b_is_block : MS := (mSeq (mAsg (mLst (mCons (mT (mVar 2)) (mRet []))) (gNm 4))
    (mSeq (mFor (mIt rng1 (mCons (mVar 3) (mRet []))) (gNm 5) l_is_block_3)
    (mRetT (mT (mOp oEq (mCall bLen (mCons (mVar 4) (mRet []))) (mRet (.int 0)))))))
def f_is_block : Fn := mkFn 4 9 [4, 5, 6, 7, 8] (b_is_block)
theorem ok_is_block (t : Top P w K mg base) : FnT P w K mg base (He.fAd K d_is_block.at_) 6 ["letters", "shares", "thing", "deep"] (f_is_block) := by
  obtain ⟨fd, F, B⟩ := t.b_is_block
  exact fnT_of (k := 5) (np := 4) (nn := 9) (W := [4, 5, 6, 7, 8]) (body := b_is_block) F sc_is_block B fun cdv A outer s H E hr => (jss_cons (js_set sc_is_block.nd (je_lst (jae_cons (je_d (jd_var (pv 2))) jae_nil)))
    (jss_cons (js_for PassesOwn.never rfl (ji_range1 t.n_range (jad_cons (jd_var (pv 3)) jad_nil)) (jg_name sc_is_block.nd) (jss_cons (js_set sc_is_block.nd (je_lst jae_nil))
    (jss_cons (js_for PassesOwn.never rfl (ji_seq (jd_var (pv 4))) (jg_name sc_is_block.nd) (jss_cons (js_if (jt_w (jw_or (jt_not (jt_val (jd_isi t.n_isinstance t.n_tuple (jd_var (pv 7))))) (jw_or1 (jt_cmp o_gt.d (jd_callB b_len t.n_len (jad_cons (jd_var (pv 7)) jad_nil)) (jd_globx (t.c_MOST_LONG)))))) (jss_one (js_ret (je_d jd_bl))) jss_nil)
    (jss_cons (js_if (jt_not (jt_val (jd_callB (b_all rfl) t.n_all (jad_cons (jd_e (je_lc (own := [("here", 8)]) rfl sc_is_block.nd (ji_seq (jd_var (pv 7))) (blkOk_by (by kernel_rfl)) (fun _ _ _ _ _ => (jg_name sc_is_block.nd)) (fun _ _ _ _ _ => jpt_nil) (fun _ _ _ _ _ => (je_call (ok_is_head t) (hr.mono (by decide)) t.g_is_head (ja_v (jd_var (pv 0)) (ja_v (jd_var (pv 1)) (ja_v (jd_var (pv 8)) ja_nil))))))) jad_nil)))) (jss_one (js_ret (je_d jd_bl))) jss_nil)
    (jss_one (js_for PassesOwn.never rfl (ji_seq (jd_var (pv 7))) (jg_name sc_is_block.nd) (jss_one (js_expr (jd_ext (jp_name (pv 6)) (jd_e (je_call (ok_blocks_in t) (hr.mono (by decide)) t.g_blocks_in (ja_v (jd_var (pv 8)) ja_nil)))))))))))
    (jss_one (js_set sc_is_block.nd (je_d (jd_var (pv 6))))))))
    (jss_one (js_ret (je_d (jd_cmp (o_eq hr.units).d (jd_callB b_len t.n_len (jad_cons (jd_var (pv 4)) jad_nil)) jd_int))))))
end
end Lw

/-! K77W_draws_on -/
set_option Elab.async false
set_option linter.all false
set_option maxRecDepth 100000
set_option maxHeartbeats 4000000
namespace Lw
open PySem PySem.Spec PyProof.Rows L2 Fw
section
variable {P : Program} {w : World} {K : PySem.W.Frag} {mg : Str → Option Value} {base : Heap}
/-! draws_on -/
def q_draws_on_1 (r_draws_on : Fn) : M T := mLc [3] (mSq (mF (mCallF f_blocks_in [none] (mCons (mT (mVar 2)) (mRet []))))) (gNm 3) (mRet true) (mCallF r_draws_on [none] (mCons (mT (mVar 3)) (mRet [])))
def l_draws_on_1 (r_draws_on : Fn) : MS := (mIfS (mB (mOp oEq (mOp oIx (mVar 2) (mRet (.int 0))) (mRet (.str "draw")))) (mAug 1 oAddI (mRet (.int 1))) (mIfS (mB (mOp oEq (mOp oIx (mVar 2) (mRet (.int 0))) (mRet (.str "rounds")))) (mAug 1 oAddI (mF (mOpT oMul (mOp oIx (mVar 2) (mRet (.int 1))) (mF (mCallF r_draws_on [none] (mCons (mT (mOp oIx (mVar 2) (mRet (.int 2)))) (mRet []))))))) (mAug 1 oAddI (mCall bMax (mCons (mF (mOpT oAdd (mF (mLst (mCons (mT (mRet (.int 0))) (mRet [])))) (mF (q_draws_on_1 r_draws_on)))) (mRet []))))))
def b_draws_on (r_draws_on : Fn) : MS := (mSeq (mAsg (mT (mRet (.int 0))) (gNm 1))
    (mSeq (mFor (mSq (mVar 0)) (gNm 2) (l_draws_on_1 r_draws_on))
    (mRetT (mMv 1))))
def f_draws_on : Nat → Fn
  | 0 => fun _ => none
  | n + 1 => mkFn 1 4 [1, 2] (b_draws_on (f_draws_on n))
theorem ok_draws_on (t : Top P w K mg base) : ∀ n, FnT P w K mg base (He.fAd K d_draws_on.at_) (1 + n) ["block"] (f_draws_on n)
  | 0 => by
    obtain ⟨fd_draws_on, F_draws_on, B_draws_on⟩ := t.b_draws_on
    exact FnT.none F_draws_on.kp ⟨fd_draws_on, B_draws_on⟩
  | n + 1 => by
    obtain ⟨fd_draws_on, F_draws_on, B_draws_on⟩ := t.b_draws_on
    have ih := ok_draws_on t n
    have ih_draws_on := ih
    exact fnT_of (k := 1 + n) (np := 1) (nn := 4) (W := [1, 2]) (body := b_draws_on (f_draws_on n)) F_draws_on sc_draws_on B_draws_on fun cdv A outer s H E hr => (jss_cons (js_set sc_draws_on.nd (je_d jd_int))
    (jss_cons (js_for PassesOwn.never rfl (ji_seq (jd_var (pv 0))) (jg_name sc_draws_on.nd) (jss_one (js_if (jt_cmp (o_eq hr.units).d (jd_ix (jd_var (pv 2)) jd_int) jd_str) (jss_one (js_aug sc_draws_on.nd i_add jd_int)) (jss_one (js_if (jt_cmp (o_eq hr.units).d (jd_ix (jd_var (pv 2)) jd_int) jd_str) (jss_one (js_aug sc_draws_on.nd i_add (jd_e (je_mul (jd_ix (jd_var (pv 2)) jd_int) (jd_e (je_call ih_draws_on (hr.mono (by omega)) t.g_draws_on (ja_v (jd_ix (jd_var (pv 2)) jd_int) ja_nil))))))) (jss_one (js_aug sc_draws_on.nd i_add (jd_callB (b_max rfl) t.n_max (jad_cons (jd_e (je_add (jd_e (je_lst (jae_cons (je_d jd_int) jae_nil))) (jd_e (je_lc (own := [("inner", 3)]) rfl sc_draws_on.nd (ji_seq (jd_e (je_call (ok_blocks_in t) (hr.mono (by omega)) t.g_blocks_in (ja_v (jd_var (pv 2)) ja_nil)))) (blkOk_by (by kernel_rfl)) (fun _ _ _ _ _ => (jg_name sc_draws_on.nd)) (fun _ _ _ _ _ => jpt_nil) (fun _ _ _ _ _ => (je_call ih_draws_on (hr.mono (by omega)) t.g_draws_on (ja_v (jd_var (pv 3)) ja_nil))))))) jad_nil)))))))))
    (jss_one (js_ret (je_mv (pv 1))))))
end
end Lw

/-! K77W_told_size -/
set_option Elab.async false
set_option linter.all false
set_option maxRecDepth 100000
set_option maxHeartbeats 4000000
namespace Lw
open PySem PySem.Spec PyProof.Rows L2 Fw
section
variable {P : Program} {w : World} {K : PySem.W.Frag} {mg : Str → Option Value} {base : Heap}
/-! told_size -/
def q_told_size_1 (r_told_size : Fn) : M T := mLc [4] (mSq (mF (mCallF f_blocks_in [none] (mCons (mT (mVar 2)) (mRet []))))) (gNm 4) (mRet true) (mCallF r_told_size [none] (mCons (mT (mVar 4)) (mRet [])))
def l_told_size_1 (r_told_size : Fn) : MS := (mSeq (mAsg (mT (mCall bSum (mCons (mF (q_told_size_1 r_told_size)) (mRet [])))) (gNm 3))
    (mAug 1 oAddI (mF (mIf (mB (mOp oEq (mOp oIx (mVar 2) (mRet (.int 0))) (mRet (.str "rounds")))) (mOpT oMul (mOp oIx (mVar 2) (mRet (.int 1))) (mVar 3)) (mOpT oAdd (mRet (.int 1)) (mVar 3))))))
def b_told_size (r_told_size : Fn) : MS := (mSeq (mAsg (mT (mRet (.int 0))) (gNm 1))
    (mSeq (mFor (mSq (mVar 0)) (gNm 2) (l_told_size_1 r_told_size))
    (mRetT (mMv 1))))
def f_told_size : Nat → Fn
  | 0 => fun _ => none
  | n + 1 => mkFn 1 5 [1, 2, 3] (b_told_size (f_told_size n))
theorem ok_told_size (t : Top P w K mg base) : ∀ n, FnT P w K mg base (He.fAd K d_told_size.at_) (1 + n) ["block"] (f_told_size n)
  | 0 => by
    obtain ⟨fd_told_size, F_told_size, B_told_size⟩ := t.b_told_size
    exact FnT.none F_told_size.kp ⟨fd_told_size, B_told_size⟩
  | n + 1 => by
    obtain ⟨fd_told_size, F_told_size, B_told_size⟩ := t.b_told_size
    have ih := ok_told_size t n
    have ih_told_size := ih
    exact fnT_of (k := 1 + n) (np := 1) (nn := 5) (W := [1, 2, 3]) (body := b_told_size (f_told_size n)) F_told_size sc_told_size B_told_size fun cdv A outer s H E hr => (jss_cons (js_set sc_told_size.nd (je_d jd_int))
    (jss_cons (js_for PassesOwn.never rfl (ji_seq (jd_var (pv 0))) (jg_name sc_told_size.nd) (jss_cons (js_set sc_told_size.nd (je_d (jd_callB (b_sum rfl) t.n_sum (jad_cons (jd_e (je_lc (own := [("part", 4)]) rfl sc_told_size.nd (ji_seq (jd_e (je_call (ok_blocks_in t) (hr.mono (by omega)) t.g_blocks_in (ja_v (jd_var (pv 2)) ja_nil)))) (blkOk_by (by kernel_rfl)) (fun _ _ _ _ _ => (jg_name sc_told_size.nd)) (fun _ _ _ _ _ => jpt_nil) (fun _ _ _ _ _ => (je_call ih_told_size (hr.mono (by omega)) t.g_told_size (ja_v (jd_var (pv 4)) ja_nil))))) jad_nil))))
    (jss_one (js_aug sc_told_size.nd i_add (jd_e (je_if (jt_cmp (o_eq hr.units).d (jd_ix (jd_var (pv 2)) jd_int) jd_str) (je_mul (jd_ix (jd_var (pv 2)) jd_int) (jd_var (pv 3))) (je_add jd_int (jd_var (pv 3)))))))))
    (jss_one (js_ret (je_mv (pv 1))))))
end
end Lw

/-! K77W_is_program -/
set_option Elab.async false
set_option linter.all false
set_option maxRecDepth 100000
set_option maxHeartbeats 4000000
namespace Lw
open PySem PySem.Spec PyProof.Rows L2 Fw
section
variable {P : Program} {w : World} {K : PySem.W.Frag} {mg : Str → Option Value} {base : Heap}
/-! is_program -/
def b_is_program : MS := (mSeq (mIfS (mOrT (mNotT (mB (mUn (oIsi "tuple") (mVar 0)))) (mOrT (mB (mOp oNe (mCall bLen (mCons (mVar 0) (mRet []))) (mRet (.int 3)))) (mNotT (mB (mF (mCallF f_is_between [none, none, none] (mCons (mT (mOp oIx (mVar 0) (mRet (.int 0)))) (mCons (mT (mRet (.int 1))) (mCons (mT (mRet c_MOST_LETTERS)) (mRet [])))))))))) (mRetT (mT (mRet (.bl false)))) mNx)
    (mSeq (mAsg (mT (mVar 0)) (gTupM (gCons (gNm 1) (gCons (gNm 2) (gCons (gNm 3) gNil)))))
    (mSeq (mIfS (mOrT (mNotT (mB (mF (mCallF f_are_shares [none] (mCons (mT (mVar 2)) (mRet [])))))) (mNotT (mB (mF (mCallF f_is_block [none, none, none, none] (mCons (mT (mVar 1)) (mCons (mT (mCall bLen (mCons (mVar 2) (mRet [])))) (mCons (mT (mVar 3)) (mCons (mT (mRet c_MOST_DEEP)) (mRet [])))))))))) (mRetT (mT (mRet (.bl false)))) mNx)
    (mRetT (mT (mAndV (mOp oLe (mF (mCallF (f_draws_on 8) [none] (mCons (mT (mVar 3)) (mRet [])))) (mRet c_MOST_DRAWS)) (mOp oLe (mF (mCallF (f_told_size 8) [none] (mCons (mT (mVar 3)) (mRet [])))) (mRet c_MOST_TOLD))))))))
def f_is_program : Fn := mkFn 1 4 [1, 2, 3] (b_is_program)
theorem ok_is_program (t : Top P w K mg base) : FnT P w K mg base (He.fAd K d_is_program.at_) 10 ["thing"] (f_is_program) := by
  obtain ⟨fd, F, B⟩ := t.b_is_program
  exact fnT_of (k := 9) (np := 1) (nn := 4) (W := [1, 2, 3]) (body := b_is_program) F sc_is_program B fun cdv A outer s H E hr => (jss_cons (js_if (jt_w (jw_or (jt_not (jt_val (jd_isi t.n_isinstance t.n_tuple (jd_var (pv 0))))) (jw_or (jt_cmp (o_ne hr.units).d (jd_callB b_len t.n_len (jad_cons (jd_var (pv 0)) jad_nil)) jd_int) (jw_or1 (jt_not (jt_val (jd_e (je_call (ok_is_between t) (hr.mono (by decide)) t.g_is_between (ja_v (jd_ix (jd_var (pv 0)) jd_int) (ja_v jd_int (ja_v (jd_globx (t.c_MOST_LETTERS)) ja_nil))))))))))) (jss_one (js_ret (je_d jd_bl))) jss_nil)
    (jss_cons (js_asg (je_d (jd_var (pv 0))) (jg_t3 rfl (jg_name sc_is_program.nd) (jg_name sc_is_program.nd) (jg_name sc_is_program.nd)))
    (jss_cons (js_if (jt_w (jw_or (jt_not (jt_val (jd_e (je_call (ok_are_shares t) (hr.mono (by decide)) t.g_are_shares (ja_v (jd_var (pv 2)) ja_nil))))) (jw_or1 (jt_not (jt_val (jd_e (je_call (ok_is_block t) (hr.mono (by decide)) t.g_is_block (ja_v (jd_var (pv 1)) (ja_v (jd_callB b_len t.n_len (jad_cons (jd_var (pv 2)) jad_nil)) (ja_v (jd_var (pv 3)) (ja_v (jd_globx (t.c_MOST_DEEP)) ja_nil))))))))))) (jss_one (js_ret (je_d jd_bl))) jss_nil)
    (jss_one (js_ret (je_d (jd_and (jd_cmp o_le.d (jd_e (je_call (ok_draws_on t 8) (hr.mono (by decide)) t.g_draws_on (ja_v (jd_var (pv 3)) ja_nil))) (jd_globx (t.c_MOST_DRAWS))) (jd_one (jd_cmp o_le.d (jd_e (je_call (ok_told_size t 8) (hr.mono (by decide)) t.g_told_size (ja_v (jd_var (pv 3)) ja_nil))) (jd_globx (t.c_MOST_TOLD)))))))))))
end
end Lw

/-! K77W_need_program -/
set_option Elab.async false
set_option linter.all false
set_option maxRecDepth 100000
set_option maxHeartbeats 4000000
namespace Lw
open PySem PySem.Spec PyProof.Rows L2 Fw
section
variable {P : Program} {w : World} {K : PySem.W.Frag} {mg : Str → Option Value} {base : Heap}
/-! need_program -/
def b_need_program : MS := (mIfS (mNotT (mB (mF (mCallF f_is_program [none] (mCons (mT (mVar 0)) (mRet [])))))) (fun _ => none) mNx)
def f_need_program : Fn := mkFn 1 1 [] (b_need_program)
theorem ok_need_program (t : Top P w K mg base) : FnT P w K mg base (He.fAd K d_need_program.at_) 11 ["thing"] (f_need_program) := by
  obtain ⟨fd, F, B⟩ := t.b_need_program
  exact fnT_of (k := 10) (np := 1) (nn := 1) (W := []) (body := b_need_program) F sc_need_program B fun cdv A outer s H E hr => (jss_one (js_if (jt_not (jt_val (jd_e (je_call (ok_is_program t) (hr.mono (by decide)) t.g_is_program (ja_v (jd_var (pv 0)) ja_nil))))) (jss_one js_never) jss_nil))
end
end Lw

/-! K77W_Led_init -/
set_option Elab.async false
set_option linter.all false
set_option maxRecDepth 100000
set_option maxHeartbeats 4000000
namespace Lw
open PySem PySem.Spec PyProof.Rows L2 Fw
section
variable {P : Program} {w : World} {K : PySem.W.Frag} {mg : Str → Option Value} {base : Heap}
/-! Led.__init__ -/
def b_Led_init (K : PySem.W.Frag) : MS := (mSeq (mSetF (He.ga K "Led") "letters" 0 (mT (mVar 1)))
    (mSeq (mSetF (He.ga K "Led") "shares" 0 (mT (mVar 2)))
    (mSetF (He.ga K "Led") "many" 0 (mCallF f_many_worlds [none] (mCons (mT (mVar 1)) (mRet []))))))
def f_Led_init (K : PySem.W.Frag) : Fn := mkFn 3 3 [] (b_Led_init K)
theorem ok_Led_init (t : Top P w K mg base) : FnT P w K mg base (He.fAd K d_Led_init.at_) 2 ["self", "letters", "shares"] (f_Led_init K) := by
  obtain ⟨fd, F, B⟩ := t.b_Led_init
  exact fnT_of (k := 1) (np := 3) (nn := 3) (W := []) (body := b_Led_init K) F sc_Led_init B fun cdv A outer s H E hr => (jss_cons (js_fld t.cls_Led t.noat_Led_letters (pv 0) (je_d (jd_var (pv 1))))
    (jss_cons (js_fld t.cls_Led t.noat_Led_shares (pv 0) (je_d (jd_var (pv 2))))
    (jss_one (js_fld t.cls_Led t.noat_Led_many (pv 0) (je_call (ok_many_worlds t) (hr.mono (by decide)) t.g_many_worlds (ja_v (jd_var (pv 1)) ja_nil))))))
end
end Lw

/-! K77W_Led_start -/
set_option Elab.async false
set_option linter.all false
set_option maxRecDepth 100000
set_option maxHeartbeats 4000000
namespace Lw
open PySem PySem.Spec PyProof.Rows L2 Fw
section
variable {P : Program} {w : World} {K : PySem.W.Frag} {mg : Str → Option Value} {base : Heap}
/-! Led.start -/
def q_Led_start_1 (K : PySem.W.Frag) : M T := mLc [2] (mIt rng1 (mCons (mFld (He.ga K "Led") "many" (mVar 0)) (mRet []))) (gNm 2) (mRet true) (mT (mIf (mB (mOp oEq (mVar 2) (mVar 1))) (mRet c_ONE) (mRet c_ZERO)))
def b_Led_start (K : PySem.W.Frag) : MS := (mRetT (mOpT oAdd (mF (q_Led_start_1 K)) (mF (mLst (mCons (mT (mRet c_ZERO)) (mCons (mT (mRet c_ZERO)) (mRet [])))))))
def f_Led_start (K : PySem.W.Frag) : Fn := mkFn 2 3 [] (b_Led_start K)
theorem ok_Led_start (t : Top P w K mg base) : FnT P w K mg base (He.fAd K d_Led_start.at_) 1 ["self", "world"] (f_Led_start K) := by
  obtain ⟨fd, F, B⟩ := t.b_Led_start
  exact fnT_of (k := 0) (np := 2) (nn := 3) (W := []) (body := b_Led_start K) F sc_Led_start B fun cdv A outer s H E hr => (jss_one (js_ret (je_add (jd_e (je_lc (own := [("at", 2)]) rfl sc_Led_start.nd (ji_range1 t.n_range (jad_cons (jd_fld t.cls_Led t.noat_Led_many (jd_var (pv 0))) jad_nil)) (blkOk_by (by kernel_rfl)) (fun _ _ _ _ _ => (jg_name sc_Led_start.nd)) (fun _ _ _ _ _ => jpt_nil) (fun _ _ _ _ _ => (je_d (jd_if (jt_cmp (o_eq hr.units).d (jd_var (pv 2)) (jd_var (pv 1))) (jd_globx (t.c_ONE)) (jd_globx (t.c_ZERO))))))) (jd_e (je_lst (jae_cons (je_d (jd_globx (t.c_ZERO))) (jae_cons (je_d (jd_globx (t.c_ZERO))) jae_nil)))))))
end
end Lw

/-! K77W_Led_ways -/
set_option Elab.async false
set_option linter.all false
set_option maxRecDepth 100000
set_option maxHeartbeats 4000000
namespace Lw
open PySem PySem.Spec PyProof.Rows L2 Fw
section
variable {P : Program} {w : World} {K : PySem.W.Frag} {mg : Str → Option Value} {base : Heap}
/-! Led.ways -/
def b_Led_ways (K : PySem.W.Frag) : MS := (mSeq (mIfS (mB (mOp oEq (mOp oIx (mVar 1) (mRet (.int 0))) (mRet (.str "set")))) (mRetT (mLst (mCons (mT (mTup (mCons (mF (mCallF (f_holds 12) [none, none] (mCons (mT (mOp oIx (mVar 1) (mRet (.int 2)))) (mCons (mT (mVar 2)) (mRet []))))) (mCons (mRet c_ONE) (mRet []))))) (mRet [])))) mNx)
    (mSeq (mAsg (mT (mOp oIx (mFld (He.ga K "Led") "shares" (mVar 0)) (mOp oIx (mVar 1) (mRet (.int 2))))) (gNm 3))
    (mRetT (mLst (mCons (mT (mTup (mCons (mRet (.bl true)) (mCons (mVar 3) (mRet []))))) (mCons (mT (mTup (mCons (mRet (.bl false)) (mCons (mF (mCallF f_left_of [none] (mCons (mT (mVar 3)) (mRet [])))) (mRet []))))) (mRet [])))))))
def f_Led_ways (K : PySem.W.Frag) : Fn := mkFn 3 4 [3] (b_Led_ways K)
theorem ok_Led_ways (t : Top P w K mg base) : FnT P w K mg base (He.fAd K d_Led_ways.at_) 13 ["self", "here", "world"] (f_Led_ways K) := by
  obtain ⟨fd, F, B⟩ := t.b_Led_ways
  exact fnT_of (k := 12) (np := 3) (nn := 4) (W := [3]) (body := b_Led_ways K) F sc_Led_ways B fun cdv A outer s H E hr => (jss_cons (js_if (jt_cmp (o_eq hr.units).d (jd_ix (jd_var (pv 1)) jd_int) jd_str) (jss_one (js_ret (je_lst (jae_cons (je_d (jd_tup (jad_cons (jd_e (je_call (ok_holds t 12) (hr.mono (by decide)) t.g_holds (ja_v (jd_ix (jd_var (pv 1)) jd_int) (ja_v (jd_var (pv 2)) ja_nil)))) (jad_cons (jd_globx (t.c_ONE)) jad_nil)))) jae_nil)))) jss_nil)
    (jss_cons (js_set sc_Led_ways.nd (je_d (jd_ix (jd_fld t.cls_Led t.noat_Led_shares (jd_var (pv 0))) (jd_ix (jd_var (pv 1)) jd_int))))
    (jss_one (js_ret (je_lst (jae_cons (je_d (jd_tup (jad_cons jd_bl (jad_cons (jd_var (pv 3)) jad_nil)))) (jae_cons (je_d (jd_tup (jad_cons jd_bl (jad_cons (jd_e (je_call (ok_left_of t) (hr.mono (by decide)) t.g_left_of (ja_v (jd_var (pv 3)) ja_nil))) jad_nil)))) jae_nil)))))))
end
end Lw

/-! K77W_Led_changed -/
set_option Elab.async false
set_option linter.all false
set_option maxRecDepth 100000
set_option maxHeartbeats 4000000
namespace Lw
open PySem PySem.Spec PyProof.Rows L2 Fw
section
variable {P : Program} {w : World} {K : PySem.W.Frag} {mg : Str → Option Value} {base : Heap}
/-! Led.changed -/
def l_Led_changed_1 (K : PySem.W.Frag) : MS := (mSeq (mAsg (mCallF f_with_letter [none, none, none] (mCons (mT (mVar 4)) (mCons (mT (mOp oIx (mVar 1) (mRet (.int 1)))) (mCons (mT (mVar 6)) (mRet []))))) (gNm 8))
    (mAsg (mCallF f_plus [none, none] (mCons (mT (mPl (pIx (pNm 3) (mVar 8)))) (mCons (mT (mF (mCallF f_times [none, none] (mCons (mT (mVar 5)) (mCons (mT (mVar 7)) (mRet [])))))) (mRet [])))) (gIx (pNm 3) (mVar 8))))
def l_Led_changed_2 (K : PySem.W.Frag) : MS := (mIfS (mB (mOp oGt (mOp oIx (mVar 5) (mRet (.int 0))) (mRet (.int 0)))) (mFor (mSq (mF (mCallF (f_Led_ways K) [none, none, none] (mCons (mT (mRec (He.ga K "Led") "ways" (mVar 0))) (mCons (mT (mVar 1)) (mCons (mT (mVar 4)) (mRet []))))))) (gTupM (gCons (gNm 6) (gCons (gNm 7) gNil))) (l_Led_changed_1 K)) mNx)
def b_Led_changed (K : PySem.W.Frag) : MS := (mSeq (mAsg (mOpT oAdd (mF (mOpT oMul (mF (mLst (mCons (mT (mRet c_ZERO)) (mRet [])))) (mFld (He.ga K "Led") "many" (mVar 0)))) (mF (mSl (mVar 2) (mPart (mFld (He.ga K "Led") "many" (mVar 0))) mPartN slO))) (gNm 3))
    (mSeq (mFor (mIt enF (mCons (mF (mSl (mVar 2) mPartN (mPart (mFld (He.ga K "Led") "many" (mVar 0))) slO)) (mRet []))) (gTupM (gCons (gNm 4) (gCons (gNm 5) gNil))) (l_Led_changed_2 K))
    (mRetT (mMv 3))))
def f_Led_changed (K : PySem.W.Frag) : Fn := mkFn 3 9 [3, 4, 5, 6, 7, 8] (b_Led_changed K)
theorem ok_Led_changed (t : Top P w K mg base) : FnT P w K mg base (He.fAd K d_Led_changed.at_) 14 ["self", "here", "masses"] (f_Led_changed K) := by
  obtain ⟨fd, F, B⟩ := t.b_Led_changed
  exact fnT_of (k := 13) (np := 3) (nn := 9) (W := [3, 4, 5, 6, 7, 8]) (body := b_Led_changed K) F sc_Led_changed B fun cdv A outer s H E hr => (jss_cons (js_set sc_Led_changed.nd (je_add (jd_e (je_mul (jd_e (je_lst (jae_cons (je_d (jd_globx (t.c_ZERO))) jae_nil))) (jd_fld t.cls_Led t.noat_Led_many (jd_var (pv 0))))) (jd_e (je_sl (jd_var (pv 2)) (jo_some (jd_fld t.cls_Led t.noat_Led_many (jd_var (pv 0)))) jo_none))))
    (jss_cons (js_for PassesOwn.never rfl (ji_enum t.n_enumerate (jad_cons (jd_e (je_sl (jd_var (pv 2)) jo_none (jo_some (jd_fld t.cls_Led t.noat_Led_many (jd_var (pv 0)))))) jad_nil)) (jg_t2 rfl (jg_name sc_Led_changed.nd) (jg_name sc_Led_changed.nd)) (jss_one (js_if (jt_cmp o_gt.d (jd_ix (jd_var (pv 5)) jd_int) jd_int) (jss_one (js_for PassesOwn.never rfl (ji_seq (jd_e (je_meth t.cls_Led t.meth_Led_ways (ok_Led_ways t) (hr.mono (by decide)) (jd_var (pv 0)) (ja_v (jd_var (pv 1)) (ja_v (jd_var (pv 4)) ja_nil))))) (jg_t2 rfl (jg_name sc_Led_changed.nd) (jg_name sc_Led_changed.nd)) (jss_cons (js_set sc_Led_changed.nd (je_call (ok_with_letter t) (hr.mono (by decide)) t.g_with_letter (ja_v (jd_var (pv 4)) (ja_v (jd_ix (jd_var (pv 1)) jd_int) (ja_v (jd_var (pv 6)) ja_nil)))))
    (jss_one (js_asg (je_call (ok_plus t) (hr.mono (by decide)) t.g_plus (ja_v (jd_pl (jp_ix (jp_name (pv 3)) (jd_var (pv 8)))) (ja_v (jd_e (je_call (ok_times t) (hr.mono (by decide)) t.g_times (ja_v (jd_var (pv 5)) (ja_v (jd_var (pv 7)) ja_nil)))) ja_nil))) (jg_ix (jp_name (pv 3)) (jd_var (pv 8)))))))) jss_nil)))
    (jss_one (js_ret (je_mv (pv 3))))))
end
end Lw

/-! K77W_Led_joined -/
set_option Elab.async false
set_option linter.all false
set_option maxRecDepth 100000
set_option maxHeartbeats 4000000
namespace Lw
open PySem PySem.Spec PyProof.Rows L2 Fw
section
variable {P : Program} {w : World} {K : PySem.W.Frag} {mg : Str → Option Value} {base : Heap}
/-! Led.joined -/
def q_Led_joined_1 : M T := mLc [3, 4] (mIt zpF (mCons (mVar 1) (mCons (mVar 2) (mRet [])))) (gTupM (gCons (gNm 3) (gCons (gNm 4) gNil))) (mRet true) (mCallF f_plus [none, none] (mCons (mT (mVar 3)) (mCons (mT (mVar 4)) (mRet []))))
def b_Led_joined : MS := (mRetT q_Led_joined_1)
def f_Led_joined : Fn := mkFn 3 5 [] (b_Led_joined)
theorem ok_Led_joined (t : Top P w K mg base) : FnT P w K mg base (He.fAd K d_Led_joined.at_) 4 ["self", "one", "other"] (f_Led_joined) := by
  obtain ⟨fd, F, B⟩ := t.b_Led_joined
  exact fnT_of (k := 3) (np := 3) (nn := 5) (W := []) (body := b_Led_joined) F sc_Led_joined B fun cdv A outer s H E hr => (jss_one (js_ret (je_lc (own := [("mine", 3), ("theirs", 4)]) rfl sc_Led_joined.nd (ji_zip t.n_zip (jad_cons (jd_var (pv 1)) (jad_cons (jd_var (pv 2)) jad_nil))) (blkOk_by (by kernel_rfl)) (fun _ _ _ _ _ => (jg_t2 rfl (jg_name sc_Led_joined.nd) (jg_name sc_Led_joined.nd))) (fun _ _ _ _ _ => jpt_nil) (fun _ _ _ _ _ => (je_call (ok_plus t) (hr.mono (by decide)) t.g_plus (ja_v (jd_var (pv 3)) (ja_v (jd_var (pv 4)) ja_nil)))))))
end
end Lw

/-! K77W_Led_parted -/
set_option Elab.async false
set_option linter.all false
set_option maxRecDepth 100000
set_option maxHeartbeats 4000000
namespace Lw
open PySem PySem.Spec PyProof.Rows L2 Fw
section
variable {P : Program} {w : World} {K : PySem.W.Frag} {mg : Str → Option Value} {base : Heap}
/-! Led.parted -/
def l_Led_parted_1 (K : PySem.W.Frag) : MS := (mIfS (mB (mF (mCallF (f_holds 12) [none, none] (mCons (mT (mVar 1)) (mCons (mT (mVar 5)) (mRet [])))))) (mAsg (mTupT (mCons (mT (mOp oIx (mVar 2) (mVar 5))) (mCons (mT (mRet c_ZERO)) (mRet [])))) (gTupM (gCons (gIx (pNm 3) (mVar 5)) (gCons (gIx (pNm 4) (mVar 5)) gNil)))) mNx)
def b_Led_parted (K : PySem.W.Frag) : MS := (mSeq (mPar 3 4 (mCons (mOpT oMul (mF (mLst (mCons (mT (mRet c_ZERO)) (mRet [])))) (mF (mOpT oAdd (mFld (He.ga K "Led") "many" (mVar 0)) (mRet (.int 2))))) (mCons (mCallT bList (mCons (mVar 2) (mRet []))) (mRet []))))
    (mSeq (mFor (mIt rng1 (mCons (mFld (He.ga K "Led") "many" (mVar 0)) (mRet []))) (gNm 5) (l_Led_parted_1 K))
    (mRetT (mTupT (mCons (mMv 3) (mCons (mMv 4) (mRet [])))))))
def f_Led_parted (K : PySem.W.Frag) : Fn := mkFn 3 6 [3, 4, 5] (b_Led_parted K)
theorem ok_Led_parted (t : Top P w K mg base) : FnT P w K mg base (He.fAd K d_Led_parted.at_) 13 ["self", "saying", "masses"] (f_Led_parted K) := by
  obtain ⟨fd, F, B⟩ := t.b_Led_parted
  exact fnT_of (k := 12) (np := 3) (nn := 6) (W := [3, 4, 5]) (body := b_Led_parted K) F sc_Led_parted B fun cdv A outer s H E hr => (jss_cons (js_par rfl sc_Led_parted.nd (jae_cons (je_mul (jd_e (je_lst (jae_cons (je_d (jd_globx (t.c_ZERO))) jae_nil))) (jd_e (je_add (jd_fld t.cls_Led t.noat_Led_many (jd_var (pv 0))) jd_int))) (jae_cons (je_list t.n_list (jad_cons (jd_var (pv 2)) jad_nil)) jae_nil)))
    (jss_cons (js_for PassesOwn.never rfl (ji_range1 t.n_range (jad_cons (jd_fld t.cls_Led t.noat_Led_many (jd_var (pv 0))) jad_nil)) (jg_name sc_Led_parted.nd) (jss_one (js_if (jt_val (jd_e (je_call (ok_holds t 12) (hr.mono (by decide)) t.g_holds (ja_v (jd_var (pv 1)) (ja_v (jd_var (pv 5)) ja_nil))))) (jss_one (js_asg (je_tup (jae_cons (je_d (jd_ix (jd_var (pv 2)) (jd_var (pv 5)))) (jae_cons (je_d (jd_globx (t.c_ZERO))) jae_nil))) (jg_t2 rfl (jg_ix (jp_name (pv 3)) (jd_var (pv 5))) (jg_ix (jp_name (pv 4)) (jd_var (pv 5)))))) jss_nil)))
    (jss_one (js_ret (je_tup (jae_cons (je_mv (pv 3)) (jae_cons (je_mv (pv 4)) jae_nil)))))))
end
end Lw

/-! K77W_Led_seen -/
set_option Elab.async false
set_option linter.all false
set_option maxRecDepth 100000
set_option maxHeartbeats 4000000
namespace Lw
open PySem PySem.Spec PyProof.Rows L2 Fw
section
variable {P : Program} {w : World} {K : PySem.W.Frag} {mg : Str → Option Value} {base : Heap}
/-! Led.seen -/
def b_Led_seen (K : PySem.W.Frag) : MS := (mSeq (mAsg (mCallF (f_Led_parted K) [none, none, none] (mCons (mT (mRec (He.ga K "Led") "parted" (mVar 0))) (mCons (mT (mVar 1)) (mCons (mT (mVar 2)) (mRet []))))) (gTupM (gCons (gNm 3) (gCons (gNm 4) gNil))))
    (mSeq (mAsg (mCallF f_plus [none, none] (mCons (mT (mOp oIx (mVar 4) (mFld (He.ga K "Led") "many" (mVar 0)))) (mCons (mT (mF (mCallF f_total [none] (mCons (mT (mF (mSl (mVar 4) mPartN (mPart (mFld (He.ga K "Led") "many" (mVar 0))) slO))) (mRet []))))) (mRet [])))) (gIx (pNm 3) (mFld (He.ga K "Led") "many" (mVar 0))))
    (mSeq (mAsg (mT (mOp oIx (mVar 4) (mF (mOpT oAdd (mFld (He.ga K "Led") "many" (mVar 0)) (mRet (.int 1)))))) (gIx (pNm 3) (mF (mOpT oAdd (mFld (He.ga K "Led") "many" (mVar 0)) (mRet (.int 1))))))
    (mRetT (mMv 3)))))
def f_Led_seen (K : PySem.W.Frag) : Fn := mkFn 3 5 [3, 4] (b_Led_seen K)
theorem ok_Led_seen (t : Top P w K mg base) : FnT P w K mg base (He.fAd K d_Led_seen.at_) 14 ["self", "saying", "masses"] (f_Led_seen K) := by
  obtain ⟨fd, F, B⟩ := t.b_Led_seen
  exact fnT_of (k := 13) (np := 3) (nn := 5) (W := [3, 4]) (body := b_Led_seen K) F sc_Led_seen B fun cdv A outer s H E hr => (jss_cons (js_asg (je_meth t.cls_Led t.meth_Led_parted (ok_Led_parted t) (hr.mono (by decide)) (jd_var (pv 0)) (ja_v (jd_var (pv 1)) (ja_v (jd_var (pv 2)) ja_nil))) (jg_t2 rfl (jg_name sc_Led_seen.nd) (jg_name sc_Led_seen.nd)))
    (jss_cons (js_asg (je_call (ok_plus t) (hr.mono (by decide)) t.g_plus (ja_v (jd_ix (jd_var (pv 4)) (jd_fld t.cls_Led t.noat_Led_many (jd_var (pv 0)))) (ja_v (jd_e (je_call (ok_total t) (hr.mono (by decide)) t.g_total (ja_v (jd_e (je_sl (jd_var (pv 4)) jo_none (jo_some (jd_fld t.cls_Led t.noat_Led_many (jd_var (pv 0)))))) ja_nil))) ja_nil))) (jg_ix (jp_name (pv 3)) (jd_fld t.cls_Led t.noat_Led_many (jd_var (pv 0)))))
    (jss_cons (js_asg (je_d (jd_ix (jd_var (pv 4)) (jd_e (je_add (jd_fld t.cls_Led t.noat_Led_many (jd_var (pv 0))) jd_int)))) (jg_ix (jp_name (pv 3)) (jd_e (je_add (jd_fld t.cls_Led t.noat_Led_many (jd_var (pv 0))) jd_int))))
    (jss_one (js_ret (je_mv (pv 3)))))))
end
end Lw

/-! K77W_Led_block -/
set_option Elab.async false
set_option linter.all false
set_option maxRecDepth 100000
set_option maxHeartbeats 4000000
namespace Lw
open PySem PySem.Spec PyProof.Rows L2 Fw
section
variable {P : Program} {w : World} {K : PySem.W.Frag} {mg : Str → Option Value} {base : Heap}
/-! Led.block, Led.statement -/
def l_Led_block_1 (K : PySem.W.Frag) (r_Led_block r_Led_statement : Fn) : MS := (mAsg (mCallF r_Led_statement [none, none, none] (mCons (mT (mRec (He.ga K "Led") "statement" (mVar 0))) (mCons (mT (mVar 3)) (mCons (mT (mVar 2)) (mRet []))))) (gNm 2))
def b_Led_block (K : PySem.W.Frag) (r_Led_block r_Led_statement : Fn) : MS := (mSeq (mFor (mSq (mVar 1)) (gNm 3) (l_Led_block_1 K r_Led_block r_Led_statement))
    (mRetT (mT (mVar 2))))
def l_Led_statement_1 (K : PySem.W.Frag) (r_Led_block r_Led_statement : Fn) : MS := (mAsg (mCallF r_Led_block [none, none, none] (mCons (mT (mRec (He.ga K "Led") "block" (mVar 0))) (mCons (mT (mOp oIx (mVar 1) (mRet (.int 2)))) (mCons (mT (mVar 2)) (mRet []))))) (gNm 2))
def b_Led_statement (K : PySem.W.Frag) (r_Led_block r_Led_statement : Fn) : MS := (mSeq (mIfS (mB (mOp oIn (mOp oIx (mVar 1) (mRet (.int 0))) (mTup (mCons (mRet (.str "draw")) (mCons (mRet (.str "set")) (mRet [])))))) (mRetT (mCallF (f_Led_changed K) [none, none, none] (mCons (mT (mRec (He.ga K "Led") "changed" (mVar 0))) (mCons (mT (mVar 1)) (mCons (mT (mVar 2)) (mRet [])))))) mNx)
    (mSeq (mIfS (mB (mOp oEq (mOp oIx (mVar 1) (mRet (.int 0))) (mRet (.str "see")))) (mRetT (mCallF (f_Led_seen K) [none, none, none] (mCons (mT (mRec (He.ga K "Led") "seen" (mVar 0))) (mCons (mT (mOp oIx (mVar 1) (mRet (.int 1)))) (mCons (mT (mVar 2)) (mRet [])))))) mNx)
    (mSeq (mIfS (mB (mOp oEq (mOp oIx (mVar 1) (mRet (.int 0))) (mRet (.str "rounds")))) (mSeq (mFor (mIt rng1 (mCons (mOp oIx (mVar 1) (mRet (.int 1))) (mRet []))) (gNm 3) (l_Led_statement_1 K r_Led_block r_Led_statement))
    (mRetT (mT (mVar 2)))) mNx)
    (mSeq (mAsg (mCallF (f_Led_parted K) [none, none, none] (mCons (mT (mRec (He.ga K "Led") "parted" (mVar 0))) (mCons (mT (mOp oIx (mVar 1) (mRet (.int 1)))) (mCons (mT (mVar 2)) (mRet []))))) (gTupM (gCons (gNm 4) (gCons (gNm 5) gNil))))
    (mSeq (mIfS (mB (mOp oEq (mOp oIx (mVar 1) (mRet (.int 0))) (mRet (.str "until")))) (fun _ => none) mNx)
    (mRetT (mCallF f_Led_joined [none, none, none] (mCons (mT (mRec (He.ga K "Led") "joined" (mVar 0))) (mCons (mT (mF (mCallF r_Led_block [none, none, none] (mCons (mT (mRec (He.ga K "Led") "block" (mVar 0))) (mCons (mT (mOp oIx (mVar 1) (mRet (.int 2)))) (mCons (mT (mVar 4)) (mRet []))))))) (mCons (mT (mF (mCallF r_Led_block [none, none, none] (mCons (mT (mRec (He.ga K "Led") "block" (mVar 0))) (mCons (mT (mOp oIx (mVar 1) (mRet (.int 3)))) (mCons (mT (mVar 5)) (mRet []))))))) (mRet [])))))))))))
mutual
def f_Led_block (K : PySem.W.Frag) : Nat → Fn
  | 0 => fun _ => none
  | n + 1 => mkFn 3 4 [2, 3] (b_Led_block K (f_Led_block K n) (f_Led_statement K n))
def f_Led_statement (K : PySem.W.Frag) : Nat → Fn
  | 0 => fun _ => none
  | n + 1 => mkFn 3 6 [2, 3, 4, 5] (b_Led_statement K (f_Led_block K n) (f_Led_statement K n))
end
theorem ok_Led_block_Led_statement (t : Top P w K mg base) : ∀ n, FnT P w K mg base (He.fAd K d_Led_block.at_) (14 + n) ["self", "block", "masses"] (f_Led_block K n) ∧ FnT P w K mg base (He.fAd K d_Led_statement.at_) (14 + n) ["self", "here", "masses"] (f_Led_statement K n)
  | 0 => by
    obtain ⟨fd_Led_block, F_Led_block, B_Led_block⟩ := t.b_Led_block
    obtain ⟨fd_Led_statement, F_Led_statement, B_Led_statement⟩ := t.b_Led_statement
    exact ⟨FnT.none F_Led_block.kp ⟨fd_Led_block, B_Led_block⟩, FnT.none F_Led_statement.kp ⟨fd_Led_statement, B_Led_statement⟩⟩
  | n + 1 => by
    obtain ⟨fd_Led_block, F_Led_block, B_Led_block⟩ := t.b_Led_block
    obtain ⟨fd_Led_statement, F_Led_statement, B_Led_statement⟩ := t.b_Led_statement
    have ih := ok_Led_block_Led_statement t n
    obtain ⟨ih_Led_block, ih_Led_statement⟩ := ih
    refine ⟨?_, ?_⟩
    · exact fnT_of (k := 14 + n) (np := 3) (nn := 4) (W := [2, 3]) (body := b_Led_block K (f_Led_block K n) (f_Led_statement K n)) F_Led_block sc_Led_block B_Led_block fun cdv A outer s H E hr => (jss_cons (js_for PassesOwn.never rfl (ji_seq (jd_var (pv 1))) (jg_name sc_Led_block.nd) (jss_one (js_set sc_Led_block.nd (je_meth t.cls_Led t.meth_Led_statement ih_Led_statement (hr.mono (by omega)) (jd_var (pv 0)) (ja_v (jd_var (pv 3)) (ja_v (jd_var (pv 2)) ja_nil))))))
    (jss_one (js_ret (je_d (jd_var (pv 2))))))
    · exact fnT_of (k := 14 + n) (np := 3) (nn := 6) (W := [2, 3, 4, 5]) (body := b_Led_statement K (f_Led_block K n) (f_Led_statement K n)) F_Led_statement sc_Led_statement B_Led_statement fun cdv A outer s H E hr => (jss_cons (js_if (jt_cmp o_in.d (jd_ix (jd_var (pv 1)) jd_int) (jd_tup (jad_cons jd_str (jad_cons jd_str jad_nil)))) (jss_one (js_ret (je_meth t.cls_Led t.meth_Led_changed (ok_Led_changed t) (hr.mono (by omega)) (jd_var (pv 0)) (ja_v (jd_var (pv 1)) (ja_v (jd_var (pv 2)) ja_nil))))) jss_nil)
    (jss_cons (js_if (jt_cmp (o_eq hr.units).d (jd_ix (jd_var (pv 1)) jd_int) jd_str) (jss_one (js_ret (je_meth t.cls_Led t.meth_Led_seen (ok_Led_seen t) (hr.mono (by omega)) (jd_var (pv 0)) (ja_v (jd_ix (jd_var (pv 1)) jd_int) (ja_v (jd_var (pv 2)) ja_nil))))) jss_nil)
    (jss_cons (js_if (jt_cmp (o_eq hr.units).d (jd_ix (jd_var (pv 1)) jd_int) jd_str) (jss_cons (js_for PassesOwn.never rfl (ji_range1 t.n_range (jad_cons (jd_ix (jd_var (pv 1)) jd_int) jad_nil)) (jg_name sc_Led_statement.nd) (jss_one (js_set sc_Led_statement.nd (je_meth t.cls_Led t.meth_Led_block ih_Led_block (hr.mono (by omega)) (jd_var (pv 0)) (ja_v (jd_ix (jd_var (pv 1)) jd_int) (ja_v (jd_var (pv 2)) ja_nil))))))
    (jss_one (js_ret (je_d (jd_var (pv 2)))))) jss_nil)
    (jss_cons (js_asg (je_meth t.cls_Led t.meth_Led_parted (ok_Led_parted t) (hr.mono (by omega)) (jd_var (pv 0)) (ja_v (jd_ix (jd_var (pv 1)) jd_int) (ja_v (jd_var (pv 2)) ja_nil))) (jg_t2 rfl (jg_name sc_Led_statement.nd) (jg_name sc_Led_statement.nd)))
    (jss_cons (js_if (jt_cmp (o_eq hr.units).d (jd_ix (jd_var (pv 1)) jd_int) jd_str) (jss_one js_never) jss_nil)
    (jss_one (js_ret (je_meth t.cls_Led t.meth_Led_joined (ok_Led_joined t) (hr.mono (by omega)) (jd_var (pv 0)) (ja_v (jd_e (je_meth t.cls_Led t.meth_Led_block ih_Led_block (hr.mono (by omega)) (jd_var (pv 0)) (ja_v (jd_ix (jd_var (pv 1)) jd_int) (ja_v (jd_var (pv 4)) ja_nil)))) (ja_v (jd_e (je_meth t.cls_Led t.meth_Led_block ih_Led_block (hr.mono (by omega)) (jd_var (pv 0)) (ja_v (jd_ix (jd_var (pv 1)) jd_int) (ja_v (jd_var (pv 5)) ja_nil)))) ja_nil))))))))))
theorem ok_Led_block (t : Top P w K mg base) (n : Nat) : FnT P w K mg base (He.fAd K d_Led_block.at_) (14 + n) ["self", "block", "masses"] (f_Led_block K n) := (ok_Led_block_Led_statement t n).1
theorem ok_Led_statement (t : Top P w K mg base) (n : Nat) : FnT P w K mg base (He.fAd K d_Led_statement.at_) (14 + n) ["self", "here", "masses"] (f_Led_statement K n) := (ok_Led_block_Led_statement t n).2
end
end Lw

/-! K77W_led_from -/
set_option Elab.async false
set_option linter.all false
set_option maxRecDepth 100000
set_option maxHeartbeats 4000000
namespace Lw
open PySem PySem.Spec PyProof.Rows L2 Fw
section
variable {P : Program} {w : World} {K : PySem.W.Frag} {mg : Str → Option Value} {base : Heap}
/-! led_from -/
def b_led_from (K : PySem.W.Frag) : MS := (mSeq (mAsg (mMake (He.ga K "Led") (f_Led_init K) [none, none] (mCons (mT (mOp oIx (mVar 0) (mRet (.int 0)))) (mCons (mT (mOp oIx (mVar 0) (mRet (.int 1)))) (mRet [])))) (gNm 2))
    (mRetT (mCallF (f_Led_block K 16) [none, none, none] (mCons (mT (mRec (He.ga K "Led") "block" (mVar 2))) (mCons (mT (mOp oIx (mVar 0) (mRet (.int 2)))) (mCons (mT (mF (mCallF (f_Led_start K) [none, none] (mCons (mT (mRec (He.ga K "Led") "start" (mVar 2))) (mCons (mT (mVar 1)) (mRet [])))))) (mRet [])))))))
def f_led_from (K : PySem.W.Frag) : Fn := mkFn 2 3 [2] (b_led_from K)
theorem ok_led_from (t : Top P w K mg base) : FnT P w K mg base (He.fAd K d_led_from.at_) 31 ["program", "world"] (f_led_from K) := by
  obtain ⟨fd, F, B⟩ := t.b_led_from
  exact fnT_of (k := 30) (np := 2) (nn := 3) (W := [2]) (body := b_led_from K) F sc_led_from B fun cdv A outer s H E hr => (jss_cons (js_set sc_led_from.nd (je_make t.mk_Led (ok_Led_init t) (hr.mono (by decide)) t.g_Led (ja_v (jd_ix (jd_var (pv 0)) jd_int) (ja_v (jd_ix (jd_var (pv 0)) jd_int) ja_nil))))
    (jss_one (js_ret (je_meth t.cls_Led t.meth_Led_block (ok_Led_block t 16) (hr.mono (by decide)) (jd_var (pv 2)) (ja_v (jd_ix (jd_var (pv 0)) jd_int) (ja_v (jd_e (je_meth t.cls_Led t.meth_Led_start (ok_Led_start t) (hr.mono (by decide)) (jd_var (pv 2)) (ja_v (jd_var (pv 1)) ja_nil))) ja_nil))))))
end
end Lw

/-! K77W_outcome -/
set_option Elab.async false
set_option linter.all false
set_option maxRecDepth 100000
set_option maxHeartbeats 4000000
namespace Lw
open PySem PySem.Spec PyProof.Rows L2 Fw
section
variable {P : Program} {w : World} {K : PySem.W.Frag} {mg : Str → Option Value} {base : Heap}
/-! outcome -/
def b_outcome (K : PySem.W.Frag) : MS := (mSeq (mExp (mF (mCallF f_need_program [none] (mCons (mT (mVar 0)) (mRet [])))))
    (mSeq (mAsg (mCallF (f_led_from K) [none, none] (mCons (mT (mVar 0)) (mCons (mT (mRet (.int 0))) (mRet [])))) (gNm 1))
    (mSeq (mAsg (mCallF f_many_worlds [none] (mCons (mT (mOp oIx (mVar 0) (mRet (.int 0)))) (mRet []))) (gNm 2))
    (mRetT (mT (mTup (mCons (mCall bTuple (mCons (mF (mSl (mVar 1) mPartN (mPart (mVar 2)) slO)) (mRet []))) (mCons (mOp oIx (mVar 1) (mVar 2)) (mCons (mOp oIx (mVar 1) (mF (mOpT oAdd (mVar 2) (mRet (.int 1))))) (mRet []))))))))))
def f_outcome (K : PySem.W.Frag) : Fn := mkFn 1 3 [1, 2] (b_outcome K)
theorem ok_outcome (t : Top P w K mg base) : FnT P w K mg base (He.fAd K d_outcome.at_) 32 ["program"] (f_outcome K) := by
  obtain ⟨fd, F, B⟩ := t.b_outcome
  exact fnT_of (k := 31) (np := 1) (nn := 3) (W := [1, 2]) (body := b_outcome K) F sc_outcome B fun cdv A outer s H E hr => (jss_cons (js_expr (jd_e (je_call (ok_need_program t) (hr.mono (by decide)) t.g_need_program (ja_v (jd_var (pv 0)) ja_nil))))
    (jss_cons (js_set sc_outcome.nd (je_call (ok_led_from t) (hr.mono (by decide)) t.g_led_from (ja_v (jd_var (pv 0)) (ja_v jd_int ja_nil))))
    (jss_cons (js_set sc_outcome.nd (je_call (ok_many_worlds t) (hr.mono (by decide)) t.g_many_worlds (ja_v (jd_ix (jd_var (pv 0)) jd_int) ja_nil)))
    (jss_one (js_ret (je_d (jd_tup (jad_cons (jd_callTy b_tuple t.n_tuple (jad_cons (jd_e (je_sl (jd_var (pv 1)) jo_none (jo_some (jd_var (pv 2))))) jad_nil)) (jad_cons (jd_ix (jd_var (pv 1)) (jd_var (pv 2))) (jad_cons (jd_ix (jd_var (pv 1)) (jd_e (je_add (jd_var (pv 2)) jd_int))) jad_nil))))))))))
end
end Lw

/-! K77W_masses_of -/
set_option Elab.async false
set_option linter.all false
set_option maxRecDepth 100000
set_option maxHeartbeats 4000000
namespace Lw
open PySem PySem.Spec PyProof.Rows L2 Fw
section
variable {P : Program} {w : World} {K : PySem.W.Frag} {mg : Str → Option Value} {base : Heap}
/-! masses_of -/
def b_masses_of (K : PySem.W.Frag) : MS := (mRetT (mSl (mF (mCallF (f_led_from K) [none, none] (mCons (mT (mVar 0)) (mCons (mT (mRet (.int 0))) (mRet []))))) mPartN (mPart (mF (mCallF f_many_worlds [none] (mCons (mT (mOp oIx (mVar 0) (mRet (.int 0)))) (mRet []))))) slO))
def f_masses_of (K : PySem.W.Frag) : Fn := mkFn 1 1 [] (b_masses_of K)
theorem ok_masses_of (t : Top P w K mg base) : FnT P w K mg base (He.fAd K d_masses_of.at_) 32 ["program"] (f_masses_of K) := by
  obtain ⟨fd, F, B⟩ := t.b_masses_of
  exact fnT_of (k := 31) (np := 1) (nn := 1) (W := []) (body := b_masses_of K) F sc_masses_of B fun cdv A outer s H E hr => (jss_one (js_ret (je_sl (jd_e (je_call (ok_led_from t) (hr.mono (by decide)) t.g_led_from (ja_v (jd_var (pv 0)) (ja_v jd_int ja_nil)))) jo_none (jo_some (jd_e (je_call (ok_many_worlds t) (hr.mono (by decide)) t.g_many_worlds (ja_v (jd_ix (jd_var (pv 0)) jd_int) ja_nil)))))))
end
end Lw

/-! K77W_need_pair -/
set_option Elab.async false
set_option linter.all false
set_option maxRecDepth 100000
set_option maxHeartbeats 4000000
namespace Lw
open PySem PySem.Spec PyProof.Rows L2 Fw
section
variable {P : Program} {w : World} {K : PySem.W.Frag} {mg : Str → Option Value} {base : Heap}
/-! need_pair -/
def b_need_pair : MS := (mSeq (mExp (mF (mCallF f_need_program [none] (mCons (mT (mVar 0)) (mRet [])))))
    (mSeq (mExp (mF (mCallF f_need_program [none] (mCons (mT (mVar 1)) (mRet [])))))
    (mIfS (mB (mOp oNe (mOp oIx (mVar 0) (mRet (.int 0))) (mOp oIx (mVar 1) (mRet (.int 0))))) (fun _ => none) mNx)))
def f_need_pair : Fn := mkFn 2 2 [] (b_need_pair)
theorem ok_need_pair (t : Top P w K mg base) : FnT P w K mg base (He.fAd K d_need_pair.at_) 12 ["one", "other"] (f_need_pair) := by
  obtain ⟨fd, F, B⟩ := t.b_need_pair
  exact fnT_of (k := 11) (np := 2) (nn := 2) (W := []) (body := b_need_pair) F sc_need_pair B fun cdv A outer s H E hr => (jss_cons (js_expr (jd_e (je_call (ok_need_program t) (hr.mono (by decide)) t.g_need_program (ja_v (jd_var (pv 0)) ja_nil))))
    (jss_cons (js_expr (jd_e (je_call (ok_need_program t) (hr.mono (by decide)) t.g_need_program (ja_v (jd_var (pv 1)) ja_nil))))
    (jss_one (js_if (jt_cmp (o_ne hr.units).d (jd_ix (jd_var (pv 0)) jd_int) (jd_ix (jd_var (pv 1)) jd_int)) (jss_one js_never) jss_nil))))
end
end Lw

/-! K77W_whole_masses -/
set_option Elab.async false
set_option linter.all false
set_option maxRecDepth 100000
set_option maxHeartbeats 4000000
namespace Lw
open PySem PySem.Spec PyProof.Rows L2 Fw
section
variable {P : Program} {w : World} {K : PySem.W.Frag} {mg : Str → Option Value} {base : Heap}
/-! whole_masses -/
def b_whole_masses (K : PySem.W.Frag) : MS := (mSeq (mAsg (mCallT bList (mCons (mF (mCallF (f_masses_of K) [none] (mCons (mT (mVar 0)) (mRet [])))) (mRet []))) (gNm 1))
    (mRetT (mOpT oAdd (mVar 1) (mF (mLst (mCons (mCallF f_minus [none, none] (mCons (mT (mRet c_ONE)) (mCons (mT (mF (mCallF f_total [none] (mCons (mT (mVar 1)) (mRet []))))) (mRet [])))) (mRet [])))))))
def f_whole_masses (K : PySem.W.Frag) : Fn := mkFn 1 2 [1] (b_whole_masses K)
theorem ok_whole_masses (t : Top P w K mg base) : FnT P w K mg base (He.fAd K d_whole_masses.at_) 33 ["program"] (f_whole_masses K) := by
  obtain ⟨fd, F, B⟩ := t.b_whole_masses
  exact fnT_of (k := 32) (np := 1) (nn := 2) (W := [1]) (body := b_whole_masses K) F sc_whole_masses B fun cdv A outer s H E hr => (jss_cons (js_set sc_whole_masses.nd (je_list t.n_list (jad_cons (jd_e (je_call (ok_masses_of t) (hr.mono (by decide)) t.g_masses_of (ja_v (jd_var (pv 0)) ja_nil))) jad_nil)))
    (jss_one (js_ret (je_add (jd_var (pv 1)) (jd_e (je_lst (jae_cons (je_call (ok_minus t) (hr.mono (by decide)) t.g_minus (ja_v (jd_globx (t.c_ONE)) (ja_v (jd_e (je_call (ok_total t) (hr.mono (by decide)) t.g_total (ja_v (jd_var (pv 1)) ja_nil))) ja_nil))) jae_nil)))))))
end
end Lw

/-! K77W_less_of -/
set_option Elab.async false
set_option linter.all false
set_option maxRecDepth 100000
set_option maxHeartbeats 4000000
namespace Lw
open PySem PySem.Spec PyProof.Rows L2 Fw
section
variable {P : Program} {w : World} {K : PySem.W.Frag} {mg : Str → Option Value} {base : Heap}
/-! less_of -/
def b_less_of : MS := (mRetT (mT (mIf (mB (mF (mCallF f_is_less [none, none] (mCons (mT (mVar 1)) (mCons (mT (mVar 0)) (mRet [])))))) (mVar 1) (mVar 0))))
def f_less_of : Fn := mkFn 2 2 [] (b_less_of)
theorem ok_less_of (t : Top P w K mg base) : FnT P w K mg base (He.fAd K d_less_of.at_) 2 ["one", "other"] (f_less_of) := by
  obtain ⟨fd, F, B⟩ := t.b_less_of
  exact fnT_of (k := 1) (np := 2) (nn := 2) (W := []) (body := b_less_of) F sc_less_of B fun cdv A outer s H E hr => (jss_one (js_ret (je_d (jd_if (jt_val (jd_e (je_call (ok_is_less t) (hr.mono (by decide)) t.g_is_less (ja_v (jd_var (pv 1)) (ja_v (jd_var (pv 0)) ja_nil))))) (jd_var (pv 1)) (jd_var (pv 0))))))
end
end Lw

/-! K77W_distance_of -/
set_option Elab.async false
set_option linter.all false
set_option maxRecDepth 100000
set_option maxHeartbeats 4000000
namespace Lw
open PySem PySem.Spec PyProof.Rows L2 Fw
section
variable {P : Program} {w : World} {K : PySem.W.Frag} {mg : Str → Option Value} {base : Heap}
/-! distance_of -/
def q_distance_of_1 : M T := mLc [2, 3] (mIt zpF (mCons (mVar 0) (mCons (mVar 1) (mRet [])))) (gTupM (gCons (gNm 2) (gCons (gNm 3) gNil))) (mB (mF (mCallF f_is_less [none, none] (mCons (mT (mVar 3)) (mCons (mT (mVar 2)) (mRet [])))))) (mCallF f_minus [none, none] (mCons (mT (mVar 2)) (mCons (mT (mVar 3)) (mRet []))))
def b_distance_of : MS := (mRetT (mCallF f_total [none] (mCons (mT (mF q_distance_of_1)) (mRet []))))
def f_distance_of : Fn := mkFn 2 4 [] (b_distance_of)
theorem ok_distance_of (t : Top P w K mg base) : FnT P w K mg base (He.fAd K d_distance_of.at_) 5 ["mine", "theirs"] (f_distance_of) := by
  obtain ⟨fd, F, B⟩ := t.b_distance_of
  exact fnT_of (k := 4) (np := 2) (nn := 4) (W := []) (body := b_distance_of) F sc_distance_of B fun cdv A outer s H E hr => (jss_one (js_ret (je_call (ok_total t) (hr.mono (by decide)) t.g_total (ja_v (jd_e (je_lc (own := [("one", 2), ("other", 3)]) rfl sc_distance_of.nd (ji_zip t.n_zip (jad_cons (jd_var (pv 0)) (jad_cons (jd_var (pv 1)) jad_nil))) (blkOk_by (by kernel_rfl)) (fun _ _ _ _ _ => (jg_t2 rfl (jg_name sc_distance_of.nd) (jg_name sc_distance_of.nd))) (fun _ _ _ _ _ => (jpt_one (jt_val (jd_e (je_call (ok_is_less t) (hr.mono (by decide)) t.g_is_less (ja_v (jd_var (pv 3)) (ja_v (jd_var (pv 2)) ja_nil))))))) (fun _ _ _ _ _ => (je_call (ok_minus t) (hr.mono (by decide)) t.g_minus (ja_v (jd_var (pv 2)) (ja_v (jd_var (pv 3)) ja_nil)))))) ja_nil))))
end
end Lw

/-! K77W_distance -/
set_option Elab.async false
set_option linter.all false
set_option maxRecDepth 100000
set_option maxHeartbeats 4000000
namespace Lw
open PySem PySem.Spec PyProof.Rows L2 Fw
section
variable {P : Program} {w : World} {K : PySem.W.Frag} {mg : Str → Option Value} {base : Heap}
/-! distance -/
def b_distance (K : PySem.W.Frag) : MS := (mSeq (mExp (mF (mCallF f_need_pair [none, none] (mCons (mT (mVar 0)) (mCons (mT (mVar 1)) (mRet []))))))
    (mRetT (mCallF f_distance_of [none, none] (mCons (mT (mF (mCallF (f_whole_masses K) [none] (mCons (mT (mVar 0)) (mRet []))))) (mCons (mT (mF (mCallF (f_whole_masses K) [none] (mCons (mT (mVar 1)) (mRet []))))) (mRet []))))))
def f_distance (K : PySem.W.Frag) : Fn := mkFn 2 2 [] (b_distance K)
theorem ok_distance (t : Top P w K mg base) : FnT P w K mg base (He.fAd K d_distance.at_) 34 ["one", "other"] (f_distance K) := by
  obtain ⟨fd, F, B⟩ := t.b_distance
  exact fnT_of (k := 33) (np := 2) (nn := 2) (W := []) (body := b_distance K) F sc_distance B fun cdv A outer s H E hr => (jss_cons (js_expr (jd_e (je_call (ok_need_pair t) (hr.mono (by decide)) t.g_need_pair (ja_v (jd_var (pv 0)) (ja_v (jd_var (pv 1)) ja_nil)))))
    (jss_one (js_ret (je_call (ok_distance_of t) (hr.mono (by decide)) t.g_distance_of (ja_v (jd_e (je_call (ok_whole_masses t) (hr.mono (by decide)) t.g_whole_masses (ja_v (jd_var (pv 0)) ja_nil))) (ja_v (jd_e (je_call (ok_whole_masses t) (hr.mono (by decide)) t.g_whole_masses (ja_v (jd_var (pv 1)) ja_nil))) ja_nil))))))
end
end Lw

/-! K77W_telling_lot -/
set_option Elab.async false
set_option linter.all false
set_option maxRecDepth 100000
set_option maxHeartbeats 4000000
namespace Lw
open PySem PySem.Spec PyProof.Rows L2 Fw
section
variable {P : Program} {w : World} {K : PySem.W.Frag} {mg : Str → Option Value} {base : Heap}
/-! telling_lot -/
def q_telling_lot_1 (K : PySem.W.Frag) : M T := mLc [4, 5] (mIt enF (mCons (mVar 2) (mRet []))) (gTupM (gCons (gNm 4) (gCons (gNm 5) gNil))) (mB (mF (mCallF f_is_less [none, none] (mCons (mT (mOp oIx (mVar 3) (mVar 4))) (mCons (mT (mVar 5)) (mRet [])))))) (mT (mVar 4))
def b_telling_lot (K : PySem.W.Frag) : MS := (mSeq (mExp (mF (mCallF f_need_pair [none, none] (mCons (mT (mVar 0)) (mCons (mT (mVar 1)) (mRet []))))))
    (mSeq (mAsg (mTupT (mCons (mCallF (f_whole_masses K) [none] (mCons (mT (mVar 0)) (mRet []))) (mCons (mCallF (f_whole_masses K) [none] (mCons (mT (mVar 1)) (mRet []))) (mRet [])))) (gTupM (gCons (gNm 2) (gCons (gNm 3) gNil))))
    (mRetT (mT (mCall bTuple (mCons (mF (q_telling_lot_1 K)) (mRet [])))))))
def f_telling_lot (K : PySem.W.Frag) : Fn := mkFn 2 6 [2, 3] (b_telling_lot K)
theorem ok_telling_lot (t : Top P w K mg base) : FnT P w K mg base (He.fAd K d_telling_lot.at_) 34 ["one", "other"] (f_telling_lot K) := by
  obtain ⟨fd, F, B⟩ := t.b_telling_lot
  exact fnT_of (k := 33) (np := 2) (nn := 6) (W := [2, 3]) (body := b_telling_lot K) F sc_telling_lot B fun cdv A outer s H E hr => (jss_cons (js_expr (jd_e (je_call (ok_need_pair t) (hr.mono (by decide)) t.g_need_pair (ja_v (jd_var (pv 0)) (ja_v (jd_var (pv 1)) ja_nil)))))
    (jss_cons (js_asg (je_tup (jae_cons (je_call (ok_whole_masses t) (hr.mono (by decide)) t.g_whole_masses (ja_v (jd_var (pv 0)) ja_nil)) (jae_cons (je_call (ok_whole_masses t) (hr.mono (by decide)) t.g_whole_masses (ja_v (jd_var (pv 1)) ja_nil)) jae_nil))) (jg_t2 rfl (jg_name sc_telling_lot.nd) (jg_name sc_telling_lot.nd)))
    (jss_one (js_ret (je_d (jd_callTy b_tuple t.n_tuple (jad_cons (jd_e (je_lc (own := [("end", 4), ("mass", 5)]) rfl sc_telling_lot.nd (ji_enum t.n_enumerate (jad_cons (jd_var (pv 2)) jad_nil)) (blkOk_by (by kernel_rfl)) (fun _ _ _ _ _ => (jg_t2 rfl (jg_name sc_telling_lot.nd) (jg_name sc_telling_lot.nd))) (fun _ _ _ _ _ => (jpt_one (jt_val (jd_e (je_call (ok_is_less t) (hr.mono (by decide)) t.g_is_less (ja_v (jd_ix (jd_var (pv 3)) (jd_var (pv 4))) (ja_v (jd_var (pv 5)) ja_nil))))))) (fun _ _ _ _ _ => (je_d (jd_var (pv 4)))))) jad_nil)))))))
end
end Lw

/-! K77W_drawn_together -/
set_option Elab.async false
set_option linter.all false
set_option maxRecDepth 100000
set_option maxHeartbeats 4000000
namespace Lw
open PySem PySem.Spec PyProof.Rows L2 Fw
section
variable {P : Program} {w : World} {K : PySem.W.Frag} {mg : Str → Option Value} {base : Heap}
/-! drawn_together -/
def q_drawn_together_1 (K : PySem.W.Frag) : M T := mLc [13] (mSq (mVar 5)) (gNm 13) (mRet true) (mT (mCall bTuple (mCons (mVar 13) (mRet []))))
def l_drawn_together_1 (K : PySem.W.Frag) : MS := (mSeq (mAsg (mCallF f_less_of [none, none] (mCons (mT (mPl (pIx (pNm 7) (mVar 6)))) (mCons (mT (mPl (pIx (pNm 8) (mVar 9)))) (mRet [])))) (gNm 10))
    (mIfS (mB (mOp oGt (mOp oIx (mVar 10) (mRet (.int 0))) (mRet (.int 0)))) (mSeq (mAsg (mCallF f_plus [none, none] (mCons (mT (mPl (pIx (pIx (pNm 5) (mVar 6)) (mVar 9)))) (mCons (mT (mVar 10)) (mRet [])))) (gIx (pIx (pNm 5) (mVar 6)) (mVar 9)))
    (mAsg (mTupT (mCons (mCallF f_minus [none, none] (mCons (mT (mPl (pIx (pNm 7) (mVar 6)))) (mCons (mT (mVar 10)) (mRet [])))) (mCons (mCallF f_minus [none, none] (mCons (mT (mPl (pIx (pNm 8) (mVar 9)))) (mCons (mT (mVar 10)) (mRet [])))) (mRet [])))) (gTupM (gCons (gIx (pNm 7) (mVar 6)) (gCons (gIx (pNm 8) (mVar 9)) gNil))))) mNx))
def l_drawn_together_2 (K : PySem.W.Frag) : MS := (mFor (mIt rng1 (mCons (mVar 4) (mRet []))) (gNm 9) (l_drawn_together_1 K))
def q_drawn_together_2 (K : PySem.W.Frag) : M T := mLc [6, 12] (mIt enF (mCons (mVar 3) (mRet []))) (gTupM (gCons (gNm 6) (gCons (gNm 12) gNil))) (mRet true) (mCallF f_minus [none, none] (mCons (mT (mVar 12)) (mCons (mT (mPl (pIx (pIx (pNm 5) (mVar 6)) (mVar 6)))) (mRet []))))
def q_drawn_together_3 (K : PySem.W.Frag) : M T := mLc [6, 12] (mIt enF (mCons (mVar 2) (mRet []))) (gTupM (gCons (gNm 6) (gCons (gNm 12) gNil))) (mRet true) (mCallF f_minus [none, none] (mCons (mT (mVar 12)) (mCons (mT (mPl (pIx (pIx (pNm 5) (mVar 6)) (mVar 6)))) (mRet []))))
def l_drawn_together_3 (K : PySem.W.Frag) : MS := (mAsg (mCallF f_less_of [none, none] (mCons (mT (mOp oIx (mVar 2) (mVar 6))) (mCons (mT (mOp oIx (mVar 3) (mVar 6))) (mRet [])))) (gIx (pIx (pNm 5) (mVar 6)) (mVar 6)))
def q_drawn_together_4 (K : PySem.W.Frag) : M T := mLc [11] (mIt rng1 (mCons (mVar 4) (mRet []))) (gNm 11) (mRet true) (mOpT oMul (mF (mLst (mCons (mT (mRet c_ZERO)) (mRet [])))) (mVar 4))
def b_drawn_together (K : PySem.W.Frag) : MS := (mSeq (mExp (mF (mCallF f_need_pair [none, none] (mCons (mT (mVar 0)) (mCons (mT (mVar 1)) (mRet []))))))
    (mSeq (mPar 2 3 (mCons (mCallF (f_whole_masses K) [none] (mCons (mT (mVar 0)) (mRet []))) (mCons (mCallF (f_whole_masses K) [none] (mCons (mT (mVar 1)) (mRet []))) (mRet []))))
    (mSeq (mAsg (mT (mCall bLen (mCons (mVar 2) (mRet [])))) (gNm 4))
    (mSeq (mAsg (q_drawn_together_4 K) (gNm 5))
    (mSeq (mFor (mIt rng1 (mCons (mVar 4) (mRet []))) (gNm 6) (l_drawn_together_3 K))
    (mSeq (mAsg (q_drawn_together_3 K) (gNm 7))
    (mSeq (mAsg (q_drawn_together_2 K) (gNm 8))
    (mSeq (mFor (mIt rng1 (mCons (mVar 4) (mRet []))) (gNm 6) (l_drawn_together_2 K))
    (mRetT (mT (mCall bTuple (mCons (mF (q_drawn_together_1 K)) (mRet [])))))))))))))
def f_drawn_together (K : PySem.W.Frag) : Fn := mkFn 2 14 [2, 3, 4, 5, 6, 7, 8, 9, 10] (b_drawn_together K)
theorem ok_drawn_together (t : Top P w K mg base) : FnT P w K mg base (He.fAd K d_drawn_together.at_) 34 ["one", "other"] (f_drawn_together K) := by
  obtain ⟨fd, F, B⟩ := t.b_drawn_together
  exact fnT_of (k := 33) (np := 2) (nn := 14) (W := [2, 3, 4, 5, 6, 7, 8, 9, 10]) (body := b_drawn_together K) F sc_drawn_together B fun cdv A outer s H E hr => (jss_cons (js_expr (jd_e (je_call (ok_need_pair t) (hr.mono (by decide)) t.g_need_pair (ja_v (jd_var (pv 0)) (ja_v (jd_var (pv 1)) ja_nil)))))
    (jss_cons (js_par rfl sc_drawn_together.nd (jae_cons (je_call (ok_whole_masses t) (hr.mono (by decide)) t.g_whole_masses (ja_v (jd_var (pv 0)) ja_nil)) (jae_cons (je_call (ok_whole_masses t) (hr.mono (by decide)) t.g_whole_masses (ja_v (jd_var (pv 1)) ja_nil)) jae_nil)))
    (jss_cons (js_set sc_drawn_together.nd (je_d (jd_callB b_len t.n_len (jad_cons (jd_var (pv 2)) jad_nil))))
    (jss_cons (js_set sc_drawn_together.nd (je_lc (own := [("_", 11)]) rfl sc_drawn_together.nd (ji_range1 t.n_range (jad_cons (jd_var (pv 4)) jad_nil)) (blkOk_by (by kernel_rfl)) (fun _ _ _ _ _ => (jg_name sc_drawn_together.nd)) (fun _ _ _ _ _ => jpt_nil) (fun _ _ _ _ _ => (je_mul (jd_e (je_lst (jae_cons (je_d (jd_globx (t.c_ZERO))) jae_nil))) (jd_var (pv 4))))))
    (jss_cons (js_for PassesOwn.never rfl (ji_range1 t.n_range (jad_cons (jd_var (pv 4)) jad_nil)) (jg_name sc_drawn_together.nd) (jss_one (js_asg (je_call (ok_less_of t) (hr.mono (by decide)) t.g_less_of (ja_v (jd_ix (jd_var (pv 2)) (jd_var (pv 6))) (ja_v (jd_ix (jd_var (pv 3)) (jd_var (pv 6))) ja_nil))) (jg_ix (jp_ix (jp_name (pv 5)) (jd_var (pv 6))) (jd_var (pv 6))))))
    (jss_cons (js_setLc (own := [("end", 6), ("mass", 12)]) rfl sc_drawn_together.nd (ji_enum t.n_enumerate (jad_cons (jd_var (pv 2)) jad_nil)) (blkOk_by (by kernel_rfl)) (fun _ _ _ _ _ => (jg_t2 rfl (jg_name sc_drawn_together.nd) (jg_name sc_drawn_together.nd))) (fun _ _ _ _ _ => jpt_nil) (fun _ _ _ _ _ => (je_call (ok_minus t) (hr.mono (by decide)) t.g_minus (ja_v (jd_var (pv 12)) (ja_v (jd_pl (jp_ix (jp_ix (jp_name (pv 5)) (jd_var (pv 6))) (jd_var (pv 6)))) ja_nil)))))
    (jss_cons (js_setLc (own := [("end", 6), ("mass", 12)]) rfl sc_drawn_together.nd (ji_enum t.n_enumerate (jad_cons (jd_var (pv 3)) jad_nil)) (blkOk_by (by kernel_rfl)) (fun _ _ _ _ _ => (jg_t2 rfl (jg_name sc_drawn_together.nd) (jg_name sc_drawn_together.nd))) (fun _ _ _ _ _ => jpt_nil) (fun _ _ _ _ _ => (je_call (ok_minus t) (hr.mono (by decide)) t.g_minus (ja_v (jd_var (pv 12)) (ja_v (jd_pl (jp_ix (jp_ix (jp_name (pv 5)) (jd_var (pv 6))) (jd_var (pv 6)))) ja_nil)))))
    (jss_cons (js_for PassesOwn.never rfl (ji_range1 t.n_range (jad_cons (jd_var (pv 4)) jad_nil)) (jg_name sc_drawn_together.nd) (jss_one (js_for PassesOwn.never rfl (ji_range1 t.n_range (jad_cons (jd_var (pv 4)) jad_nil)) (jg_name sc_drawn_together.nd) (jss_cons (js_set sc_drawn_together.nd (je_call (ok_less_of t) (hr.mono (by decide)) t.g_less_of (ja_v (jd_pl (jp_ix (jp_name (pv 7)) (jd_var (pv 6)))) (ja_v (jd_pl (jp_ix (jp_name (pv 8)) (jd_var (pv 9)))) ja_nil))))
    (jss_one (js_if (jt_cmp o_gt.d (jd_ix (jd_var (pv 10)) jd_int) jd_int) (jss_cons (js_asg (je_call (ok_plus t) (hr.mono (by decide)) t.g_plus (ja_v (jd_pl (jp_ix (jp_ix (jp_name (pv 5)) (jd_var (pv 6))) (jd_var (pv 9)))) (ja_v (jd_var (pv 10)) ja_nil))) (jg_ix (jp_ix (jp_name (pv 5)) (jd_var (pv 6))) (jd_var (pv 9))))
    (jss_one (js_asg (je_tup (jae_cons (je_call (ok_minus t) (hr.mono (by decide)) t.g_minus (ja_v (jd_pl (jp_ix (jp_name (pv 7)) (jd_var (pv 6)))) (ja_v (jd_var (pv 10)) ja_nil))) (jae_cons (je_call (ok_minus t) (hr.mono (by decide)) t.g_minus (ja_v (jd_pl (jp_ix (jp_name (pv 8)) (jd_var (pv 9)))) (ja_v (jd_var (pv 10)) ja_nil))) jae_nil))) (jg_t2 rfl (jg_ix (jp_name (pv 7)) (jd_var (pv 6))) (jg_ix (jp_name (pv 8)) (jd_var (pv 9))))))) jss_nil))))))
    (jss_one (js_ret (je_d (jd_callTy b_tuple t.n_tuple (jad_cons (jd_e (je_lc (own := [("row", 13)]) rfl sc_drawn_together.nd (ji_seq (jd_var (pv 5))) (blkOk_by (by kernel_rfl)) (fun _ _ _ _ _ => (jg_name sc_drawn_together.nd)) (fun _ _ _ _ _ => jpt_nil) (fun _ _ _ _ _ => (je_d (jd_callTy b_tuple t.n_tuple (jad_cons (jd_var (pv 13)) jad_nil)))))) jad_nil)))))))))))))
end
end Lw

/-! K77W_is_joint -/
set_option Elab.async false
set_option linter.all false
set_option maxRecDepth 100000
set_option maxHeartbeats 4000000
namespace Lw
open PySem PySem.Spec PyProof.Rows L2 Fw
section
variable {P : Program} {w : World} {K : PySem.W.Frag} {mg : Str → Option Value} {base : Heap}
/-! is_joint -/
def q_is_joint_1 : M T := mLc [4] (mSq (mVar 2)) (gNm 4) (mRet true) (mT (mOp oIx (mVar 4) (mVar 6)))
def q_is_joint_2 : M T := mLc [6] (mIt rng1 (mCons (mVar 3) (mRet []))) (gNm 6) (mRet true) (mCallF f_total [none] (mCons (mT (mF q_is_joint_1)) (mRet [])))
def q_is_joint_3 : M T := mLc [4] (mSq (mVar 2)) (gNm 4) (mRet true) (mCallF f_total [none] (mCons (mT (mVar 4)) (mRet [])))
def q_is_joint_4 : M T := mLc2 [4, 5] [5] (mSq (mVar 2)) (gNm 4) (mRet true) (mSq (mVar 4)) (gNm 5) (mRet true) (mT (mOp oLt (mOp oIx (mVar 5) (mRet (.int 0))) (mRet (.int 0))))
def q_is_joint_5 : M T := mLc [5] (mSq (mVar 4)) (gNm 5) (mRet true) (mCallF f_is_fraction [none] (mCons (mT (mVar 5)) (mRet [])))
def l_is_joint_1 : MS := (mIfS (mOrT (mNotT (mB (mUn (oIsi "tuple") (mVar 4)))) (mOrT (mB (mOp oNe (mCall bLen (mCons (mVar 4) (mRet []))) (mVar 3))) (mNotT (mB (mCall bAll (mCons (mF q_is_joint_5) (mRet []))))))) (mRetT (mT (mRet (.bl false)))) mNx)
def b_is_joint : MS := (mSeq (mAsg (mT (mCall bLen (mCons (mVar 0) (mRet [])))) (gNm 3))
    (mSeq (mIfS (mOrT (mNotT (mB (mUn (oIsi "tuple") (mVar 2)))) (mB (mOp oNe (mCall bLen (mCons (mVar 2) (mRet []))) (mVar 3)))) (mRetT (mT (mRet (.bl false)))) mNx)
    (mSeq (mFor (mSq (mVar 2)) (gNm 4) l_is_joint_1)
    (mSeq (mIfS (mB (mCall bAny (mCons (mF q_is_joint_4) (mRet [])))) (mRetT (mT (mRet (.bl false)))) mNx)
    (mSeq (mIfS (mB (mOp oNe (mF q_is_joint_3) (mF (mCallT bList (mCons (mVar 0) (mRet [])))))) (mRetT (mT (mRet (.bl false)))) mNx)
    (mRetT (mT (mOp oEq (mF q_is_joint_2) (mF (mCallT bList (mCons (mVar 1) (mRet []))))))))))))
def f_is_joint : Fn := mkFn 3 7 [3, 4] (b_is_joint)
theorem ok_is_joint (t : Top P w K mg base) : FnT P w K mg base (He.fAd K d_is_joint.at_) 5 ["mine", "theirs", "thing"] (f_is_joint) := by
  obtain ⟨fd, F, B⟩ := t.b_is_joint
  exact fnT_of (k := 4) (np := 3) (nn := 7) (W := [3, 4]) (body := b_is_joint) F sc_is_joint B fun cdv A outer s H E hr => (jss_cons (js_set sc_is_joint.nd (je_d (jd_callB b_len t.n_len (jad_cons (jd_var (pv 0)) jad_nil))))
    (jss_cons (js_if (jt_w (jw_or (jt_not (jt_val (jd_isi t.n_isinstance t.n_tuple (jd_var (pv 2))))) (jw_or1 (jt_cmp (o_ne hr.units).d (jd_callB b_len t.n_len (jad_cons (jd_var (pv 2)) jad_nil)) (jd_var (pv 3)))))) (jss_one (js_ret (je_d jd_bl))) jss_nil)
    (jss_cons (js_for PassesOwn.never rfl (ji_seq (jd_var (pv 2))) (jg_name sc_is_joint.nd) (jss_one (js_if (jt_w (jw_or (jt_not (jt_val (jd_isi t.n_isinstance t.n_tuple (jd_var (pv 4))))) (jw_or (jt_cmp (o_ne hr.units).d (jd_callB b_len t.n_len (jad_cons (jd_var (pv 4)) jad_nil)) (jd_var (pv 3))) (jw_or1 (jt_not (jt_val (jd_callB (b_all rfl) t.n_all (jad_cons (jd_e (je_lc (own := [("part", 5)]) rfl sc_is_joint.nd (ji_seq (jd_var (pv 4))) (blkOk_by (by kernel_rfl)) (fun _ _ _ _ _ => (jg_name sc_is_joint.nd)) (fun _ _ _ _ _ => jpt_nil) (fun _ _ _ _ _ => (je_call (ok_is_fraction t) (hr.mono (by decide)) t.g_is_fraction (ja_v (jd_var (pv 5)) ja_nil))))) jad_nil)))))))) (jss_one (js_ret (je_d jd_bl))) jss_nil)))
    (jss_cons (js_if (jt_val (jd_callB (b_any rfl) t.n_any (jad_cons (jd_e (je_lc2 (own := [("row", 4), ("part", 5)]) (vs1 := [5]) rfl sc_is_joint.nd (ji_seq (jd_var (pv 2))) (blkOk_by (by kernel_rfl)) (fun _ _ _ _ _ => (jg_name sc_is_joint.nd)) (fun _ _ _ _ _ => jpt_nil) (fun _ _ _ _ _ => (ji_seq (jd_var (pv 4)))) (fun _ _ _ _ _ => (jg_name sc_is_joint.nd)) (fun _ _ _ _ _ => jpt_nil) (fun _ _ _ _ _ => (je_d (jd_cmp o_lt.d (jd_ix (jd_var (pv 5)) jd_int) jd_int))))) jad_nil))) (jss_one (js_ret (je_d jd_bl))) jss_nil)
    (jss_cons (js_if (jt_cmp (o_ne hr.units).d (jd_e (je_lc (own := [("row", 4)]) rfl sc_is_joint.nd (ji_seq (jd_var (pv 2))) (blkOk_by (by kernel_rfl)) (fun _ _ _ _ _ => (jg_name sc_is_joint.nd)) (fun _ _ _ _ _ => jpt_nil) (fun _ _ _ _ _ => (je_call (ok_total t) (hr.mono (by decide)) t.g_total (ja_v (jd_var (pv 4)) ja_nil))))) (jd_e (je_list t.n_list (jad_cons (jd_var (pv 0)) jad_nil)))) (jss_one (js_ret (je_d jd_bl))) jss_nil)
    (jss_one (js_ret (je_d (jd_cmp (o_eq hr.units).d (jd_e (je_lc (own := [("end", 6)]) rfl sc_is_joint.nd (ji_range1 t.n_range (jad_cons (jd_var (pv 3)) jad_nil)) (blkOk_by (by kernel_rfl)) (fun _ _ _ _ _ => (jg_name sc_is_joint.nd)) (fun _ _ _ _ _ => jpt_nil) (fun _ _ _ _ _ => (je_call (ok_total t) (hr.mono (by decide)) t.g_total (ja_v (jd_e (je_lc (own := [("row", 4)]) rfl sc_is_joint.nd (ji_seq (jd_var (pv 2))) (blkOk_by (by kernel_rfl)) (fun _ _ _ _ _ => (jg_name sc_is_joint.nd)) (fun _ _ _ _ _ => jpt_nil) (fun _ _ _ _ _ => (je_d (jd_ix (jd_var (pv 4)) (jd_var (pv 6))))))) ja_nil))))) (jd_e (je_list t.n_list (jad_cons (jd_var (pv 1)) jad_nil))))))))))))
end
end Lw

/-! K77W_is_drawn_together -/
set_option Elab.async false
set_option linter.all false
set_option maxRecDepth 100000
set_option maxHeartbeats 4000000
namespace Lw
open PySem PySem.Spec PyProof.Rows L2 Fw
section
variable {P : Program} {w : World} {K : PySem.W.Frag} {mg : Str → Option Value} {base : Heap}
/-! is_drawn_together -/
def q_is_drawn_together_1 (K : PySem.W.Frag) : M T := mLc [5, 6] (mIt enF (mCons (mVar 2) (mRet []))) (gTupM (gCons (gNm 5) (gCons (gNm 6) gNil))) (mRet true) (mT (mOp oIx (mVar 6) (mVar 5)))
def b_is_drawn_together (K : PySem.W.Frag) : MS := (mSeq (mExp (mF (mCallF f_need_pair [none, none] (mCons (mT (mVar 0)) (mCons (mT (mVar 1)) (mRet []))))))
    (mSeq (mPar 3 4 (mCons (mCallF (f_whole_masses K) [none] (mCons (mT (mVar 0)) (mRet []))) (mCons (mCallF (f_whole_masses K) [none] (mCons (mT (mVar 1)) (mRet []))) (mRet []))))
    (mSeq (mIfS (mNotT (mB (mF (mCallF f_is_joint [none, none, none] (mCons (mT (mVar 3)) (mCons (mT (mVar 4)) (mCons (mT (mVar 2)) (mRet [])))))))) (mRetT (mT (mRet (.bl false)))) mNx)
    (mRetT (mT (mOp oEq (mF (mCallF f_minus [none, none] (mCons (mT (mRet c_ONE)) (mCons (mT (mF (mCallF f_total [none] (mCons (mT (mF (q_is_drawn_together_1 K))) (mRet []))))) (mRet []))))) (mF (mCallF f_distance_of [none, none] (mCons (mT (mVar 3)) (mCons (mT (mVar 4)) (mRet [])))))))))))
def f_is_drawn_together (K : PySem.W.Frag) : Fn := mkFn 3 7 [3, 4] (b_is_drawn_together K)
theorem ok_is_drawn_together (t : Top P w K mg base) : FnT P w K mg base (He.fAd K d_is_drawn_together.at_) 34 ["one", "other", "thing"] (f_is_drawn_together K) := by
  obtain ⟨fd, F, B⟩ := t.b_is_drawn_together
  exact fnT_of (k := 33) (np := 3) (nn := 7) (W := [3, 4]) (body := b_is_drawn_together K) F sc_is_drawn_together B fun cdv A outer s H E hr => (jss_cons (js_expr (jd_e (je_call (ok_need_pair t) (hr.mono (by decide)) t.g_need_pair (ja_v (jd_var (pv 0)) (ja_v (jd_var (pv 1)) ja_nil)))))
    (jss_cons (js_par rfl sc_is_drawn_together.nd (jae_cons (je_call (ok_whole_masses t) (hr.mono (by decide)) t.g_whole_masses (ja_v (jd_var (pv 0)) ja_nil)) (jae_cons (je_call (ok_whole_masses t) (hr.mono (by decide)) t.g_whole_masses (ja_v (jd_var (pv 1)) ja_nil)) jae_nil)))
    (jss_cons (js_if (jt_not (jt_val (jd_e (je_call (ok_is_joint t) (hr.mono (by decide)) t.g_is_joint (ja_v (jd_var (pv 3)) (ja_v (jd_var (pv 4)) (ja_v (jd_var (pv 2)) ja_nil))))))) (jss_one (js_ret (je_d jd_bl))) jss_nil)
    (jss_one (js_ret (je_d (jd_cmp (o_eq hr.units).d (jd_e (je_call (ok_minus t) (hr.mono (by decide)) t.g_minus (ja_v (jd_globx (t.c_ONE)) (ja_v (jd_e (je_call (ok_total t) (hr.mono (by decide)) t.g_total (ja_v (jd_e (je_lc (own := [("end", 5), ("row", 6)]) rfl sc_is_drawn_together.nd (ji_enum t.n_enumerate (jad_cons (jd_var (pv 2)) jad_nil)) (blkOk_by (by kernel_rfl)) (fun _ _ _ _ _ => (jg_t2 rfl (jg_name sc_is_drawn_together.nd) (jg_name sc_is_drawn_together.nd))) (fun _ _ _ _ _ => jpt_nil) (fun _ _ _ _ _ => (je_d (jd_ix (jd_var (pv 6)) (jd_var (pv 5))))))) ja_nil))) ja_nil)))) (jd_e (je_call (ok_distance_of t) (hr.mono (by decide)) t.g_distance_of (ja_v (jd_var (pv 3)) (ja_v (jd_var (pv 4)) ja_nil)))))))))))
end
end Lw

/-! K77W_law_hand -/
set_option Elab.async false
set_option linter.all false
set_option maxRecDepth 100000
set_option maxHeartbeats 4000000
namespace Lw
open PySem PySem.Spec PyProof.Rows L2 Fw
section
variable {P : Program} {w : World} {K : PySem.W.Frag} {mg : Str → Option Value} {base : Heap}
/-! _law_hand -/
def q_law_hand_1 : M T := mLc [2] (mSq (mF (mSl (mVar 0) mPartN (mPart (mRet (.int 63))) slO))) (gNm 2) (mRet true) (mT (mCall bAbs (mCons (mCall bInt (mCons (mVar 2) (mRet []))) (mRet []))))
def b_law_hand : MS := (mSeq (mAsg q_law_hand_1 (gNm 1))
    (mRetT (mLst (mCons (mT (mVar 1)) (mCons (mT (mRet (.int 0))) (mCons (mT (mRet (.int 0))) (mCons (mOpT oAdd (mRet (.int 31)) (mF (mOpT oMul (mRet (.int 7)) (mCall bLen (mCons (mVar 1) (mRet [])))))) (mCons (mT (mRet (.int 0))) (mRet [])))))))))
def f_law_hand : Fn := mkFn 1 3 [1] (b_law_hand)
theorem ok_law_hand (t : Top P w K mg base) : FnT P w K mg base (He.fAd K d_law_hand.at_) 1 ["script"] (f_law_hand) := by
  obtain ⟨fd, F, B⟩ := t.b_law_hand
  exact fnT_of (k := 0) (np := 1) (nn := 3) (W := [1]) (body := b_law_hand) F sc_law_hand B fun cdv A outer s H E hr => (jss_cons (js_setLc (own := [("cell", 2)]) rfl sc_law_hand.nd (ji_seq (jd_e (je_sl (jd_var (pv 0)) jo_none (jo_some jd_int)))) (blkOk_by (by kernel_rfl)) (fun _ _ _ _ _ => (jg_name sc_law_hand.nd)) (fun _ _ _ _ _ => jpt_nil) (fun _ _ _ _ _ => (je_d (jd_callB b_abs t.n_abs (jad_cons (jd_callTy b_int t.n_int (jad_cons (jd_var (pv 2)) jad_nil)) jad_nil)))))
    (jss_one (js_ret (je_lst (jae_cons (je_d (jd_var (pv 1))) (jae_cons (je_d jd_int) (jae_cons (je_d jd_int) (jae_cons (je_add jd_int (jd_e (je_mul jd_int (jd_callB b_len t.n_len (jad_cons (jd_var (pv 1)) jad_nil))))) (jae_cons (je_d jd_int) jae_nil)))))))))
end
end Lw

/-! K77W_law_draw -/
set_option Elab.async false
set_option linter.all false
set_option maxRecDepth 100000
set_option maxHeartbeats 4000000
namespace Lw
open PySem PySem.Spec PyProof.Rows L2 Fw
section
variable {P : Program} {w : World} {K : PySem.W.Frag} {mg : Str → Option Value} {base : Heap}
/-! _law_draw -/
def b_law_draw : MS := (mSeq (mIfS (mAndT (mB (mOp oEq (mPl (pIx (pNm 0) (mRet (.int 2)))) (mRet (.int 0)))) (mB (mOp oLt (mPl (pIx (pNm 0) (mRet (.int 1)))) (mCall bLen (mCons (mPl (pIx (pNm 0) (mRet (.int 0)))) (mRet [])))))) (mSeq (mAsg (mT (mOp oIx (mPl (pIx (pNm 0) (mRet (.int 0)))) (mPl (pIx (pNm 0) (mRet (.int 1)))))) (gNm 2))
    (mSeq (mAsg (mOpT oAdd (mPl (pIx (pNm 0) (mRet (.int 1)))) (mRet (.int 1))) (gIx (pNm 0) (mRet (.int 1))))
    (mSeq (mAsg (mT (mOp oMod (mCall bInt (mCons (mF (mOpT oAdd (mF (mOpT oAdd (mF (mOpT oMul (mPl (pIx (pNm 0) (mRet (.int 3)))) (mRet (.int 48271)))) (mVar 2))) (mRet (.int 11)))) (mRet []))) (mRet (.int 2147483647)))) (gIx (pNm 0) (mRet (.int 3))))
    (mIfS (mB (mOp oGe (mVar 2) (mOp oPow (mRet (.int 10)) (mRet (.int 18))))) (mAsg (mT (mVar 2)) (gIx (pNm 0) (mRet (.int 2)))) mNx)))) mNx)
    (mSeq (mIfS (mB (mOp oGt (mPl (pIx (pNm 0) (mRet (.int 2)))) (mRet (.int 0)))) (mSeq (mAsg (mT (mOp oMod (mCall bInt (mCons (mPl (pIx (pNm 0) (mRet (.int 2)))) (mRet []))) (mVar 1))) (gNm 3))
    (mSeq (mAsg (mT (mOp oDiv (mPl (pIx (pNm 0) (mRet (.int 2)))) (mVar 1))) (gIx (pNm 0) (mRet (.int 2))))
    (mRetT (mMv 3)))) mNx)
    (mSeq (mAsg (mOpT oAdd (mPl (pIx (pNm 0) (mRet (.int 4)))) (mRet (.int 1))) (gIx (pNm 0) (mRet (.int 4))))
    (mSeq (mAsg (mT (mOp oMod (mCall bInt (mCons (mF (mOpT oMul (mCall bInt (mCons (mF (mOpT oAdd (mPl (pIx (pNm 0) (mRet (.int 3)))) (mF (mOpT oMul (mRet (.int 6007)) (mPl (pIx (pNm 0) (mRet (.int 4)))))))) (mRet []))) (mRet (.int 69621)))) (mRet []))) (mRet (.int 2147483629)))) (gNm 4))
    (mSeq (mAsg (mT (mOp oMod (mCall bInt (mCons (mF (mOpT oMul (mVar 4) (mF (mOpT oAdd (mOp oDiv (mVar 4) (mRet (.int 1013))) (mRet (.int 48271)))))) (mRet []))) (mRet (.int 2147483647)))) (gNm 4))
    (mSeq (mAsg (mT (mOp oMod (mCall bInt (mCons (mF (mOpT oMul (mVar 4) (mF (mOpT oAdd (mOp oDiv (mVar 4) (mRet (.int 2011))) (mRet (.int 16807)))))) (mRet []))) (mRet (.int 2147483587)))) (gNm 4))
    (mRetT (mT (mOp oMod (mCall bInt (mCons (mOp oDiv (mVar 4) (mRet (.int 32))) (mRet []))) (mVar 1))))))))))
def f_law_draw : Fn := mkFn 2 5 [2, 3, 4] (b_law_draw)
theorem ok_law_draw (t : Top P w K mg base) : FnT P w K mg base (He.fAd K d_law_draw.at_) 1 ["hand", "many"] (f_law_draw) := by
  obtain ⟨fd, F, B⟩ := t.b_law_draw
  exact fnT_of (k := 0) (np := 2) (nn := 5) (W := [2, 3, 4]) (body := b_law_draw) F sc_law_draw B fun cdv A outer s H E hr => (jss_cons (js_if (jt_w (jw_and (jt_cmp (o_eq hr.units).d (jd_pl (jp_ix (jp_name (pv 0)) jd_int)) jd_int) (jw_and1 (jt_cmp o_lt.d (jd_pl (jp_ix (jp_name (pv 0)) jd_int)) (jd_callB b_len t.n_len (jad_cons (jd_pl (jp_ix (jp_name (pv 0)) jd_int)) jad_nil)))))) (jss_cons (js_set sc_law_draw.nd (je_d (jd_ix (jd_pl (jp_ix (jp_name (pv 0)) jd_int)) (jd_pl (jp_ix (jp_name (pv 0)) jd_int)))))
    (jss_cons (js_asg (je_add (jd_pl (jp_ix (jp_name (pv 0)) jd_int)) jd_int) (jg_ix (jp_name (pv 0)) jd_int))
    (jss_cons (js_asg (je_d (jd_op o_mod.d (jd_callTy b_int t.n_int (jad_cons (jd_e (je_add (jd_e (je_add (jd_e (je_mul (jd_pl (jp_ix (jp_name (pv 0)) jd_int)) jd_int)) (jd_var (pv 2)))) jd_int)) jad_nil)) jd_int)) (jg_ix (jp_name (pv 0)) jd_int))
    (jss_one (js_if (jt_cmp o_ge.d (jd_var (pv 2)) (jd_op o_pow.d jd_int jd_int)) (jss_one (js_asg (je_d (jd_var (pv 2))) (jg_ix (jp_name (pv 0)) jd_int))) jss_nil))))) jss_nil)
    (jss_cons (js_if (jt_cmp o_gt.d (jd_pl (jp_ix (jp_name (pv 0)) jd_int)) jd_int) (jss_cons (js_set sc_law_draw.nd (je_d (jd_op o_mod.d (jd_callTy b_int t.n_int (jad_cons (jd_pl (jp_ix (jp_name (pv 0)) jd_int)) jad_nil)) (jd_var (pv 1)))))
    (jss_cons (js_asg (je_d (jd_op o_div.d (jd_pl (jp_ix (jp_name (pv 0)) jd_int)) (jd_var (pv 1)))) (jg_ix (jp_name (pv 0)) jd_int))
    (jss_one (js_ret (je_mv (pv 3)))))) jss_nil)
    (jss_cons (js_asg (je_add (jd_pl (jp_ix (jp_name (pv 0)) jd_int)) jd_int) (jg_ix (jp_name (pv 0)) jd_int))
    (jss_cons (js_set sc_law_draw.nd (je_d (jd_op o_mod.d (jd_callTy b_int t.n_int (jad_cons (jd_e (je_mul (jd_callTy b_int t.n_int (jad_cons (jd_e (je_add (jd_pl (jp_ix (jp_name (pv 0)) jd_int)) (jd_e (je_mul jd_int (jd_pl (jp_ix (jp_name (pv 0)) jd_int)))))) jad_nil)) jd_int)) jad_nil)) jd_int)))
    (jss_cons (js_set sc_law_draw.nd (je_d (jd_op o_mod.d (jd_callTy b_int t.n_int (jad_cons (jd_e (je_mul (jd_var (pv 4)) (jd_e (je_add (jd_op o_div.d (jd_var (pv 4)) jd_int) jd_int)))) jad_nil)) jd_int)))
    (jss_cons (js_set sc_law_draw.nd (je_d (jd_op o_mod.d (jd_callTy b_int t.n_int (jad_cons (jd_e (je_mul (jd_var (pv 4)) (jd_e (je_add (jd_op o_div.d (jd_var (pv 4)) jd_int) jd_int)))) jad_nil)) jd_int)))
    (jss_one (js_ret (je_d (jd_op o_mod.d (jd_callTy b_int t.n_int (jad_cons (jd_op o_div.d (jd_var (pv 4)) jd_int) jad_nil)) (jd_var (pv 1))))))))))))
end
end Lw

/-! K77W_law_some -/
set_option Elab.async false
set_option linter.all false
set_option maxRecDepth 100000
set_option maxHeartbeats 4000000
namespace Lw
open PySem PySem.Spec PyProof.Rows L2 Fw
section
variable {P : Program} {w : World} {K : PySem.W.Frag} {mg : Str → Option Value} {base : Heap}
/-! _law_some -/
def b_law_some : MS := (mRetT (mT (mOp oIx (mVar 1) (mF (mCallF f_law_draw [some 0, none] (mCons (mMv 0) (mCons (mT (mCall bLen (mCons (mVar 1) (mRet [])))) (mRet []))))))))
def f_law_some : Fn := mkFn 2 2 [] (b_law_some)
theorem ok_law_some (t : Top P w K mg base) : FnT P w K mg base (He.fAd K d_law_some.at_) 2 ["hand", "things"] (f_law_some) := by
  obtain ⟨fd, F, B⟩ := t.b_law_some
  exact fnT_of (k := 1) (np := 2) (nn := 2) (W := []) (body := b_law_some) F sc_law_some B fun cdv A outer s H E hr => (jss_one (js_ret (je_d (jd_ix (jd_var (pv 1)) (jd_e (je_call (ok_law_draw t) (hr.mono (by decide)) t.g__law_draw (ja_b (pv 0) (ja_v (jd_callB b_len t.n_len (jad_cons (jd_var (pv 1)) jad_nil)) ja_nil))))))))
end
end Lw

/-! K77W_law_kept -/
set_option Elab.async false
set_option linter.all false
set_option maxRecDepth 100000
set_option maxHeartbeats 4000000
namespace Lw
open PySem PySem.Spec PyProof.Rows L2 Fw
section
variable {P : Program} {w : World} {K : PySem.W.Frag} {mg : Str → Option Value} {base : Heap}
/-! _law_kept -/
def q_law_kept_1 (r_law_kept : Fn) : M T := mLc [2] (mIt rng1 (mCons (mCall bLen (mCons (mVar 1) (mRet []))) (mRet []))) (gNm 2) (mRet true) (mCallF r_law_kept [none, none] (mCons (mT (mOp oIx (mVar 0) (mVar 2))) (mCons (mT (mOp oIx (mVar 1) (mVar 2))) (mRet []))))
def b_law_kept (r_law_kept : Fn) : MS := (mSeq (mIfS (mOrT (mB (mUn (oIsi "tuple") (mVar 1))) (mB (mUn (oIsi "list") (mVar 1)))) (mSeq (mIfS (mOrT (mB (mOp oNe (mUn (oIsi "tuple") (mVar 0)) (mUn (oIsi "tuple") (mVar 1)))) (mB (mOp oNe (mUn (oIsi "list") (mVar 0)) (mUn (oIsi "list") (mVar 1))))) (mRetT (mT (mRet (.bl false)))) mNx)
    (mRetT (mT (mAndV (mOp oEq (mCall bLen (mCons (mVar 0) (mRet []))) (mCall bLen (mCons (mVar 1) (mRet [])))) (mCall bAll (mCons (mF (q_law_kept_1 r_law_kept)) (mRet []))))))) mNx)
    (mSeq (mIfS (mB (mOp oIs (mVar 1) (mRet .non))) (mRetT (mT (mOp oIs (mVar 0) (mRet .non)))) mNx)
    (mSeq (mIfS (mB (mUn (oIsi "bool") (mVar 1))) (mRetT (mT (mIf (mB (mVar 1)) (mOp oIs (mVar 0) (mRet (.bl true))) (mOp oIs (mVar 0) (mRet (.bl false)))))) mNx)
    (mSeq (mIfS (mB (mUn (oIsi "int") (mVar 1))) (mRetT (mT (mAndV (mUn (oIsi "int") (mVar 0)) (mAndV (mNotV (mUn (oIsi "bool") (mVar 0))) (mOp oEq (mVar 0) (mVar 1)))))) mNx)
    (mRetT (mT (mAndV (mUn (oIsi "str") (mVar 0)) (mOp oEq (mVar 0) (mVar 1)))))))))
def f_law_kept : Nat → Fn
  | 0 => fun _ => none
  | n + 1 => mkFn 2 3 [] (b_law_kept (f_law_kept n))
theorem ok_law_kept (t : Top P w K mg base) : ∀ n, FnT P w K mg base (He.fAd K d_law_kept.at_) (0 + n) ["told", "due"] (f_law_kept n)
  | 0 => by
    obtain ⟨fd_law_kept, F_law_kept, B_law_kept⟩ := t.b_law_kept
    exact FnT.none F_law_kept.kp ⟨fd_law_kept, B_law_kept⟩
  | n + 1 => by
    obtain ⟨fd_law_kept, F_law_kept, B_law_kept⟩ := t.b_law_kept
    have ih := ok_law_kept t n
    have ih_law_kept := ih
    exact fnT_of (k := 0 + n) (np := 2) (nn := 3) (W := []) (body := b_law_kept (f_law_kept n)) F_law_kept sc_law_kept B_law_kept fun cdv A outer s H E hr => (jss_cons (js_if (jt_w (jw_or (jt_val (jd_isi t.n_isinstance t.n_tuple (jd_var (pv 1)))) (jw_or1 (jt_val (jd_isi t.n_isinstance t.n_list (jd_var (pv 1))))))) (jss_cons (js_if (jt_w (jw_or (jt_cmp (o_ne hr.units).d (jd_isi t.n_isinstance t.n_tuple (jd_var (pv 0))) (jd_isi t.n_isinstance t.n_tuple (jd_var (pv 1)))) (jw_or1 (jt_cmp (o_ne hr.units).d (jd_isi t.n_isinstance t.n_list (jd_var (pv 0))) (jd_isi t.n_isinstance t.n_list (jd_var (pv 1))))))) (jss_one (js_ret (je_d jd_bl))) jss_nil)
    (jss_one (js_ret (je_d (jd_and (jd_cmp (o_eq hr.units).d (jd_callB b_len t.n_len (jad_cons (jd_var (pv 0)) jad_nil)) (jd_callB b_len t.n_len (jad_cons (jd_var (pv 1)) jad_nil))) (jd_one (jd_callB (b_all rfl) t.n_all (jad_cons (jd_e (je_lc (own := [("at", 2)]) rfl sc_law_kept.nd (ji_range1 t.n_range (jad_cons (jd_callB b_len t.n_len (jad_cons (jd_var (pv 1)) jad_nil)) jad_nil)) (blkOk_by (by kernel_rfl)) (fun _ _ _ _ _ => (jg_name sc_law_kept.nd)) (fun _ _ _ _ _ => jpt_nil) (fun _ _ _ _ _ => (je_call ih_law_kept (hr.mono (by omega)) t.g__law_kept (ja_v (jd_ix (jd_var (pv 0)) (jd_var (pv 2))) (ja_v (jd_ix (jd_var (pv 1)) (jd_var (pv 2))) ja_nil)))))) jad_nil)))))))) jss_nil)
    (jss_cons (js_if (jt_cmp o_is.d (jd_var (pv 1)) jd_non) (jss_one (js_ret (je_d (jd_cmp o_is.d (jd_var (pv 0)) jd_non)))) jss_nil)
    (jss_cons (js_if (jt_val (jd_isi t.n_isinstance t.n_bool (jd_var (pv 1)))) (jss_one (js_ret (je_d (jd_if (jt_val (jd_var (pv 1))) (jd_cmp o_is.d (jd_var (pv 0)) jd_bl) (jd_cmp o_is.d (jd_var (pv 0)) jd_bl))))) jss_nil)
    (jss_cons (js_if (jt_val (jd_isi t.n_isinstance t.n_int (jd_var (pv 1)))) (jss_one (js_ret (je_d (jd_and (jd_isi t.n_isinstance t.n_int (jd_var (pv 0))) (jd_and (jd_not (jd_isi t.n_isinstance t.n_bool (jd_var (pv 0)))) (jd_one (jd_cmp (o_eq hr.units).d (jd_var (pv 0)) (jd_var (pv 1))))))))) jss_nil)
    (jss_one (js_ret (je_d (jd_and (jd_isi t.n_isinstance t.n_str (jd_var (pv 0))) (jd_one (jd_cmp (o_eq hr.units).d (jd_var (pv 0)) (jd_var (pv 1))))))))))))
end
end Lw

/-! K77W_law_saying -/
set_option Elab.async false
set_option linter.all false
set_option maxRecDepth 100000
set_option maxHeartbeats 4000000
namespace Lw
open PySem PySem.Spec PyProof.Rows L2 Fw
section
variable {P : Program} {w : World} {K : PySem.W.Frag} {mg : Str → Option Value} {base : Heap}
/-! _law_saying -/
def b_law_saying (r_law_saying : Fn) : MS := (mSeq (mAsg (mCallF f_law_draw [some 0, none] (mCons (mMv 0) (mCons (mT (mRet (.int 9))) (mRet [])))) (gNm 3))
    (mSeq (mIfS (mOrT (mB (mOp oLt (mVar 2) (mRet (.int 2)))) (mB (mOp oLt (mVar 3) (mRet (.int 2))))) (mRetT (mT (mIf (mB (mOp oGt (mF (mCallF f_law_draw [some 0, none] (mCons (mMv 0) (mCons (mT (mRet (.int 9))) (mRet []))))) (mRet (.int 0)))) (mTup (mCons (mRet (.str "letter")) (mCons (mF (mCallF f_law_draw [some 0, none] (mCons (mMv 0) (mCons (mT (mVar 1)) (mRet []))))) (mRet [])))) (mTup (mCons (mF (mCallF f_law_some [some 0, none] (mCons (mMv 0) (mCons (mT (mF (mLst (mCons (mT (mRet (.str "true"))) (mCons (mT (mRet (.str "false"))) (mRet [])))))) (mRet []))))) (mRet [])))))) mNx)
    (mSeq (mIfS (mB (mOp oEq (mVar 3) (mRet (.int 2)))) (mRetT (mT (mTup (mCons (mRet (.str "not")) (mCons (mF (mCallF r_law_saying [some 0, none, none] (mCons (mMv 0) (mCons (mT (mVar 1)) (mCons (mT (mOp oSub (mVar 2) (mRet (.int 1)))) (mRet [])))))) (mRet [])))))) mNx)
    (mSeq (mAsg (mCallF f_law_some [some 0, none] (mCons (mMv 0) (mCons (mT (mF (mLst (mCons (mT (mRet (.str "and"))) (mCons (mT (mRet (.str "or"))) (mCons (mT (mRet (.str "then"))) (mCons (mT (mRet (.str "same"))) (mCons (mT (mRet (.str "and"))) (mCons (mT (mRet (.str "or"))) (mRet [])))))))))) (mRet [])))) (gNm 4))
    (mRetT (mT (mTup (mCons (mVar 4) (mCons (mF (mCallF r_law_saying [some 0, none, none] (mCons (mMv 0) (mCons (mT (mVar 1)) (mCons (mT (mOp oSub (mVar 2) (mRet (.int 1)))) (mRet [])))))) (mCons (mF (mCallF r_law_saying [some 0, none, none] (mCons (mMv 0) (mCons (mT (mVar 1)) (mCons (mT (mOp oSub (mVar 2) (mRet (.int 1)))) (mRet [])))))) (mRet [])))))))))))
def f_law_saying : Nat → Fn
  | 0 => fun _ => none
  | n + 1 => mkFn 3 5 [3, 4] (b_law_saying (f_law_saying n))
theorem ok_law_saying (t : Top P w K mg base) : ∀ n, FnT P w K mg base (He.fAd K d_law_saying.at_) (2 + n) ["hand", "letters", "depth"] (f_law_saying n)
  | 0 => by
    obtain ⟨fd_law_saying, F_law_saying, B_law_saying⟩ := t.b_law_saying
    exact FnT.none F_law_saying.kp ⟨fd_law_saying, B_law_saying⟩
  | n + 1 => by
    obtain ⟨fd_law_saying, F_law_saying, B_law_saying⟩ := t.b_law_saying
    have ih := ok_law_saying t n
    have ih_law_saying := ih
    exact fnT_of (k := 2 + n) (np := 3) (nn := 5) (W := [3, 4]) (body := b_law_saying (f_law_saying n)) F_law_saying sc_law_saying B_law_saying fun cdv A outer s H E hr => (jss_cons (js_set sc_law_saying.nd (je_call (ok_law_draw t) (hr.mono (by omega)) t.g__law_draw (ja_b (pv 0) (ja_v jd_int ja_nil))))
    (jss_cons (js_if (jt_w (jw_or (jt_cmp o_lt.d (jd_var (pv 2)) jd_int) (jw_or1 (jt_cmp o_lt.d (jd_var (pv 3)) jd_int)))) (jss_one (js_ret (je_d (jd_if (jt_cmp o_gt.d (jd_e (je_call (ok_law_draw t) (hr.mono (by omega)) t.g__law_draw (ja_b (pv 0) (ja_v jd_int ja_nil)))) jd_int) (jd_tup (jad_cons jd_str (jad_cons (jd_e (je_call (ok_law_draw t) (hr.mono (by omega)) t.g__law_draw (ja_b (pv 0) (ja_v (jd_var (pv 1)) ja_nil)))) jad_nil))) (jd_tup (jad_cons (jd_e (je_call (ok_law_some t) (hr.mono (by omega)) t.g__law_some (ja_b (pv 0) (ja_v (jd_e (je_lst (jae_cons (je_d jd_str) (jae_cons (je_d jd_str) jae_nil)))) ja_nil)))) jad_nil)))))) jss_nil)
    (jss_cons (js_if (jt_cmp (o_eq hr.units).d (jd_var (pv 3)) jd_int) (jss_one (js_ret (je_d (jd_tup (jad_cons jd_str (jad_cons (jd_e (je_call ih_law_saying (hr.mono (by omega)) t.g__law_saying (ja_b (pv 0) (ja_v (jd_var (pv 1)) (ja_v (jd_op o_sub.d (jd_var (pv 2)) jd_int) ja_nil))))) jad_nil)))))) jss_nil)
    (jss_cons (js_set sc_law_saying.nd (je_call (ok_law_some t) (hr.mono (by omega)) t.g__law_some (ja_b (pv 0) (ja_v (jd_e (je_lst (jae_cons (je_d jd_str) (jae_cons (je_d jd_str) (jae_cons (je_d jd_str) (jae_cons (je_d jd_str) (jae_cons (je_d jd_str) (jae_cons (je_d jd_str) jae_nil)))))))) ja_nil))))
    (jss_one (js_ret (je_d (jd_tup (jad_cons (jd_var (pv 4)) (jad_cons (jd_e (je_call ih_law_saying (hr.mono (by omega)) t.g__law_saying (ja_b (pv 0) (ja_v (jd_var (pv 1)) (ja_v (jd_op o_sub.d (jd_var (pv 2)) jd_int) ja_nil))))) (jad_cons (jd_e (je_call ih_law_saying (hr.mono (by omega)) t.g__law_saying (ja_b (pv 0) (ja_v (jd_var (pv 1)) (ja_v (jd_op o_sub.d (jd_var (pv 2)) jd_int) ja_nil))))) jad_nil)))))))))))
end
end Lw

/-! K77W_law_true -/
set_option Elab.async false
set_option linter.all false
set_option maxRecDepth 100000
set_option maxHeartbeats 4000000
namespace Lw
open PySem PySem.Spec PyProof.Rows L2 Fw
section
variable {P : Program} {w : World} {K : PySem.W.Frag} {mg : Str → Option Value} {base : Heap}
/-! _law_true -/
def b_law_true (r_law_true : Fn) : MS := (mSeq (mAsg (mT (mOp oIx (mVar 0) (mRet (.int 0)))) (gNm 2))
    (mSeq (mIfS (mB (mOp oEq (mVar 2) (mRet (.str "letter")))) (mRetT (mT (mOp oEq (mOp oMod (mCall bInt (mCons (mOp oShr (mVar 1) (mOp oIx (mVar 0) (mRet (.int 1)))) (mRet []))) (mRet (.int 2))) (mRet (.int 1))))) mNx)
    (mSeq (mIfS (mB (mOp oEq (mVar 2) (mRet (.str "not")))) (mRetT (mT (mNotV (mF (mCallF r_law_true [none, none] (mCons (mT (mOp oIx (mVar 0) (mRet (.int 1)))) (mCons (mT (mVar 1)) (mRet [])))))))) mNx)
    (mSeq (mIfS (mB (mOp oIn (mVar 2) (mF (mLst (mCons (mT (mRet (.str "true"))) (mCons (mT (mRet (.str "false"))) (mRet []))))))) (mRetT (mT (mOp oEq (mVar 2) (mRet (.str "true"))))) mNx)
    (mSeq (mPar 3 4 (mCons (mCallF r_law_true [none, none] (mCons (mT (mOp oIx (mVar 0) (mRet (.int 1)))) (mCons (mT (mVar 1)) (mRet [])))) (mCons (mCallF r_law_true [none, none] (mCons (mT (mOp oIx (mVar 0) (mRet (.int 2)))) (mCons (mT (mVar 1)) (mRet [])))) (mRet []))))
    (mSeq (mIfS (mB (mOp oEq (mVar 2) (mRet (.str "and")))) (mRetT (mT (mAndV (mVar 3) (mVar 4)))) mNx)
    (mSeq (mIfS (mB (mOp oEq (mVar 2) (mRet (.str "or")))) (mRetT (mT (mOrV (mVar 3) (mVar 4)))) mNx)
    (mRetT (mT (mIf (mB (mOp oEq (mVar 2) (mRet (.str "then")))) (mOrV (mNotV (mVar 3)) (mVar 4)) (mOp oEq (mVar 3) (mVar 4))))))))))))
def f_law_true : Nat → Fn
  | 0 => fun _ => none
  | n + 1 => mkFn 2 5 [2, 3, 4] (b_law_true (f_law_true n))
theorem ok_law_true (t : Top P w K mg base) : ∀ n, FnT P w K mg base (He.fAd K d_law_true.at_) (0 + n) ["saying", "world"] (f_law_true n)
  | 0 => by
    obtain ⟨fd_law_true, F_law_true, B_law_true⟩ := t.b_law_true
    exact FnT.none F_law_true.kp ⟨fd_law_true, B_law_true⟩
  | n + 1 => by
    obtain ⟨fd_law_true, F_law_true, B_law_true⟩ := t.b_law_true
    have ih := ok_law_true t n
    have ih_law_true := ih
    exact fnT_of (k := 0 + n) (np := 2) (nn := 5) (W := [2, 3, 4]) (body := b_law_true (f_law_true n)) F_law_true sc_law_true B_law_true fun cdv A outer s H E hr => (jss_cons (js_set sc_law_true.nd (je_d (jd_ix (jd_var (pv 0)) jd_int)))
    (jss_cons (js_if (jt_cmp (o_eq hr.units).d (jd_var (pv 2)) jd_str) (jss_one (js_ret (je_d (jd_cmp (o_eq hr.units).d (jd_op o_mod.d (jd_callTy b_int t.n_int (jad_cons (jd_op o_shr.d (jd_var (pv 1)) (jd_ix (jd_var (pv 0)) jd_int)) jad_nil)) jd_int) jd_int)))) jss_nil)
    (jss_cons (js_if (jt_cmp (o_eq hr.units).d (jd_var (pv 2)) jd_str) (jss_one (js_ret (je_d (jd_not (jd_e (je_call ih_law_true (hr.mono (by omega)) t.g__law_true (ja_v (jd_ix (jd_var (pv 0)) jd_int) (ja_v (jd_var (pv 1)) ja_nil)))))))) jss_nil)
    (jss_cons (js_if (jt_cmp o_in.d (jd_var (pv 2)) (jd_e (je_lst (jae_cons (je_d jd_str) (jae_cons (je_d jd_str) jae_nil))))) (jss_one (js_ret (je_d (jd_cmp (o_eq hr.units).d (jd_var (pv 2)) jd_str)))) jss_nil)
    (jss_cons (js_par rfl sc_law_true.nd (jae_cons (je_call ih_law_true (hr.mono (by omega)) t.g__law_true (ja_v (jd_ix (jd_var (pv 0)) jd_int) (ja_v (jd_var (pv 1)) ja_nil))) (jae_cons (je_call ih_law_true (hr.mono (by omega)) t.g__law_true (ja_v (jd_ix (jd_var (pv 0)) jd_int) (ja_v (jd_var (pv 1)) ja_nil))) jae_nil)))
    (jss_cons (js_if (jt_cmp (o_eq hr.units).d (jd_var (pv 2)) jd_str) (jss_one (js_ret (je_d (jd_and (jd_var (pv 3)) (jd_one (jd_var (pv 4))))))) jss_nil)
    (jss_cons (js_if (jt_cmp (o_eq hr.units).d (jd_var (pv 2)) jd_str) (jss_one (js_ret (je_d (jd_or (jd_var (pv 3)) (jd_one (jd_var (pv 4))))))) jss_nil)
    (jss_one (js_ret (je_d (jd_if (jt_cmp (o_eq hr.units).d (jd_var (pv 2)) jd_str) (jd_or (jd_not (jd_var (pv 3))) (jd_one (jd_var (pv 4)))) (jd_cmp (o_eq hr.units).d (jd_var (pv 3)) (jd_var (pv 4))))))))))))))
end
end Lw

/-! K77W_law_gcd -/
set_option Elab.async false
set_option linter.all false
set_option maxRecDepth 100000
set_option maxHeartbeats 4000000
namespace Lw
open PySem PySem.Spec PyProof.Rows L2 Fw
section
variable {P : Program} {w : World} {K : PySem.W.Frag} {mg : Str → Option Value} {base : Heap}
/-! _law_gcd -/
def l_law_gcd_1 : MS := (mSeq (mIfS (mB (mOp oEq (mVar 1) (mRet (.int 0)))) (mRetT (mT (mVar 0))) mNx)
    (mPar 0 1 (mCons (mT (mVar 1)) (mCons (mT (mOp oMod (mCall bInt (mCons (mVar 0) (mRet []))) (mVar 1))) (mRet [])))))
def b_law_gcd : MS := (mSeq (mFor (mIt rng1 (mCons (mRet (.int 400)) (mRet []))) (gNm 2) l_law_gcd_1)
    (mRetT (mT (mVar 0))))
def f_law_gcd : Fn := mkFn 2 3 [0, 1, 2] (b_law_gcd)
theorem ok_law_gcd (t : Top P w K mg base) : FnT P w K mg base (He.fAd K d_law_gcd.at_) 1 ["one", "other"] (f_law_gcd) := by
  obtain ⟨fd, F, B⟩ := t.b_law_gcd
  exact fnT_of (k := 0) (np := 2) (nn := 3) (W := [0, 1, 2]) (body := b_law_gcd) F sc_law_gcd B fun cdv A outer s H E hr => (jss_cons (js_for PassesOwn.never rfl (ji_range1 t.n_range (jad_cons jd_int jad_nil)) (jg_name sc_law_gcd.nd) (jss_cons (js_if (jt_cmp (o_eq hr.units).d (jd_var (pv 1)) jd_int) (jss_one (js_ret (je_d (jd_var (pv 0))))) jss_nil)
    (jss_one (js_par rfl sc_law_gcd.nd (jae_cons (je_d (jd_var (pv 1))) (jae_cons (je_d (jd_op o_mod.d (jd_callTy b_int t.n_int (jad_cons (jd_var (pv 0)) jad_nil)) (jd_var (pv 1)))) jae_nil))))))
    (jss_one (js_ret (je_d (jd_var (pv 0))))))
end
end Lw

/-! K77W_law_frac -/
set_option Elab.async false
set_option linter.all false
set_option maxRecDepth 100000
set_option maxHeartbeats 4000000
namespace Lw
open PySem PySem.Spec PyProof.Rows L2 Fw
section
variable {P : Program} {w : World} {K : PySem.W.Frag} {mg : Str → Option Value} {base : Heap}
/-! _law_frac -/
def b_law_frac : MS := (mSeq (mAsg (mCallF f_law_gcd [none, none] (mCons (mT (mCall bAbs (mCons (mVar 0) (mRet [])))) (mCons (mT (mVar 1)) (mRet [])))) (gNm 2))
    (mRetT (mT (mTup (mCons (mOp oDiv (mVar 0) (mVar 2)) (mCons (mOp oDiv (mVar 1) (mVar 2)) (mRet [])))))))
def f_law_frac : Fn := mkFn 2 3 [2] (b_law_frac)
theorem ok_law_frac (t : Top P w K mg base) : FnT P w K mg base (He.fAd K d_law_frac.at_) 2 ["top", "bottom"] (f_law_frac) := by
  obtain ⟨fd, F, B⟩ := t.b_law_frac
  exact fnT_of (k := 1) (np := 2) (nn := 3) (W := [2]) (body := b_law_frac) F sc_law_frac B fun cdv A outer s H E hr => (jss_cons (js_set sc_law_frac.nd (je_call (ok_law_gcd t) (hr.mono (by decide)) t.g__law_gcd (ja_v (jd_callB b_abs t.n_abs (jad_cons (jd_var (pv 0)) jad_nil)) (ja_v (jd_var (pv 1)) ja_nil))))
    (jss_one (js_ret (je_d (jd_tup (jad_cons (jd_op o_div.d (jd_var (pv 0)) (jd_var (pv 2))) (jad_cons (jd_op o_div.d (jd_var (pv 1)) (jd_var (pv 2))) jad_nil)))))))
end
end Lw

/-! K77W_law_plus -/
set_option Elab.async false
set_option linter.all false
set_option maxRecDepth 100000
set_option maxHeartbeats 4000000
namespace Lw
open PySem PySem.Spec PyProof.Rows L2 Fw
section
variable {P : Program} {w : World} {K : PySem.W.Frag} {mg : Str → Option Value} {base : Heap}
/-! _law_plus -/
def b_law_plus : MS := (mRetT (mCallF f_law_frac [none, none] (mCons (mT (mF (mOpT oAdd (mF (mOpT oMul (mOp oIx (mVar 0) (mRet (.int 0))) (mOp oIx (mVar 1) (mRet (.int 1))))) (mF (mOpT oMul (mOp oIx (mVar 1) (mRet (.int 0))) (mOp oIx (mVar 0) (mRet (.int 1)))))))) (mCons (mT (mF (mOpT oMul (mOp oIx (mVar 0) (mRet (.int 1))) (mOp oIx (mVar 1) (mRet (.int 1)))))) (mRet [])))))
def f_law_plus : Fn := mkFn 2 2 [] (b_law_plus)
theorem ok_law_plus (t : Top P w K mg base) : FnT P w K mg base (He.fAd K d_law_plus.at_) 3 ["one", "other"] (f_law_plus) := by
  obtain ⟨fd, F, B⟩ := t.b_law_plus
  exact fnT_of (k := 2) (np := 2) (nn := 2) (W := []) (body := b_law_plus) F sc_law_plus B fun cdv A outer s H E hr => (jss_one (js_ret (je_call (ok_law_frac t) (hr.mono (by decide)) t.g__law_frac (ja_v (jd_e (je_add (jd_e (je_mul (jd_ix (jd_var (pv 0)) jd_int) (jd_ix (jd_var (pv 1)) jd_int))) (jd_e (je_mul (jd_ix (jd_var (pv 1)) jd_int) (jd_ix (jd_var (pv 0)) jd_int))))) (ja_v (jd_e (je_mul (jd_ix (jd_var (pv 0)) jd_int) (jd_ix (jd_var (pv 1)) jd_int))) ja_nil)))))
end
end Lw

/-! K77W_law_minus -/
set_option Elab.async false
set_option linter.all false
set_option maxRecDepth 100000
set_option maxHeartbeats 4000000
namespace Lw
open PySem PySem.Spec PyProof.Rows L2 Fw
section
variable {P : Program} {w : World} {K : PySem.W.Frag} {mg : Str → Option Value} {base : Heap}
/-! _law_minus -/
def b_law_minus : MS := (mRetT (mCallF f_law_frac [none, none] (mCons (mT (mOp oSub (mF (mOpT oMul (mOp oIx (mVar 0) (mRet (.int 0))) (mOp oIx (mVar 1) (mRet (.int 1))))) (mF (mOpT oMul (mOp oIx (mVar 1) (mRet (.int 0))) (mOp oIx (mVar 0) (mRet (.int 1))))))) (mCons (mT (mF (mOpT oMul (mOp oIx (mVar 0) (mRet (.int 1))) (mOp oIx (mVar 1) (mRet (.int 1)))))) (mRet [])))))
def f_law_minus : Fn := mkFn 2 2 [] (b_law_minus)
theorem ok_law_minus (t : Top P w K mg base) : FnT P w K mg base (He.fAd K d_law_minus.at_) 3 ["one", "other"] (f_law_minus) := by
  obtain ⟨fd, F, B⟩ := t.b_law_minus
  exact fnT_of (k := 2) (np := 2) (nn := 2) (W := []) (body := b_law_minus) F sc_law_minus B fun cdv A outer s H E hr => (jss_one (js_ret (je_call (ok_law_frac t) (hr.mono (by decide)) t.g__law_frac (ja_v (jd_op o_sub.d (jd_e (je_mul (jd_ix (jd_var (pv 0)) jd_int) (jd_ix (jd_var (pv 1)) jd_int))) (jd_e (je_mul (jd_ix (jd_var (pv 1)) jd_int) (jd_ix (jd_var (pv 0)) jd_int)))) (ja_v (jd_e (je_mul (jd_ix (jd_var (pv 0)) jd_int) (jd_ix (jd_var (pv 1)) jd_int))) ja_nil)))))
end
end Lw

/-! K77W_law_times -/
set_option Elab.async false
set_option linter.all false
set_option maxRecDepth 100000
set_option maxHeartbeats 4000000
namespace Lw
open PySem PySem.Spec PyProof.Rows L2 Fw
section
variable {P : Program} {w : World} {K : PySem.W.Frag} {mg : Str → Option Value} {base : Heap}
/-! _law_times -/
def b_law_times : MS := (mRetT (mCallF f_law_frac [none, none] (mCons (mT (mF (mOpT oMul (mOp oIx (mVar 0) (mRet (.int 0))) (mOp oIx (mVar 1) (mRet (.int 0)))))) (mCons (mT (mF (mOpT oMul (mOp oIx (mVar 0) (mRet (.int 1))) (mOp oIx (mVar 1) (mRet (.int 1)))))) (mRet [])))))
def f_law_times : Fn := mkFn 2 2 [] (b_law_times)
theorem ok_law_times (t : Top P w K mg base) : FnT P w K mg base (He.fAd K d_law_times.at_) 3 ["one", "other"] (f_law_times) := by
  obtain ⟨fd, F, B⟩ := t.b_law_times
  exact fnT_of (k := 2) (np := 2) (nn := 2) (W := []) (body := b_law_times) F sc_law_times B fun cdv A outer s H E hr => (jss_one (js_ret (je_call (ok_law_frac t) (hr.mono (by decide)) t.g__law_frac (ja_v (jd_e (je_mul (jd_ix (jd_var (pv 0)) jd_int) (jd_ix (jd_var (pv 1)) jd_int))) (ja_v (jd_e (je_mul (jd_ix (jd_var (pv 0)) jd_int) (jd_ix (jd_var (pv 1)) jd_int))) ja_nil)))))
end
end Lw

/-! K77W_law_less -/
set_option Elab.async false
set_option linter.all false
set_option maxRecDepth 100000
set_option maxHeartbeats 4000000
namespace Lw
open PySem PySem.Spec PyProof.Rows L2 Fw
section
variable {P : Program} {w : World} {K : PySem.W.Frag} {mg : Str → Option Value} {base : Heap}
/-! _law_less -/
def b_law_less : MS := (mRetT (mT (mOp oLt (mF (mOpT oMul (mOp oIx (mVar 0) (mRet (.int 0))) (mOp oIx (mVar 1) (mRet (.int 1))))) (mF (mOpT oMul (mOp oIx (mVar 1) (mRet (.int 0))) (mOp oIx (mVar 0) (mRet (.int 1))))))))
def f_law_less : Fn := mkFn 2 2 [] (b_law_less)
theorem ok_law_less (t : Top P w K mg base) : FnT P w K mg base (He.fAd K d_law_less.at_) 1 ["one", "other"] (f_law_less) := by
  obtain ⟨fd, F, B⟩ := t.b_law_less
  exact fnT_of (k := 0) (np := 2) (nn := 2) (W := []) (body := b_law_less) F sc_law_less B fun cdv A outer s H E hr => (jss_one (js_ret (je_d (jd_cmp o_lt.d (jd_e (je_mul (jd_ix (jd_var (pv 0)) jd_int) (jd_ix (jd_var (pv 1)) jd_int))) (jd_e (je_mul (jd_ix (jd_var (pv 1)) jd_int) (jd_ix (jd_var (pv 0)) jd_int)))))))
end
end Lw

/-! K77W_law_sum -/
set_option Elab.async false
set_option linter.all false
set_option maxRecDepth 100000
set_option maxHeartbeats 4000000
namespace Lw
open PySem PySem.Spec PyProof.Rows L2 Fw
section
variable {P : Program} {w : World} {K : PySem.W.Frag} {mg : Str → Option Value} {base : Heap}
/-! _law_sum -/
def l_law_sum_1 : MS := (mAsg (mCallF f_law_plus [none, none] (mCons (mT (mVar 1)) (mCons (mT (mVar 2)) (mRet [])))) (gNm 1))
def b_law_sum : MS := (mSeq (mAsg (mT (mTup (mCons (mRet (.int 0)) (mCons (mRet (.int 1)) (mRet []))))) (gNm 1))
    (mSeq (mFor (mSq (mVar 0)) (gNm 2) l_law_sum_1)
    (mRetT (mMv 1))))
def f_law_sum : Fn := mkFn 1 3 [1, 2] (b_law_sum)
theorem ok_law_sum (t : Top P w K mg base) : FnT P w K mg base (He.fAd K d_law_sum.at_) 4 ["many"] (f_law_sum) := by
  obtain ⟨fd, F, B⟩ := t.b_law_sum
  exact fnT_of (k := 3) (np := 1) (nn := 3) (W := [1, 2]) (body := b_law_sum) F sc_law_sum B fun cdv A outer s H E hr => (jss_cons (js_set sc_law_sum.nd (je_d (jd_tup (jad_cons jd_int (jad_cons jd_int jad_nil)))))
    (jss_cons (js_for PassesOwn.never rfl (ji_seq (jd_var (pv 0))) (jg_name sc_law_sum.nd) (jss_one (js_set sc_law_sum.nd (je_call (ok_law_plus t) (hr.mono (by decide)) t.g__law_plus (ja_v (jd_var (pv 1)) (ja_v (jd_var (pv 2)) ja_nil))))))
    (jss_one (js_ret (je_mv (pv 1))))))
end
end Lw

/-! K77W_law_shares -/
set_option Elab.async false
set_option linter.all false
set_option maxRecDepth 100000
set_option maxHeartbeats 4000000
namespace Lw
open PySem PySem.Spec PyProof.Rows L2 Fw
section
variable {P : Program} {w : World} {K : PySem.W.Frag} {mg : Str → Option Value} {base : Heap}
/-! _law_shares -/
def q_law_shares_1 : M T := mLc [1] (mIt rng1 (mCons (mF (mOpT oAdd (mRet (.int 1)) (mF (mCallF f_law_draw [some 0, none] (mCons (mMv 0) (mCons (mT (mRet (.int 3))) (mRet []))))))) (mRet []))) (gNm 1) (mRet true) (mCallF f_law_some [some 0, none] (mCons (mMv 0) (mCons (mT (mF (mLst (mCons (mT (mTup (mCons (mRet (.int 1)) (mCons (mRet (.int 2)) (mRet []))))) (mCons (mT (mTup (mCons (mRet (.int 1)) (mCons (mRet (.int 3)) (mRet []))))) (mCons (mT (mTup (mCons (mRet (.int 2)) (mCons (mRet (.int 3)) (mRet []))))) (mCons (mT (mTup (mCons (mRet (.int 1)) (mCons (mRet (.int 4)) (mRet []))))) (mCons (mT (mTup (mCons (mRet (.int 3)) (mCons (mRet (.int 5)) (mRet []))))) (mCons (mT (mTup (mCons (mRet (.int 1)) (mCons (mRet (.int 2)) (mRet []))))) (mCons (mT (mTup (mCons (mRet (.int 2)) (mCons (mRet (.int 7)) (mRet []))))) (mCons (mT (mTup (mCons (mRet (.int 0)) (mCons (mRet (.int 1)) (mRet []))))) (mCons (mT (mTup (mCons (mRet (.int 1)) (mCons (mRet (.int 1)) (mRet []))))) (mRet []))))))))))))) (mRet []))))
def b_law_shares : MS := (mRetT (mT (mCall bTuple (mCons (mF q_law_shares_1) (mRet [])))))
def f_law_shares : Fn := mkFn 1 2 [] (b_law_shares)
theorem ok_law_shares (t : Top P w K mg base) : FnT P w K mg base (He.fAd K d_law_shares.at_) 3 ["hand"] (f_law_shares) := by
  obtain ⟨fd, F, B⟩ := t.b_law_shares
  exact fnT_of (k := 2) (np := 1) (nn := 2) (W := []) (body := b_law_shares) F sc_law_shares B fun cdv A outer s H E hr => (jss_one (js_ret (je_d (jd_callTy b_tuple t.n_tuple (jad_cons (jd_e (je_lc (own := [("step", 1)]) rfl sc_law_shares.nd (ji_range1 t.n_range (jad_cons (jd_e (je_add jd_int (jd_e (je_call (ok_law_draw t) (hr.mono (by decide)) t.g__law_draw (ja_b (pv 0) (ja_v jd_int ja_nil)))))) jad_nil)) (blkOk_by (by kernel_rfl)) (fun _ _ _ _ _ => (jg_name sc_law_shares.nd)) (fun _ _ _ _ _ => jpt_nil) (fun _ _ _ _ _ => (je_call (ok_law_some t) (hr.mono (by decide)) t.g__law_some (ja_b (pv 0) (ja_v (jd_e (je_lst (jae_cons (je_d (jd_tup (jad_cons jd_int (jad_cons jd_int jad_nil)))) (jae_cons (je_d (jd_tup (jad_cons jd_int (jad_cons jd_int jad_nil)))) (jae_cons (je_d (jd_tup (jad_cons jd_int (jad_cons jd_int jad_nil)))) (jae_cons (je_d (jd_tup (jad_cons jd_int (jad_cons jd_int jad_nil)))) (jae_cons (je_d (jd_tup (jad_cons jd_int (jad_cons jd_int jad_nil)))) (jae_cons (je_d (jd_tup (jad_cons jd_int (jad_cons jd_int jad_nil)))) (jae_cons (je_d (jd_tup (jad_cons jd_int (jad_cons jd_int jad_nil)))) (jae_cons (je_d (jd_tup (jad_cons jd_int (jad_cons jd_int jad_nil)))) (jae_cons (je_d (jd_tup (jad_cons jd_int (jad_cons jd_int jad_nil)))) jae_nil))))))))))) ja_nil)))))) jad_nil)))))
end
end Lw

/-! K77W_law_block -/
set_option Elab.async false
set_option linter.all false
set_option maxRecDepth 100000
set_option maxHeartbeats 4000000
namespace Lw
open PySem PySem.Spec PyProof.Rows L2 Fw
section
variable {P : Program} {w : World} {K : PySem.W.Frag} {mg : Str → Option Value} {base : Heap}
/-! _law_block -/
def l_law_block_1 (r_law_block : Fn) : MS := (mSeq (mAsg (mCallF f_law_draw [some 0, none] (mCons (mMv 0) (mCons (mT (mRet (.int 10))) (mRet [])))) (gNm 7))
    (mIfS (mAndT (mB (mOp oLt (mVar 7) (mRet (.int 4)))) (mB (mOp oGt (mVar 3) (mRet (.int 0))))) (mSeq (mExp (mApp (pNm 5) (mT (mTup (mCons (mRet (.str "draw")) (mCons (mF (mCallF f_law_draw [some 0, none] (mCons (mMv 0) (mCons (mT (mVar 1)) (mRet []))))) (mCons (mF (mCallF f_law_draw [some 0, none] (mCons (mMv 0) (mCons (mT (mVar 2)) (mRet []))))) (mRet []))))))))
    (mAsg (mT (mOp oSub (mVar 3) (mRet (.int 1)))) (gNm 3))) (mIfS (mOrT (mB (mOp oLt (mVar 7) (mRet (.int 6)))) (mB (mOp oEq (mVar 4) (mRet (.int 0))))) (mExp (mApp (pNm 5) (mT (mTup (mCons (mRet (.str "set")) (mCons (mF (mCallF f_law_draw [some 0, none] (mCons (mMv 0) (mCons (mT (mVar 1)) (mRet []))))) (mCons (mF (mCallF (f_law_saying 6) [some 0, none, none] (mCons (mMv 0) (mCons (mT (mVar 1)) (mCons (mT (mRet (.int 3))) (mRet [])))))) (mRet [])))))))) (mIfS (mB (mOp oEq (mVar 7) (mRet (.int 6)))) (mExp (mApp (pNm 5) (mT (mTup (mCons (mRet (.str "see")) (mCons (mTup (mCons (mRet (.str "or")) (mCons (mTup (mCons (mRet (.str "letter")) (mCons (mF (mCallF f_law_draw [some 0, none] (mCons (mMv 0) (mCons (mT (mVar 1)) (mRet []))))) (mRet [])))) (mCons (mF (mCallF (f_law_saying 6) [some 0, none, none] (mCons (mMv 0) (mCons (mT (mVar 1)) (mCons (mT (mRet (.int 3))) (mRet [])))))) (mRet []))))) (mRet []))))))) (mIfS (mB (mOp oEq (mVar 7) (mRet (.int 7)))) (mSeq (mAsg (mCallF f_law_draw [some 0, none] (mCons (mMv 0) (mCons (mT (mRet (.int 3))) (mRet [])))) (gNm 8))
    (mSeq (mAsg (mCallF r_law_block [some 0, none, none, none, none] (mCons (mMv 0) (mCons (mT (mVar 1)) (mCons (mT (mVar 2)) (mCons (mT (mOp oDiv (mVar 3) (mRet (.int 2)))) (mCons (mT (mOp oSub (mVar 4) (mRet (.int 1)))) (mRet []))))))) (gTupM (gCons (gNm 9) (gCons (gNm 10) gNil))))
    (mSeq (mExp (mApp (pNm 5) (mT (mTup (mCons (mRet (.str "rounds")) (mCons (mVar 8) (mCons (mVar 9) (mRet []))))))))
    (mAsg (mT (mOp oSub (mVar 3) (mF (mOpT oMul (mRet (.int 2)) (mOp oSub (mOp oDiv (mVar 3) (mRet (.int 2))) (mVar 10)))))) (gNm 3))))) (mSeq (mAsg (mCallF r_law_block [some 0, none, none, none, none] (mCons (mMv 0) (mCons (mT (mVar 1)) (mCons (mT (mVar 2)) (mCons (mT (mVar 3)) (mCons (mT (mOp oSub (mVar 4) (mRet (.int 1)))) (mRet []))))))) (gTupM (gCons (gNm 11) (gCons (gNm 10) gNil))))
    (mSeq (mAsg (mCallF r_law_block [some 0, none, none, none, none] (mCons (mMv 0) (mCons (mT (mVar 1)) (mCons (mT (mVar 2)) (mCons (mT (mVar 3)) (mCons (mT (mOp oSub (mVar 4) (mRet (.int 1)))) (mRet []))))))) (gTupM (gCons (gNm 12) (gCons (gNm 13) gNil))))
    (mSeq (mExp (mApp (pNm 5) (mT (mTup (mCons (mRet (.str "if")) (mCons (mF (mCallF (f_law_saying 6) [some 0, none, none] (mCons (mMv 0) (mCons (mT (mVar 1)) (mCons (mT (mRet (.int 3))) (mRet [])))))) (mCons (mVar 11) (mCons (mVar 12) (mRet [])))))))))
    (mAsg (mT (mCall bMin2 (mCons (mVar 10) (mCons (mVar 13) (mRet []))))) (gNm 3))))))))))
def b_law_block (r_law_block : Fn) : MS := (mSeq (mAsg (mLst (mRet [])) (gNm 5))
    (mSeq (mFor (mIt rng1 (mCons (mF (mOpT oAdd (mF (mCallF f_law_draw [some 0, none] (mCons (mMv 0) (mCons (mT (mRet (.int 4))) (mRet []))))) (mIf (mB (mOp oEq (mVar 4) (mRet (.int 2)))) (mRet (.int 2)) (mRet (.int 0))))) (mRet []))) (gNm 6) (l_law_block_1 r_law_block))
    (mRetT (mT (mTup (mCons (mCall bTuple (mCons (mVar 5) (mRet []))) (mCons (mVar 3) (mRet []))))))))
def f_law_block : Nat → Fn
  | 0 => fun _ => none
  | n + 1 => mkFn 5 14 [3, 5, 6, 7, 8, 9, 10, 11, 12, 13] (b_law_block (f_law_block n))
theorem ok_law_block (t : Top P w K mg base) : ∀ n, FnT P w K mg base (He.fAd K d_law_block.at_) (8 + n) ["hand", "letters", "shares", "left", "depth"] (f_law_block n)
  | 0 => by
    obtain ⟨fd_law_block, F_law_block, B_law_block⟩ := t.b_law_block
    exact FnT.none F_law_block.kp ⟨fd_law_block, B_law_block⟩
  | n + 1 => by
    obtain ⟨fd_law_block, F_law_block, B_law_block⟩ := t.b_law_block
    have ih := ok_law_block t n
    have ih_law_block := ih
    exact fnT_of (k := 8 + n) (np := 5) (nn := 14) (W := [3, 5, 6, 7, 8, 9, 10, 11, 12, 13]) (body := b_law_block (f_law_block n)) F_law_block sc_law_block B_law_block fun cdv A outer s H E hr => (jss_cons (js_set sc_law_block.nd (je_lst jae_nil))
    (jss_cons (js_for PassesOwn.never rfl (ji_range1 t.n_range (jad_cons (jd_e (je_add (jd_e (je_call (ok_law_draw t) (hr.mono (by omega)) t.g__law_draw (ja_b (pv 0) (ja_v jd_int ja_nil)))) (jd_if (jt_cmp (o_eq hr.units).d (jd_var (pv 4)) jd_int) jd_int jd_int))) jad_nil)) (jg_name sc_law_block.nd) (jss_cons (js_set sc_law_block.nd (je_call (ok_law_draw t) (hr.mono (by omega)) t.g__law_draw (ja_b (pv 0) (ja_v jd_int ja_nil))))
    (jss_one (js_if (jt_w (jw_and (jt_cmp o_lt.d (jd_var (pv 7)) jd_int) (jw_and1 (jt_cmp o_gt.d (jd_var (pv 3)) jd_int)))) (jss_cons (js_expr (jd_app (jp_name (pv 5)) (je_d (jd_tup (jad_cons jd_str (jad_cons (jd_e (je_call (ok_law_draw t) (hr.mono (by omega)) t.g__law_draw (ja_b (pv 0) (ja_v (jd_var (pv 1)) ja_nil)))) (jad_cons (jd_e (je_call (ok_law_draw t) (hr.mono (by omega)) t.g__law_draw (ja_b (pv 0) (ja_v (jd_var (pv 2)) ja_nil)))) jad_nil)))))))
    (jss_one (js_set sc_law_block.nd (je_d (jd_op o_sub.d (jd_var (pv 3)) jd_int))))) (jss_one (js_if (jt_w (jw_or (jt_cmp o_lt.d (jd_var (pv 7)) jd_int) (jw_or1 (jt_cmp (o_eq hr.units).d (jd_var (pv 4)) jd_int)))) (jss_one (js_expr (jd_app (jp_name (pv 5)) (je_d (jd_tup (jad_cons jd_str (jad_cons (jd_e (je_call (ok_law_draw t) (hr.mono (by omega)) t.g__law_draw (ja_b (pv 0) (ja_v (jd_var (pv 1)) ja_nil)))) (jad_cons (jd_e (je_call (ok_law_saying t 6) (hr.mono (by omega)) t.g__law_saying (ja_b (pv 0) (ja_v (jd_var (pv 1)) (ja_v jd_int ja_nil))))) jad_nil)))))))) (jss_one (js_if (jt_cmp (o_eq hr.units).d (jd_var (pv 7)) jd_int) (jss_one (js_expr (jd_app (jp_name (pv 5)) (je_d (jd_tup (jad_cons jd_str (jad_cons (jd_tup (jad_cons jd_str (jad_cons (jd_tup (jad_cons jd_str (jad_cons (jd_e (je_call (ok_law_draw t) (hr.mono (by omega)) t.g__law_draw (ja_b (pv 0) (ja_v (jd_var (pv 1)) ja_nil)))) jad_nil))) (jad_cons (jd_e (je_call (ok_law_saying t 6) (hr.mono (by omega)) t.g__law_saying (ja_b (pv 0) (ja_v (jd_var (pv 1)) (ja_v jd_int ja_nil))))) jad_nil)))) jad_nil))))))) (jss_one (js_if (jt_cmp (o_eq hr.units).d (jd_var (pv 7)) jd_int) (jss_cons (js_set sc_law_block.nd (je_call (ok_law_draw t) (hr.mono (by omega)) t.g__law_draw (ja_b (pv 0) (ja_v jd_int ja_nil))))
    (jss_cons (js_asg (je_call ih_law_block (hr.mono (by omega)) t.g__law_block (ja_b (pv 0) (ja_v (jd_var (pv 1)) (ja_v (jd_var (pv 2)) (ja_v (jd_op o_div.d (jd_var (pv 3)) jd_int) (ja_v (jd_op o_sub.d (jd_var (pv 4)) jd_int) ja_nil)))))) (jg_t2 rfl (jg_name sc_law_block.nd) (jg_name sc_law_block.nd)))
    (jss_cons (js_expr (jd_app (jp_name (pv 5)) (je_d (jd_tup (jad_cons jd_str (jad_cons (jd_var (pv 8)) (jad_cons (jd_var (pv 9)) jad_nil)))))))
    (jss_one (js_set sc_law_block.nd (je_d (jd_op o_sub.d (jd_var (pv 3)) (jd_e (je_mul jd_int (jd_op o_sub.d (jd_op o_div.d (jd_var (pv 3)) jd_int) (jd_var (pv 10)))))))))))) (jss_cons (js_asg (je_call ih_law_block (hr.mono (by omega)) t.g__law_block (ja_b (pv 0) (ja_v (jd_var (pv 1)) (ja_v (jd_var (pv 2)) (ja_v (jd_var (pv 3)) (ja_v (jd_op o_sub.d (jd_var (pv 4)) jd_int) ja_nil)))))) (jg_t2 rfl (jg_name sc_law_block.nd) (jg_name sc_law_block.nd)))
    (jss_cons (js_asg (je_call ih_law_block (hr.mono (by omega)) t.g__law_block (ja_b (pv 0) (ja_v (jd_var (pv 1)) (ja_v (jd_var (pv 2)) (ja_v (jd_var (pv 3)) (ja_v (jd_op o_sub.d (jd_var (pv 4)) jd_int) ja_nil)))))) (jg_t2 rfl (jg_name sc_law_block.nd) (jg_name sc_law_block.nd)))
    (jss_cons (js_expr (jd_app (jp_name (pv 5)) (je_d (jd_tup (jad_cons jd_str (jad_cons (jd_e (je_call (ok_law_saying t 6) (hr.mono (by omega)) t.g__law_saying (ja_b (pv 0) (ja_v (jd_var (pv 1)) (ja_v jd_int ja_nil))))) (jad_cons (jd_var (pv 11)) (jad_cons (jd_var (pv 12)) jad_nil))))))))
    (jss_one (js_set sc_law_block.nd (je_d (jd_callB (b_min2 rfl) t.n_min (jad_cons (jd_var (pv 10)) (jad_cons (jd_var (pv 13)) jad_nil)))))))))))))))))))
    (jss_one (js_ret (je_d (jd_tup (jad_cons (jd_callTy b_tuple t.n_tuple (jad_cons (jd_var (pv 5)) jad_nil)) (jad_cons (jd_var (pv 3)) jad_nil))))))))
end
end Lw

/-! K77W_law_program -/
set_option Elab.async false
set_option linter.all false
set_option maxRecDepth 100000
set_option maxHeartbeats 4000000
namespace Lw
open PySem PySem.Spec PyProof.Rows L2 Fw
section
variable {P : Program} {w : World} {K : PySem.W.Frag} {mg : Str → Option Value} {base : Heap}
/-! _law_program -/
def b_law_program : MS := (mSeq (mPar 3 4 (mCons (mOpT oAdd (mRet (.int 1)) (mF (mCallF f_law_draw [some 0, none] (mCons (mMv 0) (mCons (mT (mVar 1)) (mRet [])))))) (mCons (mCallF f_law_shares [some 0] (mCons (mMv 0) (mRet []))) (mRet []))))
    (mRetT (mT (mTup (mCons (mVar 3) (mCons (mVar 4) (mCons (mOp oIx (mF (mCallF (f_law_block 5) [some 0, none, none, none, none] (mCons (mMv 0) (mCons (mT (mVar 3)) (mCons (mT (mCall bLen (mCons (mVar 4) (mRet [])))) (mCons (mT (mVar 2)) (mCons (mT (mRet (.int 2))) (mRet [])))))))) (mRet (.int 0))) (mRet []))))))))
def f_law_program : Fn := mkFn 3 5 [3, 4] (b_law_program)
theorem ok_law_program (t : Top P w K mg base) : FnT P w K mg base (He.fAd K d_law_program.at_) 14 ["hand", "most", "draws"] (f_law_program) := by
  obtain ⟨fd, F, B⟩ := t.b_law_program
  exact fnT_of (k := 13) (np := 3) (nn := 5) (W := [3, 4]) (body := b_law_program) F sc_law_program B fun cdv A outer s H E hr => (jss_cons (js_par rfl sc_law_program.nd (jae_cons (je_add jd_int (jd_e (je_call (ok_law_draw t) (hr.mono (by decide)) t.g__law_draw (ja_b (pv 0) (ja_v (jd_var (pv 1)) ja_nil))))) (jae_cons (je_call (ok_law_shares t) (hr.mono (by decide)) t.g__law_shares (ja_b (pv 0) ja_nil)) jae_nil)))
    (jss_one (js_ret (je_d (jd_tup (jad_cons (jd_var (pv 3)) (jad_cons (jd_var (pv 4)) (jad_cons (jd_ix (jd_e (je_call (ok_law_block t 5) (hr.mono (by decide)) t.g__law_block (ja_b (pv 0) (ja_v (jd_var (pv 3)) (ja_v (jd_callB b_len t.n_len (jad_cons (jd_var (pv 4)) jad_nil)) (ja_v (jd_var (pv 2)) (ja_v jd_int ja_nil))))))) jd_int) jad_nil))))))))
end
end Lw

/-! K77W_law_with -/
set_option Elab.async false
set_option linter.all false
set_option maxRecDepth 100000
set_option maxHeartbeats 4000000
namespace Lw
open PySem PySem.Spec PyProof.Rows L2 Fw
section
variable {P : Program} {w : World} {K : PySem.W.Frag} {mg : Str → Option Value} {base : Heap}
/-! _law_with -/
def b_law_with : MS := (mSeq (mAsg (mT (mIf (mB (mOp oEq (mOp oMod (mCall bInt (mCons (mOp oShr (mVar 0) (mVar 1)) (mRet []))) (mRet (.int 2))) (mRet (.int 1)))) (mOp oSub (mVar 0) (mOp oShl (mRet (.int 1)) (mVar 1))) (mVar 0))) (gNm 3))
    (mRetT (mIf (mB (mVar 2)) (mOpT oAdd (mVar 3) (mOp oShl (mRet (.int 1)) (mVar 1))) (mT (mVar 3)))))
def f_law_with : Fn := mkFn 3 4 [3] (b_law_with)
theorem ok_law_with (t : Top P w K mg base) : FnT P w K mg base (He.fAd K d_law_with.at_) 1 ["world", "letter", "flag"] (f_law_with) := by
  obtain ⟨fd, F, B⟩ := t.b_law_with
  exact fnT_of (k := 0) (np := 3) (nn := 4) (W := [3]) (body := b_law_with) F sc_law_with B fun cdv A outer s H E hr => (jss_cons (js_set sc_law_with.nd (je_d (jd_if (jt_cmp (o_eq hr.units).d (jd_op o_mod.d (jd_callTy b_int t.n_int (jad_cons (jd_op o_shr.d (jd_var (pv 0)) (jd_var (pv 1))) jad_nil)) jd_int) jd_int) (jd_op o_sub.d (jd_var (pv 0)) (jd_op o_shl.d jd_int (jd_var (pv 1)))) (jd_var (pv 0)))))
    (jss_one (js_ret (je_if (jt_val (jd_var (pv 2))) (je_add (jd_var (pv 3)) (jd_op o_shl.d jd_int (jd_var (pv 1)))) (je_d (jd_var (pv 3)))))))
end
end Lw

/-! K77W_law_go -/
set_option Elab.async false
set_option linter.all false
set_option maxRecDepth 100000
set_option maxHeartbeats 4000000
namespace Lw
open PySem PySem.Spec PyProof.Rows L2 Fw
section
variable {P : Program} {w : World} {K : PySem.W.Frag} {mg : Str → Option Value} {base : Heap}
/-! _law_go -/
def l_law_go_1 (r_law_go : Fn) : MS := (mAsg (mCallF r_law_go [none, none, none, some 3] (mCons (mT (mOp oIx (mVar 4) (mRet (.int 2)))) (mCons (mT (mVar 1)) (mCons (mT (mVar 2)) (mCons (mMv 3) (mRet [])))))) (gNm 1))
def l_law_go_2 (r_law_go : Fn) : MS := (mSeq (mIfS (mOrT (mB (mPl (pIx (pNm 3) (mRet (.int 1))))) (mB (mPl (pIx (pNm 3) (mRet (.int 2)))))) (mRetT (mT (mVar 1))) mNx)
    (mIfS (mB (mOp oEq (mOp oIx (mVar 4) (mRet (.int 0))) (mRet (.str "draw")))) (mSeq (mIfS (mB (mOp oEq (mPl (pIx (pNm 3) (mRet (.int 0)))) (mCall bLen (mCons (mVar 2) (mRet []))))) (mSeq (mAsg (mT (mRet (.bl true))) (gIx (pNm 3) (mRet (.int 1))))
    (mRetT (mT (mVar 1)))) mNx)
    (mSeq (mAsg (mT (mOp oIx (mVar 2) (mPl (pIx (pNm 3) (mRet (.int 0)))))) (gNm 5))
    (mSeq (mAsg (mOpT oAdd (mPl (pIx (pNm 3) (mRet (.int 0)))) (mRet (.int 1))) (gIx (pNm 3) (mRet (.int 0))))
    (mSeq (mExp (mApp (pIx (pNm 3) (mRet (.int 3))) (mT (mTup (mCons (mOp oIx (mVar 4) (mRet (.int 2))) (mCons (mVar 5) (mRet [])))))))
    (mAsg (mCallF f_law_with [none, none, none] (mCons (mT (mVar 1)) (mCons (mT (mOp oIx (mVar 4) (mRet (.int 1)))) (mCons (mT (mVar 5)) (mRet []))))) (gNm 1)))))) (mIfS (mB (mOp oEq (mOp oIx (mVar 4) (mRet (.int 0))) (mRet (.str "set")))) (mAsg (mCallF f_law_with [none, none, none] (mCons (mT (mVar 1)) (mCons (mT (mOp oIx (mVar 4) (mRet (.int 1)))) (mCons (mT (mF (mCallF (f_law_true 12) [none, none] (mCons (mT (mOp oIx (mVar 4) (mRet (.int 2)))) (mCons (mT (mVar 1)) (mRet [])))))) (mRet []))))) (gNm 1)) (mIfS (mB (mOp oEq (mOp oIx (mVar 4) (mRet (.int 0))) (mRet (.str "see")))) (mAsg (mT (mNotV (mF (mCallF (f_law_true 12) [none, none] (mCons (mT (mOp oIx (mVar 4) (mRet (.int 1)))) (mCons (mT (mVar 1)) (mRet []))))))) (gIx (pNm 3) (mRet (.int 2)))) (mIfS (mB (mOp oEq (mOp oIx (mVar 4) (mRet (.int 0))) (mRet (.str "rounds")))) (mFor (mIt rng1 (mCons (mOp oIx (mVar 4) (mRet (.int 1))) (mRet []))) (gNm 6) (l_law_go_1 r_law_go)) (mAsg (mCallF r_law_go [none, none, none, some 3] (mCons (mT (mIf (mB (mF (mCallF (f_law_true 12) [none, none] (mCons (mT (mOp oIx (mVar 4) (mRet (.int 1)))) (mCons (mT (mVar 1)) (mRet [])))))) (mOp oIx (mVar 4) (mRet (.int 2))) (mOp oIx (mVar 4) (mRet (.int 3))))) (mCons (mT (mVar 1)) (mCons (mT (mVar 2)) (mCons (mMv 3) (mRet [])))))) (gNm 1)))))))
def b_law_go (r_law_go : Fn) : MS := (mSeq (mFor (mSq (mVar 0)) (gNm 4) (l_law_go_2 r_law_go))
    (mRetT (mT (mVar 1))))
def f_law_go : Nat → Fn
  | 0 => fun _ => none
  | n + 1 => mkFn 4 7 [1, 4, 5, 6] (b_law_go (f_law_go n))
theorem ok_law_go (t : Top P w K mg base) : ∀ n, FnT P w K mg base (He.fAd K d_law_go.at_) (12 + n) ["block", "world", "flags", "told"] (f_law_go n)
  | 0 => by
    obtain ⟨fd_law_go, F_law_go, B_law_go⟩ := t.b_law_go
    exact FnT.none F_law_go.kp ⟨fd_law_go, B_law_go⟩
  | n + 1 => by
    obtain ⟨fd_law_go, F_law_go, B_law_go⟩ := t.b_law_go
    have ih := ok_law_go t n
    have ih_law_go := ih
    exact fnT_of (k := 12 + n) (np := 4) (nn := 7) (W := [1, 4, 5, 6]) (body := b_law_go (f_law_go n)) F_law_go sc_law_go B_law_go fun cdv A outer s H E hr => (jss_cons (js_for PassesOwn.never rfl (ji_seq (jd_var (pv 0))) (jg_name sc_law_go.nd) (jss_cons (js_if (jt_w (jw_or (jt_val (jd_pl (jp_ix (jp_name (pv 3)) jd_int))) (jw_or1 (jt_val (jd_pl (jp_ix (jp_name (pv 3)) jd_int)))))) (jss_one (js_ret (je_d (jd_var (pv 1))))) jss_nil)
    (jss_one (js_if (jt_cmp (o_eq hr.units).d (jd_ix (jd_var (pv 4)) jd_int) jd_str) (jss_cons (js_if (jt_cmp (o_eq hr.units).d (jd_pl (jp_ix (jp_name (pv 3)) jd_int)) (jd_callB b_len t.n_len (jad_cons (jd_var (pv 2)) jad_nil))) (jss_cons (js_asg (je_d jd_bl) (jg_ix (jp_name (pv 3)) jd_int))
    (jss_one (js_ret (je_d (jd_var (pv 1)))))) jss_nil)
    (jss_cons (js_set sc_law_go.nd (je_d (jd_ix (jd_var (pv 2)) (jd_pl (jp_ix (jp_name (pv 3)) jd_int)))))
    (jss_cons (js_asg (je_add (jd_pl (jp_ix (jp_name (pv 3)) jd_int)) jd_int) (jg_ix (jp_name (pv 3)) jd_int))
    (jss_cons (js_expr (jd_app (jp_ix (jp_name (pv 3)) jd_int) (je_d (jd_tup (jad_cons (jd_ix (jd_var (pv 4)) jd_int) (jad_cons (jd_var (pv 5)) jad_nil))))))
    (jss_one (js_set sc_law_go.nd (je_call (ok_law_with t) (hr.mono (by omega)) t.g__law_with (ja_v (jd_var (pv 1)) (ja_v (jd_ix (jd_var (pv 4)) jd_int) (ja_v (jd_var (pv 5)) ja_nil)))))))))) (jss_one (js_if (jt_cmp (o_eq hr.units).d (jd_ix (jd_var (pv 4)) jd_int) jd_str) (jss_one (js_set sc_law_go.nd (je_call (ok_law_with t) (hr.mono (by omega)) t.g__law_with (ja_v (jd_var (pv 1)) (ja_v (jd_ix (jd_var (pv 4)) jd_int) (ja_v (jd_e (je_call (ok_law_true t 12) (hr.mono (by omega)) t.g__law_true (ja_v (jd_ix (jd_var (pv 4)) jd_int) (ja_v (jd_var (pv 1)) ja_nil)))) ja_nil)))))) (jss_one (js_if (jt_cmp (o_eq hr.units).d (jd_ix (jd_var (pv 4)) jd_int) jd_str) (jss_one (js_asg (je_d (jd_not (jd_e (je_call (ok_law_true t 12) (hr.mono (by omega)) t.g__law_true (ja_v (jd_ix (jd_var (pv 4)) jd_int) (ja_v (jd_var (pv 1)) ja_nil)))))) (jg_ix (jp_name (pv 3)) jd_int))) (jss_one (js_if (jt_cmp (o_eq hr.units).d (jd_ix (jd_var (pv 4)) jd_int) jd_str) (jss_one (js_for PassesOwn.never rfl (ji_range1 t.n_range (jad_cons (jd_ix (jd_var (pv 4)) jd_int) jad_nil)) (jg_name sc_law_go.nd) (jss_one (js_set sc_law_go.nd (je_call ih_law_go (hr.mono (by omega)) t.g__law_go (ja_v (jd_ix (jd_var (pv 4)) jd_int) (ja_v (jd_var (pv 1)) (ja_v (jd_var (pv 2)) (ja_b (pv 3) ja_nil))))))))) (jss_one (js_set sc_law_go.nd (je_call ih_law_go (hr.mono (by omega)) t.g__law_go (ja_v (jd_if (jt_val (jd_e (je_call (ok_law_true t 12) (hr.mono (by omega)) t.g__law_true (ja_v (jd_ix (jd_var (pv 4)) jd_int) (ja_v (jd_var (pv 1)) ja_nil))))) (jd_ix (jd_var (pv 4)) jd_int) (jd_ix (jd_var (pv 4)) jd_int)) (ja_v (jd_var (pv 1)) (ja_v (jd_var (pv 2)) (ja_b (pv 3) ja_nil)))))))))))))))))
    (jss_one (js_ret (je_d (jd_var (pv 1))))))
end
end Lw

/-! K77W_law_rows -/
set_option Elab.async false
set_option linter.all false
set_option maxRecDepth 100000
set_option maxHeartbeats 4000000
namespace Lw
open PySem PySem.Spec PyProof.Rows L2 Fw
section
variable {P : Program} {w : World} {K : PySem.W.Frag} {mg : Str → Option Value} {base : Heap}
/-! _law_rows -/
def w_law_rows_1 : M Bool := (mB (mOp oGt (mLenP (pNm 3)) (mRet (.int 0))))
def l_law_rows_1 : MS := (mSeq (mAsg (mPop (pNm 3)) (gNm 4))
    (mSeq (mAsg (mLst (mCons (mT (mRet (.int 0))) (mCons (mT (mRet (.bl false))) (mCons (mT (mRet (.bl false))) (mCons (mLst (mRet [])) (mRet [])))))) (gNm 5))
    (mSeq (mAsg (mCallF (f_law_go 10) [none, none, none, some 5] (mCons (mT (mVar 0)) (mCons (mT (mVar 1)) (mCons (mT (mVar 4)) (mCons (mMv 5) (mRet [])))))) (gNm 6))
    (mIfS (mB (mPl (pIx (pNm 5) (mRet (.int 1))))) (mAsg (mOpT oAdd (mVar 3) (mF (mLst (mCons (mOpT oAdd (mVar 4) (mTup (mCons (mRet (.bl true)) (mRet [])))) (mCons (mOpT oAdd (mVar 4) (mTup (mCons (mRet (.bl false)) (mRet [])))) (mRet [])))))) (gNm 3)) (mExp (mApp (pNm 2) (mT (mTup (mCons (mVar 4) (mCons (mIf (mB (mPl (pIx (pNm 5) (mRet (.int 2))))) (mRet .non) (mVar 6)) (mCons (mPl (pIx (pNm 5) (mRet (.int 3)))) (mRet []))))))))))))
def b_law_rows : MS := (mSeq (mPar 2 3 (mCons (mLst (mRet [])) (mCons (mLst (mCons (mT (mTup (mRet []))) (mRet []))) (mRet []))))
    (mSeq (mWhile (fun _ : Fw.Env => 4096) w_law_rows_1 l_law_rows_1)
    (mRetT (mMv 2))))
def f_law_rows : Fn := mkFn 2 7 [2, 3, 4, 5, 6] (b_law_rows)
theorem ok_law_rows (t : Top P w K mg base) : FnT P w K mg base (He.fAd K d_law_rows.at_) 23 ["block", "world"] (f_law_rows) := by
  obtain ⟨fd, F, B⟩ := t.b_law_rows
  exact fnT_of (k := 22) (np := 2) (nn := 7) (W := [2, 3, 4, 5, 6]) (body := b_law_rows) F sc_law_rows B fun cdv A outer s H E hr => (jss_cons (js_par rfl sc_law_rows.nd (jae_cons (je_lst jae_nil) (jae_cons (je_lst (jae_cons (je_d (jd_tup jad_nil)) jae_nil)) jae_nil)))
    (jss_cons (js_while (n := (fun _ : Fw.Env => 4096)) PassesOwn.never (jt_cmp o_gt.d (jd_lenP t.n_len (jp_name (pv 3))) jd_int) (jss_cons (js_set sc_law_rows.nd (je_pop (jp_name (pv 3))))
    (jss_cons (js_set sc_law_rows.nd (je_lst (jae_cons (je_d jd_int) (jae_cons (je_d jd_bl) (jae_cons (je_d jd_bl) (jae_cons (je_lst jae_nil) jae_nil))))))
    (jss_cons (js_set sc_law_rows.nd (je_call (ok_law_go t 10) (hr.mono (by decide)) t.g__law_go (ja_v (jd_var (pv 0)) (ja_v (jd_var (pv 1)) (ja_v (jd_var (pv 4)) (ja_b (pv 5) ja_nil))))))
    (jss_one (js_if (jt_val (jd_pl (jp_ix (jp_name (pv 5)) jd_int))) (jss_one (js_set sc_law_rows.nd (je_add (jd_var (pv 3)) (jd_e (je_lst (jae_cons (je_add (jd_var (pv 4)) (jd_tup (jad_cons jd_bl jad_nil))) (jae_cons (je_add (jd_var (pv 4)) (jd_tup (jad_cons jd_bl jad_nil))) jae_nil))))))) (jss_one (js_expr (jd_app (jp_name (pv 2)) (je_d (jd_tup (jad_cons (jd_var (pv 4)) (jad_cons (jd_if (jt_val (jd_pl (jp_ix (jp_name (pv 5)) jd_int))) jd_non (jd_var (pv 6))) (jad_cons (jd_pl (jp_ix (jp_name (pv 5)) jd_int)) jad_nil))))))))))))))
    (jss_one (js_ret (je_mv (pv 2))))))
end
end Lw

/-! K77W_law_chance -/
set_option Elab.async false
set_option linter.all false
set_option maxRecDepth 100000
set_option maxHeartbeats 4000000
namespace Lw
open PySem PySem.Spec PyProof.Rows L2 Fw
section
variable {P : Program} {w : World} {K : PySem.W.Frag} {mg : Str → Option Value} {base : Heap}
/-! _law_chance -/
def l_law_chance_1 : MS := (mAsg (mCallF f_law_times [none, none] (mCons (mT (mVar 2)) (mCons (mT (mF (mIf (mB (mVar 4)) (mT (mOp oIx (mVar 0) (mVar 3))) (mCallF f_law_minus [none, none] (mCons (mT (mTup (mCons (mRet (.int 1)) (mCons (mRet (.int 1)) (mRet []))))) (mCons (mT (mOp oIx (mVar 0) (mVar 3))) (mRet []))))))) (mRet [])))) (gNm 2))
def b_law_chance : MS := (mSeq (mAsg (mT (mTup (mCons (mRet (.int 1)) (mCons (mRet (.int 1)) (mRet []))))) (gNm 2))
    (mSeq (mFor (mSq (mVar 1)) (gTupM (gCons (gNm 3) (gCons (gNm 4) gNil))) l_law_chance_1)
    (mRetT (mMv 2))))
def f_law_chance : Fn := mkFn 2 5 [2, 3, 4] (b_law_chance)
theorem ok_law_chance (t : Top P w K mg base) : FnT P w K mg base (He.fAd K d_law_chance.at_) 4 ["shares", "pairs"] (f_law_chance) := by
  obtain ⟨fd, F, B⟩ := t.b_law_chance
  exact fnT_of (k := 3) (np := 2) (nn := 5) (W := [2, 3, 4]) (body := b_law_chance) F sc_law_chance B fun cdv A outer s H E hr => (jss_cons (js_set sc_law_chance.nd (je_d (jd_tup (jad_cons jd_int (jad_cons jd_int jad_nil)))))
    (jss_cons (js_for PassesOwn.never rfl (ji_seq (jd_var (pv 1))) (jg_t2 rfl (jg_name sc_law_chance.nd) (jg_name sc_law_chance.nd)) (jss_one (js_set sc_law_chance.nd (je_call (ok_law_times t) (hr.mono (by decide)) t.g__law_times (ja_v (jd_var (pv 2)) (ja_v (jd_e (je_if (jt_val (jd_var (pv 4))) (je_d (jd_ix (jd_var (pv 0)) (jd_var (pv 3)))) (je_call (ok_law_minus t) (hr.mono (by decide)) t.g__law_minus (ja_v (jd_tup (jad_cons jd_int (jad_cons jd_int jad_nil))) (ja_v (jd_ix (jd_var (pv 0)) (jd_var (pv 3))) ja_nil))))) ja_nil))))))
    (jss_one (js_ret (je_mv (pv 2))))))
end
end Lw

/-! K77W_law_masses -/
set_option Elab.async false
set_option linter.all false
set_option maxRecDepth 100000
set_option maxHeartbeats 4000000
namespace Lw
open PySem PySem.Spec PyProof.Rows L2 Fw
section
variable {P : Program} {w : World} {K : PySem.W.Frag} {mg : Str → Option Value} {base : Heap}
/-! _law_masses -/
def l_law_masses_1 : MS := (mIfS (mB (mOp oIsNot (mVar 4) (mRet .non))) (mAsg (mCallF f_law_plus [none, none] (mCons (mT (mPl (pIx (pNm 2) (mVar 4)))) (mCons (mT (mF (mCallF f_law_chance [none, none] (mCons (mT (mVar 1)) (mCons (mT (mVar 5)) (mRet [])))))) (mRet [])))) (gIx (pNm 2) (mVar 4))) mNx)
def b_law_masses : MS := (mSeq (mAsg (mOpT oMul (mF (mLst (mCons (mT (mTup (mCons (mRet (.int 0)) (mCons (mRet (.int 1)) (mRet []))))) (mRet [])))) (mOp oShl (mRet (.int 1)) (mOp oIx (mVar 0) (mRet (.int 0))))) (gNm 2))
    (mSeq (mFor (mSq (mF (mCallF f_law_rows [none, none] (mCons (mT (mOp oIx (mVar 0) (mRet (.int 2)))) (mCons (mT (mRet (.int 0))) (mRet [])))))) (gTupM (gCons (gNm 3) (gCons (gNm 4) (gCons (gNm 5) gNil)))) l_law_masses_1)
    (mRetT (mMv 2))))
def f_law_masses : Fn := mkFn 2 6 [2, 3, 4, 5] (b_law_masses)
theorem ok_law_masses (t : Top P w K mg base) : FnT P w K mg base (He.fAd K d_law_masses.at_) 24 ["program", "shares"] (f_law_masses) := by
  obtain ⟨fd, F, B⟩ := t.b_law_masses
  exact fnT_of (k := 23) (np := 2) (nn := 6) (W := [2, 3, 4, 5]) (body := b_law_masses) F sc_law_masses B fun cdv A outer s H E hr => (jss_cons (js_set sc_law_masses.nd (je_mul (jd_e (je_lst (jae_cons (je_d (jd_tup (jad_cons jd_int (jad_cons jd_int jad_nil)))) jae_nil))) (jd_op o_shl.d jd_int (jd_ix (jd_var (pv 0)) jd_int))))
    (jss_cons (js_for PassesOwn.never rfl (ji_seq (jd_e (je_call (ok_law_rows t) (hr.mono (by decide)) t.g__law_rows (ja_v (jd_ix (jd_var (pv 0)) jd_int) (ja_v jd_int ja_nil))))) (jg_t3 rfl (jg_name sc_law_masses.nd) (jg_name sc_law_masses.nd) (jg_name sc_law_masses.nd)) (jss_one (js_if (jt_cmp o_isNot.d (jd_var (pv 4)) jd_non) (jss_one (js_asg (je_call (ok_law_plus t) (hr.mono (by decide)) t.g__law_plus (ja_v (jd_pl (jp_ix (jp_name (pv 2)) (jd_var (pv 4)))) (ja_v (jd_e (je_call (ok_law_chance t) (hr.mono (by decide)) t.g__law_chance (ja_v (jd_var (pv 1)) (ja_v (jd_var (pv 5)) ja_nil)))) ja_nil))) (jg_ix (jp_name (pv 2)) (jd_var (pv 4))))) jss_nil)))
    (jss_one (js_ret (je_mv (pv 2))))))
end
end Lw

/-! K77W_law_changed -/
set_option Elab.async false
set_option linter.all false
set_option maxRecDepth 100000
set_option maxHeartbeats 4000000
namespace Lw
open PySem PySem.Spec PyProof.Rows L2 Fw
section
variable {P : Program} {w : World} {K : PySem.W.Frag} {mg : Str → Option Value} {base : Heap}
/-! _law_changed -/
def b_law_changed : MS := (mSeq (mAsg (mT (mVar 1)) (gTupM (gCons (gNm 2) (gCons (gNm 3) (gCons (gNm 4) gNil)))))
    (mSeq (mAsg (mCallF f_law_draw [some 0, none] (mCons (mMv 0) (mCons (mT (mRet (.int 6))) (mRet [])))) (gNm 5))
    (mSeq (mIfS (mB (mOp oEq (mVar 5) (mRet (.int 0)))) (mRetT (mT (mTup (mCons (mVar 2) (mCons (mVar 3) (mCons (mF (mOpT oAdd (mVar 4) (mTup (mCons (mTup (mCons (mRet (.str "set")) (mCons (mRet (.int 0)) (mCons (mTup (mCons (mRet (.str "letter")) (mCons (mRet (.int 0)) (mRet [])))) (mRet []))))) (mRet []))))) (mRet []))))))) mNx)
    (mSeq (mIfS (mAndT (mB (mOp oEq (mVar 5) (mRet (.int 1)))) (mB (mOp oGt (mCall bLen (mCons (mVar 4) (mRet []))) (mRet (.int 1))))) (mRetT (mT (mTup (mCons (mVar 2) (mCons (mVar 3) (mCons (mF (mOpT oAdd (mF (mSl (mVar 4) (mPart (mRet (.int 1))) mPartN slO)) (mF (mSl (mVar 4) mPartN (mPart (mRet (.int 1))) slO)))) (mRet []))))))) mNx)
    (mSeq (mIfS (mB (mOp oEq (mVar 5) (mRet (.int 2)))) (mRetT (mT (mTup (mCons (mVar 2) (mCons (mVar 3) (mCons (mTup (mCons (mTup (mCons (mRet (.str "rounds")) (mCons (mRet (.int 1)) (mCons (mVar 4) (mRet []))))) (mRet []))) (mRet []))))))) mNx)
    (mSeq (mIfS (mB (mOp oEq (mVar 5) (mRet (.int 3)))) (mRetT (mT (mTup (mCons (mVar 2) (mCons (mVar 3) (mCons (mTup (mCons (mTup (mCons (mRet (.str "if")) (mCons (mTup (mCons (mRet (.str "letter")) (mCons (mRet (.int 0)) (mRet [])))) (mCons (mTup (mRet [])) (mCons (mVar 4) (mRet [])))))) (mRet []))) (mRet []))))))) mNx)
    (mSeq (mIfS (mB (mOp oEq (mVar 5) (mRet (.int 4)))) (mRetT (mT (mTup (mCons (mVar 2) (mCons (mVar 3) (mCons (mF (mOpT oAdd (mTup (mCons (mTup (mCons (mRet (.str "draw")) (mCons (mOp oSub (mVar 2) (mRet (.int 1))) (mCons (mRet (.int 0)) (mRet []))))) (mRet []))) (mVar 4))) (mRet []))))))) mNx)
    (mRetT (mT (mTup (mCons (mVar 2) (mCons (mVar 3) (mCons (mOp oIx (mF (mCallF (f_law_block 5) [some 0, none, none, none, none] (mCons (mMv 0) (mCons (mT (mVar 2)) (mCons (mT (mCall bLen (mCons (mVar 3) (mRet [])))) (mCons (mT (mRet (.int 4))) (mCons (mT (mRet (.int 2))) (mRet [])))))))) (mRet (.int 0))) (mRet []))))))))))))))
def f_law_changed : Fn := mkFn 2 6 [2, 3, 4, 5] (b_law_changed)
theorem ok_law_changed (t : Top P w K mg base) : FnT P w K mg base (He.fAd K d_law_changed.at_) 14 ["hand", "program"] (f_law_changed) := by
  obtain ⟨fd, F, B⟩ := t.b_law_changed
  exact fnT_of (k := 13) (np := 2) (nn := 6) (W := [2, 3, 4, 5]) (body := b_law_changed) F sc_law_changed B fun cdv A outer s H E hr => (jss_cons (js_asg (je_d (jd_var (pv 1))) (jg_t3 rfl (jg_name sc_law_changed.nd) (jg_name sc_law_changed.nd) (jg_name sc_law_changed.nd)))
    (jss_cons (js_set sc_law_changed.nd (je_call (ok_law_draw t) (hr.mono (by decide)) t.g__law_draw (ja_b (pv 0) (ja_v jd_int ja_nil))))
    (jss_cons (js_if (jt_cmp (o_eq hr.units).d (jd_var (pv 5)) jd_int) (jss_one (js_ret (je_d (jd_tup (jad_cons (jd_var (pv 2)) (jad_cons (jd_var (pv 3)) (jad_cons (jd_e (je_add (jd_var (pv 4)) (jd_tup (jad_cons (jd_tup (jad_cons jd_str (jad_cons jd_int (jad_cons (jd_tup (jad_cons jd_str (jad_cons jd_int jad_nil))) jad_nil)))) jad_nil)))) jad_nil))))))) jss_nil)
    (jss_cons (js_if (jt_w (jw_and (jt_cmp (o_eq hr.units).d (jd_var (pv 5)) jd_int) (jw_and1 (jt_cmp o_gt.d (jd_callB b_len t.n_len (jad_cons (jd_var (pv 4)) jad_nil)) jd_int)))) (jss_one (js_ret (je_d (jd_tup (jad_cons (jd_var (pv 2)) (jad_cons (jd_var (pv 3)) (jad_cons (jd_e (je_add (jd_e (je_sl (jd_var (pv 4)) (jo_some jd_int) jo_none)) (jd_e (je_sl (jd_var (pv 4)) jo_none (jo_some jd_int))))) jad_nil))))))) jss_nil)
    (jss_cons (js_if (jt_cmp (o_eq hr.units).d (jd_var (pv 5)) jd_int) (jss_one (js_ret (je_d (jd_tup (jad_cons (jd_var (pv 2)) (jad_cons (jd_var (pv 3)) (jad_cons (jd_tup (jad_cons (jd_tup (jad_cons jd_str (jad_cons jd_int (jad_cons (jd_var (pv 4)) jad_nil)))) jad_nil)) jad_nil))))))) jss_nil)
    (jss_cons (js_if (jt_cmp (o_eq hr.units).d (jd_var (pv 5)) jd_int) (jss_one (js_ret (je_d (jd_tup (jad_cons (jd_var (pv 2)) (jad_cons (jd_var (pv 3)) (jad_cons (jd_tup (jad_cons (jd_tup (jad_cons jd_str (jad_cons (jd_tup (jad_cons jd_str (jad_cons jd_int jad_nil))) (jad_cons (jd_tup jad_nil) (jad_cons (jd_var (pv 4)) jad_nil))))) jad_nil)) jad_nil))))))) jss_nil)
    (jss_cons (js_if (jt_cmp (o_eq hr.units).d (jd_var (pv 5)) jd_int) (jss_one (js_ret (je_d (jd_tup (jad_cons (jd_var (pv 2)) (jad_cons (jd_var (pv 3)) (jad_cons (jd_e (je_add (jd_tup (jad_cons (jd_tup (jad_cons jd_str (jad_cons (jd_op o_sub.d (jd_var (pv 2)) jd_int) (jad_cons jd_int jad_nil)))) jad_nil)) (jd_var (pv 4)))) jad_nil))))))) jss_nil)
    (jss_one (js_ret (je_d (jd_tup (jad_cons (jd_var (pv 2)) (jad_cons (jd_var (pv 3)) (jad_cons (jd_ix (jd_e (je_call (ok_law_block t 5) (hr.mono (by decide)) t.g__law_block (ja_b (pv 0) (ja_v (jd_var (pv 2)) (ja_v (jd_callB b_len t.n_len (jad_cons (jd_var (pv 3)) jad_nil)) (ja_v jd_int (ja_v jd_int ja_nil))))))) jd_int) jad_nil))))))))))))))
end
end Lw

/-! K77W_law_far -/
set_option Elab.async false
set_option linter.all false
set_option maxRecDepth 100000
set_option maxHeartbeats 4000000
namespace Lw
open PySem PySem.Spec PyProof.Rows L2 Fw
section
variable {P : Program} {w : World} {K : PySem.W.Frag} {mg : Str → Option Value} {base : Heap}
/-! _law_far -/
def q_law_far_1 : M T := mLc [4] (mIt rng1 (mCons (mCall bLen (mCons (mVar 2) (mRet []))) (mRet []))) (gNm 4) (mB (mF (mCallF f_law_less [none, none] (mCons (mT (mOp oIx (mVar 3) (mVar 4))) (mCons (mT (mOp oIx (mVar 2) (mVar 4))) (mRet [])))))) (mCallF f_law_minus [none, none] (mCons (mT (mOp oIx (mVar 2) (mVar 4))) (mCons (mT (mOp oIx (mVar 3) (mVar 4))) (mRet []))))
def b_law_far : MS := (mSeq (mAsg (mTupT (mCons (mCallF f_law_masses [none, none] (mCons (mT (mVar 0)) (mCons (mT (mOp oIx (mVar 0) (mRet (.int 1)))) (mRet [])))) (mCons (mCallF f_law_masses [none, none] (mCons (mT (mVar 1)) (mCons (mT (mOp oIx (mVar 1) (mRet (.int 1)))) (mRet [])))) (mRet [])))) (gTupM (gCons (gNm 2) (gCons (gNm 3) gNil))))
    (mSeq (mAsg (mTupT (mCons (mOpT oAdd (mVar 2) (mF (mLst (mCons (mCallF f_law_minus [none, none] (mCons (mT (mTup (mCons (mRet (.int 1)) (mCons (mRet (.int 1)) (mRet []))))) (mCons (mT (mF (mCallF f_law_sum [none] (mCons (mT (mVar 2)) (mRet []))))) (mRet [])))) (mRet []))))) (mCons (mOpT oAdd (mVar 3) (mF (mLst (mCons (mCallF f_law_minus [none, none] (mCons (mT (mTup (mCons (mRet (.int 1)) (mCons (mRet (.int 1)) (mRet []))))) (mCons (mT (mF (mCallF f_law_sum [none] (mCons (mT (mVar 3)) (mRet []))))) (mRet [])))) (mRet []))))) (mRet [])))) (gTupM (gCons (gNm 2) (gCons (gNm 3) gNil))))
    (mRetT (mCallF f_law_sum [none] (mCons (mT (mF q_law_far_1)) (mRet []))))))
def f_law_far : Fn := mkFn 2 5 [2, 3] (b_law_far)
theorem ok_law_far (t : Top P w K mg base) : FnT P w K mg base (He.fAd K d_law_far.at_) 25 ["one", "other"] (f_law_far) := by
  obtain ⟨fd, F, B⟩ := t.b_law_far
  exact fnT_of (k := 24) (np := 2) (nn := 5) (W := [2, 3]) (body := b_law_far) F sc_law_far B fun cdv A outer s H E hr => (jss_cons (js_asg (je_tup (jae_cons (je_call (ok_law_masses t) (hr.mono (by decide)) t.g__law_masses (ja_v (jd_var (pv 0)) (ja_v (jd_ix (jd_var (pv 0)) jd_int) ja_nil))) (jae_cons (je_call (ok_law_masses t) (hr.mono (by decide)) t.g__law_masses (ja_v (jd_var (pv 1)) (ja_v (jd_ix (jd_var (pv 1)) jd_int) ja_nil))) jae_nil))) (jg_t2 rfl (jg_name sc_law_far.nd) (jg_name sc_law_far.nd)))
    (jss_cons (js_asg (je_tup (jae_cons (je_add (jd_var (pv 2)) (jd_e (je_lst (jae_cons (je_call (ok_law_minus t) (hr.mono (by decide)) t.g__law_minus (ja_v (jd_tup (jad_cons jd_int (jad_cons jd_int jad_nil))) (ja_v (jd_e (je_call (ok_law_sum t) (hr.mono (by decide)) t.g__law_sum (ja_v (jd_var (pv 2)) ja_nil))) ja_nil))) jae_nil)))) (jae_cons (je_add (jd_var (pv 3)) (jd_e (je_lst (jae_cons (je_call (ok_law_minus t) (hr.mono (by decide)) t.g__law_minus (ja_v (jd_tup (jad_cons jd_int (jad_cons jd_int jad_nil))) (ja_v (jd_e (je_call (ok_law_sum t) (hr.mono (by decide)) t.g__law_sum (ja_v (jd_var (pv 3)) ja_nil))) ja_nil))) jae_nil)))) jae_nil))) (jg_t2 rfl (jg_name sc_law_far.nd) (jg_name sc_law_far.nd)))
    (jss_one (js_ret (je_call (ok_law_sum t) (hr.mono (by decide)) t.g__law_sum (ja_v (jd_e (je_lc (own := [("at", 4)]) rfl sc_law_far.nd (ji_range1 t.n_range (jad_cons (jd_callB b_len t.n_len (jad_cons (jd_var (pv 2)) jad_nil)) jad_nil)) (blkOk_by (by kernel_rfl)) (fun _ _ _ _ _ => (jg_name sc_law_far.nd)) (fun _ _ _ _ _ => (jpt_one (jt_val (jd_e (je_call (ok_law_less t) (hr.mono (by decide)) t.g__law_less (ja_v (jd_ix (jd_var (pv 3)) (jd_var (pv 4))) (ja_v (jd_ix (jd_var (pv 2)) (jd_var (pv 4))) ja_nil))))))) (fun _ _ _ _ _ => (je_call (ok_law_minus t) (hr.mono (by decide)) t.g__law_minus (ja_v (jd_ix (jd_var (pv 2)) (jd_var (pv 4))) (ja_v (jd_ix (jd_var (pv 3)) (jd_var (pv 4))) ja_nil)))))) ja_nil))))))
end
end Lw

/-! K77W_law -/
set_option Elab.async false
set_option linter.all false
set_option maxRecDepth 100000
set_option maxHeartbeats 4000000
namespace Lw
open PySem PySem.Spec PyProof.Rows L2 Fw
section
variable {P : Program} {w : World} {K : PySem.W.Frag} {mg : Str → Option Value} {base : Heap}
/-! law -/
def l_law_1 (K : PySem.W.Frag) : MS := (mSeq (mAsg (mCallF f_law_program [some 1, none, none] (mCons (mMv 1) (mCons (mT (mRet (.int 3))) (mCons (mT (mRet (.int 3))) (mRet []))))) (gNm 3))
    (mSeq (mAsg (mCallF f_law_changed [some 1, none] (mCons (mMv 1) (mCons (mT (mVar 3)) (mRet [])))) (gNm 4))
    (mSeq (mAsg (mT (mOp oIx (mF (mCallF (f_law_block 5) [some 1, none, none, none, none] (mCons (mMv 1) (mCons (mT (mOp oIx (mVar 3) (mRet (.int 0)))) (mCons (mT (mCall bLen (mCons (mOp oIx (mVar 3) (mRet (.int 1))) (mRet [])))) (mCons (mT (mRet (.int 3))) (mCons (mT (mRet (.int 1))) (mRet [])))))))) (mRet (.int 0)))) (gNm 5))
    (mSeq (mAsg (mLst (mCons (mOpT oAdd (mOp oIx (mVar 3) (mRet (.int 2))) (mVar 5)) (mCons (mOpT oAdd (mOp oIx (mVar 4) (mRet (.int 2))) (mVar 5)) (mRet [])))) (gNm 6))
    (mSeq (mPar 7 8 (mCons (mT (mTup (mCons (mOp oIx (mVar 3) (mRet (.int 0))) (mCons (mOp oIx (mVar 3) (mRet (.int 1))) (mCons (mOp oIx (mVar 6) (mRet (.int 0))) (mRet [])))))) (mCons (mT (mTup (mCons (mOp oIx (mVar 3) (mRet (.int 0))) (mCons (mOp oIx (mVar 3) (mRet (.int 1))) (mCons (mOp oIx (mVar 6) (mRet (.int 1))) (mRet [])))))) (mRet []))))
    (mSeq (mIfS (mOrT (mB (mOp oIsNot (mF (mCallF f_is_program [none] (mCons (mT (mVar 7)) (mRet [])))) (mRet (.bl true)))) (mB (mOp oIsNot (mF (mCallF f_is_program [none] (mCons (mT (mVar 8)) (mRet [])))) (mRet (.bl true))))) (mRetT (mT (mRet (.bl false)))) mNx)
    (mSeq (mPar 9 10 (mCons (mCallF f_law_far [none, none] (mCons (mT (mVar 3)) (mCons (mT (mVar 4)) (mRet [])))) (mCons (mCallF f_law_far [none, none] (mCons (mT (mVar 7)) (mCons (mT (mVar 8)) (mRet [])))) (mRet []))))
    (mSeq (mIfS (mOrT (mNotT (mB (mF (mCallF (f_law_kept 6) [none, none] (mCons (mT (mF (mCallF (f_distance K) [none, none] (mCons (mT (mVar 3)) (mCons (mT (mVar 4)) (mRet [])))))) (mCons (mT (mVar 9)) (mRet []))))))) (mOrT (mNotT (mB (mF (mCallF (f_law_kept 6) [none, none] (mCons (mT (mF (mCallF (f_distance K) [none, none] (mCons (mT (mVar 7)) (mCons (mT (mVar 8)) (mRet [])))))) (mCons (mT (mVar 10)) (mRet []))))))) (mB (mF (mCallF f_law_less [none, none] (mCons (mT (mVar 9)) (mCons (mT (mVar 10)) (mRet [])))))))) (mRetT (mT (mRet (.bl false)))) mNx)
    (mSeq (mIfS (mOrT (mB (mOp oIsNot (mF (mCallF (f_is_drawn_together K) [none, none, none] (mCons (mT (mVar 7)) (mCons (mT (mVar 8)) (mCons (mT (mF (mCallF (f_drawn_together K) [none, none] (mCons (mT (mVar 7)) (mCons (mT (mVar 8)) (mRet [])))))) (mRet [])))))) (mRet (.bl true)))) (mB (mOp oNe (mOp oGt (mCall bLen (mCons (mF (mCallF (f_telling_lot K) [none, none] (mCons (mT (mVar 7)) (mCons (mT (mVar 8)) (mRet []))))) (mRet []))) (mRet (.int 0))) (mOp oGt (mOp oIx (mVar 10) (mRet (.int 0))) (mRet (.int 0)))))) (mRetT (mT (mRet (.bl false)))) mNx)
    (mSeq (mAsg (mCallF f_law_changed [some 1, none] (mCons (mMv 1) (mCons (mT (mVar 4)) (mRet [])))) (gNm 11))
    (mSeq (mIfS (mB (mF (mCallF f_law_less [none, none] (mCons (mT (mF (mCallF f_law_plus [none, none] (mCons (mT (mF (mCallF (f_distance K) [none, none] (mCons (mT (mVar 3)) (mCons (mT (mVar 4)) (mRet [])))))) (mCons (mT (mF (mCallF (f_distance K) [none, none] (mCons (mT (mVar 4)) (mCons (mT (mVar 11)) (mRet [])))))) (mRet [])))))) (mCons (mT (mF (mCallF (f_distance K) [none, none] (mCons (mT (mVar 3)) (mCons (mT (mVar 11)) (mRet [])))))) (mRet [])))))) (mRetT (mT (mRet (.bl false)))) mNx)
    (mIfS (mB (mOp oNe (mOp oEq (mOp oIx (mF (mCallF (f_distance K) [none, none] (mCons (mT (mVar 7)) (mCons (mT (mVar 8)) (mRet []))))) (mRet (.int 0))) (mRet (.int 0))) (mOp oEq (mOp oIx (mF (mCallF (f_outcome K) [none] (mCons (mT (mVar 7)) (mRet [])))) (mRet (.int 0))) (mOp oIx (mF (mCallF (f_outcome K) [none] (mCons (mT (mVar 8)) (mRet [])))) (mRet (.int 0)))))) (mRetT (mT (mRet (.bl false)))) mNx))))))))))))
def b_law (K : PySem.W.Frag) : MS := (mSeq (mAsg (mCallF f_law_hand [none] (mCons (mT (mVar 0)) (mRet []))) (gNm 1))
    (mSeq (mFor (mIt rng1 (mCons (mRet (.int 3)) (mRet []))) (gNm 2) (l_law_1 K))
    (mRetT (mT (mRet (.bl true))))))
def f_law (K : PySem.W.Frag) : Fn := mkFn 1 12 [1, 2, 3, 4, 5, 6, 7, 8, 9, 10, 11] (b_law K)
theorem ok_law (t : Top P w K mg base) : FnT P w K mg base (He.fAd K d_law.at_) 35 ["script"] (f_law K) := by
  obtain ⟨fd, F, B⟩ := t.b_law
  exact fnT_of (k := 34) (np := 1) (nn := 12) (W := [1, 2, 3, 4, 5, 6, 7, 8, 9, 10, 11]) (body := b_law K) F sc_law B fun cdv A outer s H E hr => (jss_cons (js_set sc_law.nd (je_call (ok_law_hand t) (hr.mono (by decide)) t.g__law_hand (ja_v (jd_var (pv 0)) ja_nil)))
    (jss_cons (js_for PassesOwn.never rfl (ji_range1 t.n_range (jad_cons jd_int jad_nil)) (jg_name sc_law.nd) (jss_cons (js_set sc_law.nd (je_call (ok_law_program t) (hr.mono (by decide)) t.g__law_program (ja_b (pv 1) (ja_v jd_int (ja_v jd_int ja_nil)))))
    (jss_cons (js_set sc_law.nd (je_call (ok_law_changed t) (hr.mono (by decide)) t.g__law_changed (ja_b (pv 1) (ja_v (jd_var (pv 3)) ja_nil))))
    (jss_cons (js_set sc_law.nd (je_d (jd_ix (jd_e (je_call (ok_law_block t 5) (hr.mono (by decide)) t.g__law_block (ja_b (pv 1) (ja_v (jd_ix (jd_var (pv 3)) jd_int) (ja_v (jd_callB b_len t.n_len (jad_cons (jd_ix (jd_var (pv 3)) jd_int) jad_nil)) (ja_v jd_int (ja_v jd_int ja_nil))))))) jd_int)))
    (jss_cons (js_set sc_law.nd (je_lst (jae_cons (je_add (jd_ix (jd_var (pv 3)) jd_int) (jd_var (pv 5))) (jae_cons (je_add (jd_ix (jd_var (pv 4)) jd_int) (jd_var (pv 5))) jae_nil))))
    (jss_cons (js_par rfl sc_law.nd (jae_cons (je_d (jd_tup (jad_cons (jd_ix (jd_var (pv 3)) jd_int) (jad_cons (jd_ix (jd_var (pv 3)) jd_int) (jad_cons (jd_ix (jd_var (pv 6)) jd_int) jad_nil))))) (jae_cons (je_d (jd_tup (jad_cons (jd_ix (jd_var (pv 3)) jd_int) (jad_cons (jd_ix (jd_var (pv 3)) jd_int) (jad_cons (jd_ix (jd_var (pv 6)) jd_int) jad_nil))))) jae_nil)))
    (jss_cons (js_if (jt_w (jw_or (jt_cmp o_isNot.d (jd_e (je_call (ok_is_program t) (hr.mono (by decide)) t.g_is_program (ja_v (jd_var (pv 7)) ja_nil))) jd_bl) (jw_or1 (jt_cmp o_isNot.d (jd_e (je_call (ok_is_program t) (hr.mono (by decide)) t.g_is_program (ja_v (jd_var (pv 8)) ja_nil))) jd_bl)))) (jss_one (js_ret (je_d jd_bl))) jss_nil)
    (jss_cons (js_par rfl sc_law.nd (jae_cons (je_call (ok_law_far t) (hr.mono (by decide)) t.g__law_far (ja_v (jd_var (pv 3)) (ja_v (jd_var (pv 4)) ja_nil))) (jae_cons (je_call (ok_law_far t) (hr.mono (by decide)) t.g__law_far (ja_v (jd_var (pv 7)) (ja_v (jd_var (pv 8)) ja_nil))) jae_nil)))
    (jss_cons (js_if (jt_w (jw_or (jt_not (jt_val (jd_e (je_call (ok_law_kept t 6) (hr.mono (by decide)) t.g__law_kept (ja_v (jd_e (je_call (ok_distance t) (hr.mono (by decide)) t.g_distance (ja_v (jd_var (pv 3)) (ja_v (jd_var (pv 4)) ja_nil)))) (ja_v (jd_var (pv 9)) ja_nil)))))) (jw_or (jt_not (jt_val (jd_e (je_call (ok_law_kept t 6) (hr.mono (by decide)) t.g__law_kept (ja_v (jd_e (je_call (ok_distance t) (hr.mono (by decide)) t.g_distance (ja_v (jd_var (pv 7)) (ja_v (jd_var (pv 8)) ja_nil)))) (ja_v (jd_var (pv 10)) ja_nil)))))) (jw_or1 (jt_val (jd_e (je_call (ok_law_less t) (hr.mono (by decide)) t.g__law_less (ja_v (jd_var (pv 9)) (ja_v (jd_var (pv 10)) ja_nil))))))))) (jss_one (js_ret (je_d jd_bl))) jss_nil)
    (jss_cons (js_if (jt_w (jw_or (jt_cmp o_isNot.d (jd_e (je_call (ok_is_drawn_together t) (hr.mono (by decide)) t.g_is_drawn_together (ja_v (jd_var (pv 7)) (ja_v (jd_var (pv 8)) (ja_v (jd_e (je_call (ok_drawn_together t) (hr.mono (by decide)) t.g_drawn_together (ja_v (jd_var (pv 7)) (ja_v (jd_var (pv 8)) ja_nil)))) ja_nil))))) jd_bl) (jw_or1 (jt_cmp (o_ne hr.units).d (jd_cmp o_gt.d (jd_callB b_len t.n_len (jad_cons (jd_e (je_call (ok_telling_lot t) (hr.mono (by decide)) t.g_telling_lot (ja_v (jd_var (pv 7)) (ja_v (jd_var (pv 8)) ja_nil)))) jad_nil)) jd_int) (jd_cmp o_gt.d (jd_ix (jd_var (pv 10)) jd_int) jd_int))))) (jss_one (js_ret (je_d jd_bl))) jss_nil)
    (jss_cons (js_set sc_law.nd (je_call (ok_law_changed t) (hr.mono (by decide)) t.g__law_changed (ja_b (pv 1) (ja_v (jd_var (pv 4)) ja_nil))))
    (jss_cons (js_if (jt_val (jd_e (je_call (ok_law_less t) (hr.mono (by decide)) t.g__law_less (ja_v (jd_e (je_call (ok_law_plus t) (hr.mono (by decide)) t.g__law_plus (ja_v (jd_e (je_call (ok_distance t) (hr.mono (by decide)) t.g_distance (ja_v (jd_var (pv 3)) (ja_v (jd_var (pv 4)) ja_nil)))) (ja_v (jd_e (je_call (ok_distance t) (hr.mono (by decide)) t.g_distance (ja_v (jd_var (pv 4)) (ja_v (jd_var (pv 11)) ja_nil)))) ja_nil)))) (ja_v (jd_e (je_call (ok_distance t) (hr.mono (by decide)) t.g_distance (ja_v (jd_var (pv 3)) (ja_v (jd_var (pv 11)) ja_nil)))) ja_nil))))) (jss_one (js_ret (je_d jd_bl))) jss_nil)
    (jss_one (js_if (jt_cmp (o_ne hr.units).d (jd_cmp (o_eq hr.units).d (jd_ix (jd_e (je_call (ok_distance t) (hr.mono (by decide)) t.g_distance (ja_v (jd_var (pv 7)) (ja_v (jd_var (pv 8)) ja_nil)))) jd_int) jd_int) (jd_cmp (o_eq hr.units).d (jd_ix (jd_e (je_call (ok_outcome t) (hr.mono (by decide)) t.g_outcome (ja_v (jd_var (pv 7)) ja_nil))) jd_int) (jd_ix (jd_e (je_call (ok_outcome t) (hr.mono (by decide)) t.g_outcome (ja_v (jd_var (pv 8)) ja_nil))) jd_int))) (jss_one (js_ret (je_d jd_bl))) jss_nil))))))))))))))
    (jss_one (js_ret (je_d jd_bl)))))
theorem okf_law (t : Top P w K mg base) {fd : FuncData} (F : FunD K d_law.name d_law.qual d_law.params d_law.body d_law.scope [] [] (He.fAd K d_law.at_) fd) (B : Binds K fd ["script"] []) : FnOk P w K mg base CX0 35 (He.fAd K d_law.at_) fd ["script"] (spT K (f_law K)) :=
  fnO_of (k := 34) (np := 1) (nn := 12) (W := [1, 2, 3, 4, 5, 6, 7, 8, 9, 10, 11]) (body := b_law K) F sc_law B fun cdv A outer s H E hr => (jss_cons (js_set sc_law.nd (je_call (ok_law_hand t) (hr.mono (by decide)) t.g__law_hand (ja_v (jd_var (pv 0)) ja_nil)))
    (jss_cons (js_for PassesOwn.never rfl (ji_range1 t.n_range (jad_cons jd_int jad_nil)) (jg_name sc_law.nd) (jss_cons (js_set sc_law.nd (je_call (ok_law_program t) (hr.mono (by decide)) t.g__law_program (ja_b (pv 1) (ja_v jd_int (ja_v jd_int ja_nil)))))
    (jss_cons (js_set sc_law.nd (je_call (ok_law_changed t) (hr.mono (by decide)) t.g__law_changed (ja_b (pv 1) (ja_v (jd_var (pv 3)) ja_nil))))
    (jss_cons (js_set sc_law.nd (je_d (jd_ix (jd_e (je_call (ok_law_block t 5) (hr.mono (by decide)) t.g__law_block (ja_b (pv 1) (ja_v (jd_ix (jd_var (pv 3)) jd_int) (ja_v (jd_callB b_len t.n_len (jad_cons (jd_ix (jd_var (pv 3)) jd_int) jad_nil)) (ja_v jd_int (ja_v jd_int ja_nil))))))) jd_int)))
    (jss_cons (js_set sc_law.nd (je_lst (jae_cons (je_add (jd_ix (jd_var (pv 3)) jd_int) (jd_var (pv 5))) (jae_cons (je_add (jd_ix (jd_var (pv 4)) jd_int) (jd_var (pv 5))) jae_nil))))
    (jss_cons (js_par rfl sc_law.nd (jae_cons (je_d (jd_tup (jad_cons (jd_ix (jd_var (pv 3)) jd_int) (jad_cons (jd_ix (jd_var (pv 3)) jd_int) (jad_cons (jd_ix (jd_var (pv 6)) jd_int) jad_nil))))) (jae_cons (je_d (jd_tup (jad_cons (jd_ix (jd_var (pv 3)) jd_int) (jad_cons (jd_ix (jd_var (pv 3)) jd_int) (jad_cons (jd_ix (jd_var (pv 6)) jd_int) jad_nil))))) jae_nil)))
    (jss_cons (js_if (jt_w (jw_or (jt_cmp o_isNot.d (jd_e (je_call (ok_is_program t) (hr.mono (by decide)) t.g_is_program (ja_v (jd_var (pv 7)) ja_nil))) jd_bl) (jw_or1 (jt_cmp o_isNot.d (jd_e (je_call (ok_is_program t) (hr.mono (by decide)) t.g_is_program (ja_v (jd_var (pv 8)) ja_nil))) jd_bl)))) (jss_one (js_ret (je_d jd_bl))) jss_nil)
    (jss_cons (js_par rfl sc_law.nd (jae_cons (je_call (ok_law_far t) (hr.mono (by decide)) t.g__law_far (ja_v (jd_var (pv 3)) (ja_v (jd_var (pv 4)) ja_nil))) (jae_cons (je_call (ok_law_far t) (hr.mono (by decide)) t.g__law_far (ja_v (jd_var (pv 7)) (ja_v (jd_var (pv 8)) ja_nil))) jae_nil)))
    (jss_cons (js_if (jt_w (jw_or (jt_not (jt_val (jd_e (je_call (ok_law_kept t 6) (hr.mono (by decide)) t.g__law_kept (ja_v (jd_e (je_call (ok_distance t) (hr.mono (by decide)) t.g_distance (ja_v (jd_var (pv 3)) (ja_v (jd_var (pv 4)) ja_nil)))) (ja_v (jd_var (pv 9)) ja_nil)))))) (jw_or (jt_not (jt_val (jd_e (je_call (ok_law_kept t 6) (hr.mono (by decide)) t.g__law_kept (ja_v (jd_e (je_call (ok_distance t) (hr.mono (by decide)) t.g_distance (ja_v (jd_var (pv 7)) (ja_v (jd_var (pv 8)) ja_nil)))) (ja_v (jd_var (pv 10)) ja_nil)))))) (jw_or1 (jt_val (jd_e (je_call (ok_law_less t) (hr.mono (by decide)) t.g__law_less (ja_v (jd_var (pv 9)) (ja_v (jd_var (pv 10)) ja_nil))))))))) (jss_one (js_ret (je_d jd_bl))) jss_nil)
    (jss_cons (js_if (jt_w (jw_or (jt_cmp o_isNot.d (jd_e (je_call (ok_is_drawn_together t) (hr.mono (by decide)) t.g_is_drawn_together (ja_v (jd_var (pv 7)) (ja_v (jd_var (pv 8)) (ja_v (jd_e (je_call (ok_drawn_together t) (hr.mono (by decide)) t.g_drawn_together (ja_v (jd_var (pv 7)) (ja_v (jd_var (pv 8)) ja_nil)))) ja_nil))))) jd_bl) (jw_or1 (jt_cmp (o_ne hr.units).d (jd_cmp o_gt.d (jd_callB b_len t.n_len (jad_cons (jd_e (je_call (ok_telling_lot t) (hr.mono (by decide)) t.g_telling_lot (ja_v (jd_var (pv 7)) (ja_v (jd_var (pv 8)) ja_nil)))) jad_nil)) jd_int) (jd_cmp o_gt.d (jd_ix (jd_var (pv 10)) jd_int) jd_int))))) (jss_one (js_ret (je_d jd_bl))) jss_nil)
    (jss_cons (js_set sc_law.nd (je_call (ok_law_changed t) (hr.mono (by decide)) t.g__law_changed (ja_b (pv 1) (ja_v (jd_var (pv 4)) ja_nil))))
    (jss_cons (js_if (jt_val (jd_e (je_call (ok_law_less t) (hr.mono (by decide)) t.g__law_less (ja_v (jd_e (je_call (ok_law_plus t) (hr.mono (by decide)) t.g__law_plus (ja_v (jd_e (je_call (ok_distance t) (hr.mono (by decide)) t.g_distance (ja_v (jd_var (pv 3)) (ja_v (jd_var (pv 4)) ja_nil)))) (ja_v (jd_e (je_call (ok_distance t) (hr.mono (by decide)) t.g_distance (ja_v (jd_var (pv 4)) (ja_v (jd_var (pv 11)) ja_nil)))) ja_nil)))) (ja_v (jd_e (je_call (ok_distance t) (hr.mono (by decide)) t.g_distance (ja_v (jd_var (pv 3)) (ja_v (jd_var (pv 11)) ja_nil)))) ja_nil))))) (jss_one (js_ret (je_d jd_bl))) jss_nil)
    (jss_one (js_if (jt_cmp (o_ne hr.units).d (jd_cmp (o_eq hr.units).d (jd_ix (jd_e (je_call (ok_distance t) (hr.mono (by decide)) t.g_distance (ja_v (jd_var (pv 7)) (ja_v (jd_var (pv 8)) ja_nil)))) jd_int) jd_int) (jd_cmp (o_eq hr.units).d (jd_ix (jd_e (je_call (ok_outcome t) (hr.mono (by decide)) t.g_outcome (ja_v (jd_var (pv 7)) ja_nil))) jd_int) (jd_ix (jd_e (je_call (ok_outcome t) (hr.mono (by decide)) t.g_outcome (ja_v (jd_var (pv 8)) ja_nil))) jd_int))) (jss_one (js_ret (je_d jd_bl))) jss_nil))))))))))))))
    (jss_one (js_ret (je_d jd_bl)))))
end
end Lw

/-! P1 -/
set_option Elab.async false
set_option linter.all false
set_option maxRecDepth 100000
set_option maxHeartbeats 4000000
namespace Lw
open PySem PySem.Spec PyProof.Rows L2 Fw
/-! ### fractions -/
def fr (q : Rat) : D := .tup [.int q.num, .int (q.den : Int)]
@[simp] theorem fr0 (q : Rat) : oIx (fr q) (.int 0) = some (.int q.num) := by simp [fr]
@[simp] theorem fr1 (q : Rat) : oIx (fr q) (.int 1) = some (.int (q.den : Int)) := by simp [fr]

theorem common_loop : ∀ (b a : Nat) (n : Nat), b < n → iterM w_common_1 l_common_1 n [some (.fz (.int (a : Int))), some (.fz (.int (b : Int)))] = some (.nx, [some (.fz (.int ((Nat.gcd a b : Nat) : Int))), some (.fz (.int 0))]) := by
  intro b
  induction b using Nat.strongRecOn with
  | _ b ih =>
    intro a n hn
    cases n with
    | zero => omega
    | succ n =>
      rw [a_iter]
      by_cases hb : 0 < b
      · have h2 := ih (a % b) (Nat.mod_lt _ hb) b n (by have := Nat.mod_lt a hb; omega)
        have h3 : Nat.gcd b (a % b) = Nat.gcd a b := by
          rw [Nat.gcd_comm a b, Nat.gcd_rec b a, Nat.gcd_comm]
        rw [h3] at h2
        simpa [hb, w_common_1, l_common_1] using h2
      · have : b = 0 := by omega
        subst this
        simp [w_common_1]
theorem v_common (a b : Nat) : f_common [.fz (.int (a : Int)), .fz (.int (b : Int))] = some (.fz (.int ((Nat.gcd a b : Nat) : Int)), [.fz (.int (a : Int)), .fz (.int (b : Int))]) := by
  refine fn_rt (e := [some (.fz (.int ((Nat.gcd a b : Nat) : Int))), some (.fz (.int 0))]) [.int (a : Int), .int (b : Int)] ?_
  have := common_loop b a (b + 1) (by omega)
  simp [b_common, this]

/-! a fraction that the two wide rules take -/
def Fit (q : Rat) : Prop := q.den < 2 ^ 2000 ∧ q.num.natAbs < 2 ^ 9000
theorem mul_ok {i j : Int} (hi : i.natAbs < 2 ^ 20000) (hj : j.natAbs < 2 ^ 20000) : CMulX i j := .inl (wide_mul hi hj (by decide) (by decide) (by decide))
theorem lt_mono {n a b : Nat} (h : n < 2 ^ a) (k : a ≤ b := by decide) : n < 2 ^ b := Nat.lt_of_lt_of_le h (Nat.pow_le_pow_right (by decide) k)
theorem Fit.m1 {a b : Rat} (ha : Fit a) (hb : Fit b) : CMulX a.num (b.den : Int) := mul_ok (lt_mono ha.2) (lt_mono hb.1)
theorem Fit.m2 {a b : Rat} (ha : Fit a) (hb : Fit b) : CMulX (a.den : Int) (b.den : Int) := mul_ok (lt_mono ha.1) (lt_mono hb.1)
theorem Fit.m3 {a b : Rat} (ha : Fit a) (hb : Fit b) : CMulX a.num b.num := mul_ok (lt_mono ha.2) (lt_mono hb.2)
@[simp] theorem c_zero : c_ZERO = fr 0 := rfl
@[simp] theorem c_one : c_ONE = fr 1 := rfl
theorem abs_eq (t : Int) : (if t < 0 then -t else t) = ((t.natAbs : Nat) : Int) := by
  by_cases h : t < 0
  · rw [if_pos h]; omega
  · rw [if_neg h]; omega
theorem v_share (t : Int) (b : Nat) (hb : b ≠ 0) (hd : b < 2 ^ 9000) : f_share [.fz (.int t), .fz (.int (b : Int))] = some (.fz (fr (mkRat t b)), [.fz (.int t), .fz (.int (b : Int))]) := by
  have hg : 0 < Nat.gcd t.natAbs b := Nat.gcd_pos_of_pos_right _ (by omega)
  have hle : Nat.gcd t.natAbs b ≤ b := Nat.gcd_le_right _ (by omega)
  have hc : CDivW t ((Nat.gcd t.natAbs b : Nat) : Int) := wide_div (b := 9000) (by omega) (by simp; omega) (by decide) (by decide)
  have hc2 : CDivW (b : Int) ((Nat.gcd t.natAbs b : Nat) : Int) := wide_div (b := 9000) (by omega) (by simp; omega) (by decide) (by decide)
  have e1 : (mkRat t b).num = t / ((Nat.gcd t.natAbs b : Nat) : Int) := by rw [Rat.num_mkRat, if_neg hb, Nat.gcd_comm]
  have e2 : (((mkRat t b).den : Nat) : Int) = (b : Int) / ((Nat.gcd t.natAbs b : Nat) : Int) := by rw [Rat.den_mkRat, if_neg hb, Nat.gcd_comm]; simp
  refine fn_rt (e := [some (.fz (.int t)), some (.fz (.int (b : Int))), some (.fz (.int ((Nat.gcd t.natAbs b : Nat) : Int)))]) [.int t, .int (b : Int)] ?_
  simp [b_share, b1I, abs_eq, v_common, hc, hc2, sizeLine, fr, e1, e2]
theorem num0 {q : Rat} : q.num = 0 ↔ q = 0 := Rat.num_eq_zero
theorem v_plus {a b : Rat} (ha : Fit a) (hb : Fit b) : f_plus [.fz (fr a), .fz (fr b)] = some (.fz (fr (a + b)), [.fz (fr a), .fz (fr b)]) := by
  refine fn_rt (e := [some (.fz (fr a)), some (.fz (fr b))]) [fr a, fr b] ?_
  have hd : a.den * b.den < 2 ^ 9000 := by
    have := Nat.mul_lt_mul'' ha.1 hb.1
    rw [← Nat.pow_add] at this
    exact lt_mono this
  by_cases h0 : a = 0
  · subst h0; simp [b_plus, oEq, Rat.zero_add]
  · by_cases h1 : b = 0
    · subst h1
      have h0' : ¬ a.num = 0 := fun h => h0 (num0.mp h)
      simp [b_plus, oEq, h0', Rat.add_zero]
    · have h0' : ¬ a.num = 0 := fun h => h0 (num0.mp h)
      have h1' : ¬ b.num = 0 := fun h => h1 (num0.mp h)
      have e := v_share (a.num * (b.den : Int) + b.num * (a.den : Int)) (a.den * b.den) (Nat.mul_ne_zero a.den_nz b.den_nz) hd
      rw [Int.natCast_mul] at e
      simp [b_plus, oEq, h0', h1', Fit.m1 ha hb, Fit.m1 hb ha, Fit.m2 ha hb, e, Rat.add_def']
theorem neg_fr (b : Rat) : (D.tup [.int (-b.num), .int (b.den : Int)]) = fr (-b) := by simp [fr]
theorem Fit.neg {b : Rat} (h : Fit b) : Fit (-b) := by simpa [Fit] using h
theorem v_minus {a b : Rat} (ha : Fit a) (hb : Fit b) : f_minus [.fz (fr a), .fz (fr b)] = some (.fz (fr (a - b)), [.fz (fr a), .fz (fr b)]) := by
  refine fn_rt (e := [some (.fz (fr a)), some (.fz (fr b))]) [fr a, fr b] ?_
  simp [b_minus, sizeLine, neg_fr, v_plus ha hb.neg, Rat.sub_eq_add_neg]
theorem v_times {a b : Rat} (ha : Fit a) (hb : Fit b) : f_times [.fz (fr a), .fz (fr b)] = some (.fz (fr (a * b)), [.fz (fr a), .fz (fr b)]) := by
  refine fn_rt (e := [some (.fz (fr a)), some (.fz (fr b))]) [fr a, fr b] ?_
  have hd : a.den * b.den < 2 ^ 9000 := by
    have := Nat.mul_lt_mul'' ha.1 hb.1
    rw [← Nat.pow_add] at this
    exact lt_mono this
  by_cases h0 : a = 0
  · subst h0; simp [b_times, oEq, Rat.zero_mul]
  · have h0' : ¬ a.num = 0 := fun h => h0 (num0.mp h)
    by_cases h1 : b = 0
    · subst h1
      simp [b_times, oEq, h0', Rat.mul_zero]
    · have h1' : ¬ b.num = 0 := fun h => h1 (num0.mp h)
      have e := v_share (a.num * b.num) (a.den * b.den) (Nat.mul_ne_zero a.den_nz b.den_nz) hd
      rw [Int.natCast_mul] at e
      simp [b_times, oEq, h0', h1', Fit.m3 ha hb, Fit.m2 ha hb, e, Rat.mul_def']
theorem v_is_less {a b : Rat} (ha : Fit a) (hb : Fit b) : f_is_less [.fz (fr a), .fz (fr b)] = some (.fz (.bl (decide (a < b))), [.fz (fr a), .fz (fr b)]) := by
  refine fn_rt (e := [some (.fz (fr a)), some (.fz (fr b))]) [fr a, fr b] ?_
  simp [b_is_less, Fit.m1 ha hb, Fit.m1 hb ha, Rat.lt_iff]
theorem v_less_of {a b : Rat} (ha : Fit a) (hb : Fit b) : f_less_of [.fz (fr a), .fz (fr b)] = some (.fz (fr (if b < a then b else a)), [.fz (fr a), .fz (fr b)]) := by
  refine fn_rt (e := [some (.fz (fr a)), some (.fz (fr b))]) [fr a, fr b] ?_
  by_cases h : b < a
  · simp [b_less_of, v_is_less hb ha, h]
  · simp [b_less_of, v_is_less hb ha, h]
theorem fit1 : Fit 1 := ⟨Nat.one_lt_two_pow (by decide), Nat.one_lt_two_pow (by decide)⟩
theorem fit0 : Fit 0 := ⟨Nat.one_lt_two_pow (by decide), Nat.two_pow_pos _⟩
theorem v_left_of {a : Rat} (ha : Fit a) : f_left_of [.fz (fr a)] = some (.fz (fr (1 - a)), [.fz (fr a)]) := by
  refine fn_rt (e := [some (.fz (fr a))]) [fr a] ?_
  simp [b_left_of, v_minus fit1 ha]
/-! total: every partial sum fits -/
def sumQ : Rat → List Rat → Rat
  | s, [] => s
  | s, q :: r => sumQ (s + q) r
def FitS : Rat → List Rat → Prop
  | s, [] => Fit s
  | s, q :: r => Fit s ∧ Fit q ∧ FitS (s + q) r
theorem total_loop (X : D) : ∀ (r : List Rat) (s : Rat) (z : Option T), FitS s r → ∃ z', loopM (gNm 2) l_total_1 (r.map fr) [some (.fz X), some (.fz (fr s)), z] = some (.nx, [some (.fz X), some (.fz (fr (sumQ s r))), z'])
  | [], s, z, _ => ⟨z, by simp [sumQ]⟩
  | q :: r, s, z, h => by
    obtain ⟨z', ih⟩ := total_loop X r (s + q) (some (.fz (fr q))) h.2.2
    refine ⟨z', ?_⟩
    rw [List.map_cons, a_loop]
    simp [l_total_1, v_plus h.1 h.2.1, sumQ]
    exact ih
theorem v_total {X : D} {r : List Rat} (hX : seqD X = some (r.map fr)) (h : FitS 0 r) : f_total [.fz X] = some (.fz (fr (sumQ 0 r)), [.fz X]) := by
  obtain ⟨z', ih⟩ := total_loop X r 0 none h
  refine fn_rt (e := [some (.fz X), none, z']) [X] ?_
  simp [b_total, hX, ih]
end Lw

/-! P2 -/
set_option Elab.async false
set_option linter.all false
set_option maxRecDepth 100000
set_option maxHeartbeats 4000000
set_option exponentiation.threshold 100000
namespace Lw
open PySem PySem.Spec PyProof.Rows L2 Fw
theorem isi {d : D} {t T : String} {b : Bool} (h : d.tyN = some t) (k : kitB t T = some b) : oIsi T d = some (.bl b) := by
  simp [oIsi, h, k]
@[simp] theorem isi_int_int (i : Int) : oIsi "int" (.int i) = some (.bl true) := isi rfl (by decide +kernel)
@[simp] theorem isi_int_bool (i : Int) : oIsi "bool" (.int i) = some (.bl false) := isi rfl (by decide +kernel)
@[simp] theorem isi_int_tup (i : Int) : oIsi "tuple" (.int i) = some (.bl false) := isi rfl (by decide +kernel)
@[simp] theorem isi_int_list (i : Int) : oIsi "list" (.int i) = some (.bl false) := isi rfl (by decide +kernel)
@[simp] theorem isi_bl_int (b : Bool) : oIsi "int" (.bl b) = some (.bl true) := isi rfl (by decide +kernel)
@[simp] theorem isi_bl_bool (b : Bool) : oIsi "bool" (.bl b) = some (.bl true) := isi rfl (by decide +kernel)
@[simp] theorem isi_tup_tup (ds : List D) : oIsi "tuple" (.tup ds) = some (.bl true) := isi rfl (by decide +kernel)
@[simp] theorem isi_tup_list (ds : List D) : oIsi "list" (.tup ds) = some (.bl false) := isi rfl (by decide +kernel)
@[simp] theorem isi_lst_tup (ds : List D) : oIsi "tuple" (.lst ds) = some (.bl false) := isi rfl (by decide +kernel)
@[simp] theorem isi_lst_list (ds : List D) : oIsi "list" (.lst ds) = some (.bl true) := isi rfl (by decide +kernel)
@[simp] theorem isi_str_str (s : Str) : oIsi "str" (.str s) = some (.bl true) := isi rfl (by decide +kernel)
@[simp] theorem bLen_tup (ds : List D) : bLen [.tup ds] = some (.int ds.length) := rfl
@[simp] theorem bLen_lst (ds : List D) : bLen [.lst ds] = some (.int ds.length) := rfl
theorem v_is_integer (i : Int) : f_is_integer [.fz (.int i)] = some (.fz (.bl true), [.fz (.int i)]) := by
  refine fn_rt (e := [some (.fz (.int i))]) [.int i] ?_
  simp [b_is_integer]
@[simp] theorem a_chain (f g : D → D → Option D) (ma mb mc : M D) (e : Fw.Env) : mChain f g ma mb mc e = (ma e).bind fun p => (mb p.2).bind fun q => (f p.1 q.1).bind fun z => (blO z).bind fun k => if k then (mc q.2).bind fun u => (g q.1 u.1).map fun y => (y, u.2) else some (.bl false, q.2) := by
  unfold mChain
  simp only [a_bind, a_opt]
  cases ma e with
  | none => rfl
  | some p =>
    simp only [Option.bind_some]
    cases mb p.2 with
    | none => rfl
    | some q =>
      simp only [Option.bind_some]
      cases f p.1 q.1 with
      | none => rfl
      | some z =>
        simp only [Option.bind_some, Option.map_some]
        cases blO z with
        | none => rfl
        | some k => cases k <;> simp
@[simp] theorem a_chain3 (f g h : D → D → Option D) (ma mb mc md : M D) (e : Fw.Env) : mChain3 f g h ma mb mc md e = (ma e).bind fun p => (mb p.2).bind fun q => (f p.1 q.1).bind fun z => (blO z).bind fun k => if k then (mc q.2).bind fun u => (g q.1 u.1).bind fun y => (blO y).bind fun k2 => if k2 then (md u.2).bind fun v => (h u.1 v.1).map fun y => (y, v.2) else some (.bl false, u.2) else some (.bl false, q.2) := by
  unfold mChain3
  simp only [a_bind, a_opt]
  cases ma e with
  | none => rfl
  | some p =>
    simp only [Option.bind_some]
    cases mb p.2 with
    | none => rfl
    | some q =>
      simp only [Option.bind_some]
      cases f p.1 q.1 with
      | none => rfl
      | some z =>
        simp only [Option.bind_some, Option.map_some]
        cases blO z with
        | none => rfl
        | some k =>
          cases k with
          | false => simp
          | true =>
            simp only [Option.map_some, Option.bind_some, if_true]
            simp only [a_bind, a_opt]
            cases mc q.2 with
            | none => rfl
            | some u =>
              simp only [Option.bind_some]
              cases g q.1 u.1 with
              | none => rfl
              | some y =>
                simp only [Option.bind_some, Option.map_some]
                cases blO y with
                | none => rfl
                | some k2 => cases k2 <;> simp
theorem v_is_between (i a b : Int) : f_is_between [.fz (.int i), .fz (.int a), .fz (.int b)] = some (.fz (.bl (decide (a ≤ i) && decide (i ≤ b))), [.fz (.int i), .fz (.int a), .fz (.int b)]) := by
  refine fn_rt (e := [some (.fz (.int i)), some (.fz (.int a)), some (.fz (.int b))]) [.int i, .int a, .int b] ?_
  by_cases h : a ≤ i
  · simp [b_is_between, v_is_integer, h]
  · simp [b_is_between, v_is_integer, h]
@[simp] theorem a_true (e : Fw.Env) : (mRet true : M Bool) e = some (true, e) := rfl
theorem dBools_const (n : Nat) : dBools (List.replicate n (.bl true)) = some (List.replicate n true) := by
  induction n with
  | zero => rfl
  | succ n ih => simp [List.replicate_succ, dBools, ih]
theorem v_is_fraction (q : Rat) (hq : q.den < 2 ^ 9000) : f_is_fraction [.fz (fr q)] = some (.fz (.bl true), [.fz (fr q)]) := by
  have hc : q_is_fraction_1 [some (.fz (fr q)), none] = some (.lst [.fz (.bl true), .fz (.bl true)], [some (.fz (fr q)), none]) := by
    unfold q_is_fraction_1
    rw [lc_eq (ds := [.int q.num, .int q.den]) (e1 := [some (.fz (fr q)), none]) (fun _ => some (.fz (.bl true)))]
    · simp
    · simp [fr, seqD]
    · simp
    · intro d hd
      simp only [List.mem_cons, List.not_mem_nil, or_false] at hd
      rcases hd with rfl | rfl
      · exact ⟨_, by simp [stepC, v_is_integer]; rfl, by simp, by simp⟩
      · exact ⟨_, by simp [stepC, v_is_integer]; rfl, by simp, by simp⟩
    · simp [sizeLine]
  refine fn_rt (e := [some (.fz (fr q)), none]) [fr q] ?_
  have h1 : oIsi "tuple" (fr q) = some (.bl true) := by simp [fr]
  have h2 : bLen [fr q] = some (.int 2) := by simp [fr]
  have h3 : bAll [.lst [.bl true, .bl true]] = some (.bl true) := rfl
  have h4 : (0 : Int) < (q.den : Int) := by have := q.den_pos; omega
  have h5 : Nat.gcd q.num.natAbs q.den = 1 := q.reduced
  have h6 := v_common q.num.natAbs q.den
  rw [h5] at h6
  simp [b_is_fraction, hc, h1, h2, h3, oNe, oEq, b1I, abs_eq, h6, q.den_pos]

theorem fm_const {α β : Type} (c : β) (xs : List α) : xs.filterMap (fun _ => some c) = List.replicate xs.length c := by
  induction xs with
  | nil => rfl
  | cons x xs ih => simp [ih, List.replicate_succ]
def Chance (q : Rat) : Prop := 0 ≤ q.num ∧ q.num ≤ (q.den : Int) ∧ q.den ≤ 1000
instance (q : Rat) : Decidable (Chance q) := by unfold Chance; infer_instance
theorem Chance.lt {q : Rat} (h : Chance q) : q.den < 2 ^ 9000 := Nat.lt_of_le_of_lt h.2.2 (lt_mono (a := 10) (by decide))
theorem v_is_chance {q : Rat} (h : Chance q) : f_is_chance [.fz (fr q)] = some (.fz (.bl true), [.fz (fr q)]) := by
  refine fn_rt (e := [some (.fz (fr q))]) [fr q] ?_
  have h3 : ((q.den : Nat) : Int) ≤ 1000 := by have := h.2.2; omega
  simp [b_is_chance, v_is_fraction q h.lt, h.1, h.2.1, h3, c_MOST_PART]
theorem v_are_shares {qs : List Rat} (hl : qs.length ≤ 4) (h : ∀ q ∈ qs, Chance q) : f_are_shares [.fz (.tup (qs.map fr))] = some (.fz (.bl true), [.fz (.tup (qs.map fr))]) := by
  have hc : q_are_shares_1 [some (.fz (.tup (qs.map fr))), none] = some (.lst (List.replicate qs.length (.fz (.bl true))), [some (.fz (.tup (qs.map fr))), none]) := by
    unfold q_are_shares_1
    rw [lc_eq (ds := qs.map fr) (e1 := [some (.fz (.tup (qs.map fr))), none]) (fun _ => some (.fz (.bl true)))]
    · simp [fm_const, -List.filterMap_map]
    · simp [seqD]
    · simp
    · intro d hd
      obtain ⟨q, hq, rfl⟩ := List.mem_map.mp hd
      exact ⟨_, by simp [stepC, v_is_chance (h q hq)]; rfl, by simp, by simp⟩
    · simp [sizeLine]; omega
  refine fn_rt (e := [some (.fz (.tup (qs.map fr))), none]) [.tup (qs.map fr)] ?_
  have h3 : bAll [.lst (List.replicate qs.length (.bl true))] = some (.bl true) := by
    simp [lstB, dBools_const]
  have h4 : (qs.length : Int) ≤ 4 := by omega
  simp [b_are_shares, hc, h3, h4, c_MOST_SHARES, hl]
/-! ### words -/
theorem eqO_ss {a b : String} (ha : PyData.strOk (Str.ofString a) = true) (hb : PyData.strOk (Str.ofString b) = true) : eqO (.str (Str.ofString a)) (.str (Str.ofString b)) = some (decide (a = b)) := by
  rw [eq_sh (p := .str _) (q := .str _) rfl rfl (by simp [SeqAt.shaped, PyData.canLay0, PyData.depth, ha]) (by simp [SeqAt.shaped, PyData.canLay0, PyData.depth, hb])]
  simp only [PyData.eqv]
  congr 1
  rw [Bool.eq_iff_iff]
  simp
@[simp] theorem w_true : PyData.strOk (Str.ofString "true") = true := by decide +kernel
@[simp] theorem w_false : PyData.strOk (Str.ofString "false") = true := by decide +kernel
@[simp] theorem w_letter : PyData.strOk (Str.ofString "letter") = true := by decide +kernel
@[simp] theorem w_not : PyData.strOk (Str.ofString "not") = true := by decide +kernel
@[simp] theorem w_and : PyData.strOk (Str.ofString "and") = true := by decide +kernel
@[simp] theorem w_or : PyData.strOk (Str.ofString "or") = true := by decide +kernel
@[simp] theorem w_then : PyData.strOk (Str.ofString "then") = true := by decide +kernel
@[simp] theorem w_same : PyData.strOk (Str.ofString "same") = true := by decide +kernel
@[simp] theorem w_draw : PyData.strOk (Str.ofString "draw") = true := by decide +kernel
@[simp] theorem w_set : PyData.strOk (Str.ofString "set") = true := by decide +kernel
@[simp] theorem w_see : PyData.strOk (Str.ofString "see") = true := by decide +kernel
@[simp] theorem w_if : PyData.strOk (Str.ofString "if") = true := by decide +kernel
@[simp] theorem w_rounds : PyData.strOk (Str.ofString "rounds") = true := by decide +kernel
@[simp] theorem w_until : PyData.strOk (Str.ofString "until") = true := by decide +kernel
@[simp] theorem oEq_ss {a b : String} (ha : PyData.strOk (Str.ofString a) = true) (hb : PyData.strOk (Str.ofString b) = true) : oEq (.str (Str.ofString a)) (.str (Str.ofString b)) = some (.bl (decide (a = b))) := by
  simp [oEq, eqO_ss ha hb]
@[simp] theorem oEq_ii (i j : Int) : oEq (.int i) (.int j) = some (.bl (decide (i = j))) := by simp [oEq]
@[simp] theorem oEq_bb (i j : Bool) : oEq (.bl i) (.bl j) = some (.bl (decide (i = j))) := by simp [oEq]
@[simp] theorem oNe_ii (i j : Int) : oNe (.int i) (.int j) = some (.bl (!decide (i = j))) := by simp [oNe]
/-! ### sayings -/
inductive Op2 where | and | or | thn | same
def Op2.w : Op2 → String | .and => "and" | .or => "or" | .thn => "then" | .same => "same"
def Op2.ev : Op2 → Bool → Bool → Bool | .and, a, b => a && b | .or, a, b => a || b | .thn, a, b => !a || b | .same, a, b => decide (a = b)
inductive Say where
  | con (b : Bool) | letter (l : Nat) | no (a : Say) | two (o : Op2) (a b : Say)
def Say.d : Say → D
  | .con b => .tup [.str (if b then "true" else "false")]
  | .letter l => .tup [.str "letter", .int (l : Int)]
  | .no a => .tup [.str "not", a.d]
  | .two o a b => .tup [.str o.w, a.d, b.d]
def Say.ev : Say → Nat → Bool
  | .con b, _ => b
  | .letter l, w => decide (w / 2 ^ l % 2 = 1)
  | .no a, w => !a.ev w
  | .two o a b, w => o.ev (a.ev w) (b.ev w)
def Say.deep : Say → Nat
  | .con _ => 1
  | .letter _ => 1
  | .no a => a.deep + 1
  | .two _ a b => max a.deep b.deep + 1
def Say.ok (n : Nat) : Say → Bool
  | .con _ => true
  | .letter l => decide (l < n)
  | .no a => a.ok n
  | .two _ a b => a.ok n && b.ok n
@[simp] theorem and1 (w : Nat) : Builtin.bitAnd (w : Int) 1 = ((w % 2 : Nat) : Int) := by
  unfold Builtin.bitAnd
  simp [Nat.and_one_is_mod]
@[simp] theorem inS_s (a : String) (y : D) : oIn (.str (Str.ofString a)) y = ((seqD y).bind fun ds => (dStrs ds).map fun ss => D.bl (ss.any fun t => decide (t = Str.ofString a))) := by
  simp only [oIn, inS]
  cases seqD y with
  | none => rfl
  | some ds =>
    simp only [Option.bind_some]
    cases dStrs ds <;> rfl
theorem shr_eq (w l : Nat) : (w : Int) / 2 ^ ((l : Int)).toNat = ((w / 2 ^ l : Nat) : Int) := by
  simp
theorem v_holds (w : Nat) : ∀ (s : Say) (n : Nat), s.deep ≤ n → f_holds n [.fz s.d, .fz (.int (w : Int))] = some (.fz (.bl (s.ev w)), [.fz s.d, .fz (.int (w : Int))])
  | .con b, n, h => by
    cases n with
    | zero => simp [Say.deep] at h
    | succ n =>
      unfold f_holds
      cases b
      · exact fn_rt (e := [some (.fz (Say.con false).d), some (.fz (.int (w : Int))), some (.fz (.str "false")), none, none]) [(Say.con false).d, .int (w : Int)] (by simp [b_holds, Say.d, seqD, dStrs, sizeLine, Say.ev])
      · exact fn_rt (e := [some (.fz (Say.con true).d), some (.fz (.int (w : Int))), some (.fz (.str "true")), none, none]) [(Say.con true).d, .int (w : Int)] (by simp [b_holds, Say.d, seqD, dStrs, sizeLine, Say.ev])
  | .letter l, n, h => by
    cases n with
    | zero => simp [Say.deep] at h
    | succ n =>
      unfold f_holds
      refine fn_rt (e := [some (.fz (Say.letter l).d), some (.fz (.int (w : Int))), some (.fz (.str "letter")), none, none]) [(Say.letter l).d, .int (w : Int)] ?_
      have h1 : Builtin.bitAnd ((w : Int) / 2 ^ l) 1 = ((w / 2 ^ l % 2 : Nat) : Int) := by
        rw [← and1]; simp
      simp [b_holds, Say.d, seqD, dStrs, sizeLine, Say.ev, h1, -Int.natCast_emod]
      omega
  | .no a, n, h => by
    cases n with
    | zero => simp [Say.deep] at h
    | succ n =>
      unfold f_holds
      have ih := v_holds w a n (by simp [Say.deep] at h; omega)
      refine fn_rt (e := [some (.fz (Say.no a).d), some (.fz (.int (w : Int))), some (.fz (.str "not")), some (.fz (.bl (a.ev w))), none]) [(Say.no a).d, .int (w : Int)] ?_
      simp [b_holds, Say.d, seqD, dStrs, sizeLine, Say.ev, ih]
  | .two o a b, n, h => by
    cases n with
    | zero => simp [Say.deep] at h
    | succ n =>
      unfold f_holds
      have iha := v_holds w a n (by simp [Say.deep] at h; omega)
      have ihb := v_holds w b n (by simp [Say.deep] at h; omega)
      refine fn_rt (e := [some (.fz (Say.two o a b).d), some (.fz (.int (w : Int))), some (.fz (.str o.w)), some (.fz (.bl (a.ev w))), some (.fz (.bl (b.ev w)))]) [(Say.two o a b).d, .int (w : Int)] ?_
      cases o <;> simp [b_holds, Say.d, seqD, dStrs, sizeLine, Say.ev, iha, ihb, Op2.w, Op2.ev] <;> cases a.ev w <;> cases b.ev w <;> simp
end Lw

/-! P3 -/
set_option Elab.async false
set_option linter.all false
set_option maxRecDepth 100000
set_option maxHeartbeats 4000000
set_option exponentiation.threshold 100000
namespace Lw
open PySem PySem.Spec PyProof.Rows L2 Fw
def Say.inner : Say → List Say
  | .con _ => [] | .letter _ => [] | .no a => [a] | .two _ a b => [a, b]
theorem v_inner_of (s : Say) (n : Nat) (h : s.ok n = true) : f_inner_of [.fz s.d, .fz (.int (n : Int))] = some (.lst (s.inner.map fun a => .fz a.d), [.fz s.d, .fz (.int (n : Int))]) := by
  refine fn_rt (e := [some (.fz s.d), some (.fz (.int (n : Int)))]) [s.d, .int (n : Int)] ?_
  cases s with
  | con b => cases b <;> simp [b_inner_of, Say.d, seqD, dStrs, sizeLine, Say.inner]
  | letter l =>
    have h1 : l < n := by simpa [Say.ok] using h
    have h2 : (l : Int) ≤ (n : Int) - 1 := by omega
    have h3 : (0 : Int) ≤ (l : Int) := by omega
    simp [b_inner_of, Say.d, seqD, dStrs, sizeLine, Say.inner, v_is_between, h2, h3]
  | no a => simp [b_inner_of, Say.d, seqD, dStrs, sizeLine, Say.inner]
  | two o a b => cases o <;> simp [b_inner_of, Say.d, seqD, dStrs, sizeLine, Say.inner, Op2.w, c_PAIRS]
theorem saying_in (n : Nat) (x1 x2 : T) (x3 : Option T) : ∀ (rs : List Say) (acc : List D) (x5 x6 : Option T), (∀ s ∈ rs, s.ok n = true) → acc.length + 2 * rs.length ≤ sizeLine → ∃ x5' x6',
    loopM (gNm 5) l_is_saying_of_1 (rs.map Say.d) [some (.fz (.int (n : Int))), some x1, some x2, x3, some (.lst (acc.map .fz)), x5, x6] = some (.nx, [some (.fz (.int (n : Int))), some x1, some x2, x3, some (.lst ((acc ++ rs.flatMap fun s => s.inner.map Say.d).map .fz)), x5', x6'])
  | [], acc, x5, x6, _, _ => ⟨x5, x6, by simp⟩
  | s :: rs, acc, x5, x6, h, hl => by
    have hi : s.inner.length ≤ 2 := by cases s <;> simp [Say.inner]
    obtain ⟨x5', x6', ih⟩ := saying_in n x1 x2 x3 rs (acc ++ s.inner.map Say.d) (some (.fz s.d)) (some (.fz (.lst (s.inner.map Say.d)))) (fun s hs => h s (by simp [hs])) (by simp at hl ⊢; omega)
    refine ⟨x5', x6', ?_⟩
    have hl2 : acc.length + s.inner.length ≤ sizeLine := by simp at hl; omega
    have e1 : (T.d ∘ fun (a : Say) => T.fz a.d) = Say.d := by funext a; simp
    have e2 : (T.fz ∘ Say.d) = fun (a : Say) => T.fz a.d := rfl
    refine loop_nx (e1 := [some (.fz (.int (n : Int))), some x1, some x2, x3, some (.lst (acc.map .fz)), some (.fz s.d), x6]) rfl ?_ (ih.trans (by simp))
    simp [l_is_saying_of_1, v_inner_of s n (h s (by simp)), oIs, isN, a_ext, hl2, e1, e2]
def inners : List Say → List Say := fun rs => rs.flatMap Say.inner
theorem inners_deep {k : Nat} {rs : List Say} (h : ∀ s ∈ rs, s.deep ≤ k + 1) : ∀ s ∈ inners rs, s.deep ≤ k := by
  intro s hs
  obtain ⟨t, h1, h2⟩ := List.mem_flatMap.mp hs
  have := h t h1
  cases t <;> simp [Say.inner, Say.deep] at h2 this
  · subst h2; omega
  · rcases h2 with rfl | rfl <;> omega
theorem inners_ok {n : Nat} {rs : List Say} (h : ∀ s ∈ rs, s.ok n = true) : ∀ s ∈ inners rs, s.ok n = true := by
  intro s hs
  obtain ⟨t, h1, h2⟩ := List.mem_flatMap.mp hs
  have := h t h1
  cases t <;> simp [Say.inner, Say.ok] at h2 this
  · subst h2; exact this
  · rcases h2 with rfl | rfl
    · exact this.1
    · exact this.2
theorem inners_len (rs : List Say) : (inners rs).length ≤ 2 * rs.length := by
  induction rs with
  | nil => simp [inners]
  | cons s rs ih =>
    have : s.inner.length ≤ 2 := by cases s <;> simp [Say.inner]
    simp [inners] at ih ⊢
    omega
theorem saying_out (n : Nat) (x1 : T) : ∀ (ds : List D) (rs : List Say) (x2 : T) (x3 x4 x5 x6 : Option T), x2.d = .lst (rs.map Say.d) → (∀ s ∈ rs, s.ok n = true) → rs.length * 2 ^ ds.length ≤ 1024 → (∀ s ∈ rs, s.deep ≤ ds.length) → ∃ x2' x3' x4' x5' x6',
    loopM (gNm 3) l_is_saying_of_2 ds [some (.fz (.int (n : Int))), some x1, some x2, x3, x4, x5, x6] = some (.nx, [some (.fz (.int (n : Int))), some x1, some x2', x3', x4', x5', x6']) ∧ x2'.d = .lst []
  | [], rs, x2, x3, x4, x5, x6, h2, _, _, hd => by
    have : rs = [] := by
      cases rs with
      | nil => rfl
      | cons s rs => have := hd s (by simp); cases s <;> simp [Say.deep] at this
    subst this
    exact ⟨x2, x3, x4, x5, x6, by simp, by simpa using h2⟩
  | d :: ds, rs, x2, x3, x4, x5, x6, h2, hok, hl, hd => by
    have hl2 : (inners rs).length * 2 ^ ds.length ≤ 1024 := by
      have h1 := inners_len rs
      have h3 := Nat.mul_le_mul_right (2 ^ ds.length) h1
      simp only [List.length_cons, Nat.pow_succ] at hl
      calc _ ≤ _ := h3
        _ = rs.length * (2 ^ ds.length * 2) := by rw [Nat.mul_comm (2 ^ ds.length) 2, ← Nat.mul_assoc, Nat.mul_comm 2]
        _ ≤ _ := hl
    have hl3 : rs.length ≤ 1024 := Nat.le_trans (Nat.le_mul_of_pos_right _ (Nat.two_pow_pos _)) hl
    obtain ⟨y5, y6, q⟩ := saying_in n x1 (.fz (.lst (rs.map Say.d))) (some (.fz d)) rs [] x5 x6 hok (by simp [sizeLine]; omega)
    obtain ⟨x2', x3', x4', x5', x6', ih, ih2⟩ := saying_out n x1 ds (inners rs) (.fz (.lst ((inners rs).map Say.d))) (some (.fz d)) (some (.fz (.lst ((inners rs).map Say.d)))) y5 y6 (by simp) (inners_ok hok) hl2 (inners_deep hd)
    refine ⟨x2', x3', x4', x5', x6', ?_, ih2⟩
    simp only [List.map_nil] at q
    have e2 : (rs.flatMap fun s => s.inner.map Say.d) = (inners rs).map Say.d := by rw [inners, List.map_flatMap]
    rw [List.nil_append, e2] at q
    refine loop_nx (e1 := [some (.fz (.int (n : Int))), some x1, some x2, some (.fz d), x4, x5, x6]) rfl ?_ ih
    simp [l_is_saying_of_2, h2, seqD, q, sizeLine]
theorem v_is_saying_of (s : Say) (n : Nat) (h : s.ok n = true) (hd : s.deep ≤ 8) : f_is_saying_of [.fz (.int (n : Int)), .fz s.d] = some (.fz (.bl true), [.fz (.int (n : Int)), .fz s.d]) := by
  obtain ⟨x2', x3', x4', x5', x6', q, q2⟩ := saying_out n (.fz s.d) ((List.range 8).map fun (i : Nat) => D.int (0 + (i : Int))) [s] (.lst [.fz s.d]) none none none none (by simp) (by simpa using h) (by simp) (by simpa using hd)
  refine fn_rt (e := [some (.fz (.int (n : Int))), some (.fz s.d), some (.fz (.lst [])), x3', x4', x5', x6']) [.int (n : Int), s.d] ?_
  have h1 : rng1 [c_MOST_DEPTH] = some ((List.range 8).map fun (i : Nat) => D.int (0 + (i : Int))) := rfl
  simp only [Int.zero_add] at q h1
  simp [b_is_saying_of, sizeLine, h1, -List.map_map, q, q2]

/-! ### worlds -/
theorem shl1 (l : Nat) (h : l ≤ 1000) : oShl (.int 1) (.int (l : Int)) = some (.int ((2 ^ l : Nat) : Int)) := by
  have hc : CPow 1 (l : Int) := ⟨by omega, by omega, by decide⟩
  simp [hc]
theorem v_many_worlds (n : Nat) (h : n ≤ 1000) : f_many_worlds [.fz (.int (n : Int))] = some (.fz (.int ((2 ^ n : Nat) : Int)), [.fz (.int (n : Int))]) := by
  refine fn_rt (e := [some (.fz (.int (n : Int)))]) [.int (n : Int)] ?_
  simp [b_many_worlds, shl1 n h, -opI_ii]
def wl (w l : Nat) (f : Bool) : Nat := if f then w ||| 2 ^ l else w - (w &&& 2 ^ l)
theorem bitOr_nat (a b : Nat) : Builtin.bitOr (a : Int) (b : Int) = ((a ||| b : Nat) : Int) := by
  have ha : Builtin.bitNot (a : Int) = -(a : Int) - 1 := rfl
  have hb : Builtin.bitNot (b : Int) = -(b : Int) - 1 := rfl
  unfold Builtin.bitOr Builtin.bitAnd
  have h1 : decide (0 ≤ Builtin.bitNot (a : Int)) = false := by rw [ha]; simp; omega
  have h2 : decide (0 ≤ Builtin.bitNot (b : Int)) = false := by rw [hb]; simp; omega
  rw [h1, h2]
  simp only []
  have h3 : Builtin.bitNot (Builtin.bitNot (a : Int)) = (a : Int) := by unfold Builtin.bitNot; omega
  have h4 : Builtin.bitNot (Builtin.bitNot (b : Int)) = (b : Int) := by unfold Builtin.bitNot; omega
  rw [h3, h4]
  simp only [Int.toNat_natCast]
  unfold Builtin.bitNot
  omega
theorem bitAndNot (a b : Nat) : Builtin.bitAnd (a : Int) (Builtin.bitNot (b : Int)) = ((a - (a &&& b) : Nat) : Int) := by
  have hb : Builtin.bitNot (b : Int) = -(b : Int) - 1 := rfl
  have h4 : Builtin.bitNot (Builtin.bitNot (b : Int)) = (b : Int) := by unfold Builtin.bitNot; omega
  have h2 : decide (0 ≤ Builtin.bitNot (b : Int)) = false := by rw [hb]; simp; omega
  unfold Builtin.bitAnd
  rw [h2]
  have h1 : decide (0 ≤ (a : Int)) = true := by simp
  rw [h1]
  simp only []
  rw [h4]
  simp only [Int.toNat_natCast]
  have : a &&& b ≤ a := Nat.and_le_left
  omega
theorem v_with_letter (w l : Nat) (f : Bool) (h : l ≤ 1000) : f_with_letter [.fz (.int (w : Int)), .fz (.int (l : Int)), .fz (.bl f)] = some (.fz (.int ((wl w l f : Nat) : Int)), [.fz (.int (w : Int)), .fz (.int (l : Int)), .fz (.bl f)]) := by
  refine fn_rt (e := [some (.fz (.int (w : Int))), some (.fz (.int (l : Int))), some (.fz (.bl f)), some (.fz (.int ((2 ^ l : Nat) : Int)))]) [.int (w : Int), .int (l : Int), .bl f] ?_
  have h1 := bitOr_nat w (2 ^ l)
  have h2 := bitAndNot w (2 ^ l)
  have h3 := shl1 l h
  have e : ((2 ^ l : Nat) : Int) = 2 ^ l := by simp
  rw [e] at h1 h2 h3
  cases f <;> simp [b_with_letter, h3, -opI_ii, Fw.unI, h1, h2, wl]
theorem wl_lt {n : Nat} {w l : Nat} (f : Bool) (hw : w < 2 ^ n) (hl : l < n) : wl w l f < 2 ^ n := by
  unfold wl
  split
  · exact Nat.or_lt_two_pow hw (Nat.pow_lt_pow_right (by decide) hl)
  · omega
/-- the law's own way to write a letter -/
theorem wl_law {n : Nat} (hn : n ≤ 4) : ∀ {w l : Nat}, w < 2 ^ n → l < n → wl w l true = (if w / 2 ^ l % 2 = 1 then w - 2 ^ l else w) + 2 ^ l ∧ wl w l false = (if w / 2 ^ l % 2 = 1 then w - 2 ^ l else w) ∧ (w / 2 ^ l % 2 = 1 → 2 ^ l ≤ w) := by
  have key : ∀ w < 16, ∀ l < 4, wl w l true = (if w / 2 ^ l % 2 = 1 then w - 2 ^ l else w) + 2 ^ l ∧ wl w l false = (if w / 2 ^ l % 2 = 1 then w - 2 ^ l else w) ∧ (w / 2 ^ l % 2 = 1 → 2 ^ l ≤ w) := by decide +kernel
  intro w l hw hl
  exact key w (Nat.lt_of_lt_of_le hw (Nat.pow_le_pow_right (by decide) hn)) l (by omega)
@[simp] theorem shr_n (w l : Nat) : oShr (.int (w : Int)) (.int (l : Int)) = some (.int ((w / 2 ^ l : Nat) : Int)) := by
  simp
theorem v_law_with {n : Nat} (hn : n ≤ 4) {w l : Nat} (f : Bool) (hw : w < 2 ^ n) (hl : l < n) : f_law_with [.fz (.int (w : Int)), .fz (.int (l : Int)), .fz (.bl f)] = some (.fz (.int ((wl w l f : Nat) : Int)), [.fz (.int (w : Int)), .fz (.int (l : Int)), .fz (.bl f)]) := by
  obtain ⟨h1, h2, h3⟩ := wl_law hn hw hl
  have h4 := shl1 l (by omega)
  have h5 := shr_n w l
  generalize hp : 2 ^ l = p at h1 h2 h3 h4 h5
  generalize w / p = q at h1 h2 h3 h5
  generalize hr : (if q % 2 = 1 then w - p else w) = r at h1 h2
  have h6 : (if ((q : Nat) : Int) % 2 = 1 then some (D.int ((w : Int) - (p : Int))) else some (.int (w : Int))) = some (.int (r : Int)) := by
    rw [← hr]
    by_cases hb : q % 2 = 1
    · rw [if_pos (by omega), if_pos hb]
      have := h3 hb
      congr 2; omega
    · rw [if_neg (by omega), if_neg hb]
  refine fn_rt (e := [some (.fz (.int (w : Int))), some (.fz (.int (l : Int))), some (.fz (.bl f)), some (.fz (.int (r : Int)))]) [.int (w : Int), .int (l : Int), .bl f] ?_
  have h7 : bInt [.int ((q : Nat) : Int)] = some (.int (q : Int)) := rfl
  have h8 : oMod (.int ((q : Nat) : Int)) (.int 2) = some (.int ((q : Int) % 2)) := rfl
  by_cases hb : ((q : Nat) : Int) % 2 = 1
  · rw [if_pos hb] at h6
    have h6 := D.int.inj (Option.some.inj h6)
    have h9 : oEq (.int ((q : Int) % 2)) (.int 1) = some (.bl true) := by rw [oEq_ii, hb]; rfl
    cases f <;> simp [b_law_with, -opI_ii, -oEq_ii, h4, h5, h7, h1, h2, h6, h8, h9]
  · rw [if_neg hb] at h6
    have h6 := D.int.inj (Option.some.inj h6)
    have h6 : w = r := by omega
    subst h6
    have h9 : oEq (.int ((q : Int) % 2)) (.int 1) = some (.bl false) := by rw [oEq_ii, decide_eq_false hb]
    cases f <;> simp [b_law_with, -opI_ii, -oEq_ii, -shr_n, h4, h5, h7, h1, h2, h8, h9]
theorem v_law_true (w : Nat) : ∀ (s : Say) (n : Nat), s.deep ≤ n → f_law_true n [.fz s.d, .fz (.int (w : Int))] = some (.fz (.bl (s.ev w)), [.fz s.d, .fz (.int (w : Int))])
  | .con b, n, h => by
    cases n with
    | zero => simp [Say.deep] at h
    | succ n =>
      unfold f_law_true
      cases b
      · exact fn_rt (e := [some (.fz (Say.con false).d), some (.fz (.int (w : Int))), some (.fz (.str "false")), none, none]) [(Say.con false).d, .int (w : Int)] (by simp [b_law_true, Say.d, seqD, dStrs, sizeLine, Say.ev])
      · exact fn_rt (e := [some (.fz (Say.con true).d), some (.fz (.int (w : Int))), some (.fz (.str "true")), none, none]) [(Say.con true).d, .int (w : Int)] (by simp [b_law_true, Say.d, seqD, dStrs, sizeLine, Say.ev])
  | .letter l, n, h => by
    cases n with
    | zero => simp [Say.deep] at h
    | succ n =>
      unfold f_law_true
      refine fn_rt (e := [some (.fz (Say.letter l).d), some (.fz (.int (w : Int))), some (.fz (.str "letter")), none, none]) [(Say.letter l).d, .int (w : Int)] ?_
      have h5 := shr_n w l
      have e : (Say.letter l).ev w = decide (w / 2 ^ l % 2 = 1) := rfl
      generalize w / 2 ^ l = q at h5 e
      have h7 : bInt [.int ((q : Nat) : Int)] = some (.int (q : Int)) := rfl
      have h8 : oMod (.int ((q : Nat) : Int)) (.int 2) = some (.int ((q : Int) % 2)) := rfl
      have h9 : oEq (.int ((q : Int) % 2)) (.int 1) = some (.bl (decide (q % 2 = 1))) := by
        rw [oEq_ii]
        congr 2
        exact decide_eq_decide.mpr (by omega)
      simp [b_law_true, Say.d, seqD, dStrs, sizeLine, e, h5, h7, h8, h9, -opI_ii, -oEq_ii]
  | .no a, n, h => by
    cases n with
    | zero => simp [Say.deep] at h
    | succ n =>
      unfold f_law_true
      have ih := v_law_true w a n (by simp [Say.deep] at h; omega)
      refine fn_rt (e := [some (.fz (Say.no a).d), some (.fz (.int (w : Int))), some (.fz (.str "not")), none, none]) [(Say.no a).d, .int (w : Int)] ?_
      simp [b_law_true, Say.d, seqD, dStrs, sizeLine, Say.ev, ih]
  | .two o a b, n, h => by
    cases n with
    | zero => simp [Say.deep] at h
    | succ n =>
      unfold f_law_true
      have iha := v_law_true w a n (by simp [Say.deep] at h; omega)
      have ihb := v_law_true w b n (by simp [Say.deep] at h; omega)
      refine fn_rt (e := [some (.fz (Say.two o a b).d), some (.fz (.int (w : Int))), some (.fz (.str o.w)), some (.fz (.bl (a.ev w))), some (.fz (.bl (b.ev w)))]) [(Say.two o a b).d, .int (w : Int)] ?_
      cases o <;> simp [b_law_true, Say.d, seqD, dStrs, sizeLine, Say.ev, iha, ihb, Op2.w, Op2.ev] <;> cases a.ev w <;> cases b.ev w <;> simp
end Lw

/-! P4 -/
set_option Elab.async false
set_option linter.all false
set_option maxRecDepth 100000
set_option maxHeartbeats 4000000
set_option exponentiation.threshold 100000
namespace Lw
open PySem PySem.Spec PyProof.Rows L2 Fw
/-! ### programs -/
inductive Blk where
  | nil
  | draw (l s : Nat) (r : Blk)
  | put (l : Nat) (a : Say) (r : Blk)
  | see (a : Say) (r : Blk)
  | rounds (n : Nat) (b r : Blk)
  | cond (a : Say) (x y r : Blk)
inductive Stm where
  | draw (l s : Nat)
  | put (l : Nat) (a : Say)
  | see (a : Say)
  | rounds (n : Nat) (b : Blk)
  | cond (a : Say) (x y : Blk)
def Blk.sts : Blk → List Stm
  | .nil => []
  | .draw l s r => .draw l s :: r.sts
  | .put l a r => .put l a :: r.sts
  | .see a r => .see a :: r.sts
  | .rounds n b r => .rounds n b :: r.sts
  | .cond a x y r => .cond a x y :: r.sts
def Stm.on : Stm → Blk → Blk
  | .draw l s, r => .draw l s r
  | .put l a, r => .put l a r
  | .see a, r => .see a r
  | .rounds n b, r => .rounds n b r
  | .cond a x y, r => .cond a x y r
def Blk.of : List Stm → Blk
  | [] => .nil
  | s :: r => s.on (Blk.of r)
@[simp] theorem on_sts (s : Stm) (r : Blk) : (s.on r).sts = s :: r.sts := by cases s <;> rfl
@[simp] theorem of_sts : ∀ l : List Stm, (Blk.of l).sts = l
  | [] => rfl
  | s :: r => by simp [Blk.of, of_sts r]
@[simp] theorem of_on (s : Stm) (r : List Stm) : Blk.of (s :: r) = s.on (Blk.of r) := rfl
theorem sts_of : ∀ b : Blk, Blk.of b.sts = b
  | .nil => rfl
  | .draw l s r => by simp [Blk.sts, sts_of r, Stm.on]
  | .put l a r => by simp [Blk.sts, sts_of r, Stm.on]
  | .see a r => by simp [Blk.sts, sts_of r, Stm.on]
  | .rounds n b r => by simp [Blk.sts, sts_of r, Stm.on]
  | .cond a x y r => by simp [Blk.sts, sts_of r, Stm.on]
/-- induction by the statements -/
theorem Blk.ind {P : Blk → Prop} (h0 : P .nil) (h1 : ∀ (s : Stm) (r : Blk), P r → P (s.on r)) : ∀ b, P b
  | .nil => h0
  | .draw l s r => h1 (.draw l s) r (Blk.ind h0 h1 r)
  | .put l a r => h1 (.put l a) r (Blk.ind h0 h1 r)
  | .see a r => h1 (.see a) r (Blk.ind h0 h1 r)
  | .rounds n b r => h1 (.rounds n b) r (Blk.ind h0 h1 r)
  | .cond a x y r => h1 (.cond a x y) r (Blk.ind h0 h1 r)
def Blk.ds : Blk → List D
  | .nil => []
  | .draw l s r => .tup [.str "draw", .int (l : Int), .int (s : Int)] :: r.ds
  | .put l a r => .tup [.str "set", .int (l : Int), a.d] :: r.ds
  | .see a r => .tup [.str "see", a.d] :: r.ds
  | .rounds n b r => .tup [.str "rounds", .int (n : Int), .tup b.ds] :: r.ds
  | .cond a x y r => .tup [.str "if", a.d, .tup x.ds, .tup y.ds] :: r.ds
def Stm.d : Stm → D
  | .draw l s => .tup [.str "draw", .int (l : Int), .int (s : Int)]
  | .put l a => .tup [.str "set", .int (l : Int), a.d]
  | .see a => .tup [.str "see", a.d]
  | .rounds n b => .tup [.str "rounds", .int (n : Int), .tup b.ds]
  | .cond a x y => .tup [.str "if", a.d, .tup x.ds, .tup y.ds]
@[simp] theorem on_ds (s : Stm) (r : Blk) : (s.on r).ds = s.d :: r.ds := by cases s <;> rfl
theorem ds_sts : ∀ b : Blk, b.ds = b.sts.map Stm.d := fun b => by
  induction b using Blk.ind with
  | h0 => rfl
  | h1 s r ih => simp [ih]
def Stm.blks : Stm → List Blk
  | .rounds _ b => [b]
  | .cond _ x y => [x, y]
  | _ => []
def Stm.good (n k : Nat) : Stm → Bool
  | .draw l s => decide (l < n) && decide (s < k)
  | .put l a => decide (l < n) && (a.ok n && decide (a.deep ≤ 8))
  | .see a => a.ok n && decide (a.deep ≤ 8)
  | .rounds m _ => decide (m ≤ 4)
  | .cond a _ _ => a.ok n && decide (a.deep ≤ 8)
def Blk.dr : Blk → Nat
  | .nil => 0
  | .draw _ _ r => 1 + r.dr
  | .put _ _ r => r.dr
  | .see _ r => r.dr
  | .rounds n b r => n * b.dr + r.dr
  | .cond _ x y r => max x.dr y.dr + r.dr
def Stm.dr : Stm → Nat
  | .draw _ _ => 1
  | .put _ _ => 0
  | .see _ => 0
  | .rounds n b => n * b.dr
  | .cond _ x y => max x.dr y.dr
@[simp] theorem on_dr (s : Stm) (r : Blk) : (s.on r).dr = s.dr + r.dr := by cases s <;> simp [Stm.on, Blk.dr, Stm.dr]
def Blk.told : Blk → Nat
  | .nil => 0
  | .draw _ _ r => 1 + r.told
  | .put _ _ r => 1 + r.told
  | .see _ r => 1 + r.told
  | .rounds n b r => n * b.told + r.told
  | .cond _ x y r => (1 + (x.told + y.told)) + r.told
def Stm.told : Stm → Nat
  | .draw _ _ => 1
  | .put _ _ => 1
  | .see _ => 1
  | .rounds n b => n * b.told
  | .cond _ x y => 1 + (x.told + y.told)
@[simp] theorem on_told (s : Stm) (r : Blk) : (s.on r).told = s.told + r.told := by cases s <;> simp [Stm.on, Blk.told, Stm.told]
/-- how many blocks there are -/
def Blk.cnt : Blk → Nat
  | .nil => 1
  | .draw _ _ r => r.cnt
  | .put _ _ r => r.cnt
  | .see _ r => r.cnt
  | .rounds _ b r => b.cnt + r.cnt
  | .cond _ x y r => x.cnt + y.cnt + r.cnt
theorem Blk.cnt_pos (b : Blk) : 0 < b.cnt := by induction b <;> simp [Blk.cnt] <;> omega
def cntL (bs : List Blk) : Nat := (bs.map Blk.cnt).sum
@[simp] theorem on_cnt (s : Stm) (r : Blk) : (s.on r).cnt = cntL s.blks + r.cnt := by cases s <;> simp [Stm.on, Blk.cnt, cntL, Stm.blks]
def insides : List Blk → List Blk := fun bs => bs.flatMap fun b => b.sts.flatMap Stm.blks
theorem cnt_sts (b : Blk) : cntL (b.sts.flatMap Stm.blks) + 1 = b.cnt := by
  induction b using Blk.ind with
  | h0 => rfl
  | h1 s r ih => simp [cntL] at ih ⊢; omega
theorem insides_cnt (bs : List Blk) : cntL (insides bs) ≤ cntL bs := by
  induction bs with
  | nil => simp [insides, cntL]
  | cons b bs ih =>
    have h := cnt_sts b
    simp [insides, cntL] at ih h ⊢
    omega
theorem len_cnt (bs : List Blk) : bs.length ≤ cntL bs := by
  induction bs with
  | nil => simp
  | cons b bs ih => have := b.cnt_pos; simp [cntL] at ih ⊢; omega
/-- a block that the program takes, down to a level -/
def Blk.ok (n k : Nat) : Nat → Blk → Prop
  | 0, _ => False
  | d + 1, b => b.sts.length ≤ 30 ∧ b.dr < 2 ^ 64 ∧ b.told < 2 ^ 64 ∧ ∀ s ∈ b.sts, s.good n k = true ∧ ∀ c ∈ s.blks, Blk.ok n k d c

theorem v_blocks_in (s : Stm) : f_blocks_in [.fz s.d] = some (.lst (s.blks.map fun b => .fz (.tup b.ds)), [.fz s.d]) := by
  refine fn_rt (e := [some (.fz s.d)]) [s.d] ?_
  cases s <;> simp [b_blocks_in, Stm.d, seqD, dStrs, sizeLine, Stm.blks]
@[simp] theorem sz_draw : tabO c_SIZES (.str "draw") = some 3 := by decide +kernel
@[simp] theorem sz_set : tabO c_SIZES (.str "set") = some 3 := by decide +kernel
@[simp] theorem sz_if : tabO c_SIZES (.str "if") = some 4 := by decide +kernel
@[simp] theorem sz_rounds : tabO c_SIZES (.str "rounds") = some 3 := by decide +kernel
@[simp] theorem sz_see : tabO c_SIZES (.str "see") = some 2 := by decide +kernel
theorem v_is_head (n k : Nat) (s : Stm) (h : s.good n k = true) : f_is_head [.fz (.int (n : Int)), .fz (.int (k : Int)), .fz s.d] = some (.fz (.bl true), [.fz (.int (n : Int)), .fz (.int (k : Int)), .fz s.d]) := by
  refine fn_rt (e := [some (.fz (.int (n : Int))), some (.fz (.int (k : Int))), some (.fz s.d)]) [.int (n : Int), .int (k : Int), s.d] ?_
  cases s with
  | draw l t =>
    simp [Stm.good] at h
    have h1 : (l : Int) ≤ (n : Int) - 1 := by omega
    have h2 : (t : Int) ≤ (k : Int) - 1 := by omega
    simp [b_is_head, Stm.d, v_is_between, h1, h2, -tabO, -c_SIZES]
  | put l a =>
    simp [Stm.good] at h
    have h1 : (l : Int) ≤ (n : Int) - 1 := by omega
    simp [b_is_head, Stm.d, v_is_between, h1, v_is_saying_of a n h.2.1 h.2.2]
  | see a =>
    simp [Stm.good] at h
    simp [b_is_head, Stm.d, v_is_saying_of a n h.1 h.2]
  | rounds m b =>
    simp [Stm.good] at h
    have h1 : (m : Int) ≤ 4 := by omega
    simp [b_is_head, Stm.d, v_is_between, h1, c_MOST_ROUNDS, h]
  | cond a x y =>
    simp [Stm.good] at h
    simp [b_is_head, Stm.d, v_is_saying_of a n h.1 h.2]
end Lw

/-! P5 -/
set_option Elab.async false
set_option linter.all false
set_option maxRecDepth 100000
set_option maxHeartbeats 4000000
set_option exponentiation.threshold 100000
namespace Lw
open PySem PySem.Spec PyProof.Rows L2 Fw
def Blk.d (b : Blk) : D := .tup b.ds
section
variable (n k : Nat) (x2 x3 x4 : T) (x5 : Option T)
theorem block_1 : ∀ (ss : List Stm) (acc : List D) (x7 : T) (x8 : Option D), acc.length + cntL (ss.flatMap Stm.blks) ≤ sizeLine → ∃ x8' : Option D,
    loopM (gNm 8) l_is_block_1 (ss.map Stm.d) [some (.fz (.int (n : Int))), some (.fz (.int (k : Int))), some x2, some x3, some x4, x5, some (.lst (acc.map .fz)), some x7, x8.map .fz] =
      some (.nx, [some (.fz (.int (n : Int))), some (.fz (.int (k : Int))), some x2, some x3, some x4, x5, some (.lst ((acc ++ (ss.flatMap Stm.blks).map Blk.d).map .fz)), some x7, x8'.map .fz])
  | [], acc, x7, x8, _ => ⟨x8, by simp⟩
  | s :: ss, acc, x7, x8, h => by
    have hl : acc.length + s.blks.length ≤ sizeLine := by
      have := len_cnt s.blks
      simp [cntL] at h this; omega
    obtain ⟨x8', ih⟩ := block_1 ss (acc ++ s.blks.map Blk.d) x7 (some s.d) (by
      have := len_cnt s.blks
      simp [cntL] at h this ⊢; omega)
    refine ⟨x8', loop_nx (e1 := [some (.fz (.int (n : Int))), some (.fz (.int (k : Int))), some x2, some x3, some x4, x5, some (.lst (acc.map .fz)), some x7, some (.fz s.d)]) rfl ?_ (ih.trans (by simp))⟩
    have e1 : (T.d ∘ fun (b : Blk) => T.fz (.tup b.ds)) = Blk.d := by funext a; simp [Blk.d]
    have e2 : (T.fz ∘ Blk.d) = fun (b : Blk) => T.fz (.tup b.ds) := rfl
    simp [l_is_block_1, v_blocks_in, a_ext, hl, e1, e2]
theorem block_2 : ∀ (bs : List Blk) (acc : List D) (x7 x8 : Option D) (j : Nat), (∀ b ∈ bs, b.ok n k (j + 1)) → acc.length + cntL bs ≤ sizeLine → ∃ x7' x8' : Option D,
    loopM (gNm 7) l_is_block_2 (bs.map Blk.d) [some (.fz (.int (n : Int))), some (.fz (.int (k : Int))), some x2, some x3, some x4, x5, some (.lst (acc.map .fz)), x7.map .fz, x8.map .fz] =
      some (.nx, [some (.fz (.int (n : Int))), some (.fz (.int (k : Int))), some x2, some x3, some x4, x5, some (.lst ((acc ++ (insides bs).map Blk.d).map .fz)), x7'.map .fz, x8'.map .fz])
  | [], acc, x7, x8, j, _, _ => ⟨x7, x8, by simp [insides]⟩
  | b :: bs, acc, x7, x8, j, h, hl => by
    obtain ⟨h1, _, _, h2⟩ := h b (by simp)
    have hc := cnt_sts b
    have hc2 := len_cnt (b.sts.flatMap Stm.blks)
    obtain ⟨y8, q⟩ := block_1 n k x2 x3 x4 x5 b.sts acc (.fz b.d) x8 (by simp [cntL] at hl hc ⊢; omega)
    obtain ⟨x7', x8', ih⟩ := block_2 bs (acc ++ (b.sts.flatMap Stm.blks).map Blk.d) (some b.d) y8 j (fun b hb => h b (by simp [hb])) (by simp [cntL] at hl hc hc2 ⊢; omega)
    refine ⟨x7', x8', loop_nx (e1 := [some (.fz (.int (n : Int))), some (.fz (.int (k : Int))), some x2, some x3, some x4, x5, some (.lst (acc.map .fz)), some (.fz b.d), x8.map .fz]) rfl ?_ (ih.trans (by simp [insides]))⟩
    have hq : q_is_block_1 [some (.fz (.int (n : Int))), some (.fz (.int (k : Int))), some x2, some x3, some x4, x5, some (.lst (acc.map .fz)), some (.fz b.d), x8.map .fz] = some (.lst (List.replicate b.sts.length (.fz (.bl true))), [some (.fz (.int (n : Int))), some (.fz (.int (k : Int))), some x2, some x3, some x4, x5, some (.lst (acc.map .fz)), some (.fz b.d), x8.map .fz]) := by
      unfold q_is_block_1
      rw [lc_eq (ds := b.sts.map Stm.d) (e1 := [some (.fz (.int (n : Int))), some (.fz (.int (k : Int))), some x2, some x3, some x4, x5, some (.lst (acc.map .fz)), some (.fz b.d), x8.map .fz]) (fun _ => some (.fz (.bl true)))]
      · simp [fm_const, -List.filterMap_map]
      · simp [seqD, Blk.d, ds_sts]
      · simp
      · intro d hd
        obtain ⟨s, hs, rfl⟩ := List.mem_map.mp hd
        exact ⟨_, by simp [stepC, v_is_head n k s (h2 s hs).1]; rfl, by simp, by simp⟩
      · simp [sizeLine]; omega
    have h3 : bAll [.lst (List.replicate b.sts.length (.bl true))] = some (.bl true) := by
      simp [lstB, dBools_const]
    have h4 : bLen [b.d] = some (.int b.sts.length) := by simp [Blk.d, ds_sts]
    have h5 : ¬ (30 : Int) < (b.sts.length : Int) := by omega
    have h6 : oIsi "tuple" b.d = some (.bl true) := by simp [Blk.d]
    have h7 : seqD b.d = some (b.sts.map Stm.d) := by simp [Blk.d, ds_sts, seqD]
    simp [l_is_block_2, h6, h4, h5, hq, h3, h7, q, c_MOST_LONG]
theorem insides_ok {bs : List Blk} {j : Nat} (h : ∀ b ∈ bs, b.ok n k (j + 1)) : ∀ b ∈ insides bs, b.ok n k j := by
  intro c hc
  obtain ⟨b, h1, h2⟩ := List.mem_flatMap.mp hc
  obtain ⟨s, h3, h4⟩ := List.mem_flatMap.mp h2
  exact ((h b h1).2.2.2 s h3).2 c h4
theorem block_3 : ∀ (ds : List D) (bs : List Blk) (x4 : T) (x5 x6 : Option T) (x7 x8 : Option D), x4.d = .lst (bs.map Blk.d) → (∀ b ∈ bs, b.ok n k ds.length) → cntL bs ≤ sizeLine → ∃ (x4' : T) (x5' x6' : Option T) (x7' x8' : Option D),
    loopM (gNm 5) l_is_block_3 ds [some (.fz (.int (n : Int))), some (.fz (.int (k : Int))), some x2, some x3, some x4, x5, x6, x7.map .fz, x8.map .fz] =
      some (.nx, [some (.fz (.int (n : Int))), some (.fz (.int (k : Int))), some x2, some x3, some x4', x5', x6', x7'.map .fz, x8'.map .fz]) ∧ x4'.d = .lst []
  | [], bs, x4, x5, x6, x7, x8, h4, hok, _ => by
    have : bs = [] := by
      cases bs with
      | nil => rfl
      | cons b bs => exact absurd (hok b (by simp)) (by simp [Blk.ok])
    subst this
    exact ⟨x4, x5, x6, x7, x8, by simp, by simpa using h4⟩
  | d :: ds, bs, x4, x5, x6, x7, x8, h4, hok, hl => by
    obtain ⟨y7, y8, q⟩ := block_2 n k x2 x3 (.fz (.lst (bs.map Blk.d))) (some (.fz d)) bs [] x7 x8 ds.length hok (by simpa using hl)
    obtain ⟨x4', x5', x6', x7', x8', ih, ih2⟩ := block_3 ds (insides bs) (.fz (.lst ((insides bs).map Blk.d))) (some (.fz d)) (some (.fz (.lst ((insides bs).map Blk.d)))) y7 y8 (by simp) (insides_ok n k hok) (Nat.le_trans (insides_cnt bs) hl)
    refine ⟨x4', x5', x6', x7', x8', loop_nx (e1 := [some (.fz (.int (n : Int))), some (.fz (.int (k : Int))), some x2, some x3, some x4, some (.fz d), x6, x7.map .fz, x8.map .fz]) rfl ?_ ih, ih2⟩
    simp only [List.map_nil, List.nil_append] at q
    simp [l_is_block_3, h4, seqD, q, sizeLine]
end
theorem v_is_block (n k j : Nat) (b : Blk) (h : b.ok n k j) (hc : b.cnt ≤ sizeLine) (hj : j ≤ 1000) : f_is_block [.fz (.int (n : Int)), .fz (.int (k : Int)), .fz b.d, .fz (.int (j : Int))] = some (.fz (.bl true), [.fz (.int (n : Int)), .fz (.int (k : Int)), .fz b.d, .fz (.int (j : Int))]) := by
  obtain ⟨x4', x5', x6', x7', x8', q, q2⟩ := block_3 n k (.fz b.d) (.fz (.int (j : Int))) ((List.range j).map fun (i : Nat) => D.int (i : Int)) [b] (.lst [.fz b.d]) none none none none (by simp) (by simpa using h) (by simpa [cntL] using hc)
  refine fn_rt (e := [some (.fz (.int (n : Int))), some (.fz (.int (k : Int))), some (.fz b.d), some (.fz (.int (j : Int))), some (.fz (.lst [])), x5', x6', x7'.map .fz, x8'.map .fz]) [.int (n : Int), .int (k : Int), b.d, .int (j : Int)] ?_
  have h1 := rng1_n j (by omega)
  simp only [Option.map_none] at q
  simp [b_is_block, sizeLine, h1, -List.map_map, q, q2]
theorem fm_congr {α β : Type} {f g : α → Option β} {xs : List α} (h : ∀ x ∈ xs, f x = g x) : xs.filterMap f = xs.filterMap g := by
  induction xs with
  | nil => rfl
  | cons x xs ih => rw [List.filterMap_cons, List.filterMap_cons, h x (by simp), ih fun y hy => h y (by simp [hy])]
/-! draws, size -/
theorem draws_1 (X : D) (rec : Fn) : ∀ (ss : List Stm) (m : Nat) (x2 x3 : Option D), (∀ s ∈ ss, (∀ c ∈ s.blks, c.dr < 2 ^ 64 ∧ rec [.fz c.d] = some (.fz (.int (c.dr : Int)), [.fz c.d])) ∧ (∀ r b, s = .rounds r b → r ≤ 4)) → ∃ x2' x3' : Option D,
    loopM (gNm 2) (l_draws_on_1 rec) (ss.map Stm.d) [some (.fz X), some (.fz (.int (m : Int))), x2.map .fz, x3.map .fz] = some (.nx, [some (.fz X), some (.fz (.int ((m + (ss.map Stm.dr).sum : Nat) : Int))), x2'.map .fz, x3'.map .fz])
  | [], m, x2, x3, _ => ⟨x2, x3, by simp⟩
  | s :: ss, m, x2, x3, h => by
    obtain ⟨hs, hr⟩ := h s (by simp)
    obtain ⟨x2', x3', ih⟩ := draws_1 X rec ss (m + s.dr) (some s.d) x3 (fun s hs => h s (by simp [hs]))
    refine ⟨x2', x3', loop_nx (e1 := [some (.fz X), some (.fz (.int (m : Int))), some (.fz s.d), x3.map .fz]) rfl ?_ (ih.trans (by simp [Nat.add_assoc]))⟩
    have key : (∃ r b, s = .rounds r b) ∨ (∃ l t, s = .draw l t) ∨ (oIx s.d (.int 0) = some (.str "set") ∨ oIx s.d (.int 0) = some (.str "see") ∨ oIx s.d (.int 0) = some (.str "if")) := by
      cases s <;> simp [Stm.d]
    have hq : q_draws_on_1 rec [some (.fz X), some (.fz (.int (m : Int))), some (.fz s.d), x3.map .fz] = some (.lst (s.blks.map fun c => .fz (.int (c.dr : Int))), [some (.fz X), some (.fz (.int (m : Int))), some (.fz s.d), x3.map .fz]) := by
      unfold q_draws_on_1
      rw [lc_eq (ds := s.blks.map Blk.d) (e1 := [some (.fz X), some (.fz (.int (m : Int))), some (.fz s.d), x3.map .fz]) (fun d => (rec [.fz d]).map (·.1))]
      · have : s.blks.filterMap ((fun d => (rec [.fz d]).map (·.1)) ∘ Blk.d) = s.blks.map fun c => .fz (.int (c.dr : Int)) := by
          rw [← fm_some]
          exact fm_congr fun c hc => by simp [(hs c hc).2]
        simp [List.filterMap_map, this]
      · have e1 : (T.d ∘ fun (b : Blk) => T.fz (.tup b.ds)) = Blk.d := by funext a; simp [Blk.d]
        simp [v_blocks_in, seqD, e1]
      · simp
      · intro d hd
        obtain ⟨c, hc, rfl⟩ := List.mem_map.mp hd
        refine ⟨_, by simp [stepC, (hs c hc).2]; rfl, by simp, by simp⟩
      · have : s.blks.length ≤ 2 := by cases s <;> simp [Stm.blks]
        simp [sizeLine]; omega
    cases s with
    | draw l t => simp [l_draws_on_1, Stm.d, Stm.dr]
    | rounds r b =>
      have h1 := hs b (by simp [Stm.blks])
      have h2 : CMulX (r : Int) (b.dr : Int) := by
        have := hr r b rfl
        exact mul_ok (Nat.lt_of_le_of_lt this (lt_mono (a := 3) (by decide))) (lt_mono h1.1)
      have h3 := h1.2
      simp only [Blk.d] at h3
      simp [l_draws_on_1, Stm.d, Stm.dr, h3, h2]
    | put l a =>
      simp only [Stm.blks, List.map_nil] at hq
      have hm : bMax [.lst [.int 0]] = some (.int 0) := rfl
      simp only [Stm.d, Blk.d] at hq
      simp [l_draws_on_1, Stm.d, Stm.dr, hq, sizeLine, hm]
    | see a =>
      simp only [Stm.blks, List.map_nil] at hq
      have hm : bMax [.lst [.int 0]] = some (.int 0) := rfl
      simp only [Stm.d, Blk.d] at hq
      simp [l_draws_on_1, Stm.d, Stm.dr, hq, sizeLine, hm]
    | cond a x y =>
      simp only [Stm.blks, List.map_cons, List.map_nil] at hq
      have hm : bMax [.lst [.int 0, .int (x.dr : Int), .int (y.dr : Int)]] = some (.int ((max x.dr y.dr : Nat) : Int)) := by
        simp [lstI, dInts, List.max?]
        omega
      simp only [Stm.d, Blk.d] at hq
      simp [l_draws_on_1, Stm.d, Stm.dr, hq, sizeLine, hm]
theorem dr_sum (b : Blk) : b.dr = (b.sts.map Stm.dr).sum := by
  induction b using Blk.ind with
  | h0 => rfl
  | h1 s r ih => simp [ih]
theorem told_sum (b : Blk) : b.told = (b.sts.map Stm.told).sum := by
  induction b using Blk.ind with
  | h0 => rfl
  | h1 s r ih => simp [ih]
theorem v_draws_on (n k : Nat) : ∀ (j m : Nat) (b : Blk), b.ok n k j → j ≤ m → f_draws_on m [.fz b.d] = some (.fz (.int (b.dr : Int)), [.fz b.d])
  | 0, m, b, h, _ => absurd h (by simp [Blk.ok])
  | j + 1, 0, b, _, h => by omega
  | j + 1, m + 1, b, h, hm => by
    obtain ⟨h1, h2, h3, h4⟩ := h
    unfold f_draws_on
    obtain ⟨x2, x3, q⟩ := draws_1 b.d (f_draws_on m) b.sts 0 none none (fun s hs => ⟨fun c hc => ⟨by
        have := (h4 s hs).2 c hc
        cases j with
        | zero => exact absurd this (by simp [Blk.ok])
        | succ j => exact this.2.1, v_draws_on n k j m c ((h4 s hs).2 c hc) (by omega)⟩, fun r b e => by
        have := (h4 s hs).1
        subst e
        simpa [Stm.good] using this⟩)
    refine fn_rt (e := [some (.fz b.d), none, x2.map .fz, x3.map .fz]) [b.d] ?_
    have h5 : seqD b.d = some (b.sts.map Stm.d) := by simp [Blk.d, ds_sts, seqD]
    rw [Nat.zero_add, ← dr_sum] at q
    simp only [Option.map_none] at q
    have q' : loopM (gNm 2) (l_draws_on_1 (f_draws_on m)) (b.sts.map Stm.d) [some (.fz b.d), some (.fz (.int 0)), none, none] = some (.nx, [some (.fz b.d), some (.fz (.int (b.dr : Int))), x2.map .fz, x3.map .fz]) := q
    simp [b_draws_on, h5, q']
theorem told_1 (X : D) (rec : Fn) : ∀ (ss : List Stm) (m : Nat) (x2 x3 x4 : Option D), (∀ s ∈ ss, (∀ c ∈ s.blks, c.told < 2 ^ 64 ∧ rec [.fz c.d] = some (.fz (.int (c.told : Int)), [.fz c.d])) ∧ (∀ r b, s = .rounds r b → r ≤ 4)) → ∃ x2' x3' x4' : Option D,
    loopM (gNm 2) (l_told_size_1 rec) (ss.map Stm.d) [some (.fz X), some (.fz (.int (m : Int))), x2.map .fz, x3.map .fz, x4.map .fz] = some (.nx, [some (.fz X), some (.fz (.int ((m + (ss.map Stm.told).sum : Nat) : Int))), x2'.map .fz, x3'.map .fz, x4'.map .fz])
  | [], m, x2, x3, x4, _ => ⟨x2, x3, x4, by simp⟩
  | s :: ss, m, x2, x3, x4, h => by
    obtain ⟨hs, hr⟩ := h s (by simp)
    have hi : ∃ i : Nat, (s.blks.map Blk.told).sum = i := ⟨_, rfl⟩
    obtain ⟨i, hi⟩ := hi
    obtain ⟨x2', x3', x4', ih⟩ := told_1 X rec ss (m + s.told) (some s.d) (some (.int (i : Int))) x4 (fun s hs => h s (by simp [hs]))
    refine ⟨x2', x3', x4', loop_nx (e1 := [some (.fz X), some (.fz (.int (m : Int))), some (.fz s.d), x3.map .fz, x4.map .fz]) rfl ?_ (ih.trans (by simp [Nat.add_assoc]))⟩
    have hq : q_told_size_1 rec [some (.fz X), some (.fz (.int (m : Int))), some (.fz s.d), x3.map .fz, x4.map .fz] = some (.lst (s.blks.map fun c => .fz (.int (c.told : Int))), [some (.fz X), some (.fz (.int (m : Int))), some (.fz s.d), x3.map .fz, x4.map .fz]) := by
      unfold q_told_size_1
      rw [lc_eq (ds := s.blks.map Blk.d) (e1 := [some (.fz X), some (.fz (.int (m : Int))), some (.fz s.d), x3.map .fz, x4.map .fz]) (fun d => (rec [.fz d]).map (·.1))]
      · have : s.blks.filterMap ((fun d => (rec [.fz d]).map (·.1)) ∘ Blk.d) = s.blks.map fun c => .fz (.int (c.told : Int)) := by
          rw [← fm_some]
          exact fm_congr fun c hc => by simp [(hs c hc).2]
        simp [List.filterMap_map, this]
      · have e1 : (T.d ∘ fun (b : Blk) => T.fz (.tup b.ds)) = Blk.d := by funext a; simp [Blk.d]
        simp [v_blocks_in, seqD, e1]
      · simp
      · intro d hd
        obtain ⟨c, hc, rfl⟩ := List.mem_map.mp hd
        refine ⟨_, by simp [stepC, (hs c hc).2]; rfl, by simp, by simp⟩
      · have : s.blks.length ≤ 2 := by cases s <;> simp [Stm.blks]
        simp [sizeLine]; omega
    have hsum : bSum [.lst (s.blks.map fun c => .int (c.told : Int))] = some (.int (i : Int)) := by
      subst hi
      cases s <;> simp [Stm.blks, lstI, dInts]
    have hsum' : bSum [.lst (s.blks.map (T.d ∘ fun (c : Blk) => T.fz (.int (c.told : Int))))] = some (.int (i : Int)) := by
      rw [← hsum]
      have e : (s.blks.map (T.d ∘ fun (c : Blk) => T.fz (.int (c.told : Int)))) = s.blks.map fun (c : Blk) => D.int (c.told : Int) := List.map_congr_left fun c _ => by simp
      rw [e]
    cases s with
    | rounds r b =>
      have h1 := hs b (by simp [Stm.blks])
      have h2 : CMulX (r : Int) (i : Int) := by
        have := hr r b rfl
        simp [Stm.blks] at hi
        subst hi
        exact mul_ok (Nat.lt_of_le_of_lt this (lt_mono (a := 3) (by decide))) (lt_mono h1.1)
      simp [Stm.blks] at hi
      simp [l_told_size_1, hq, hsum']
      simp [Stm.d, Stm.told, h2, hi]
    | draw l t =>
      simp [Stm.blks] at hi
      simp [l_told_size_1, hq, hsum']
      simp [Stm.d, Stm.told, ← hi]
    | put l a =>
      simp [Stm.blks] at hi
      simp [l_told_size_1, hq, hsum']
      simp [Stm.d, Stm.told, ← hi]
    | see a =>
      simp [Stm.blks] at hi
      simp [l_told_size_1, hq, hsum']
      simp [Stm.d, Stm.told, ← hi]
    | cond a x y =>
      simp [Stm.blks] at hi
      simp [l_told_size_1, hq, hsum']
      simp [Stm.d, Stm.told, ← hi]
theorem v_told_size (n k : Nat) : ∀ (j m : Nat) (b : Blk), b.ok n k j → j ≤ m → f_told_size m [.fz b.d] = some (.fz (.int (b.told : Int)), [.fz b.d])
  | 0, m, b, h, _ => absurd h (by simp [Blk.ok])
  | j + 1, 0, b, _, h => by omega
  | j + 1, m + 1, b, h, hm => by
    obtain ⟨h1, h2, h3, h4⟩ := h
    unfold f_told_size
    obtain ⟨x2, x3, x4, q⟩ := told_1 b.d (f_told_size m) b.sts 0 none none none (fun s hs => ⟨fun c hc => ⟨by
        have := (h4 s hs).2 c hc
        cases j with
        | zero => exact absurd this (by simp [Blk.ok])
        | succ j => exact this.2.2.1, v_told_size n k j m c ((h4 s hs).2 c hc) (by omega)⟩, fun r b e => by
        have := (h4 s hs).1
        subst e
        simpa [Stm.good] using this⟩)
    refine fn_rt (e := [some (.fz b.d), none, x2.map .fz, x3.map .fz, x4.map .fz]) [b.d] ?_
    have h5 : seqD b.d = some (b.sts.map Stm.d) := by simp [Blk.d, ds_sts, seqD]
    rw [Nat.zero_add, ← told_sum] at q
    simp only [Option.map_none] at q
    have q' : loopM (gNm 2) (l_told_size_1 (f_told_size m)) (b.sts.map Stm.d) [some (.fz b.d), some (.fz (.int 0)), none, none, none] = some (.nx, [some (.fz b.d), some (.fz (.int (b.told : Int))), x2.map .fz, x3.map .fz, x4.map .fz]) := q
    simp [b_told_size, h5, q']
/-! a program -/
structure Prog where
  n : Nat
  sh : List Rat
  b : Blk
def Prog.d (p : Prog) : D := .tup [.int (p.n : Int), .tup (p.sh.map fr), p.b.d]
structure Prog.Ok (p : Prog) : Prop where
  n1 : 1 ≤ p.n
  n4 : p.n ≤ 4
  len : p.sh.length ≤ 4
  ch : ∀ q ∈ p.sh, Chance q
  blk : p.b.ok p.n p.sh.length 6
  cnt : p.b.cnt ≤ sizeLine
  dr : p.b.dr ≤ 12
  told : p.b.told ≤ 300
theorem v_is_program {p : Prog} (h : p.Ok) : f_is_program [.fz p.d] = some (.fz (.bl true), [.fz p.d]) := by
  refine fn_rt (e := [some (.fz p.d), some (.fz (.int (p.n : Int))), some (.fz (.tup (p.sh.map fr))), some (.fz p.b.d)]) [p.d] ?_
  have h1 : (1 : Int) ≤ (p.n : Int) := by have := h.n1; omega
  have h2 : (p.n : Int) ≤ 4 := by have := h.n4; omega
  have h3 : (p.b.dr : Int) ≤ 12 := by have := h.dr; omega
  have h4 : (p.b.told : Int) ≤ 300 := by have := h.told; omega
  have hb : f_is_block [.fz (.int (p.n : Int)), .fz (.int (p.sh.length : Int)), .fz p.b.d, .fz (.int 6)] = some (.fz (.bl true), [.fz (.int (p.n : Int)), .fz (.int (p.sh.length : Int)), .fz p.b.d, .fz (.int 6)]) := v_is_block p.n p.sh.length 6 p.b h.blk h.cnt (by decide)
  simp [b_is_program, Prog.d, v_is_between, h1, h2, h3, h4, c_MOST_LETTERS, v_are_shares h.len h.ch, hb, v_draws_on p.n p.sh.length 6 8 p.b h.blk (by decide), v_told_size p.n p.sh.length 6 8 p.b h.blk (by decide), c_MOST_DEEP, c_MOST_DRAWS, c_MOST_TOLD, h.n1, h.n4, h.dr, h.told]
theorem v_need_program {p : Prog} (h : p.Ok) : f_need_program [.fz p.d] = some (.fz .non, [.fz p.d]) := by
  refine fn_nx (e := [some (.fz p.d)]) [p.d] ?_
  simp [b_need_program, v_is_program h]
end Lw

/-! P6 -/
set_option Elab.async false
set_option linter.all false
set_option maxRecDepth 100000
set_option maxHeartbeats 4000000
set_option exponentiation.threshold 100000
namespace Lw
open PySem PySem.Spec PyProof.Rows L2 Fw
/-! ### the hand -/
structure Hand where
  cells : List Int
  pos : Nat
  big : Int
  seed : Int
  cnt : Int
def Hand.t (h : Hand) : T := .lst [.fz (.lst (h.cells.map .int)), .fz (.int (h.pos : Int)), .fz (.int h.big), .fz (.int h.seed), .fz (.int h.cnt)]
theorem fn_lent {n total : Nat} {W : List Nat} {body : MS} {r t' : T} {e : Fw.Env} (xs : List T) (ds : List D) (h : body (some (.lst xs) :: (ds.map (fun d => some (.fz d)) ++ List.replicate (total - n) none)) = some (.rt r, e)) (he : e[0]? = some (some t')) (hl : ds.length + 1 = n := by rfl) (hW : 0 ∉ W := by decide) : mkFn n total W body (.lst xs :: ds.map .fz) = some (r, t' :: ds.map .fz) := by
  have h2 : body ((T.lst xs :: ds.map T.fz).map some ++ List.replicate (total - n) none) = some (.rt r, e) := by
    rw [List.map_cons, List.map_map, List.cons_append]; exact h
  unfold mkFn
  rw [if_pos (by simpa using hl), h2]
  simp only [Fw.resT, outsM, hW, if_false, he, outsM_fz, Option.map_some]
theorem cd {i : Int} {b : Nat} (h : 0 < b := by decide) (h2 : b < 2 ^ 60 := by decide) : CDivW i (b : Int) := wide_div (b := 60) (by omega) (by simpa using h2) (by decide) (by decide)
theorem v_law_draw (h : Hand) (m : Nat) (hm : 0 < m) (hm2 : m < 2 ^ 60) : ∃ (j : Nat) (h' : Hand), j < m ∧ f_law_draw [h.t, .fz (.int (m : Int))] = some (.fz (.int (j : Int)), [h'.t, .fz (.int (m : Int))]) := by
  obtain ⟨h1, x2, s1⟩ : ∃ (h1 : Hand) (x2 : Option D), (mIfS (mAndT (mB (mOp oEq (mPl (pIx (pNm 0) (mRet (.int 2)))) (mRet (.int 0)))) (mB (mOp oLt (mPl (pIx (pNm 0) (mRet (.int 1)))) (mCall bLen (mCons (mPl (pIx (pNm 0) (mRet (.int 0)))) (mRet [])))))) (mSeq (mAsg (mT (mOp oIx (mPl (pIx (pNm 0) (mRet (.int 0)))) (mPl (pIx (pNm 0) (mRet (.int 1)))))) (gNm 2))
    (mSeq (mAsg (mOpT oAdd (mPl (pIx (pNm 0) (mRet (.int 1)))) (mRet (.int 1))) (gIx (pNm 0) (mRet (.int 1))))
    (mSeq (mAsg (mT (mOp oMod (mCall bInt (mCons (mF (mOpT oAdd (mF (mOpT oAdd (mF (mOpT oMul (mPl (pIx (pNm 0) (mRet (.int 3)))) (mRet (.int 48271)))) (mVar 2))) (mRet (.int 11)))) (mRet []))) (mRet (.int 2147483647)))) (gIx (pNm 0) (mRet (.int 3))))
    (mIfS (mB (mOp oGe (mVar 2) (mOp oPow (mRet (.int 10)) (mRet (.int 18))))) (mAsg (mT (mVar 2)) (gIx (pNm 0) (mRet (.int 2)))) mNx)))) mNx) [some h.t, some (.fz (.int (m : Int))), none, none, none] = some (.nx, [some h1.t, some (.fz (.int (m : Int))), x2.map .fz, none, none]) := by
    by_cases hb : h.big = 0
    · by_cases hp : h.pos < h.cells.length
      · have hq : (h.cells.map D.int)[h.pos]? = some (.int h.cells[h.pos]) := by simp [hp]
        have hc : CMulX h.seed 48271 := small_r (by decide)
        have hpow : CPow 10 18 := by decide
        by_cases hg : (10 : Int) ^ 18 ≤ h.cells[h.pos]
        · refine ⟨⟨h.cells, h.pos + 1, h.cells[h.pos], (h.seed * 48271 + h.cells[h.pos] + 11) % 2147483647, h.cnt⟩, some (.int h.cells[h.pos]), ?_⟩
          have hg' : (1000000000000000000 : Int) ≤ h.cells[h.pos] := hg
          simp [Hand.t, a_plIx, a_gIx, hb, hp, hq, hc, hpow, hg', bInt]
        · refine ⟨⟨h.cells, h.pos + 1, h.big, (h.seed * 48271 + h.cells[h.pos] + 11) % 2147483647, h.cnt⟩, some (.int h.cells[h.pos]), ?_⟩
          have hg' : ¬ (1000000000000000000 : Int) ≤ h.cells[h.pos] := hg
          simp [Hand.t, a_plIx, a_gIx, hb, hp, hq, hc, hpow, hg', bInt]
      · refine ⟨h, none, ?_⟩
        simp [Hand.t, a_plIx, hb, hp]
    · refine ⟨h, none, ?_⟩
      simp [Hand.t, a_plIx, hb]
  by_cases hb : 0 < h1.big
  · have hmod := Int.emod_lt_of_pos h1.big (show (0 : Int) < (m : Int) by omega)
    have hmod0 := Int.emod_nonneg h1.big (show (m : Int) ≠ 0 by omega)
    obtain ⟨j, hj⟩ : ∃ j : Nat, h1.big % (m : Int) = (j : Int) := ⟨(h1.big % (m : Int)).toNat, by omega⟩
    refine ⟨j, ⟨h1.cells, h1.pos, h1.big / (m : Int), h1.seed, h1.cnt⟩, by omega, ?_⟩
    refine fn_lent (e := [some (Hand.t ⟨h1.cells, h1.pos, h1.big / (m : Int), h1.seed, h1.cnt⟩), some (.fz (.int (m : Int))), x2.map .fz, none, none]) _ [.int (m : Int)] ?_ rfl
    unfold b_law_draw
    rw [a_seq]
    refine (congrArg (fun z => Option.bind z _) s1).trans ?_
    have hd : CDivW h1.big (m : Int) := cd hm hm2
    simp [Hand.t, a_plIx, a_gIx, hb, bInt, hj, hd, hm]
  · generalize hn1 : (h1.seed + 6007 * (h1.cnt + 1)) * 69621 % 2147483629 = n1
    generalize hn2 : n1 * (n1 / 1013 + 48271) % 2147483647 = n2
    generalize hn3 : n2 * (n2 / 2011 + 16807) % 2147483587 = n3
    have hmod := Int.emod_lt_of_pos (n3 / 32) (show (0 : Int) < (m : Int) by omega)
    have hmod0 := Int.emod_nonneg (n3 / 32) (show (m : Int) ≠ 0 by omega)
    obtain ⟨j, hj⟩ : ∃ j : Nat, n3 / 32 % (m : Int) = (j : Int) := ⟨(n3 / 32 % (m : Int)).toNat, by omega⟩
    refine ⟨j, ⟨h1.cells, h1.pos, h1.big, h1.seed, h1.cnt + 1⟩, by omega, ?_⟩
    refine fn_lent (e := [some (Hand.t ⟨h1.cells, h1.pos, h1.big, h1.seed, h1.cnt + 1⟩), some (.fz (.int (m : Int))), x2.map .fz, none, some (.fz (.int n3))]) _ [.int (m : Int)] ?_ rfl
    unfold b_law_draw
    rw [a_seq]
    refine (congrArg (fun z => Option.bind z _) s1).trans ?_
    have c1 : CMulX 6007 (h1.cnt + 1) := small_l (by decide)
    have c2 : CMulX (h1.seed + 6007 * (h1.cnt + 1)) 69621 := small_r (by decide)
    have c3 : CMulX n1 (n1 / 1013 + 48271) := by
      refine small_l ?_
      have : (2 : Nat) ^ 60 = 1152921504606846976 := by decide
      omega
    have c4 : CMulX n2 (n2 / 2011 + 16807) := by
      refine small_l ?_
      have : (2 : Nat) ^ 60 = 1152921504606846976 := by decide
      omega
    have d1 : CDivW n1 1013 := cd (b := 1013)
    have d2 : CDivW n2 2011 := cd (b := 2011)
    have d3 : CDivW n3 32 := cd (b := 32)
    simp [Hand.t, a_plIx, a_gIx, hb, bInt, c1, c2, c3, c4, d1, d2, d3, hn1, hn2, hn3, hj, hm]
end Lw

/-! P7 -/
set_option Elab.async false
set_option linter.all false
set_option maxRecDepth 100000
set_option maxHeartbeats 4000000
set_option exponentiation.threshold 100000
namespace Lw
open PySem PySem.Spec PyProof.Rows L2 Fw
theorem hand_lst (h : Hand) : ∃ xs, h.t = .lst xs := ⟨_, rfl⟩
theorem v_law_some (h : Hand) (X : D) (ds : List D) (hX : X = .lst ds) (h0 : 0 < ds.length) (h1 : ds.length < 2 ^ 60) : ∃ (d : D) (h' : Hand), d ∈ ds ∧ f_law_some [h.t, .fz X] = some (.fz d, [h'.t, .fz X]) := by
  obtain ⟨j, h', hj, q⟩ := v_law_draw h ds.length h0 h1
  refine ⟨ds[j], h', List.getElem_mem hj, ?_⟩
  subst hX
  refine fn_lent (e := [some h'.t, some (.fz (.lst ds))]) _ [.lst ds] ?_ rfl
  have hq : ds[j]? = some ds[j] := List.getElem?_eq_getElem hj
  have e : h.t = .lst _ := rfl
  rw [← e]
  simp [b_law_some, q, hq]
theorem v_law_saying (letters : Nat) (hl : 0 < letters) (hl2 : letters < 2 ^ 60) : ∀ (n dep : Nat) (h : Hand), dep ≤ n + 1 → ∃ (s : Say) (h' : Hand), s.ok letters = true ∧ s.deep ≤ max 1 dep ∧ f_law_saying (n + 1) [h.t, .fz (.int (letters : Int)), .fz (.int (dep : Int))] = some (.fz s.d, [h'.t, .fz (.int (letters : Int)), .fz (.int (dep : Int))])
  | n, dep, h, hd => by
    obtain ⟨kind, h1, hk, q1⟩ := v_law_draw h 9 (by decide) (by decide)
    have q1' : f_law_draw [h.t, .fz (.int 9)] = some (.fz (.int (kind : Int)), [h1.t, .fz (.int 9)]) := q1
    have e : ∀ h : Hand, h.t = .lst _ := fun h => rfl
    by_cases hs : dep < 2 ∨ kind < 2
    · obtain ⟨c, h2, hc, q2⟩ := v_law_draw h1 9 (by decide) (by decide)
      have q2' : f_law_draw [h1.t, .fz (.int 9)] = some (.fz (.int (c : Int)), [h2.t, .fz (.int 9)]) := q2
      by_cases h0 : 0 < c
      · obtain ⟨l, h3, hl3, q3⟩ := v_law_draw h2 letters hl hl2
        refine ⟨.letter l, h3, by simp [Say.ok, hl3], by simp [Say.deep]; omega, ?_⟩
        unfold f_law_saying
        refine fn_lent (e := [some h3.t, some (.fz (.int (letters : Int))), some (.fz (.int (dep : Int))), some (.fz (.int (kind : Int))), none]) _ [.int (letters : Int), .int (dep : Int)] ?_ rfl
        rw [← e h]
        by_cases h4 : dep < 2
        · have : (dep : Int) < 2 := by omega
          simp [b_law_saying, q1', q2', q3, this, h0, h4, sizeLine, Say.d]
        · have h5 : kind < 2 := by omega
          have : (kind : Int) < 2 := by omega
          have h6 : ¬ (dep : Int) < 2 := by omega
          simp [b_law_saying, q1', q2', q3, this, h6, h0, sizeLine, Say.d]
      · obtain ⟨d, h3, hd3, q3⟩ := v_law_some h2 (.lst [.str "true", .str "false"]) _ rfl (by simp) (by simp)
        have : ∃ b : Bool, d = .str (if b then "true" else "false") := by
          simp at hd3
          rcases hd3 with rfl | rfl
          · exact ⟨true, rfl⟩
          · exact ⟨false, rfl⟩
        obtain ⟨b, rfl⟩ := this
        refine ⟨.con b, h3, by simp [Say.ok], by simp [Say.deep]; omega, ?_⟩
        unfold f_law_saying
        refine fn_lent (e := [some h3.t, some (.fz (.int (letters : Int))), some (.fz (.int (dep : Int))), some (.fz (.int (kind : Int))), none]) _ [.int (letters : Int), .int (dep : Int)] ?_ rfl
        rw [← e h]
        by_cases h4 : dep < 2
        · have : (dep : Int) < 2 := by omega
          simp [b_law_saying, q1', q2', q3, this, h0, h4, sizeLine, Say.d]
        · have h5 : kind < 2 := by omega
          have : (kind : Int) < 2 := by omega
          have h6 : ¬ (dep : Int) < 2 := by omega
          simp [b_law_saying, q1', q2', q3, this, h6, h0, sizeLine, Say.d]
    · have h4 : ¬ (dep : Int) < 2 := by omega
      have h5 : ¬ (kind : Int) < 2 := by omega
      have hdep : 2 ≤ dep := by omega
      cases n with
      | zero => omega
      | succ n =>
        have hsub : (dep : Int) - 1 = ((dep - 1 : Nat) : Int) := by omega
        by_cases h2 : kind = 2
        · obtain ⟨a, h3, ha1, ha2, q3⟩ := v_law_saying letters hl hl2 n (dep - 1) h1 (by omega)
          refine ⟨.no a, h3, by simpa [Say.ok] using ha1, by simp [Say.deep]; omega, ?_⟩
          unfold f_law_saying
          refine fn_lent (e := [some h3.t, some (.fz (.int (letters : Int))), some (.fz (.int (dep : Int))), some (.fz (.int (kind : Int))), none]) _ [.int (letters : Int), .int (dep : Int)] ?_ rfl
          rw [← e h]
          rw [← hsub] at q3
          simp [b_law_saying, q1', q3, h4, h5, h2, sizeLine, Say.d]
        · obtain ⟨d, h3, hd3, q3⟩ := v_law_some h1 (.lst [.str "and", .str "or", .str "then", .str "same", .str "and", .str "or"]) _ rfl (by simp) (by simp)
          have : ∃ o : Op2, d = .str o.w := by
            simp at hd3
            rcases hd3 with rfl | rfl | rfl | rfl | rfl | rfl
            · exact ⟨.and, rfl⟩
            · exact ⟨.or, rfl⟩
            · exact ⟨.thn, rfl⟩
            · exact ⟨.same, rfl⟩
            · exact ⟨.and, rfl⟩
            · exact ⟨.or, rfl⟩
          obtain ⟨o, rfl⟩ := this
          obtain ⟨a, h6, ha1, ha2, q6⟩ := v_law_saying letters hl hl2 n (dep - 1) h3 (by omega)
          obtain ⟨b, h7, hb1, hb2, q7⟩ := v_law_saying letters hl hl2 n (dep - 1) h6 (by omega)
          refine ⟨.two o a b, h7, by simp [Say.ok, ha1, hb1], by simp [Say.deep]; omega, ?_⟩
          unfold f_law_saying
          refine fn_lent (e := [some h7.t, some (.fz (.int (letters : Int))), some (.fz (.int (dep : Int))), some (.fz (.int (kind : Int))), some (.fz (.str o.w))]) _ [.int (letters : Int), .int (dep : Int)] ?_ rfl
          rw [← e h]
          rw [← hsub] at q6 q7
          have h8 : ¬ (kind : Int) = 2 := by omega
          simp [b_law_saying, q1', q3, q6, q7, h4, h5, h8, sizeLine, Say.d]
end Lw

/-! P8 -/
set_option Elab.async false
set_option linter.all false
set_option maxRecDepth 100000
set_option maxHeartbeats 4000000
set_option exponentiation.threshold 100000
namespace Lw
open PySem PySem.Spec PyProof.Rows L2 Fw
@[simp] theorem a_sl {α : Type} (m : M D) (l h : M (Option Int)) (k : D → Option Int → Option Int → Option α) (e : Fw.Env) : mSl m l h k e = (m e).bind fun p => (l p.2).bind fun q => (h q.2).bind fun r => (k p.1 q.1 r.1).map fun z => (z, r.2) := by
  unfold mSl
  simp only [a_bind, a_opt]
@[simp] theorem a_partN (e : Fw.Env) : mPartN e = some (none, e) := rfl
@[simp] theorem a_part_i (i : Int) (e : Fw.Env) : mPart (mRet (.int i)) e = some (some i, e) := by simp [mPart]
theorem v_law_hand (ns : List Int) (hz : ns.length < 2 ^ 60) : ∃ h : Hand, f_law_hand [.fz (.scr ns)] = some (h.t, [.fz (.scr ns)]) := by
  have hz2 : (Fw.cutD ns none (some 63)).length ≤ sizeLine := by
    have : (Fw.cutD ns none (some 63)).length ≤ 63 := by
      unfold Fw.cutD
      simp [HT.sIx]
      omega
    simp [sizeLine]; omega
  refine ⟨⟨(Fw.cutD ns none (some 63)).map fun i => if i < 0 then -i else i, 0, 0, 31 + 7 * ((Fw.cutD ns none (some 63)).length : Int), 0⟩, ?_⟩
  have hq : q_law_hand_1 [some (.fz (.scr ns)), none, none] = some (.lst ((Fw.cutD ns none (some 63)).map fun i => .fz (.int (if i < 0 then -i else i))), [some (.fz (.scr ns)), none, none]) := by
    unfold q_law_hand_1
    rw [lc_eq (ds := (Fw.cutD ns none (some 63)).map D.int) (e1 := [some (.fz (.scr ns)), none, none]) (fun d => match d with | .int i => some (.fz (.int (if i < 0 then -i else i))) | _ => none)]
    · have : (Fw.cutD ns none (some 63)).filterMap ((fun d => match d with | .int i => some (T.fz (.int (if i < 0 then -i else i))) | _ => none) ∘ D.int) = (Fw.cutD ns none (some 63)).map fun i => .fz (.int (if i < 0 then -i else i)) := by
        rw [← fm_some]; rfl
      simp [List.filterMap_map, this]
    · simp [slO, seqD]
    · simp
    · intro d hd
      obtain ⟨i, hi, rfl⟩ := List.mem_map.mp hd
      exact ⟨[some (.fz (.scr ns)), none, some (.fz (.int i))], by simp [stepC, bInt, b1I], by simp, by simp⟩
    · simpa using hz2
  have hc : CMulX 7 ((Fw.cutD ns none (some 63)).length : Int) := small_l (by decide)
  have e1 : ((Fw.cutD ns none (some 63)).map (T.d ∘ fun (i : Int) => T.fz (.int (if i < 0 then -i else i)))) = ((Fw.cutD ns none (some 63)).map fun i => if i < 0 then -i else i).map D.int := by
    rw [List.map_map]; exact List.map_congr_left fun c _ => by simp
  refine fn_rt (e := [some (.fz (.scr ns)), some (.fz (.lst (((Fw.cutD ns none (some 63)).map fun i => if i < 0 then -i else i).map D.int))), none]) [.scr ns] ?_
  simp [b_law_hand, hq, hc, sizeLine, Hand.t, -List.map_map]
  simp [e1]
theorem loopC_ex {vs : List Nat} {g : G} {c : M Bool} {el : M T} (Q : T → Prop) (I : Fw.Env → Prop) : ∀ (ds : List D) (acc : List T) (e : Fw.Env), I (wipeE e vs) →
    (∀ d ∈ ds, ∀ e, I e → ∃ t e2, stepC g c el d e = some (some t, e2) ∧ Q t ∧ I (wipeE e2 vs) ∧ vs.all (fzOk e2) = true) → acc.length + ds.length ≤ sizeLine → ∃ ts e3, ts.length = ds.length ∧ (∀ t ∈ ts, Q t) ∧ I (wipeE e3 vs) ∧ loopC vs g c el ds acc e = some (acc ++ ts, e3)
  | [], acc, e, h0, _, _ => ⟨[], e, rfl, by simp, h0, by simp [loopC]⟩
  | d :: ds, acc, e, h0, hs, hl => by
    obtain ⟨t, e2, h1, hQ, h2, h3⟩ := hs d (by simp) _ h0
    simp only [List.length_cons] at hl
    obtain ⟨ts, e3, h5, h6, h7, h8⟩ := loopC_ex Q I ds (acc ++ [t]) e2 h2 (fun d hd => hs d (by simp [hd])) (by simp; omega)
    refine ⟨t :: ts, e3, by simp [h5], by simpa [hQ] using h6, h7, ?_⟩
    unfold stepC at h1
    obtain ⟨e1, g1, h1⟩ := Option.bind_eq_some_iff.mp h1
    obtain ⟨⟨b, e4⟩, g2, h1⟩ := Option.bind_eq_some_iff.mp h1
    cases b with
    | true =>
      simp only [if_true] at h1
      obtain ⟨⟨t, e5⟩, g3, h1⟩ := Option.map_eq_some_iff.mp h1
      simp only [Prod.mk.injEq, Option.some.injEq] at h1
      obtain ⟨rfl, rfl⟩ := h1
      simp only [loopC, g1, g2, g3]
      rw [if_pos ⟨by omega, h3⟩, h8]
      simp
    | false =>
      simp only [Bool.false_eq_true, if_false, Option.some.injEq, Prod.mk.injEq, reduceCtorEq, false_and] at h1
theorem lc_ex {vs : List Nat} {m : M (List D)} {g : G} {c : M Bool} {el : M T} {e e1 : Fw.Env} {ds : List D} (Q : T → Prop) (I : Fw.Env → Prop) (hm : m e = some (ds, e1)) (hv : vs.all (fzOk e1) = true) (h0 : I (wipeE e1 vs))
    (hs : ∀ d ∈ ds, ∀ e, I e → ∃ t e2, stepC g c el d e = some (some t, e2) ∧ Q t ∧ I (wipeE e2 vs) ∧ vs.all (fzOk e2) = true) (hl : ds.length ≤ sizeLine) : ∃ ts e3, ts.length = ds.length ∧ (∀ t ∈ ts, Q t) ∧ I e3 ∧ mLc vs m g c el e = some (.lst ts, restE e1 vs e3) := by
  obtain ⟨ts, e3, h1, h2, h3, h4⟩ := loopC_ex (acc := []) Q I ds e1 h0 hs (by simpa using hl)
  refine ⟨ts, wipeE e3 vs, h1, h2, h3, ?_⟩
  unfold mLc
  rw [hm]
  simp only [hv, if_true, h4]
  simp
theorem fr_list {Q : Rat → Prop} : ∀ (ts : List T), (∀ t ∈ ts, ∃ q, t = .fz (fr q) ∧ Q q) → ∃ qs : List Rat, ts = qs.map (fun q => .fz (fr q)) ∧ ∀ q ∈ qs, Q q
  | [], _ => ⟨[], rfl, by simp⟩
  | t :: ts, h => by
    obtain ⟨q, h1, h2⟩ := h t (by simp)
    obtain ⟨qs, h3, h4⟩ := fr_list ts (fun t ht => h t (by simp [ht]))
    exact ⟨q :: qs, by simp [h1, h3], by simpa [h2] using h4⟩
def ShareOk (q : Rat) : Prop := 0 ≤ q ∧ q ≤ 1 ∧ q.den ∣ 420 ∧ q.den ≤ 1000
instance (q : Rat) : Decidable (ShareOk q) := by unfold ShareOk; infer_instance
def allShares : List Rat := [1/2, 1/3, 2/3, 1/4, 3/5, 1/2, 2/7, 0, 1]
theorem v_law_shares (h : Hand) : ∃ (qs : List Rat) (h' : Hand), 1 ≤ qs.length ∧ qs.length ≤ 3 ∧ (∀ q ∈ qs, ShareOk q) ∧ f_law_shares [h.t] = some (.fz (.tup (qs.map fr)), [h'.t]) := by
  obtain ⟨c, h1, hc, q1⟩ := v_law_draw h 3 (by decide) (by decide)
  have q1' : f_law_draw [h.t, .fz (.int 3)] = some (.fz (.int (c : Int)), [h1.t, .fz (.int 3)]) := q1
  have hr : rng1 [.int (1 + (c : Int))] = some ((List.range (1 + c)).map fun (i : Nat) => D.int (i : Int)) := by
    have := rng1_n (1 + c) (by have : (2 : Nat) ^ 60 = 1152921504606846976 := by decide
                               omega)
    rwa [show ((1 + c : Nat) : Int) = 1 + (c : Int) by omega] at this
  have hall : allShares.map fr = [.tup [.int 1, .int 2], .tup [.int 1, .int 3], .tup [.int 2, .int 3], .tup [.int 1, .int 4], .tup [.int 3, .int 5], .tup [.int 1, .int 2], .tup [.int 2, .int 7], .tup [.int 0, .int 1], .tup [.int 1, .int 1]] := by
    have : allShares.map (fun q => (q.num, q.den)) = [(1, 2), (1, 3), (2, 3), (1, 4), (3, 5), (1, 2), (2, 7), (0, 1), (1, 1)] := by decide +kernel
    have e : ∀ qs : List Rat, qs.map fr = (qs.map fun q => (q.num, q.den)).map fun p => D.tup [.int p.1, .int (p.2 : Int)] := by intro qs; rw [List.map_map]; rfl
    rw [e, this]; rfl
  have hok : ∀ q ∈ allShares, ShareOk q := by decide +kernel
  obtain ⟨ts, e3, l1, l2, ⟨h3, rfl⟩, l4⟩ := lc_ex (vs := [1]) (m := mIt rng1 (mCons (mF (mOpT oAdd (mRet (.int 1)) (mF (mCallF f_law_draw [some 0, none] (mCons (mMv 0) (mCons (mT (mRet (.int 3))) (mRet []))))))) (mRet []))) (g := gNm 1) (c := mRet true) (e := [some h.t, none]) (e1 := [some h1.t, none]) (ds := (List.range (1 + c)).map fun (i : Nat) => D.int (i : Int))
    (el := (mCallF f_law_some [some 0, none] (mCons (mMv 0) (mCons (mT (mF (mLst (mCons (mT (mTup (mCons (mRet (.int 1)) (mCons (mRet (.int 2)) (mRet []))))) (mCons (mT (mTup (mCons (mRet (.int 1)) (mCons (mRet (.int 3)) (mRet []))))) (mCons (mT (mTup (mCons (mRet (.int 2)) (mCons (mRet (.int 3)) (mRet []))))) (mCons (mT (mTup (mCons (mRet (.int 1)) (mCons (mRet (.int 4)) (mRet []))))) (mCons (mT (mTup (mCons (mRet (.int 3)) (mCons (mRet (.int 5)) (mRet []))))) (mCons (mT (mTup (mCons (mRet (.int 1)) (mCons (mRet (.int 2)) (mRet []))))) (mCons (mT (mTup (mCons (mRet (.int 2)) (mCons (mRet (.int 7)) (mRet []))))) (mCons (mT (mTup (mCons (mRet (.int 0)) (mCons (mRet (.int 1)) (mRet []))))) (mCons (mT (mTup (mCons (mRet (.int 1)) (mCons (mRet (.int 1)) (mRet []))))) (mRet []))))))))))))) (mRet [])))))
    (fun t => ∃ q, t = .fz (fr q) ∧ ShareOk q) (fun e => ∃ h : Hand, e = [some h.t, none]) (by simp [q1', hr, -List.map_map]) (by simp) ⟨h1, by simp⟩ (by
      rintro d hd e ⟨h2, rfl⟩
      obtain ⟨d', h3, hd', q3⟩ := v_law_some h2 (.lst (allShares.map fr)) (allShares.map fr) rfl (by simp [allShares]) (by simp [allShares])
      obtain ⟨q, hq, rfl⟩ := List.mem_map.mp hd'
      rw [hall] at q3
      exact ⟨.fz (fr q), [some h3.t, some (.fz d)], by simp [stepC, sizeLine, q3, -c_zero, -c_one], ⟨q, rfl, hok q hq⟩, ⟨h3, by simp⟩, by simp⟩) (by simp [sizeLine]; omega)
  obtain ⟨qs, rfl, hqs⟩ := fr_list ts l2
  refine ⟨qs, h3, by simp at l1; omega, by simp at l1; omega, hqs, ?_⟩
  have hq : q_law_shares_1 [some h.t, none] = _ := l4
  have e := fn_lent (n := 1) (total := 2) (W := []) (body := b_law_shares) (r := .fz (.tup (qs.map fr))) (t' := h3.t) (e := [some h3.t, none]) _ [] (by
    show b_law_shares [some h.t, none] = _
    simp [b_law_shares, hq, bTuple]) rfl
  exact e
end Lw

/-! P9 -/
set_option Elab.async false
set_option linter.all false
set_option maxRecDepth 100000
set_option maxHeartbeats 4000000
set_option exponentiation.threshold 100000
namespace Lw
open PySem PySem.Spec PyProof.Rows L2 Fw
def LB (d : Nat) : Nat := if d = 2 then 5 else 3
def SB : Nat → Nat
  | 0 => 1
  | d + 1 => 1 + 2 * (LB d * SB d)
def CS : Nat → Nat
  | 0 => 0
  | d + 1 => 2 * (1 + LB d * CS d)
structure StOk (n k d : Nat) (s : Stm) : Prop where
  good : s.good n k = true
  blk : ∀ c ∈ s.blks, c.ok n k d
  told : s.told ≤ SB d
  cnt : cntL s.blks ≤ CS d
structure Drawn (n k d : Nat) (b : Blk) : Prop where
  len : b.sts.length ≤ LB d
  st : ∀ s ∈ b.sts, StOk n k d s
theorem sum_le {α : Type} (f : α → Nat) (m : Nat) : ∀ (xs : List α), (∀ x ∈ xs, f x ≤ m) → (xs.map f).sum ≤ xs.length * m
  | [], _ => by simp
  | x :: xs, h => by
    have := sum_le f m xs fun y hy => h y (by simp [hy])
    have := h x (by simp)
    simp [Nat.add_mul]; omega
theorem Drawn.told {n k d : Nat} {b : Blk} (h : Drawn n k d b) : b.told ≤ LB d * SB d := by
  rw [told_sum]
  exact Nat.le_trans (sum_le _ (SB d) _ fun s hs => (h.st s hs).told) (Nat.mul_le_mul_right _ h.len)
theorem Drawn.cnt {n k d : Nat} {b : Blk} (h : Drawn n k d b) : b.cnt ≤ 1 + LB d * CS d := by
  have h1 := cnt_sts b
  have h2 : cntL (b.sts.flatMap Stm.blks) = (b.sts.map fun s => cntL s.blks).sum := by
    generalize b.sts = ss
    induction ss with
    | nil => rfl
    | cons s ss ih => simp [cntL] at ih ⊢; omega
  have h3 := sum_le (fun s => cntL s.blks) (CS d) b.sts fun s hs => (h.st s hs).cnt
  have h4 := Nat.mul_le_mul_right (CS d) h.len
  omega
theorem Drawn.ok {n k d : Nat} {b : Blk} (h : Drawn n k d b) (hd : d ≤ 2) (hdr : b.dr < 2 ^ 64) : b.ok n k (d + 1) := by
  refine ⟨?_, hdr, ?_, fun s hs => ⟨(h.st s hs).good, (h.st s hs).blk⟩⟩
  · have := h.len
    have : LB d ≤ 5 := by unfold LB; split <;> omega
    omega
  · have := h.told
    have h2 : LB d * SB d ≤ 215 := by
      have : d = 0 ∨ d = 1 ∨ d = 2 := by omega
      rcases this with rfl | rfl | rfl <;> decide
    have : (2 : Nat) ^ 64 = 18446744073709551616 := by decide
    omega
theorem sd_draw (l t : Nat) : (Stm.draw l t).d = .tup [.str "draw", .int (l : Int), .int (t : Int)] := rfl
theorem sd_put (l : Nat) (a : Say) : (Stm.put l a).d = .tup [.str "set", .int (l : Int), a.d] := rfl
theorem sd_see (a : Say) : (Stm.see a).d = .tup [.str "see", a.d] := rfl
theorem sd_rounds (m : Nat) (b : Blk) : (Stm.rounds m b).d = .tup [.str "rounds", .int (m : Int), b.d] := rfl
theorem sd_cond (a : Say) (x y : Blk) : (Stm.cond a x y).d = .tup [.str "if", a.d, x.d, y.d] := rfl
theorem ay_or (l : Nat) (a : Say) : (Say.two .or (.letter l) a).d = .tup [.str "or", .tup [.str "letter", .int (l : Int)], a.d] := rfl
section
variable (n k : Nat) (hn : 0 < n) (hn2 : n < 2 ^ 60) (hk : 0 < k) (hk2 : k < 2 ^ 60)
def RecOk (n k : Nat) (rec : Fn) (d : Nat) : Prop := ∀ (left : Nat) (h : Hand), left < 2 ^ 60 → ∃ (b : Blk) (left' : Nat) (h' : Hand), Drawn n k d b ∧ b.dr + left' ≤ left ∧
  rec [h.t, .fz (.int (n : Int)), .fz (.int (k : Int)), .fz (.int (left : Int)), .fz (.int (d : Int))] = some (.fz (.tup [b.d, .int (left' : Int)]), [h'.t, .fz (.int (n : Int)), .fz (.int (k : Int)), .fz (.int (left : Int)), .fz (.int (d : Int))])
include hn hn2 hk hk2
theorem block_step (rec : Fn) (d : Nat) (hd : d ≤ 2) (hrec : ∀ d', d = d' + 1 → RecOk n k rec d') (left : Nat) (hleft : left < 2 ^ 60) (h : Hand) (ss : List Stm) (hss : ss.length < 100) (x6 x7 x8 x9 x10 x11 x12 x13 : Option T) :
    ∃ (s : Stm) (left' : Nat) (h' : Hand) (y7 y8 y9 y10 y11 y12 y13 : Option T), StOk n k d s ∧ s.dr + left' ≤ left ∧
    l_law_block_1 rec [some h.t, some (.fz (.int (n : Int))), some (.fz (.int (k : Int))), some (.fz (.int (left : Int))), some (.fz (.int (d : Int))), some (.lst (ss.map fun s => .fz s.d)), x6, x7, x8, x9, x10, x11, x12, x13] =
      some (.nx, [some h'.t, some (.fz (.int (n : Int))), some (.fz (.int (k : Int))), some (.fz (.int (left' : Int))), some (.fz (.int (d : Int))), some (.lst ((ss ++ [s]).map fun s => .fz s.d)), x6, y7, y8, y9, y10, y11, y12, y13]) := by
  have hsz : ss.length < 16777216 := by omega
  obtain ⟨kind, h1, hkind, q1⟩ := v_law_draw h 10 (by decide) (by decide)
  have q1' : f_law_draw [h.t, .fz (.int 10)] = some (.fz (.int (kind : Int)), [h1.t, .fz (.int 10)]) := q1
  by_cases c1 : kind < 4 ∧ 0 < left
  · obtain ⟨l, h2, hl, q2⟩ := v_law_draw h1 n hn hn2
    obtain ⟨t, h3, ht, q3⟩ := v_law_draw h2 k hk hk2
    have e1 : (left : Int) - 1 = ((left - 1 : Nat) : Int) := by omega
    have c2 : (kind : Int) < 4 := by omega
    have c3 : (0 : Int) < (left : Int) := by omega
    refine ⟨.draw l t, left - 1, h3, some (.fz (.int (kind : Int))), x8, x9, x10, x11, x12, x13, ⟨by simp [Stm.good, hl, ht], by simp [Stm.blks], ?_, by simp [Stm.blks, cntL]⟩, by simp [Stm.dr]; omega, ?_⟩
    · simp [Stm.told]; cases d <;> simp [SB]
    · simp [l_law_block_1, q1', q2, q3, c1, c2, c3, a_app, sizeLine, sd_draw, hsz, e1]
  · have c1' : (decide ((kind : Int) < 4) && decide ((0 : Int) < (left : Int))) = false := by
      rw [Bool.eq_false_iff]; intro hh; simp at hh; omega
    have g1 : ¬ ((kind : Int) < 4 ∧ (0 : Int) < (left : Int)) := by omega
    obtain ⟨hA, hB⟩ : ((kind : Int) < 4 → ¬ (0 : Int) < (left : Int)) ∧ True := ⟨fun a b => g1 ⟨a, b⟩, trivial⟩
    by_cases c2 : kind < 6 ∨ d = 0
    · obtain ⟨l, h2, hl, q2⟩ := v_law_draw h1 n hn hn2
      obtain ⟨a, h3, ha1, ha2, q3⟩ := v_law_saying n hn hn2 5 3 h2 (by decide)
      have q3' : f_law_saying 6 [h2.t, .fz (.int (n : Int)), .fz (.int 3)] = some (.fz a.d, [h3.t, .fz (.int (n : Int)), .fz (.int 3)]) := q3
      refine ⟨.put l a, left, h3, some (.fz (.int (kind : Int))), x8, x9, x10, x11, x12, x13, ⟨by simp [Stm.good, hl, ha1]; omega, by simp [Stm.blks], ?_, by simp [Stm.blks, cntL]⟩, by simp [Stm.dr], ?_⟩
      · simp [Stm.told]; cases d <;> simp [SB]
      · by_cases k4 : (kind : Int) < 4
        · have k4' : left = 0 := by omega
          have k6 : (kind : Int) < 6 := by omega
          simp [l_law_block_1, q1', q2, q3', k4, k4', k6, a_app, sizeLine, sd_put, hsz]
        · by_cases k6 : (kind : Int) < 6
          · simp [l_law_block_1, q1', q2, q3', k4, k6, a_app, sizeLine, sd_put, hsz]
          · have d0 : d = 0 := by omega
            simp [l_law_block_1, q1', q2, q3', k4, k6, d0, a_app, sizeLine, sd_put, hsz]
    · have k4 : ¬ (kind : Int) < 4 := by omega
      have k6 : ¬ (kind : Int) < 6 := by omega
      have d0 : ¬ d = 0 := by omega
      obtain ⟨d', rfl⟩ : ∃ d', d = d' + 1 := ⟨d - 1, by omega⟩
      have hr := hrec d' rfl
      have ed : ((d' + 1 : Nat) : Int) - 1 = (d' : Int) := by omega
      have d0' : ¬ ((d' : Int) + 1 = 0) := by omega
      by_cases c3 : kind = 6
      · obtain ⟨l, h2, hl, q2⟩ := v_law_draw h1 n hn hn2
        obtain ⟨a, h3, ha1, ha2, q3⟩ := v_law_saying n hn hn2 5 3 h2 (by decide)
        have q3' : f_law_saying 6 [h2.t, .fz (.int (n : Int)), .fz (.int 3)] = some (.fz a.d, [h3.t, .fz (.int (n : Int)), .fz (.int 3)]) := q3
        refine ⟨.see (.two .or (.letter l) a), left, h3, some (.fz (.int (kind : Int))), x8, x9, x10, x11, x12, x13, ⟨by simp [Stm.good, Say.ok, Say.deep, hl, ha1]; omega, by simp [Stm.blks], by simp [Stm.told, SB], by simp [Stm.blks, cntL]⟩, by simp [Stm.dr], ?_⟩
        simp [l_law_block_1, q1', q2, q3', k4, k6, c3, d0', a_app, sizeLine, sd_see, ay_or, hsz]
      · by_cases c4 : kind = 7
        · obtain ⟨m, h2, hm, q2⟩ := v_law_draw h1 3 (by decide) (by decide)
          have q2' : f_law_draw [h1.t, .fz (.int 3)] = some (.fz (.int (m : Int)), [h2.t, .fz (.int 3)]) := q2
          obtain ⟨b, less, h3, hb, hdr, q3⟩ := hr (left / 2) h2 (by omega)
          have hdl : CDivW (left : Int) 2 := cd (b := 2)
          have e2 : (left : Int) / 2 = ((left / 2 : Nat) : Int) := by omega
          have e3 : (left : Int) - 2 * (((left / 2 : Nat) : Int) - (less : Int)) = ((left - 2 * (left / 2 - less) : Nat) : Int) := by omega
          have hc : CMulX 2 (((left / 2 : Nat) : Int) - (less : Int)) := small_l (by decide)
          have hbd : b.dr < 2 ^ 64 := by
            have : (2 : Nat) ^ 64 = 18446744073709551616 := by decide
            have : (2 : Nat) ^ 60 = 1152921504606846976 := by decide
            omega
          generalize hx : left / 2 = x at *
          refine ⟨.rounds m b, left - 2 * (x - less), h3, some (.fz (.int 7)), some (.fz (.int (m : Int))), some (.fz b.d), some (.fz (.int (less : Int))), x11, x12, x13, ⟨by simp [Stm.good]; omega, ?_, ?_, ?_⟩, ?_, ?_⟩
          · simp [Stm.blks]; exact hb.ok (by omega) hbd
          · have h4 := hb.told
            have h5 : m * b.told ≤ 2 * b.told := Nat.mul_le_mul_right _ (by omega)
            simp [Stm.told, SB]; omega
          · have h4 := hb.cnt
            simp [Stm.blks, cntL, CS]; omega
          · have h5 : m * b.dr ≤ 2 * b.dr := Nat.mul_le_mul_right _ (by omega)
            simp [Stm.dr]; omega
          · simp [l_law_block_1, q1', q2', k4, k6, c4, d0', a_app, sizeLine, sd_rounds, hsz, hdl, e2, ed, q3, e3, hc]
        · obtain ⟨x, less, h2, hx, hdx, q2⟩ := hr left h1 hleft
          obtain ⟨y, more, h3, hy, hdy, q3⟩ := hr left h2 hleft
          obtain ⟨a, h4, ha1, ha2, q4⟩ := v_law_saying n hn hn2 5 3 h3 (by decide)
          have q4' : f_law_saying 6 [h3.t, .fz (.int (n : Int)), .fz (.int 3)] = some (.fz a.d, [h4.t, .fz (.int (n : Int)), .fz (.int 3)]) := q4
          have h64 : (2 : Nat) ^ 64 = 18446744073709551616 := by decide
          have h60 : (2 : Nat) ^ 60 = 1152921504606846976 := by decide
          have emin : (if (more : Int) < (less : Int) then (more : Int) else (less : Int)) = ((min less more : Nat) : Int) := by
            split <;> omega
          refine ⟨.cond a x y, min less more, h4, some (.fz (.int (kind : Int))), x8, x9, some (.fz (.int (less : Int))), some (.fz x.d), some (.fz y.d), some (.fz (.int (more : Int))), ⟨by simp [Stm.good, ha1]; omega, ?_, ?_, ?_⟩, ?_, ?_⟩
          · simp [Stm.blks]; exact ⟨hx.ok (by omega) (by omega), hy.ok (by omega) (by omega)⟩
          · have h4 := hx.told
            have h5 := hy.told
            simp [Stm.told, SB]; omega
          · have h4 := hx.cnt
            have h5 := hy.cnt
            simp [Stm.blks, cntL, CS]; omega
          · simp [Stm.dr]; omega
          · have c3i : ¬ (kind : Int) = 6 := by omega
            have c4i : ¬ (kind : Int) = 7 := by omega
            simp [l_law_block_1, q1', k4, k6, c3i, c4i, d0', a_app, sizeLine, sd_cond, hsz, ed, q2, q3, q4', b2I]
            split <;> omega
theorem block_loop (rec : Fn) (d : Nat) (hd : d ≤ 2) (hrec : ∀ d', d = d' + 1 → RecOk n k rec d') : ∀ (ds : List D) (left : Nat) (h : Hand) (ss : List Stm) (x6 x7 x8 x9 x10 x11 x12 x13 : Option T), left < 2 ^ 60 → ss.length + ds.length < 100 → (∀ s ∈ ss, StOk n k d s) →
    ∃ (ts : List Stm) (left' : Nat) (h' : Hand) (y6 y7 y8 y9 y10 y11 y12 y13 : Option T), ts.length = ds.length ∧ (∀ s ∈ ts, StOk n k d s) ∧ (ts.map Stm.dr).sum + left' ≤ left ∧
    loopM (gNm 6) (l_law_block_1 rec) ds [some h.t, some (.fz (.int (n : Int))), some (.fz (.int (k : Int))), some (.fz (.int (left : Int))), some (.fz (.int (d : Int))), some (.lst (ss.map fun s => .fz s.d)), x6, x7, x8, x9, x10, x11, x12, x13] =
      some (.nx, [some h'.t, some (.fz (.int (n : Int))), some (.fz (.int (k : Int))), some (.fz (.int (left' : Int))), some (.fz (.int (d : Int))), some (.lst ((ss ++ ts).map fun s => .fz s.d)), y6, y7, y8, y9, y10, y11, y12, y13])
  | [], left, h, ss, x6, x7, x8, x9, x10, x11, x12, x13, _, _, _ => ⟨[], left, h, x6, x7, x8, x9, x10, x11, x12, x13, rfl, by simp, by simp, by simp⟩
  | z :: ds, left, h, ss, x6, x7, x8, x9, x10, x11, x12, x13, hl, hlen, hss => by
    obtain ⟨s, left1, h1, y7, y8, y9, y10, y11, y12, y13, p1, p2, p3⟩ := block_step n k hn hn2 hk hk2 rec d hd hrec left hl h ss (by simp at hlen; omega) (some (.fz z)) x7 x8 x9 x10 x11 x12 x13
    obtain ⟨ts, left', h', z6, z7, z8, z9, z10, z11, z12, z13, r1, r2, r3, r4⟩ := block_loop rec d hd hrec ds left1 h1 (ss ++ [s]) (some (.fz z)) y7 y8 y9 y10 y11 y12 y13 (by omega) (by simp at hlen ⊢; omega) (by
      intro t ht
      rcases List.mem_append.mp ht with ht | ht
      · exact hss t ht
      · simp at ht; subst ht; exact p1)
    refine ⟨s :: ts, left', h', z6, z7, z8, z9, z10, z11, z12, z13, by simp [r1], by simpa [p1] using r2, by simp; omega, ?_⟩
    rw [List.append_assoc] at r4
    exact loop_nx rfl p3 r4
theorem v_law_block : ∀ (m d : Nat), d < m → d ≤ 2 → RecOk n k (f_law_block m) d
  | 0, d, h, _ => by omega
  | m + 1, d, hdm, hd2 => by
    intro left h hleft
    obtain ⟨c, h1, hc, q1⟩ := v_law_draw h 4 (by decide) (by decide)
    have q1' : f_law_draw [h.t, .fz (.int 4)] = some (.fz (.int (c : Int)), [h1.t, .fz (.int 4)]) := q1
    have hr : rng1 [.int (((c + if d = 2 then 2 else 0 : Nat)) : Int)] = some ((List.range (c + if d = 2 then 2 else 0)).map fun (i : Nat) => D.int (i : Int)) := rng1_n _ (by
      have : (2 : Nat) ^ 60 = 1152921504606846976 := by decide
      split <;> omega)
    obtain ⟨ts, left', h', z6, z7, z8, z9, z10, z11, z12, z13, r1, r2, r3, r4⟩ := block_loop n k hn hn2 hk hk2 (f_law_block m) d hd2 (fun d' e => v_law_block m d' (by omega) (by omega)) ((List.range (c + if d = 2 then 2 else 0)).map fun (i : Nat) => D.int (i : Int)) left h1 [] none none none none none none none none hleft (by
      simp; split <;> omega) (by simp)
    refine ⟨Blk.of ts, left', h', ⟨?_, by simpa using r2⟩, ?_, ?_⟩
    · simp at r1
      simp [r1, LB]
      split <;> omega
    · rw [dr_sum]; simpa using r3
    · unfold f_law_block
      refine fn_lent (e := [some h'.t, some (.fz (.int (n : Int))), some (.fz (.int (k : Int))), some (.fz (.int (left' : Int))), some (.fz (.int (d : Int))), some (.fz (.lst (ts.map Stm.d))), z6, z7, z8, z9, z10, z11, z12, z13]) _ [.int (n : Int), .int (k : Int), .int (left : Int), .int (d : Int)] ?_ rfl
      have e : h.t = .lst _ := rfl
      rw [← e]
      simp only [List.map_nil, List.nil_append] at r4
      have e1 : (ts.map fun s => T.fz s.d).map T.d = ts.map Stm.d := by rw [List.map_map]; exact List.map_congr_left fun c _ => by simp
      have e2 : (Blk.of ts).d = .tup (ts.map Stm.d) := by simp [Blk.d, ds_sts]
      have e3 : bTuple [.lst (ts.map Stm.d)] = some (.tup (ts.map Stm.d)) := rfl
      have h22 : ((2 : Nat) : Int) = 2 := rfl
      by_cases h2 : d = 2
      · rw [if_pos h2] at hr r4
        rw [Int.natCast_add] at hr
        simp at hr
        subst h2
        rw [h22] at r4
        simp [b_law_block, q1', hr, -List.map_map, r4, e1, e2, e3, sizeLine]
      · rw [if_neg h2] at hr r4
        have h2' : ¬ (d : Int) = 2 := by omega
        simp at hr r4
        simp [b_law_block, q1', hr, r4, h2', -List.map_map, e1, e2, e3, sizeLine]
end
end Lw

/-! P10 -/
set_option Elab.async false
set_option linter.all false
set_option maxRecDepth 100000
set_option maxHeartbeats 4000000
set_option exponentiation.threshold 100000
namespace Lw
open PySem PySem.Spec PyProof.Rows L2 Fw
theorem ok_up {n k : Nat} : ∀ {d : Nat} {b : Blk}, b.ok n k d → b.ok n k (d + 1)
  | 0, b, h => absurd h (by simp [Blk.ok])
  | d + 1, b, ⟨h1, h2, h3, h4⟩ => ⟨h1, h2, h3, fun s hs => ⟨(h4 s hs).1, fun c hc => ok_up ((h4 s hs).2 c hc)⟩⟩
theorem ok_le {n k d e : Nat} {b : Blk} (h : b.ok n k d) (l : d ≤ e) : b.ok n k e := by
  induction l with
  | refl => exact h
  | step _ ih => exact ok_up ih
theorem of_dr (l : List Stm) : (Blk.of l).dr = (l.map Stm.dr).sum := by rw [dr_sum, of_sts]
theorem of_told (l : List Stm) : (Blk.of l).told = (l.map Stm.told).sum := by rw [told_sum, of_sts]
theorem of_cnt : ∀ (l : List Stm), (Blk.of l).cnt = 1 + (l.map fun s => cntL s.blks).sum
  | [] => rfl
  | s :: l => by simp [of_cnt l]; omega
theorem cnt_sum (b : Blk) : b.cnt = 1 + (b.sts.map fun s => cntL s.blks).sum := by
  have := of_cnt b.sts
  rwa [sts_of] at this
theorem of_d (l : List Stm) : (Blk.of l).d = .tup (l.map Stm.d) := by simp [Blk.d, ds_sts]
theorem d_eq (b : Blk) : b.d = .tup (b.sts.map Stm.d) := by simp [Blk.d, ds_sts]
structure Cls (n k j : Nat) (b : Blk) : Prop where
  st : ∀ s ∈ b.sts, s.good n k = true ∧ ∀ c ∈ s.blks, c.ok n k (2 + j)
  len : b.sts.length ≤ 5 + j
  dr : b.dr ≤ 3 + j
  told : b.told ≤ 215 + j
  cnt : b.cnt ≤ 71 + 2 * j
theorem Cls.ok {n k j : Nat} {b : Blk} (h : Cls n k j b) (hj : j ≤ 25) : b.ok n k (3 + j) := by
  have e : 3 + j = (2 + j) + 1 := by omega
  rw [e]
  have h64 : (2 : Nat) ^ 64 = 18446744073709551616 := by decide
  exact ⟨by have := h.len; omega, by have := h.dr; omega, by have := h.told; omega, h.st⟩
theorem Cls.up {n k j i : Nat} {b : Blk} (h : Cls n k j b) (l : j ≤ i) : Cls n k i b :=
  ⟨fun s hs => ⟨(h.st s hs).1, fun c hc => ok_le ((h.st s hs).2 c hc) (by omega)⟩, by have := h.len; omega, by have := h.dr; omega, by have := h.told; omega, by have := h.cnt; omega⟩
theorem cls_drawn {n k : Nat} {b : Blk} (h : Drawn n k 2 b) (hd : b.dr ≤ 3) : Cls n k 0 b :=
  ⟨fun s hs => ⟨(h.st s hs).good, (h.st s hs).blk⟩, h.len, hd, h.told, h.cnt⟩
theorem cls_drawn4 {n k : Nat} {b : Blk} (h : Drawn n k 2 b) (hd : b.dr ≤ 4) : Cls n k 1 b :=
  ⟨fun s hs => ⟨(h.st s hs).good, fun c hc => ok_up ((h.st s hs).blk c hc)⟩, by have := h.len; simp [LB] at this; omega, by omega, by have := h.told; simp [LB, SB] at this; omega, by have := h.cnt; simp [LB, CS] at this; omega⟩
def Blk.app (b c : Blk) : Blk := Blk.of (b.sts ++ c.sts)
theorem app_d (b c : Blk) : (b.app c).d = .tup (b.sts.map Stm.d ++ c.sts.map Stm.d) := by simp [Blk.app, of_d]
structure Made (p : Prog) (j : Nat) : Prop where
  n1 : 1 ≤ p.n
  n3 : p.n ≤ 3
  k1 : 1 ≤ p.sh.length
  k3 : p.sh.length ≤ 3
  sh : ∀ q ∈ p.sh, ShareOk q
  cls : Cls p.n p.sh.length j p.b
theorem ShareOk.chance {q : Rat} (h : ShareOk q) : Chance q := by
  obtain ⟨h1, h2, h3, h4⟩ := h
  have := q.den_pos
  refine ⟨Rat.num_nonneg.mpr h1, ?_, h4⟩
  have := Rat.le_iff q 1 |>.mp h2
  simpa using this
theorem Made.ok {p : Prog} {j : Nat} (h : Made p j) (hj : j ≤ 3) : p.Ok :=
  ⟨h.n1, by have := h.n3; omega, by have := h.k3; omega, fun q hq => (h.sh q hq).chance, ok_le (h.cls.ok (by omega)) (by omega), by have := h.cls.cnt; simp [sizeLine]; omega, by have := h.cls.dr; omega, by have := h.cls.told; omega⟩
/-- the block put behind -/
theorem Made.app {p : Prog} {j : Nat} {c : Blk} (h : Made p j) (hj : j ≤ 2) (hc : Drawn p.n p.sh.length 1 c) (hd : c.dr ≤ 3) : (Prog.mk p.n p.sh (p.b.app c)).Ok := by
  have h1 := hc.told
  have h2 := hc.cnt
  have h3 := hc.len
  simp [LB, SB, CS] at h1 h2 h3
  have g := h.cls
  have e1 : (p.b.app c).dr = p.b.dr + c.dr := by simp [Blk.app, of_dr, dr_sum]
  have e2 : (p.b.app c).told = p.b.told + c.told := by simp [Blk.app, of_told, told_sum]
  have e3 : (p.b.app c).cnt = p.b.cnt + c.cnt - 1 := by simp [Blk.app, of_cnt, cnt_sum]; omega
  have h64 : (2 : Nat) ^ 64 = 18446744073709551616 := by decide
  have e0 : (p.b.app c).sts = p.b.sts ++ c.sts := by simp [Blk.app]
  have g1 := g.len
  have g2 := g.dr
  have g3 := g.told
  have g4 := g.cnt
  have e4 : (p.b.app c).sts.length ≤ 30 := by rw [e0, List.length_append]; omega
  have e5 : (p.b.app c).dr ≤ 12 := by rw [e1]; omega
  have e6 : (p.b.app c).told ≤ 300 := by rw [e2]; omega
  have e7 : (p.b.app c).cnt ≤ 1000 := by rw [e3]; omega
  have n3 := h.n3
  have k3 := h.k3
  refine ⟨h.n1, Nat.le_trans n3 (by decide), Nat.le_trans k3 (by decide), fun q hq => (h.sh q hq).chance, ⟨e4, Nat.lt_of_le_of_lt e5 (by decide), Nat.lt_of_le_of_lt e6 (by decide), fun s hs => ?_⟩, Nat.le_trans e7 (by decide), e5, e6⟩
  rw [e0] at hs
  rcases List.mem_append.mp hs with hs | hs
  · have l5 : 2 + j ≤ 5 := by omega
    exact ⟨(g.st s hs).1, fun x hx => ok_le ((g.st s hs).2 x hx) l5⟩
  · have l5 : 1 ≤ 5 := by omega
    exact ⟨(hc.st s hs).good, fun x hx => ok_le ((hc.st s hs).blk x hx) l5⟩
/-! the draws of a program, of a changed one -/
theorem two60 : (2 : Nat) ^ 60 = 1152921504606846976 := by decide
theorem v_law_program (h : Hand) : ∃ (p : Prog) (h' : Hand), Made p 0 ∧ f_law_program [h.t, .fz (.int 3), .fz (.int 3)] = some (.fz p.d, [h'.t, .fz (.int 3), .fz (.int 3)]) := by
  obtain ⟨c, h1, hc, q1⟩ := v_law_draw h 3 (by decide) (by decide)
  have q1' : f_law_draw [h.t, .fz (.int 3)] = some (.fz (.int (c : Int)), [h1.t, .fz (.int 3)]) := q1
  obtain ⟨qs, h2, l1, l3, hqs, q2⟩ := v_law_shares h1
  have h60 := two60
  obtain ⟨b, left, h3, hb, hdr, q3⟩ := v_law_block (1 + c) qs.length (by omega) (by omega) (by omega) (by omega) 5 2 (by decide) (by decide) 3 h2 (by omega)
  have q3' : f_law_block 5 [h2.t, .fz (.int (1 + (c : Int))), .fz (.int (qs.length : Int)), .fz (.int 3), .fz (.int 2)] = some (.fz (.tup [b.d, .int (left : Int)]), [h3.t, .fz (.int (1 + (c : Int))), .fz (.int (qs.length : Int)), .fz (.int 3), .fz (.int 2)]) := by
    rw [Int.natCast_add] at q3; exact q3
  refine ⟨⟨1 + c, qs, b⟩, h3, ⟨by show 1 ≤ 1 + c; omega, by show 1 + c ≤ 3; omega, l1, l3, hqs, cls_drawn hb (by show b.dr ≤ 3; omega)⟩, ?_⟩
  refine fn_lent (e := [some h3.t, some (.fz (.int 3)), some (.fz (.int 3)), some (.fz (.int (1 + (c : Int)))), some (.fz (.tup (qs.map fr)))]) _ [.int 3, .int 3] ?_ rfl
  have e : h.t = .lst _ := rfl
  rw [← e]
  simp [b_law_program, q1', q2, q3', sizeLine, Prog.d]
end Lw

/-! P11 -/
set_option Elab.async false
set_option linter.all false
set_option maxRecDepth 100000
set_option maxHeartbeats 4000000
set_option exponentiation.threshold 100000
namespace Lw
open PySem PySem.Spec PyProof.Rows L2 Fw
theorem cut1 (xs : List D) : Fw.cutD xs (some 1) none = xs.drop 1 := by
  unfold Fw.cutD
  have h1 : HT.sIx xs.length 0 (some 1) = min 1 xs.length := HT.sIx_nat _ _ 1
  have h2 : HT.sIx xs.length xs.length none = xs.length := rfl
  rw [h1, h2]
  cases xs with
  | nil => rfl
  | cons x xs =>
    have : min 1 (x :: xs).length = 1 := by simp
    rw [this]; simp
theorem cut2 (xs : List D) : Fw.cutD xs none (some 1) = xs.take 1 := by
  unfold Fw.cutD
  have h1 : HT.sIx xs.length xs.length (some 1) = min 1 xs.length := HT.sIx_nat _ _ 1
  have h2 : HT.sIx xs.length 0 none = 0 := rfl
  rw [h1, h2]
  cases xs with
  | nil => rfl
  | cons x xs =>
    have : min 1 (x :: xs).length = 1 := by simp
    rw [this]; simp
theorem v_law_changed {p : Prog} {j : Nat} (hp : Made p j) (hj : j ≤ 2) (h : Hand) : ∃ (b : Blk) (h' : Hand), Made ⟨p.n, p.sh, b⟩ (j + 1) ∧ f_law_changed [h.t, .fz p.d] = some (.fz (Prog.mk p.n p.sh b).d, [h'.t, .fz p.d]) := by
  obtain ⟨c, h1, hc, q1⟩ := v_law_draw h 6 (by decide) (by decide)
  have q1' : f_law_draw [h.t, .fz (.int 6)] = some (.fz (.int (c : Int)), [h1.t, .fz (.int 6)]) := q1
  have h60 := two60
  have g := hp.cls
  have mk : ∀ b : Blk, Cls p.n p.sh.length (j + 1) b → Made ⟨p.n, p.sh, b⟩ (j + 1) := fun b hb => ⟨hp.n1, hp.n3, hp.k1, hp.k3, hp.sh, hb⟩
  have hpd : p.d = .tup [.int (p.n : Int), .tup (p.sh.map fr), .tup (p.b.sts.map Stm.d)] := by rw [← d_eq]; rfl
  have e : h.t = .lst _ := rfl
  have run : ∀ (b : Blk) (h' : Hand) (x5 : Option T), b_law_changed [some h.t, some (.fz p.d), none, none, none, none] = some (.rt (.fz (Prog.mk p.n p.sh b).d), [some h'.t, some (.fz p.d), some (.fz (.int (p.n : Int))), some (.fz (.tup (p.sh.map fr))), some (.fz (.tup (p.b.sts.map Stm.d))), x5]) → f_law_changed [h.t, .fz p.d] = some (.fz (Prog.mk p.n p.sh b).d, [h'.t, .fz p.d]) := fun b h' x5 q =>
    fn_lent (e := [some h'.t, some (.fz p.d), some (.fz (.int (p.n : Int))), some (.fz (.tup (p.sh.map fr))), some (.fz (.tup (p.b.sts.map Stm.d))), x5]) _ [p.d] q rfl
  have gn := hp.n1
  have g1 := g.len
  have g2 := g.dr
  have g3 := g.told
  have g4 := g.cnt
  have h64 : (2 : Nat) ^ 64 = 18446744073709551616 := by decide
  have hlen : p.b.sts.length ≤ 16777000 := by omega
  have hlen2 : p.b.sts.length + 1 ≤ 16777216 := by omega
  have hlen3 : 1 + p.b.sts.length ≤ 16777216 := by omega
  by_cases c0 : (c : Int) = 0
  · refine ⟨Blk.of (p.b.sts ++ [.put 0 (.letter 0)]), h1, mk _ ⟨?_, ?_, ?_, ?_, ?_⟩, run _ h1 (some (.fz (.int (c : Int)))) ?_⟩
    · intro s hs
      simp at hs
      rcases hs with hs | rfl
      · exact ⟨(g.st s hs).1, fun x hx => ok_up ((g.st s hs).2 x hx)⟩
      · refine ⟨?_, by simp [Stm.blks]⟩
        simp [Stm.good, Say.ok, Say.deep]; omega
    · simp; omega
    · rw [of_dr]; rw [dr_sum] at g2; simp [Stm.dr]; omega
    · rw [of_told]; rw [told_sum] at g3; simp [Stm.told]; omega
    · rw [of_cnt]; rw [cnt_sum] at g4; simp [Stm.blks, cntL] at g4 ⊢; omega
    · have hd : (Prog.mk p.n p.sh (Blk.of (p.b.sts ++ [.put 0 (.letter 0)]))).d = .tup [.int (p.n : Int), .tup (p.sh.map fr), .tup (p.b.sts.map Stm.d ++ [.tup [.str "set", .int 0, .tup [.str "letter", .int 0]]])] := by
        simp [Prog.d, of_d, sd_put, Say.d]
      rw [hd]
      simp [b_law_changed, q1', c0, hpd, sizeLine, hlen2]
  · by_cases c1 : (c : Int) = 1 ∧ 1 < p.b.sts.length
    · have hmem : ∀ s, s ∈ p.b.sts.drop 1 ++ p.b.sts.take 1 → s ∈ p.b.sts := by
        intro s hs
        rcases List.mem_append.mp hs with hs | hs
        · exact List.mem_of_mem_drop hs
        · exact List.mem_of_mem_take hs
      have hsum : ∀ f : Stm → Nat, ((p.b.sts.drop 1 ++ p.b.sts.take 1).map f).sum = (p.b.sts.map f).sum := by
        intro f
        conv => rhs; rw [← List.take_append_drop 1 p.b.sts]
        simp only [List.map_append, List.sum_append]
        omega
      refine ⟨Blk.of (p.b.sts.drop 1 ++ p.b.sts.take 1), h1, mk _ ⟨?_, ?_, ?_, ?_, ?_⟩, run _ h1 (some (.fz (.int (c : Int)))) ?_⟩
      · intro s hs
        rw [of_sts] at hs
        have hs := hmem s hs
        exact ⟨(g.st s hs).1, fun x hx => ok_up ((g.st s hs).2 x hx)⟩
      · simp; omega
      · rw [of_dr, hsum]; rw [dr_sum] at g2; omega
      · rw [of_told, hsum]; rw [told_sum] at g3; omega
      · rw [of_cnt, hsum]; rw [cnt_sum] at g4; omega
      · have hd : (Prog.mk p.n p.sh (Blk.of (p.b.sts.drop 1 ++ p.b.sts.take 1))).d = .tup [.int (p.n : Int), .tup (p.sh.map fr), .tup ((p.b.sts.map Stm.d).drop 1 ++ (p.b.sts.map Stm.d).take 1)] := by
          simp [Prog.d, of_d]
        rw [hd]
        have hl1 : (1 : Int) < (p.b.sts.length : Int) := by omega
        have hl2 : p.b.sts.length - 1 + min 1 p.b.sts.length ≤ 16777216 := by omega
        simp [b_law_changed, q1', c1, hpd, sizeLine, slO, cut1, cut2, hl1, hl2]
    · have c1' : (c : Int) = 1 → ¬ (1 : Int) < (p.b.sts.length : Int) := fun a b => c1 ⟨a, by omega⟩
      by_cases c2 : (c : Int) = 2
      · refine ⟨Blk.of [.rounds 1 p.b], h1, mk _ ⟨?_, ?_, ?_, ?_, ?_⟩, run _ h1 (some (.fz (.int (c : Int)))) ?_⟩
        · intro s hs
          simp at hs
          subst hs
          refine ⟨by simp [Stm.good], fun x hx => ?_⟩
          simp [Stm.blks] at hx
          subst hx
          exact ok_le (g.ok (by omega)) (by omega)
        · simp; omega
        · rw [of_dr]; simp [Stm.dr]; omega
        · rw [of_told]; simp [Stm.told]; omega
        · rw [of_cnt]; simp [Stm.blks, cntL]; omega
        · have hd : (Prog.mk p.n p.sh (Blk.of [.rounds 1 p.b])).d = .tup [.int (p.n : Int), .tup (p.sh.map fr), .tup [.tup [.str "rounds", .int 1, .tup (p.b.sts.map Stm.d)]]] := by
            simp [Prog.d, of_d, sd_rounds, d_eq]
          rw [hd]
          simp [b_law_changed, q1', c2, hpd, sizeLine]
      · by_cases c3 : (c : Int) = 3
        · refine ⟨Blk.of [.cond (.letter 0) .nil p.b], h1, mk _ ⟨?_, ?_, ?_, ?_, ?_⟩, run _ h1 (some (.fz (.int (c : Int)))) ?_⟩
          · intro s hs
            simp at hs
            subst hs
            refine ⟨by simp [Stm.good, Say.ok, Say.deep]; omega, fun x hx => ?_⟩
            simp [Stm.blks] at hx
            rcases hx with rfl | rfl
            · exact ok_le (d := 1) ⟨by simp [Blk.sts], by simp [Blk.dr], by simp [Blk.told], by simp [Blk.sts]⟩ (by omega)
            · exact ok_le (g.ok (by omega)) (by omega)
          · simp; omega
          · rw [of_dr]; simp [Stm.dr, Blk.dr]; omega
          · rw [of_told]; simp [Stm.told, Blk.told]; omega
          · rw [of_cnt]; simp [Stm.blks, cntL, Blk.cnt]; omega
          · have hd : (Prog.mk p.n p.sh (Blk.of [.cond (.letter 0) .nil p.b])).d = .tup [.int (p.n : Int), .tup (p.sh.map fr), .tup [.tup [.str "if", .tup [.str "letter", .int 0], .tup [], .tup (p.b.sts.map Stm.d)]]] := by
              simp [Prog.d, of_d, sd_cond, d_eq, Say.d, Blk.sts]
            rw [hd]
            simp [b_law_changed, q1', c3, hpd, sizeLine]
        · by_cases c4 : (c : Int) = 4
          · refine ⟨Blk.of (.draw (p.n - 1) 0 :: p.b.sts), h1, mk _ ⟨?_, ?_, ?_, ?_, ?_⟩, run _ h1 (some (.fz (.int (c : Int)))) ?_⟩
            · intro s hs
              rw [of_sts] at hs
              rcases List.mem_cons.mp hs with rfl | hs
              · have := hp.k1
                exact ⟨by simp [Stm.good]; omega, by simp [Stm.blks]⟩
              · exact ⟨(g.st s hs).1, fun x hx => ok_up ((g.st s hs).2 x hx)⟩
            · simp; omega
            · rw [of_dr]; rw [dr_sum] at g2; simp [Stm.dr]; omega
            · rw [of_told]; rw [told_sum] at g3; simp [Stm.told]; omega
            · rw [of_cnt]; rw [cnt_sum] at g4; simp [Stm.blks, cntL] at g4 ⊢; omega
            · have en : (p.n : Int) - 1 = ((p.n - 1 : Nat) : Int) := by omega
              have hd : (Prog.mk p.n p.sh (Blk.of (.draw (p.n - 1) 0 :: p.b.sts))).d = .tup [.int (p.n : Int), .tup (p.sh.map fr), .tup (.tup [.str "draw", .int ((p.n : Int) - 1), .int 0] :: p.b.sts.map Stm.d)] := by
                simp [Prog.d, of_d, sd_draw, d_eq, en, ← ds_sts, sts_of]
              rw [hd]
              simp [b_law_changed, q1', c4, hpd, sizeLine, hlen3]
          · have hk := hp.k1
            have hk3 := hp.k3
            have hn3 := hp.n3
            obtain ⟨b, left, h2, hb, hdr, q3⟩ := v_law_block p.n p.sh.length (by omega) (by omega) (by omega) (by omega) 5 2 (by decide) (by decide) 4 h1 (by omega)
            have q3' : f_law_block 5 [h1.t, .fz (.int (p.n : Int)), .fz (.int (p.sh.length : Int)), .fz (.int 4), .fz (.int 2)] = some (.fz (.tup [b.d, .int (left : Int)]), [h2.t, .fz (.int (p.n : Int)), .fz (.int (p.sh.length : Int)), .fz (.int 4), .fz (.int 2)]) := q3
            refine ⟨b, h2, mk _ ((cls_drawn4 hb (by omega)).up (by omega)), run _ h2 (some (.fz (.int (c : Int)))) ?_⟩
            have hd : (Prog.mk p.n p.sh b).d = .tup [.int (p.n : Int), .tup (p.sh.map fr), b.d] := rfl
            rw [hd]
            by_cases c1i : (c : Int) = 1
            · have hl := c1' c1i
              simp [b_law_changed, q1', c1i, hl, q3', hpd, sizeLine]
            · have c0n : ¬ c = 0 := by omega
              simp [b_law_changed, q1', c0n, c1i, c2, c3, c4, q3', hpd, sizeLine]
end Lw

/-! M1 -/
set_option Elab.async false
set_option linter.all false
set_option exponentiation.threshold 100000
namespace Lw
/-! ### sums of fractions -/
@[simp] theorem sumQ_eq : ∀ (r : List Rat) (s : Rat), sumQ s r = s + r.sum
  | [], s => by simp [sumQ]; grind
  | q :: r, s => by rw [sumQ, sumQ_eq r]; simp; grind
theorem sum_app (a b : List Rat) : (a ++ b).sum = a.sum + b.sum := by
  induction a with
  | nil => simp; grind
  | cons x a ih => simp [ih]; grind
theorem sum_rep0 (n : Nat) : (List.replicate n (0 : Rat)).sum = 0 := by
  induction n with
  | zero => rfl
  | succ n ih => simp [List.replicate_succ, ih]; grind
theorem sum_nn : ∀ {a : List Rat}, (∀ q ∈ a, 0 ≤ q) → 0 ≤ a.sum
  | [], _ => by simp
  | x :: a, h => by
    have := sum_nn (a := a) fun q hq => h q (by simp [hq])
    have := h x (by simp)
    simp; grind
theorem le_sum : ∀ {a : List Rat} {x : Rat}, (∀ q ∈ a, 0 ≤ q) → x ∈ a → x ≤ a.sum
  | y :: a, x, h, hx => by
    have h1 := sum_nn (a := a) fun q hq => h q (by simp [hq])
    have h2 := h y (by simp)
    rcases List.mem_cons.mp hx with rfl | hx
    · simp; grind
    · have := le_sum (a := a) (fun q hq => h q (by simp [hq])) hx
      simp; grind
/-! fractions whose bottoms divide a power -/
def Dv (k : Nat) (q : Rat) : Prop := q.den ∣ 420 ^ k
theorem Dv.up {k j : Nat} {q : Rat} (h : Dv k q) (l : k ≤ j) : Dv j q := Nat.dvd_trans h (Nat.pow_dvd_pow 420 l)
theorem mul_den (q : Rat) : q * (q.den : Rat) = (q.num : Rat) := by
  have h : ((q.num : Rat) / (q.den : Rat)) = q := by rw [← Rat.mkRat_eq_div, Rat.mkRat_self]
  have hd : (q.den : Rat) ≠ 0 := by
    have := q.den_nz
    intro h
    exact this (by exact_mod_cast h)
  conv => lhs; rw [← h]
  rw [h, ← h]
  have e : ((q.num : Rat) / (q.den : Rat)) * (q.den : Rat) = (q.num : Rat) := by
    rw [Rat.div_mul_cancel hd]
  rw [h] at e ⊢
  exact e
theorem dv_iff {k : Nat} {q : Rat} : Dv k q ↔ ∃ z : Int, q * ((420 ^ k : Nat) : Rat) = z := by
  constructor
  · rintro ⟨c, hc⟩
    refine ⟨q.num * (c : Int), ?_⟩
    rw [hc, Rat.natCast_mul, ← Rat.mul_assoc, mul_den, Rat.intCast_mul]
    rfl
  · rintro ⟨z, hz⟩
    have h0 : ((420 ^ k : Nat) : Rat) ≠ 0 := by
      have : (420 ^ k : Nat) ≠ 0 := Nat.pos_iff_ne_zero.mp (Nat.pow_pos (by decide))
      intro h
      exact this (by exact_mod_cast h)
    have : q = mkRat z (420 ^ k) := by
      rw [Rat.mkRat_eq_div, ← hz, Rat.mul_div_cancel h0]
    rw [this, Dv, Rat.den_mkRat]
    split
    · exact Nat.one_dvd _
    · exact Nat.div_dvd_of_dvd (Nat.gcd_dvd_left _ _)
theorem Dv.add {k : Nat} {a b : Rat} (ha : Dv k a) (hb : Dv k b) : Dv k (a + b) := by
  obtain ⟨x, hx⟩ := dv_iff.mp ha
  obtain ⟨y, hy⟩ := dv_iff.mp hb
  exact dv_iff.mpr ⟨x + y, by rw [Rat.add_mul, hx, hy, Rat.intCast_add]⟩
theorem Dv.neg {k : Nat} {a : Rat} (ha : Dv k a) : Dv k (-a) := by simpa [Dv] using ha
theorem Dv.sub {k : Nat} {a b : Rat} (ha : Dv k a) (hb : Dv k b) : Dv k (a - b) := by
  rw [Rat.sub_eq_add_neg]; exact ha.add hb.neg
theorem Dv.mul {k j : Nat} {a b : Rat} (ha : Dv k a) (hb : Dv j b) : Dv (k + j) (a * b) := by
  obtain ⟨x, hx⟩ := dv_iff.mp ha
  obtain ⟨y, hy⟩ := dv_iff.mp hb
  exact dv_iff.mpr ⟨x * y, by rw [Nat.pow_add, Rat.natCast_mul, Rat.intCast_mul, ← hx, ← hy]; grind⟩
theorem Dv.zero {k : Nat} : Dv k 0 := by simp [Dv]
theorem Dv.one {k : Nat} : Dv k 1 := by simp [Dv]
theorem Dv.sum {k : Nat} : ∀ {a : List Rat}, (∀ q ∈ a, Dv k q) → Dv k a.sum
  | [], _ => by simp; exact Dv.zero
  | x :: a, h => by
    simp
    exact (h x (by simp)).add (Dv.sum fun q hq => h q (by simp [hq]))
/-- from 0 to 1, a bottom that divides -/
structure Ch (k : Nat) (q : Rat) : Prop where
  dv : Dv k q
  nn : 0 ≤ q
  le : q ≤ 1
theorem pow_lt1 (k : Nat) (h : k ≤ 100) : 420 ^ k < 2 ^ 1000 := by
  have h1 : 420 ^ k ≤ 420 ^ 100 := Nat.pow_le_pow_right (by decide) h
  exact Nat.lt_of_le_of_lt h1 (by decide +kernel)
/-- a fraction of modest size -/
theorem fit_of {k : Nat} {q : Rat} (hk : k ≤ 100) (h : Dv k q) (h1 : -1000 ≤ q) (h2 : q ≤ 1000) : Fit q := by
  have hd : q.den ≤ 420 ^ k := Nat.le_of_dvd (Nat.pow_pos (by decide)) h
  have hp := pow_lt1 k hk
  have hd2 : q.den < 2 ^ 1000 := by omega
  refine ⟨Nat.lt_of_lt_of_le hd2 (Nat.pow_le_pow_right (by decide) (by decide)), ?_⟩
  have a1 : q.num ≤ 1000 * (q.den : Int) := by
    have := Rat.le_iff q 1000 |>.mp h2
    simpa using this
  have a2 : -1000 * (q.den : Int) ≤ q.num := by
    have := Rat.le_iff (-1000) q |>.mp h1
    simpa using this
  have a3 : q.num.natAbs ≤ 1000 * q.den := by omega
  have a4 : 1000 * q.den < 2 ^ 10 * 2 ^ 1000 := by
    have : 1000 * q.den < 1000 * 2 ^ 1000 := by omega
    have : 1000 * 2 ^ 1000 ≤ 2 ^ 10 * 2 ^ 1000 := Nat.mul_le_mul_right _ (by decide)
    omega
  rw [← Nat.pow_add] at a4
  exact Nat.lt_of_lt_of_le (Nat.lt_of_le_of_lt a3 a4) (Nat.pow_le_pow_right (by decide) (by decide))
theorem Ch.fit {k : Nat} {q : Rat} (h : Ch k q) (hk : k ≤ 100 := by omega) : Fit q := fit_of hk h.dv (by have := h.nn; grind) (by have := h.le; grind)
end Lw

/-! M2 -/
set_option Elab.async false
set_option linter.all false
namespace Lw
/-! ### rows of masses -/
def dot : List Rat → (Nat → Rat) → Rat
  | [], _ => 0
  | q :: r, f => q * f 0 + dot r (fun i => f (i + 1))
theorem dot_app : ∀ (a b : List Rat) (f : Nat → Rat), dot (a ++ b) f = dot a f + dot b (fun i => f (i + a.length))
  | [], b, f => by simp [dot]; grind
  | x :: a, b, f => by
    simp only [List.cons_append, dot, dot_app a b, List.length_cons]
    have : (fun i => f (i + a.length + 1)) = (fun i => f (i + (a.length + 1))) := by funext i; rfl
    rw [this]; grind
theorem dot_set : ∀ (a : List Rat) (i : Nat) (x : Rat) (f : Nat → Rat) (h : i < a.length), dot (a.set i x) f = dot a f + (x - a[i]) * f i
  | y :: a, 0, x, f, h => by simp [dot]; grind
  | y :: a, i + 1, x, f, h => by
    simp only [List.length_cons] at h
    have := dot_set a i x (fun i => f (i + 1)) (by omega)
    simp only [List.set_cons_succ, dot, this, List.getElem_cons_succ]
    grind
theorem dot_one : ∀ (a : List Rat), dot a (fun _ => 1) = a.sum
  | [] => rfl
  | x :: a => by simp [dot, dot_one a]
theorem dot_rep0 : ∀ (n : Nat) (f : Nat → Rat), dot (List.replicate n 0) f = 0
  | 0, f => rfl
  | n + 1, f => by simp [List.replicate_succ, dot, dot_rep0 n]; grind
theorem dot_add : ∀ (a b : List Rat) (f : Nat → Rat), a.length = b.length → dot (List.zipWith (· + ·) a b) f = dot a f + dot b f
  | [], [], f, _ => by simp [dot]; grind
  | x :: a, y :: b, f, h => by
    simp only [List.zipWith_cons_cons, dot, dot_add a b _ (by simpa using h)]
    grind
theorem dot_congr : ∀ (a : List Rat) (f g : Nat → Rat), (∀ i, i < a.length → f i = g i) → dot a f = dot a g
  | [], f, g, _ => rfl
  | x :: a, f, g, h => by
    simp only [dot]
    rw [h 0 (by simp), dot_congr a _ (fun i => g (i + 1)) fun i hi => h (i + 1) (by simp; omega)]
theorem dot_addf : ∀ (a : List Rat) (f g : Nat → Rat), dot a (fun i => f i + g i) = dot a f + dot a g
  | [], f, g => by simp [dot]; grind
  | x :: a, f, g => by simp only [dot, dot_addf a]; grind
theorem dot_smul (c : Rat) : ∀ (a : List Rat) (f : Nat → Rat), dot a (fun i => c * f i) = c * dot a f
  | [], f => by simp [dot]
  | x :: a, f => by simp only [dot, dot_smul c a]; grind
theorem dot_mono : ∀ (a : List Rat) (f g : Nat → Rat), (∀ q ∈ a, 0 ≤ q) → (∀ i, i < a.length → f i ≤ g i) → dot a f ≤ dot a g
  | [], f, g, _, _ => by simp [dot]
  | x :: a, f, g, h, h2 => by
    have h3 := dot_mono a (fun i => f (i + 1)) (fun i => g (i + 1)) (fun q hq => h q (by simp [hq])) fun i hi => h2 (i + 1) (by simp; omega)
    have h4 := Rat.mul_le_mul_of_nonneg_left (h2 0 (by simp)) (h x (by simp))
    simp only [dot]; grind
def dl (v : Nat) (i : Nat) : Rat := if i = v then 1 else 0
theorem dot_dl0 : ∀ (a : List Rat) (k : Nat), dot a (fun i => dl 0 (i + (k + 1))) = 0
  | [], _ => rfl
  | x :: a, k => by
    have e : (fun i => dl 0 (i + 1 + (k + 1))) = fun i => dl 0 (i + ((k + 1) + 1)) := by funext i; congr 1; omega
    simp only [dot, e, dot_dl0 a]
    simp [dl]; grind
theorem dot_dl : ∀ (a : List Rat) (v : Nat) (h : v < a.length), dot a (dl v) = a[v]
  | x :: a, 0, h => by
    have := dot_dl0 a 0
    simp only [dot]
    rw [show (fun i => dl 0 (i + 1)) = fun i => dl 0 (i + (0 + 1)) from rfl, this]
    simp [dl]; grind
  | x :: a, v + 1, h => by
    have e : (fun i => dl (v + 1) (i + 1)) = dl v := by funext i; simp [dl]
    simp only [dot, e, List.getElem_cons_succ]
    rw [dot_dl a v (by simpa using h)]
    simp [dl]; grind
/-! ### a block, backward -/
def iterF {α : Type} (f : α → α) : Nat → α → α
  | 0, x => x
  | n + 1, x => f (iterF f n x)
theorem iterF_succ {α : Type} (f : α → α) : ∀ (n : Nat) (x : α), iterF f (n + 1) x = iterF f n (f x)
  | 0, x => rfl
  | n + 1, x => by rw [iterF, iterF_succ f n, iterF]
section
variable (sh : List Rat)
def Blk.E : Blk → (Nat → Rat) → Nat → Rat
  | .nil, f => f
  | .draw l s r, f => fun w => sh.getD s 0 * r.E f (wl w l true) + (1 - sh.getD s 0) * r.E f (wl w l false)
  | .put l a r, f => fun w => r.E f (wl w l (a.ev w))
  | .see a r, f => fun w => if a.ev w then r.E f w else 0
  | .rounds n b r, f => iterF b.E n (r.E f)
  | .cond a x y r, f => fun w => if a.ev w then x.E (r.E f) w else y.E (r.E f) w
def Stm.E : Stm → (Nat → Rat) → Nat → Rat
  | .draw l s, f => fun w => sh.getD s 0 * f (wl w l true) + (1 - sh.getD s 0) * f (wl w l false)
  | .put l a, f => fun w => f (wl w l (a.ev w))
  | .see a, f => fun w => if a.ev w then f w else 0
  | .rounds n b, f => iterF (b.E sh) n f
  | .cond a x y, f => fun w => if a.ev w then x.E sh f w else y.E sh f w
@[simp] theorem on_E (s : Stm) (r : Blk) (f : Nat → Rat) : (s.on r).E sh f = s.E sh (r.E sh f) := by cases s <;> rfl
theorem app_E (b c : Blk) (f : Nat → Rat) : (b.app c).E sh f = b.E sh (c.E sh f) := by
  induction b using Blk.ind with
  | h0 => simp [Blk.app, Blk.sts, sts_of, Blk.E]
  | h1 s r ih =>
    have : (s.on r).app c = s.on (r.app c) := by simp [Blk.app]
    rw [this, on_E, on_E, ih]
/-! what the letters and shares of a block are -/
def Blk.fine (n k : Nat) : Blk → Prop
  | .nil => True
  | .draw l s r => l < n ∧ s < k ∧ r.fine n k
  | .put l a r => l < n ∧ a.ok n = true ∧ a.deep ≤ 8 ∧ r.fine n k
  | .see a r => a.ok n = true ∧ a.deep ≤ 8 ∧ r.fine n k
  | .rounds _ b r => b.fine n k ∧ r.fine n k
  | .cond a x y r => a.ok n = true ∧ a.deep ≤ 8 ∧ x.fine n k ∧ y.fine n k ∧ r.fine n k
def Stm.fine (n k : Nat) : Stm → Prop
  | .draw l s => l < n ∧ s < k
  | .put l a => l < n ∧ a.ok n = true ∧ a.deep ≤ 8
  | .see a => a.ok n = true ∧ a.deep ≤ 8
  | .rounds _ b => b.fine n k
  | .cond a x y => a.ok n = true ∧ a.deep ≤ 8 ∧ x.fine n k ∧ y.fine n k
theorem on_fine {n k : Nat} (s : Stm) (r : Blk) : (s.on r).fine n k ↔ s.fine n k ∧ r.fine n k := by cases s <;> simp [Stm.on, Blk.fine, Stm.fine, and_assoc]
theorem fine_sts {n k : Nat} (b : Blk) : b.fine n k ↔ ∀ s ∈ b.sts, s.fine n k := by
  induction b using Blk.ind with
  | h0 => simp [Blk.fine, Blk.sts]
  | h1 s r ih => simp [on_fine, ih]
theorem ok_fine {n k : Nat} : ∀ {d : Nat} {b : Blk}, b.ok n k d → b.fine n k
  | 0, b, h => absurd h (by simp [Blk.ok])
  | d + 1, b, ⟨_, _, _, h⟩ => (fine_sts b).mpr fun s hs => by
    obtain ⟨h1, h2⟩ := h s hs
    cases s with
    | draw l t => simpa [Stm.good, Stm.fine] using h1
    | put l a => simpa [Stm.good, Stm.fine] using h1
    | see a => simpa [Stm.good, Stm.fine] using h1
    | rounds m b => exact ok_fine (h2 b (by simp [Stm.blks]))
    | cond a x y =>
      simp [Stm.good] at h1
      exact ⟨h1.1, h1.2, ok_fine (h2 x (by simp [Stm.blks])), ok_fine (h2 y (by simp [Stm.blks]))⟩
/-! from 0 to 1 -/
def Unit01 (N : Nat) (f : Nat → Rat) : Prop := ∀ w, w < N → 0 ≤ f w ∧ f w ≤ 1
theorem mix01 {p a b : Rat} (hp : 0 ≤ p) (hp1 : p ≤ 1) (ha : 0 ≤ a ∧ a ≤ 1) (hb : 0 ≤ b ∧ b ≤ 1) : 0 ≤ p * a + (1 - p) * b ∧ p * a + (1 - p) * b ≤ 1 := by
  have h1 := Rat.mul_nonneg hp ha.1
  have h2 := Rat.mul_nonneg (show 0 ≤ 1 - p by grind) hb.1
  have h3 := Rat.mul_le_mul_of_nonneg_left ha.2 hp
  have h4 := Rat.mul_le_mul_of_nonneg_left hb.2 (show 0 ≤ 1 - p by grind)
  constructor <;> grind
theorem getD01 (hs : ∀ q ∈ sh, 0 ≤ q ∧ q ≤ 1) (s : Nat) : 0 ≤ sh.getD s 0 ∧ sh.getD s 0 ≤ 1 := by
  rw [List.getD_eq_getElem?_getD]
  by_cases h : s < sh.length
  · rw [List.getElem?_eq_getElem h]; exact hs _ (List.getElem_mem h)
  · rw [List.getElem?_eq_none (by omega)]; simp; grind
theorem E01 {n k : Nat} (hs : ∀ q ∈ sh, 0 ≤ q ∧ q ≤ 1) : ∀ (b : Blk) (f : Nat → Rat), b.fine n k → Unit01 (2 ^ n) f → Unit01 (2 ^ n) (b.E sh f)
  | .nil, f, _, hf => hf
  | .draw l s r, f, h, hf => fun w hw => by
    have h1 := E01 hs r f h.2.2 hf
    have h2 := getD01 sh hs s
    exact mix01 h2.1 h2.2 (h1 _ (wl_lt true hw h.1)) (h1 _ (wl_lt false hw h.1))
  | .put l a r, f, h, hf => fun w hw => E01 hs r f h.2.2.2 hf _ (wl_lt _ hw h.1)
  | .see a r, f, h, hf => fun w hw => by
    simp only [Blk.E]
    split
    · exact E01 hs r f h.2.2 hf w hw
    · constructor <;> grind
  | .rounds m b r, f, h, hf => by
    have h1 := E01 hs r f h.2 hf
    simp only [Blk.E]
    generalize r.E sh f = g at h1
    induction m with
    | zero => exact h1
    | succ m ih => exact E01 hs b _ h.1 (by simpa using ih ⟨h.1, h.2⟩)
  | .cond a x y r, f, h, hf => fun w hw => by
    have h1 := E01 hs r f h.2.2.2.2 hf
    simp only [Blk.E]
    split
    · exact E01 hs x _ h.2.2.1 h1 w hw
    · exact E01 hs y _ h.2.2.2.1 h1 w hw
end
end Lw

/-! M3 -/
set_option Elab.async false
set_option linter.all false
namespace Lw
/-! ### a block, forward -/
structure Ms where
  ms : List Rat
  d : Rat
  l : Rat
def addTo (acc : List Rat) (mass : Rat) : List (Nat × Rat) → List Rat
  | [] => acc
  | (t, s) :: r => addTo (acc.set t (acc.getD t 0 + mass * s)) mass r
def chgL (ways : Nat → List (Nat × Rat)) : Nat → List Rat → List Rat → List Rat
  | _, [], acc => acc
  | i, m :: r, acc => chgL ways (i + 1) r (if 0 < m then addTo acc m (ways i) else acc)
def msk (p : Nat → Bool) : List Rat → List Rat
  | [] => []
  | q :: r => (if p 0 then q else 0) :: msk (fun i => p (i + 1)) r
def Ms.join (a b : Ms) : Ms := ⟨List.zipWith (· + ·) a.ms b.ms, a.d + b.d, a.l + b.l⟩
section
variable (sh : List Rat) (n : Nat)
def wDraw (l s : Nat) (w : Nat) : List (Nat × Rat) := [(wl w l true, sh.getD s 0), (wl w l false, 1 - sh.getD s 0)]
def wPut (l : Nat) (a : Say) (w : Nat) : List (Nat × Rat) := [(wl w l (a.ev w), 1)]
def Ms.chg (ways : Nat → List (Nat × Rat)) (m : Ms) : Ms := ⟨chgL ways 0 m.ms (List.replicate (2 ^ n) 0), m.d, m.l⟩
def Ms.see (a : Say) (m : Ms) : Ms := ⟨msk a.ev m.ms, m.d + (msk (fun w => !a.ev w) m.ms).sum, m.l⟩
def Ms.yes (a : Say) (m : Ms) : Ms := ⟨msk a.ev m.ms, 0, 0⟩
def Ms.no (a : Say) (m : Ms) : Ms := ⟨msk (fun w => !a.ev w) m.ms, m.d, m.l⟩
def Blk.fw : Blk → Ms → Ms
  | .nil, m => m
  | .draw l s r, m => r.fw (m.chg n (wDraw sh l s))
  | .put l a r, m => r.fw (m.chg n (wPut l a))
  | .see a r, m => r.fw (m.see a)
  | .rounds k b r, m => r.fw (iterF b.fw k m)
  | .cond a x y r, m => r.fw ((x.fw (m.yes a)).join (y.fw (m.no a)))
def Stm.fw : Stm → Ms → Ms
  | .draw l s, m => m.chg n (wDraw sh l s)
  | .put l a, m => m.chg n (wPut l a)
  | .see a, m => m.see a
  | .rounds k b, m => iterF (b.fw sh n) k m
  | .cond a x y, m => (x.fw sh n (m.yes a)).join (y.fw sh n (m.no a))
@[simp] theorem on_fw (s : Stm) (r : Blk) (m : Ms) : (s.on r).fw sh n m = r.fw sh n (s.fw sh n m) := by cases s <;> rfl
end
@[simp] theorem addTo_len (mass : Rat) : ∀ (l : List (Nat × Rat)) (acc : List Rat), (addTo acc mass l).length = acc.length
  | [], acc => rfl
  | (t, s) :: r, acc => by simp [addTo, addTo_len mass r]
@[simp] theorem chgL_len (ways : Nat → List (Nat × Rat)) : ∀ (a : List Rat) (i : Nat) (acc : List Rat), (chgL ways i a acc).length = acc.length
  | [], i, acc => rfl
  | m :: r, i, acc => by
    rw [chgL, chgL_len ways r]
    split <;> simp
@[simp] theorem msk_len : ∀ (a : List Rat) (p : Nat → Bool), (msk p a).length = a.length
  | [], p => rfl
  | q :: r, p => by simp [msk, msk_len r]
theorem msk_get : ∀ (a : List Rat) (p : Nat → Bool) (i : Nat), (msk p a)[i]? = (a[i]?).map fun q => if p i then q else 0
  | [], p, i => by simp [msk]
  | q :: r, p, 0 => by simp [msk]
  | q :: r, p, i + 1 => by simp [msk, msk_get r]
theorem dot_msk : ∀ (a : List Rat) (p : Nat → Bool) (f : Nat → Rat), dot (msk p a) f = dot a (fun i => if p i then f i else 0)
  | [], p, f => rfl
  | q :: r, p, f => by
    simp only [msk, dot, dot_msk r]
    split <;> grind
theorem msk_sum (a : List Rat) (p : Nat → Bool) : (msk p a).sum + (msk (fun w => !p w) a).sum = a.sum := by
  rw [← dot_one, ← dot_one, ← dot_one a, dot_msk, dot_msk, ← dot_addf]
  refine dot_congr _ _ _ fun i _ => ?_
  cases p i <;> simp <;> grind
theorem msk_all {P : Rat → Prop} (h0 : P 0) : ∀ {a : List Rat} {p : Nat → Bool}, (∀ q ∈ a, P q) → ∀ q ∈ msk p a, P q
  | [], p, _, q, hq => by simp [msk] at hq
  | x :: r, p, h, q, hq => by
    simp only [msk, List.mem_cons] at hq
    rcases hq with rfl | hq
    · split
      · exact h x (by simp)
      · exact h0
    · exact msk_all h0 (fun q hq => h q (by simp [hq])) q hq
def wsum : List (Nat × Rat) → (Nat → Rat) → Rat
  | [], _ => 0
  | (t, s) :: r, f => s * f t + wsum r f
theorem addTo_dot (mass : Rat) (f : Nat → Rat) : ∀ (l : List (Nat × Rat)) (acc : List Rat), (∀ p ∈ l, p.1 < acc.length) → dot (addTo acc mass l) f = dot acc f + mass * wsum l f
  | [], acc, _ => by simp [addTo, wsum]; grind
  | (t, s) :: r, acc, h => by
    have ht : t < acc.length := h (t, s) (by simp)
    rw [addTo, addTo_dot mass f r _ (by simpa using fun a b hab => h (a, b) (by simp [hab])), dot_set _ _ _ _ ht]
    have : acc.getD t 0 = acc[t] := by simp [ht]
    rw [this, wsum]; grind
theorem chgL_dot (ways : Nat → List (Nat × Rat)) (f : Nat → Rat) : ∀ (a : List Rat) (i : Nat) (acc : List Rat), (∀ q ∈ a, 0 ≤ q) → (∀ j, j < a.length → ∀ p ∈ ways (i + j), p.1 < acc.length) →
    dot (chgL ways i a acc) f = dot acc f + dot a (fun j => wsum (ways (i + j)) f)
  | [], i, acc, _, _ => by simp [chgL, dot]; grind
  | m :: r, i, acc, h0, h => by
    have hw := h 0 (by simp)
    have e : (fun j => wsum (ways (i + 1 + j)) f) = fun j => wsum (ways (i + (j + 1))) f := by funext j; congr 2; omega
    have h2 : ∀ (acc' : List Rat), acc'.length = acc.length → ∀ j, j < r.length → ∀ p ∈ ways (i + 1 + j), p.1 < acc'.length := by
      intro acc' e j hj p hp
      rw [e]
      exact h (j + 1) (by simp; omega) p (by rwa [show i + (j + 1) = i + 1 + j by omega])
    rw [chgL]
    have hm := h0 m (by simp)
    split
    · rw [chgL_dot ways f r (i + 1) _ (fun q hq => h0 q (by simp [hq])) (h2 _ (by simp)), addTo_dot m f _ _ (by simpa using hw), dot, e]
      simp; grind
    · have : m = 0 := by grind
      subst this
      rw [chgL_dot ways f r (i + 1) _ (fun q hq => h0 q (by simp [hq])) (h2 _ rfl), dot, e]
      grind
/-- what stands in a row of masses -/
def Row (K : Nat) (a : List Rat) : Prop := ∀ q ∈ a, Dv K q ∧ 0 ≤ q
theorem Row.up {K J : Nat} {a : List Rat} (h : Row K a) (l : K ≤ J) : Row J a := fun q hq => ⟨(h q hq).1.up l, (h q hq).2⟩
theorem Row.rep {K : Nat} (n : Nat) : Row K (List.replicate n 0) := fun q hq => by
  rw [List.eq_of_mem_replicate hq]; exact ⟨Dv.zero, by grind⟩
theorem Row.set {K i : Nat} {a : List Rat} {x : Rat} (h : Row K a) (hx : Dv K x ∧ 0 ≤ x) : Row K (a.set i x) := fun q hq => by
  rcases List.mem_or_eq_of_mem_set hq with hq | rfl
  · exact h q hq
  · exact hx
theorem Row.getD {K i : Nat} {a : List Rat} (h : Row K a) : Dv K (a.getD i 0) ∧ 0 ≤ a.getD i 0 := by
  rw [List.getD_eq_getElem?_getD]
  by_cases hi : i < a.length
  · rw [List.getElem?_eq_getElem hi]; exact h _ (List.getElem_mem hi)
  · rw [List.getElem?_eq_none (by omega)]; exact ⟨Dv.zero, by simp⟩
theorem addTo_row {K k : Nat} {mass : Rat} (hm : Dv K mass ∧ 0 ≤ mass) : ∀ (l : List (Nat × Rat)) (acc : List Rat), Row (K + k) acc → (∀ p ∈ l, Dv k p.2 ∧ 0 ≤ p.2) → Row (K + k) (addTo acc mass l)
  | [], acc, h, _ => h
  | (t, s) :: r, acc, h, hl => by
    have hs := hl (t, s) (by simp)
    refine addTo_row hm r _ (h.set ?_) fun p hp => hl p (by simp [hp])
    have h1 := h.getD (i := t)
    exact ⟨h1.1.add (hm.1.mul hs.1), by have := Rat.mul_nonneg hm.2 hs.2; grind⟩
theorem chgL_row {K k : Nat} {ways : Nat → List (Nat × Rat)} : ∀ (a : List Rat) (i : Nat) (acc : List Rat), Row K a → Row (K + k) acc → (∀ j, j < a.length → ∀ p ∈ ways (i + j), Dv k p.2 ∧ 0 ≤ p.2) → Row (K + k) (chgL ways i a acc)
  | [], i, acc, _, h, _ => h
  | m :: r, i, acc, h0, h, hl => by
    rw [chgL]
    refine chgL_row r (i + 1) _ (fun q hq => h0 q (by simp [hq])) ?_ fun j hj p hp => hl (j + 1) (by simp; omega) p (by rwa [show i + (j + 1) = i + 1 + j by omega])
    split
    · exact addTo_row (h0 m (by simp)) _ _ h fun p hp => hl 0 (by simp) p (by simpa using hp)
    · exact h
structure Ms.Ok (N K : Nat) (m : Ms) : Prop where
  len : m.ms.length = N
  row : Row K m.ms
  d : Dv K m.d
  dn : 0 ≤ m.d
  le : m.ms.sum + m.d ≤ 1
  l : m.l = 0
theorem Ms.Ok.up {N K J : Nat} {m : Ms} (h : m.Ok N K) (l : K ≤ J) : m.Ok N J := ⟨h.len, h.row.up l, h.d.up l, h.dn, h.le, h.l⟩
theorem Row.nn {K : Nat} {a : List Rat} (h : Row K a) : ∀ q ∈ a, 0 ≤ q := fun q hq => (h q hq).2
theorem Row.dv {K : Nat} {a : List Rat} (h : Row K a) : ∀ q ∈ a, Dv K q := fun q hq => (h q hq).1
structure ShOk (sh : List Rat) : Prop where
  le : ∀ q ∈ sh, 0 ≤ q ∧ q ≤ 1
  dv : ∀ q ∈ sh, Dv 1 q
theorem ShOk.getD {sh : List Rat} (h : ShOk sh) (s : Nat) : Ch 1 (sh.getD s 0) := by
  have h1 := getD01 sh h.le s
  refine ⟨?_, h1.1, h1.2⟩
  rw [List.getD_eq_getElem?_getD]
  by_cases hs : s < sh.length
  · rw [List.getElem?_eq_getElem hs]; exact h.dv _ (List.getElem_mem hs)
  · rw [List.getElem?_eq_none (by omega)]; exact Dv.zero
section
variable {sh : List Rat} {n : Nat}
theorem wDraw_ok (h : ShOk sh) {l s w : Nat} (hw : w < 2 ^ n) (hl : l < n) : ∀ p ∈ wDraw sh l s w, p.1 < 2 ^ n ∧ Dv 1 p.2 ∧ 0 ≤ p.2 := by
  have := h.getD s
  intro p hp
  simp only [wDraw, List.mem_cons, List.not_mem_nil, or_false] at hp
  rcases hp with rfl | rfl
  · exact ⟨wl_lt true hw hl, this.dv, this.nn⟩
  · exact ⟨wl_lt false hw hl, Dv.one.sub this.dv, by have := this.le; grind⟩
theorem wPut_ok {l w : Nat} {a : Say} (hw : w < 2 ^ n) (hl : l < n) : ∀ p ∈ wPut l a w, p.1 < 2 ^ n ∧ Dv 0 p.2 ∧ 0 ≤ p.2 := by
  intro p hp
  simp only [wPut, List.mem_cons, List.not_mem_nil, or_false] at hp
  subst hp
  exact ⟨wl_lt _ hw hl, Dv.one, by grind⟩
theorem chg_ok {k K : Nat} {ways : Nat → List (Nat × Rat)} (hw : ∀ w < 2 ^ n, ∀ p ∈ ways w, p.1 < 2 ^ n ∧ Dv k p.2 ∧ 0 ≤ p.2) (h1 : ∀ w < 2 ^ n, wsum (ways w) (fun _ => 1) = 1) {m : Ms} (h : m.Ok (2 ^ n) K) :
    (m.chg n ways).Ok (2 ^ n) (K + k) ∧ (m.chg n ways).ms.sum + (m.chg n ways).d = m.ms.sum + m.d ∧ ∀ f, dot (m.chg n ways).ms f = dot m.ms (fun w => wsum (ways w) f) := by
  have hd : ∀ f, dot (m.chg n ways).ms f = dot m.ms (fun w => wsum (ways w) f) := fun f => by
    have e : (m.chg n ways).ms = chgL ways 0 m.ms (List.replicate (2 ^ n) 0) := rfl
    rw [e, chgL_dot ways f _ _ _ h.row.nn (by
      intro j hj p hp
      rw [h.len] at hj
      simpa using (hw (0 + j) (by omega) p hp).1), dot_rep0]
    have : (fun j => wsum (ways (0 + j)) f) = fun w => wsum (ways w) f := by funext j; rw [Nat.zero_add]
    rw [this]; grind
  have hs : (m.chg n ways).ms.sum = m.ms.sum := by
    rw [← dot_one, hd, ← dot_one m.ms]
    exact dot_congr _ _ _ fun i hi => h1 i (by rw [h.len] at hi; exact hi)
  refine ⟨⟨by simp [Ms.chg], ?_, h.d.up (by omega), h.dn, ?_, h.l⟩, ?_, hd⟩
  · exact chgL_row _ _ _ h.row (Row.rep _) fun j hj p hp => by
      rw [h.len] at hj
      exact (hw (0 + j) (by omega) p hp).2
  · rw [hs]; exact h.le
  · rw [hs]; rfl
theorem yes_ok {K : Nat} {a : Say} {m : Ms} (h : m.Ok (2 ^ n) K) : (m.yes a).Ok (2 ^ n) K ∧ (m.no a).Ok (2 ^ n) K ∧ (m.yes a).ms.sum + (m.no a).ms.sum = m.ms.sum := by
  have hs := msk_sum m.ms a.ev
  have h1 : Row K (msk a.ev m.ms) := msk_all ⟨Dv.zero, by grind⟩ h.row
  have h2 : Row K (msk (fun w => !a.ev w) m.ms) := msk_all ⟨Dv.zero, by grind⟩ h.row
  have n1 := sum_nn h1.nn
  have n2 := sum_nn h2.nn
  have hle := h.le
  have hdn := h.dn
  refine ⟨⟨by simp [Ms.yes, h.len], h1, Dv.zero, by show (0 : Rat) ≤ 0; grind, ?_, rfl⟩, ⟨by simp [Ms.no, h.len], h2, h.d, h.dn, ?_, h.l⟩, hs⟩
  · show (msk a.ev m.ms).sum + 0 ≤ 1
    grind
  · show (msk (fun w => !a.ev w) m.ms).sum + m.d ≤ 1
    grind
theorem see_ok {K : Nat} {a : Say} {m : Ms} (h : m.Ok (2 ^ n) K) : (m.see a).Ok (2 ^ n) K ∧ (m.see a).ms.sum + (m.see a).d = m.ms.sum + m.d := by
  obtain ⟨h1, h2, h3⟩ := yes_ok (a := a) h
  have e : (m.see a).ms.sum + (m.see a).d = m.ms.sum + m.d := by
    show (msk a.ev m.ms).sum + (m.d + (msk (fun w => !a.ev w) m.ms).sum) = _
    have := msk_sum m.ms a.ev
    grind
  have n2 := sum_nn h2.row.nn
  have hdn := h.dn
  refine ⟨⟨h1.len, h1.row, h.d.add (Dv.sum h2.row.dv), ?_, ?_, h.l⟩, e⟩
  · show 0 ≤ m.d + (m.no a).ms.sum
    grind
  · rw [e]; exact h.le
theorem sum_zip : ∀ (a b : List Rat), a.length = b.length → (List.zipWith (· + ·) a b).sum = a.sum + b.sum := fun a b h => by
  rw [← dot_one, dot_add _ _ _ h, dot_one, dot_one]
theorem zip_row {K : Nat} : ∀ {a b : List Rat}, Row K a → Row K b → Row K (List.zipWith (· + ·) a b)
  | [], _, _, _ => by simp [Row]
  | _ :: _, [], _, _ => by simp [Row]
  | x :: a, y :: b, ha, hb => by
    intro q hq
    simp only [List.zipWith_cons_cons, List.mem_cons] at hq
    rcases hq with rfl | hq
    · have h1 := ha x (by simp)
      have h2 := hb y (by simp)
      exact ⟨h1.1.add h2.1, by have := h1.2; have := h2.2; grind⟩
    · exact zip_row (fun q hq => ha q (by simp [hq])) (fun q hq => hb q (by simp [hq])) q hq
theorem join_ok {K : Nat} {a b : Ms} (ha : a.Ok (2 ^ n) K) (hb : b.Ok (2 ^ n) K) (hle : (a.ms.sum + a.d) + (b.ms.sum + b.d) ≤ 1) : (a.join b).Ok (2 ^ n) K ∧ (a.join b).ms.sum + (a.join b).d = (a.ms.sum + a.d) + (b.ms.sum + b.d) ∧ ∀ f, dot (a.join b).ms f = dot a.ms f + dot b.ms f := by
  have hl : a.ms.length = b.ms.length := by rw [ha.len, hb.len]
  have e : (a.join b).ms.sum + (a.join b).d = (a.ms.sum + a.d) + (b.ms.sum + b.d) := by
    show (List.zipWith (· + ·) a.ms b.ms).sum + (a.d + b.d) = _
    rw [sum_zip _ _ hl]; grind
  refine ⟨⟨by simp [Ms.join, ha.len, hb.len], zip_row ha.row hb.row, ha.d.add hb.d, ?_, by rw [e]; exact hle, ?_⟩, e, fun f => dot_add _ _ _ hl⟩
  · have := ha.dn
    have := hb.dn
    show 0 ≤ a.d + b.d
    grind
  · show a.l + b.l = 0
    rw [ha.l, hb.l]; grind
/-- forward and backward -/
structure FwOk (sh : List Rat) (n K : Nat) (m m' : Ms) (T : (Nat → Rat) → Nat → Rat) : Prop where
  ok : m'.Ok (2 ^ n) K
  tot : m'.ms.sum + m'.d = m.ms.sum + m.d
  du : ∀ f, dot m'.ms f = dot m.ms (T f)
theorem fw_ok (hs : ShOk sh) {k : Nat} : ∀ (b : Blk) (K : Nat) (m : Ms), b.fine n k → m.Ok (2 ^ n) K → FwOk sh n (K + b.dr) m (b.fw sh n m) (b.E sh)
  | .nil, K, m, _, h => ⟨h, rfl, fun _ => rfl⟩
  | .draw l s r, K, m, hf, h => by
    obtain ⟨h1, h2, h3⟩ := chg_ok (k := 1) (fun w hw => wDraw_ok hs hw hf.1) (fun w hw => by simp [wDraw, wsum]; grind) h
    obtain ⟨g1, g2, g3⟩ := fw_ok hs r (K + 1) _ hf.2.2 h1
    refine ⟨g1.up (by simp [Blk.dr]; omega), g2.trans h2, fun f => (g3 f).trans ((h3 _).trans (dot_congr _ _ _ fun i _ => ?_))⟩
    simp [wDraw, wsum, Blk.E]; grind
  | .put l a r, K, m, hf, h => by
    obtain ⟨h1, h2, h3⟩ := chg_ok (k := 0) (fun w hw => wPut_ok hw hf.1) (fun w hw => by simp [wPut, wsum]; grind) h
    obtain ⟨g1, g2, g3⟩ := fw_ok hs r K _ hf.2.2.2 h1
    refine ⟨g1, g2.trans h2, fun f => (g3 f).trans ((h3 _).trans (dot_congr _ _ _ fun i _ => ?_))⟩
    simp [wPut, wsum, Blk.E]; grind
  | .see a r, K, m, hf, h => by
    obtain ⟨h1, h2⟩ := see_ok (a := a) h
    obtain ⟨g1, g2, g3⟩ := fw_ok hs r K _ hf.2.2 h1
    refine ⟨g1, g2.trans h2, fun f => (g3 f).trans ?_⟩
    show dot (msk a.ev m.ms) _ = _
    rw [dot_msk]; rfl
  | .rounds c b r, K, m, hf, h => by
    have key : FwOk sh n (K + c * b.dr) m (iterF (b.fw sh n) c m) (iterF (b.E sh) c) := by
      have hb := hf.1
      clear hf
      induction c with
      | zero => exact ⟨h.up (by omega), rfl, fun _ => rfl⟩
      | succ c ih =>
        obtain ⟨b1, b2, b3⟩ := fw_ok hs b (K + c * b.dr) _ hb ih.ok
        refine ⟨b1.up (by rw [Nat.add_mul]; omega), b2.trans ih.tot, fun f => (b3 f).trans ((ih.du _).trans ?_)⟩
        rw [iterF_succ]
    obtain ⟨g1, g2, g3⟩ := fw_ok hs r (K + c * b.dr) _ hf.2 key.ok
    exact ⟨g1.up (by simp [Blk.dr]; omega), g2.trans key.tot, fun f => (g3 f).trans (key.du _)⟩
  | .cond a x y r, K, m, hf, h => by
    obtain ⟨h1, h2, h3⟩ := yes_ok (a := a) h
    obtain ⟨x1, x2, x3⟩ := fw_ok hs x K _ hf.2.2.1 h1
    obtain ⟨y1, y2, y3⟩ := fw_ok hs y K _ hf.2.2.2.1 h2
    have e : ((x.fw sh n (m.yes a)).ms.sum + (x.fw sh n (m.yes a)).d) + ((y.fw sh n (m.no a)).ms.sum + (y.fw sh n (m.no a)).d) = m.ms.sum + m.d := by
      rw [x2, y2]
      show (m.yes a).ms.sum + 0 + ((m.no a).ms.sum + m.d) = _
      grind
    obtain ⟨j1, j2, j3⟩ := join_ok (K := K + max x.dr y.dr) (x1.up (by omega)) (y1.up (by omega)) (by rw [e]; exact h.le)
    obtain ⟨g1, g2, g3⟩ := fw_ok hs r (K + max x.dr y.dr) _ hf.2.2.2.2 j1
    refine ⟨g1.up (by simp [Blk.dr]; omega), g2.trans (j2.trans e), fun f => (g3 f).trans ((j3 _).trans ?_)⟩
    rw [x3, y3]
    show dot (msk a.ev m.ms) _ + dot (msk (fun w => !a.ev w) m.ms) _ = _
    rw [dot_msk, dot_msk, ← dot_addf]
    refine dot_congr _ _ _ fun i _ => ?_
    simp only [Blk.E]
    cases a.ev i <;> simp <;> grind
end
end Lw

/-! M4 -/
set_option Elab.async false
set_option linter.all false
namespace Lw
/-! ### distances -/
def distL : List Rat → List Rat → List Rat
  | a :: p, b :: q => if b < a then (a - b) :: distL p q else distL p q
  | _, _ => []
def far (p q : List Rat) : Rat := (distL p q).sum
def whole (m : List Rat) : List Rat := m ++ [1 - m.sum]
theorem far_cons (a b : Rat) (p q : List Rat) : far (a :: p) (b :: q) = (if b < a then a - b else 0) + far p q := by
  unfold far
  rw [distL]
  split
  · simp
  · grind
theorem far_ge : ∀ (p q : List Rat) (f : Nat → Rat), p.length = q.length → Unit01 p.length f → dot p f - dot q f ≤ far p q
  | [], [], f, _, _ => by simp [dot, far, distL]; grind
  | a :: p, b :: q, f, h, hf => by
    have h1 := far_ge p q (fun i => f (i + 1)) (by simpa using h) fun w hw => hf (w + 1) (by simp; omega)
    have h2 := hf 0 (by simp)
    rw [far_cons, dot, dot]
    split
    · have := Rat.mul_le_mul_of_nonneg_left h2.2 (show 0 ≤ a - b by grind)
      grind
    · have := Rat.mul_nonneg h2.1 (show 0 ≤ b - a by grind)
      grind
def tell (p q : List Rat) (i : Nat) : Rat := if q.getD i 0 < p.getD i 0 then 1 else 0
theorem tell01 (p q : List Rat) (N : Nat) : Unit01 N (tell p q) := fun w _ => by
  unfold tell
  split <;> constructor <;> grind
theorem far_eq : ∀ (p q : List Rat), p.length = q.length → far p q = dot p (tell p q) - dot q (tell p q)
  | [], [], _ => by simp [dot, far, distL]; grind
  | a :: p, b :: q, h => by
    have h1 := far_eq p q (by simpa using h)
    rw [far_cons, dot, dot]
    have e : (fun i => tell (a :: p) (b :: q) (i + 1)) = tell p q := by funext i; simp [tell]
    rw [e, h1]
    have e0 : tell (a :: p) (b :: q) 0 = if b < a then 1 else 0 := by simp [tell]
    rw [e0]
    split <;> grind
theorem far_nn : ∀ (p q : List Rat), p.length = q.length → 0 ≤ far p q
  | [], [], _ => by simp [far, distL]
  | a :: p, b :: q, h => by
    have := far_nn p q (by simpa using h)
    rw [far_cons]
    split <;> grind
theorem far_tri : ∀ (a b c : List Rat), a.length = b.length → b.length = c.length → far a c ≤ far a b + far b c
  | [], [], [], _, _ => by simp [far, distL]; grind
  | x :: a, y :: b, z :: c, h, h2 => by
    have := far_tri a b c (by simpa using h) (by simpa using h2)
    rw [far_cons, far_cons, far_cons]
    split <;> split <;> split <;> grind
theorem far_le : ∀ (p q : List Rat), p.length = q.length → (∀ x ∈ p, 0 ≤ x) → (∀ x ∈ q, 0 ≤ x) → far p q ≤ p.sum
  | [], [], _, _, _ => by simp [far, distL]
  | a :: p, b :: q, h, hp, hq => by
    have := far_le p q (by simpa using h) (fun x hx => hp x (by simp [hx])) (fun x hx => hq x (by simp [hx]))
    have h1 := hp a (by simp)
    have h2 := hq b (by simp)
    rw [far_cons]
    simp only [List.sum_cons]
    split <;> grind
theorem far_le0 : ∀ (p q : List Rat), p.length = q.length → far p q = 0 → q.sum ≤ p.sum → p = q
  | [], [], _, _, _ => rfl
  | a :: p, b :: q, h, h0, hs => by
    have hn := far_nn p q (by simpa using h)
    rw [far_cons] at h0
    have key : ∀ (p q : List Rat), p.length = q.length → far p q = 0 → p.sum ≤ q.sum := by
      intro p
      induction p with
      | nil => intro q h _; cases q with
        | nil => simp
        | cons _ _ => simp at h
      | cons x p ih => intro q h h0; cases q with
        | nil => simp at h
        | cons y q =>
          have hn := far_nn p q (by simpa using h)
          rw [far_cons] at h0
          have h1 : far p q = 0 := by split at h0 <;> grind
          have := ih q (by simpa using h) h1
          simp only [List.sum_cons]
          split at h0 <;> grind
    have h1 : far p q = 0 := by split at h0 <;> grind
    have h2 := key p q (by simpa using h) h1
    simp only [List.sum_cons] at hs
    have h3 : ¬ b < a := by intro hb; rw [if_pos hb] at h0; grind
    have : a = b := by grind
    subst this
    rw [far_le0 p q (by simpa using h) h1 (by grind)]
theorem far_self : ∀ (p : List Rat), far p p = 0
  | [] => by simp [far, distL]
  | a :: p => by rw [far_cons, far_self p, if_neg (by grind)]; grind
theorem whole_sum (m : List Rat) : (whole m).sum = 1 := by
  unfold whole; rw [sum_app]; simp; grind
theorem whole_dot (m : List Rat) (f : Nat → Rat) : dot (whole m) f = dot m f + (1 - m.sum) * f m.length := by
  unfold whole; rw [dot_app]; simp [dot]; grind
/-- what leads from 0 to 1 and in order brings nothing farther -/
theorem far_less {N : Nat} {p q p' q' : List Rat} (hp : p.length = N) (hq : q.length = N) (hp' : p'.length = N) (hq' : q'.length = N) (T : (Nat → Rat) → Nat → Rat)
    (h01 : ∀ f, Unit01 N f → Unit01 N (T f)) (hm : ∀ f g, (∀ w, w < N → f w ≤ g w) → ∀ w, w < N → T f w ≤ T g w)
    (h1 : ∀ f, dot p' f = dot p (T f)) (h2 : ∀ f, dot q' f = dot q (T f)) : far (whole p') (whole q') ≤ far (whole p) (whole q) := by
  have hl : (whole p').length = (whole q').length := by simp [whole, hp', hq']
  have hl2 : (whole p).length = (whole q).length := by simp [whole, hp, hq]
  rw [far_eq _ _ hl]
  have g01 := tell01 (whole p') (whole q') (N + 1)
  have gN : tell (whole p') (whole q') N = 0 ∨ tell (whole p') (whole q') N = 1 := by
    unfold tell; split <;> simp
  generalize tell (whole p') (whole q') = g at g01 gN
  have gN01 := g01 N (by omega)
  have g01' : Unit01 N g := fun w hw => g01 w (by omega)
  have o01 : Unit01 N (fun _ => 1) := fun w hw => by constructor <;> grind
  have t1 := h01 g g01'
  have t2 := h01 _ o01
  have t3 := hm g (fun _ => 1) fun w hw => (g01' w hw).2
  have key : ∀ (m m' : List Rat), m.length = N → m'.length = N → (∀ f, dot m' f = dot m (T f)) → dot (whole m') g = dot (whole m) (fun w => if w < N then T g w + g N * (1 - T (fun _ => 1) w) else g N) := by
    intro m m' hm hm' h
    rw [whole_dot, whole_dot, hm, hm', if_neg (by omega)]
    have e1 : dot m (fun w => if w < N then T g w + g N * (1 - T (fun _ => 1) w) else g N) = dot m (fun w => T g w + (g N * 1 + (g N * -1) * T (fun _ => 1) w)) := dot_congr _ _ _ fun i hi => by
      rw [if_pos (by omega)]; grind
    rw [e1, dot_addf, dot_addf, dot_smul, dot_smul, dot_one, h g, ← dot_one m', h]
    grind
  rw [key p p' hp hp' h1, key q q' hq hq' h2]
  refine far_ge _ _ _ hl2 fun w hw => ?_
  have hw : w < N + 1 := by simpa [whole, hp] using hw
  split
  · rename_i hw
    have a1 := t1 w hw
    have a2 := t2 w hw
    have a3 := t3 w hw
    rcases gN with e | e <;> rw [e] <;> constructor <;> grind
  · exact gN01
theorem E_mono {n k : Nat} {sh : List Rat} (hs : ∀ q ∈ sh, 0 ≤ q ∧ q ≤ 1) : ∀ (b : Blk) (f g : Nat → Rat), b.fine n k → (∀ w, w < 2 ^ n → f w ≤ g w) → ∀ w, w < 2 ^ n → b.E sh f w ≤ b.E sh g w
  | .nil, f, g, _, hf => hf
  | .draw l s r, f, g, h, hf => fun w hw => by
    have h1 := E_mono hs r f g h.2.2 hf
    have h2 := getD01 sh hs s
    have a1 := Rat.mul_le_mul_of_nonneg_left (h1 _ (wl_lt true hw h.1)) h2.1
    have a2 := Rat.mul_le_mul_of_nonneg_left (h1 _ (wl_lt false hw h.1)) (show 0 ≤ 1 - sh.getD s 0 by grind)
    simp only [Blk.E]
    grind
  | .put l a r, f, g, h, hf => fun w hw => E_mono hs r f g h.2.2.2 hf _ (wl_lt _ hw h.1)
  | .see a r, f, g, h, hf => fun w hw => by
    simp only [Blk.E]
    split
    · exact E_mono hs r f g h.2.2 hf w hw
    · grind
  | .rounds m b r, f, g, h, hf => by
    have h1 := E_mono hs r f g h.2 hf
    simp only [Blk.E]
    generalize r.E sh f = f' at h1 ⊢
    generalize r.E sh g = g' at h1 ⊢
    induction m with
    | zero => exact h1
    | succ m ih => exact E_mono hs b _ _ h.1 (by simpa using ih ⟨h.1, h.2⟩)
  | .cond a x y r, f, g, h, hf => fun w hw => by
    have h1 := E_mono hs r f g h.2.2.2.2 hf
    simp only [Blk.E]
    split
    · exact E_mono hs x _ _ h.2.2.1 h1 w hw
    · exact E_mono hs y _ _ h.2.2.2.1 h1 w hw
end Lw

/-! M5 -/
set_option Elab.async false
set_option linter.all false
namespace Lw
/-! ### sums over places -/
def S (n : Nat) (f : Nat → Rat) : Rat := ((List.range n).map f).sum
@[simp] theorem S_0 (f : Nat → Rat) : S 0 f = 0 := rfl
theorem S_succ (n : Nat) (f : Nat → Rat) : S (n + 1) f = S n f + f n := by
  unfold S; rw [List.range_succ, List.map_append, sum_app]; simp; grind
theorem S_congr {n : Nat} {f g : Nat → Rat} (h : ∀ i < n, f i = g i) : S n f = S n g := by
  induction n with
  | zero => rfl
  | succ n ih => rw [S_succ, S_succ, ih fun i hi => h i (by omega), h n (by omega)]
theorem S_add (n : Nat) (f g : Nat → Rat) : S n (fun i => f i + g i) = S n f + S n g := by
  induction n with
  | zero => simp; grind
  | succ n ih => rw [S_succ, S_succ, S_succ, ih]; grind
theorem S_sub (n : Nat) (f g : Nat → Rat) : S n (fun i => f i - g i) = S n f - S n g := by
  induction n with
  | zero => simp; grind
  | succ n ih => rw [S_succ, S_succ, S_succ, ih]; grind
theorem S_zero (n : Nat) : S n (fun _ => 0) = 0 := by
  induction n with
  | zero => rfl
  | succ n ih => rw [S_succ, ih]; grind
def fup {α : Type} (f : Nat → α) (i : Nat) (x : α) : Nat → α := fun j => if j = i then x else f j
@[simp] theorem fup_same {α : Type} (f : Nat → α) (i : Nat) (x : α) : fup f i x i = x := by simp [fup]
theorem fup_ne {α : Type} {f : Nat → α} {i j : Nat} {x : α} (h : j ≠ i) : fup f i x j = f j := by simp [fup, h]
theorem S_fup {n i : Nat} {f : Nat → Rat} {x : Rat} (h : i < n) : S n (fup f i x) = S n f + (x - f i) := by
  induction n with
  | zero => omega
  | succ n ih =>
    rw [S_succ, S_succ]
    by_cases e : i = n
    · subst e
      rw [S_congr (g := f) fun j hj => fup_ne (by omega)]
      simp; grind
    · rw [ih (by omega), fup_ne (by omega)]; grind
theorem S_nn {n : Nat} {f : Nat → Rat} (h : ∀ i < n, 0 ≤ f i) : 0 ≤ S n f := by
  induction n with
  | zero => simp
  | succ n ih =>
    have := ih fun i hi => h i (by omega)
    have := h n (by omega)
    rw [S_succ]; grind
theorem S_le {n i : Nat} {f : Nat → Rat} (h : ∀ i < n, 0 ≤ f i) (hi : i < n) : f i ≤ S n f := by
  refine le_sum (fun q hq => ?_) (List.mem_map.mpr ⟨i, by simpa using hi, rfl⟩)
  obtain ⟨j, hj, rfl⟩ := List.mem_map.mp hq
  exact h j (by simpa using hj)
theorem S_mono {n : Nat} {f g : Nat → Rat} (h : ∀ i < n, f i ≤ g i) : S n f ≤ S n g := by
  have := S_nn (n := n) (f := fun i => g i - f i) fun i hi => by have := h i hi; grind
  rw [S_sub] at this; grind
theorem set_range {α : Type} {n i : Nat} (f : Nat → α) (x : α) : ((List.range n).map f).set i x = (List.range n).map (fup f i x) := by
  apply List.ext_getElem?
  intro j
  rw [List.getElem?_set]
  by_cases hj : j < n
  · by_cases e : i = j
    · subst e; simp [hj]
    · rw [if_neg e]; simp [hj, fup_ne (fun q => e q.symm)]
  · by_cases e : i = j
    · subst e; simp [hj]
    · rw [if_neg e]; simp [hj]
theorem range_getD (a : List Rat) : (List.range a.length).map (fun i => a.getD i 0) = a := by
  apply List.ext_getElem?
  intro j
  by_cases hj : j < a.length
  · simp [hj]
  · simp [hj]
theorem S_getD (a : List Rat) : S a.length (fun i => a.getD i 0) = a.sum := by unfold S; rw [range_getD]
/-! ### masses drawn together -/
structure Tb where
  F : Nat → Nat → Rat
  L : Nat → Rat
  K : Nat → Rat
def mn (a b : Rat) : Rat := if b < a then b else a
def Tb.step (e t : Nat) (s : Tb) : Tb :=
  if 0 < mn (s.L e) (s.K t) then ⟨fup s.F e (fup (s.F e) t (s.F e t + mn (s.L e) (s.K t))), fup s.L e (s.L e - mn (s.L e) (s.K t)), fup s.K t (s.K t - mn (s.L e) (s.K t))⟩ else s
def Tb.row (e : Nat) : Nat → Tb → Tb
  | 0, s => s
  | t + 1, s => (Tb.row e t s).step e t
def Tb.all (n : Nat) : Nat → Tb → Tb
  | 0, s => s
  | e + 1, s => Tb.row e n (Tb.all n e s)
structure Tb.Ok (n k : Nat) (p q : Nat → Rat) (s : Tb) : Prop where
  f : ∀ i < n, ∀ j < n, Ch k (s.F i j)
  l : ∀ i < n, Ch k (s.L i)
  k : ∀ i < n, Ch k (s.K i)
  row : ∀ i < n, S n (s.F i) + s.L i = p i
  col : ∀ j < n, S n (fun i => s.F i j) + s.K j = q j
  dia : ∀ i < n, s.F i i = mn (p i) (q i)
  lk : ∀ i < n, s.L i = 0 ∨ s.K i = 0
  sum : S n s.L = S n s.K
theorem mn_le (a b : Rat) : mn a b ≤ a ∧ mn a b ≤ b ∧ (mn a b = a ∨ mn a b = b) := by
  unfold mn; split <;> refine ⟨?_, ?_, ?_⟩ <;> grind
theorem Ch.mn {k : Nat} {a b : Rat} (ha : Ch k a) (hb : Ch k b) : Ch k (mn a b) := by unfold Lw.mn; split <;> assumption
section
variable {n k : Nat} {p q : Nat → Rat} {s : Tb}
theorem Tb.Ok.step (hp : ∀ i < n, p i ≤ 1) (h : s.Ok n k p q) {e t : Nat} (he : e < n) (ht : t < n) : (s.step e t).Ok n k p q ∧ (∀ i, i ≠ e → (s.step e t).L i = s.L i) ∧ (s.L e = 0 → (s.step e t).L e = 0) ∧
    (∀ j < n, s.K j = 0 → (s.step e t).K j = 0) ∧ ((s.step e t).L e = 0 ∨ (s.step e t).K t = 0) := by
  obtain ⟨m1, m2, m3⟩ := mn_le (s.L e) (s.K t)
  have le := h.l e he
  have kt := h.k t ht
  have mc := le.mn kt
  unfold Tb.step
  generalize hm : mn (s.L e) (s.K t) = m at m1 m2 m3 mc
  have le0 := le.nn
  have kt0 := kt.nn
  split
  · rename_i hm0
    have hne : e ≠ t := by
      intro z; subst z
      have := h.lk e he
      grind
    have hF : ∀ i j, fup s.F e (fup (s.F e) t (s.F e t + m)) i j = s.F i j + (if i = e ∧ j = t then m else 0) := by
      intro i j
      by_cases hi : i = e
      · subst hi
        by_cases hj : j = t
        · subst hj; simp
        · simp [fup, hj]; grind
      · simp [fup, hi]; grind
    have hrow : ∀ i < n, S n (fup s.F e (fup (s.F e) t (s.F e t + m)) i) + fup s.L e (s.L e - m) i = p i := by
      intro i hi
      have := h.row i hi
      by_cases z : i = e
      · subst z
        rw [fup_same, fup_same, S_fup ht]; grind
      · rw [fup_ne z, fup_ne z]; exact this
    have hf : ∀ i < n, ∀ j < n, Dv k (fup s.F e (fup (s.F e) t (s.F e t + m)) i j) ∧ 0 ≤ fup s.F e (fup (s.F e) t (s.F e t + m)) i j := by
      intro i hi j hj
      have := h.f i hi j hj
      have := this.nn
      rw [hF]
      split
      · exact ⟨(h.f i hi j hj).dv.add mc.dv, by have := mc.nn; grind⟩
      · exact ⟨(h.f i hi j hj).dv.add Dv.zero, by grind⟩
    have hl : ∀ i < n, Dv k (fup s.L e (s.L e - m) i) ∧ 0 ≤ fup s.L e (s.L e - m) i ∧ fup s.L e (s.L e - m) i ≤ 1 := by
      intro i hi
      by_cases z : i = e
      · subst z; rw [fup_same]; exact ⟨le.dv.sub mc.dv, by grind, by have := le.le; grind⟩
      · rw [fup_ne z]; exact ⟨(h.l i hi).dv, (h.l i hi).nn, (h.l i hi).le⟩
    refine ⟨⟨fun i hi j hj => ⟨(hf i hi j hj).1, (hf i hi j hj).2, ?_⟩, fun i hi => ⟨(hl i hi).1, (hl i hi).2.1, (hl i hi).2.2⟩, fun i hi => ?_, hrow, fun j hj => ?_, fun i hi => ?_, fun i hi => ?_, ?_⟩, fun i hi => fup_ne hi, fun z => ?_, fun j hj z => ?_, ?_⟩
    · have h1 := S_le (fun j hj => (hf i hi j hj).2) hj
      have h2 := hrow i hi
      have h3 := (hl i hi).2.1
      have h4 := hp i hi
      show fup s.F e (fup (s.F e) t (s.F e t + m)) i j ≤ 1
      grind
    · show Ch k (fup s.K t (s.K t - m) i)
      by_cases z : i = t
      · subst z; rw [fup_same]; exact ⟨kt.dv.sub mc.dv, by grind, by have := kt.le; grind⟩
      · rw [fup_ne z]; exact h.k i hi
    · have := h.col j hj
      show S n (fun i => fup s.F e (fup (s.F e) t (s.F e t + m)) i j) + fup s.K t (s.K t - m) j = q j
      rw [S_congr fun i _ => hF i j, S_add]
      by_cases z : j = t
      · subst z
        have e1 : S n (fun i => if i = e ∧ j = j then m else 0) = m := by
          rw [S_congr (g := fup (fun _ => 0) e m) fun i _ => by simp [fup], S_fup he, S_zero]; grind
        rw [e1, fup_same]; grind
      · have e1 : S n (fun i => if i = e ∧ j = t then m else 0) = 0 := by
          rw [S_congr (g := fun _ => 0) fun i _ => by simp [z], S_zero]
        rw [e1, fup_ne z]; grind
    · show fup s.F e (fup (s.F e) t (s.F e t + m)) i i = _
      rw [hF, if_neg (by omega), h.dia i hi]; grind
    · show fup s.L e (s.L e - m) i = 0 ∨ fup s.K t (s.K t - m) i = 0
      by_cases z : i = e
      · subst z
        rw [fup_ne (j := i) (i := t) hne]
        right
        have := h.lk i hi
        grind
      · rw [fup_ne z]
        by_cases z2 : i = t
        · subst z2
          left
          have := h.lk i hi
          grind
        · rw [fup_ne z2]; exact h.lk i hi
    · show S n (fup s.L e (s.L e - m)) = S n (fup s.K t (s.K t - m))
      rw [S_fup he, S_fup ht, h.sum]; grind
    · show fup s.L e (s.L e - m) e = 0
      rw [fup_same]; grind
    · show fup s.K t (s.K t - m) j = 0
      by_cases z2 : j = t
      · subst z2; rw [fup_same]; grind
      · rw [fup_ne z2]; exact z
    · show fup s.L e (s.L e - m) e = 0 ∨ fup s.K t (s.K t - m) t = 0
      rw [fup_same, fup_same]; grind
  · exact ⟨h, fun _ _ => rfl, fun z => z, fun _ _ z => z, by grind⟩
theorem Tb.Ok.rows (hp : ∀ i < n, p i ≤ 1) (h : s.Ok n k p q) {e : Nat} (he : e < n) : ∀ t, t ≤ n → (Tb.row e t s).Ok n k p q ∧ (∀ i, i ≠ e → (Tb.row e t s).L i = s.L i) ∧ ((Tb.row e t s).L e = 0 ∨ ∀ j < t, (Tb.row e t s).K j = 0)
  | 0, _ => ⟨h, fun _ _ => rfl, .inr fun _ hj => by omega⟩
  | t + 1, ht => by
    obtain ⟨h1, h2, h3⟩ := Tb.Ok.rows hp h he t (by omega)
    obtain ⟨g1, g2, g3, g4, g5⟩ := h1.step hp he (show t < n by omega)
    refine ⟨g1, fun i hi => (g2 i hi).trans (h2 i hi), ?_⟩
    rcases h3 with z | z
    · exact .inl (g3 z)
    · rcases g5 with y | y
      · exact .inl y
      · right
        intro j hj
        by_cases e : j = t
        · subst e; exact y
        · exact g4 j (by omega) (z j (by omega))
theorem S_0_all {f : Nat → Rat} (h : ∀ i < n, 0 ≤ f i) (h0 : S n f = 0) : ∀ i < n, f i = 0 := fun i hi => by
  have := S_le h hi
  have := h i hi
  grind
theorem Tb.Ok.full (hp : ∀ i < n, p i ≤ 1) (h : s.Ok n k p q) : ∀ e, e ≤ n → (Tb.all n e s).Ok n k p q ∧ ∀ i < e, (Tb.all n e s).L i = 0
  | 0, _ => ⟨h, fun _ hi => by omega⟩
  | e + 1, he => by
    obtain ⟨h1, h2⟩ := Tb.Ok.full hp h e (by omega)
    obtain ⟨g1, g2, g3⟩ := h1.rows hp (show e < n by omega) n (Nat.le_refl n)
    refine ⟨g1, fun i hi => ?_⟩
    by_cases z : i = e
    · subst z
      rcases g3 with y | y
      · exact y
      · have : S n (Tb.row i n (Tb.all n i s)).L = 0 := by
          rw [g1.sum, S_congr (g := fun _ => 0) y, S_zero]
        exact S_0_all (fun j hj => (g1.l j hj).nn) this i (by omega)
    · exact (g2 i z).trans (h2 i (by omega))
/-- the start: what is common on the diagonal -/
def Tb.start (p q : Nat → Rat) : Tb := ⟨fun i j => if i = j then mn (p i) (q i) else 0, fun i => p i - mn (p i) (q i), fun i => q i - mn (p i) (q i)⟩
theorem Tb.start_ok (hp : ∀ i < n, Ch k (p i)) (hq : ∀ i < n, Ch k (q i)) (hs : S n p = S n q) : (Tb.start p q).Ok n k p q where
  f := fun i hi j hj => by
    show Ch k (if i = j then mn (p i) (q i) else 0)
    split
    · exact (hp i hi).mn (hq i hi)
    · exact ⟨Dv.zero, by grind, by grind⟩
  l := fun i hi => by
    have h1 := (hp i hi).mn (hq i hi)
    have h2 := mn_le (p i) (q i)
    have h3 := (hp i hi)
    exact ⟨h3.dv.sub h1.dv, by show 0 ≤ p i - mn (p i) (q i); grind, by show p i - mn (p i) (q i) ≤ 1; have := h3.le; have := h1.nn; grind⟩
  k := fun i hi => by
    have h1 := (hp i hi).mn (hq i hi)
    have h2 := mn_le (p i) (q i)
    have h3 := (hq i hi)
    exact ⟨h3.dv.sub h1.dv, by show 0 ≤ q i - mn (p i) (q i); grind, by show q i - mn (p i) (q i) ≤ 1; have := h3.le; have := h1.nn; grind⟩
  row := fun i hi => by
    show S n (fun j => if i = j then mn (p i) (q i) else 0) + (p i - mn (p i) (q i)) = p i
    rw [S_congr (g := fup (fun _ => 0) i (mn (p i) (q i))) fun j _ => by simp [fup, eq_comm], S_fup hi, S_zero]; grind
  col := fun j hj => by
    show S n (fun i => if i = j then mn (p i) (q i) else 0) + (q j - mn (p j) (q j)) = q j
    rw [S_congr (g := fup (fun _ => 0) j (mn (p j) (q j))) fun i _ => by unfold fup; split <;> simp_all, S_fup hj, S_zero]; grind
  dia := fun i hi => by simp [Tb.start]
  lk := fun i hi => by
    have h2 := mn_le (p i) (q i)
    show p i - mn (p i) (q i) = 0 ∨ q i - mn (p i) (q i) = 0
    grind
  sum := by
    show S n (fun i => p i - mn (p i) (q i)) = S n (fun i => q i - mn (p i) (q i))
    rw [S_sub, S_sub, hs]
/-- the table: its rows, its columns, its diagonal -/
theorem Tb.end_ok (hp : ∀ i < n, Ch k (p i)) (hq : ∀ i < n, Ch k (q i)) (hs : S n p = S n q) : ∀ s, s = Tb.all n n (Tb.start p q) → (∀ i < n, ∀ j < n, Ch k (s.F i j)) ∧ (∀ i < n, S n (s.F i) = p i) ∧ (∀ j < n, S n (fun i => s.F i j) = q j) ∧ (∀ i < n, s.F i i = mn (p i) (q i)) := by
  rintro s rfl
  obtain ⟨h1, h2⟩ := (Tb.start_ok hp hq hs).full (fun i hi => (hp i hi).le) n (Nat.le_refl n)
  generalize Tb.all n n (Tb.start p q) = s at h1 h2
  have hk : ∀ j < n, s.K j = 0 := S_0_all (fun j hj => (h1.k j hj).nn) (by rw [← h1.sum, S_congr (g := fun _ => 0) h2, S_zero])
  refine ⟨h1.f, fun i hi => ?_, fun j hj => ?_, h1.dia⟩
  · have := h1.row i hi
    rw [h2 i hi] at this; grind
  · have := h1.col j hj
    rw [hk j hj] at this; grind
end
/-- how much is off the diagonal -/
theorem far_S : ∀ (p q : List Rat), p.length = q.length → far p q = S p.length (fun i => p.getD i 0 - mn (p.getD i 0) (q.getD i 0)) := by
  intro p
  induction p with
  | nil => intro q _; cases q <;> simp [far, distL]
  | cons a p ih =>
    intro q h
    cases q with
    | nil => simp at h
    | cons b q =>
      rw [far_cons, ih q (by simpa using h)]
      have : ∀ (n : Nat) (f : Nat → Rat), S (n + 1) f = f 0 + S n (fun i => f (i + 1)) := by
        intro n f
        unfold S
        rw [List.range_succ_eq_map, List.map_cons, List.sum_cons, List.map_map]; rfl
      rw [List.length_cons, this]
      simp only [List.getD_cons_zero, List.getD_cons_succ, mn]
      split <;> grind
end Lw

/-! M6 -/
set_option Elab.async false
set_option linter.all false
namespace Lw
/-! ### the tree of draws -/
inductive Tr where
  | leaf (w : Option Nat)
  | node (s : Nat) (f t : Tr)
def Blk.tr : Blk → (Nat → Tr) → Nat → Tr
  | .nil, k => k
  | .draw l s r, k => fun w => .node s (r.tr k (wl w l false)) (r.tr k (wl w l true))
  | .put l a r, k => fun w => r.tr k (wl w l (a.ev w))
  | .see a r, k => fun w => if a.ev w then r.tr k w else .leaf none
  | .rounds n b r, k => iterF b.tr n (r.tr k)
  | .cond a x y r, k => fun w => if a.ev w then x.tr (r.tr k) w else y.tr (r.tr k) w
def Stm.tr : Stm → (Nat → Tr) → Nat → Tr
  | .draw l s, k => fun w => .node s (k (wl w l false)) (k (wl w l true))
  | .put l a, k => fun w => k (wl w l (a.ev w))
  | .see a, k => fun w => if a.ev w then k w else .leaf none
  | .rounds n b, k => iterF b.tr n k
  | .cond a x y, k => fun w => if a.ev w then x.tr k w else y.tr k w
@[simp] theorem on_tr (s : Stm) (r : Blk) (k : Nat → Tr) : (s.on r).tr k = s.tr (r.tr k) := by cases s <;> rfl
/-- the mean at the leaves -/
def Tr.val (sh : List Rat) (f : Nat → Rat) : Tr → Rat
  | .leaf none => 0
  | .leaf (some w) => f w
  | .node s a b => sh.getD s 0 * b.val sh f + (1 - sh.getD s 0) * a.val sh f
theorem val_tr (sh : List Rat) (f : Nat → Rat) : ∀ (b : Blk) (k : Nat → Tr) (w : Nat), (b.tr k w).val sh f = b.E sh (fun w => (k w).val sh f) w
  | .nil, k, w => rfl
  | .draw l s r, k, w => by simp only [Blk.tr, Tr.val, Blk.E, val_tr sh f r]
  | .put l a r, k, w => by simp only [Blk.tr, Blk.E, val_tr sh f r]
  | .see a r, k, w => by
    simp only [Blk.tr, Blk.E]
    split
    · exact val_tr sh f r k w
    · rfl
  | .rounds n b r, k, w => by
    simp only [Blk.tr, Blk.E]
    have h1 : (fun w => (r.tr k w).val sh f) = r.E sh (fun w => (k w).val sh f) := funext fun w => val_tr sh f r k w
    rw [← h1]
    generalize r.tr k = g
    clear h1
    induction n generalizing w with
    | zero => rfl
    | succ n ih =>
      simp only [iterF]
      rw [val_tr sh f b]
      congr 1
      funext w
      exact ih w
  | .cond a x y r, k, w => by
    simp only [Blk.tr, Blk.E]
    have h1 : (fun w => (r.tr k w).val sh f) = r.E sh (fun w => (k w).val sh f) := funext fun w => val_tr sh f r k w
    split
    · rw [val_tr sh f x, h1]
    · rw [val_tr sh f y, h1]
/-- gone through by flags: the pairs that were drawn, the flags that are left, the subtree -/
def Tr.go : Tr → List Bool → List (Nat × Bool) × List Bool × Tr
  | .leaf w, fs => ([], fs, .leaf w)
  | .node s a b, [] => ([], [], .node s a b)
  | .node s a b, f :: fs => let z := (if f then b else a).go fs; ((s, f) :: z.1, z.2)
/-- the rows of a tree, as the law tells them -/
structure LRow where
  flags : List Bool
  w : Option Nat
  ps : List (Nat × Bool)
def Tr.rows : Tr → List Bool → List (Nat × Bool) → List LRow
  | .leaf w, fs, ps => [⟨fs, w, ps⟩]
  | .node s a b, fs, ps => a.rows (fs ++ [false]) (ps ++ [(s, false)]) ++ b.rows (fs ++ [true]) (ps ++ [(s, true)])
def Tr.size : Tr → Nat
  | .leaf _ => 1
  | .node _ a b => 1 + a.size + b.size
def Tr.deep : Tr → Nat
  | .leaf _ => 0
  | .node _ a b => 1 + max a.deep b.deep
theorem Tr.size_le : ∀ t : Tr, t.size + 1 ≤ 2 ^ (t.deep + 1)
  | .leaf _ => by simp [Tr.size, Tr.deep]
  | .node s a b => by
    have h1 := Tr.size_le a
    have h2 := Tr.size_le b
    have e1 : 2 ^ (a.deep + 1) ≤ 2 ^ (max a.deep b.deep + 1) := Nat.pow_le_pow_right (by decide) (by omega)
    have e2 : 2 ^ (b.deep + 1) ≤ 2 ^ (max a.deep b.deep + 1) := Nat.pow_le_pow_right (by decide) (by omega)
    have e3 : 2 ^ (1 + max a.deep b.deep + 1) = 2 * 2 ^ (max a.deep b.deep + 1) := by rw [← Nat.pow_succ']; congr 1; omega
    simp only [Tr.size, Tr.deep, e3]
    omega
theorem iter_deep {b : (Nat → Tr) → Nat → Tr} {d : Nat} (hb : ∀ (k : Nat → Tr) (j : Nat), (∀ w, (k w).deep ≤ j) → ∀ w, (b k w).deep ≤ d + j) : ∀ (n : Nat) (k : Nat → Tr) (j : Nat), (∀ w, (k w).deep ≤ j) → ∀ w, (iterF b n k w).deep ≤ n * d + j
  | 0, k, j, h, w => by simpa [iterF] using h w
  | n + 1, k, j, h, w => by
    have := hb _ _ (iter_deep hb n k j h) w
    rw [Nat.add_mul]; simp only [iterF]; omega
theorem tr_deep : ∀ (b : Blk) (k : Nat → Tr) (j : Nat), (∀ w, (k w).deep ≤ j) → ∀ w, (b.tr k w).deep ≤ b.dr + j
  | .nil, k, j, h, w => by simpa [Blk.tr, Blk.dr] using h w
  | .draw l s r, k, j, h, w => by
    have h1 := tr_deep r k j h (wl w l false)
    have h2 := tr_deep r k j h (wl w l true)
    simp only [Blk.tr, Tr.deep, Blk.dr]; omega
  | .put l a r, k, j, h, w => tr_deep r k j h _
  | .see a r, k, j, h, w => by
    simp only [Blk.tr, Blk.dr]
    split
    · exact tr_deep r k j h w
    · simp [Tr.deep]
  | .rounds n b r, k, j, h, w => by
    have := iter_deep (tr_deep b) n _ _ (tr_deep r k j h) w
    simp only [Blk.tr, Blk.dr]; omega
  | .cond a x y r, k, j, h, w => by
    simp only [Blk.tr, Blk.dr]
    split
    · have := tr_deep x _ _ (tr_deep r k j h) w; omega
    · have := tr_deep y _ _ (tr_deep r k j h) w; omega
/-- the rows have pairs as long as the tree is deep -/
theorem rows_len : ∀ (t : Tr) (fs : List Bool) (ps : List (Nat × Bool)), ∀ r ∈ t.rows fs ps, r.ps.length ≤ ps.length + t.deep ∧ r.flags.length ≤ fs.length + t.deep
  | .leaf w, fs, ps, r, h => by simp [Tr.rows] at h; subst h; simp
  | .node s a b, fs, ps, r, h => by
    simp only [Tr.rows, List.mem_append] at h
    simp only [Tr.deep]
    rcases h with h | h
    · have := rows_len a _ _ r h; simp at this; omega
    · have := rows_len b _ _ r h; simp at this; omega
/-! the chance of drawn pairs -/
def chance (sh : List Rat) : List (Nat × Bool) → Rat
  | [] => 1
  | (s, f) :: r => (if f then sh.getD s 0 else 1 - sh.getD s 0) * chance sh r
theorem chance_app (sh : List Rat) : ∀ (a b : List (Nat × Bool)), chance sh (a ++ b) = chance sh a * chance sh b
  | [], b => by simp [chance]
  | (s, f) :: a, b => by simp only [List.cons_append, chance, chance_app sh a]; grind
theorem chance_ok {sh : List Rat} (h : ShOk sh) : ∀ ps : List (Nat × Bool), Ch ps.length (chance sh ps)
  | [] => ⟨Dv.one, by show (0:Rat) ≤ 1; grind, by show (1:Rat) ≤ 1; grind⟩
  | (s, f) :: r => by
    have h1 := h.getD s
    have h2 := chance_ok h r
    have h3 : Ch 1 (if f then sh.getD s 0 else 1 - sh.getD s 0) := by
      cases f
      · exact ⟨Dv.one.sub h1.dv, by have := h1.le; show 0 ≤ 1 - sh.getD s 0; grind, by have := h1.nn; show 1 - sh.getD s 0 ≤ 1; grind⟩
      · exact h1
    refine ⟨(h3.dv.mul h2.dv).up (by simp; omega), Rat.mul_nonneg h3.nn h2.nn, ?_⟩
    have := Rat.mul_le_mul_of_nonneg_left h2.le h3.nn
    have := h3.le
    simp only [chance]; grind
/-- what a row gives to a test -/
def LRow.val (sh : List Rat) (f : Nat → Rat) (r : LRow) : Rat := match r.w with
  | none => 0
  | some w => chance sh r.ps * f w
theorem rows_val (sh : List Rat) (f : Nat → Rat) : ∀ (t : Tr) (fs : List Bool) (ps : List (Nat × Bool)), ((t.rows fs ps).map (LRow.val sh f)).sum = chance sh ps * t.val sh f
  | .leaf none, fs, ps => by simp [Tr.rows, LRow.val, Tr.val]; grind
  | .leaf (some w), fs, ps => by simp [Tr.rows, LRow.val, Tr.val]; grind
  | .node s a b, fs, ps => by
    simp only [Tr.rows, List.map_append, sum_app, rows_val sh f a, rows_val sh f b, chance_app, chance, Tr.val]
    simp; grind
/-- worlds at the leaves -/
def Tr.In (N : Nat) : Tr → Prop
  | .leaf none => True
  | .leaf (some w) => w < N
  | .node _ a b => a.In N ∧ b.In N
theorem rows_in {N : Nat} : ∀ (t : Tr) (fs : List Bool) (ps : List (Nat × Bool)), t.In N → ∀ r ∈ t.rows fs ps, ∀ w, r.w = some w → w < N
  | .leaf o, fs, ps, h, r, hr, w, e => by
    simp [Tr.rows] at hr; subst hr
    simp at e; subst e; exact h
  | .node s a b, fs, ps, h, r, hr, w, e => by
    simp only [Tr.rows, List.mem_append] at hr
    rcases hr with hr | hr
    · exact rows_in a _ _ h.1 r hr w e
    · exact rows_in b _ _ h.2 r hr w e
theorem tr_in {n k : Nat} : ∀ (b : Blk) (g : Nat → Tr), b.fine n k → (∀ w, w < 2 ^ n → (g w).In (2 ^ n)) → ∀ w, w < 2 ^ n → (b.tr g w).In (2 ^ n)
  | .nil, g, _, h, w, hw => h w hw
  | .draw l s r, g, hf, h, w, hw => ⟨tr_in r g hf.2.2 h _ (wl_lt false hw hf.1), tr_in r g hf.2.2 h _ (wl_lt true hw hf.1)⟩
  | .put l a r, g, hf, h, w, hw => tr_in r g hf.2.2.2 h _ (wl_lt _ hw hf.1)
  | .see a r, g, hf, h, w, hw => by
    simp only [Blk.tr]
    split
    · exact tr_in r g hf.2.2 h w hw
    · exact trivial
  | .rounds m b r, g, hf, h, w, hw => by
    simp only [Blk.tr]
    have h1 := tr_in r g hf.2 h
    generalize r.tr g = g' at h1
    have : ∀ m, ∀ w, w < 2 ^ n → (iterF b.tr m g' w).In (2 ^ n) := by
      intro m
      induction m with
      | zero => exact h1
      | succ m ih => exact tr_in b _ hf.1 ih
    exact this m w hw
  | .cond a x y r, g, hf, h, w, hw => by
    have h1 := tr_in r g hf.2.2.2.2 h
    simp only [Blk.tr]
    split
    · exact tr_in x _ hf.2.2.1 h1 w hw
    · exact tr_in y _ hf.2.2.2.1 h1 w hw
/-! the masses of rows -/
def massL : List Rat → List (Option Nat × Rat) → List Rat
  | m, [] => m
  | m, (none, _) :: r => massL m r
  | m, (some w, c) :: r => massL (m.set w (m.getD w 0 + c)) r
def LRow.pr (sh : List Rat) (r : LRow) : Option Nat × Rat := (r.w, chance sh r.ps)
theorem massL_dot (f : Nat → Rat) : ∀ (rs : List (Option Nat × Rat)) (m : List Rat), (∀ r ∈ rs, ∀ w, r.1 = some w → w < m.length) → dot (massL m rs) f = dot m f + (rs.map fun r => match r.1 with | none => 0 | some w => r.2 * f w).sum
  | [], m, _ => by simp [massL]; grind
  | (none, c) :: r, m, h => by
    rw [massL, massL_dot f r m fun x hx => h x (by simp [hx])]
    simp; grind
  | (some w, c) :: r, m, h => by
    have hw : w < m.length := h (some w, c) (by simp) w rfl
    rw [massL, massL_dot f r _ fun x hx => by simpa using h x (by simp [hx]), dot_set _ _ _ _ hw]
    have : m.getD w 0 = m[w] := by simp [hw]
    rw [this]
    simp; grind
theorem massL_len : ∀ (rs : List (Option Nat × Rat)) (m : List Rat), (massL m rs).length = m.length
  | [], m => rfl
  | (none, c) :: r, m => by rw [massL, massL_len r]
  | (some w, c) :: r, m => by rw [massL, massL_len r]; simp
/-- rows are equal where all tests tell so -/
theorem dot_ext {a b : List Rat} (hl : a.length = b.length) (h : ∀ f, dot a f = dot b f) : a = b := by
  refine List.ext_getElem hl fun i h1 h2 => ?_
  rw [← dot_dl a i h1, ← dot_dl b i h2, h]
/-- the masses of a program -/
def Prg.ms (sh : List Rat) (n : Nat) (b : Blk) : Ms := b.fw sh n ⟨(List.range (2 ^ n)).map (fun i => if i = 0 then 1 else 0), 0, 0⟩
theorem start_dot (f : Nat → Rat) : ∀ (N : Nat), 0 < N → dot ((List.range N).map (fun i => if i = 0 then (1 : Rat) else 0)) f = f 0 := by
  intro N hN
  obtain ⟨M, rfl⟩ : ∃ M, N = M + 1 := ⟨N - 1, by omega⟩
  rw [List.range_succ_eq_map, List.map_cons, List.map_map, dot]
  have : (fun i => if i = 0 then (1 : Rat) else 0) ∘ Nat.succ = fun _ => 0 := by funext i; simp
  rw [this, List.map_const', dot_rep0]
  simp; grind
theorem start_ok (n : Nat) : (Ms.mk ((List.range (2 ^ n)).map (fun i => if i = 0 then (1 : Rat) else 0)) 0 0).Ok (2 ^ n) 0 := by
  have hp : 0 < 2 ^ n := Nat.two_pow_pos n
  refine ⟨by simp, fun q hq => ?_, Dv.zero, by show (0 : Rat) ≤ 0; grind, ?_, rfl⟩
  · obtain ⟨i, _, rfl⟩ := List.mem_map.mp hq
    split
    · exact ⟨Dv.one, by grind⟩
    · exact ⟨Dv.zero, by grind⟩
  · show ((List.range (2 ^ n)).map (fun i => if i = 0 then (1 : Rat) else 0)).sum + 0 ≤ 1
    rw [← dot_one, start_dot _ _ hp]; grind
structure MsOk (sh : List Rat) (n : Nat) (b : Blk) : Prop where
  ok : (Prg.ms sh n b).Ok (2 ^ n) b.dr
  tot : (Prg.ms sh n b).ms.sum + (Prg.ms sh n b).d = 1
  du : ∀ f, dot (Prg.ms sh n b).ms f = b.E sh f 0
theorem ms_ok {sh : List Rat} {n k : Nat} {b : Blk} (hs : ShOk sh) (hf : b.fine n k) : MsOk sh n b := by
  have hp : 0 < 2 ^ n := Nat.two_pow_pos n
  obtain ⟨h1, h2, h3⟩ := fw_ok hs b 0 _ hf (start_ok n)
  refine ⟨by rw [Nat.zero_add] at h1; exact h1, h2.trans ?_, fun f => (h3 f).trans (start_dot _ _ hp)⟩
  show ((List.range (2 ^ n)).map (fun i => if i = 0 then (1 : Rat) else 0)).sum + 0 = 1
  rw [← dot_one, start_dot _ _ hp]; grind
/-- the law's masses are those led forward -/
theorem law_ms {sh : List Rat} {n k : Nat} {b : Blk} (hs : ShOk sh) (hf : b.fine n k) : massL (List.replicate (2 ^ n) 0) (((b.tr (fun w => .leaf (some w)) 0).rows [] []).map (LRow.pr sh)) = (Prg.ms sh n b).ms := by
  have h := ms_ok hs hf
  refine dot_ext (by rw [massL_len]; simp [h.ok.len]) fun f => ?_
  rw [h.du, massL_dot]
  · have e : ((((b.tr (fun w => .leaf (some w)) 0).rows [] []).map (LRow.pr sh)).map fun r => match r.1 with | none => 0 | some w => r.2 * f w) = ((b.tr (fun w => .leaf (some w)) 0).rows [] []).map (LRow.val sh f) := by
      rw [List.map_map]
      refine List.map_congr_left fun r _ => ?_
      simp only [Function.comp, LRow.pr, LRow.val]

    rw [e, rows_val, val_tr, dot_rep0]
    simp only [chance, Tr.val]
    rw [Rat.one_mul, Rat.zero_add]
  · intro r hr w e
    obtain ⟨x, hx, rfl⟩ := List.mem_map.mp hr
    simpa using rows_in _ _ _ (tr_in b (fun w => .leaf (some w)) hf (fun w (hw : w < 2 ^ n) => (show Tr.In (2 ^ n) (.leaf (some w)) from hw)) 0 (Nat.two_pow_pos n)) x hx w e
end Lw

/-! Fw14 -/
set_option Elab.async false
set_option linter.all false
set_option maxRecDepth 100000
set_option maxHeartbeats 4000000
namespace Fw
open PySem PySem.Spec PyProof.Rows L2
@[simp] theorem a_fld (C : Addr) (f : Str) (m : M D) (e : Fw.Env) : mFld C f m e = (m e).bind fun p => (fldD C f p.1).map fun z => (z, p.2) := by
  unfold mFld; simp only [a_bind, a_opt]
@[simp] theorem a_rec (C : Addr) (f : Str) (m : M D) (e : Fw.Env) : mRec C f m e = (m e).bind fun p => (recO C f p.1).map fun z => (z, p.2) := by
  unfold mRec; simp only [a_bind, a_opt]
theorem cut_lo {α : Type} (xs : List α) (j : Nat) : Fw.cutD xs (some (j : Int)) none = xs.drop j := by
  unfold Fw.cutD
  have h1 : HT.sIx xs.length 0 (some (j : Int)) = min j xs.length := HT.sIx_nat _ _ j
  have h2 : HT.sIx xs.length xs.length none = xs.length := rfl
  rw [h1, h2]
  by_cases h : j ≤ xs.length
  · rw [Nat.min_eq_left h, List.take_of_length_le (by simp)]
  · rw [Nat.min_eq_right (by omega), List.drop_of_length_le (Nat.le_refl _), List.drop_of_length_le (by omega), List.take_nil]
theorem cut_hi {α : Type} (xs : List α) (j : Nat) : Fw.cutD xs none (some (j : Int)) = xs.take j := by
  unfold Fw.cutD
  have h1 : HT.sIx xs.length xs.length (some (j : Int)) = min j xs.length := HT.sIx_nat _ _ j
  have h2 : HT.sIx xs.length 0 none = 0 := rfl
  rw [h1, h2, List.drop_zero, Nat.sub_zero]
  by_cases h : j ≤ xs.length
  · rw [Nat.min_eq_left h]
  · rw [Nat.min_eq_right (by omega), List.take_of_length_le (Nat.le_refl _), List.take_of_length_le (by omega)]
def partK : D × Fw.Env → Option (Option Int × Fw.Env)
  | (.int i, e) => some (some i, e)
  | _ => none
@[simp] theorem partK_i (i : Int) (e : Fw.Env) : partK (.int i, e) = some (some i, e) := rfl
@[simp] theorem a_part (m : M D) (e : Fw.Env) : mPart m e = (m e).bind partK := by
  unfold mPart
  rw [a_bind]
  cases m e with
  | none => rfl
  | some p =>
    obtain ⟨d, e1⟩ := p
    cases d <;> rfl
/-! comprehensions over told lists -/
theorem loopC_list {α : Type} {vs : List Nat} {g : G} {c : M Bool} {el : M T} (dd : α → D) (val : α → Option T) (I : Fw.Env → Prop) : ∀ (xs : List α) (acc : List T) (e : Fw.Env), I (wipeE e vs) →
    (∀ x ∈ xs, ∀ e, I e → ∃ e2, stepC g c el (dd x) e = some (val x, e2) ∧ I (wipeE e2 vs) ∧ vs.all (fzOk e2) = true) → acc.length + xs.length ≤ sizeLine → ∃ e3, I (wipeE e3 vs) ∧ loopC vs g c el (xs.map dd) acc e = some (acc ++ xs.filterMap val, e3)
  | [], acc, e, h0, _, _ => ⟨e, h0, by simp [loopC]⟩
  | x :: xs, acc, e, h0, hs, hl => by
    obtain ⟨e2, h1, h2, h3⟩ := hs x (by simp) _ h0
    simp only [List.length_cons] at hl
    unfold stepC at h1
    obtain ⟨e1, g1, h1⟩ := Option.bind_eq_some_iff.mp h1
    obtain ⟨⟨b, e4⟩, g2, h1⟩ := Option.bind_eq_some_iff.mp h1
    cases b with
    | true =>
      simp only [if_true] at h1
      obtain ⟨⟨t, e5⟩, g3, h1⟩ := Option.map_eq_some_iff.mp h1
      simp only [Prod.mk.injEq] at h1
      obtain ⟨h4, rfl⟩ := h1
      obtain ⟨e3, h5, h6⟩ := loopC_list dd val I xs (acc ++ [t]) e5 h2 (fun d hd => hs d (by simp [hd])) (by simp; omega)
      refine ⟨e3, h5, ?_⟩
      simp only [List.map_cons, loopC, g1, g2, g3]
      rw [if_pos ⟨by omega, h3⟩, h6]
      simp [← h4]
    | false =>
      simp only [Bool.false_eq_true, if_false, Option.some.injEq, Prod.mk.injEq] at h1
      obtain ⟨h4, rfl⟩ := h1
      obtain ⟨e3, h5, h6⟩ := loopC_list dd val I xs acc e4 h2 (fun d hd => hs d (by simp [hd])) (by omega)
      refine ⟨e3, h5, ?_⟩
      simp only [List.map_cons, loopC, g1, g2]
      rw [if_pos h3, h6]
      simp [← h4]
theorem lc_listI {α : Type} {vs : List Nat} {m : M (List D)} {g : G} {c : M Bool} {el : M T} {e e1 : Fw.Env} {xs : List α} (dd : α → D) (val : α → Option T) (I : Fw.Env → Prop) (hm : m e = some (xs.map dd, e1)) (hv : vs.all (fzOk e1) = true) (h0 : I (wipeE e1 vs))
    (hs : ∀ x ∈ xs, ∀ e, I e → ∃ e2, stepC g c el (dd x) e = some (val x, e2) ∧ I (wipeE e2 vs) ∧ vs.all (fzOk e2) = true) (hl : xs.length ≤ sizeLine) : ∃ e3, I e3 ∧ mLc vs m g c el e = some (.lst (xs.filterMap val), restE e1 vs e3) := by
  obtain ⟨e3, h1, h2⟩ := loopC_list (acc := []) dd val I xs e1 h0 hs (by simpa using hl)
  refine ⟨wipeE e3 vs, h1, ?_⟩
  unfold mLc
  rw [hm]
  simp only [hv, if_true, h2]
  simp
theorem lc_list {α : Type} {vs : List Nat} {m : M (List D)} {g : G} {c : M Bool} {el : M T} {e e1 : Fw.Env} {xs : List α} (dd : α → D) (val : α → Option T) (hm : m e = some (xs.map dd, e1)) (hv : vs.all (fzOk e1) = true)
    (hs : ∀ x ∈ xs, ∃ e2, stepC g c el (dd x) (wipeE e1 vs) = some (val x, e2) ∧ wipeE e2 vs = wipeE e1 vs ∧ vs.all (fzOk e2) = true) (hl : xs.length ≤ sizeLine) : mLc vs m g c el e = some (.lst (xs.filterMap val), restE e1 vs (wipeE e1 vs)) := by
  obtain ⟨e3, h1, h2⟩ := lc_listI dd val (fun e => e = wipeE e1 vs) hm hv rfl (fun d hd e he => by subst he; exact hs d hd) hl
  rw [h2, h1]
/-- all taken -/
theorem lc_map {α : Type} {vs : List Nat} {m : M (List D)} {g : G} {c : M Bool} {el : M T} {e e1 : Fw.Env} {xs : List α} (dd : α → D) (val : α → T) (hm : m e = some (xs.map dd, e1)) (hv : vs.all (fzOk e1) = true)
    (hs : ∀ x ∈ xs, ∃ e2, stepC g c el (dd x) (wipeE e1 vs) = some (some (val x), e2) ∧ wipeE e2 vs = wipeE e1 vs ∧ vs.all (fzOk e2) = true) (hl : xs.length ≤ sizeLine) : mLc vs m g c el e = some (.lst (xs.map val), restE e1 vs (wipeE e1 vs)) := by
  rw [lc_list dd (fun x => some (val x)) hm hv hs hl, fm_some]
end Fw

/-! P12 -/
set_option Elab.async false
set_option linter.all false
set_option maxRecDepth 100000
set_option maxHeartbeats 4000000
set_option exponentiation.threshold 100000
namespace Lw
open PySem PySem.Spec PyProof.Rows L2 Fw
def ledD (K : PySem.W.Frag) (n : Nat) (sh : List Rat) : D := .obj (He.ga K "Led") ["letters", "shares", "many"] [.int (n : Int), .tup (sh.map fr), .int ((2 ^ n : Nat) : Int)]
section
variable (K : PySem.W.Frag) (n : Nat) (sh : List Rat)
theorem led_many : fldD (He.ga K "Led") "many" (ledD K n sh) = some (.int ((2 ^ n : Nat) : Int)) := by simp [ledD, fldD, fldO, ofs_inj]
@[simp] theorem led_shares : fldD (He.ga K "Led") "shares" (ledD K n sh) = some (.tup (sh.map fr)) := by simp [ledD, fldD, fldO, ofs_inj]
@[simp] theorem led_rec (m : String) (h : m ≠ "letters" ∧ m ≠ "shares" ∧ m ≠ "many" := by decide) : recO (He.ga K "Led") (Str.ofString m) (ledD K n sh) = some (ledD K n sh) := by simp [ledD, recO, ofs_inj, h]
end
def fz (q : Rat) : T := .fz (fr q)
@[simp] theorem fz_d : (T.d ∘ fz) = fr := by funext q; simp [fz]
@[simp] theorem fz_d' (q : Rat) : (fz q).d = fr q := by simp [fz]
def Ms.row (m : Ms) : List Rat := m.ms ++ [m.d, m.l]
def Ms.D (m : Ms) : D := .lst (m.row.map fr)
def Ms.T (m : Ms) : T := .lst (m.row.map fz)
@[simp] theorem ms_td (m : Ms) : m.T.d = m.D := by simp [Ms.T, Ms.D]
/-! ways -/
def Stm.ways (sh : List Rat) : Stm → Nat → List (Bool × Rat)
  | .draw _ t, _ => [(true, sh.getD t 0), (false, 1 - sh.getD t 0)]
  | .put _ a, w => [(a.ev w, 1)]
  | _, _ => []
def Stm.let_ : Stm → Nat
  | .draw l _ => l
  | .put l _ => l
  | _ => 0
def wD (p : Bool × Rat) : D := .tup [.bl p.1, fr p.2]
def Stm.isC : Stm → Prop
  | .draw _ _ => True
  | .put _ _ => True
  | _ => False
theorem v_ways {K : PySem.W.Frag} {n k : Nat} {sh : List Rat} (hs : ShOk sh) (hk : sh.length = k) (s : Stm) (hc : s.isC) (hf : s.fine n k) (w : Nat) : f_Led_ways K [.fz (ledD K n sh), .fz s.d, .fz (.int (w : Int))] = some (.lst ((s.ways sh w).map fun p => .fz (wD p)), [.fz (ledD K n sh), .fz s.d, .fz (.int (w : Int))]) := by
  cases s with
  | draw l t =>
    have ht : t < sh.length := by rw [hk]; exact hf.2
    have h1 := (hs.getD t).fit
    have e1 : sh[t]? = some (sh.getD t 0) := by simp [ht]
    refine fn_rt (e := [some (.fz (ledD K n sh)), some (.fz (Stm.draw l t).d), some (.fz (.int (w : Int))), some (.fz (fr (sh.getD t 0)))]) [ledD K n sh, (Stm.draw l t).d, .int (w : Int)] ?_
    generalize sh.getD t 0 = q at h1 e1
    simp [b_Led_ways, sd_draw, e1, sizeLine, v_left_of h1, Stm.ways, wD]
  | put l a =>
    refine fn_rt (e := [some (.fz (ledD K n sh)), some (.fz (Stm.put l a).d), some (.fz (.int (w : Int))), none]) [ledD K n sh, (Stm.put l a).d, .int (w : Int)] ?_
    simp [b_Led_ways, sd_put, sizeLine, v_holds w a 12 (by have := hf.2.2; omega), Stm.ways, wD]
  | see a => exact absurd hc (by simp [Stm.isC])
  | rounds m b => exact absurd hc (by simp [Stm.isC])
  | cond a x y => exact absurd hc (by simp [Stm.isC])
/-! changed -/
def wN (w l : Nat) (p : Bool × Rat) : Nat × Rat := (wl w l p.1, p.2)
@[simp] theorem fr_top (q : Rat) : oIx (fr q) (.int 0) = some (.int q.num) := fr0 q
theorem num_pos {q : Rat} : 0 < q.num ↔ 0 < q := by
  rw [Rat.lt_iff]; simp
theorem getD_some {a : List Rat} {i : Nat} (h : i < a.length) : a[i]? = some (a.getD i 0) := by simp [h]
theorem sum_set {a : List Rat} {i : Nat} (h : i < a.length) (x : Rat) : (a.set i (a.getD i 0 + x)).sum = a.sum + x := by
  rw [← dot_one, dot_set _ _ _ _ h, dot_one]
  have : a.getD i 0 = a[i] := by simp [h]
  rw [this]; grind
theorem ch_of_row {K : Nat} {a : List Rat} (h : Row K a) (hs : a.sum ≤ 1) (i : Nat) : Ch K (a.getD i 0) := by
  have h1 := h.getD (i := i)
  refine ⟨h1.1, h1.2, ?_⟩
  rw [List.getD_eq_getElem?_getD]
  by_cases hi : i < a.length
  · rw [List.getElem?_eq_getElem hi]
    have := le_sum h.nn (List.getElem_mem hi)
    simp; grind
  · rw [List.getElem?_eq_none (by omega)]; simp; grind
section
variable {K : PySem.W.Frag} {n k : Nat} {sh : List Rat}
theorem changed_1 (X0 X2 : T) (s : Stm) (hc : s.isC) (l : Nat) (hl : s.let_ = l) (hl4 : l ≤ 1000) (w : Nat) (mass : Rat) (J j : Nat) (hJ : J + j ≤ 100) (hm : Ch J mass) (tl : List Rat) : ∀ (ws : List (Bool × Rat)) (acc : List Rat) (x6 x7 x8 : Option T), (∀ p ∈ ws, wl w l p.1 < acc.length ∧ Ch j p.2) → Row (J + j) acc → acc.sum + mass * (ws.map Prod.snd).sum ≤ 1 → ∃ x6' x7' x8',
    loopM (gTupM (gCons (gNm 6) (gCons (gNm 7) gNil))) (l_Led_changed_1 K) (ws.map wD) [some X0, some (.fz s.d), some X2, some (.lst ((acc ++ tl).map Lw.fz)), some (.fz (.int (w : Int))), some (.fz (fr mass)), x6, x7, x8] =
      some (.nx, [some X0, some (.fz s.d), some X2, some (.lst ((addTo acc mass (ws.map (wN w l)) ++ tl).map Lw.fz)), some (.fz (.int (w : Int))), some (.fz (fr mass)), x6', x7', x8'])
  | [], acc, x6, x7, x8, _, _, _ => ⟨x6, x7, x8, by simp [addTo]⟩
  | (f, q) :: ws, acc, x6, x7, x8, hw, hr, hs => by
    obtain ⟨ht, hq⟩ : wl w l f < acc.length ∧ Ch j q := hw (f, q) (by simp)
    have hqs : 0 ≤ (ws.map Prod.snd).sum := sum_nn fun x hx => by
      obtain ⟨p, hp, rfl⟩ := List.mem_map.mp hx
      exact (hw p (by simp [hp])).2.nn
    simp only [List.map_cons, List.sum_cons] at hs
    have n1 := Rat.mul_nonneg hm.nn hqs
    have n2 := Rat.mul_nonneg hm.nn hq.nn
    have hmq : Ch (J + j) (mass * q) := by
      refine ⟨hm.dv.mul hq.dv, n2, ?_⟩
      have := Rat.mul_le_mul_of_nonneg_left hq.le hm.nn
      have := hm.le
      grind
    have hacc : acc.sum ≤ 1 := by grind
    have ha := ch_of_row hr hacc (wl w l f)
    obtain ⟨x6', x7', x8', ih⟩ := changed_1 X0 X2 s hc l hl hl4 w mass J j hJ hm tl ws (acc.set (wl w l f) (acc.getD (wl w l f) 0 + mass * q)) (some (.fz (.bl f))) (some (.fz (fr q))) (some (.fz (.int (wl w l f : Int))))
      (fun p hp => by simpa using hw p (by simp [hp])) (hr.set ⟨ha.dv.add hmq.dv, by have := ha.nn; grind⟩) (by rw [sum_set ht]; grind)
    refine ⟨x6', x7', x8', loop_nx (e1 := [some X0, some (.fz s.d), some X2, some (.lst ((acc ++ tl).map Lw.fz)), some (.fz (.int (w : Int))), some (.fz (fr mass)), some (.fz (.bl f)), some (.fz (fr q)), x8]) (by simp [wD]) ?_ ih⟩
    have h1 : oIx s.d (.int 1) = some (.int (l : Int)) := by
      subst hl
      cases s with
      | draw l t => simp [Stm.let_, sd_draw]
      | put l a => simp [Stm.let_, sd_put]
      | see a => exact absurd hc (by simp [Stm.isC])
      | rounds m b => exact absurd hc (by simp [Stm.isC])
      | cond a x y => exact absurd hc (by simp [Stm.isC])
    have h2 := v_times (hm.fit (by omega)) (hq.fit (by omega))
    have h3 := v_plus (ha.fit hJ) (hmq.fit hJ)
    have e2 : ((acc ++ tl).map Lw.fz)[wl w l f]? = some (.fz (fr (acc.getD (wl w l f) 0))) := by rw [List.getElem?_map, List.getElem?_append_left ht, getD_some ht]; rfl
    have lt2 : wl w l f < ((acc ++ tl).map Lw.fz).length := by simp; omega
    have e3 : ((acc ++ tl).map Lw.fz).set (wl w l f) (.fz (fr (acc.getD (wl w l f) 0 + mass * q))) = ((acc.set (wl w l f) (acc.getD (wl w l f) 0 + mass * q)) ++ tl).map Lw.fz := by
      rw [← List.set_append_left _ _ ht, List.map_set]; rfl
    generalize acc.getD (wl w l f) 0 = av at h3 e2 e3 ⊢
    generalize (acc ++ tl).map Lw.fz = M at e2 lt2 e3 ⊢
    rw [← e3]
    have e4 : M[wl w l f] = .fz (fr av) := (List.getElem?_eq_some_iff.mp e2).2
    simp [l_Led_changed_1, h1, v_with_letter w l f hl4, a_plIx, a_gIx, h2, h3, lt2, e4]
def Stm.wn (sh : List Rat) (s : Stm) (w : Nat) : List (Nat × Rat) := (s.ways sh w).map (wN w s.let_)
theorem wn_ok (hs : ShOk sh) {s : Stm} (hc : s.isC) (hf : s.fine n k) {w : Nat} (hw : w < 2 ^ n) : (∀ p ∈ s.ways sh w, wl w s.let_ p.1 < 2 ^ n ∧ Ch 1 p.2) ∧ ((s.ways sh w).map Prod.snd).sum = 1 ∧ wsum (s.wn sh w) (fun _ => 1) = 1 := by
  cases s with
  | draw l t =>
    have h := hs.getD t
    have h2 : Ch 1 (1 - sh.getD t 0) := ⟨Dv.one.sub h.dv, by have := h.le; grind, by have := h.nn; grind⟩
    refine ⟨fun p hp => ?_, ?_, ?_⟩
    · simp only [Stm.ways, List.mem_cons, List.not_mem_nil, or_false] at hp
      rcases hp with rfl | rfl
      · exact ⟨wl_lt true hw hf.1, h⟩
      · exact ⟨wl_lt false hw hf.1, h2⟩
    · simp [Stm.ways]; grind
    · simp [Stm.wn, Stm.ways, wN, wsum]; grind
  | put l a =>
    refine ⟨fun p hp => ?_, ?_, ?_⟩
    · simp only [Stm.ways, List.mem_cons, List.not_mem_nil, or_false] at hp
      subst hp
      exact ⟨wl_lt (a.ev w) hw hf.1, Dv.one, by show (0 : Rat) ≤ 1; grind, by show (1 : Rat) ≤ 1; grind⟩
    · simp [Stm.ways]; grind
    · simp [Stm.wn, Stm.ways, wN, wsum]; grind
  | see a => exact absurd hc (by simp [Stm.isC])
  | rounds m b => exact absurd hc (by simp [Stm.isC])
  | cond a x y => exact absurd hc (by simp [Stm.isC])
theorem let_lt {s : Stm} (hc : s.isC) (hf : s.fine n k) : s.let_ < n := by
  cases s with
  | draw l t => exact hf.1
  | put l a => exact hf.1
  | see a => exact absurd hc (by simp [Stm.isC])
  | rounds m b => exact absurd hc (by simp [Stm.isC])
  | cond a x y => exact absurd hc (by simp [Stm.isC])
theorem enum_cons (i : Nat) (q : Rat) (r : List Rat) : enumD i ((q :: r).map fr) = .tup [.int (i : Int), fr q] :: enumD (i + 1) (r.map fr) := rfl
theorem addTo_sum {acc : List Rat} {m : Rat} {l : List (Nat × Rat)} (h : ∀ p ∈ l, p.1 < acc.length) (h1 : wsum l (fun _ => 1) = 1) : (addTo acc m l).sum = acc.sum + m := by
  rw [← dot_one, addTo_dot m _ _ _ h, h1, dot_one]; grind
theorem changed_2 (hs : ShOk sh) (hk : sh.length = k) (hn : n ≤ 1000) (X2 : T) (s : Stm) (hc : s.isC) (hf : s.fine n k) (J : Nat) (hJ : J + 1 ≤ 100) (tl : List Rat) : ∀ (r : List Rat) (i : Nat) (acc : List Rat) (x4 x5 x6 x7 x8 : Option T), i + r.length ≤ 2 ^ n → acc.length = 2 ^ n → Row J r → Row (J + 1) acc → acc.sum + r.sum ≤ 1 → ∃ x4' x5' x6' x7' x8',
    loopM (gTupM (gCons (gNm 4) (gCons (gNm 5) gNil))) (l_Led_changed_2 K) (enumD i (r.map fr)) [some (.fz (ledD K n sh)), some (.fz s.d), some X2, some (.lst ((acc ++ tl).map Lw.fz)), x4, x5, x6, x7, x8] =
      some (.nx, [some (.fz (ledD K n sh)), some (.fz s.d), some X2, some (.lst ((chgL (s.wn sh) i r acc ++ tl).map Lw.fz)), x4', x5', x6', x7', x8'])
  | [], i, acc, x4, x5, x6, x7, x8, _, _, _, _, _ => ⟨x4, x5, x6, x7, x8, by simp [chgL, enumD]⟩
  | m :: r, i, acc, x4, x5, x6, x7, x8, hi, ha, hr, hacc, hsum => by
    simp only [List.length_cons] at hi
    simp only [List.sum_cons] at hsum
    obtain ⟨hw1, hw2, hw3⟩ := wn_ok hs hc hf (show i < 2 ^ n by omega)
    have hwl : ∀ p ∈ s.wn sh i, p.1 < acc.length ∧ Dv 1 p.2 ∧ 0 ≤ p.2 := by
      intro p hp
      obtain ⟨q, hq, rfl⟩ := List.mem_map.mp hp
      rw [ha]
      exact ⟨(hw1 q hq).1, (hw1 q hq).2.dv, (hw1 q hq).2.nn⟩
    have hr0 := sum_nn (a := r) fun q hq => (hr q (by simp [hq])).2
    have hm := hr m (by simp)
    have hacc0 := sum_nn hacc.nn
    have hmc : Ch J m := ⟨hm.1, hm.2, by grind⟩
    rw [enum_cons, chgL]
    by_cases h0 : 0 < m
    · have h0' : 0 < m.num := num_pos.mpr h0
      obtain ⟨x6', x7', x8', q1⟩ := changed_1 (K := K) (.fz (ledD K n sh)) X2 s hc s.let_ rfl (by have := let_lt hc hf; omega) i m J 1 hJ hmc tl (s.ways sh i) acc x6 x7 x8 (fun p hp => by rw [ha]; exact hw1 p hp) hacc (by rw [hw2]; grind)
      obtain ⟨y4, y5, y6, y7, y8, ih⟩ := changed_2 hs hk hn X2 s hc hf J hJ tl r (i + 1) (addTo acc m (s.wn sh i)) (some (.fz (.int (i : Int)))) (some (.fz (fr m))) x6' x7' x8' (by omega) (by simp [ha]) (fun q hq => hr q (by simp [hq])) (addTo_row hm _ _ hacc fun p hp => (hwl p hp).2) (by rw [addTo_sum (fun p hp => (hwl p hp).1) hw3]; grind)
      rw [if_pos h0]
      refine ⟨y4, y5, y6, y7, y8, loop_nx (e1 := [some (.fz (ledD K n sh)), some (.fz s.d), some X2, some (.lst ((acc ++ tl).map Lw.fz)), some (.fz (.int (i : Int))), some (.fz (fr m)), x6, x7, x8]) (by simp) ?_ ih⟩
      have e1 : (s.ways sh i).map (wN i s.let_) = s.wn sh i := rfl
      rw [e1] at q1
      generalize (acc ++ tl).map Lw.fz = M at q1 ⊢
      have e2 : (T.d ∘ fun (p : Bool × Rat) => T.fz (wD p)) = wD := by funext p; simp
      simp [l_Led_changed_2, h0', v_ways hs hk s hc hf, seqD, e2, q1]
    · have h0' : ¬ 0 < m.num := fun h => h0 (num_pos.mp h)
      obtain ⟨y4, y5, y6, y7, y8, ih⟩ := changed_2 hs hk hn X2 s hc hf J hJ tl r (i + 1) acc (some (.fz (.int (i : Int)))) (some (.fz (fr m))) x6 x7 x8 (by omega) ha (fun q hq => hr q (by simp [hq])) hacc (by have := hm.2; grind)
      rw [if_neg h0]
      refine ⟨y4, y5, y6, y7, y8, loop_nx (e1 := [some (.fz (ledD K n sh)), some (.fz s.d), some X2, some (.lst ((acc ++ tl).map Lw.fz)), some (.fz (.int (i : Int))), some (.fz (fr m)), x6, x7, x8]) (by simp) ?_ ih⟩
      generalize (acc ++ tl).map Lw.fz = M
      simp [l_Led_changed_2, h0']
end
end Lw

/-! P13 -/
set_option Elab.async false
set_option linter.all false
set_option maxRecDepth 100000
set_option maxHeartbeats 4000000
set_option exponentiation.threshold 100000
namespace Lw
open PySem PySem.Spec PyProof.Rows L2 Fw
theorem rep_flat {α : Type} (x : α) : ∀ n : Nat, (List.replicate n [x]).flatten = List.replicate n x
  | 0 => rfl
  | n + 1 => by rw [List.replicate_succ, List.flatten_cons, rep_flat x n]; rfl
theorem mul_zero (N : Nat) (hN : N ≤ 10000) : oMul (.lst [fr 0]) (.int (N : Int)) = some (.lst ((List.replicate N (0 : Rat)).map Lw.fz)) := by
  have h : (N : Int).natAbs.log2 < 60 ∧ [fr 0].length * (N : Int).toNat ≤ sizeLine := by
    refine ⟨rng_in (by omega), ?_⟩
    simp [sizeLine]; omega
  unfold oMul
  simp only []
  rw [if_pos h]
  simp [rep_flat, Lw.fz]
theorem n16 {n : Nat} (hn : n ≤ 4) : 2 ^ n ≤ 16 := Nat.pow_le_pow_right (by decide) hn
theorem sl_hi (m : Ms) {N : Nat} (h : m.ms.length = N) : slO m.D none (some (N : Int)) = some (.lst (m.ms.map Lw.fz)) := by
  simp [Ms.D, Ms.row, slO, cut_hi, ← h, ← List.map_append]
  rw [List.map_append, List.take_left' (by simp)]
  simp [Lw.fz]
theorem sl_lo (m : Ms) {N : Nat} (h : m.ms.length = N) : slO m.D (some (N : Int)) none = some (.lst ([m.d, m.l].map Lw.fz)) := by
  simp [Ms.D, Ms.row, slO, cut_lo, ← h, ← List.map_append]
  rw [List.map_append, List.drop_left' (by simp)]
  simp [Lw.fz]
theorem add_ll (a b : List Rat) (h : a.length + b.length ≤ 16777216) : oAdd (.lst (a.map fr)) (.lst (b.map fr)) = some (.lst ((a ++ b).map Lw.fz)) := by
  have : a.length + b.length ≤ sizeLine := h
  have e : (T.fz ∘ fr) = Lw.fz := rfl
  simp [this, e]
section
variable {K : PySem.W.Frag} {n k : Nat} {sh : List Rat}
theorem v_changed (hs : ShOk sh) (hk : sh.length = k) (hn : n ≤ 4) (s : Stm) (hc : s.isC) (hf : s.fine n k) {J : Nat} (hJ : J + 1 ≤ 100) {m : Ms} (hm : m.Ok (2 ^ n) J) :
    f_Led_changed K [.fz (ledD K n sh), .fz s.d, .fz m.D] = some ((m.chg n (s.wn sh)).T, [.fz (ledD K n sh), .fz s.d, .fz m.D]) := by
  have h16 := n16 hn
  have hle : (List.replicate (2 ^ n) (0 : Rat)).sum + m.ms.sum ≤ 1 := by rw [sum_rep0]; have := hm.le; have := hm.dn; grind
  obtain ⟨x4, x5, x6, x7, x8, q⟩ := changed_2 (K := K) hs hk (by omega) (.fz m.D) s hc hf J hJ [m.d, m.l] m.ms 0 (List.replicate (2 ^ n) 0) none none none none none (by rw [hm.len]; omega) (by simp) hm.row (Row.rep _) hle
  refine fn_rt (e := [some (.fz (ledD K n sh)), some (.fz s.d), some (.fz m.D), none, x4, x5, x6, x7, x8]) [ledD K n sh, s.d, m.D] ?_
  have h1 := mul_zero (2 ^ n) (by omega)
  have h2 := sl_lo m hm.len
  have h3 := sl_hi m hm.len
  have h4 := add_ll (List.replicate (2 ^ n) 0) [m.d, m.l] (by simp; omega)
  have h5 : enF [.lst (m.ms.map fr)] = some (enumD 0 (m.ms.map fr)) := rfl
  have e1 : (T.lst ((List.replicate (2 ^ n) (0 : Rat)).map Lw.fz)).d = .lst ((List.replicate (2 ^ n) 0).map fr) := by rw [td_lst, List.map_map, fz_d]
  have e2 : (T.lst ([m.d, m.l].map Lw.fz)).d = .lst ([m.d, m.l].map fr) := by rw [td_lst, List.map_map, fz_d]
  have e3 : (T.lst (m.ms.map Lw.fz)).d = .lst (m.ms.map fr) := by rw [td_lst, List.map_map, fz_d]
  have e4 : (m.chg n (s.wn sh)).T = .lst ((chgL (s.wn sh) 0 m.ms (List.replicate (2 ^ n) 0) ++ [m.d, m.l]).map Lw.fz) := rfl
  rw [e4]
  generalize (T.lst ((List.replicate (2 ^ n) (0 : Rat)).map Lw.fz)) = A1 at h1 e1
  generalize (T.lst ([m.d, m.l].map Lw.fz)) = A2 at h2 e2
  generalize (T.lst (m.ms.map Lw.fz)) = A3 at h3 e3
  generalize (List.replicate (2 ^ n) (0 : Rat) ++ [m.d, m.l]).map Lw.fz = A4 at h4 q
  generalize (chgL (s.wn sh) 0 m.ms (List.replicate (2 ^ n) 0) ++ [m.d, m.l]).map Lw.fz = A5 at q ⊢
  generalize (List.replicate (2 ^ n) (0 : Rat)).map fr = B1 at e1 h4
  generalize [m.d, m.l].map fr = B2 at e2 h4
  have hN := led_many K n sh
  generalize 2 ^ n = N at h1 h2 h3 hN
  unfold b_Led_changed
  simp [sizeLine, hN, h1, h2, h3, h4, h5, e1, e2, e3, q]
/-! parted -/
theorem fz_set (M : List Rat) (i : Nat) (q : Rat) : (M.map Lw.fz).set i (.fz (fr q)) = (M.set i q).map Lw.fz := by
  rw [List.map_set]; rfl
theorem fz_get (M : List Rat) (i : Nat) (h : i < M.length) : (M.map Lw.fz)[i]? = some (.fz (fr (M.getD i 0))) := by
  rw [List.getElem?_map, getD_some h]; rfl
theorem parted_1 (a : Say) (ha : a.deep ≤ 8) (X0 : T) (m : List Rat) : ∀ (r i : Nat) (x5 : Option T) (Y N : List Rat), i + r ≤ m.length → Y.length = m.length → N.length = m.length → ∃ x5', ∃ Y' N' : List Rat,
    loopM (gNm 5) (l_Led_parted_1 K) ((List.range' i r).map fun (j : Nat) => D.int (j : Int)) [some X0, some (.fz a.d), some (.fz (.lst (m.map fr))), some (.lst (Y.map Lw.fz)), some (.lst (N.map Lw.fz)), x5] =
      some (.nx, [some X0, some (.fz a.d), some (.fz (.lst (m.map fr))), some (.lst (Y'.map Lw.fz)), some (.lst (N'.map Lw.fz)), x5']) ∧ Y'.length = m.length ∧ N'.length = m.length ∧
      (∀ j, Y'[j]? = if i ≤ j ∧ j < i + r ∧ a.ev j = true then m[j]? else Y[j]?) ∧ (∀ j, N'[j]? = if i ≤ j ∧ j < i + r ∧ a.ev j = true then some 0 else N[j]?)
  | 0, i, x5, Y, N, _, hY, hN => ⟨x5, Y, N, by simp, hY, hN, fun j => by rw [if_neg (by omega)], fun j => by rw [if_neg (by omega)]⟩
  | r + 1, i, x5, Y, N, hi, hY, hN => by
    by_cases he : a.ev i = true
    · obtain ⟨x5', Y', N', q, l1, l2, g1, g2⟩ := parted_1 a ha X0 m r (i + 1) (some (.fz (.int (i : Int)))) (Y.set i (m.getD i 0)) (N.set i 0) (by omega) (by simpa using hY) (by simpa using hN)
      refine ⟨x5', Y', N', ?_, l1, l2, fun j => ?_, fun j => ?_⟩
      · rw [List.range'_succ, List.map_cons]
        refine loop_nx (e1 := [some X0, some (.fz a.d), some (.fz (.lst (m.map fr))), some (.lst (Y.map Lw.fz)), some (.lst (N.map Lw.fz)), some (.fz (.int (i : Int)))]) rfl ?_ q
        have h1 : oIx (.lst (m.map fr)) (.int (i : Int)) = some (fr (m.getD i 0)) := by
          rw [ix_lst, atI_natCast, List.getElem?_map, getD_some (by omega)]; rfl
        have h2 := fz_set Y i (m.getD i 0)
        have h3 := fz_set N i 0
        have l3 : i < (Y.map Lw.fz).length := by simp; omega
        have l4 : i < (N.map Lw.fz).length := by simp; omega
        rw [← h2, ← h3]
        generalize Y.map Lw.fz = MY at l3 ⊢
        generalize N.map Lw.fz = MN at l4 ⊢
        generalize m.getD i 0 = mv at h1 ⊢
        generalize m.map fr = mm at h1 ⊢
        have hh := v_holds i a 12 (by omega)
        rw [he] at hh
        simp only [ix_lst, atI_natCast] at h1
        simp [l_Led_parted_1, hh, a_gIx, sizeLine, h1, l3, l4]
      · rw [g1 j, List.getElem?_set]
        by_cases hj : j = i
        · subst hj
          rw [if_neg (by omega), if_pos rfl, if_pos (by omega), if_pos ⟨by omega, by omega, he⟩, getD_some (by omega)]
        · rw [if_neg (show ¬ i = j by omega)]
          by_cases hc : i + 1 ≤ j ∧ j < i + 1 + r ∧ a.ev j = true
          · rw [if_pos hc, if_pos ⟨by omega, by omega, hc.2.2⟩]
          · rw [if_neg hc, if_neg fun h => hc ⟨by omega, by omega, h.2.2⟩]
      · rw [g2 j, List.getElem?_set]
        by_cases hj : j = i
        · subst hj
          rw [if_neg (by omega), if_pos rfl, if_pos (by omega), if_pos ⟨by omega, by omega, he⟩]
        · rw [if_neg (show ¬ i = j by omega)]
          by_cases hc : i + 1 ≤ j ∧ j < i + 1 + r ∧ a.ev j = true
          · rw [if_pos hc, if_pos ⟨by omega, by omega, hc.2.2⟩]
          · rw [if_neg hc, if_neg fun h => hc ⟨by omega, by omega, h.2.2⟩]
    · obtain ⟨x5', Y', N', q, l1, l2, g1, g2⟩ := parted_1 a ha X0 m r (i + 1) (some (.fz (.int (i : Int)))) Y N (by omega) hY hN
      refine ⟨x5', Y', N', ?_, l1, l2, fun j => ?_, fun j => ?_⟩
      · rw [List.range'_succ, List.map_cons]
        refine loop_nx (e1 := [some X0, some (.fz a.d), some (.fz (.lst (m.map fr))), some (.lst (Y.map Lw.fz)), some (.lst (N.map Lw.fz)), some (.fz (.int (i : Int)))]) rfl ?_ q
        have hh := v_holds i a 12 (by omega)
        have he : a.ev i = false := by simpa using he
        rw [he] at hh
        generalize Y.map Lw.fz = MY
        generalize N.map Lw.fz = MN
        simp [l_Led_parted_1, hh]
      · rw [g1 j]
        by_cases hc : i + 1 ≤ j ∧ j < i + 1 + r ∧ a.ev j = true
        · rw [if_pos hc, if_pos ⟨by omega, by omega, hc.2.2⟩]
        · have hji : a.ev j = true → j ≠ i := fun h z => he (z ▸ h)
          rw [if_neg hc, if_neg fun h => hc ⟨by have := hji h.2.2; omega, by omega, h.2.2⟩]
      · rw [g2 j]
        by_cases hc : i + 1 ≤ j ∧ j < i + 1 + r ∧ a.ev j = true
        · rw [if_pos hc, if_pos ⟨by omega, by omega, hc.2.2⟩]
        · have hji : a.ev j = true → j ≠ i := fun h z => he (z ▸ h)
          rw [if_neg hc, if_neg fun h => hc ⟨by have := hji h.2.2; omega, by omega, h.2.2⟩]
end
end Lw

/-! P14 -/
set_option Elab.async false
set_option linter.all false
set_option maxRecDepth 100000
set_option maxHeartbeats 4000000
set_option exponentiation.threshold 100000
namespace Lw
open PySem PySem.Spec PyProof.Rows L2 Fw
theorem msk_row (p : Nat → Bool) (ms tl Y' : List Rat) (N : Nat) (hN : ms.length = N) (hl : Y'.length = (ms ++ tl).length) (z : List Rat) (hz : z.length = tl.length)
    (h : ∀ j, Y'[j]? = if j < N ∧ p j = true then (ms ++ tl)[j]? else (List.replicate N 0 ++ z)[j]?) : Y' = msk p ms ++ z := by
  apply List.ext_getElem?
  intro j
  rw [h j]
  by_cases hj : j < N
  · have e1 : (List.replicate N (0 : Rat)).length = N := by simp
    have e2 : (msk p ms).length = N := by simp [hN]
    rw [List.getElem?_append_left (l₁ := ms) (by omega), List.getElem?_append_left (l₁ := List.replicate N 0) (by omega), List.getElem?_append_left (l₁ := msk p ms) (by omega), msk_get]
    rw [List.getElem?_replicate, if_pos hj, List.getElem?_eq_getElem (by omega)]
    by_cases hp : p j = true
    · rw [if_pos ⟨hj, hp⟩]; simp [hp]
    · rw [if_neg fun q => hp q.2]; simp [hp]
  · have e1 : (List.replicate N (0 : Rat)).length = N := by simp
    have e2 : (msk p ms).length = N := by simp [hN]
    rw [if_neg fun q => hj q.1, List.getElem?_append_right (by omega), List.getElem?_append_right (by omega), e1, e2]
theorem msk_row2 (p : Nat → Bool) (ms tl Y' : List Rat) (N : Nat) (hN : ms.length = N) (hl : Y'.length = (ms ++ tl).length)
    (h : ∀ j, Y'[j]? = if j < N ∧ p j = true then some 0 else (ms ++ tl)[j]?) : Y' = msk (fun w => !p w) ms ++ tl := by
  apply List.ext_getElem?
  intro j
  rw [h j]
  by_cases hj : j < N
  · rw [List.getElem?_append_left (by omega), List.getElem?_append_left (by simp; omega), msk_get]
    rw [List.getElem?_eq_getElem (by omega)]
    by_cases hp : p j = true
    · rw [if_pos ⟨hj, hp⟩]; simp [hp]
    · rw [if_neg fun q => hp q.2]; simp [hp]
  · rw [if_neg fun q => hj q.1, List.getElem?_append_right (by omega), List.getElem?_append_right (by simp; omega)]
    simp
section
variable {K : PySem.W.Frag} {n k : Nat} {sh : List Rat}
theorem v_parted (hn : n ≤ 4) (a : Say) (ha : a.deep ≤ 8) {J : Nat} {m : Ms} (hm : m.Ok (2 ^ n) J) :
    f_Led_parted K [.fz (ledD K n sh), .fz a.d, .fz m.D] = some (.tup [(m.yes a).T, (m.no a).T], [.fz (ledD K n sh), .fz a.d, .fz m.D]) := by
  have h16 := n16 hn
  obtain ⟨x5', Y', N', q, l1, l2, g1, g2⟩ := parted_1 (K := K) a ha (.fz (ledD K n sh)) m.row (2 ^ n) 0 none (List.replicate (2 ^ n) 0 ++ [0, 0]) m.row (by simp [Ms.row, hm.len]) (by simp [Ms.row, hm.len]) rfl
  have eY : Y' = (m.yes a).row := msk_row a.ev m.ms [m.d, m.l] Y' (2 ^ n) hm.len l1 [0, 0] rfl fun j => by rw [g1 j]; simp [Ms.row]
  have eN : N' = (m.no a).row := msk_row2 a.ev m.ms [m.d, m.l] N' (2 ^ n) hm.len l2 fun j => by rw [g2 j]; simp [Ms.row]
  rw [eY, eN] at q
  refine fn_rt (e := [some (.fz (ledD K n sh)), some (.fz a.d), some (.fz m.D), none, none, x5']) [ledD K n sh, a.d, m.D] ?_
  have h1 := mul_zero (2 ^ n + 2) (by omega)
  have h2 : bList [m.D] = some (.lst (m.row.map Lw.fz)) := by simp [Ms.D, bList, Lw.fz]
  have e0 : List.replicate (2 ^ n + 2) (0 : Rat) = List.replicate (2 ^ n) 0 ++ [0, 0] := List.replicate_append_replicate.symm
  have e1 : List.range' 0 (2 ^ n) = List.range (2 ^ n) := by rw [List.range_eq_range']
  rw [e0] at h1
  rw [e1] at q
  have h3 := rng1_n (2 ^ n) (Nat.lt_of_le_of_lt h16 (by decide))
  have hN := led_many K n sh
  have e5 : ((2 ^ n + 2 : Nat) : Int) = ((2 ^ n : Nat) : Int) + 2 := by omega
  rw [e5] at h1
  have eD : m.D = .lst (m.row.map fr) := rfl
  have eT1 : (m.yes a).T = .lst ((m.yes a).row.map Lw.fz) := rfl
  have eT2 : (m.no a).T = .lst ((m.no a).row.map Lw.fz) := rfl
  rw [eT1, eT2]
  rw [← eD] at q
  generalize (m.yes a).row.map Lw.fz = M1 at q ⊢
  generalize (m.no a).row.map Lw.fz = M2 at q ⊢
  generalize m.row.map Lw.fz = M3 at h2 q
  generalize (List.replicate (2 ^ n) (0 : Rat) ++ [0, 0]).map Lw.fz = M4 at h1 q
  generalize (List.range (2 ^ n)).map (fun (i : Nat) => D.int (i : Int)) = M5 at h3 q
  generalize 2 ^ n = N at h1 h3 hN
  simp [b_Led_parted, sizeLine, hN, h1, h2, h3, q]
/-! joined -/
theorem zipD_fr : ∀ (a b : List Rat), zipD (a.map fr) (b.map fr) = (a.zip b).map fun p => D.tup [fr p.1, fr p.2]
  | [], b => by simp [zipD]
  | x :: a, [] => by simp [zipD]
  | x :: a, y :: b => by simp [zipD, zipD_fr a b]
theorem zip_map {α β γ : Type} (f : α → β → γ) : ∀ (a : List α) (b : List β), (a.zip b).map (fun p => f p.1 p.2) = List.zipWith f a b
  | [], b => by simp
  | x :: a, [] => by simp
  | x :: a, y :: b => by simp [zip_map f a b]
theorem v_joined {X0 : D} (a b : List Rat) (hab : ∀ p ∈ a.zip b, Fit p.1 ∧ Fit p.2) (hl : a.length ≤ 1000) : f_Led_joined [.fz X0, .fz (.lst (a.map fr)), .fz (.lst (b.map fr))] = some (.lst ((List.zipWith (· + ·) a b).map Lw.fz), [.fz X0, .fz (.lst (a.map fr)), .fz (.lst (b.map fr))]) := by
  have hq : q_Led_joined_1 [some (.fz X0), some (.fz (.lst (a.map fr))), some (.fz (.lst (b.map fr))), none, none] = some (.lst ((List.zipWith (· + ·) a b).map Lw.fz), [some (.fz X0), some (.fz (.lst (a.map fr))), some (.fz (.lst (b.map fr))), none, none]) := by
    unfold q_Led_joined_1
    rw [lc_map (xs := a.zip b) (e1 := [some (.fz X0), some (.fz (.lst (a.map fr))), some (.fz (.lst (b.map fr))), none, none]) (fun p => D.tup [fr p.1, fr p.2]) (fun p => Lw.fz (p.1 + p.2))]
    · rw [zip_map (fun x y => Lw.fz (x + y)), List.map_zipWith]
      simp
    · simp [zpF, zipD_fr]
    · simp
    · intro p hp
      refine ⟨[some (.fz X0), some (.fz (.lst (a.map fr))), some (.fz (.lst (b.map fr))), some (.fz (fr p.1)), some (.fz (fr p.2))], ?_, by simp, by simp⟩
      simp [stepC, v_plus (hab p hp).1 (hab p hp).2, Lw.fz]
    · simp [sizeLine]; omega
  refine fn_rt (e := [some (.fz X0), some (.fz (.lst (a.map fr))), some (.fz (.lst (b.map fr))), none, none]) [X0, .lst (a.map fr), .lst (b.map fr)] ?_
  simp [b_Led_joined, hq]
end
end Lw

/-! P15 -/
set_option Elab.async false
set_option linter.all false
set_option maxRecDepth 100000
set_option maxHeartbeats 4000000
set_option exponentiation.threshold 100000
namespace Lw
open PySem PySem.Spec PyProof.Rows L2 Fw
theorem fits {k : Nat} (hk : k ≤ 100) : ∀ (r : List Rat) (s : Rat), Row k r → Ch k s → s + r.sum ≤ 1 → FitS s r
  | [], s, _, hs, _ => hs.fit hk
  | q :: r, s, hr, hs, hl => by
    simp only [List.sum_cons] at hl
    have hq := hr q (by simp)
    have h0 := sum_nn (a := r) fun x hx => (hr x (by simp [hx])).2
    have hqc : Ch k q := ⟨hq.1, hq.2, by have := hs.nn; grind⟩
    exact ⟨hs.fit hk, hqc.fit hk, fits hk r (s + q) (fun x hx => hr x (by simp [hx])) ⟨hs.dv.add hq.1, by have := hs.nn; grind, by grind⟩ (by grind)⟩
theorem ch0 {k : Nat} : Ch k 0 := ⟨Dv.zero, by grind, by grind⟩
theorem v_sum {X : D} {r : List Rat} {k : Nat} (hk : k ≤ 100) (hX : seqD X = some (r.map fr)) (hr : Row k r) (hl : r.sum ≤ 1) : f_total [.fz X] = some (.fz (fr r.sum), [.fz X]) := by
  have := v_total hX (fits hk r 0 hr ch0 (by grind))
  rw [sumQ_eq, Rat.zero_add] at this
  exact this
theorem Ms.Ok.d1 {N K : Nat} {m : Ms} (h : m.Ok N K) : Ch K m.d := ⟨h.d, h.dn, by have := h.le; have := sum_nn h.row.nn; grind⟩
theorem Ms.Ok.s1 {N K : Nat} {m : Ms} (h : m.Ok N K) : m.ms.sum ≤ 1 := by have := h.le; have := h.dn; grind
section
variable {K : PySem.W.Frag} {n k : Nat} {sh : List Rat}
theorem v_seen (hn : n ≤ 4) (a : Say) (ha : a.deep ≤ 8) {J : Nat} (hJ : J ≤ 100) {m : Ms} (hm : m.Ok (2 ^ n) J) :
    f_Led_seen K [.fz (ledD K n sh), .fz a.d, .fz m.D] = some ((m.see a).T, [.fz (ledD K n sh), .fz a.d, .fz m.D]) := by
  have h16 := n16 hn
  obtain ⟨y1, y2, y3⟩ := yes_ok (a := a) hm
  have hp := v_parted (K := K) (sh := sh) hn a ha hm
  have hN := led_many K n sh
  have h3 := sl_hi (m.no a) y2.len
  have hs := v_sum (X := .lst ((m.no a).ms.map fr)) hJ rfl y2.row y2.s1
  have hpl := v_plus (hm.d1.fit hJ) ((show Ch J (m.no a).ms.sum from ⟨Dv.sum y2.row.dv, sum_nn y2.row.nn, y2.s1⟩).fit hJ)
  have e3 : (T.lst ((m.no a).ms.map Lw.fz)).d = .lst ((m.no a).ms.map fr) := by rw [td_lst, List.map_map, fz_d]
  have g1 : ((m.no a).row.map fr)[2 ^ n]? = some (fr m.d) := by
    rw [List.getElem?_map, Ms.row, ← y2.len, List.getElem?_append_right (Nat.le_refl _)]; simp; rfl
  have g2 : ((m.no a).row.map fr)[2 ^ n + 1]? = some (fr m.l) := by
    rw [List.getElem?_map, Ms.row, ← y2.len, List.getElem?_append_right (by omega)]; simp; rfl
  have lY : ((m.yes a).row.map Lw.fz).length = 2 ^ n + 2 := by simp [Ms.row, y1.len]
  have eS : (m.see a).T = .lst ((((m.yes a).row.map Lw.fz).set (2 ^ n) (.fz (fr (m.d + (m.no a).ms.sum)))).set (2 ^ n + 1) (.fz (fr m.l))) := by
    rw [fz_set, fz_set]
    have e1 : (m.yes a).row = (m.yes a).ms ++ [0, 0] := rfl
    have e2 : (m.see a).T = .lst (((m.yes a).ms ++ [m.d + (m.no a).ms.sum, m.l]).map Lw.fz) := rfl
    rw [e1, e2, List.set_append_right _ _ (by rw [y1.len]; omega), List.set_append_right _ _ (by rw [y1.len]; omega), y1.len]
    have e3 : 2 ^ n - 2 ^ n = 0 := by omega
    have e4 : 2 ^ n + 1 - 2 ^ n = 1 := by omega
    rw [e3, e4]; rfl
  have eT1 : (m.yes a).T = .lst ((m.yes a).row.map Lw.fz) := rfl
  have eT2 : (m.no a).T = .lst ((m.no a).row.map Lw.fz) := rfl
  have eD2 : (T.lst ((m.no a).row.map Lw.fz)).d = .lst ((m.no a).row.map fr) := by rw [td_lst, List.map_map, fz_d]
  have eD : (m.no a).D = .lst ((m.no a).row.map fr) := rfl
  rw [eT1, eT2] at hp
  rw [eD] at h3
  rw [eS]
  refine fn_rt (e := [some (.fz (ledD K n sh)), some (.fz a.d), some (.fz m.D), none, some (.fz (m.no a).D)]) [ledD K n sh, a.d, m.D] ?_
  rw [eD]
  generalize (T.lst ((m.no a).ms.map Lw.fz)) = A3 at h3 e3
  generalize (m.no a).ms.map fr = B3 at e3 hs
  generalize (m.no a).ms.sum = tot at hs hpl ⊢
  generalize (m.yes a).row.map Lw.fz = MY at lY hp ⊢
  generalize (T.lst ((m.no a).row.map Lw.fz)) = MN at hp eD2
  generalize (m.no a).row.map fr = BN at eD2 g1 g2 h3 ⊢
  have l1 : 2 ^ n < MY.length := by omega
  have l2 : 2 ^ n + 1 < MY.length := by omega
  generalize 2 ^ n = N at *
  have g3 : atI BN ((N : Int) + 1) = some (fr m.l) := by
    have := atI_natCast BN (N + 1)
    rw [g2] at this
    simpa using this
  have i1 : ∀ M : List T, M.length = MY.length → ixN M.length ((N : Int) + 1) = some (N + 1) := fun M hM => by
    have := ixN_c M.length (N + 1)
    rw [if_pos (by omega)] at this
    simpa using this
  have i2 := i1 (MY.set N (.fz (fr (m.d + tot)))) (by simp)
  rw [List.length_set] at i2
  simp [b_Led_seen, hN, hp, eD2, g1, g3, h3, e3, hs, hpl, a_gIx, l1, l2, i2]
def StOkM (K : PySem.W.Frag) (n : Nat) (sh : List Rat) (f : Fn) (s : Stm) : Prop := ∀ (J : Nat) (m : Ms), m.Ok (2 ^ n) J → J + s.dr ≤ 99 →
  ∃ t : T, t.d = (s.fw sh n m).D ∧ f [.fz (ledD K n sh), .fz s.d, .fz m.D] = some (t, [.fz (ledD K n sh), .fz s.d, .fz m.D])
def BlOkM (K : PySem.W.Frag) (n : Nat) (sh : List Rat) (f : Fn) (b : Blk) : Prop := ∀ (J : Nat) (m : Ms), m.Ok (2 ^ n) J → J + b.dr ≤ 99 →
  f [.fz (ledD K n sh), .fz b.d, .fz m.D] = some (.fz (b.fw sh n m).D, [.fz (ledD K n sh), .fz b.d, .fz m.D])
theorem st_fw (hs : ShOk sh) {s : Stm} (hf : s.fine n k) {J : Nat} {m : Ms} (hm : m.Ok (2 ^ n) J) : (s.fw sh n m).Ok (2 ^ n) (J + s.dr) := by
  have := fw_ok hs (s.on .nil) J m ((on_fine s .nil).mpr ⟨hf, trivial⟩) hm
  have h := this.ok
  rw [on_fw, on_dr] at h
  exact h
theorem block_run (r1 r2 : Fn) (X1 : T) (hs : ShOk sh) : ∀ (ss : List Stm), (∀ s ∈ ss, s.fine n k ∧ StOkM K n sh r2 s) → ∀ (J : Nat) (m : Ms) (t : T) (x3 : Option T), t.d = m.D → m.Ok (2 ^ n) J → J + (Blk.of ss).dr ≤ 99 →
    ∃ (t' : T) (x3' : Option T), t'.d = ((Blk.of ss).fw sh n m).D ∧ loopM (gNm 3) (l_Led_block_1 K r1 r2) (ss.map Stm.d) [some (.fz (ledD K n sh)), some X1, some t, x3] = some (.nx, [some (.fz (ledD K n sh)), some X1, some t', x3'])
  | [], _, J, m, t, x3, ht, _, _ => ⟨t, x3, ht, by simp⟩
  | s :: ss, h, J, m, t, x3, ht, hm, hJ => by
    rw [of_on, on_dr] at hJ
    obtain ⟨hf, hst⟩ := h s (by simp)
    obtain ⟨t1, e1, q1⟩ := hst J m hm (by omega)
    obtain ⟨t', x3', e2, q2⟩ := block_run r1 r2 X1 hs ss (fun s hs => h s (by simp [hs])) (J + s.dr) (s.fw sh n m) t1 (some (.fz s.d)) e1 (st_fw hs hf hm) (by omega)
    refine ⟨t', x3', by rw [of_on, on_fw]; exact e2, loop_nx (e1 := [some (.fz (ledD K n sh)), some X1, some t, some (.fz s.d)]) (by simp) ?_ q2⟩
    have hr : recO (He.ga K "Led") "statement" (ledD K n sh) = some (ledD K n sh) := led_rec K n sh "statement"
    simp [l_Led_block_1, hr, ht, q1]
theorem rounds_run (r1 r2 : Fn) (hs : ShOk sh) (c : Nat) (b : Blk) (hf : b.fine n k) (hb : BlOkM K n sh r1 b) (x4 x5 : Option T) : ∀ (ds : List D) (J : Nat) (m : Ms) (t : T) (x3 : Option T), t.d = m.D → m.Ok (2 ^ n) J → J + ds.length * b.dr ≤ 99 →
    ∃ (t' : T) (x3' : Option T), t'.d = (iterF (b.fw sh n) ds.length m).D ∧ loopM (gNm 3) (l_Led_statement_1 K r1 r2) ds [some (.fz (ledD K n sh)), some (.fz (Stm.rounds c b).d), some t, x3, x4, x5] = some (.nx, [some (.fz (ledD K n sh)), some (.fz (Stm.rounds c b).d), some t', x3', x4, x5])
  | [], J, m, t, x3, ht, _, _ => ⟨t, x3, ht, by simp⟩
  | d :: ds, J, m, t, x3, ht, hm, hJ => by
    simp only [List.length_cons, Nat.add_mul] at hJ
    have q1 := hb J m hm (by omega)
    have hm1 := (fw_ok hs b J m hf hm).ok
    obtain ⟨t', x3', e2, q2⟩ := rounds_run r1 r2 hs c b hf hb x4 x5 ds (J + b.dr) (b.fw sh n m) (.fz (b.fw sh n m).D) (some (.fz d)) (by simp) hm1 (by omega)
    refine ⟨t', x3', by rw [List.length_cons, iterF_succ]; exact e2, loop_nx (e1 := [some (.fz (ledD K n sh)), some (.fz (Stm.rounds c b).d), some t, some (.fz d), x4, x5]) (by simp) ?_ q2⟩
    have hr : recO (He.ga K "Led") "block" (ledD K n sh) = some (ledD K n sh) := led_rec K n sh "block"
    have hd : (Stm.rounds c b).d = .tup [.str "rounds", .int (c : Int), b.d] := rfl
    simp [l_Led_statement_1, hr, ht, q1, hd]
theorem v_statement (hs : ShOk sh) (hk : sh.length = k) (hn : n ≤ 4) (f : Nat) (s : Stm) (hf : s.fine n k) (hc4 : s.good n k = true) (hb : ∀ c ∈ s.blks, BlOkM K n sh (f_Led_block K f) c) : StOkM K n sh (f_Led_statement K (f + 1)) s := by
  intro J m hm hJ
  unfold f_Led_statement
  have hrb : recO (He.ga K "Led") "block" (ledD K n sh) = some (ledD K n sh) := led_rec K n sh "block"
  have hrc : recO (He.ga K "Led") "changed" (ledD K n sh) = some (ledD K n sh) := led_rec K n sh "changed"
  have hrs : recO (He.ga K "Led") "seen" (ledD K n sh) = some (ledD K n sh) := led_rec K n sh "seen"
  have hrp : recO (He.ga K "Led") "parted" (ledD K n sh) = some (ledD K n sh) := led_rec K n sh "parted"
  have hrj : recO (He.ga K "Led") "joined" (ledD K n sh) = some (ledD K n sh) := led_rec K n sh "joined"
  cases s with
  | draw l t =>
    refine ⟨_, ?_, fn_rt (r := (m.chg n ((Stm.draw l t).wn sh)).T) (e := [some (.fz (ledD K n sh)), some (.fz (Stm.draw l t).d), some (.fz m.D), none, none, none]) [ledD K n sh, (Stm.draw l t).d, m.D] ?_⟩
    · rw [ms_td]; rfl
    · have q := v_changed (K := K) hs hk hn (.draw l t) trivial hf (by omega) hm
      have hd : (Stm.draw l t).d = .tup [.str "draw", .int (l : Int), .int (t : Int)] := rfl
      rw [hd] at q ⊢
      simp [b_Led_statement, sizeLine, seqD, dStrs, hrc, q]
  | put l a =>
    refine ⟨_, ?_, fn_rt (r := (m.chg n ((Stm.put l a).wn sh)).T) (e := [some (.fz (ledD K n sh)), some (.fz (Stm.put l a).d), some (.fz m.D), none, none, none]) [ledD K n sh, (Stm.put l a).d, m.D] ?_⟩
    · rw [ms_td]; rfl
    · have q := v_changed (K := K) hs hk hn (.put l a) trivial hf (by omega) hm
      have hd : (Stm.put l a).d = .tup [.str "set", .int (l : Int), a.d] := rfl
      rw [hd] at q ⊢
      simp [b_Led_statement, sizeLine, seqD, dStrs, hrc, q]
  | see a =>
    refine ⟨_, ?_, fn_rt (r := (m.see a).T) (e := [some (.fz (ledD K n sh)), some (.fz (Stm.see a).d), some (.fz m.D), none, none, none]) [ledD K n sh, (Stm.see a).d, m.D] ?_⟩
    · rw [ms_td]; rfl
    · have q := v_seen (K := K) (sh := sh) hn a hf.2 (by omega : J ≤ 100) hm
      have hd : (Stm.see a).d = .tup [.str "see", a.d] := rfl
      rw [hd]
      simp [b_Led_statement, sizeLine, seqD, dStrs, hrs, q]
  | rounds c b =>
    have hJ2 : J + c * b.dr ≤ 99 := hJ
    have hc : c ≤ 4 := by simpa [Stm.good] using hc4
    obtain ⟨t', x3', e, q⟩ := rounds_run (K := K) (f_Led_block K f) (f_Led_statement K f) hs c b hf (hb b (by simp [Stm.blks])) none none ((List.range c).map fun (i : Nat) => D.int (i : Int)) J m (.fz m.D) none (by simp) hm (by simpa using hJ2)
    rw [show ((List.range c).map fun (i : Nat) => D.int (i : Int)).length = c by simp] at e
    refine ⟨_, ?_, fn_rt (r := .fz t'.d) (e := [some (.fz (ledD K n sh)), some (.fz (Stm.rounds c b).d), some (.fz t'.d), x3', none, none]) [ledD K n sh, (Stm.rounds c b).d, m.D] ?_⟩
    · rw [td_fz, e]; rfl
    · have hd : (Stm.rounds c b).d = .tup [.str "rounds", .int (c : Int), b.d] := rfl
      have hr := Fw.rng1_n c (Nat.lt_of_le_of_lt hc (by decide))
      rw [hd] at q ⊢
      generalize (List.range c).map (fun (i : Nat) => D.int (i : Int)) = ds at hr q
      simp [b_Led_statement, sizeLine, seqD, dStrs, hr, q]
  | cond a x y =>
    have hJ2 : J + max x.dr y.dr ≤ 99 := hJ
    obtain ⟨y1, y2, y3⟩ := yes_ok (a := a) hm
    have hp := v_parted (K := K) (sh := sh) hn a hf.2.1 hm
    have qx := hb x (by simp [Stm.blks]) J _ y1 (by omega)
    have qy := hb y (by simp [Stm.blks]) J _ y2 (by omega)
    have ox := (fw_ok hs x J _ hf.2.2.1 y1).ok
    have oy := (fw_ok hs y J _ hf.2.2.2 y2).ok
    have fitr : ∀ {N L : Nat} {m : Ms}, m.Ok N L → L ≤ 100 → ∀ q ∈ m.row, Fit q := by
      intro N L m hm hL q hq
      simp only [Ms.row, List.mem_append, List.mem_cons, List.not_mem_nil, or_false] at hq
      rcases hq with hq | rfl | rfl
      · exact (show Ch L q from ⟨hm.row.dv q hq, hm.row.nn q hq, by have := le_sum hm.row.nn hq; have := hm.s1; grind⟩).fit hL
      · exact hm.d1.fit hL
      · rw [hm.l]; exact fit0
    have qj := v_joined (X0 := ledD K n sh) (x.fw sh n (m.yes a)).row (y.fw sh n (m.no a)).row (fun p hp => by
      have := List.of_mem_zip hp
      exact ⟨fitr ox (by omega) _ this.1, fitr oy (by omega) _ this.2⟩) (by simp [Ms.row, ox.len]; have := n16 hn; omega)
    have ej : List.zipWith (· + ·) (x.fw sh n (m.yes a)).row (y.fw sh n (m.no a)).row = ((Stm.cond a x y).fw sh n m).row := by
      have : (x.fw sh n (m.yes a)).ms.length = (y.fw sh n (m.no a)).ms.length := by rw [ox.len, oy.len]
      show List.zipWith (· + ·) (_ ++ [_, _]) (_ ++ [_, _]) = List.zipWith (· + ·) _ _ ++ [_, _]
      rw [List.zipWith_append this]; rfl
    rw [ej] at qj
    refine ⟨_, ?_, fn_rt (r := ((Stm.cond a x y).fw sh n m).T) (e := [some (.fz (ledD K n sh)), some (.fz (Stm.cond a x y).d), some (.fz m.D), none, some (.fz (m.yes a).D), some (.fz (m.no a).D)]) [ledD K n sh, (Stm.cond a x y).d, m.D] ?_⟩
    · rw [ms_td]
    · have hd : (Stm.cond a x y).d = .tup [.str "if", a.d, x.d, y.d] := rfl
      have eT : ((Stm.cond a x y).fw sh n m).T = .lst (((Stm.cond a x y).fw sh n m).row.map Lw.fz) := rfl
      have eX : (x.fw sh n (m.yes a)).D = .lst ((x.fw sh n (m.yes a)).row.map fr) := rfl
      have eY : (y.fw sh n (m.no a)).D = .lst ((y.fw sh n (m.no a)).row.map fr) := rfl
      rw [← eT, ← eX, ← eY] at qj
      rw [hd]
      simp [b_Led_statement, sizeLine, seqD, dStrs, hrp, hrj, hrb, hp, qx, qy, qj]
theorem v_block (hs : ShOk sh) (hk : sh.length = k) (hn : n ≤ 4) : ∀ (j f : Nat) (b : Blk), b.ok n k j → 2 * j ≤ f → BlOkM K n sh (f_Led_block K f) b
  | 0, f, b, h, _ => absurd h (by simp [Blk.ok])
  | j + 1, 0, b, _, h => by omega
  | j + 1, 1, b, _, h => by omega
  | j + 1, f + 2, b, hb, hf => by
    intro J m hm hJ
    unfold f_Led_block
    have hfb := ok_fine hb
    obtain ⟨h1, h2, h3, h4⟩ := hb
    obtain ⟨t', x3', e, q⟩ := block_run (K := K) (f_Led_block K (f + 1)) (f_Led_statement K (f + 1)) (.fz b.d) hs b.sts (fun s hs' => ⟨(fine_sts b).mp hfb s hs', v_statement hs hk hn f s ((fine_sts b).mp hfb s hs') (h4 s hs').1 fun c hc => v_block hs hk hn j f c ((h4 s hs').2 c hc) (by omega)⟩) J m (.fz m.D) none (by simp) hm (by rw [sts_of]; exact hJ)
    rw [sts_of] at e
    rw [← e]
    have h5 : seqD b.d = some (b.sts.map Stm.d) := by simp [Blk.d, ds_sts, seqD]
    refine fn_rt (e := [some (.fz (ledD K n sh)), some (.fz b.d), some (.fz t'.d), x3']) [ledD K n sh, b.d, m.D] ?_
    simp [b_Led_block, h5, q]
end
end Lw

/-! P16 -/
set_option Elab.async false
set_option linter.all false
set_option maxRecDepth 100000
set_option maxHeartbeats 4000000
set_option exponentiation.threshold 100000
namespace Lw
open PySem PySem.Spec PyProof.Rows L2 Fw
/-! a new object -/
def makeK (bk : List (Option Nat)) (e1 : Fw.Env) : Option (T × List T) → Option (T × Fw.Env)
  | some (.fz .non, t :: ts') => (putB bk ts' e1).map fun e2 => (t, e2)
  | _ => none
@[simp] theorem makeK_s (bk : List (Option Nat)) (e1 : Fw.Env) (t : T) (ts : List T) : makeK bk e1 (some (.fz .non, t :: ts)) = (putB bk ts e1).map fun e2 => (t, e2) := rfl
@[simp] theorem a_make (C : Addr) (g : Fn) (bk : List (Option Nat)) (ma : M (List T)) (e : Fw.Env) : mMake C g bk ma e = (ma e).bind fun p => makeK bk p.2 (g (.obj C [] [] :: p.1)) := by
  unfold mMake
  cases ma e with
  | none => rfl
  | some p =>
    obtain ⟨ts, e1⟩ := p
    simp only [Option.bind_some]
    rcases g (.obj C [] [] :: ts) with _ | ⟨r, l⟩
    · rfl
    · cases r with
      | fz d => cases d <;> cases l <;> rfl
      | lst _ => rfl
      | tup _ => rfl
      | obj _ _ _ => rfl
section
variable {K : PySem.W.Frag} {n k : Nat} {sh : List Rat}
theorem v_init (hn : n ≤ 4) (sd : D) : f_Led_init K [.obj (He.ga K "Led") [] [], .fz (.int (n : Int)), .fz sd] = some (.fz .non, [.obj (He.ga K "Led") ["letters", "shares", "many"] [.fz (.int (n : Int)), .fz sd, .fz (.int ((2 ^ n : Nat) : Int))], .fz (.int (n : Int)), .fz sd]) := by
  have hw := v_many_worlds n (by omega)
  unfold f_Led_init mkFn b_Led_init mSeq mSetF
  simp [hw, putNs, putTs, ofs_inj, outsM, Fw.resT]
def Ms.at_ (n w : Nat) : Ms := ⟨(List.range (2 ^ n)).map (fun i => if i = w then 1 else 0), 0, 0⟩
theorem v_start (hn : n ≤ 4) (w : Nat) : f_Led_start K [.fz (ledD K n sh), .fz (.int (w : Int))] = some ((Ms.at_ n w).T, [.fz (ledD K n sh), .fz (.int (w : Int))]) := by
  have h16 := n16 hn
  have hN := led_many K n sh
  have hr := Fw.rng1_n (2 ^ n) (Nat.lt_of_le_of_lt h16 (by decide))
  have hq : q_Led_start_1 K [some (.fz (ledD K n sh)), some (.fz (.int (w : Int))), none] = some (.lst ((Ms.at_ n w).ms.map Lw.fz), [some (.fz (ledD K n sh)), some (.fz (.int (w : Int))), none]) := by
    unfold q_Led_start_1
    rw [lc_map (xs := List.range (2 ^ n)) (e1 := [some (.fz (ledD K n sh)), some (.fz (.int (w : Int))), none]) (fun (i : Nat) => D.int (i : Int)) (fun i => Lw.fz (if i = w then 1 else 0))]
    · rw [Ms.at_, List.map_map]; simp
    · generalize (List.range (2 ^ n)).map (fun (i : Nat) => D.int (i : Int)) = L at hr ⊢
      generalize 2 ^ n = N at hN hr
      simp [hN, hr]
    · simp
    · intro i hi
      refine ⟨[some (.fz (ledD K n sh)), some (.fz (.int (w : Int))), some (.fz (.int (i : Int)))], ?_, by simp, by simp⟩
      by_cases h : i = w
      · subst h; simp [stepC, Lw.fz]
      · have : ¬ (i : Int) = (w : Int) := by omega
        simp [stepC, Lw.fz, h, this]
    · simp [sizeLine]; omega
  refine fn_rt (e := [some (.fz (ledD K n sh)), some (.fz (.int (w : Int))), none]) [ledD K n sh, .int (w : Int)] ?_
  have h4 := add_ll (Ms.at_ n w).ms [0, 0] (by simp [Ms.at_]; omega)
  have e1 : (T.lst ((Ms.at_ n w).ms.map Lw.fz)).d = .lst ((Ms.at_ n w).ms.map fr) := by rw [td_lst, List.map_map, fz_d]
  have e2 : [(0 : Rat), 0].map fr = [fr 0, fr 0] := rfl
  have eT : (Ms.at_ n w).T = .lst (((Ms.at_ n w).ms ++ [0, 0]).map Lw.fz) := rfl
  rw [e2] at h4
  rw [eT]
  generalize (T.lst ((Ms.at_ n w).ms.map Lw.fz)) = A at hq e1
  generalize ((Ms.at_ n w).ms ++ [0, 0]).map Lw.fz = B at h4 ⊢
  generalize (Ms.at_ n w).ms.map fr = C at e1 h4
  simp [b_Led_start, hq, e1, sizeLine, -oAdd_ll, h4]
def Prog.ms (p : Prog) : Ms := p.b.fw p.sh p.n (Ms.at_ p.n 0)
theorem prog_ms (p : Prog) : p.ms = Prg.ms p.sh p.n p.b := rfl
/-- what all steps of a program are within -/
structure Prog.Good (p : Prog) : Prop where
  ok : p.Ok
  sh : ShOk p.sh
theorem v_led_from {p : Prog} (h : p.Good) (w : Nat) (hw : w < 2 ^ p.n) : f_led_from K [.fz p.d, .fz (.int (w : Int))] = some (.fz (p.b.fw p.sh p.n (Ms.at_ p.n w)).D, [.fz p.d, .fz (.int (w : Int))]) := by
  have hi := v_init (K := K) h.ok.n4 (.tup (p.sh.map fr))
  have hst := v_start (K := K) (sh := p.sh) h.ok.n4 w
  have hok : (Ms.at_ p.n w).Ok (2 ^ p.n) 0 := by
    refine ⟨by simp [Ms.at_], fun q hq => ?_, Dv.zero, by show (0 : Rat) ≤ 0; grind, ?_, rfl⟩
    · obtain ⟨i, _, rfl⟩ := List.mem_map.mp hq
      split
      · exact ⟨Dv.one, by grind⟩
      · exact ⟨Dv.zero, by grind⟩
    · have : S (2 ^ p.n) (fun i => if i = w then (1 : Rat) else 0) = 1 := by
        have e := S_fup (n := 2 ^ p.n) (i := w) (f := fun _ => 0) (x := 1) hw
        rw [S_zero] at e
        rw [S_congr (g := fup (fun _ => 0) w 1) fun i _ => by simp [fup], e]; grind
      show S (2 ^ p.n) (fun i => if i = w then (1 : Rat) else 0) + 0 ≤ 1
      rw [this]; grind
  have hb := v_block (K := K) h.sh rfl h.ok.n4 6 16 p.b h.ok.blk (by omega) 0 _ hok (by have := h.ok.dr; omega)
  have hrb : recO (He.ga K "Led") "block" (ledD K p.n p.sh) = some (ledD K p.n p.sh) := led_rec K p.n p.sh "block"
  have hrs : recO (He.ga K "Led") "start" (ledD K p.n p.sh) = some (ledD K p.n p.sh) := led_rec K p.n p.sh "start"
  have eo : (T.obj (He.ga K "Led") ["letters", "shares", "many"] [.fz (.int (p.n : Int)), .fz (.tup (p.sh.map fr)), .fz (.int ((2 ^ p.n : Nat) : Int))]).d = ledD K p.n p.sh := by
    rw [td_obj]; rfl
  have hd : p.d = .tup [.int (p.n : Int), .tup (p.sh.map fr), p.b.d] := rfl
  refine fn_rt (e := [some (.fz p.d), some (.fz (.int (w : Int))), some (.fz (ledD K p.n p.sh))]) [p.d, .int (w : Int)] ?_
  rw [hd]
  generalize (T.obj (He.ga K "Led") ["letters", "shares", "many"] [.fz (.int (p.n : Int)), .fz (.tup (p.sh.map fr)), .fz (.int ((2 ^ p.n : Nat) : Int))]) = A at hi eo
  generalize D.tup (p.sh.map fr) = shd at hi
  simp [b_led_from, hi, eo, hrb, hrs, hst, hb]
theorem Prog.Good.mo {p : Prog} (h : p.Good) : MsOk p.sh p.n p.b := ms_ok h.sh (ok_fine h.ok.blk)
theorem Prog.Good.msok {p : Prog} (h : p.Good) : p.ms.Ok (2 ^ p.n) p.b.dr := h.mo.ok
theorem v_masses_of {p : Prog} (h : p.Good) : f_masses_of K [.fz p.d] = some (.lst (p.ms.ms.map Lw.fz), [.fz p.d]) := by
  have q := v_led_from (K := K) h 0 (Nat.two_pow_pos _)
  have hw := v_many_worlds p.n (by have := h.ok.n4; omega)
  have hs := sl_hi p.ms h.msok.len
  have hd : oIx p.d (.int 0) = some (.int (p.n : Int)) := by simp [Prog.d]
  have q' : f_led_from K [.fz p.d, .fz (.int 0)] = some (.fz p.ms.D, [.fz p.d, .fz (.int 0)]) := q
  refine fn_rt (e := [some (.fz p.d)]) [p.d] ?_
  generalize p.ms.ms.map Lw.fz = A at hs ⊢
  generalize 2 ^ p.n = N at hw hs
  simp [b_masses_of, q', hd, hw, hs]
theorem v_outcome {p : Prog} (h : p.Good) : f_outcome K [.fz p.d] = some (.fz (.tup [.tup (p.ms.ms.map fr), fr p.ms.d, fr p.ms.l]), [.fz p.d]) := by
  have q := v_led_from (K := K) h 0 (Nat.two_pow_pos _)
  have hw := v_many_worlds p.n (by have := h.ok.n4; omega)
  have hs := sl_hi p.ms h.msok.len
  have hd : oIx p.d (.int 0) = some (.int (p.n : Int)) := by simp [Prog.d]
  have q' : f_led_from K [.fz p.d, .fz (.int 0)] = some (.fz p.ms.D, [.fz p.d, .fz (.int 0)]) := q
  have e1 : (T.lst (p.ms.ms.map Lw.fz)).d = .lst (p.ms.ms.map fr) := by rw [td_lst, List.map_map, fz_d]
  have len := h.msok.len
  have g1 : oIx p.ms.D (.int ((2 ^ p.n : Nat) : Int)) = some (fr p.ms.d) := by
    rw [Ms.D, ix_lst, atI_natCast, List.getElem?_map, Ms.row, ← len, List.getElem?_append_right (Nat.le_refl _)]; simp
  have g2 : oIx p.ms.D (.int (((2 ^ p.n : Nat) : Int) + 1)) = some (fr p.ms.l) := by
    rw [show ((2 ^ p.n : Nat) : Int) + 1 = ((2 ^ p.n + 1 : Nat) : Int) by omega]
    rw [Ms.D, ix_lst, atI_natCast, List.getElem?_map, Ms.row, ← len, List.getElem?_append_right (by omega)]; simp
  refine fn_rt (e := [some (.fz p.d), some (.fz p.ms.D), some (.fz (.int ((2 ^ p.n : Nat) : Int)))]) [p.d] ?_
  generalize (T.lst (p.ms.ms.map Lw.fz)) = A at hs e1
  generalize p.ms.ms.map fr = B at e1 ⊢
  generalize 2 ^ p.n = N at hw hs g1 g2 ⊢
  generalize p.ms.D = Z at *
  simp [b_outcome, v_need_program h.ok, q', hd, hw, hs, e1, bTuple, g1, g2, sizeLine]
def Prog.wh (p : Prog) : List Rat := whole p.ms.ms
theorem v_whole {p : Prog} (h : p.Good) : f_whole_masses K [.fz p.d] = some (.lst (p.wh.map Lw.fz), [.fz p.d]) := by
  have q := v_masses_of (K := K) h
  have ok := h.msok
  have hdr : p.b.dr ≤ 100 := by have := h.ok.dr; omega
  have hs := v_sum (X := .lst (p.ms.ms.map fr)) hdr rfl ok.row ok.s1
  have hc : Ch p.b.dr p.ms.ms.sum := ⟨Dv.sum ok.row.dv, sum_nn ok.row.nn, ok.s1⟩
  have hm := v_minus fit1 (hc.fit hdr)
  have e1 : (T.lst (p.ms.ms.map Lw.fz)).d = .lst (p.ms.ms.map fr) := by rw [td_lst, List.map_map, fz_d]
  have h4 := add_ll p.ms.ms [1 - p.ms.ms.sum] (by have := n16 h.ok.n4; simp [ok.len]; omega)
  have e2 : [1 - p.ms.ms.sum].map fr = [fr (1 - p.ms.ms.sum)] := rfl
  rw [e2] at h4
  have eT : (T.lst (p.wh.map Lw.fz)) = .lst ((p.ms.ms ++ [1 - p.ms.ms.sum]).map Lw.fz) := rfl
  have hb : bList [.lst (p.ms.ms.map fr)] = some (.lst (p.ms.ms.map Lw.fz)) := by simp [bList, Lw.fz]
  rw [eT]
  refine fn_rt (e := [some (.fz p.d), some (.fz (.lst (p.ms.ms.map fr)))]) [p.d] ?_
  generalize (T.lst (p.ms.ms.map Lw.fz)) = A at q e1 hb
  generalize (p.ms.ms ++ [1 - p.ms.ms.sum]).map Lw.fz = B at h4 ⊢
  generalize p.ms.ms.map fr = C at e1 h4 hs hb ⊢
  generalize p.ms.ms.sum = s at hs hm h4
  simp [b_whole_masses, q, e1, hb, hs, hm, sizeLine, -oAdd_ll, h4]
theorem v_need_pair {p r : Prog} (hp : p.Good) (hr : r.Good) (hn : p.n = r.n) : f_need_pair [.fz p.d, .fz r.d] = some (.fz .non, [.fz p.d, .fz r.d]) := by
  have hd1 : oIx p.d (.int 0) = some (.int (p.n : Int)) := by simp [Prog.d]
  have hd2 : oIx r.d (.int 0) = some (.int (r.n : Int)) := by simp [Prog.d]
  refine fn_nx (e := [some (.fz p.d), some (.fz r.d)]) [p.d, r.d] ?_
  simp [b_need_pair, v_need_program hp.ok, v_need_program hr.ok, hd1, hd2, hn]
/-! rows of masses that are whole -/
structure Wh (N k : Nat) (a : List Rat) : Prop where
  len : a.length = N
  row : Row k a
  sum : a.sum = 1
theorem Wh.ch {N k : Nat} {a : List Rat} (h : Wh N k a) : ∀ q ∈ a, Ch k q := fun q hq => ⟨h.row.dv q hq, h.row.nn q hq, by have := le_sum h.row.nn hq; have := h.sum; grind⟩
theorem Prog.Good.wh {p : Prog} (h : p.Good) {k : Nat} (hk : p.b.dr ≤ k) : Wh (2 ^ p.n + 1) k p.wh := by
  have ok := h.msok
  refine ⟨by simp [Prog.wh, whole, ok.len], ?_, whole_sum _⟩
  intro q hq
  simp only [Prog.wh, whole, List.mem_append, List.mem_cons, List.not_mem_nil, or_false] at hq
  rcases hq with hq | rfl
  · exact ⟨(ok.row.dv q hq).up hk, ok.row.nn q hq⟩
  · exact ⟨(Dv.one.sub (Dv.sum ok.row.dv)).up hk, by have := ok.s1; grind⟩
def dif (p : Rat × Rat) : Option T := if p.2 < p.1 then some (Lw.fz (p.1 - p.2)) else none
theorem dif_dist : ∀ (a b : List Rat), (a.zip b).filterMap dif = (distL a b).map Lw.fz
  | [], b => by simp [distL]
  | x :: a, [] => by simp [distL]
  | x :: a, y :: b => by
    rw [List.zip_cons_cons, List.filterMap_cons, distL]
    by_cases h : y < x
    · have e : dif (x, y) = some (Lw.fz (x - y)) := by simp [dif, h]
      rw [e, if_pos h]; simp [dif_dist a b]
    · have e : dif (x, y) = none := by simp [dif, h]
      rw [e, if_neg h]; simp [dif_dist a b]
theorem dist_row {k : Nat} : ∀ {a b : List Rat}, Row k a → Row k b → Row k (distL a b)
  | [], b, _, _ => by simp [distL, Row]
  | _ :: _, [], _, _ => by simp [distL, Row]
  | x :: a, y :: b, ha, hb => by
    have h1 := ha x (by simp)
    have h2 := hb y (by simp)
    have h3 := dist_row (a := a) (b := b) (fun q hq => ha q (by simp [hq])) (fun q hq => hb q (by simp [hq]))
    rw [distL]
    split
    · intro q hq
      rcases List.mem_cons.mp hq with rfl | hq
      · exact ⟨h1.1.sub h2.1, by grind⟩
      · exact h3 q hq
    · exact h3
theorem v_distance_of {N k : Nat} {a b : List Rat} (hk : k ≤ 100) (hN : N ≤ 1000) (ha : Wh N k a) (hb : Wh N k b) : f_distance_of [.fz (.lst (a.map fr)), .fz (.lst (b.map fr))] = some (.fz (fr (far a b)), [.fz (.lst (a.map fr)), .fz (.lst (b.map fr))]) := by
  have hl : a.length = b.length := by rw [ha.len, hb.len]
  have hq : q_distance_of_1 [some (.fz (.lst (a.map fr))), some (.fz (.lst (b.map fr))), none, none] = some (.lst ((distL a b).map Lw.fz), [some (.fz (.lst (a.map fr))), some (.fz (.lst (b.map fr))), none, none]) := by
    unfold q_distance_of_1
    rw [lc_list (xs := a.zip b) (e1 := [some (.fz (.lst (a.map fr))), some (.fz (.lst (b.map fr))), none, none]) (fun p => D.tup [fr p.1, fr p.2]) dif]
    · rw [dif_dist]; simp
    · simp [zpF, zipD_fr]
    · simp
    · intro p hp
      have hz := List.of_mem_zip hp
      have f1 := (ha.ch _ hz.1).fit hk
      have f2 := (hb.ch _ hz.2).fit hk
      refine ⟨[some (.fz (.lst (a.map fr))), some (.fz (.lst (b.map fr))), some (.fz (fr p.1)), some (.fz (fr p.2))], ?_, by simp, by simp⟩
      by_cases h : p.2 < p.1
      · simp [stepC, v_is_less f2 f1, v_minus f1 f2, dif, h, Lw.fz]
      · simp [stepC, v_is_less f2 f1, dif, h]
    · simp [sizeLine, ha.len]; omega
  have hs := v_sum (X := .lst ((distL a b).map fr)) hk rfl (dist_row ha.row hb.row) (by have := far_le a b hl ha.row.nn hb.row.nn; rw [ha.sum] at this; exact this)
  refine fn_rt (e := [some (.fz (.lst (a.map fr))), some (.fz (.lst (b.map fr))), none, none]) [.lst (a.map fr), .lst (b.map fr)] ?_
  have e1 : (T.lst ((distL a b).map Lw.fz)).d = .lst ((distL a b).map fr) := by rw [td_lst, List.map_map, fz_d]
  generalize (T.lst ((distL a b).map Lw.fz)) = A at hq e1
  simp [b_distance_of, hq, e1, hs, far]
theorem v_distance {p r : Prog} (hp : p.Good) (hr : r.Good) (hn : p.n = r.n) : f_distance K [.fz p.d, .fz r.d] = some (.fz (fr (far p.wh r.wh)), [.fz p.d, .fz r.d]) := by
  have q1 := v_whole (K := K) hp
  have q2 := v_whole (K := K) hr
  have e1 : (T.lst (p.wh.map Lw.fz)).d = .lst (p.wh.map fr) := by rw [td_lst, List.map_map, fz_d]
  have e2 : (T.lst (r.wh.map Lw.fz)).d = .lst (r.wh.map fr) := by rw [td_lst, List.map_map, fz_d]
  have hd := v_distance_of (N := 2 ^ p.n + 1) (k := 100) (by omega) (by have := n16 hp.ok.n4; omega) (hp.wh (by have := hp.ok.dr; omega)) (hn ▸ hr.wh (by have := hr.ok.dr; omega))
  refine fn_rt (e := [some (.fz p.d), some (.fz r.d)]) [p.d, r.d] ?_
  generalize (T.lst (p.wh.map Lw.fz)) = A at q1 e1
  generalize (T.lst (r.wh.map Lw.fz)) = B at q2 e2
  simp [b_distance, v_need_pair hp hr hn, q1, q2, e1, e2, hd]
/-! the telling lot -/
def tellN : Nat → List Rat → List Rat → List Nat
  | i, x :: a, y :: b => if y < x then i :: tellN (i + 1) a b else tellN (i + 1) a b
  | _, _, _ => []
theorem tellN_pos : ∀ (a b : List Rat) (i : Nat), 0 < (tellN i a b).length ↔ 0 < far a b
  | [], b, i => by simp [tellN, far, distL]
  | _ :: _, [], i => by simp [tellN, far, distL]
  | x :: a, y :: b, i => by
    have h := tellN_pos a b (i + 1)
    have hn : ∀ (a b : List Rat), 0 ≤ far a b := by
      intro a
      induction a with
      | nil => intro b; cases b <;> simp [far, distL]
      | cons x a ih => intro b; cases b with
        | nil => simp [far, distL]
        | cons y b => have := ih b; rw [far_cons]; split <;> grind
    have := hn a b
    rw [tellN, far_cons]
    split
    · simp; grind
    · rw [h]; grind
def tellV (b : List Rat) (p : Nat × Rat) : Option T := if b.getD p.1 0 < p.2 then some (.fz (.int (p.1 : Int))) else none
theorem tell_zip (b0 : List Rat) : ∀ (a b : List Rat) (i : Nat), a.length = b.length → (∀ j, b[j]? = b0[i + j]?) → (a.zipIdx i).filterMap (fun p => tellV b0 (p.2, p.1)) = (tellN i a b).map fun (j : Nat) => T.fz (.int (j : Int))
  | [], b, i, _, _ => by simp [tellN]
  | x :: a, [], i, h, _ => by simp at h
  | x :: a, y :: b, i, h, hb => by
    have h0 := hb 0
    have ih := tell_zip b0 a b (i + 1) (by simpa using h) fun j => by
      have := hb (j + 1)
      rw [show i + 1 + j = i + (j + 1) by omega, ← this]; simp
    have e : b0.getD i 0 = y := by
      rw [List.getD_eq_getElem?_getD]
      simp at h0; rw [← h0]; rfl
    rw [List.zipIdx_cons, List.filterMap_cons, tellN, ih]
    by_cases hc : y < x
    · have : tellV b0 (i, x) = some (.fz (.int (i : Int))) := by simp only [tellV, e]; rw [if_pos hc]
      rw [this, if_pos hc]; rfl
    · have : tellV b0 (i, x) = none := by simp only [tellV, e]; rw [if_neg hc]
      rw [this, if_neg hc]
theorem enumD_zip : ∀ (a : List Rat) (i : Nat), enumD i (a.map fr) = (a.zipIdx i).map fun p => D.tup [.int (p.2 : Int), fr p.1]
  | [], i => rfl
  | x :: a, i => by rw [List.zipIdx_cons, enum_cons, List.map_cons, enumD_zip a]
theorem v_telling {p r : Prog} (hp : p.Good) (hr : r.Good) (hn : p.n = r.n) : f_telling_lot K [.fz p.d, .fz r.d] = some (.fz (.tup ((tellN 0 p.wh r.wh).map fun (j : Nat) => D.int (j : Int))), [.fz p.d, .fz r.d]) := by
  have q1 := v_whole (K := K) hp
  have q2 := v_whole (K := K) hr
  have w1 := hp.wh (k := 100) (by have := hp.ok.dr; omega)
  have w2 := hr.wh (k := 100) (by have := hr.ok.dr; omega)
  have hl : p.wh.length = r.wh.length := by rw [w1.len, w2.len, hn]
  have h16 := n16 hp.ok.n4
  have e1 : (T.lst (p.wh.map Lw.fz)).d = .lst (p.wh.map fr) := by rw [td_lst, List.map_map, fz_d]
  have e2 : (T.lst (r.wh.map Lw.fz)).d = .lst (r.wh.map fr) := by rw [td_lst, List.map_map, fz_d]
  have hq : ∃ X : T, X.d = .lst (r.wh.map fr) ∧ q_telling_lot_1 K [some (.fz p.d), some (.fz r.d), some (.lst (p.wh.map Lw.fz)), some (.lst (r.wh.map Lw.fz)), none, none] = some (.lst ((tellN 0 p.wh r.wh).map fun (j : Nat) => T.fz (.int (j : Int))), [some (.fz p.d), some (.fz r.d), some (.fz (.lst (p.wh.map fr))), some X, none, none]) := by
    unfold q_telling_lot_1
    obtain ⟨e3, ⟨X, hX, rfl⟩, h3⟩ := lc_listI (vs := [4, 5]) (m := mIt enF (mCons (mVar 2) (mRet []))) (g := gTupM (gCons (gNm 4) (gCons (gNm 5) gNil)))
      (c := mB (mF (mCallF f_is_less [none, none] (mCons (mT (mOp oIx (mVar 3) (mVar 4))) (mCons (mT (mVar 5)) (mRet [])))))) (el := mT (mVar 4)) (e := [some (.fz p.d), some (.fz r.d), some (.lst (p.wh.map Lw.fz)), some (.lst (r.wh.map Lw.fz)), none, none])
      (xs := p.wh.zipIdx 0) (e1 := [some (.fz p.d), some (.fz r.d), some (.fz (.lst (p.wh.map fr))), some (.lst (r.wh.map Lw.fz)), none, none]) (fun p => D.tup [.int (p.2 : Int), fr p.1]) (fun q => tellV r.wh (q.2, q.1))
      (fun e => ∃ X : T, X.d = .lst (r.wh.map fr) ∧ e = [some (.fz p.d), some (.fz r.d), some (.fz (.lst (p.wh.map fr))), some X, none, none])
      (by generalize (T.lst (r.wh.map Lw.fz)) = B
          generalize hA : (T.lst (p.wh.map Lw.fz)) = A at e1 ⊢
          simp [enF, e1, enumD_zip]) (by simp) ⟨_, e2, by simp⟩ (by
      rintro q hq e ⟨X, hX, rfl⟩
      have hi : q.2 < r.wh.length := by
        have := List.mem_zipIdx hq
        omega
      have f1 := (w1.ch _ (List.fst_mem_of_mem_zipIdx hq)).fit (by omega)
      have g2 : (r.wh.map fr)[q.2]? = some (fr (r.wh.getD q.2 0)) := by rw [List.getElem?_map, getD_some hi]; rfl
      have f2 := (w2.ch _ (show r.wh.getD q.2 0 ∈ r.wh by rw [List.getD_eq_getElem?_getD, List.getElem?_eq_getElem hi]; exact List.getElem_mem hi)).fit (by omega)
      refine ⟨[some (.fz p.d), some (.fz r.d), some (.fz (.lst (p.wh.map fr))), some (.fz (.lst (r.wh.map fr))), some (.fz (.int (q.2 : Int))), some (.fz (fr q.1))], ?_, ⟨_, td_fz _, by simp⟩, by simp⟩
      have g3 : oIx (.lst (r.wh.map fr)) (.int (q.2 : Int)) = some (fr (r.wh.getD q.2 0)) := by rw [ix_lst, atI_natCast, g2]
      unfold tellV
      generalize r.wh.getD q.2 0 = y at f2 g3
      generalize p.wh.map fr = L1
      generalize r.wh.map fr = L2 at g3 hX ⊢
      simp only [ix_lst, atI_natCast] at g3
      by_cases h : y < q.1
      · simp [stepC, v_is_less f2 f1, h, g3, hX]
      · simp [stepC, v_is_less f2 f1, h, g3, hX]) (by simp [sizeLine, w1.len]; omega)
    refine ⟨X, hX, h3.trans ?_⟩
    rw [tell_zip r.wh p.wh r.wh 0 hl (fun j => by rw [Nat.zero_add])]; simp
  have e3 : (T.lst ((tellN 0 p.wh r.wh).map fun (j : Nat) => T.fz (.int (j : Int)))).d = .lst ((tellN 0 p.wh r.wh).map fun (j : Nat) => D.int (j : Int)) := by
    rw [td_lst, List.map_map]; congr 1
  obtain ⟨X, hX, hq⟩ := hq
  refine fn_rt (e := [some (.fz p.d), some (.fz r.d), some (.fz (.lst (p.wh.map fr))), some X, none, none]) [p.d, r.d] ?_
  generalize (T.lst ((tellN 0 p.wh r.wh).map fun (j : Nat) => T.fz (.int (j : Int)))) = Z at hq e3
  generalize hA : (T.lst (p.wh.map Lw.fz)) = A at q1 e1 hq
  generalize (T.lst (r.wh.map Lw.fz)) = B at q2 e2 hq
  simp [b_telling_lot, v_need_pair hp hr hn, q1, q2, sizeLine, e3, bTuple, hq]
end
end Lw

/-! Fw15 -/
set_option Elab.async false
set_option linter.all false
set_option maxRecDepth 100000
set_option maxHeartbeats 4000000
namespace Fw
open PySem PySem.Spec PyProof.Rows L2
section
variable {e : Fw.Env} {i a b x y : Nat} {rows row : List T} {t : T}
theorem var_at {d : D} (h : e[a]? = some (some (.fz d))) : mVar a e = some (d, e) := by
  rw [a_var, h]
  simp only [Option.join_some, Option.map_some, td_fz, Option.some.injEq, Prod.mk.injEq, true_and]
  exact set_same h
theorem ix_at {pm : M Pl} {ip : Pl} {ts : List T} {d0 : T} (hp : pm e = some (ip, e)) (hi : e[ip.1]? = some (some d0)) (hg : T.get ip.2 d0 = some (.lst ts)) (ha : e[a]? = some (some (.fz (.int (x : Int))))) (hn : ip.1 ≠ a) (hx : x < ts.length) :
    ixAt pm (mVar a) e = some (ip, d0, ts, x, e.set ip.1 none) := by
  have h1 : (e.set ip.1 none)[a]? = some (some (.fz (.int (x : Int)))) := by rw [List.getElem?_set_ne hn, ha]
  have h2 : (e.set ip.1 none)[ip.1]? = some none := by rw [List.getElem?_set_self (List.getElem?_eq_some_iff.mp hi).1]
  unfold ixAt
  rw [hp]
  simp only [treeAt, hi, hg, Option.map_some, var_at h1, intO_i, h2, ixN_c, if_pos hx]
theorem pix_at {pm : M Pl} {ip : Pl} {ts : List T} {d0 : T} (hp : pm e = some (ip, e)) (hi : e[ip.1]? = some (some d0)) (hg : T.get ip.2 d0 = some (.lst ts)) (ha : e[a]? = some (some (.fz (.int (x : Int))))) (hn : ip.1 ≠ a) (hx : x < ts.length) :
    pIx pm (mVar a) e = some ((ip.1, ip.2 ++ [x]), e) := by
  unfold pIx
  rw [ix_at hp hi hg ha hn hx]
  simp only [if_pos hx, List.set_set]
  rw [set_same hi]
theorem pnm_at (hi : e[i]? = some (some t)) : pNm i e = some ((i, []), e) := by rw [a_nm, hi]; rfl
/-- x[a][b] where it is frozen -/
theorem pl_2 {d : D} (hi : e[i]? = some (some (.lst rows))) (ha : e[a]? = some (some (.fz (.int (x : Int))))) (hb : e[b]? = some (some (.fz (.int (y : Int))))) (na : i ≠ a) (nb : i ≠ b) (hr : rows[x]? = some (.lst row)) (hd : row[y]? = some (.fz d)) :
    mPl (pIx (pIx (pNm i) (mVar a)) (mVar b)) e = some (d, e) := by
  have hx := (List.getElem?_eq_some_iff.mp hr).1
  have hy := (List.getElem?_eq_some_iff.mp hd).1
  have h1 := pix_at (pnm_at hi) hi rfl ha na hx
  have h2 := pix_at h1 hi (by simp [T.get, hr]) hb nb hy
  unfold mPl
  rw [h2]
  simp only [treeAt, hi, List.nil_append, List.cons_append, T.get, hr, hd, Option.bind_some, Option.map_some]
/-- x[a][b] = v -/
theorem g_2 {v : T} (hi : e[i]? = some (some (.lst rows))) (ha : e[a]? = some (some (.fz (.int (x : Int))))) (hb : e[b]? = some (some (.fz (.int (y : Int))))) (na : i ≠ a) (nb : i ≠ b) (hr : rows[x]? = some (.lst row)) (hy : y < row.length) :
    gIx (pIx (pNm i) (mVar a)) (mVar b) v e = some (e.set i (some (.lst (rows.set x (.lst (row.set y v)))))) := by
  have hx := (List.getElem?_eq_some_iff.mp hr).1
  have h1 := pix_at (pnm_at hi) hi rfl ha na hx
  have h2 := ix_at h1 hi (by simp [T.get, hr]) hb nb hy
  unfold gIx
  rw [h2]
  simp only [if_pos hy, List.nil_append, T.put, hr, List.set_set]
  
end
end Fw

/-! P17 -/
set_option Elab.async false
set_option linter.all false
set_option maxRecDepth 100000
set_option maxHeartbeats 4000000
set_option exponentiation.threshold 100000
namespace Lw
open PySem PySem.Spec PyProof.Rows L2 Fw
def vT (n : Nat) (L : Nat → Rat) : T := .lst ((List.range n).map fun i => Lw.fz (L i))
def rwT (n : Nat) (F : Nat → Nat → Rat) : List T := (List.range n).map fun i => vT n (F i)
def tbT (n : Nat) (F : Nat → Nat → Rat) : T := .lst (rwT n F)
def vD (n : Nat) (L : Nat → Rat) : List D := (List.range n).map fun i => fr (L i)
section
variable {n k : Nat}
theorem vT_set (L : Nat → Rat) (i : Nat) (q : Rat) : ((List.range n).map fun i => Lw.fz (L i)).set i (.fz (fr q)) = (List.range n).map fun j => Lw.fz (fup L i q j) := by
  rw [set_range]
  refine List.map_congr_left fun j _ => ?_
  unfold fup
  split <;> rfl
theorem vT_get (L : Nat → Rat) {i : Nat} (h : i < n) : ((List.range n).map fun i => Lw.fz (L i))[i]? = some (.fz (fr (L i))) := by
  simp [h, Lw.fz]
theorem rw_get (F : Nat → Nat → Rat) {i : Nat} (h : i < n) : (rwT n F)[i]? = some (vT n (F i)) := by
  simp [rwT, h]
theorem rw_set (F : Nat → Nat → Rat) (i j : Nat) (q : Rat) : (rwT n F).set i (.lst (((List.range n).map fun j => Lw.fz (F i j)).set j (.fz (fr q)))) = rwT n (fup F i (fup (F i) j q)) := by
  rw [vT_set, rwT, set_range]
  refine List.map_congr_left fun l _ => ?_
  unfold fup
  split <;> rfl
/-- a read, a write in a table -/
theorem tb_rd {e : Fw.Env} {i a b x y : Nat} {F : Nat → Nat → Rat} (hi : e[i]? = some (some (tbT n F))) (ha : e[a]? = some (some (.fz (.int (x : Int))))) (hb : e[b]? = some (some (.fz (.int (y : Int))))) (na : i ≠ a) (nb : i ≠ b) (hx : x < n) (hy : y < n) :
    mPl (pIx (pIx (pNm i) (mVar a)) (mVar b)) e = some (fr (F x y), e) := pl_2 hi ha hb na nb (rw_get F hx) (vT_get (F x) hy)
theorem tb_wr {e : Fw.Env} {i a b x y : Nat} {F : Nat → Nat → Rat} {q : Rat} (hi : e[i]? = some (some (tbT n F))) (ha : e[a]? = some (some (.fz (.int (x : Int))))) (hb : e[b]? = some (some (.fz (.int (y : Int))))) (na : i ≠ a) (nb : i ≠ b) (hx : x < n) (hy : y < n) :
    gIx (pIx (pNm i) (mVar a)) (mVar b) (.fz (fr q)) e = some (e.set i (some (tbT n (fup F x (fup (F x) y q))))) := by
  rw [g_2 hi ha hb na nb (rw_get F hx) (by simpa using hy), rw_set]; rfl
theorem v_rd {e : Fw.Env} {i a x : Nat} {L : Nat → Rat} (hi : e[i]? = some (some (vT n L))) (ha : e[a]? = some (some (.fz (.int (x : Int))))) (na : i ≠ a) (hx : x < n) :
    mPl (pIx (pNm i) (mVar a)) e = some (fr (L x), e) := by
  have h2 := pix_at (pnm_at hi) hi rfl ha na (by simpa using hx)
  unfold mPl
  rw [h2]
  simp only [treeAt, hi, List.nil_append, vT, T.get, vT_get L hx, Option.bind_some, Option.map_some]
theorem v_wr {e : Fw.Env} {i a x : Nat} {L : Nat → Rat} {q : Rat} (hi : e[i]? = some (some (vT n L))) (ha : e[a]? = some (some (.fz (.int (x : Int))))) (na : i ≠ a) (hx : x < n) :
    gIx (pNm i) (mVar a) (.fz (fr q)) e = some (e.set i (some (vT n (fup L x q)))) := by
  have h2 := ix_at (pnm_at hi) hi rfl ha na (by simpa using hx)
  unfold gIx
  rw [h2]
  have hl : x < ((List.range n).map fun i => Lw.fz (L i)).length := by simpa using hx
  simp only [T.put, List.set_set]
  rw [if_pos hl, vT_set]; rfl
end
section
variable {K : PySem.W.Frag} {n k : Nat} {P Q : Nat → Rat} (hk : k ≤ 100) (hP : ∀ i < n, Ch k (P i)) (hQ : ∀ i < n, Ch k (Q i))
/-- the diagonal -/
def dg (P Q : Nat → Rat) (e : Nat) (i j : Nat) : Rat := if i = j ∧ i < e then mn (P i) (Q i) else 0
theorem dg_fup (e : Nat) : fup (dg P Q e) e (fup (dg P Q e e) e (mn (P e) (Q e))) = dg P Q (e + 1) := by
  funext i j
  unfold fup dg
  by_cases hi : i = e
  · subst hi
    by_cases hj : j = i
    · subst hj; simp
    · rw [if_pos rfl, if_neg hj, if_neg (by omega), if_neg (by omega)]
  · rw [if_neg hi]
    by_cases hc : i = j ∧ i < e
    · rw [if_pos hc, if_pos ⟨hc.1, by omega⟩]
    · rw [if_neg hc, if_neg (by omega)]
include hk hP hQ
theorem diag_run (X0 X1 : T) (x4 x7 x8 x9 x10 x11 x12 x13 : Option T) : ∀ (r e : Nat) (X3 : T) (x6 : Option D), e + r = n → X3.d = .lst (vD n Q) → ∃ (X3' : T) (x6' : Option D), X3'.d = .lst (vD n Q) ∧
    loopM (gNm 6) (l_drawn_together_3 K) ((List.range' e r).map fun (j : Nat) => D.int (j : Int)) [some X0, some X1, some (.fz (.lst (vD n P))), some X3, x4, some (tbT n (dg P Q e)), x6.map .fz, x7, x8, x9, x10, x11, x12, x13] =
      some (.nx, [some X0, some X1, some (.fz (.lst (vD n P))), some X3', x4, some (tbT n (dg P Q (e + r))), x6'.map .fz, x7, x8, x9, x10, x11, x12, x13])
  | 0, e, X3, x6, _, h3 => ⟨X3, x6, h3, by simp⟩
  | r + 1, e, X3, x6, he, h3 => by
    obtain ⟨X3', x6', h, q⟩ := diag_run X0 X1 x4 x7 x8 x9 x10 x11 x12 x13 r (e + 1) (.fz (.lst (vD n Q))) (some (.int (e : Int))) (by omega) (td_fz _)
    refine ⟨X3', x6', h, ?_⟩
    rw [List.range'_succ, List.map_cons]
    rw [show e + (r + 1) = e + 1 + r by omega]
    refine loop_nx (e1 := [some X0, some X1, some (.fz (.lst (vD n P))), some X3, x4, some (tbT n (dg P Q e)), some (.fz (.int (e : Int))), x7, x8, x9, x10, x11, x12, x13]) (by simp) ?_ q
    have hlt : e < n := by omega
    have gP : (vD n P)[e]? = some (fr (P e)) := by simp [vD, hlt]
    have gQ : (vD n Q)[e]? = some (fr (Q e)) := by simp [vD, hlt]
    have hl := v_less_of ((hP e hlt).fit hk) ((hQ e hlt).fit hk)
    have hw := tb_wr (n := n) (e := [some X0, some X1, some (.fz (.lst (vD n P))), some (.fz (.lst (vD n Q))), x4, some (tbT n (dg P Q e)), some (.fz (.int (e : Int))), x7, x8, x9, x10, x11, x12, x13]) (i := 5) (a := 6) (b := 6) (x := e) (y := e) (q := mn (P e) (Q e)) rfl rfl rfl (by decide) (by decide) hlt hlt
    rw [dg_fup] at hw
    have e1 : (if Q e < P e then Q e else P e) = mn (P e) (Q e) := rfl
    rw [e1] at hl
    generalize vD n P = LP at gP hw ⊢
    generalize vD n Q = LQ at gQ h3 hw ⊢
    generalize mn (P e) (Q e) = z at hl hw
    simp [l_drawn_together_3, gP, gQ, h3, hl, hw]
omit hk hP hQ in
theorem enum_vD (P : Nat → Rat) : enumD 0 (vD n P) = (List.range n).map fun (i : Nat) => D.tup [.int (i : Int), fr (P i)] := by
  have : ∀ (r i : Nat), enumD i ((List.range' i r).map fun i => fr (P i)) = (List.range' i r).map fun (i : Nat) => D.tup [.int (i : Int), fr (P i)] := by
    intro r
    induction r with
    | zero => intro i; rfl
    | succ r ih => intro i; rw [List.range'_succ, List.map_cons, List.map_cons, ← ih (i + 1)]; rfl
  have h := this n 0
  rw [← List.range_eq_range'] at h
  exact h
omit hk hP hQ in
theorem left_run (hk : k ≤ 100) (hn : n ≤ 1000) (hP : ∀ i < n, Ch k (P i)) (F : Nat → Nat → Rat) (hF : ∀ i < n, Ch k (F i i)) (X0 X1 X3 : T) (x4 x7 x8 x9 x10 x11 x13 : Option T) (x6 : Option D) :
    q_drawn_together_3 K [some X0, some X1, some (.fz (.lst (vD n P))), some X3, x4, some (tbT n F), x6.map .fz, x7, x8, x9, x10, x11, none, x13] = some (vT n (fun i => P i - F i i), [some X0, some X1, some (.fz (.lst (vD n P))), some X3, x4, some (tbT n F), x6.map .fz, x7, x8, x9, x10, x11, none, x13]) := by
  unfold q_drawn_together_3
  rw [lc_map (xs := List.range n) (e1 := [some X0, some X1, some (.fz (.lst (vD n P))), some X3, x4, some (tbT n F), x6.map .fz, x7, x8, x9, x10, x11, none, x13]) (fun (i : Nat) => D.tup [.int (i : Int), fr (P i)]) (fun i => Lw.fz (P i - F i i))]
  · simp [vT]
  · simp [enF, enum_vD]
  · simp
  · intro i hi
    have hi : i < n := by simpa using hi
    refine ⟨[some X0, some X1, some (.fz (.lst (vD n P))), some X3, x4, some (tbT n F), some (.fz (.int (i : Int))), x7, x8, x9, x10, x11, some (.fz (fr (P i))), x13], ?_, by simp, by simp⟩
    have hr := tb_rd (n := n) (F := F) (e := [some X0, some X1, some (.fz (.lst (vD n P))), some X3, x4, some (tbT n F), some (.fz (.int (i : Int))), x7, x8, x9, x10, x11, some (.fz (fr (P i))), x13]) (i := 5) (a := 6) (b := 6) (x := i) (y := i) rfl rfl rfl (by decide) (by decide) hi hi
    have hm := v_minus ((hP i hi).fit hk) ((hF i hi).fit hk)
    simp [stepC, hr, hm, Lw.fz]
  · simp [sizeLine]; omega
omit hk hP hQ in
theorem lack_run (hk : k ≤ 100) (hn : n ≤ 1000) (hQ : ∀ i < n, Ch k (Q i)) (F : Nat → Nat → Rat) (hF : ∀ i < n, Ch k (F i i)) (X0 X1 X2 X3 : T) (h3 : X3.d = .lst (vD n Q)) (x4 x7 x8 x9 x10 x11 x13 : Option T) (x6 : Option D) :
    q_drawn_together_2 K [some X0, some X1, some X2, some X3, x4, some (tbT n F), x6.map .fz, x7, x8, x9, x10, x11, none, x13] = some (vT n (fun i => Q i - F i i), [some X0, some X1, some X2, some (.fz (.lst (vD n Q))), x4, some (tbT n F), x6.map .fz, x7, x8, x9, x10, x11, none, x13]) := by
  unfold q_drawn_together_2
  rw [lc_map (xs := List.range n) (e1 := [some X0, some X1, some X2, some (.fz (.lst (vD n Q))), x4, some (tbT n F), x6.map .fz, x7, x8, x9, x10, x11, none, x13]) (fun (i : Nat) => D.tup [.int (i : Int), fr (Q i)]) (fun i => Lw.fz (Q i - F i i))]
  · simp [vT]
  · simp [enF, enum_vD, h3]
  · simp
  · intro i hi
    have hi : i < n := by simpa using hi
    refine ⟨[some X0, some X1, some X2, some (.fz (.lst (vD n Q))), x4, some (tbT n F), some (.fz (.int (i : Int))), x7, x8, x9, x10, x11, some (.fz (fr (Q i))), x13], ?_, by simp, by simp⟩
    have hr := tb_rd (n := n) (F := F) (e := [some X0, some X1, some X2, some (.fz (.lst (vD n Q))), x4, some (tbT n F), some (.fz (.int (i : Int))), x7, x8, x9, x10, x11, some (.fz (fr (Q i))), x13]) (i := 5) (a := 6) (b := 6) (x := i) (y := i) rfl rfl rfl (by decide) (by decide) hi hi
    have hm := v_minus ((hQ i hi).fit hk) ((hF i hi).fit hk)
    simp [stepC, hr, hm, Lw.fz]
  · simp [sizeLine]; omega
omit hP hQ in
/-- one place of the table -/
theorem step_run (X0 X1 X2 X3 : T) (x4 x10 x11 x12 x13 : Option T) (s : Tb) (hs : s.Ok n k P Q) (e t : Nat) (he : e < n) (ht : t < n) : ∃ x10' : Option T,
    l_drawn_together_1 K [some X0, some X1, some X2, some X3, x4, some (tbT n s.F), some (.fz (.int (e : Int))), some (vT n s.L), some (vT n s.K), some (.fz (.int (t : Int))), x10, x11, x12, x13] =
      some (.nx, [some X0, some X1, some X2, some X3, x4, some (tbT n (s.step e t).F), some (.fz (.int (e : Int))), some (vT n (s.step e t).L), some (vT n (s.step e t).K), some (.fz (.int (t : Int))), x10', x11, x12, x13]) := by
  refine ⟨some (.fz (fr (mn (s.L e) (s.K t)))), ?_⟩
  have le := hs.l e he
  have kt := hs.k t ht
  have fe := hs.f e he t ht
  have mc := le.mn kt
  have hl := v_less_of (le.fit hk) (kt.fit hk)
  have e1 : (if s.K t < s.L e then s.K t else s.L e) = mn (s.L e) (s.K t) := rfl
  rw [e1] at hl
  have hp := v_plus (fe.fit hk) (mc.fit hk)
  have hm1 := v_minus (le.fit hk) (mc.fit hk)
  have hm2 := v_minus (kt.fit hk) (mc.fit hk)
  have r1 := v_rd (n := n) (L := s.L) (e := [some X0, some X1, some X2, some X3, x4, some (tbT n s.F), some (.fz (.int (e : Int))), some (vT n s.L), some (vT n s.K), some (.fz (.int (t : Int))), x10, x11, x12, x13]) (i := 7) (a := 6) (x := e) rfl rfl (by decide) he
  have r2 := v_rd (n := n) (L := s.K) (e := [some X0, some X1, some X2, some X3, x4, some (tbT n s.F), some (.fz (.int (e : Int))), some (vT n s.L), some (vT n s.K), some (.fz (.int (t : Int))), x10, x11, x12, x13]) (i := 8) (a := 9) (x := t) rfl rfl (by decide) ht
  unfold Tb.step
  generalize hz : mn (s.L e) (s.K t) = z at hl hp hm1 hm2
  by_cases h0 : 0 < z
  · have h0' : 0 < z.num := num_pos.mpr h0
    rw [if_pos h0]
    have r3 := tb_rd (n := n) (F := s.F) (e := [some X0, some X1, some X2, some X3, x4, some (tbT n s.F), some (.fz (.int (e : Int))), some (vT n s.L), some (vT n s.K), some (.fz (.int (t : Int))), some (.fz (fr z)), x11, x12, x13]) (i := 5) (a := 6) (b := 9) (x := e) (y := t) rfl rfl rfl (by decide) (by decide) he ht
    have w3 := tb_wr (n := n) (F := s.F) (q := s.F e t + z) (e := [some X0, some X1, some X2, some X3, x4, some (tbT n s.F), some (.fz (.int (e : Int))), some (vT n s.L), some (vT n s.K), some (.fz (.int (t : Int))), some (.fz (fr z)), x11, x12, x13]) (i := 5) (a := 6) (b := 9) (x := e) (y := t) rfl rfl rfl (by decide) (by decide) he ht
    generalize fup s.F e (fup (s.F e) t (s.F e t + z)) = F' at w3 ⊢
    have r4 := v_rd (n := n) (L := s.L) (e := [some X0, some X1, some X2, some X3, x4, some (tbT n F'), some (.fz (.int (e : Int))), some (vT n s.L), some (vT n s.K), some (.fz (.int (t : Int))), some (.fz (fr z)), x11, x12, x13]) (i := 7) (a := 6) (x := e) rfl rfl (by decide) he
    have r5 := v_rd (n := n) (L := s.K) (e := [some X0, some X1, some X2, some X3, x4, some (tbT n F'), some (.fz (.int (e : Int))), some (vT n s.L), some (vT n s.K), some (.fz (.int (t : Int))), some (.fz (fr z)), x11, x12, x13]) (i := 8) (a := 9) (x := t) rfl rfl (by decide) ht
    have w4 := v_wr (n := n) (L := s.L) (q := s.L e - z) (e := [some X0, some X1, some X2, some X3, x4, some (tbT n F'), some (.fz (.int (e : Int))), some (vT n s.L), some (vT n s.K), some (.fz (.int (t : Int))), some (.fz (fr z)), x11, x12, x13]) (i := 7) (a := 6) (x := e) rfl rfl (by decide) he
    generalize fup s.L e (s.L e - z) = L' at w4 ⊢
    have w5 := v_wr (n := n) (L := s.K) (q := s.K t - z) (e := [some X0, some X1, some X2, some X3, x4, some (tbT n F'), some (.fz (.int (e : Int))), some (vT n L'), some (vT n s.K), some (.fz (.int (t : Int))), some (.fz (fr z)), x11, x12, x13]) (i := 8) (a := 9) (x := t) rfl rfl (by decide) ht
    generalize fup s.K t (s.K t - z) = K' at w5 ⊢
    generalize tbT n s.F = A1 at *
    generalize tbT n F' = A2 at *
    generalize vT n s.L = A3 at *
    generalize vT n s.K = A4 at *
    generalize vT n L' = A5 at *
    generalize vT n K' = A6 at *
    generalize s.L e = le' at *
    generalize s.K t = kt' at *
    generalize s.F e t = fe' at *
    simp [l_drawn_together_1, r1, r2, hl, h0', r3, hp, w3, r4, r5, hm1, hm2, w4, w5, sizeLine]
  · have h0' : ¬ 0 < z.num := fun h => h0 (num_pos.mp h)
    rw [if_neg h0]
    generalize tbT n s.F = A1 at *
    generalize vT n s.L = A3 at *
    generalize vT n s.K = A4 at *
    generalize s.L e = le' at *
    generalize s.K t = kt' at *
    simp [l_drawn_together_1, r1, r2, hl, h0']
theorem Tb.Ok.upto (h1 : ∀ i < n, P i ≤ 1) {s : Tb} (hs : s.Ok n k P Q) {e t : Nat} (he : e < n) (ht : t ≤ n) : (Tb.row e t s).Ok n k P Q := (Tb.Ok.rows h1 hs he t ht).1
omit hQ in
theorem inner_run (X0 X1 X2 X3 : T) (x4 x11 x12 x13 : Option T) (s : Tb) (hs : s.Ok n k P Q) (e : Nat) (he : e < n) : ∀ (r t : Nat) (x9 x10 : Option T), t + r = n → ∃ x9' x10' : Option T,
    loopM (gNm 9) (l_drawn_together_1 K) ((List.range' t r).map fun (j : Nat) => D.int (j : Int)) [some X0, some X1, some X2, some X3, x4, some (tbT n (Tb.row e t s).F), some (.fz (.int (e : Int))), some (vT n (Tb.row e t s).L), some (vT n (Tb.row e t s).K), x9, x10, x11, x12, x13] =
      some (.nx, [some X0, some X1, some X2, some X3, x4, some (tbT n (Tb.row e (t + r) s).F), some (.fz (.int (e : Int))), some (vT n (Tb.row e (t + r) s).L), some (vT n (Tb.row e (t + r) s).K), x9', x10', x11, x12, x13])
  | 0, t, x9, x10, _ => ⟨x9, x10, by simp⟩
  | r + 1, t, x9, x10, ht => by
    have h1 : ∀ i < n, P i ≤ 1 := fun i hi => (hP i hi).le
    obtain ⟨y10, q1⟩ := step_run (K := K) hk X0 X1 X2 X3 x4 x10 x11 x12 x13 (Tb.row e t s) ((Tb.Ok.rows h1 hs he t (by omega)).1) e t he (by omega)
    obtain ⟨x9', x10', q⟩ := inner_run X0 X1 X2 X3 x4 x11 x12 x13 s hs e he r (t + 1) (some (.fz (.int (t : Int)))) y10 (by omega)
    refine ⟨x9', x10', ?_⟩
    rw [List.range'_succ, List.map_cons, show t + (r + 1) = t + 1 + r by omega]
    exact loop_nx (e1 := [some X0, some X1, some X2, some X3, x4, some (tbT n (Tb.row e t s).F), some (.fz (.int (e : Int))), some (vT n (Tb.row e t s).L), some (vT n (Tb.row e t s).K), some (.fz (.int (t : Int))), x10, x11, x12, x13]) (by simp) q1 q
omit hQ in
theorem outer_run (hn : n ≤ 1000) (X0 X1 X2 X3 : T) (x11 x12 x13 : Option T) (s : Tb) (hs : s.Ok n k P Q) : ∀ (r e : Nat) (x6 x9 x10 : Option T), e + r = n → ∃ x6' x9' x10' : Option T,
    loopM (gNm 6) (l_drawn_together_2 K) ((List.range' e r).map fun (j : Nat) => D.int (j : Int)) [some X0, some X1, some X2, some X3, some (.fz (.int (n : Int))), some (tbT n (Tb.all n e s).F), x6, some (vT n (Tb.all n e s).L), some (vT n (Tb.all n e s).K), x9, x10, x11, x12, x13] =
      some (.nx, [some X0, some X1, some X2, some X3, some (.fz (.int (n : Int))), some (tbT n (Tb.all n (e + r) s).F), x6', some (vT n (Tb.all n (e + r) s).L), some (vT n (Tb.all n (e + r) s).K), x9', x10', x11, x12, x13])
  | 0, e, x6, x9, x10, _ => ⟨x6, x9, x10, by simp⟩
  | r + 1, e, x6, x9, x10, he => by
    have h1 : ∀ i < n, P i ≤ 1 := fun i hi => (hP i hi).le
    obtain ⟨y9, y10, q1⟩ := inner_run (K := K) hk hP X0 X1 X2 X3 (some (.fz (.int (n : Int)))) x11 x12 x13 (Tb.all n e s) ((hs.full h1 e (by omega)).1) e (by omega) n 0 x9 x10 (by omega)
    obtain ⟨x6', x9', x10', q⟩ := outer_run hn X0 X1 X2 X3 x11 x12 x13 s hs r (e + 1) (some (.fz (.int (e : Int)))) y9 y10 (by omega)
    refine ⟨x6', x9', x10', ?_⟩
    rw [List.range'_succ, List.map_cons, show e + (r + 1) = e + 1 + r by omega]
    refine loop_nx (e1 := [some X0, some X1, some X2, some X3, some (.fz (.int (n : Int))), some (tbT n (Tb.all n e s).F), some (.fz (.int (e : Int))), some (vT n (Tb.all n e s).L), some (vT n (Tb.all n e s).K), x9, x10, x11, x12, x13]) (by simp) ?_ q
    have hr := Fw.rng1_n n (Nat.lt_of_le_of_lt hn (by decide))
    rw [← List.range_eq_range', Nat.zero_add] at q1
    have e0 : Tb.row e 0 (Tb.all n e s) = Tb.all n e s := rfl
    have e1 : Tb.row e n (Tb.all n e s) = Tb.all n (e + 1) s := rfl
    rw [e0, e1] at q1
    generalize (List.range n).map (fun (i : Nat) => D.int (i : Int)) = M5 at hr q1
    simp [l_drawn_together_2, hr, q1]
end
theorem rw_congr {n : Nat} {F G : Nat → Nat → Rat} (h : ∀ i < n, ∀ j < n, F i j = G i j) : tbT n F = tbT n G := by
  unfold tbT rwT vT
  congr 1
  refine List.map_congr_left fun i hi => ?_
  congr 1
  refine List.map_congr_left fun j hj => ?_
  rw [h i (by simpa using hi) j (by simpa using hj)]
theorem vT_congr {n : Nat} {L M : Nat → Rat} (h : ∀ i < n, L i = M i) : vT n L = vT n M := by
  unfold vT
  congr 1
  refine List.map_congr_left fun i hi => ?_
  rw [h i (by simpa using hi)]
theorem vD_list (a : List Rat) : a.map fr = vD a.length (fun i => a.getD i 0) := by
  conv => lhs; rw [← range_getD a]
  rw [List.map_map]; rfl
theorem zeros_run {K : PySem.W.Frag} {n : Nat} (hn : n ≤ 1000) (X0 X1 X2 X3 : T) (x5 x6 x7 x8 x9 x10 x12 x13 : Option T) :
    q_drawn_together_4 K [some X0, some X1, some X2, some X3, some (.fz (.int (n : Int))), x5, x6, x7, x8, x9, x10, none, x12, x13] = some (tbT n (fun _ _ => 0), [some X0, some X1, some X2, some X3, some (.fz (.int (n : Int))), x5, x6, x7, x8, x9, x10, none, x12, x13]) := by
  unfold q_drawn_together_4
  have hr := Fw.rng1_n n (Nat.lt_of_le_of_lt hn (by decide))
  have hz := mul_zero n (by omega)
  rw [lc_map (xs := List.range n) (e1 := [some X0, some X1, some X2, some X3, some (.fz (.int (n : Int))), x5, x6, x7, x8, x9, x10, none, x12, x13]) (fun (i : Nat) => D.int (i : Int)) (fun _ => T.lst ((List.replicate n (0 : Rat)).map Lw.fz))]
  · simp [tbT, rwT, vT]
    intro a _
    rw [List.map_const']; simp
  · simp [hr]
  · simp
  · intro i hi
    refine ⟨[some X0, some X1, some X2, some X3, some (.fz (.int (n : Int))), x5, x6, x7, x8, x9, x10, some (.fz (.int (i : Int))), x12, x13], ?_, by simp, by simp⟩
    generalize (T.lst ((List.replicate n (0 : Rat)).map Lw.fz)) = Z at hz ⊢
    simp [stepC, sizeLine, hz]
  · simp [sizeLine]; omega
theorem tups_run {K : PySem.W.Frag} {n : Nat} (hn : n ≤ 1000) (F : Nat → Nat → Rat) (X0 X1 X2 X3 : T) (x4 x6 x7 x8 x9 x10 x11 x12 : Option T) :
    q_drawn_together_1 K [some X0, some X1, some X2, some X3, x4, some (tbT n F), x6, x7, x8, x9, x10, x11, x12, none] = some (.lst ((List.range n).map fun i => T.fz (.tup (vD n (F i)))), [some X0, some X1, some X2, some X3, x4, some (.fz (.lst ((List.range n).map fun i => .lst (vD n (F i))))), x6, x7, x8, x9, x10, x11, x12, none]) := by
  unfold q_drawn_together_1
  have ed : (tbT n F).d = .lst ((List.range n).map fun i => .lst (vD n (F i))) := by
    unfold tbT rwT
    rw [td_lst, List.map_map]
    congr 1
    refine List.map_congr_left fun i _ => ?_
    simp only [Function.comp, vT, td_lst, List.map_map, vD]
    congr 1
  rw [lc_map (xs := List.range n) (e1 := [some X0, some X1, some X2, some X3, x4, some (.fz (.lst ((List.range n).map fun i => .lst (vD n (F i))))), x6, x7, x8, x9, x10, x11, x12, none]) (fun i => D.lst (vD n (F i))) (fun i => T.fz (.tup (vD n (F i))))]
  · simp
  · generalize tbT n F = A at ed ⊢
    simp [ed, seqD]
  · simp
  · intro i hi
    refine ⟨[some X0, some X1, some X2, some X3, x4, some (.fz (.lst ((List.range n).map fun i => .lst (vD n (F i))))), x6, x7, x8, x9, x10, x11, x12, some (.fz (.lst (vD n (F i))))], ?_, by simp, by simp⟩
    generalize (List.range n).map (fun i => D.lst (vD n (F i))) = Z
    simp [stepC, bTuple]
  · simp [sizeLine]; omega
/-- the table of two programs -/
def Prog.tab (p r : Prog) : Tb := Tb.all (2 ^ p.n + 1) (2 ^ p.n + 1) (Tb.start (fun i => p.wh.getD i 0) (fun i => r.wh.getD i 0))
def tabD (n : Nat) (F : Nat → Nat → Rat) : D := .tup ((List.range n).map fun i => .tup (vD n (F i)))
theorem Wh.getD {N k : Nat} {a : List Rat} (h : Wh N k a) : ∀ i < N, Ch k (a.getD i 0) := fun i hi => h.ch _ (by
  rw [List.getD_eq_getElem?_getD, List.getElem?_eq_getElem (by rw [h.len]; exact hi)]; exact List.getElem_mem _)
theorem v_drawn_together {K : PySem.W.Frag} {p r : Prog} (hp : p.Good) (hr : r.Good) (hn : p.n = r.n) : f_drawn_together K [.fz p.d, .fz r.d] = some (.fz (tabD (2 ^ p.n + 1) (p.tab r).F), [.fz p.d, .fz r.d]) := by
  have q1 := v_whole (K := K) hp
  have q2 := v_whole (K := K) hr
  have w1 := hp.wh (k := 100) (by have := hp.ok.dr; omega)
  have w2 := hr.wh (k := 100) (by have := hr.ok.dr; omega)
  rw [← hn] at w2
  have e1 : (T.lst (p.wh.map Lw.fz)).d = .lst (p.wh.map fr) := by rw [td_lst, List.map_map, fz_d]
  have e2 : (T.lst (r.wh.map Lw.fz)).d = .lst (r.wh.map fr) := by rw [td_lst, List.map_map, fz_d]
  have h16 := n16 hp.ok.n4
  have hN : 2 ^ p.n + 1 ≤ 1000 := by omega
  obtain ⟨P, hPd⟩ : ∃ P : Nat → Rat, P = fun i => p.wh.getD i 0 := ⟨_, rfl⟩
  obtain ⟨Q, hQd⟩ : ∃ Q : Nat → Rat, Q = fun i => r.wh.getD i 0 := ⟨_, rfl⟩
  have g1 : ∀ i < 2 ^ p.n + 1, Ch 100 (P i) := by rw [hPd]; exact w1.getD
  have g2 : ∀ i < 2 ^ p.n + 1, Ch 100 (Q i) := by rw [hQd]; exact w2.getD
  have hsum : S (2 ^ p.n + 1) (fun i => p.wh.getD i 0) = S (2 ^ p.n + 1) (fun i => r.wh.getD i 0) := by
    have a1 := S_getD p.wh
    have a2 := S_getD r.wh
    rw [w1.len, w1.sum] at a1
    rw [w2.len, w2.sum] at a2
    rw [a1, a2]
  have l1 : p.wh.map fr = vD (2 ^ p.n + 1) (fun i => p.wh.getD i 0) := by rw [vD_list, w1.len]
  have l2 : r.wh.map fr = vD (2 ^ p.n + 1) (fun i => r.wh.getD i 0) := by rw [vD_list, w2.len]
  have st := Tb.start_ok g1 g2 (show S (2 ^ p.n + 1) P = S (2 ^ p.n + 1) Q by rw [hPd, hQd]; exact hsum)
  have hN2 := Fw.rng1_n (2 ^ p.n + 1) (Nat.lt_of_le_of_lt hN (by decide))
  have hlen : (p.wh.map fr).length = 2 ^ p.n + 1 := by rw [List.length_map, w1.len]
  have hnp := v_need_pair hp hr hn
  have etab : (p.tab r) = Tb.all (2 ^ p.n + 1) (2 ^ p.n + 1) (Tb.start (fun i => p.wh.getD i 0) (fun i => r.wh.getD i 0)) := rfl
  rw [etab]
  rw [l1] at e1 hlen
  rw [l2] at e2
  generalize (T.lst (p.wh.map Lw.fz)) = A at q1 e1
  generalize (T.lst (r.wh.map Lw.fz)) = B at q2 e2
  clear l1 l2 w1 w2
  rw [← hPd] at e1 hlen
  rw [← hQd] at e2
  rw [← hPd, ← hQd]
  clear hPd hQd etab hsum
  generalize 2 ^ p.n + 1 = N at *
  have z := zeros_run (K := K) (n := N) hN (.fz p.d) (.fz r.d) (.fz (.lst (vD N P))) B none none none none none none none none
  obtain ⟨X3, x6, hX3, dq⟩ := diag_run (K := K) (P := P) (Q := Q) (n := N) (k := 100) (by omega) g1 g2 (.fz p.d) (.fz r.d) (some (.fz (.int (N : Int)))) none none none none none none none N 0 B none (by omega) e2
  have d0 : tbT N (dg P Q 0) = tbT N (fun _ _ => 0) := rw_congr fun i _ j _ => by simp [dg]
  have dN : tbT N (dg P Q N) = tbT N (Tb.start P Q).F := rw_congr fun i hi j _ => by simp [dg, Tb.start, hi]
  rw [Nat.zero_add, d0, dN, ← List.range_eq_range', Option.map_none] at dq
  have lq := left_run (K := K) (k := 100) (by omega) hN g1 (Tb.start P Q).F (fun i hi => st.f i hi i hi) (.fz p.d) (.fz r.d) X3 (some (.fz (.int (N : Int)))) none none none none none none x6
  have vl : vT N (fun i => P i - (Tb.start P Q).F i i) = vT N (Tb.start P Q).L := vT_congr fun i hi => by simp [Tb.start]
  rw [vl] at lq
  have kq := lack_run (K := K) (k := 100) (by omega) hN g2 (Tb.start P Q).F (fun i hi => st.f i hi i hi) (.fz p.d) (.fz r.d) (.fz (.lst (vD N P))) X3 hX3 (some (.fz (.int (N : Int)))) (some (vT N (Tb.start P Q).L)) none none none none none x6
  have vk : vT N (fun i => Q i - (Tb.start P Q).F i i) = vT N (Tb.start P Q).K := vT_congr fun i hi => by simp [Tb.start]
  rw [vk] at kq
  obtain ⟨y6, y9, y10, oq⟩ := outer_run (K := K) (k := 100) (by omega) g1 hN (.fz p.d) (.fz r.d) (.fz (.lst (vD N P))) (.fz (.lst (vD N Q))) none none none (Tb.start P Q) st N 0 (x6.map .fz) none none (by omega)
  rw [Nat.zero_add, ← List.range_eq_range'] at oq
  have t0 : Tb.all N 0 (Tb.start P Q) = Tb.start P Q := rfl
  rw [t0] at oq
  generalize Tb.all N N (Tb.start P Q) = R at oq ⊢
  have tq := tups_run (K := K) hN R.F (.fz p.d) (.fz r.d) (.fz (.lst (vD N P))) (.fz (.lst (vD N Q))) (some (.fz (.int (N : Int)))) y6 (some (vT N R.L)) (some (vT N R.K)) y9 y10 none none
  have et : (T.lst ((List.range N).map fun i => T.fz (.tup (vD N (R.F i))))).d = .lst ((List.range N).map fun i => .tup (vD N (R.F i))) := by
    rw [td_lst, List.map_map]; congr 1
  have eT : tabD N R.F = .tup ((List.range N).map fun i => .tup (vD N (R.F i))) := rfl
  rw [eT]
  refine fn_rt (e := [some (.fz p.d), some (.fz r.d), some (.fz (.lst (vD N P))), some (.fz (.lst (vD N Q))), some (.fz (.int (N : Int))), some (.fz (.lst ((List.range N).map fun i => .lst (vD N (R.F i))))), y6, some (vT N R.L), some (vT N R.K), y9, y10, none, none, none]) [p.d, r.d] ?_
  generalize (T.lst ((List.range N).map fun i => T.fz (.tup (vD N (R.F i))))) = Z1 at tq et
  generalize (List.range N).map (fun i => D.tup (vD N (R.F i))) = Z2 at et ⊢
  generalize (List.range N).map (fun i => D.lst (vD N (R.F i))) = Z3 at tq ⊢
  generalize (List.range N).map (fun (i : Nat) => D.int (i : Int)) = M5 at *
  generalize tbT N (fun _ _ => 0) = T1 at *
  generalize tbT N (Tb.start P Q).F = T2 at *
  generalize tbT N R.F = T3 at *
  generalize vT N (Tb.start P Q).L = T4 at *
  generalize vT N (Tb.start P Q).K = T5 at *
  generalize vT N R.L = T6 at *
  generalize vT N R.K = T7 at *
  generalize vD N P = V1 at *
  generalize vD N Q = V2 at *
  simp [b_drawn_together, hnp, q1, q2, e1, hlen, z, hN2, dq, lq, kq, oq, tq, et, bTuple]
end Lw

/-! Fw16 -/
set_option Elab.async false
set_option linter.all false
set_option maxRecDepth 100000
set_option maxHeartbeats 4000000
namespace Fw
open PySem PySem.Spec PyProof.Rows L2
/-! ### == of told data -/
mutual
def D.ok : D → Bool
  | .non => true
  | .bl _ => true
  | .int _ => true
  | .str s => PyData.strOk s
  | .tup xs => D.oks xs
  | .lst xs => D.oks xs
  | .obj _ _ _ => false
  | .scr _ => false
def D.oks : List D → Bool
  | [] => true
  | x :: xs => x.ok && D.oks xs
end
mutual
def D.dep : D → Nat
  | .tup xs => D.deps xs + 1
  | .lst xs => D.deps xs + 1
  | _ => 0
def D.deps : List D → Nat
  | [] => 0
  | x :: xs => max x.dep (D.deps xs)
end
mutual
/-- no flag stands against a number -/
def D.al : D → D → Bool
  | .bl _, .int _ => false
  | .int _, .bl _ => false
  | .tup xs, .tup ys => D.als xs ys
  | .lst xs, .lst ys => D.als xs ys
  | _, _ => true
def D.als : List D → List D → Bool
  | x :: xs, y :: ys => x.al y && D.als xs ys
  | _, _ => true
end
mutual
theorem py_ok : ∀ d : D, d.ok = true → ∃ p, d.py = some p ∧ p.canLay0 = true ∧ p.depth = d.dep
  | .non, _ => ⟨_, by rw [D.py], by rw [PyData.canLay0], by rw [PyData.depth, D.dep] <;> simp⟩
  | .bl b, _ => ⟨_, by rw [D.py], by rw [PyData.canLay0], by rw [PyData.depth, D.dep] <;> simp⟩
  | .int b, _ => ⟨_, by rw [D.py], by rw [PyData.canLay0], by rw [PyData.depth, D.dep] <;> simp⟩
  | .str s, h => ⟨_, by rw [D.py], by rw [PyData.canLay0]; simpa [D.ok] using h, by rw [PyData.depth, D.dep] <;> simp⟩
  | .tup xs, h => by
    obtain ⟨ps, h1, h2, h3⟩ := pys_ok xs (by simpa [D.ok] using h)
    exact ⟨.tuple ps, by rw [D.py, h1]; rfl, by rw [PyData.canLay0]; exact h2, by rw [PyData.depth, D.dep, h3]⟩
  | .lst xs, h => by
    obtain ⟨ps, h1, h2, h3⟩ := pys_ok xs (by simpa [D.ok] using h)
    exact ⟨.list ps, by rw [D.py, h1]; rfl, by rw [PyData.canLay0]; exact h2, by rw [PyData.depth, D.dep, h3]⟩
  | .obj _ _ _, h => by simp [D.ok] at h
  | .scr _, h => by simp [D.ok] at h
theorem pys_ok : ∀ ds : List D, D.oks ds = true → ∃ ps, D.pys ds = some ps ∧ PyData.canLayAll0 ps = true ∧ PyData.depthAll ps = D.deps ds
  | [], _ => ⟨[], by rw [D.pys], by rw [PyData.canLayAll0], by rw [PyData.depthAll, D.deps]⟩
  | d :: ds, h => by
    have h' : d.ok = true ∧ D.oks ds = true := by simpa [D.oks] using h
    obtain ⟨p, h1, h2, h3⟩ := py_ok d h'.1
    obtain ⟨ps, h4, h5, h6⟩ := pys_ok ds h'.2
    exact ⟨p :: ps, by rw [D.pys, h1, h4]; rfl, by rw [PyData.canLayAll0, h2, h5]; rfl, by rw [PyData.depthAll, D.deps, h3, h6]⟩
end
mutual
theorem eqv_iff : ∀ (d e : D) (p q : PyData), d.py = some p → e.py = some q → d.al e = true → (PyData.eqv p q = true ↔ d = e)
  | .tup xs, .tup ys, p, q, h1, h2, ha => by
    simp only [D.py, Option.map_eq_some_iff] at h1 h2
    obtain ⟨ps, h3, rfl⟩ := h1
    obtain ⟨qs, h4, rfl⟩ := h2
    have := eqvAll_iff xs ys ps qs h3 h4 (by simpa [D.al] using ha)
    rw [PyData.eqv, this]; simp
  | .lst xs, .lst ys, p, q, h1, h2, ha => by
    simp only [D.py, Option.map_eq_some_iff] at h1 h2
    obtain ⟨ps, h3, rfl⟩ := h1
    obtain ⟨qs, h4, rfl⟩ := h2
    have := eqvAll_iff xs ys ps qs h3 h4 (by simpa [D.al] using ha)
    rw [PyData.eqv, this]; simp
  | .obj _ _ _, _, p, q, h1, _, _ => by simp only [D.py, reduceCtorEq] at h1
  | .scr _, _, p, q, h1, _, _ => by simp only [D.py, reduceCtorEq] at h1
  | _, .obj _ _ _, p, q, _, h2, _ => by simp only [D.py, reduceCtorEq] at h2
  | _, .scr _, p, q, _, h2, _ => by simp only [D.py, reduceCtorEq] at h2
  | .non, .non, p, q, h1, h2, _ => by simp only [D.py, Option.some.injEq] at h1 h2; subst h1 h2; simp [PyData.eqv]
  | .bl a, .bl b, p, q, h1, h2, _ => by simp only [D.py, Option.some.injEq] at h1 h2; subst h1 h2; simp [PyData.eqv]
  | .int a, .int b, p, q, h1, h2, _ => by simp only [D.py, Option.some.injEq] at h1 h2; subst h1 h2; simp [PyData.eqv]
  | .str a, .str b, p, q, h1, h2, _ => by simp only [D.py, Option.some.injEq] at h1 h2; subst h1 h2; simp [PyData.eqv]
  | .bl a, .int b, p, q, h1, h2, ha => by simp [D.al] at ha
  | .int a, .bl b, p, q, h1, h2, ha => by simp [D.al] at ha
  | .non, .bl _, p, q, h1, h2, _ | .non, .int _, p, q, h1, h2, _ | .non, .str _, p, q, h1, h2, _ => by
    simp only [D.py, Option.some.injEq] at h1 h2; subst h1 h2; simp [PyData.eqv]
  | .bl _, .non, p, q, h1, h2, _ | .bl _, .str _, p, q, h1, h2, _ => by
    simp only [D.py, Option.some.injEq] at h1 h2; subst h1 h2; simp [PyData.eqv]
  | .int _, .non, p, q, h1, h2, _ | .int _, .str _, p, q, h1, h2, _ => by
    simp only [D.py, Option.some.injEq] at h1 h2; subst h1 h2; simp [PyData.eqv]
  | .str _, .non, p, q, h1, h2, _ | .str _, .bl _, p, q, h1, h2, _ | .str _, .int _, p, q, h1, h2, _ => by
    simp only [D.py, Option.some.injEq] at h1 h2; subst h1 h2; simp [PyData.eqv]
  | .non, .tup _, p, q, h1, h2, _ | .non, .lst _, p, q, h1, h2, _ | .bl _, .tup _, p, q, h1, h2, _ | .bl _, .lst _, p, q, h1, h2, _ | .int _, .tup _, p, q, h1, h2, _ | .int _, .lst _, p, q, h1, h2, _ | .str _, .tup _, p, q, h1, h2, _ | .str _, .lst _, p, q, h1, h2, _ => by
    simp only [D.py, Option.some.injEq, Option.map_eq_some_iff] at h1 h2
    obtain ⟨ys, _, rfl⟩ := h2; subst h1; simp [PyData.eqv]
  | .tup _, .non, p, q, h1, h2, _ | .lst _, .non, p, q, h1, h2, _ | .tup _, .bl _, p, q, h1, h2, _ | .lst _, .bl _, p, q, h1, h2, _ | .tup _, .int _, p, q, h1, h2, _ | .lst _, .int _, p, q, h1, h2, _ | .tup _, .str _, p, q, h1, h2, _ | .lst _, .str _, p, q, h1, h2, _ => by
    simp only [D.py, Option.some.injEq, Option.map_eq_some_iff] at h1 h2
    obtain ⟨ys, _, rfl⟩ := h1; subst h2; simp [PyData.eqv]
  | .tup _, .lst _, p, q, h1, h2, _ | .lst _, .tup _, p, q, h1, h2, _ => by
    simp only [D.py, Option.map_eq_some_iff] at h1 h2
    obtain ⟨ys, _, rfl⟩ := h1; obtain ⟨zs, _, rfl⟩ := h2; simp [PyData.eqv]
theorem eqvAll_iff : ∀ (ds es : List D) (ps qs : List PyData), D.pys ds = some ps → D.pys es = some qs → D.als ds es = true → (PyData.eqvAll ps qs = true ↔ ds = es)
  | [], [], ps, qs, h1, h2, _ => by simp only [D.pys, Option.some.injEq] at h1 h2; subst h1 h2; simp [PyData.eqvAll]
  | [], e :: es, ps, qs, h1, h2, _ => by
    simp only [D.pys, Option.some.injEq, Option.bind_eq_some_iff, Option.map_eq_some_iff] at h1 h2
    obtain ⟨q, _, r, _, rfl⟩ := h2
    subst h1; simp [PyData.eqvAll]
  | d :: ds, [], ps, qs, h1, h2, _ => by
    simp only [D.pys, Option.some.injEq, Option.bind_eq_some_iff, Option.map_eq_some_iff] at h1 h2
    obtain ⟨q, _, r, _, rfl⟩ := h1
    subst h2; simp [PyData.eqvAll]
  | d :: ds, e :: es, ps, qs, h1, h2, ha => by
    simp only [D.pys, Option.bind_eq_some_iff, Option.map_eq_some_iff] at h1 h2
    obtain ⟨p, h3, r, h4, rfl⟩ := h1
    obtain ⟨q, h5, u, h6, rfl⟩ := h2
    have h' : d.al e = true ∧ D.als ds es = true := by simpa [D.als] using ha
    rw [PyData.eqvAll, Bool.and_eq_true, eqv_iff d e p q h3 h5 h'.1, eqvAll_iff ds es r u h4 h6 h'.2]
    simp
end
open Classical in
theorem eq_of_ok {d e : D} (hd : d.ok = true) (he : e.ok = true) (h1 : d.dep ≤ 64) (h2 : e.dep ≤ 64) (ha : d.al e = true) : eqO d e = some (decide (d = e)) := by
  obtain ⟨p, p1, p2, p3⟩ := py_ok d hd
  obtain ⟨q, q1, q2, q3⟩ := py_ok e he
  rw [eq_sh p1 q1 (by simp [SeqAt.shaped, p2, p3, h1]) (by simp [SeqAt.shaped, q2, q3, h2])]
  congr 1
  rw [Bool.eq_iff_iff, eqv_iff d e p q p1 q1 ha]
  simp
end Fw

/-! Fw17 -/
set_option Elab.async false
set_option linter.all false
set_option maxRecDepth 100000
set_option maxHeartbeats 4000000
namespace Fw
open PySem PySem.Spec PyProof.Rows L2
/-! two for in one comprehension: all taken, the outer slots as they are -/
structure Step2 (vs vs1 : List Nat) (g : G) (c : M Bool) (m1 : M (List D)) (g1 : G) (c1 : M Bool) (el : M T) {β : Type} (d : D) (ys : List β) (de : β → D) (val : β → Option T) (e : Fw.Env) (B : Fw.Env) : Prop where
  go : ∃ e1 e2 e3, g (.fz d) e = some e1 ∧ c e1 = some (true, e2) ∧ m1 e2 = some (ys.map de, e3) ∧ vs1.all (fzOk e3) = true ∧
    (∀ y ∈ ys, ∃ e5, stepC g1 c1 el (de y) (wipeE e3 vs1) = some (val y, e5) ∧ wipeE e5 vs1 = wipeE e3 vs1 ∧ vs1.all (fzOk e5) = true) ∧
    wipeE (wipeE e3 vs1) vs = B ∧ vs.all (fzOk (wipeE e3 vs1)) = true
theorem loopC2_list {α β : Type} {vs vs1 : List Nat} {g : G} {c : M Bool} {m1 : M (List D)} {g1 : G} {c1 : M Bool} {el : M T} (dd : α → D) (ys : α → List β) (de : β → D) (val : α → β → Option T) (B : Fw.Env) : ∀ (xs : List α) (acc : List T) (e : Fw.Env), wipeE e vs = B →
    (∀ x ∈ xs, Step2 vs vs1 g c m1 g1 c1 el (dd x) (ys x) de (val x) B B) → acc.length + (xs.map fun x => (ys x).length).sum ≤ sizeLine →
    ∃ e3, wipeE e3 vs = B ∧ loopC2 vs vs1 g c m1 g1 c1 el (xs.map dd) acc e = some (acc ++ xs.flatMap (fun x => (ys x).filterMap (val x)), e3)
  | [], acc, e, h0, _, _ => ⟨e, h0, by simp [loopC2]⟩
  | x :: xs, acc, e, h0, hs, hl => by
    obtain ⟨e1, e2, e3, g1', g2, g3, g4, g5, g6, g7⟩ := (hs x (by simp)).go
    simp only [List.map_cons, List.sum_cons] at hl
    obtain ⟨e4, h5, h6⟩ := loopC_list de (val x) (fun e => e = wipeE e3 vs1) (ys x) acc e3 rfl (fun y hy e he => by subst he; exact g5 y hy) (by omega)
    have hlen : (acc ++ (ys x).filterMap (val x)).length + (xs.map fun x => (ys x).length).sum ≤ sizeLine := by
      have := List.length_filterMap_le (val x) (ys x)
      simp; omega
    obtain ⟨e6, h7, h8⟩ := loopC2_list dd ys de val B xs (acc ++ (ys x).filterMap (val x)) (wipeE e4 vs1) (by rw [h5]; exact g6) (fun x hx => hs x (by simp [hx])) hlen
    refine ⟨e6, h7, ?_⟩
    simp only [List.map_cons, loopC2, h0, g1', g2, g3, g4, if_true, h6]
    rw [h5, if_pos g7, ← h5, h8]
    simp
theorem lc2_list {α β : Type} {vs vs1 : List Nat} {m : M (List D)} {g : G} {c : M Bool} {m1 : M (List D)} {g1 : G} {c1 : M Bool} {el : M T} {e e1 : Fw.Env} {xs : List α} (dd : α → D) (ys : α → List β) (de : β → D) (val : α → β → Option T)
    (hm : m e = some (xs.map dd, e1)) (hv : vs.all (fzOk e1) = true) (hs : ∀ x ∈ xs, Step2 vs vs1 g c m1 g1 c1 el (dd x) (ys x) de (val x) (wipeE e1 vs) (wipeE e1 vs)) (hl : (xs.map fun x => (ys x).length).sum ≤ sizeLine) :
    mLc2 vs vs1 m g c m1 g1 c1 el e = some (.lst (xs.flatMap fun x => (ys x).filterMap (val x)), restE e1 vs (wipeE e1 vs)) := by
  obtain ⟨e3, h1, h2⟩ := loopC2_list dd ys de val (wipeE e1 vs) xs [] e1 rfl hs (by simpa using hl)
  unfold mLc2
  rw [hm]
  simp only [hv, if_true, h2]
  rw [h1]
  simp
end Fw

/-! P18 -/
set_option Elab.async false
set_option linter.all false
set_option maxRecDepth 100000
set_option maxHeartbeats 4000000
set_option exponentiation.threshold 100000
namespace Lw
open PySem PySem.Spec PyProof.Rows L2 Fw
theorem fr_inj {a b : Rat} : fr a = fr b ↔ a = b := by
  constructor
  · intro h
    simp only [fr, D.tup.injEq, List.cons.injEq, D.int.injEq, and_true] at h
    exact Rat.ext h.1 (by omega)
  · rintro rfl; rfl
theorem fr_ok (q : Rat) : (fr q).ok = true := by simp [fr, D.ok, D.oks]
theorem fr_dep (q : Rat) : (fr q).dep = 1 := by simp [fr, D.dep, D.deps]
theorem fr_al (a b : Rat) : (fr a).al (fr b) = true := by simp [fr, D.al, D.als]
theorem frs_ok : ∀ a : List Rat, D.oks (a.map fr) = true
  | [] => by simp [D.oks]
  | x :: a => by simp [D.oks, fr_ok, frs_ok a]
theorem frs_dep : ∀ a : List Rat, D.deps (a.map fr) ≤ 1
  | [] => by simp [D.deps]
  | x :: a => by have := frs_dep a; simp [D.deps, fr_dep]; omega
theorem frs_al : ∀ a b : List Rat, D.als (a.map fr) (b.map fr) = true
  | [], b => by cases b <;> simp [D.als]
  | x :: a, [] => by simp [D.als]
  | x :: a, y :: b => by simp [D.als, fr_al, frs_al a b]
theorem frs_inj {a b : List Rat} : a.map fr = b.map fr ↔ a = b := by
  constructor
  · intro h
    exact List.map_inj_right (fun x y => fr_inj.mp) |>.mp h
  · rintro rfl; rfl
open Classical in
theorem eqO_fr (a b : Rat) : eqO (fr a) (fr b) = some (decide (a = b)) := by
  rw [eq_of_ok (fr_ok a) (fr_ok b) (by rw [fr_dep]; omega) (by rw [fr_dep]; omega) (fr_al a b)]
  congr 1
  exact decide_eq_decide.mpr fr_inj
open Classical in
theorem eqO_lst (a b : List Rat) : eqO (.lst (a.map fr)) (.lst (b.map fr)) = some (decide (a = b)) := by
  have h1 := frs_dep a
  have h2 := frs_dep b
  rw [eq_of_ok (by rw [D.ok]; exact frs_ok a) (by rw [D.ok]; exact frs_ok b) (by rw [D.dep]; omega) (by rw [D.dep]; omega) (by rw [D.al]; exact frs_al a b)]
  congr 1
  exact decide_eq_decide.mpr (by simp only [D.lst.injEq]; exact frs_inj)
open Classical in
theorem eqO_tup (a b : List Rat) : eqO (.tup (a.map fr)) (.tup (b.map fr)) = some (decide (a = b)) := by
  have h1 := frs_dep a
  have h2 := frs_dep b
  rw [eq_of_ok (by rw [D.ok]; exact frs_ok a) (by rw [D.ok]; exact frs_ok b) (by rw [D.dep]; omega) (by rw [D.dep]; omega) (by rw [D.al]; exact frs_al a b)]
  congr 1
  exact decide_eq_decide.mpr (by simp only [D.tup.injEq]; exact frs_inj)
theorem oEq_fr (a b : Rat) : oEq (fr a) (fr b) = some (.bl (decide (a = b))) := by rw [oEq, eqO_fr]; rfl
theorem oEq_lst (a b : List Rat) : oEq (.lst (a.map fr)) (.lst (b.map fr)) = some (.bl (decide (a = b))) := by rw [oEq, eqO_lst]; simp
theorem oNe_lst (a b : List Rat) : oNe (.lst (a.map fr)) (.lst (b.map fr)) = some (.bl (!decide (a = b))) := by rw [oNe, eqO_lst]; simp
theorem oEq_tup (a b : List Rat) : oEq (.tup (a.map fr)) (.tup (b.map fr)) = some (.bl (decide (a = b))) := by rw [oEq, eqO_tup]; simp
section
variable {n k : Nat} {F : Nat → Nat → Rat} {P Q : Nat → Rat} (hk : k ≤ 100) (hn : n ≤ 1000) (hF : ∀ i < n, ∀ j < n, Ch k (F i j))
def tbR (n : Nat) (F : Nat → Nat → Rat) : List D := (List.range n).map fun i => .tup (vD n (F i))
include hk hn hF
/-- all parts are fractions -/
theorem fracs_run (i : Nat) (hi : i < n) (X0 X1 X2 : T) (x3 x6 : Option T) (x5 : Option D) :
    q_is_joint_5 [some X0, some X1, some X2, x3, some (.fz (.tup (vD n (F i)))), x5.map .fz, x6] = some (.lst (List.replicate n (.fz (.bl true))), [some X0, some X1, some X2, x3, some (.fz (.tup (vD n (F i)))), x5.map .fz, x6]) := by
  unfold q_is_joint_5
  rw [lc_map (xs := List.range n) (e1 := [some X0, some X1, some X2, x3, some (.fz (.tup (vD n (F i)))), x5.map .fz, x6]) (fun j => fr (F i j)) (fun _ => T.fz (.bl true))]
  · rw [List.map_const']; simp
  · simp [seqD, vD]
  · simp
  · intro j hj
    have hj : j < n := by simpa using hj
    have hf := ((hF i hi j hj).fit hk).1
    refine ⟨[some X0, some X1, some X2, x3, some (.fz (.tup (vD n (F i)))), some (.fz (fr (F i j))), x6], ?_, by simp, by simp⟩
    generalize vD n (F i) = V
    simp [stepC, v_is_fraction (F i j) (lt_mono hf)]
  · simp [sizeLine]; omega
theorem rows_run (X0 X1 X2 : T) (x6 : Option T) : ∀ (r e : Nat) (x4 x5 : Option D), e + r = n → ∃ x4' x5' : Option D,
    loopM (gNm 4) l_is_joint_1 ((List.range' e r).map fun i => D.tup (vD n (F i))) [some X0, some X1, some X2, some (.fz (.int (n : Int))), x4.map .fz, x5.map .fz, x6] = some (.nx, [some X0, some X1, some X2, some (.fz (.int (n : Int))), x4'.map .fz, x5'.map .fz, x6])
  | 0, e, x4, x5, _ => ⟨x4, x5, by simp⟩
  | r + 1, e, x4, x5, he => by
    obtain ⟨x4', x5', q⟩ := rows_run X0 X1 X2 x6 r (e + 1) (some (.tup (vD n (F e)))) x5 (by omega)
    refine ⟨x4', x5', ?_⟩
    rw [List.range'_succ, List.map_cons]
    refine loop_nx (e1 := [some X0, some X1, some X2, some (.fz (.int (n : Int))), some (.fz (.tup (vD n (F e)))), x5.map .fz, x6]) (by simp) ?_ q
    have hq := fracs_run hk hn hF e (by omega) X0 X1 X2 (some (.fz (.int (n : Int)))) x6 x5
    have h3 : bAll [.lst (List.replicate n (.bl true))] = some (.bl true) := by simp [lstB, dBools_const]
    have h4 : bLen [.tup (vD n (F e))] = some (.int n) := by simp [vD]
    generalize vD n (F e) = V at hq h4 ⊢
    simp [l_is_joint_1, h4, hq, h3]
/-- none is below 0 -/
theorem negs_run (X0 X1 : T) (x3 x6 : Option T) (x4 x5 : Option D) :
    ∃ L : List Bool, L.any _root_.id = false ∧ q_is_joint_4 [some X0, some X1, some (.fz (.tup (tbR n F))), x3, x4.map .fz, x5.map .fz, x6] = some (.lst (L.map fun b => .fz (.bl b)), [some X0, some X1, some (.fz (.tup (tbR n F))), x3, x4.map .fz, x5.map .fz, x6]) := by
  refine ⟨(List.range n).flatMap fun i => (List.range n).map fun j => false, by simp, ?_⟩
  unfold q_is_joint_4
  rw [lc2_list (xs := List.range n) (e1 := [some X0, some X1, some (.fz (.tup (tbR n F))), x3, x4.map .fz, x5.map .fz, x6]) (fun i => D.tup (vD n (F i))) (fun i => (List.range n).map fun j => (i, j)) (fun p => fr (F p.1 p.2)) (fun _ _ => some (T.fz (.bl false)))]
  · have : ((List.range n).flatMap fun i => ((List.range n).map fun j => (i, j)).filterMap fun _ => some (T.fz (.bl false))) = ((List.range n).flatMap fun i => (List.range n).map fun _ => false).map fun b => T.fz (.bl b) := by
      rw [List.map_flatMap]
      congr 1
      funext i
      rw [fm_const, List.map_map, List.length_map]
      have e : ((fun b => T.fz (.bl b)) ∘ fun (_ : Nat) => false) = fun (_ : Nat) => T.fz (.bl false) := rfl
      rw [e, List.map_const']
    rw [this]; simp
  · simp [seqD, tbR]
  · simp
  · intro i hi
    have hi : i < n := by simpa using hi
    refine ⟨[some X0, some X1, some (.fz (.tup (tbR n F))), x3, some (.fz (.tup (vD n (F i)))), none, x6], [some X0, some X1, some (.fz (.tup (tbR n F))), x3, some (.fz (.tup (vD n (F i)))), none, x6], [some X0, some X1, some (.fz (.tup (tbR n F))), x3, some (.fz (.tup (vD n (F i)))), none, x6], by simp, by simp, by simp [seqD, vD], by simp, fun p hp => ?_, by simp, by simp⟩
    obtain ⟨j, hj, rfl⟩ := List.mem_map.mp hp
    have hj : j < n := by simpa using hj
    have h0 : ¬ (F i j).num < 0 := by have := (hF i hi j hj).nn; have := Rat.num_nonneg.mpr this; omega
    refine ⟨[some X0, some X1, some (.fz (.tup (tbR n F))), x3, some (.fz (.tup (vD n (F i)))), some (.fz (fr (F i j))), x6], ?_, by simp, by simp⟩
    generalize vD n (F i) = V
    generalize tbR n F = W
    simp [stepC, h0]
  · have h1 := sum_le (fun (_ : Nat) => n) n (List.range n) fun _ _ => Nat.le_refl n
    have h2 : n * n ≤ 1000 * 1000 := Nat.mul_le_mul hn hn
    simp [sizeLine]
    simp at h1
    omega
/-- sums of rows, of columns -/
theorem sumr_run (hR : ∀ i < n, S n (F i) = P i) (hP : ∀ i < n, P i ≤ 1) (X0 X1 : T) (x3 x5 x6 : Option T) (x4 : Option D) :
    q_is_joint_3 [some X0, some X1, some (.fz (.tup (tbR n F))), x3, x4.map .fz, x5, x6] = some (.lst ((List.range n).map fun i => Lw.fz (P i)), [some X0, some X1, some (.fz (.tup (tbR n F))), x3, x4.map .fz, x5, x6]) := by
  unfold q_is_joint_3
  rw [lc_map (xs := List.range n) (e1 := [some X0, some X1, some (.fz (.tup (tbR n F))), x3, x4.map .fz, x5, x6]) (fun i => D.tup (vD n (F i))) (fun i => Lw.fz (P i))]
  · simp
  · simp [seqD, tbR]
  · simp
  · intro i hi
    have hi : i < n := by simpa using hi
    have hrow : Row k ((List.range n).map (F i)) := fun q hq => by
      obtain ⟨j, hj, rfl⟩ := List.mem_map.mp hq
      have := hF i hi j (by simpa using hj)
      exact ⟨this.dv, this.nn⟩
    have hs := v_sum (X := .tup (vD n (F i))) hk (by simp [seqD, vD, List.map_map]) hrow (by show S n (F i) ≤ 1; rw [hR i hi]; exact hP i hi)
    have e : ((List.range n).map (F i)).sum = P i := hR i hi
    rw [e] at hs
    refine ⟨[some X0, some X1, some (.fz (.tup (tbR n F))), x3, some (.fz (.tup (vD n (F i)))), x5, x6], ?_, by simp, by simp⟩
    generalize vD n (F i) = V at hs ⊢
    generalize tbR n F = W
    simp [stepC, hs, Lw.fz]
  · simp [sizeLine]; omega
theorem col_run (X0 X1 : T) (j : Nat) (hj : j < n) (x3 x5 : Option T) (x4 : Option D) :
    q_is_joint_1 [some X0, some X1, some (.fz (.tup (tbR n F))), x3, x4.map .fz, x5, some (.fz (.int (j : Int)))] = some (.lst ((List.range n).map fun i => Lw.fz (F i j)), [some X0, some X1, some (.fz (.tup (tbR n F))), x3, x4.map .fz, x5, some (.fz (.int (j : Int)))]) := by
  unfold q_is_joint_1
  rw [lc_map (xs := List.range n) (e1 := [some X0, some X1, some (.fz (.tup (tbR n F))), x3, x4.map .fz, x5, some (.fz (.int (j : Int)))]) (fun i => D.tup (vD n (F i))) (fun i => Lw.fz (F i j))]
  · simp
  · simp [seqD, tbR]
  · simp
  · intro i hi
    have hi : i < n := by simpa using hi
    have hg : (vD n (F i))[j]? = some (fr (F i j)) := by simp [vD, hj]
    refine ⟨[some X0, some X1, some (.fz (.tup (tbR n F))), x3, some (.fz (.tup (vD n (F i)))), x5, some (.fz (.int (j : Int)))], ?_, by simp, by simp⟩
    generalize vD n (F i) = V at hg ⊢
    generalize tbR n F = W
    simp [stepC, hg, Lw.fz]
  · simp [sizeLine]; omega
theorem sumc_run (hC : ∀ j < n, S n (fun i => F i j) = Q j) (hQ : ∀ i < n, Q i ≤ 1) (X0 X1 : T) (x5 : Option T) (x4 : Option D) :
    q_is_joint_2 [some X0, some X1, some (.fz (.tup (tbR n F))), some (.fz (.int (n : Int))), x4.map .fz, x5, none] = some (.lst ((List.range n).map fun i => Lw.fz (Q i)), [some X0, some X1, some (.fz (.tup (tbR n F))), some (.fz (.int (n : Int))), x4.map .fz, x5, none]) := by
  unfold q_is_joint_2
  have hr := Fw.rng1_n n (Nat.lt_of_le_of_lt hn (by decide))
  rw [lc_map (xs := List.range n) (e1 := [some X0, some X1, some (.fz (.tup (tbR n F))), some (.fz (.int (n : Int))), x4.map .fz, x5, none]) (fun (j : Nat) => D.int (j : Int)) (fun i => Lw.fz (Q i))]
  · simp
  · simp [hr]
  · simp
  · intro j hj
    have hj : j < n := by simpa using hj
    have hrow : Row k ((List.range n).map fun i => F i j) := fun q hq => by
      obtain ⟨i, hi, rfl⟩ := List.mem_map.mp hq
      have := hF i (by simpa using hi) j hj
      exact ⟨this.dv, this.nn⟩
    have hs := v_sum (X := .lst (((List.range n).map fun i => F i j).map fr)) hk rfl hrow (by show S n (fun i => F i j) ≤ 1; rw [hC j hj]; exact hQ j hj)
    have e : ((List.range n).map fun i => F i j).sum = Q j := hC j hj
    rw [e] at hs
    have hc := col_run hk hn hF X0 X1 j hj (some (.fz (.int (n : Int)))) x5 x4
    refine ⟨[some X0, some X1, some (.fz (.tup (tbR n F))), some (.fz (.int (n : Int))), x4.map .fz, x5, some (.fz (.int (j : Int)))], ?_, by simp, by simp⟩
    have et : (T.lst ((List.range n).map fun i => Lw.fz (F i j))).d = .lst (((List.range n).map fun i => F i j).map fr) := by rw [td_lst, List.map_map, List.map_map]; congr 1
    generalize (T.lst ((List.range n).map fun i => Lw.fz (F i j))) = A at hc et
    generalize ((List.range n).map fun i => F i j).map fr = B at hs et
    generalize tbR n F = W at hc ⊢
    simp [stepC, hc, et, hs, Lw.fz]
  · simp [sizeLine]; omega
theorem v_is_joint (hR : ∀ i < n, S n (F i) = P i) (hC : ∀ j < n, S n (fun i => F i j) = Q j) (hP : ∀ i < n, P i ≤ 1) (hQ : ∀ i < n, Q i ≤ 1) :
    f_is_joint [.fz (.lst (vD n P)), .fz (.lst (vD n Q)), .fz (tabD n F)] = some (.fz (.bl true), [.fz (.lst (vD n P)), .fz (.lst (vD n Q)), .fz (tabD n F)]) := by
  obtain ⟨x4, x5, q1⟩ := rows_run hk hn hF (.fz (.lst (vD n P))) (.fz (.lst (vD n Q))) (.fz (.tup (tbR n F))) none n 0 none none (by omega)
  obtain ⟨L, hL, q2⟩ := negs_run hk hn hF (.fz (.lst (vD n P))) (.fz (.lst (vD n Q))) (some (.fz (.int (n : Int)))) none x4 x5
  have q3 := sumr_run hk hn hF hR hP (.fz (.lst (vD n P))) (.fz (.lst (vD n Q))) (some (.fz (.int (n : Int)))) (x5.map .fz) none x4
  have q4 := sumc_run hk hn hF hC hQ (.fz (.lst (vD n P))) (.fz (.lst (vD n Q))) (x5.map .fz) x4
  have e0 : tabD n F = .tup (tbR n F) := rfl
  have l1 : bLen [.lst (vD n P)] = some (.int n) := by simp [vD]
  have l2 : bLen [.tup (tbR n F)] = some (.int n) := by simp [tbR]
  have b1 : bList [.lst (vD n P)] = some (.lst ((vD n P).map T.fz)) := rfl
  have b2 : bList [.lst (vD n Q)] = some (.lst ((vD n Q).map T.fz)) := rfl
  have a1 : bAny [.lst (L.map fun b => D.bl b)] = some (.bl false) := by
    have : dBools (L.map fun b => D.bl b) = some L := by
      clear hL q2
      induction L with
      | nil => rfl
      | cons b L ih => simp [dBools, ih]
    simp [lstB, this, hL]
  have t2 : (T.lst (L.map fun b => T.fz (.bl b))).d = .lst (L.map fun b => D.bl b) := by rw [td_lst, List.map_map]; congr 1
  have t3 : ∀ f : Nat → Rat, (T.lst ((List.range n).map fun i => Lw.fz (f i))).d = .lst (vD n f) := fun f => by rw [td_lst, List.map_map]; congr 1
  have t4 : ∀ f : Nat → Rat, (T.lst ((vD n f).map T.fz)).d = .lst (vD n f) := fun f => by rw [td_lst]; congr 1; simp
  have v1 : ∀ f : Nat → Rat, vD n f = ((List.range n).map f).map fr := fun f => by rw [List.map_map]; rfl
  have n1 : oNe (.lst (vD n P)) (.lst (vD n P)) = some (.bl false) := by rw [v1, oNe_lst]; simp
  have n2 : oEq (.lst (vD n Q)) (.lst (vD n Q)) = some (.bl true) := by rw [v1, oEq_lst]; simp
  have s1 : seqD (.tup (tbR n F)) = some ((List.range n).map fun i => D.tup (vD n (F i))) := rfl
  rw [← List.range_eq_range'] at q1
  simp only [Option.map_none] at q1
  have t3P := t3 P
  have t3Q := t3 Q
  have t4P := t4 P
  have t4Q := t4 Q
  rw [e0]
  refine fn_rt (e := [some (.fz (.lst (vD n P))), some (.fz (.lst (vD n Q))), some (.fz (.tup (tbR n F))), some (.fz (.int (n : Int))), x4.map .fz, x5.map .fz, none]) [.lst (vD n P), .lst (vD n Q), .tup (tbR n F)] ?_
  generalize (List.range n).map (fun i => D.tup (vD n (F i))) = M1 at s1 q1
  generalize (T.lst (L.map fun b => T.fz (.bl b))) = M2 at q2 t2
  generalize (T.lst ((List.range n).map fun i => Lw.fz (P i))) = M3 at q3 t3P
  generalize (T.lst ((List.range n).map fun i => Lw.fz (Q i))) = M4 at q4 t3Q
  generalize (T.lst ((vD n P).map T.fz)) = M5 at b1 t4P
  generalize (T.lst ((vD n Q).map T.fz)) = M6 at b2 t4Q
  clear v1 t3 t4
  generalize vD n P = V1 at *
  generalize vD n Q = V2 at *
  generalize tbR n F = W at *
  generalize (L.map fun b => D.bl b) = M7 at a1 t2
  simp [b_is_joint, l1, l2, s1, q1, q2, t2, a1, q3, t3P, b1, t4P, n1, q4, t3Q, b2, t4Q, n2]
end
end Lw

/-! P18b -/
set_option Elab.async false
set_option linter.all false
set_option maxRecDepth 100000
set_option maxHeartbeats 4000000
set_option exponentiation.threshold 100000
namespace Lw
open PySem PySem.Spec PyProof.Rows L2 Fw
theorem enum_rows {n : Nat} (f : Nat → D) : enumD 0 ((List.range n).map f) = (List.range n).map fun (i : Nat) => D.tup [.int (i : Int), f i] := by
  have : ∀ (r i : Nat), enumD i ((List.range' i r).map f) = (List.range' i r).map fun (i : Nat) => D.tup [.int (i : Int), f i] := by
    intro r
    induction r with
    | zero => intro i; rfl
    | succ r ih => intro i; rw [List.range'_succ, List.map_cons, List.map_cons, ← ih (i + 1)]; rfl
  have h := this n 0
  rw [← List.range_eq_range'] at h
  exact h
theorem diag_list {K : PySem.W.Frag} {n : Nat} (hn : n ≤ 1000) (F : Nat → Nat → Rat) (X0 X1 : T) (x3 x4 : Option T) :
    q_is_drawn_together_1 K [some X0, some X1, some (.fz (.tup (tbR n F))), x3, x4, none, none] = some (.lst ((List.range n).map fun i => Lw.fz (F i i)), [some X0, some X1, some (.fz (.tup (tbR n F))), x3, x4, none, none]) := by
  unfold q_is_drawn_together_1
  rw [lc_map (xs := List.range n) (e1 := [some X0, some X1, some (.fz (.tup (tbR n F))), x3, x4, none, none]) (fun (i : Nat) => D.tup [.int (i : Int), .tup (vD n (F i))]) (fun i => Lw.fz (F i i))]
  · simp
  · simp [enF, tbR, enum_rows]
  · simp
  · intro i hi
    have hi : i < n := by simpa using hi
    have hg : (vD n (F i))[i]? = some (fr (F i i)) := by simp [vD, hi]
    refine ⟨[some X0, some X1, some (.fz (.tup (tbR n F))), x3, x4, some (.fz (.int (i : Int))), some (.fz (.tup (vD n (F i))))], ?_, by simp, by simp⟩
    generalize vD n (F i) = V at hg ⊢
    generalize tbR n F = W
    simp [stepC, hg, Lw.fz]
  · simp [sizeLine]; omega
theorem v_is_drawn_together {K : PySem.W.Frag} {p r : Prog} (hp : p.Good) (hr : r.Good) (hn : p.n = r.n) : f_is_drawn_together K [.fz p.d, .fz r.d, .fz (tabD (2 ^ p.n + 1) (p.tab r).F)] = some (.fz (.bl true), [.fz p.d, .fz r.d, .fz (tabD (2 ^ p.n + 1) (p.tab r).F)]) := by
  have q1 := v_whole (K := K) hp
  have q2 := v_whole (K := K) hr
  have w1 := hp.wh (k := 100) (by have := hp.ok.dr; omega)
  have w2 := hr.wh (k := 100) (by have := hr.ok.dr; omega)
  rw [← hn] at w2
  have e1 : (T.lst (p.wh.map Lw.fz)).d = .lst (p.wh.map fr) := by rw [td_lst, List.map_map, fz_d]
  have e2 : (T.lst (r.wh.map Lw.fz)).d = .lst (r.wh.map fr) := by rw [td_lst, List.map_map, fz_d]
  have h16 := n16 hp.ok.n4
  have hN : 2 ^ p.n + 1 ≤ 1000 := by omega
  have g1 := w1.getD
  have g2 := w2.getD
  have a1 : S (2 ^ p.n + 1) (fun i => p.wh.getD i 0) = 1 := by
    have a1 := S_getD p.wh
    rw [w1.len, w1.sum] at a1; exact a1
  have a2 : S (2 ^ p.n + 1) (fun i => r.wh.getD i 0) = 1 := by
    have a2 := S_getD r.wh
    rw [w2.len, w2.sum] at a2; exact a2
  obtain ⟨f1, f2, f3, f4⟩ := Tb.end_ok g1 g2 (a1.trans a2.symm) (p.tab r) rfl
  have hfar : 1 - S (2 ^ p.n + 1) (fun i => (p.tab r).F i i) = far p.wh r.wh := by
    rw [far_S _ _ (by rw [w1.len, w2.len]), w1.len, S_sub, a1, S_congr f4]
  have hd := v_distance_of (N := 2 ^ p.n + 1) (k := 100) (by omega) hN w1 w2
  have hj := v_is_joint (k := 100) (by omega) hN f1 f2 f3 (fun i hi => (g1 i hi).le) (fun i hi => (g2 i hi).le)
  have l1 : p.wh.map fr = vD (2 ^ p.n + 1) (fun i => p.wh.getD i 0) := by rw [vD_list, w1.len]
  have l2 : r.wh.map fr = vD (2 ^ p.n + 1) (fun i => r.wh.getD i 0) := by rw [vD_list, w2.len]
  rw [← l1, ← l2] at hj
  have hrow : Row 100 ((List.range (2 ^ p.n + 1)).map fun i => (p.tab r).F i i) := fun q hq => by
    obtain ⟨i, hi, rfl⟩ := List.mem_map.mp hq
    have := f1 i (by simpa using hi) i (by simpa using hi)
    exact ⟨this.dv, this.nn⟩
  have hle : S (2 ^ p.n + 1) (fun i => (p.tab r).F i i) ≤ 1 := by
    rw [← a1, S_congr f4]
    exact S_mono fun i _ => (mn_le _ _).1
  have hs := v_sum (X := .lst (((List.range (2 ^ p.n + 1)).map fun i => (p.tab r).F i i).map fr)) (k := 100) (by omega) rfl hrow hle
  have hsn : 0 ≤ S (2 ^ p.n + 1) (fun i => (p.tab r).F i i) := S_nn fun i hi => (f1 i hi i hi).nn
  have hsd : Dv 100 (S (2 ^ p.n + 1) (fun i => (p.tab r).F i i)) := Dv.sum hrow.dv
  have hm := v_minus fit1 ((show Ch 100 _ from ⟨hsd, hsn, hle⟩).fit (by omega))
  have eS : ((List.range (2 ^ p.n + 1)).map fun i => (p.tab r).F i i).sum = S (2 ^ p.n + 1) (fun i => (p.tab r).F i i) := rfl
  rw [eS] at hs
  rw [hfar] at hm
  have dl := diag_list (K := K) hN (p.tab r).F (.fz p.d) (.fz r.d) (some (.fz (.lst (p.wh.map fr)))) (some (.fz (.lst (r.wh.map fr))))
  have et : (T.lst ((List.range (2 ^ p.n + 1)).map fun i => Lw.fz ((p.tab r).F i i))).d = .lst (((List.range (2 ^ p.n + 1)).map fun i => (p.tab r).F i i).map fr) := by rw [td_lst, List.map_map, List.map_map]; congr 1
  have eq : oEq (fr (far p.wh r.wh)) (fr (far p.wh r.wh)) = some (.bl true) := by rw [oEq_fr]; simp
  have e0 : tabD (2 ^ p.n + 1) (p.tab r).F = .tup (tbR (2 ^ p.n + 1) (p.tab r).F) := rfl
  rw [e0] at hj ⊢
  have hnp := v_need_pair hp hr hn
  clear l1 l2 a1 a2 f1 f2 f3 f4 hrow hle hsn hsd w1 w2 g1 g2 hfar e0 eS
  refine fn_rt (e := [some (.fz p.d), some (.fz r.d), some (.fz (.tup (tbR (2 ^ p.n + 1) (p.tab r).F))), some (.fz (.lst (p.wh.map fr))), some (.fz (.lst (r.wh.map fr))), none, none]) [p.d, r.d, .tup (tbR (2 ^ p.n + 1) (p.tab r).F)] ?_
  generalize (T.lst (p.wh.map Lw.fz)) = A at q1 e1
  generalize (T.lst (r.wh.map Lw.fz)) = B at q2 e2
  generalize (T.lst ((List.range (2 ^ p.n + 1)).map fun i => Lw.fz ((p.tab r).F i i))) = Z at dl et
  generalize (((List.range (2 ^ p.n + 1)).map fun i => (p.tab r).F i i).map fr) = Z2 at et hs
  generalize S (2 ^ p.n + 1) (fun i => (p.tab r).F i i) = s at hs hm
  generalize tbR (2 ^ p.n + 1) (p.tab r).F = W at *
  generalize far p.wh r.wh = fa at *
  generalize p.wh.map fr = L1 at *
  generalize r.wh.map fr = L2 at *
  simp [b_is_drawn_together, hnp, q1, q2, e1, e2, hj, dl, et, hs, hm, hd, eq]
end Lw

/-! P19 -/
set_option Elab.async false
set_option linter.all false
set_option maxRecDepth 100000
set_option maxHeartbeats 4000000
set_option exponentiation.threshold 100000
namespace Lw
open PySem PySem.Spec PyProof.Rows L2 Fw
/-! ### the law's own fractions -/
theorem mod_half (a b : Nat) (hb : 0 < b) (hr : 0 < a % b) : 2 * (b % (a % b)) < b := by
  have h1 : a % b < b := Nat.mod_lt _ hb
  have h2 := Nat.mod_lt b hr
  by_cases h : 2 * (a % b) ≤ b
  · omega
  · have : b % (a % b) = b - a % b := by
      rw [Nat.mod_eq_sub_mod (by omega), Nat.mod_eq_of_lt (by omega)]
    omega
theorem gcd_loop : ∀ (k b a : Nat) (ds : List D) (x2 : Option T), b < 2 ^ k → 2 * k < ds.length → ∃ e' : Fw.Env, loopM (gNm 2) l_law_gcd_1 ds [some (.fz (.int (a : Int))), some (.fz (.int (b : Int))), x2] = some (.rt (.fz (.int ((Nat.gcd a b : Nat) : Int))), e')
  | k, 0, a, [], x2, _, hl => by simp at hl
  | k, 0, a, d :: ds, x2, _, _ => ⟨_, loop_rt (e1 := [some (.fz (.int (a : Int))), some (.fz (.int 0)), some (.fz d)]) (by simp) (by simp [l_law_gcd_1]; rfl)⟩
  | 0, b + 1, a, ds, x2, h, _ => by simp at h
  | k + 1, b + 1, a, [], x2, _, hl => by simp at hl
  | k + 1, b + 1, a, [d], x2, _, hl => by simp at hl
  | k + 1, b + 1, a, d :: d2 :: ds, x2, h, hl => by
    simp only [List.length_cons] at hl
    have e0 : ((a : Int) % ((b + 1 : Nat) : Int)) = ((a % (b + 1) : Nat) : Int) := by simp
    have g1 : Nat.gcd (b + 1) (a % (b + 1)) = Nat.gcd a (b + 1) := by rw [Nat.gcd_comm a, Nat.gcd_rec (b + 1) a, Nat.gcd_comm]
    have s1 : l_law_gcd_1 [some (.fz (.int (a : Int))), some (.fz (.int ((b + 1 : Nat) : Int))), some (.fz d)] = some (.nx, [some (.fz (.int ((b + 1 : Nat) : Int))), some (.fz (.int ((a % (b + 1) : Nat) : Int))), some (.fz d)]) := by
      have hb : ¬ ((b + 1 : Nat) : Int) = 0 := by omega
      have hp : (0 : Int) < ((b + 1 : Nat) : Int) := by omega
      generalize a % (b + 1) = r at e0
      generalize ((b + 1 : Nat) : Int) = B at e0 hb hp ⊢
      simp [l_law_gcd_1, hb, hp, bInt, e0]
    by_cases hr : a % (b + 1) = 0
    · rw [hr] at s1 g1
      refine ⟨_, loop_nx (e1 := [some (.fz (.int (a : Int))), some (.fz (.int ((b + 1 : Nat) : Int))), some (.fz d)]) (by simp) s1 (loop_rt (e1 := [some (.fz (.int ((b + 1 : Nat) : Int))), some (.fz (.int 0)), some (.fz d2)]) (by simp) (t := .fz (.int ((Nat.gcd a (b + 1) : Nat) : Int))) (e2 := [some (.fz (.int ((b + 1 : Nat) : Int))), some (.fz (.int 0)), some (.fz d2)]) ?_)⟩
      rw [← g1, Nat.gcd_zero_right]
      simp [l_law_gcd_1]
    · have hh := mod_half a (b + 1) (by omega) (by omega)
      obtain ⟨e', q⟩ := gcd_loop k ((b + 1) % (a % (b + 1))) (a % (b + 1)) ds (some (.fz d2)) (by rw [Nat.pow_succ] at h; omega) (by omega)
      have g2 : Nat.gcd (a % (b + 1)) ((b + 1) % (a % (b + 1))) = Nat.gcd a (b + 1) := by
        rw [← g1, Nat.gcd_comm (b + 1) (a % (b + 1)), Nat.gcd_rec (a % (b + 1)) (b + 1), Nat.gcd_comm]
      rw [g2] at q
      refine ⟨e', loop_nx (e1 := [some (.fz (.int (a : Int))), some (.fz (.int ((b + 1 : Nat) : Int))), some (.fz d)]) (by simp) s1 (loop_nx (e1 := [some (.fz (.int ((b + 1 : Nat) : Int))), some (.fz (.int ((a % (b + 1) : Nat) : Int))), some (.fz d2)]) (by simp) ?_ q)⟩
      have e1 : (((b + 1 : Nat) : Int) % ((a % (b + 1) : Nat) : Int)) = (((b + 1) % (a % (b + 1)) : Nat) : Int) := by simp
      generalize (b + 1) % (a % (b + 1)) = r2 at e1
      generalize a % (b + 1) = r at e1 hr ⊢
      generalize ((b + 1 : Nat) : Int) = B at e1 ⊢
      have hp : 0 < r := by omega
      simp [l_law_gcd_1, hr, hp, bInt, e1]
theorem v_law_gcd (a b : Nat) (hb : b < 2 ^ 199) : f_law_gcd [.fz (.int (a : Int)), .fz (.int (b : Int))] = some (.fz (.int ((Nat.gcd a b : Nat) : Int)), [.fz (.int (a : Int)), .fz (.int (b : Int))]) := by
  obtain ⟨e', q⟩ := gcd_loop 199 b a ((List.range 400).map fun (i : Nat) => D.int (i : Int)) none hb (by simp)
  refine fn_rt (e := e') [.int (a : Int), .int (b : Int)] ?_
  have h1 : rng1 [.int 400] = some ((List.range 400).map fun (i : Nat) => D.int (i : Int)) := Fw.rng1_n 400 (by decide)
  generalize (List.range 400).map (fun (i : Nat) => D.int (i : Int)) = L at h1 q
  simp [b_law_gcd, h1, q]
theorem v_law_frac (t : Int) (b : Nat) (hb : b ≠ 0) (hd : b < 2 ^ 199) : f_law_frac [.fz (.int t), .fz (.int (b : Int))] = some (.fz (fr (mkRat t b)), [.fz (.int t), .fz (.int (b : Int))]) := by
  have hg : 0 < Nat.gcd t.natAbs b := Nat.gcd_pos_of_pos_right _ (by omega)
  have hle : Nat.gcd t.natAbs b ≤ b := Nat.gcd_le_right _ (by omega)
  have hd2 : b < 2 ^ 9000 := lt_mono hd
  have hc : CDivW t ((Nat.gcd t.natAbs b : Nat) : Int) := wide_div (b := 9000) (by omega) (by simp; omega) (by decide) (by decide)
  have hc2 : CDivW (b : Int) ((Nat.gcd t.natAbs b : Nat) : Int) := wide_div (b := 9000) (by omega) (by simp; omega) (by decide) (by decide)
  have e1 : (mkRat t b).num = t / ((Nat.gcd t.natAbs b : Nat) : Int) := by rw [Rat.num_mkRat, if_neg hb, Nat.gcd_comm]
  have e2 : (((mkRat t b).den : Nat) : Int) = (b : Int) / ((Nat.gcd t.natAbs b : Nat) : Int) := by rw [Rat.den_mkRat, if_neg hb, Nat.gcd_comm]; simp
  refine fn_rt (e := [some (.fz (.int t)), some (.fz (.int (b : Int))), some (.fz (.int ((Nat.gcd t.natAbs b : Nat) : Int)))]) [.int t, .int (b : Int)] ?_
  simp [b_law_frac, b1I, abs_eq, v_law_gcd _ _ hd, hc, hc2, sizeLine, fr, e1, e2]
theorem v_law_plus {a b : Rat} (ha : Fit a) (hb : Fit b) (hd : a.den * b.den < 2 ^ 199) : f_law_plus [.fz (fr a), .fz (fr b)] = some (.fz (fr (a + b)), [.fz (fr a), .fz (fr b)]) := by
  refine fn_rt (e := [some (.fz (fr a)), some (.fz (fr b))]) [fr a, fr b] ?_
  have e := v_law_frac (a.num * (b.den : Int) + b.num * (a.den : Int)) (a.den * b.den) (Nat.mul_ne_zero a.den_nz b.den_nz) hd
  rw [Int.natCast_mul] at e
  simp [b_law_plus, Fit.m1 ha hb, Fit.m1 hb ha, Fit.m2 ha hb, e, Rat.add_def']
theorem v_law_minus {a b : Rat} (ha : Fit a) (hb : Fit b) (hd : a.den * b.den < 2 ^ 199) : f_law_minus [.fz (fr a), .fz (fr b)] = some (.fz (fr (a - b)), [.fz (fr a), .fz (fr b)]) := by
  refine fn_rt (e := [some (.fz (fr a)), some (.fz (fr b))]) [fr a, fr b] ?_
  have e := v_law_frac (a.num * (b.den : Int) - b.num * (a.den : Int)) (a.den * b.den) (Nat.mul_ne_zero a.den_nz b.den_nz) hd
  rw [Int.natCast_mul] at e
  simp [b_law_minus, Fit.m1 ha hb, Fit.m1 hb ha, Fit.m2 ha hb, e, Rat.sub_def']
theorem v_law_times {a b : Rat} (ha : Fit a) (hb : Fit b) (hd : a.den * b.den < 2 ^ 199) : f_law_times [.fz (fr a), .fz (fr b)] = some (.fz (fr (a * b)), [.fz (fr a), .fz (fr b)]) := by
  refine fn_rt (e := [some (.fz (fr a)), some (.fz (fr b))]) [fr a, fr b] ?_
  have e := v_law_frac (a.num * b.num) (a.den * b.den) (Nat.mul_ne_zero a.den_nz b.den_nz) hd
  rw [Int.natCast_mul] at e
  simp [b_law_times, Fit.m3 ha hb, Fit.m2 ha hb, e, Rat.mul_def']
theorem v_law_less {a b : Rat} (ha : Fit a) (hb : Fit b) : f_law_less [.fz (fr a), .fz (fr b)] = some (.fz (.bl (decide (a < b))), [.fz (fr a), .fz (fr b)]) := by
  refine fn_rt (e := [some (.fz (fr a)), some (.fz (fr b))]) [fr a, fr b] ?_
  simp [b_law_less, Fit.m1 ha hb, Fit.m1 hb ha, Rat.lt_iff]
theorem dv_mul_lt {j k : Nat} {a b : Rat} (ha : Dv j a) (hb : Dv k b) (h : j + k ≤ 22) : a.den * b.den < 2 ^ 199 := by
  have h1 : a.den ≤ 420 ^ j := Nat.le_of_dvd (Nat.pow_pos (by decide)) ha
  have h2 : b.den ≤ 420 ^ k := Nat.le_of_dvd (Nat.pow_pos (by decide)) hb
  have h3 : a.den * b.den ≤ 420 ^ j * 420 ^ k := Nat.mul_le_mul h1 h2
  rw [← Nat.pow_add] at h3
  have h4 : 420 ^ (j + k) ≤ 420 ^ 22 := Nat.pow_le_pow_right (by decide) h
  exact Nat.lt_of_le_of_lt (Nat.le_trans h3 h4) (by decide +kernel)
theorem law_sum_loop (X : D) {k : Nat} (hk : k ≤ 11) : ∀ (r : List Rat) (s : Rat) (z : Option T), Row k r → Ch k s → s + r.sum ≤ 1 → ∃ z', loopM (gNm 2) l_law_sum_1 (r.map fr) [some (.fz X), some (.fz (fr s)), z] = some (.nx, [some (.fz X), some (.fz (fr (s + r.sum))), z'])
  | [], s, z, _, _, _ => ⟨z, by simp [Rat.add_zero]⟩
  | q :: r, s, z, hr, hs, hl => by
    simp only [List.sum_cons] at hl
    have hq := hr q (by simp)
    have h0 := sum_nn (a := r) fun x hx => (hr x (by simp [hx])).2
    have hqc : Ch k q := ⟨hq.1, hq.2, by have := hs.nn; grind⟩
    obtain ⟨z', ih⟩ := law_sum_loop X hk r (s + q) (some (.fz (fr q))) (fun x hx => hr x (by simp [hx])) ⟨hs.dv.add hq.1, by have := hs.nn; grind, by grind⟩ (by grind)
    refine ⟨z', loop_nx (e1 := [some (.fz X), some (.fz (fr s)), some (.fz (fr q))]) (by simp) (e2 := [some (.fz X), some (.fz (fr (s + q))), some (.fz (fr q))]) ?_ (ih.trans (by rw [List.sum_cons, Rat.add_assoc]))⟩
    simp [l_law_sum_1, v_law_plus (hs.fit (by omega)) (hqc.fit (by omega)) (dv_mul_lt hs.dv hq.1 (by omega))]
theorem z01 : (D.tup [.int 0, .int 1]) = fr 0 := rfl
theorem o01 : (D.tup [.int 1, .int 1]) = fr 1 := rfl
theorem v_law_sum {X : D} {r : List Rat} {k : Nat} (hk : k ≤ 11) (hX : seqD X = some (r.map fr)) (hr : Row k r) (hl : r.sum ≤ 1) : f_law_sum [.fz X] = some (.fz (fr r.sum), [.fz X]) := by
  obtain ⟨z', q⟩ := law_sum_loop X hk r 0 none hr ch0 (by rw [Rat.zero_add]; exact hl)
  rw [Rat.zero_add] at q
  refine fn_rt (e := [some (.fz X), none, z']) [X] ?_
  simp [b_law_sum, sizeLine, z01, hX, q]
end Lw

/-! P20 -/
set_option Elab.async false
set_option linter.all false
set_option maxRecDepth 100000
set_option maxHeartbeats 4000000
set_option exponentiation.threshold 100000
namespace Lw
open PySem PySem.Spec PyProof.Rows L2 Fw
/-! ### going through a block by flags -/
structure GS where
  w : Nat
  cnt : Nat
  lack : Bool
  drop : Bool
  ps : List (Nat × Bool)
def gd (g x : GS) : GS := if g.lack || g.drop then g else x
def GS.draw (fs : List Bool) (l t : Nat) (g : GS) : GS := match fs[g.cnt]? with
  | none => { g with lack := true }
  | some f => { g with w := wl g.w l f, cnt := g.cnt + 1, ps := g.ps ++ [(t, f)] }
def Blk.go (fs : List Bool) : Blk → GS → GS
  | .nil, g => g
  | .draw l t r, g => r.go fs (gd g (g.draw fs l t))
  | .put l a r, g => r.go fs (gd g { g with w := wl g.w l (a.ev g.w) })
  | .see a r, g => r.go fs (gd g { g with drop := !a.ev g.w })
  | .rounds n b r, g => r.go fs (gd g (iterF (b.go fs) n g))
  | .cond a x y r, g => r.go fs (gd g (if a.ev g.w then x.go fs g else y.go fs g))
def Stm.go (fs : List Bool) : Stm → GS → GS
  | .draw l t, g => g.draw fs l t
  | .put l a, g => { g with w := wl g.w l (a.ev g.w) }
  | .see a, g => { g with drop := !a.ev g.w }
  | .rounds n b, g => iterF (b.go fs) n g
  | .cond a x y, g => if a.ev g.w then x.go fs g else y.go fs g
@[simp] theorem on_go (fs : List Bool) (s : Stm) (r : Blk) (g : GS) : (s.on r).go fs g = r.go fs (gd g (s.go fs g)) := by cases s <;> rfl
def GS.stuck (g : GS) : Prop := (g.lack || g.drop) = true
theorem go_stuck (fs : List Bool) (b : Blk) (g : GS) (h : g.stuck) : b.go fs g = g := by
  induction b using Blk.ind with
  | h0 => rfl
  | h1 s r ih =>
    have : gd g (s.go fs g) = g := if_pos h
    rw [on_go, this]; exact ih
structure GS.Ok (n : Nat) (fs : List Bool) (g : GS) : Prop where
  w : g.w < 2 ^ n
  cnt : g.cnt ≤ fs.length
  ps : g.ps.length = g.cnt
section
variable {n k : Nat} {fs : List Bool}
theorem draw_gok {g : GS} (h : g.Ok n fs) {l t : Nat} (hl : l < n) : (g.draw fs l t).Ok n fs := by
  unfold GS.draw
  split
  · exact ⟨h.w, h.cnt, h.ps⟩
  · rename_i f hf
    have := (List.getElem?_eq_some_iff.mp hf).1
    exact ⟨wl_lt f h.w hl, by show g.cnt + 1 ≤ _; omega, by simp [h.ps]⟩
theorem gd_ok {g x : GS} (hg : g.Ok n fs) (hx : x.Ok n fs) : (gd g x).Ok n fs := by unfold gd; split <;> assumption
theorem go_ok : ∀ (b : Blk) (g : GS), b.fine n k → g.Ok n fs → (b.go fs g).Ok n fs
  | .nil, g, _, h => h
  | .draw l t r, g, hf, h => go_ok r _ hf.2.2 (gd_ok h (draw_gok h hf.1))
  | .put l a r, g, hf, h => go_ok r _ hf.2.2.2 (gd_ok h ⟨wl_lt _ h.w hf.1, h.cnt, h.ps⟩)
  | .see a r, g, hf, h => go_ok r _ hf.2.2 (gd_ok h ⟨h.w, h.cnt, h.ps⟩)
  | .rounds m b r, g, hf, h => by
    have key : ∀ m, (iterF (b.go fs) m g).Ok n fs := fun m => by
      induction m with
      | zero => exact h
      | succ m ih => exact go_ok b _ hf.1 ih
    exact go_ok r _ hf.2 (gd_ok h (key m))
  | .cond a x y r, g, hf, h => by
    refine go_ok r _ hf.2.2.2.2 (gd_ok h ?_)
    split
    · exact go_ok x g hf.2.2.1 h
    · exact go_ok y g hf.2.2.2.1 h
theorem sgo_ok (s : Stm) (g : GS) (hf : s.fine n k) (h : g.Ok n fs) : (s.go fs g).Ok n fs := by
  by_cases hs : (g.lack || g.drop) = true
  · have h1 := go_ok (s.on .nil) { g with lack := false, drop := false } ((on_fine s .nil).mpr ⟨hf, trivial⟩) ⟨h.w, h.cnt, h.ps⟩
    cases s with
    | draw l t => exact draw_gok h hf.1
    | put l a => exact ⟨wl_lt _ h.w hf.1, h.cnt, h.ps⟩
    | see a => exact ⟨h.w, h.cnt, h.ps⟩
    | rounds m b =>
      have key : ∀ m, (iterF (b.go fs) m g).Ok n fs := fun m => by
        induction m with
        | zero => exact h
        | succ m ih => exact go_ok b _ hf ih
      exact key m
    | cond a x y =>
      show (if a.ev g.w then x.go fs g else y.go fs g).Ok n fs
      split
      · exact go_ok x g hf.2.2.1 h
      · exact go_ok y g hf.2.2.2 h
  · have h1 := go_ok (s.on .nil) g ((on_fine s .nil).mpr ⟨hf, trivial⟩) h
    rw [on_go, gd, if_neg hs] at h1
    exact h1
end
/-! told, as the law keeps it -/
def prD (p : Nat × Bool) : D := .tup [.int (p.1 : Int), .bl p.2]
def prT (p : Nat × Bool) : T := .fz (prD p)
def GS.T (g : GS) : T := .lst [.fz (.int (g.cnt : Int)), .fz (.bl g.lack), .fz (.bl g.drop), .lst (g.ps.map prT)]
theorem fn_lent3 {total : Nat} {W : List Nat} {body : MS} {r t' : T} {e : Fw.Env} (d0 d1 d2 : D) (xs : List T) (h : body ([some (.fz d0), some (.fz d1), some (.fz d2), some (.lst xs)] ++ List.replicate (total - 4) none) = some (.rt r, e)) (he : e[3]? = some (some t')) (hW : 3 ∉ W := by decide) :
    mkFn 4 total W body [.fz d0, .fz d1, .fz d2, .lst xs] = some (r, [.fz d0, .fz d1, .fz d2, t']) := by
  unfold mkFn
  have h2 : body ([T.fz d0, .fz d1, .fz d2, .lst xs].map some ++ List.replicate (total - 4) none) = some (.rt r, e) := h
  rw [if_pos (by rfl), h2]
  simp only [Fw.resT, outsM, hW, if_false, he, Option.map_some]
/-- an item put to a list within a list -/
theorem app_at {e e2 : Fw.Env} {i j : Nat} {ts us : List T} {t : T} {mb : M T} (hi : e[i]? = some (some (.lst ts))) (hj : ts[j]? = some (.lst us)) (hm : mb (e.set i none) = some (t, e2)) (h2 : e2[i]? = some none) (hl : us.length < sizeLine) :
    mApp (pIx (pNm i) (mRet (.int (j : Int)))) mb e = some (.non, e2.set i (some (.lst (ts.set j (.lst (us ++ [t])))))) := by
  have hjl := (List.getElem?_eq_some_iff.mp hj).1
  have hil := (List.getElem?_eq_some_iff.mp hi).1
  have p1 : pIx (pNm i) (mRet (.int (j : Int))) e = some ((i, [j]), e) := by
    unfold pIx
    rw [ixAt_nm, hi]
    simp only [onLst_s, a_ret, Option.bind_some, intO_i, List.getElem?_set_self hil, onHole_n, ixN_c, if_pos hjl, Option.map_some, List.nil_append, List.set_set]
    rw [set_same hi]
  unfold mApp argAt
  rw [p1]
  simp only [treeAt, hi, T.get, hj, Option.bind_some, Option.map_some, hm, h2, if_pos hl, T.put]
section
variable {n k : Nat} {fs : List Bool} (hn : n ≤ 4)
def flD (fs : List Bool) : D := .tup (fs.map .bl)
def GoM (n : Nat) (fs : List Bool) (f : Fn) (b : Blk) : Prop := ∀ g : GS, g.Ok n fs → f [.fz b.d, .fz (.int (g.w : Int)), .fz (flD fs), g.T] = some (.fz (.int ((b.go fs g).w : Int)), [.fz b.d, .fz (.int (g.w : Int)), .fz (flD fs), (b.go fs g).T])
theorem lgo_rounds (rec : Fn) (c : Nat) (b : Blk) (X0 X4 : T) (x5 : Option T) (hX4 : X4.d = (Stm.rounds c b).d) (hb : GoM n fs rec b) (hf : b.fine n k) : ∀ (ds : List D) (g : GS) (x6 : Option T), g.Ok n fs → ∃ (x4' : T) (x6' : Option T), x4'.d = (Stm.rounds c b).d ∧
    loopM (gNm 6) (l_law_go_1 rec) ds [some X0, some (.fz (.int (g.w : Int))), some (.fz (flD fs)), some g.T, some X4, x5, x6] = some (.nx, [some X0, some (.fz (.int ((iterF (b.go fs) ds.length g).w : Int))), some (.fz (flD fs)), some (iterF (b.go fs) ds.length g).T, some x4', x5, x6'])
  | [], g, x6, _ => ⟨X4, x6, hX4, by simp [iterF]⟩
  | d :: ds, g, x6, hg => by
    have q1 := hb g hg
    obtain ⟨x4', x6', h4, q⟩ := lgo_rounds rec c b X0 (.fz (Stm.rounds c b).d) x5 (td_fz _) hb hf ds (b.go fs g) (some (.fz d)) (go_ok b g hf hg)
    refine ⟨x4', x6', h4, ?_⟩
    rw [List.length_cons, iterF_succ]
    refine loop_nx (e1 := [some X0, some (.fz (.int (g.w : Int))), some (.fz (flD fs)), some g.T, some X4, x5, some (.fz d)]) (by simp) ?_ q
    have hd : (Stm.rounds c b).d = .tup [.str "rounds", .int (c : Int), b.d] := rfl
    rw [hd] at hX4 ⊢
    simp [l_law_go_1, hX4, q1]
include hn
/-- one statement: where nothing is flagged -/
theorem lgo_st (rec : Fn) (s : Stm) (hfs : fs.length ≤ 1000) (hf : s.fine n k) (hgood : s.good n k = true) (hb : ∀ c ∈ s.blks, GoM n fs rec c) (X0 : T) (g : GS) (hg : g.Ok n fs) (hst : (g.lack || g.drop) = false) (x5 x6 : Option T) :
    ∃ (fl : Fl) (x4' : T) (x5' x6' : Option T) (w1 : Nat), (fl = .nx ∧ w1 = (s.go fs g).w ∨ fl = .rt (.fz (.int ((s.go fs g).w : Int))) ∧ (s.go fs g).stuck) ∧
    l_law_go_2 rec [some X0, some (.fz (.int (g.w : Int))), some (.fz (flD fs)), some g.T, some (.fz s.d), x5, x6] = some (fl, [some X0, some (.fz (.int (w1 : Int))), some (.fz (flD fs)), some (s.go fs g).T, some x4', x5', x6']) := by
  obtain ⟨w, cnt, lack, drop, ps⟩ := g
  simp only [Bool.or_eq_false_iff] at hst
  obtain ⟨rfl, rfl⟩ := hst
  have hw := hg.w
  simp only at hw
  cases s with
  | draw l t =>
    have hd : (Stm.draw l t).d = .tup [.str "draw", .int (l : Int), .int (t : Int)] := rfl
    have hlen : bLen [flD fs] = some (.int fs.length) := by simp [flD]
    have hc := hg.cnt
    have hps := hg.ps
    simp only at hc hps
    by_cases hx : cnt = fs.length
    · have e1 : (Stm.draw l t).go fs ⟨w, cnt, false, false, ps⟩ = ⟨w, cnt, true, false, ps⟩ := by
        simp [Stm.go, GS.draw, hx]
      rw [e1]
      refine ⟨.rt (.fz (.int (w : Int))), .fz (Stm.draw l t).d, x5, x6, w, .inr ⟨rfl, rfl⟩, ?_⟩
      have : (cnt : Int) = (fs.length : Int) := by omega
      rw [hd]
      generalize flD fs = FD at *
      simp [l_law_go_2, GS.T, a_plIx, a_gIx, hlen, this]
    · obtain ⟨f, hf1⟩ : ∃ f, fs[cnt]? = some f := ⟨fs[cnt]'(by omega), List.getElem?_eq_getElem _⟩
      have e1 : (Stm.draw l t).go fs ⟨w, cnt, false, false, ps⟩ = ⟨wl w l f, cnt + 1, false, false, ps ++ [(t, f)]⟩ := by
        simp [Stm.go, GS.draw, hf1]
      rw [e1]
      refine ⟨.nx, .fz (Stm.draw l t).d, some (.fz (.bl f)), x6, _, .inl ⟨rfl, rfl⟩, ?_⟩
      have hne : ¬ (cnt : Int) = (fs.length : Int) := by omega
      have hfl : (flD fs) = .tup (fs.map .bl) := rfl
      have hix : oIx (flD fs) (.int (cnt : Int)) = some (.bl f) := by simp [flD, hf1]
      have hwi := v_law_with hn f hw hf.1
      have hap := app_at (e := [some X0, some (.fz (.int (w : Int))), some (.fz (flD fs)), some (.lst [.fz (.int ((cnt : Int) + 1)), .fz (.bl false), .fz (.bl false), .lst (ps.map prT)]), some (.fz (Stm.draw l t).d), some (.fz (.bl f)), x6]) (i := 3) (j := 3) (us := ps.map prT)
        (mb := mT (mTup (mCons (mOp oIx (mVar 4) (mRet (.int 2))) (mCons (mVar 5) (mRet []))))) (t := prT (t, f)) (e2 := [some X0, some (.fz (.int (w : Int))), some (.fz (flD fs)), none, some (.fz (Stm.draw l t).d), some (.fz (.bl f)), x6]) rfl rfl (by
          rw [hd]
          simp [sizeLine, prT, prD]) rfl (by simp [sizeLine]; omega)
      have e3 : ((3 : Nat) : Int) = 3 := rfl
      rw [e3] at hap
      have e4 : ((cnt + 1 : Nat) : Int) = (cnt : Int) + 1 := by omega
      have eT : (GS.mk (wl w l f) (cnt + 1) false false (ps ++ [(t, f)])).T = .lst [.fz (.int ((cnt : Int) + 1)), .fz (.bl false), .fz (.bl false), .lst (ps.map prT ++ [prT (t, f)])] := by
        simp [GS.T, e4]
      rw [eT]
      simp only [List.set_cons_succ, List.set_cons_zero] at hap
      rw [hd] at hap ⊢
      generalize flD fs = FD at hap hlen hix ⊢
      simp [l_law_go_2, GS.T, a_plIx, a_gIx, hlen, hne, hix, hap, hwi]
  | put l a =>
    refine ⟨.nx, .fz (Stm.put l a).d, x5, x6, _, .inl ⟨rfl, rfl⟩, ?_⟩
    have hd : (Stm.put l a).d = .tup [.str "set", .int (l : Int), a.d] := rfl
    have hwi := v_law_with hn (a.ev w) hw hf.1
    have ht := v_law_true w a 12 (by have := hf.2.2; omega)
    rw [hd]
    simp [l_law_go_2, GS.T, a_plIx, ht, hwi, Stm.go]
  | see a =>
    refine ⟨.nx, .fz (Stm.see a).d, x5, x6, _, .inl ⟨rfl, rfl⟩, ?_⟩
    have hd : (Stm.see a).d = .tup [.str "see", a.d] := rfl
    have ht := v_law_true w a 12 (by have := hf.2; omega)
    rw [hd]
    simp [l_law_go_2, GS.T, a_plIx, a_gIx, ht, Stm.go]
  | rounds c b =>
    have hc : c ≤ 4 := by simpa [Stm.good] using hgood
    obtain ⟨x4', x6', h4, q⟩ := lgo_rounds rec c b X0 (.fz (Stm.rounds c b).d) x5 (td_fz _) (hb b (by simp [Stm.blks])) hf ((List.range c).map fun (i : Nat) => D.int (i : Int)) ⟨w, cnt, false, false, ps⟩ x6 hg
    rw [show ((List.range c).map fun (i : Nat) => D.int (i : Int)).length = c by simp] at q
    refine ⟨.nx, x4', x5, x6', _, .inl ⟨rfl, rfl⟩, ?_⟩
    have hd : (Stm.rounds c b).d = .tup [.str "rounds", .int (c : Int), b.d] := rfl
    have hr := Fw.rng1_n c (Nat.lt_of_le_of_lt hc (by decide))
    have e1 : (Stm.rounds c b).go fs ⟨w, cnt, false, false, ps⟩ = iterF (b.go fs) c ⟨w, cnt, false, false, ps⟩ := rfl
    have h0 : (GS.mk w cnt false false ps).T = .lst [.fz (.int (cnt : Int)), .fz (.bl false), .fz (.bl false), .lst (ps.map prT)] := rfl
    rw [e1]
    rw [hd, h0] at q
    rw [hd, h0]
    generalize (List.range c).map (fun (i : Nat) => D.int (i : Int)) = ds at hr q
    generalize iterF (b.go fs) c ⟨w, cnt, false, false, ps⟩ = g1 at q ⊢
    simp [l_law_go_2, a_plIx, hr, q]
  | cond a x y =>
    have hd : (Stm.cond a x y).d = .tup [.str "if", a.d, x.d, y.d] := rfl
    have ht := v_law_true w a 12 (by have := hf.2.1; omega)
    have h0 : (GS.mk w cnt false false ps).T = .lst [.fz (.int (cnt : Int)), .fz (.bl false), .fz (.bl false), .lst (ps.map prT)] := rfl
    have qx := hb x (by simp [Stm.blks]) ⟨w, cnt, false, false, ps⟩ hg
    have qy := hb y (by simp [Stm.blks]) ⟨w, cnt, false, false, ps⟩ hg
    refine ⟨.nx, .fz (Stm.cond a x y).d, x5, x6, _, .inl ⟨rfl, rfl⟩, ?_⟩
    have e1 : (Stm.cond a x y).go fs ⟨w, cnt, false, false, ps⟩ = if a.ev w then x.go fs ⟨w, cnt, false, false, ps⟩ else y.go fs ⟨w, cnt, false, false, ps⟩ := rfl
    rw [e1]
    rw [h0] at qx qy
    rw [hd, h0]
    simp only [] at qx qy
    generalize x.go fs ⟨w, cnt, false, false, ps⟩ = g1 at qx ⊢
    generalize y.go fs ⟨w, cnt, false, false, ps⟩ = g2 at qy ⊢
    by_cases hv : a.ev w = true
    · rw [if_pos hv]
      rw [hv] at ht
      simp [l_law_go_2, a_plIx, ht, qx]
    · rw [if_neg hv]
      have hv : a.ev w = false := by simpa using hv
      rw [hv] at ht
      simp [l_law_go_2, a_plIx, ht, qy]
theorem lgo_run (rec : Fn) (hfs : fs.length ≤ 1000) (X0 : T) : ∀ (ss : List Stm), (∀ s ∈ ss, s.fine n k ∧ s.good n k = true ∧ ∀ c ∈ s.blks, GoM n fs rec c) → ∀ (g : GS) (x4 x5 x6 : Option T), g.Ok n fs →
    ∃ (fl : Fl) (e' : Fw.Env), (fl = .nx ∧ e'[1]? = some (some (.fz (.int (((Blk.of ss).go fs g).w : Int)))) ∨ fl = .rt (.fz (.int (((Blk.of ss).go fs g).w : Int)))) ∧ e'[3]? = some (some ((Blk.of ss).go fs g).T) ∧
      loopM (gNm 4) (l_law_go_2 rec) (ss.map Stm.d) [some X0, some (.fz (.int (g.w : Int))), some (.fz (flD fs)), some g.T, x4, x5, x6] = some (fl, e')
  | [], _, g, x4, x5, x6, _ => ⟨.nx, [some X0, some (.fz (.int (g.w : Int))), some (.fz (flD fs)), some g.T, x4, x5, x6], .inl ⟨rfl, rfl⟩, rfl, by simp⟩
  | s :: ss, h, g, x4, x5, x6, hg => by
    obtain ⟨hf, hgood, hb⟩ := h s (by simp)
    by_cases hst : (g.lack || g.drop) = true
    · have e1 : (Blk.of (s :: ss)).go fs g = g := go_stuck fs _ g hst
      rw [e1]
      refine ⟨.rt (.fz (.int (g.w : Int))), [some X0, some (.fz (.int (g.w : Int))), some (.fz (flD fs)), some g.T, some (.fz s.d), x5, x6], .inr rfl, rfl, ?_⟩
      refine loop_rt (e1 := [some X0, some (.fz (.int (g.w : Int))), some (.fz (flD fs)), some g.T, some (.fz s.d), x5, x6]) (by simp) ?_
      obtain ⟨w, cnt, lack, drop, ps⟩ := g
      have h0 : (GS.mk w cnt lack drop ps).T = .lst [.fz (.int (cnt : Int)), .fz (.bl lack), .fz (.bl drop), .lst (ps.map prT)] := rfl
      rw [h0]
      cases lack with
      | true => simp [l_law_go_2, a_plIx]
      | false =>
        have : drop = true := by simpa using hst
        subst this
        simp [l_law_go_2, a_plIx]
    · have hst' : (g.lack || g.drop) = false := by simpa using hst
      obtain ⟨fl, x4', x5', x6', w1, hfl, q⟩ := lgo_st hn rec s hfs hf hgood hb X0 g hg hst' x5 x6
      have eg : gd g (s.go fs g) = s.go fs g := if_neg hst
      rw [of_on, on_go, eg]
      rcases hfl with ⟨rfl, rfl⟩ | ⟨rfl, hs⟩
      · obtain ⟨fl2, e', r1, r2, q2⟩ := lgo_run rec hfs X0 ss (fun s hs => h s (by simp [hs])) (s.go fs g) (some x4') x5' x6' (sgo_ok s g hf hg)
        exact ⟨fl2, e', r1, r2, loop_nx (e1 := [some X0, some (.fz (.int (g.w : Int))), some (.fz (flD fs)), some g.T, some (.fz s.d), x5, x6]) (by simp) q q2⟩
      · rw [go_stuck fs (Blk.of ss) _ hs]
        exact ⟨_, _, .inr rfl, rfl, loop_rt (e1 := [some X0, some (.fz (.int (g.w : Int))), some (.fz (flD fs)), some g.T, some (.fz s.d), x5, x6]) (by simp) q⟩
theorem v_law_go (hfs : fs.length ≤ 1000) : ∀ (j m : Nat) (b : Blk), b.ok n k j → j ≤ m → GoM n fs (f_law_go m) b
  | 0, m, b, h, _ => absurd h (by simp [Blk.ok])
  | j + 1, 0, b, _, h => by omega
  | j + 1, m + 1, b, hb, hm => by
    intro g hg
    unfold f_law_go
    have hfb := ok_fine hb
    obtain ⟨h1, h2, h3, h4⟩ := hb
    obtain ⟨fl, e', r1, r2, q⟩ := lgo_run hn (f_law_go m) hfs (.fz b.d) b.sts (fun s hs => ⟨(fine_sts b).mp hfb s hs, (h4 s hs).1, fun c hc => v_law_go hfs j m c ((h4 s hs).2 c hc) (by omega)⟩) g none none none hg
    rw [sts_of] at r1 r2
    have h5 : seqD b.d = some (b.sts.map Stm.d) := by simp [Blk.d, ds_sts, seqD]
    have hT : g.T = .lst [.fz (.int (g.cnt : Int)), .fz (.bl g.lack), .fz (.bl g.drop), .lst (g.ps.map prT)] := rfl
    rcases r1 with ⟨rfl, r1⟩ | rfl
    · have hset : e'.set 1 (some (.fz (.int ((b.go fs g).w : Int)))) = e' := set_same r1
      have hv := var_at r1
      rw [hT] at q ⊢
      refine fn_lent3 (e := e') _ _ _ _ ?_ r2
      show b_law_go (f_law_go m) [some (.fz b.d), some (.fz (.int (g.w : Int))), some (.fz (flD fs)), _, none, none, none] = _
      unfold b_law_go
      rw [a_seq, a_for, a_sq, a_var]
      simp [h5, q, -a_var, hv]
    · rw [hT] at q ⊢
      refine fn_lent3 (e := e') _ _ _ _ ?_ r2
      show b_law_go (f_law_go m) [some (.fz b.d), some (.fz (.int (g.w : Int))), some (.fz (flD fs)), _, none, none, none] = _
      simp [b_law_go, h5, q]
end
end Lw

/-! P21 -/
set_option Elab.async false
set_option linter.all false
set_option maxRecDepth 100000
set_option maxHeartbeats 4000000
set_option exponentiation.threshold 100000
namespace Lw
open PySem PySem.Spec PyProof.Rows L2 Fw
/-! ### going by flags is going through the tree -/
def GoRel (fs : List Bool) (g g' : GS) (X : Tr) (k : Nat → Tr) : Prop := ∃ dp, g'.ps = g.ps ++ dp ∧
  ((g'.lack = true ∧ ∃ s a b, X.go (fs.drop g.cnt) = (dp, [], .node s a b)) ∨
   (g'.lack = false ∧ g'.drop = true ∧ X.go (fs.drop g.cnt) = (dp, fs.drop g'.cnt, .leaf none)) ∨
   (g'.lack = false ∧ g'.drop = false ∧ X.go (fs.drop g.cnt) = (dp ++ ((k g'.w).go (fs.drop g'.cnt)).1, ((k g'.w).go (fs.drop g'.cnt)).2)))
section
variable {fs : List Bool}
theorem GoRel.comp {g g1 g2 : GS} {X : Tr} {k1 k : Nat → Tr} (h1 : GoRel fs g g1 X k1) (h2 : ¬ g1.stuck → GoRel fs g1 g2 (k1 g1.w) k) (h3 : g1.stuck → g2 = g1) : GoRel fs g g2 X k := by
  obtain ⟨dp, e, h⟩ := h1
  rcases h with ⟨l, s, a, b, h⟩ | ⟨l, d, h⟩ | ⟨l, d, h⟩
  · rw [h3 (by simp [GS.stuck, l])]
    exact ⟨dp, e, .inl ⟨l, s, a, b, h⟩⟩
  · rw [h3 (by simp [GS.stuck, d])]
    exact ⟨dp, e, .inr (.inl ⟨l, d, h⟩)⟩
  · obtain ⟨dq, e2, h2⟩ := h2 (by simp [GS.stuck, l, d])
    refine ⟨dp ++ dq, by rw [e2, e, List.append_assoc], ?_⟩
    rcases h2 with ⟨l2, s, a, b, q⟩ | ⟨l2, d2, q⟩ | ⟨l2, d2, q⟩
    · exact .inl ⟨l2, s, a, b, by rw [h, q]⟩
    · exact .inr (.inl ⟨l2, d2, by rw [h, q]⟩)
    · exact .inr (.inr ⟨l2, d2, by rw [h, q, List.append_assoc]⟩)
theorem iter_stuck (b : Blk) {g : GS} (h : g.stuck) : ∀ n, iterF (b.go fs) n g = g
  | 0 => rfl
  | n + 1 => by rw [iterF, iter_stuck b h n, go_stuck fs b g h]
theorem gd_un {g x : GS} (h : ¬ g.stuck) : gd g x = x := if_neg h
theorem go_tree : ∀ (b : Blk) (k : Nat → Tr) (g : GS), ¬ g.stuck → GoRel fs g (b.go fs g) (b.tr k g.w) k
  | .nil, k, g, h => by
    simp only [GS.stuck, Bool.or_eq_true, not_or, Bool.not_eq_true] at h
    exact ⟨[], by simp [Blk.go], .inr (.inr ⟨h.1, h.2, by simp [Blk.go, Blk.tr]⟩)⟩
  | .draw l t r, k, g, h => by
    simp only [Blk.go, gd_un h]
    have h' := h
    simp only [GS.stuck, Bool.or_eq_true, not_or, Bool.not_eq_true] at h'
    refine GoRel.comp (k1 := r.tr k) ?_ (fun hs => go_tree r k _ hs) fun hs => go_stuck fs r _ hs
    unfold GS.draw
    split
    · rename_i hf
      have : fs.drop g.cnt = [] := List.drop_of_length_le (List.getElem?_eq_none_iff.mp hf)
      exact ⟨[], by simp, .inl ⟨rfl, t, _, _, by simp only [Blk.tr, this, Tr.go]; rfl⟩⟩
    · rename_i f hf
      have hl := (List.getElem?_eq_some_iff.mp hf)
      have : fs.drop g.cnt = f :: fs.drop (g.cnt + 1) := by
        rw [List.drop_eq_getElem_cons hl.1, hl.2]
      refine ⟨[(t, f)], rfl, .inr (.inr ⟨h'.1, h'.2, ?_⟩)⟩
      simp only [Blk.tr, this, Tr.go]
      cases f <;> rfl
  | .put l a r, k, g, h => by
    simp only [Blk.go, gd_un h]
    have h' := h
    simp only [GS.stuck, Bool.or_eq_true, not_or, Bool.not_eq_true] at h'
    refine GoRel.comp (k1 := r.tr k) (g1 := { g with w := wl g.w l (a.ev g.w) }) ?_ (fun hs => go_tree r k _ hs) fun hs => go_stuck fs r _ hs
    exact ⟨[], by simp, .inr (.inr ⟨h'.1, h'.2, by simp [Blk.tr]⟩)⟩
  | .see a r, k, g, h => by
    simp only [Blk.go, gd_un h]
    have h' := h
    simp only [GS.stuck, Bool.or_eq_true, not_or, Bool.not_eq_true] at h'
    refine GoRel.comp (k1 := r.tr k) (g1 := { g with drop := !a.ev g.w }) ?_ (fun hs => go_tree r k _ hs) fun hs => go_stuck fs r _ hs
    by_cases he : a.ev g.w = true
    · exact ⟨[], by simp, .inr (.inr ⟨h'.1, by simp [he], by simp [Blk.tr, he]⟩)⟩
    · have he : a.ev g.w = false := by simpa using he
      exact ⟨[], by simp, .inr (.inl ⟨h'.1, by simp [he], by simp [Blk.tr, he, Tr.go]⟩)⟩
  | .rounds n b r, k, g, h => by
    simp only [Blk.go, gd_un h]
    refine GoRel.comp (k1 := r.tr k) ?_ (fun hs => go_tree r k _ hs) fun hs => go_stuck fs r _ hs
    simp only [Blk.tr]
    generalize r.tr k = K
    induction n generalizing g with
    | zero =>
      have h' := h
      simp only [GS.stuck, Bool.or_eq_true, not_or, Bool.not_eq_true] at h'
      exact ⟨[], by simp [iterF], .inr (.inr ⟨h'.1, h'.2, by simp [iterF]⟩)⟩
    | succ n ih =>
      rw [iterF_succ]
      exact GoRel.comp (k1 := iterF b.tr n K) (go_tree b _ g h) (fun hs => ih _ hs) fun hs => iter_stuck b hs n
  | .cond a x y r, k, g, h => by
    simp only [Blk.go, gd_un h]
    refine GoRel.comp (k1 := r.tr k) ?_ (fun hs => go_tree r k _ hs) fun hs => go_stuck fs r _ hs
    simp only [Blk.tr]
    split
    · exact go_tree x _ g h
    · exact go_tree y _ g h
/-! the prefix of a subtree -/
theorem go_nil : ∀ t : Tr, t.go [] = ([], [], t)
  | .leaf _ => rfl
  | .node _ _ _ => rfl
theorem go_snoc {f : Bool} : ∀ (t : Tr) (fs : List Bool) (ps : List (Nat × Bool)) (s : Nat) (a b : Tr), t.go fs = (ps, [], .node s a b) → t.go (fs ++ [f]) = (ps ++ [(s, f)], [], if f then b else a)
  | .leaf _, fs, ps, s, a, b, h => by simp [Tr.go] at h
  | .node s0 a0 b0, [], ps, s, a, b, h => by
    simp only [Tr.go, Prod.mk.injEq, Tr.node.injEq] at h
    obtain ⟨rfl, _, rfl, rfl, rfl⟩ := h
    simp [Tr.go, go_nil]
  | .node s0 a0 b0, f0 :: fs, ps, s, a, b, h => by
    simp only [Tr.go, Prod.mk.injEq] at h
    obtain ⟨rfl, h⟩ := h
    cases f0 with
    | true =>
      have := go_snoc (f := f) b0 fs (b0.go fs).1 s a b (Prod.ext rfl h)
      simp only [List.cons_append, Tr.go, if_true]
      rw [this]
    | false =>
      have := go_snoc (f := f) a0 fs (a0.go fs).1 s a b (Prod.ext rfl h)
      simp only [List.cons_append, Tr.go, Bool.false_eq_true, if_false]
      rw [this]
theorem go_at {b : Blk} {w : Nat} {ps : List (Nat × Bool)} {sub : Tr} (h : (b.tr (fun w => .leaf (some w)) w).go fs = (ps, [], sub)) : ∀ g', g' = b.go fs ⟨w, 0, false, false, []⟩ → g'.ps = ps ∧
    ((g'.lack = true ∧ ∃ s x y, sub = .node s x y) ∨ (g'.lack = false ∧ sub = .leaf (if g'.drop then none else some g'.w))) := by
  rintro g' rfl
  have r := go_tree (fs := fs) b (fun w => .leaf (some w)) ⟨w, 0, false, false, []⟩ (by simp [GS.stuck])
  generalize b.go fs ⟨w, 0, false, false, []⟩ = g' at r ⊢
  obtain ⟨dp, e, r⟩ := r
  simp only [List.nil_append] at e
  subst e
  rcases r with ⟨l, s, x, y, q⟩ | ⟨l, d, q⟩ | ⟨l, d, q⟩
  · simp only [List.drop_zero] at q
    rw [h] at q
    simp only [Prod.mk.injEq] at q
    exact ⟨q.1.symm, .inl ⟨l, s, x, y, q.2.2⟩⟩
  · simp only [List.drop_zero] at q
    rw [h] at q
    simp only [Prod.mk.injEq] at q
    exact ⟨q.1.symm, .inr ⟨l, by rw [q.2.2, d]; rfl⟩⟩
  · simp only [List.drop_zero, Tr.go, List.append_nil] at q
    rw [h] at q
    simp only [Prod.mk.injEq] at q
    exact ⟨q.1.symm, .inr ⟨l, by rw [q.2.2, d]; rfl⟩⟩
end
/-! ### the rows -/
def oD : Option Nat → D
  | none => .non
  | some w => .int (w : Int)
def LRow.d (r : LRow) : D := .tup [flD r.flags, oD r.w, .lst (r.ps.map prD)]
def rowT (r : LRow) : T := .fz r.d
def flT (fs : List Bool) : T := .fz (flD fs)
theorem pop_at {e : Fw.Env} {i : Nat} {ts : List T} {y : T} (hi : e[i]? = some (some (.lst (ts ++ [y])))) : mPop (pNm i) e = some (y, e.set i (some (.lst ts))) := by
  unfold mPop
  rw [pnm_at hi]
  simp [treeAt, hi, T.get, T.put]
theorem len_at {e : Fw.Env} {i : Nat} {ts : List T} (hi : e[i]? = some (some (.lst ts))) : mLenP (pNm i) e = some (.int ts.length, e) := by
  unfold mLenP
  rw [pnm_at hi]
  simp [treeAt, hi, T.get]
section
variable {n k : Nat} {b : Blk} {w : Nat} (hn : n ≤ 4) (hb : b.ok n k 7) (hw : w < 2 ^ n)
include hn hb hw
theorem row_step (fs : List Bool) (ps : List (Nat × Bool)) (sub : Tr) (h : (b.tr (fun w => .leaf (some w)) w).go fs = (ps, [], sub)) (hfs : fs.length ≤ 1000) (ws : List (List Bool)) (rs : List LRow) (hr : rs.length < 1000000) (hws : ws.length < 1000000) (x4 x5 x6 : Option T) :
    ∃ x5' x6' : Option T, l_law_rows_1 [some (.fz b.d), some (.fz (.int (w : Int))), some (.lst (rs.map rowT)), some (.lst ((ws ++ [fs]).map flT)), x4, x5, x6] =
      some (.nx, [some (.fz b.d), some (.fz (.int (w : Int))), some (.lst ((match sub with | .leaf o => rs ++ [LRow.mk fs o ps] | .node _ _ _ => rs).map rowT)), some (.lst ((match sub with | .leaf _ => ws | .node _ _ _ => ws ++ [fs ++ [true], fs ++ [false]]).map flT)), some (flT fs), x5', x6']) := by
  obtain ⟨e1, e2⟩ := go_at h _ rfl
  have hg : (GS.mk w 0 false false []).Ok n fs := ⟨hw, Nat.zero_le _, rfl⟩
  have q := v_law_go hn hfs 7 10 b hb (by omega) ⟨w, 0, false, false, []⟩ hg
  have hgo := go_ok (fs := fs) b ⟨w, 0, false, false, []⟩ (ok_fine hb) hg
  have h0 : (GS.mk w 0 false false []).T = .lst [.fz (.int 0), .fz (.bl false), .fz (.bl false), .lst []] := rfl
  rw [h0] at q
  simp only [] at q
  generalize b.go fs ⟨w, 0, false, false, []⟩ = g at e1 e2 q hgo
  have hgT : g.T = .lst [.fz (.int (g.cnt : Int)), .fz (.bl g.lack), .fz (.bl g.drop), .lst (g.ps.map prT)] := rfl
  have eps : (T.lst (ps.map prT)).d = .lst (ps.map prD) := by rw [td_lst, List.map_map]; congr 1
  have hpop := pop_at (e := [some (.fz b.d), some (.fz (.int (w : Int))), some (.lst (rs.map rowT)), some (.lst (ws.map flT ++ [flT fs])), x4, x5, x6]) (i := 3) rfl
  have ew : (ws ++ [fs]).map flT = ws.map flT ++ [flT fs] := by simp
  rw [ew]
  rw [e1] at hgT
  rw [hgT] at q
  have eflT : flT fs = .fz (flD fs) := rfl
  rw [eflT] at hpop ⊢
  simp only [List.set_cons_succ, List.set_cons_zero] at hpop
  rcases e2 with ⟨hl, s, x, y, rfl⟩ | ⟨hl, rfl⟩
  · rw [hl] at q
    refine ⟨some (.lst [.fz (.int (g.cnt : Int)), .fz (.bl true), .fz (.bl g.drop), .lst (ps.map prT)]), some (.fz (.int (g.w : Int))), ?_⟩
    simp only []
    have ew2 : (ws ++ [fs ++ [true], fs ++ [false]]).map flT = ws.map flT ++ [.fz (.tup (fs.map .bl ++ [.bl true])), .fz (.tup (fs.map .bl ++ [.bl false]))] := by simp [flT, flD]
    rw [ew2]
    have edw : (T.lst (ws.map flT)).d = .lst (ws.map flD) := by rw [td_lst, List.map_map]; congr 1
    have a1 : oAdd (.lst (ws.map flD)) (.lst [.tup (fs.map .bl ++ [.bl true]), .tup (fs.map .bl ++ [.bl false])]) = some (.lst (ws.map flT ++ [.fz (.tup (fs.map .bl ++ [.bl true])), .fz (.tup (fs.map .bl ++ [.bl false]))])) := by
      have : (ws.map flD).length + 2 ≤ sizeLine := by simp [sizeLine]; omega
      have e : T.fz ∘ flD = flT := rfl
      simp [oAdd_ll, this, e]
      simp at this
      omega
    have a2 : oAdd (flD fs) (.tup [.bl true]) = some (.fz (.tup (fs.map .bl ++ [.bl true]))) := by
      have : fs.length + 1 ≤ 16777216 := by omega
      simp [flD, sizeLine, this]
    have a3 : oAdd (flD fs) (.tup [.bl false]) = some (.fz (.tup (fs.map .bl ++ [.bl false]))) := by
      have : fs.length + 1 ≤ 16777216 := by omega
      simp [flD, sizeLine, this]
    generalize flD fs = FD at *
    generalize (T.lst (ws.map flT)) = WT at *
    generalize ws.map flD = WD at *
    simp [l_law_rows_1, hpop, sizeLine, q, a_plIx, edw, a1, a2, a3, -oAdd_tt, -oAdd_ll]
  · rw [hl] at q
    refine ⟨some (.lst [.fz (.int (g.cnt : Int)), .fz (.bl false), .fz (.bl g.drop), .fz (.lst (ps.map prD))]), some (.fz (.int (g.w : Int))), ?_⟩
    simp only []
    have er : (rs ++ [LRow.mk fs (if g.drop then none else some g.w) ps]).map rowT = rs.map rowT ++ [.fz (.tup [flD fs, oD (if g.drop then none else some g.w), .lst (ps.map prD)])] := by simp [rowT, LRow.d]
    rw [er]
    have hlr : (rs.map rowT).length < 16777216 := by simp; omega
    have plk : ∀ (e1 : Fw.Env) (i : Nat) (p : List Nat) (t : T) (us : List T), plK e1 i p t (.lst us) = some ((T.lst us).d, e1.set i (some (T.put p (.fz (T.lst us).d) t))) := fun _ _ _ _ _ => rfl
    generalize flD fs = FD at *
    generalize rs.map rowT = RT at *
    generalize ws.map flT = WT at *
    generalize ps.map prD = PD at *
    cases hd : g.drop with
    | true =>
      rw [hd] at q
      simp [l_law_rows_1, hpop, sizeLine, q, a_plIx, a_app, plk, -td_lst, eps, T.put, oD, hlr]
    | false =>
      rw [hd] at q
      simp [l_law_rows_1, hpop, sizeLine, q, a_plIx, a_app, plk, -td_lst, eps, T.put, oD, hlr]
theorem lrows_run : ∀ (sub : Tr) (fs : List Bool) (ps : List (Nat × Bool)), (b.tr (fun w => .leaf (some w)) w).go fs = (ps, [], sub) → fs.length + sub.deep ≤ 1000 → ∀ (ws : List (List Bool)) (rs : List LRow) (x4 x5 x6 : Option T) (m : Nat), rs.length + sub.size < 1000000 → ws.length + sub.size < 1000000 → ∃ x4' x5' x6' : Option T,
    iterM w_law_rows_1 l_law_rows_1 (m + sub.size) [some (.fz b.d), some (.fz (.int (w : Int))), some (.lst (rs.map rowT)), some (.lst ((ws ++ [fs]).map flT)), x4, x5, x6] =
      iterM w_law_rows_1 l_law_rows_1 m [some (.fz b.d), some (.fz (.int (w : Int))), some (.lst ((rs ++ sub.rows fs ps).map rowT)), some (.lst (ws.map flT)), x4', x5', x6']
  | .leaf o, fs, ps, h, hd, ws, rs, x4, x5, x6, m, h1, h2 => by
    simp only [Tr.size, Tr.deep] at h1 h2 hd
    obtain ⟨x5', x6', q⟩ := row_step hn hb hw fs ps _ h (by omega) ws rs (by omega) (by omega) x4 x5 x6
    refine ⟨some (flT fs), x5', x6', ?_⟩
    have hlen := len_at (e := [some (.fz b.d), some (.fz (.int (w : Int))), some (.lst (rs.map rowT)), some (.lst ((ws ++ [fs]).map flT)), x4, x5, x6]) (i := 3) rfl
    refine iter_nx (e1 := [some (.fz b.d), some (.fz (.int (w : Int))), some (.lst (rs.map rowT)), some (.lst ((ws ++ [fs]).map flT)), x4, x5, x6]) ?_ q rfl
    have hp : 0 < ((ws ++ [fs]).map flT).length := by simp
    generalize (ws ++ [fs]).map flT = WF at hlen hp ⊢
    simp [w_law_rows_1, hlen, hp]
  | .node s x y, fs, ps, h, hd, ws, rs, x4, x5, x6, m, h1, h2 => by
    simp only [Tr.size, Tr.deep] at h1 h2 hd
    have hx := go_snoc (f := false) _ fs ps s x y h
    have hy := go_snoc (f := true) _ fs ps s x y h
    simp only [if_true, Bool.false_eq_true, if_false] at hx hy
    obtain ⟨x5', x6', q⟩ := row_step hn hb hw fs ps _ h (by omega) ws rs (by omega) (by omega) x4 x5 x6
    have hrl : (x.rows (fs ++ [false]) (ps ++ [(s, false)])).length ≤ x.size := by
      have : ∀ (t : Tr) (fs : List Bool) (ps : List (Nat × Bool)), (t.rows fs ps).length ≤ t.size := by
        intro t
        induction t with
        | leaf o => intro fs ps; simp [Tr.rows, Tr.size]
        | node s a b iha ihb => intro fs ps; have := iha (fs ++ [false]) (ps ++ [(s, false)]); have := ihb (fs ++ [true]) (ps ++ [(s, true)]); simp [Tr.rows, Tr.size]; omega
      exact this _ _ _
    obtain ⟨y4, y5, y6, q1⟩ := lrows_run x (fs ++ [false]) (ps ++ [(s, false)]) hx (by simp; omega) (ws ++ [fs ++ [true]]) rs (some (flT fs)) x5' x6' (m + y.size) (by omega) (by simp; omega)
    obtain ⟨z4, z5, z6, q2⟩ := lrows_run y (fs ++ [true]) (ps ++ [(s, true)]) hy (by simp; omega) ws (rs ++ x.rows (fs ++ [false]) (ps ++ [(s, false)])) y4 y5 y6 m (by simp; omega) (by omega)
    refine ⟨z4, z5, z6, ?_⟩
    have hlen := len_at (e := [some (.fz b.d), some (.fz (.int (w : Int))), some (.lst (rs.map rowT)), some (.lst ((ws ++ [fs]).map flT)), x4, x5, x6]) (i := 3) rfl
    rw [show m + Tr.size (.node s x y) = (m + y.size + x.size) + 1 by simp only [Tr.size]; omega]
    refine iter_nx (e1 := [some (.fz b.d), some (.fz (.int (w : Int))), some (.lst (rs.map rowT)), some (.lst ((ws ++ [fs]).map flT)), x4, x5, x6]) ?_ q ?_
    · have hp : 0 < ((ws ++ [fs]).map flT).length := by simp
      generalize (ws ++ [fs]).map flT = WF at hlen hp ⊢
      simp [w_law_rows_1, hlen, hp]
    · simp only [Tr.rows]
      rw [show ws ++ [fs ++ [true], fs ++ [false]] = ws ++ [fs ++ [true]] ++ [fs ++ [false]] by simp, q1, q2, List.append_assoc]
def Blk.T (b : Blk) (w : Nat) : Tr := b.tr (fun w => .leaf (some w)) w
theorem v_law_rows (hdr : b.dr ≤ 11) : f_law_rows [.fz b.d, .fz (.int (w : Int))] = some (.lst (((b.T w).rows [] []).map rowT), [.fz b.d, .fz (.int (w : Int))]) := by
  have hdeep : (b.T w).deep ≤ 11 := Nat.le_trans (tr_deep b _ 0 (fun _ => Nat.le_refl _) w) (by omega)
  have hsize : (b.T w).size ≤ 4095 := by
    have h1 := Tr.size_le (b.T w)
    have h2 : 2 ^ ((b.T w).deep + 1) ≤ 2 ^ 12 := Nat.pow_le_pow_right (by decide) (by omega)
    omega
  obtain ⟨x4, x5, x6, q⟩ := lrows_run hn hb hw (b.T w) [] [] (go_nil _) (by simp; omega) [] [] none none none (4096 - (b.T w).size) (by simp; omega) (by simp; omega)
  rw [show 4096 - (b.T w).size + (b.T w).size = 4096 by omega] at q
  obtain ⟨m, hm⟩ : ∃ m, 4096 - (b.T w).size = m + 1 := ⟨4095 - (b.T w).size, by omega⟩
  rw [hm] at q
  have hlen := len_at (e := [some (.fz b.d), some (.fz (.int (w : Int))), some (.lst (((b.T w).rows [] []).map rowT)), some (.lst []), x4, x5, x6]) (i := 3) rfl
  have hend : iterM w_law_rows_1 l_law_rows_1 (m + 1) [some (.fz b.d), some (.fz (.int (w : Int))), some (.lst (((b.T w).rows [] []).map rowT)), some (.lst []), x4, x5, x6] = some (.nx, [some (.fz b.d), some (.fz (.int (w : Int))), some (.lst (((b.T w).rows [] []).map rowT)), some (.lst []), x4, x5, x6]) := by
    refine iter_end ?_
    generalize ((b.T w).rows [] []).map rowT = R at hlen ⊢
    simp [w_law_rows_1, hlen]
  simp only [List.nil_append, List.map_nil] at q
  rw [hend] at q
  refine fn_rt (e := [some (.fz b.d), some (.fz (.int (w : Int))), none, some (.lst []), x4, x5, x6]) [b.d, .int (w : Int)] ?_
  generalize ((b.T w).rows [] []).map rowT = R at q ⊢
  have e1 : [([] : List Bool)].map flT = [.fz (.tup [])] := rfl
  rw [e1] at q
  simp [b_law_rows, sizeLine, q]
end
end Lw

/-! P22 -/
set_option Elab.async false
set_option linter.all false
set_option maxRecDepth 100000
set_option maxHeartbeats 4000000
set_option exponentiation.threshold 100000
namespace Lw
open PySem PySem.Spec PyProof.Rows L2 Fw
theorem chance_loop (sh : List Rat) (hs : ShOk sh) (X0 X1 : T) (h0 : X0.d = .tup (sh.map fr)) : ∀ (r a : List (Nat × Bool)) (X0 : T) (x3 x4 : Option T), X0.d = .tup (sh.map fr) → (∀ p ∈ r, p.1 < sh.length) → a.length + r.length ≤ 20 → ∃ (X0' : T) (x3' x4' : Option T), X0'.d = .tup (sh.map fr) ∧
    loopM (gTupM (gCons (gNm 3) (gCons (gNm 4) gNil))) l_law_chance_1 (r.map prD) [some X0, some X1, some (.fz (fr (chance sh a))), x3, x4] = some (.nx, [some X0', some X1, some (.fz (fr (chance sh (a ++ r)))), x3', x4'])
  | [], a, X0, x3, x4, h, _, _ => ⟨X0, x3, x4, h, by simp⟩
  | (s, f) :: r, a, X0, x3, x4, h, hr, hl => by
    simp only [List.length_cons] at hl
    obtain ⟨X0', x3', x4', h', q⟩ := chance_loop sh hs X0 X1 h r (a ++ [(s, f)]) (.fz (.tup (sh.map fr))) (some (.fz (.int (s : Int)))) (some (.fz (.bl f))) (td_fz _) (fun p hp => hr p (by simp [hp])) (by simp; omega)
    refine ⟨X0', x3', x4', h', loop_nx (e1 := [some X0, some X1, some (.fz (fr (chance sh a))), some (.fz (.int (s : Int))), some (.fz (.bl f))]) (by simp [prD]) ?_ (by rw [List.append_assoc] at q; exact q)⟩
    have hsl : s < sh.length := hr (s, f) (by simp)
    have hc := chance_ok hs a
    have hq := hs.getD s
    have e1 : (sh.map fr)[s]? = some (fr (sh.getD s 0)) := by rw [List.getElem?_map, getD_some hsl]; rfl
    have e2 : chance sh (a ++ [(s, f)]) = chance sh a * (if f then sh.getD s 0 else 1 - sh.getD s 0) := by
      rw [chance_app]; simp only [chance, Rat.mul_one]
    rw [e2]
    have hq2 : Ch 1 (1 - sh.getD s 0) := ⟨Dv.one.sub hq.dv, by have := hq.le; grind, by have := hq.nn; grind⟩
    have hm := v_law_minus fit1 (hq.fit (by omega)) (dv_mul_lt (j := 1) (k := 1) Dv.one hq.dv (by omega))
    have ht1 := v_law_times (hc.fit (by omega)) (hq.fit (by omega)) (dv_mul_lt hc.dv hq.dv (by omega))
    have ht2 := v_law_times (hc.fit (by omega)) (hq2.fit (by omega)) (dv_mul_lt hc.dv hq2.dv (by omega))
    generalize sh.getD s 0 = p at *
    generalize chance sh a = c at *
    generalize sh.map fr = SF at *
    have e3 : oIx (.tup SF) (.int (s : Int)) = some (fr p) := by rw [Fw.ix_tup, atI_natCast, e1]
    have o1 : (D.tup [.int 1, .int 1]) = fr 1 := rfl
    cases f with
    | true =>
      simp [l_law_chance_1, h, e1, ht1]
    | false =>
      simp [l_law_chance_1, h, e1, ht2, sizeLine, o1, hm]
theorem v_law_chance (sh : List Rat) (hs : ShOk sh) (ps : List (Nat × Bool)) (hr : ∀ p ∈ ps, p.1 < sh.length) (hl : ps.length ≤ 20) : f_law_chance [.fz (.tup (sh.map fr)), .fz (.lst (ps.map prD))] = some (.fz (fr (chance sh ps)), [.fz (.tup (sh.map fr)), .fz (.lst (ps.map prD))]) := by
  obtain ⟨X0', x3, x4, h, q⟩ := chance_loop sh hs (.fz (.tup (sh.map fr))) (.fz (.lst (ps.map prD))) (td_fz _) ps [] (.fz (.tup (sh.map fr))) none none (td_fz _) hr (by simpa using hl)
  rw [List.nil_append] at q
  have e1 : chance sh [] = 1 := rfl
  rw [e1] at q
  have o1 : (D.tup [.int 1, .int 1]) = fr 1 := rfl
  refine fn_rt (e := [some X0', some (.fz (.lst (ps.map prD))), none, x3, x4]) [.tup (sh.map fr), .lst (ps.map prD)] ?_
  generalize sh.map fr = SF at *
  have hs : seqD (.lst (ps.map prD)) = some (ps.map prD) := rfl
  generalize ps.map prD = PD at *
  simp [b_law_chance, sizeLine, o1, hs, q]
/-! shares in a tree -/
def Tr.sh (k : Nat) : Tr → Prop
  | .leaf _ => True
  | .node s a b => s < k ∧ a.sh k ∧ b.sh k
theorem rows_sh {k : Nat} : ∀ (t : Tr) (fs : List Bool) (ps : List (Nat × Bool)), t.sh k → (∀ p ∈ ps, p.1 < k) → ∀ r ∈ t.rows fs ps, ∀ p ∈ r.ps, p.1 < k
  | .leaf o, fs, ps, _, hp, r, hr => by
    simp [Tr.rows] at hr; subst hr; exact hp
  | .node s a b, fs, ps, h, hp, r, hr => by
    simp only [Tr.rows, List.mem_append] at hr
    have hp2 : ∀ f : Bool, ∀ p ∈ ps ++ [(s, f)], p.1 < k := fun f p hpp => by
      rcases List.mem_append.mp hpp with hpp | hpp
      · exact hp p hpp
      · simp at hpp; subst hpp; exact h.1
    rcases hr with hr | hr
    · exact rows_sh a _ _ h.2.1 (hp2 false) r hr
    · exact rows_sh b _ _ h.2.2 (hp2 true) r hr
theorem tr_sh {n k : Nat} : ∀ (b : Blk) (g : Nat → Tr), b.fine n k → (∀ w, (g w).sh k) → ∀ w, (b.tr g w).sh k
  | .nil, g, _, h, w => h w
  | .draw l s r, g, hf, h, w => ⟨hf.2.1, tr_sh r g hf.2.2 h _, tr_sh r g hf.2.2 h _⟩
  | .put l a r, g, hf, h, w => tr_sh r g hf.2.2.2 h _
  | .see a r, g, hf, h, w => by
    simp only [Blk.tr]
    split
    · exact tr_sh r g hf.2.2 h w
    · exact trivial
  | .rounds m b r, g, hf, h, w => by
    simp only [Blk.tr]
    have h1 := tr_sh r g hf.2 h
    generalize r.tr g = g' at h1
    have : ∀ m w, (iterF b.tr m g' w).sh k := fun m => by
      induction m with
      | zero => exact h1
      | succ m ih => exact tr_sh b _ hf.1 ih
    exact this m w
  | .cond a x y r, g, hf, h, w => by
    have h1 := tr_sh r g hf.2.2.2.2 h
    simp only [Blk.tr]
    split
    · exact tr_sh x _ hf.2.2.1 h1 w
    · exact tr_sh y _ hf.2.2.2.1 h1 w
/-! masses by rows -/
def pSum (sh : List Rat) (rs : List LRow) : Rat := (rs.map (LRow.val sh (fun _ => 1))).sum
theorem lval_nn {sh : List Rat} (hs : ShOk sh) (r : LRow) : 0 ≤ r.val sh (fun _ => 1) := by
  unfold LRow.val
  split
  · grind
  · have := (chance_ok hs r.ps).nn; grind
theorem masses_loop (sh : List Rat) (hs : ShOk sh) (X0 : T) (N : Nat) : ∀ (rs : List LRow) (m : List Rat) (X1 : T) (x3 x4 x5 : Option T), X1.d = .tup (sh.map fr) → m.length = N → (∀ r ∈ rs, (∀ p ∈ r.ps, p.1 < sh.length) ∧ r.ps.length ≤ 11 ∧ ∀ w, r.w = some w → w < N) → Row 11 m → m.sum + pSum sh rs ≤ 1 → ∃ (X1' : T) (x3' x4' x5' : Option T), X1'.d = .tup (sh.map fr) ∧
    loopM (gTupM (gCons (gNm 3) (gCons (gNm 4) (gCons (gNm 5) gNil)))) l_law_masses_1 (rs.map LRow.d) [some X0, some X1, some (.lst (m.map Lw.fz)), x3, x4, x5] = some (.nx, [some X0, some X1', some (.lst ((massL m (rs.map (LRow.pr sh))).map Lw.fz)), x3', x4', x5'])
  | [], m, X1, x3, x4, x5, h, _, _, _, _ => ⟨X1, x3, x4, x5, h, by simp [massL]⟩
  | ⟨fl, o, ps⟩ :: rs, m, X1, x3, x4, x5, h, hm, hr, hrow, hsum => by
    obtain ⟨hps, hlen, hw⟩ := hr ⟨fl, o, ps⟩ (by simp)
    simp only at hps hlen hw
    have hrest : 0 ≤ pSum sh rs := sum_nn fun q hq => by
      obtain ⟨r, _, rfl⟩ := List.mem_map.mp hq
      exact lval_nn hs r
    have hcons : pSum sh (⟨fl, o, ps⟩ :: rs) = (LRow.mk fl o ps).val sh (fun _ => 1) + pSum sh rs := by simp [pSum]
    rw [hcons] at hsum
    have hdd : (LRow.mk fl o ps).d = .tup [flD fl, oD o, .lst (ps.map prD)] := rfl
    cases o with
    | none =>
      obtain ⟨X1', x3', x4', x5', h', q⟩ := masses_loop sh hs X0 N rs m X1 (some (.fz (flD fl))) (some (.fz .non)) (some (.fz (.lst (ps.map prD)))) h hm (fun r hr' => hr r (by simp [hr'])) hrow (by simp only [LRow.val] at hsum; grind)
      refine ⟨X1', x3', x4', x5', h', loop_nx (e1 := [some X0, some X1, some (.lst (m.map Lw.fz)), some (.fz (flD fl)), some (.fz .non), some (.fz (.lst (ps.map prD)))]) (by rw [hdd]; simp [oD]) ?_ q⟩
      generalize m.map Lw.fz = M
      simp [l_law_masses_1, oIsNot, isN]
    | some w =>
      have hwN := hw w rfl
      have hwm : w < m.length := by omega
      have hc := chance_ok hs ps
      have hv : (LRow.mk fl (some w) ps).val sh (fun _ => 1) = chance sh ps := by simp only [LRow.val]; grind
      rw [hv] at hsum
      have hcn := hc.nn
      have hg := ch_of_row hrow (by grind) w
      have hc11 : Ch 11 (chance sh ps) := ⟨hc.dv.up hlen, hc.nn, hc.le⟩
      have hadd := hg.dv.add hc11.dv
      obtain ⟨X1', x3', x4', x5', h', q⟩ := masses_loop sh hs X0 N rs (m.set w (m.getD w 0 + chance sh ps)) (.fz (.tup (sh.map fr))) (some (.fz (flD fl))) (some (.fz (.int (w : Int)))) (some (.fz (.lst (ps.map prD)))) (td_fz _) (by simpa using hm) (fun r hr' => hr r (by simp [hr'])) (hrow.set ⟨hadd, by have := hg.nn; grind⟩) (by rw [sum_set hwm]; grind)
      refine ⟨X1', x3', x4', x5', h', loop_nx (e1 := [some X0, some X1, some (.lst (m.map Lw.fz)), some (.fz (flD fl)), some (.fz (.int (w : Int))), some (.fz (.lst (ps.map prD)))]) (by rw [hdd]; simp [oD]) ?_ q⟩
      have hch := v_law_chance sh hs ps hps (by omega)
      have hp := v_law_plus (hg.fit (by omega)) (hc11.fit (by omega)) (dv_mul_lt hg.dv hc11.dv (by omega))
      have hs1 := fz_set m w (m.getD w 0 + chance sh ps)
      have hg1 := fz_get m w hwm
      have hlm : w < (m.map Lw.fz).length := by simpa using hwm
      rw [← hs1]
      generalize m.map Lw.fz = M at *
      have hg2 : M[w] = .fz (fr (m.getD w 0)) := (List.getElem?_eq_some_iff.mp hg1).2
      generalize m.getD w 0 = mw at *
      generalize chance sh ps = c at *
      generalize ps.map prD = PD at *
      generalize sh.map fr = SF at *
      simp [l_law_masses_1, oIsNot, isN, a_plIx, a_gIx, hlm, hg2, h, hch, hp]
theorem tree_ok {p : Prog} (h : p.Good) (hdr : p.b.dr ≤ 11) : (∀ r ∈ (p.b.T 0).rows [] [], (∀ q ∈ r.ps, q.1 < p.sh.length) ∧ r.ps.length ≤ 11 ∧ ∀ w, r.w = some w → w < 2 ^ p.n) ∧ pSum p.sh ((p.b.T 0).rows [] []) ≤ 1 := by
  have hf := ok_fine h.ok.blk
  refine ⟨fun r hr => ⟨rows_sh (k := p.sh.length) _ [] [] (tr_sh p.b (fun w => .leaf (some w)) hf (fun _ => trivial) 0) (by simp) r hr, ?_, ?_⟩, ?_⟩
  · have h1 := (rows_len _ _ _ r hr).1
    have h2 : (p.b.T 0).deep ≤ 11 := Nat.le_trans (tr_deep p.b _ 0 (fun _ => Nat.le_refl _) 0) (by omega)
    simp at h1; omega
  · exact rows_in _ _ _ (tr_in p.b (fun w => .leaf (some w)) hf (fun w (hw : w < 2 ^ p.n) => (show Tr.In (2 ^ p.n) (.leaf (some w)) from hw)) 0 (Nat.two_pow_pos p.n)) r hr
  · unfold pSum
    rw [rows_val]
    have e : (p.b.T 0).val p.sh (fun _ => 1) = p.b.E p.sh (fun _ => 1) 0 := val_tr p.sh _ p.b _ 0
    have h01 := E01 p.sh h.sh.le p.b (fun _ => 1) hf (n := p.n) (fun w _ => by constructor <;> grind) 0 (Nat.two_pow_pos p.n)
    rw [e]
    simp only [chance]
    grind
theorem v_law_masses {p : Prog} (h : p.Good) (hdr : p.b.dr ≤ 11) : f_law_masses [.fz p.d, .fz (.tup (p.sh.map fr))] = some (.lst (p.ms.ms.map Lw.fz), [.fz p.d, .fz (.tup (p.sh.map fr))]) := by
  have hn := h.ok.n4
  have h16 := n16 hn
  have hr := v_law_rows (w := 0) hn (ok_le h.ok.blk (by omega) : p.b.ok p.n p.sh.length 7) (Nat.two_pow_pos p.n) hdr
  obtain ⟨t1, t2⟩ := tree_ok h hdr
  obtain ⟨X1, x3, x4, x5, h1, q⟩ := masses_loop p.sh h.sh (.fz p.d) (2 ^ p.n) ((p.b.T 0).rows [] []) (List.replicate (2 ^ p.n) 0) (.fz (.tup (p.sh.map fr))) none none none (td_fz _) (by simp) t1 (Row.rep _) (by rw [sum_rep0, Rat.zero_add]; exact t2)
  have e1 : massL (List.replicate (2 ^ p.n) 0) (((p.b.T 0).rows [] []).map (LRow.pr p.sh)) = p.ms.ms := law_ms h.sh (ok_fine h.ok.blk)
  rw [e1] at q
  have hz := mul_zero (2 ^ p.n) (by omega)
  have hsh := shl1 p.n (by omega)
  have hd0 : oIx p.d (.int 0) = some (.int (p.n : Int)) := by simp [Prog.d]
  have hd2 : oIx p.d (.int 2) = some p.b.d := by simp [Prog.d]
  have er : (T.lst (((p.b.T 0).rows [] []).map rowT)).d = .lst (((p.b.T 0).rows [] []).map LRow.d) := by rw [td_lst, List.map_map]; congr 1
  have es : seqD (.lst (((p.b.T 0).rows [] []).map LRow.d)) = some (((p.b.T 0).rows [] []).map LRow.d) := rfl
  have e0 : ((0 : Nat) : Int) = 0 := rfl
  rw [e0] at hr
  refine fn_rt (e := [some (.fz p.d), some X1, none, x3, x4, x5]) [p.d, .tup (p.sh.map fr)] ?_
  generalize (T.lst (((p.b.T 0).rows [] []).map rowT)) = A at hr er
  generalize ((p.b.T 0).rows [] []).map LRow.d = B at er es q
  generalize (List.replicate (2 ^ p.n) (0 : Rat)).map Lw.fz = M0 at hz q
  generalize p.ms.ms.map Lw.fz = M1 at q ⊢
  generalize p.sh.map fr = SF at *
  generalize 2 ^ p.n = N at hz hsh
  have o0 : (D.tup [.int 0, .int 1]) = fr 0 := rfl
  simp [b_law_masses, sizeLine, o0, hd0, hd2, -opI_ii, hsh, hz, hr, er, es, q]
theorem v_law_far {p r : Prog} (hp : p.Good) (hr : r.Good) (hn : p.n = r.n) (dp : p.b.dr ≤ 11) (dr : r.b.dr ≤ 11) : f_law_far [.fz p.d, .fz r.d] = some (.fz (fr (far p.wh r.wh)), [.fz p.d, .fz r.d]) := by
  have q1 := v_law_masses hp dp
  have q2 := v_law_masses hr dr
  have w1 := hp.wh (k := 11) dp
  have w2 := hr.wh (k := 11) dr
  have o1 := hp.msok
  have o2 := hr.msok
  have hl : p.wh.length = r.wh.length := by rw [w1.len, w2.len, hn]
  have h16 := n16 hp.ok.n4
  have s1 := v_law_sum (X := .lst (p.ms.ms.map fr)) (k := 11) (by omega) rfl (o1.row.up dp) o1.s1
  have s2 := v_law_sum (X := .lst (r.ms.ms.map fr)) (k := 11) (by omega) rfl (o2.row.up dr) o2.s1
  have c1 : Ch 11 p.ms.ms.sum := ⟨Dv.sum (o1.row.up dp).dv, sum_nn o1.row.nn, o1.s1⟩
  have c2 : Ch 11 r.ms.ms.sum := ⟨Dv.sum (o2.row.up dr).dv, sum_nn o2.row.nn, o2.s1⟩
  have m1 := v_law_minus fit1 (c1.fit (by omega)) (dv_mul_lt (j := 11) Dv.one c1.dv (by omega))
  have m2 := v_law_minus fit1 (c2.fit (by omega)) (dv_mul_lt (j := 11) Dv.one c2.dv (by omega))
  have e1 : (T.lst (p.ms.ms.map Lw.fz)).d = .lst (p.ms.ms.map fr) := by rw [td_lst, List.map_map, fz_d]
  have e2 : (T.lst (r.ms.ms.map Lw.fz)).d = .lst (r.ms.ms.map fr) := by rw [td_lst, List.map_map, fz_d]
  have a1 := add_ll p.ms.ms [1 - p.ms.ms.sum] (by simp [o1.len]; omega)
  have a2 := add_ll r.ms.ms [1 - r.ms.ms.sum] (by simp [o2.len, ← hn]; omega)
  have b1 : [1 - p.ms.ms.sum].map fr = [fr (1 - p.ms.ms.sum)] := rfl
  have b2 : [1 - r.ms.ms.sum].map fr = [fr (1 - r.ms.ms.sum)] := rfl
  rw [b1] at a1
  rw [b2] at a2
  have g1 : (p.ms.ms ++ [1 - p.ms.ms.sum]) = p.wh := rfl
  have g2 : (r.ms.ms ++ [1 - r.ms.ms.sum]) = r.wh := rfl
  rw [g1] at a1
  rw [g2] at a2
  have f1 : (T.lst (p.wh.map Lw.fz)).d = .lst (p.wh.map fr) := by rw [td_lst, List.map_map, fz_d]
  have f2 : (T.lst (r.wh.map Lw.fz)).d = .lst (r.wh.map fr) := by rw [td_lst, List.map_map, fz_d]
  have hfs := v_law_sum (X := .lst ((distL p.wh r.wh).map fr)) (k := 11) (by omega) rfl (dist_row w1.row w2.row) (by have := far_le p.wh r.wh hl w1.row.nn w2.row.nn; rw [w1.sum] at this; exact this)
  have hl1 : bLen [.lst (p.wh.map fr)] = some (.int (p.wh.length : Int)) := by simp
  have hr1 := Fw.rng1_n p.wh.length (by rw [w1.len]; exact Nat.lt_of_le_of_lt (show 2 ^ p.n + 1 ≤ 17 by omega) (by decide))
  have hq : ∃ X3' : T, X3'.d = .lst (r.wh.map fr) ∧ q_law_far_1 [some (.fz p.d), some (.fz r.d), some (.lst (p.wh.map Lw.fz)), some (.lst (r.wh.map Lw.fz)), none] = some (.lst ((distL p.wh r.wh).map Lw.fz), [some (.fz p.d), some (.fz r.d), some (.fz (.lst (p.wh.map fr))), some X3', none]) := by
    unfold q_law_far_1
    obtain ⟨e3, ⟨X, hX, rfl⟩, h3⟩ := lc_listI (vs := [4]) (m := mIt rng1 (mCons (mCall bLen (mCons (mVar 2) (mRet []))) (mRet []))) (g := gNm 4)
      (c := mB (mF (mCallF f_law_less [none, none] (mCons (mT (mOp oIx (mVar 3) (mVar 4))) (mCons (mT (mOp oIx (mVar 2) (mVar 4))) (mRet [])))))) (el := mCallF f_law_minus [none, none] (mCons (mT (mOp oIx (mVar 2) (mVar 4))) (mCons (mT (mOp oIx (mVar 3) (mVar 4))) (mRet []))))
      (e := [some (.fz p.d), some (.fz r.d), some (.lst (p.wh.map Lw.fz)), some (.lst (r.wh.map Lw.fz)), none])
      (xs := List.range p.wh.length) (e1 := [some (.fz p.d), some (.fz r.d), some (.fz (.lst (p.wh.map fr))), some (.lst (r.wh.map Lw.fz)), none]) (fun (i : Nat) => D.int (i : Int)) (fun i => dif (p.wh.getD i 0, r.wh.getD i 0))
      (fun e => ∃ X : T, X.d = .lst (r.wh.map fr) ∧ e = [some (.fz p.d), some (.fz r.d), some (.fz (.lst (p.wh.map fr))), some X, none])
      (by generalize (T.lst (r.wh.map Lw.fz)) = B
          generalize (List.range p.wh.length).map (fun (i : Nat) => D.int (i : Int)) = L at hr1 ⊢
          generalize hA : (T.lst (p.wh.map Lw.fz)) = A at f1 ⊢
          generalize p.wh.map fr = PF at *
          generalize p.wh.length = len at *
          simp [f1, hl1, hr1]) (by simp) ⟨_, f2, by simp⟩ (by
      rintro i hi e ⟨X, hX, rfl⟩
      have hi : i < p.wh.length := by simpa using hi
      have hi2 : i < r.wh.length := by omega
      have c1 := w1.ch _ (show p.wh.getD i 0 ∈ p.wh by rw [List.getD_eq_getElem?_getD, List.getElem?_eq_getElem hi]; exact List.getElem_mem hi)
      have c2 := w2.ch _ (show r.wh.getD i 0 ∈ r.wh by rw [List.getD_eq_getElem?_getD, List.getElem?_eq_getElem hi2]; exact List.getElem_mem hi2)
      have g2 : (p.wh.map fr)[i]? = some (fr (p.wh.getD i 0)) := by rw [List.getElem?_map, getD_some hi]; rfl
      have g3 : (r.wh.map fr)[i]? = some (fr (r.wh.getD i 0)) := by rw [List.getElem?_map, getD_some hi2]; rfl
      have hmm := v_law_minus (c1.fit (by omega)) (c2.fit (by omega)) (dv_mul_lt c1.dv c2.dv (by omega))
      have hll := v_law_less (c2.fit (by omega)) (c1.fit (by omega))
      refine ⟨[some (.fz p.d), some (.fz r.d), some (.fz (.lst (p.wh.map fr))), some (.fz (.lst (r.wh.map fr))), some (.fz (.int (i : Int)))], ?_, ⟨_, td_fz _, by simp⟩, by simp⟩
      unfold dif
      generalize p.wh.getD i 0 = x at *
      generalize r.wh.getD i 0 = y at *
      generalize p.wh.map fr = L1 at *
      generalize r.wh.map fr = L2 at *
      by_cases h : y < x
      · simp [stepC, hll, h, g2, g3, hX, hmm, Lw.fz]
      · simp [stepC, hll, h, g2, g3, hX]) (by simp [sizeLine, w1.len]; omega)
    refine ⟨X, hX, h3.trans ?_⟩
    have hz : (List.range p.wh.length).filterMap (fun i => dif (p.wh.getD i 0, r.wh.getD i 0)) = (distL p.wh r.wh).map Lw.fz := by
      rw [← dif_dist]
      have : p.wh.zip r.wh = (List.range p.wh.length).map fun i => (p.wh.getD i 0, r.wh.getD i 0) := by
        apply List.ext_getElem?
        intro j
        by_cases hj : j < p.wh.length
        · rw [List.getElem?_zip_eq_some (z := (p.wh[j], r.wh[j]'(by omega))) |>.mpr ⟨List.getElem?_eq_getElem hj, List.getElem?_eq_getElem (show j < r.wh.length by omega)⟩]
          simp [hj, show j < r.wh.length by omega]
        · rw [List.getElem?_eq_none (by simp; omega), List.getElem?_eq_none (by simp; omega)]
      rw [this, List.filterMap_map]; rfl
    rw [hz]; simp
  obtain ⟨X3, hX3, hq⟩ := hq
  have fe : (T.lst ((distL p.wh r.wh).map Lw.fz)).d = .lst ((distL p.wh r.wh).map fr) := by rw [td_lst, List.map_map, fz_d]
  have efar : (distL p.wh r.wh).sum = far p.wh r.wh := rfl
  rw [efar] at hfs
  have hd1 : oIx p.d (.int 1) = some (.tup (p.sh.map fr)) := by simp [Prog.d]
  have hd2 : oIx r.d (.int 1) = some (.tup (r.sh.map fr)) := by simp [Prog.d]
  have ot : (D.tup [.int 1, .int 1]) = fr 1 := rfl
  refine fn_rt (e := [some (.fz p.d), some (.fz r.d), some (.fz (.lst (p.wh.map fr))), some X3, none]) [p.d, r.d] ?_
  clear hl1 hr1 w1 w2 o1 o2 c1 c2 b1 b2 g1 g2 hl efar
  generalize (T.lst ((distL p.wh r.wh).map Lw.fz)) = Z at hq fe
  generalize (distL p.wh r.wh).map fr = Z2 at fe hfs
  generalize (T.lst (p.wh.map Lw.fz)) = A at *
  generalize (T.lst (r.wh.map Lw.fz)) = B at *
  generalize (T.lst (p.ms.ms.map Lw.fz)) = C at *
  generalize (T.lst (r.ms.ms.map Lw.fz)) = E at *
  generalize p.wh.map fr = V1 at *
  generalize r.wh.map fr = V2 at *
  generalize far p.wh r.wh = fa at *
  generalize p.ms.ms.map fr = V3 at *
  generalize r.ms.ms.map fr = V4 at *
  generalize p.ms.ms.sum = sa at *
  generalize r.ms.ms.sum = sb at *
  generalize p.sh.map fr = SF at *
  generalize r.sh.map fr = SG at *
  simp [b_law_far, hd1, hd2, q1, q2, sizeLine, e1, e2, ot, s1, s2, m1, m2, -oAdd_ll, a1, a2, hq, fe, hfs]
end Lw

/-! P23 -/
set_option Elab.async false
set_option linter.all false
set_option maxRecDepth 100000
set_option maxHeartbeats 4000000
set_option exponentiation.threshold 100000
namespace Lw
open PySem PySem.Spec PyProof.Rows L2 Fw
/-! ### _law_kept: a told thing is the due one -/
mutual
def smD : D → Bool
  | .tup xs => decide (xs.length ≤ 1000000) && smDs xs
  | .lst xs => decide (xs.length ≤ 1000000) && smDs xs
  | _ => true
def smDs : List D → Bool
  | [] => true
  | x :: xs => smD x && smDs xs
end
theorem smDs_mem : ∀ {xs : List D}, smDs xs = true → ∀ x ∈ xs, smD x = true
  | [], _, x, hx => by simp at hx
  | y :: ys, h, x, hx => by
    have h' : smD y = true ∧ smDs ys = true := by simpa [smDs] using h
    rcases List.mem_cons.mp hx with rfl | hx
    · exact h'.1
    · exact smDs_mem h'.2 x hx
theorem oks_mem : ∀ {xs : List D}, D.oks xs = true → ∀ x ∈ xs, x.ok = true
  | [], _, x, hx => by simp at hx
  | y :: ys, h, x, hx => by
    have h' : y.ok = true ∧ D.oks ys = true := by simpa [D.oks] using h
    rcases List.mem_cons.mp hx with rfl | hx
    · exact h'.1
    · exact oks_mem h'.2 x hx
theorem deps_mem : ∀ {xs : List D}, ∀ x ∈ xs, x.dep ≤ D.deps xs
  | [], x, hx => by simp at hx
  | y :: ys, x, hx => by
    rw [D.deps]
    rcases List.mem_cons.mp hx with rfl | hx
    · omega
    · have := deps_mem (xs := ys) x hx; omega
@[simp] theorem oNe_bb (i j : Bool) : oNe (.bl i) (.bl j) = some (.bl (!decide (i = j))) := by simp [oNe]
@[simp] theorem isi_non_tup : oIsi "tuple" .non = some (.bl false) := isi rfl (by decide +kernel)
@[simp] theorem isi_non_list : oIsi "list" .non = some (.bl false) := isi rfl (by decide +kernel)
@[simp] theorem isi_bl_tup (b : Bool) : oIsi "tuple" (.bl b) = some (.bl false) := isi rfl (by decide +kernel)
@[simp] theorem isi_bl_list (b : Bool) : oIsi "list" (.bl b) = some (.bl false) := isi rfl (by decide +kernel)
@[simp] theorem isi_str_tup (s : Str) : oIsi "tuple" (.str s) = some (.bl false) := isi rfl (by decide +kernel)
@[simp] theorem isi_str_list (s : Str) : oIsi "list" (.str s) = some (.bl false) := isi rfl (by decide +kernel)
@[simp] theorem isi_str_bool (s : Str) : oIsi "bool" (.str s) = some (.bl false) := isi rfl (by decide +kernel)
@[simp] theorem isi_str_int (s : Str) : oIsi "int" (.str s) = some (.bl false) := isi rfl (by decide +kernel)
open Classical in
theorem eqO_self {d : D} (h : d.ok = true) (hd : d.dep ≤ 64) (ha : d.al d = true) : eqO d d = some true := by
  rw [eq_of_ok h h hd hd ha]; simp
theorem kept_list (rec : Fn) (A B : D) (xs : List D) (hA : ∀ i, i < xs.length → oIx A (.int (i : Int)) = xs[i]?) (hB : ∀ i, i < xs.length → oIx B (.int (i : Int)) = xs[i]?) (hl : bLen [B] = some (.int xs.length)) (hlen : xs.length ≤ 1000000) (h : ∀ x ∈ xs, rec [.fz x, .fz x] = some (.fz (.bl true), [.fz x, .fz x])) :
    q_law_kept_1 rec [some (.fz A), some (.fz B), none] = some (.lst (List.replicate xs.length (.fz (.bl true))), [some (.fz A), some (.fz B), none]) := by
  unfold q_law_kept_1
  have hr := Fw.rng1_n xs.length (Nat.lt_of_le_of_lt hlen (by decide))
  rw [lc_map (xs := List.range xs.length) (e1 := [some (.fz A), some (.fz B), none]) (fun (i : Nat) => D.int (i : Int)) (fun _ => T.fz (.bl true))]
  · rw [List.map_const']; simp
  · simp [hl, hr]
  · simp
  · intro i hi
    have hi : i < xs.length := by simpa using hi
    have hx : xs[i]? = some xs[i] := List.getElem?_eq_getElem hi
    have h1 := hA i hi
    have h2 := hB i hi
    rw [hx] at h1 h2
    have h3 := h xs[i] (List.getElem_mem hi)
    refine ⟨[some (.fz A), some (.fz B), some (.fz (.int (i : Int)))], ?_, by simp, by simp⟩
    simp [stepC, h1, h2, h3]
  · simp [sizeLine]; omega
theorem v_law_kept : ∀ (n : Nat) (d : D), d.ok = true → d.dep < n → smD d = true → f_law_kept n [.fz d, .fz d] = some (.fz (.bl true), [.fz d, .fz d])
  | 0, d, _, h, _ => by omega
  | n + 1, .non, _, _, _ => by
    unfold f_law_kept
    refine fn_rt (e := [some (.fz .non), some (.fz .non), none]) [.non, .non] ?_
    simp [b_law_kept, oIs, isN]
  | n + 1, .bl b, _, _, _ => by
    unfold f_law_kept
    refine fn_rt (e := [some (.fz (.bl b)), some (.fz (.bl b)), none]) [.bl b, .bl b] ?_
    cases b <;> simp [b_law_kept, oIs, isN]
  | n + 1, .int i, _, _, _ => by
    unfold f_law_kept
    refine fn_rt (e := [some (.fz (.int i)), some (.fz (.int i)), none]) [.int i, .int i] ?_
    simp [b_law_kept, oIs, isN]
  | n + 1, .str s, h, _, _ => by
    unfold f_law_kept
    refine fn_rt (e := [some (.fz (.str s)), some (.fz (.str s)), none]) [.str s, .str s] ?_
    have : oEq (.str s) (.str s) = some (.bl true) := by rw [oEq, eqO_self h (by simp [D.dep]) (by simp [D.al])]; rfl
    simp [b_law_kept, oIs, isN, this]
  | n + 1, .tup xs, h, hd, hs => by
    unfold f_law_kept
    have h' : D.oks xs = true := by simpa [D.ok] using h
    have hs' : xs.length ≤ 1000000 ∧ smDs xs = true := by simpa [smD] using hs
    rw [D.dep] at hd
    have hq := kept_list (f_law_kept n) (.tup xs) (.tup xs) xs (fun i _ => by simp) (fun i _ => by simp) (by simp) hs'.1 fun x hx => v_law_kept n x (oks_mem h' x hx) (by have := deps_mem x hx; omega) (smDs_mem hs'.2 x hx)
    have h3 : bAll [.lst (List.replicate xs.length (.bl true))] = some (.bl true) := by simp [lstB, dBools_const]
    refine fn_rt (e := [some (.fz (.tup xs)), some (.fz (.tup xs)), none]) [.tup xs, .tup xs] ?_
    simp [b_law_kept, oNe_bb, hq, h3]
  | n + 1, .lst xs, h, hd, hs => by
    unfold f_law_kept
    have h' : D.oks xs = true := by simpa [D.ok] using h
    have hs' : xs.length ≤ 1000000 ∧ smDs xs = true := by simpa [smD] using hs
    rw [D.dep] at hd
    have hq := kept_list (f_law_kept n) (.lst xs) (.lst xs) xs (fun i _ => by simp) (fun i _ => by simp) (by simp) hs'.1 fun x hx => v_law_kept n x (oks_mem h' x hx) (by have := deps_mem x hx; omega) (smDs_mem hs'.2 x hx)
    have h3 : bAll [.lst (List.replicate xs.length (.bl true))] = some (.bl true) := by simp [lstB, dBools_const]
    refine fn_rt (e := [some (.fz (.lst xs)), some (.fz (.lst xs)), none]) [.lst xs, .lst xs] ?_
    simp [b_law_kept, oNe_bb, hq, h3]
  | n + 1, .obj _ _ _, h, _, _ => by simp [D.ok] at h
  | n + 1, .scr _, h, _, _ => by simp [D.ok] at h
end Lw

/-! P24 -/
set_option Elab.async false
set_option linter.all false
set_option maxRecDepth 100000
set_option maxHeartbeats 4000000
set_option exponentiation.threshold 100000
namespace Lw
open PySem PySem.Spec PyProof.Rows L2 Fw
theorem ShareOk.sh {qs : List Rat} (h : ∀ q ∈ qs, ShareOk q) : ShOk qs := ⟨fun q hq => ⟨(h q hq).1, (h q hq).2.1⟩, fun q hq => by simpa [Dv] using (h q hq).2.2.1⟩
theorem Made.good {p : Prog} {j : Nat} (h : Made p j) (hj : j ≤ 3) : p.Good := ⟨h.ok hj, ShareOk.sh h.sh⟩
theorem app_dr (b c : Blk) : (b.app c).dr = b.dr + c.dr := by simp [Blk.app, of_dr, dr_sum]
theorem far_ch {N k : Nat} {a b : List Rat} (ha : Wh N k a) (hb : Wh N k b) : Ch k (far a b) := by
  have hl : a.length = b.length := by rw [ha.len, hb.len]
  exact ⟨Dv.sum (dist_row ha.row hb.row).dv, far_nn a b hl, by have := far_le a b hl ha.row.nn hb.row.nn; rw [ha.sum] at this; exact this⟩
theorem kept_fr (q : Rat) : f_law_kept 6 [.fz (fr q), .fz (fr q)] = some (.fz (.bl true), [.fz (fr q), .fz (fr q)]) := v_law_kept 6 (fr q) (fr_ok q) (by rw [fr_dep]; omega) (by simp [fr, smD, smDs])
theorem prog_parts (p : Prog) : oIx p.d (.int 0) = some (.int (p.n : Int)) ∧ oIx p.d (.int 1) = some (.tup (p.sh.map fr)) ∧ oIx p.d (.int 2) = some p.b.d := by simp [Prog.d]
theorem app_add (b c : Blk) (h : b.sts.length + c.sts.length ≤ 1000) : oAdd b.d c.d = some (.fz (b.app c).d) := by
  have : b.sts.length + c.sts.length ≤ 16777216 := by omega
  rw [d_eq, d_eq, app_d]
  simp [sizeLine, this]
/-- behind the same block two programs are no farther -/
theorem far_app {p r : Prog} {c : Blk} (hp : p.Good) (hr : r.Good) (hn : p.n = r.n) (hs : p.sh = r.sh) (h1 : (Prog.mk p.n p.sh (p.b.app c)).Good) (h2 : (Prog.mk r.n r.sh (r.b.app c)).Good) (hc : c.fine p.n p.sh.length) :
    far (Prog.mk p.n p.sh (p.b.app c)).wh (Prog.mk r.n r.sh (r.b.app c)).wh ≤ far p.wh r.wh := by
  refine far_less (N := 2 ^ p.n) hp.msok.len (by rw [hn]; exact hr.msok.len) h1.msok.len (by rw [hn]; exact h2.msok.len) (c.E p.sh) (fun f hf => E01 p.sh hp.sh.le c f hc hf) (fun f g hfg => E_mono hp.sh.le c f g hc hfg) (fun f => ?_) (fun f => ?_)
  · rw [prog_ms, h1.mo.du, prog_ms, hp.mo.du]
    show (p.b.app c).E p.sh f 0 = _
    rw [app_E]
  · rw [prog_ms, h2.mo.du, prog_ms, hr.mo.du]
    show (r.b.app c).E r.sh f 0 = _
    rw [app_E, hs]
theorem far_zero {p r : Prog} (hp : p.Good) (hr : r.Good) (hn : p.n = r.n) : far p.wh r.wh = 0 ↔ p.ms.ms = r.ms.ms := by
  have l1 : p.ms.ms.length = r.ms.ms.length := by rw [hp.msok.len, hr.msok.len, hn]
  constructor
  · intro h
    have := far_le0 p.wh r.wh (by simp [Prog.wh, whole, l1]) h (by rw [Prog.wh, Prog.wh, whole_sum, whole_sum]; grind)
    have e := congrArg (fun l => l.take p.ms.ms.length) this
    simp only [Prog.wh, whole, List.take_left'] at e
    rw [l1, List.take_left'] at e
    · simpa using e
    · rfl
  · intro h
    have : p.wh = r.wh := by unfold Prog.wh; rw [h]
    rw [this, far_self]
theorem le_sumN : ∀ {xs : List Nat} {x : Nat}, x ∈ xs → x ≤ xs.sum
  | y :: ys, x, h => by
    rcases List.mem_cons.mp h with rfl | h
    · simp
    · have := le_sumN h; simp; omega
section
variable {K : PySem.W.Frag}
theorem law_step (X0 : T) (h : Hand) (d : D) (x3 x4 x5 x6 x7 x8 x9 x10 x11 : Option T) : ∃ (h' : Hand) (y3 y4 y5 y6 y7 y8 y9 y10 y11 : Option T),
    l_law_1 K [some X0, some h.t, some (.fz d), x3, x4, x5, x6, x7, x8, x9, x10, x11] = some (.nx, [some X0, some h'.t, some (.fz d), y3, y4, y5, y6, y7, y8, y9, y10, y11]) := by
  obtain ⟨p, h1, mp, q1⟩ := v_law_program h
  obtain ⟨b, h2, mr, q2⟩ := v_law_changed mp (by omega) h1
  have n1 := mp.n1
  have n3 := mp.n3
  have k1 := mp.k1
  have k3 := mp.k3
  have h60 := two60
  obtain ⟨c, left, h3, hc, hcd, q3⟩ := v_law_block p.n p.sh.length (by omega) (by omega) (by omega) (by omega) 5 1 (by decide) (by decide) 3 h2 (by omega)
  obtain ⟨b3, h4, mt, q4⟩ := v_law_changed mr (by omega) h3
  have gp := mp.good (by omega)
  have gr := mr.good (by omega)
  have gt := mt.good (by omega)
  have hcd' : c.dr ≤ 3 := by omega
  have of := mp.app (by omega) hc hcd'
  have os := mr.app (by omega) hc hcd'
  have gf : (Prog.mk p.n p.sh (p.b.app c)).Good := ⟨of, ShareOk.sh mp.sh⟩
  have gs : (Prog.mk p.n p.sh (b.app c)).Good := ⟨os, ShareOk.sh mp.sh⟩
  have dp : p.b.dr ≤ 11 := by have := mp.cls.dr; omega
  have dr : b.dr ≤ 11 := by have : b.dr ≤ 3 + (0 + 1) := mr.cls.dr; omega
  have dt : b3.dr ≤ 11 := by have : b3.dr ≤ 3 + (0 + 1 + 1) := mt.cls.dr; omega
  have df : (p.b.app c).dr ≤ 11 := by rw [app_dr]; have := mp.cls.dr; omega
  have ds : (b.app c).dr ≤ 11 := by rw [app_dr]; have : b.dr ≤ 3 + (0 + 1) := mr.cls.dr; omega
  have lf := of.blk.1
  have ls := os.blk.1
  have lf2 : p.b.sts.length + c.sts.length ≤ 30 := by simpa [Blk.app] using lf
  have ls2 : b.sts.length + c.sts.length ≤ 30 := by simpa [Blk.app] using ls
  have a1 := app_add p.b c (by omega)
  have a2 := app_add b c (by omega)
  have f1 := v_law_far gp gr rfl dp dr
  have f2 := v_law_far gf gs rfl df ds
  have t1 := v_distance (K := K) gp gr rfl
  have t2 := v_distance (K := K) gf gs rfl
  have t3 := v_distance (K := K) gr gt rfl
  have t4 := v_distance (K := K) gp gt rfl
  have i1 := v_is_program of
  have i2 := v_is_program os
  have dt1 := v_drawn_together (K := K) gf gs rfl
  have dt2 := v_is_drawn_together (K := K) gf gs rfl
  have tl := v_telling (K := K) gf gs rfl
  have oc1 := v_outcome (K := K) gf
  have oc2 := v_outcome (K := K) gs
  have wp := gp.wh (k := 11) dp
  have wr : Wh (2 ^ p.n + 1) 11 (Prog.mk p.n p.sh b).wh := gr.wh (k := 11) dr
  have wt : Wh (2 ^ p.n + 1) 11 (Prog.mk p.n p.sh b3).wh := gt.wh (k := 11) dt
  have wf : Wh (2 ^ p.n + 1) 11 (Prog.mk p.n p.sh (p.b.app c)).wh := gf.wh (k := 11) df
  have ws : Wh (2 ^ p.n + 1) 11 (Prog.mk p.n p.sh (b.app c)).wh := gs.wh (k := 11) ds
  have c1 := far_ch wp wr
  have c2 := far_ch wf ws
  have c3 := far_ch wr wt
  have c4 := far_ch wp wt
  have ineq := far_app (c := c) gp gr rfl rfl gf gs (by
    refine (fine_sts c).mpr fun s hs => ?_
    have h := hc.st s hs
    have := ok_fine (b := Blk.of [s]) (n := p.n) (k := p.sh.length) (d := 2) (by
      refine ⟨by simp, ?_, ?_, fun s' hs' => ?_⟩
      · rw [of_dr]
        have : s.dr ≤ c.dr := by
          rw [dr_sum]
          exact le_sumN (List.mem_map.mpr ⟨s, hs, rfl⟩)
        have h64 : (2 : Nat) ^ 64 = 18446744073709551616 := by decide
        simp; omega
      · rw [of_told]
        have := h.told
        have h64 : (2 : Nat) ^ 64 = 18446744073709551616 := by decide
        simp [SB, LB] at this ⊢; omega
      · simp at hs'
        subst hs'
        exact ⟨h.good, h.blk⟩)
    simpa using (fine_sts _).mp this s (by simp))
  have tri := far_tri p.wh (Prog.mk p.n p.sh b).wh (Prog.mk p.n p.sh b3).wh (by rw [wp.len, wr.len]) (by rw [wr.len, wt.len])
  have zero := far_zero gf gs rfl
  have tpos := tellN_pos (Prog.mk p.n p.sh (p.b.app c)).wh (Prog.mk p.n p.sh (b.app c)).wh 0
  have hF : (Prog.mk p.n p.sh (p.b.app c)).d = .tup [.int (p.n : Int), .tup (p.sh.map fr), (p.b.app c).d] := rfl
  have hG : (Prog.mk p.n p.sh (b.app c)).d = .tup [.int (p.n : Int), .tup (p.sh.map fr), (b.app c).d] := rfl
  have p0 := (prog_parts p).1
  have p1 := (prog_parts p).2.1
  have p2 := (prog_parts p).2.2
  have r2 : oIx (Prog.mk p.n p.sh b).d (.int 2) = some b.d := (prog_parts ⟨p.n, p.sh, b⟩).2.2
  have hlen : bLen [.tup (p.sh.map fr)] = some (.int (p.sh.length : Int)) := by simp
  have k1 := kept_fr (far p.wh (Prog.mk p.n p.sh b).wh)
  have k2 := kept_fr (far (Prog.mk p.n p.sh (p.b.app c)).wh (Prog.mk p.n p.sh (b.app c)).wh)
  have l1 := v_law_less (c1.fit (by omega)) (c2.fit (by omega))
  have pl := v_law_plus (c1.fit (by omega)) (c3.fit (by omega)) (dv_mul_lt c1.dv c3.dv (by omega))
  have l2 := v_law_less (fit_of (k := 11) (by omega) (c1.dv.add c3.dv) (by have := c1.nn; have := c3.nn; grind) (by have := c1.le; have := c3.le; grind)) (c4.fit (by omega))
  have d1 : decide (far p.wh (Prog.mk p.n p.sh b).wh < far (Prog.mk p.n p.sh (p.b.app c)).wh (Prog.mk p.n p.sh (b.app c)).wh) = false := decide_eq_false (Rat.not_lt.mpr ineq)
  have d2 : decide (far p.wh (Prog.mk p.n p.sh b).wh + far (Prog.mk p.n p.sh b).wh (Prog.mk p.n p.sh b3).wh < far p.wh (Prog.mk p.n p.sh b3).wh) = false := decide_eq_false (Rat.not_lt.mpr tri)
  rw [d1] at l1
  rw [d2] at l2
  have t5 : bLen [.tup ((tellN 0 (Prog.mk p.n p.sh (p.b.app c)).wh (Prog.mk p.n p.sh (b.app c)).wh).map fun (j : Nat) => D.int (j : Int))] = some (.int ((tellN 0 (Prog.mk p.n p.sh (p.b.app c)).wh (Prog.mk p.n p.sh (b.app c)).wh).length : Int)) := by simp
  have d3 : decide ((0 : Int) < ((tellN 0 (Prog.mk p.n p.sh (p.b.app c)).wh (Prog.mk p.n p.sh (b.app c)).wh).length : Int)) = decide (0 < (far (Prog.mk p.n p.sh (p.b.app c)).wh (Prog.mk p.n p.sh (b.app c)).wh).num) := decide_eq_decide.mpr (by rw [num_pos, ← tpos]; omega)
  have d4 : decide ((far (Prog.mk p.n p.sh (p.b.app c)).wh (Prog.mk p.n p.sh (b.app c)).wh).num = 0) = decide ((Prog.mk p.n p.sh (p.b.app c)).ms.ms = (Prog.mk p.n p.sh (b.app c)).ms.ms) := decide_eq_decide.mpr (by rw [num0]; exact zero)
  have eq := oEq_tup (Prog.mk p.n p.sh (p.b.app c)).ms.ms (Prog.mk p.n p.sh (b.app c)).ms.ms
  clear gp gr gt gf gs of os wp wr wt wf ws c1 c2 c3 c4 ineq tri zero tpos mp mr mt d1 d2 hc
  rw [hF] at f2 t2 i1 dt1 dt2 tl oc1
  rw [hG] at f2 t2 i2 dt1 dt2 tl oc2
  refine ⟨h4, some (.fz p.d), some (.fz (Prog.mk p.n p.sh b).d), some (.fz c.d), some (.fz (.lst [(p.b.app c).d, (b.app c).d])), some (.fz (.tup [.int (p.n : Int), .tup (p.sh.map fr), (p.b.app c).d])), some (.fz (.tup [.int (p.n : Int), .tup (p.sh.map fr), (b.app c).d])), some (.fz (fr (far p.wh (Prog.mk p.n p.sh b).wh))), some (.fz (fr (far (Prog.mk p.n p.sh (p.b.app c)).wh (Prog.mk p.n p.sh (b.app c)).wh))), some (.fz (Prog.mk p.n p.sh b3).d), ?_⟩
  have q3' : f_law_block 5 [h2.t, .fz (.int (p.n : Int)), .fz (.int (p.sh.length : Int)), .fz (.int 3), .fz (.int 1)] = some (.fz (.tup [c.d, .int (left : Int)]), [h3.t, .fz (.int (p.n : Int)), .fz (.int (p.sh.length : Int)), .fz (.int 3), .fz (.int 1)]) := q3
  generalize tabD (2 ^ p.n + 1) ((Prog.mk p.n p.sh (p.b.app c)).tab (Prog.mk p.n p.sh (b.app c))).F = TD at dt1 dt2
  generalize (tellN 0 (Prog.mk p.n p.sh (p.b.app c)).wh (Prog.mk p.n p.sh (b.app c)).wh).length = tn at t5 d3
  generalize D.tup ((tellN 0 (Prog.mk p.n p.sh (p.b.app c)).wh (Prog.mk p.n p.sh (b.app c)).wh).map fun (j : Nat) => D.int (j : Int)) = TL at tl t5
  generalize far (Prog.mk p.n p.sh (p.b.app c)).wh (Prog.mk p.n p.sh (b.app c)).wh = B at *
  generalize far p.wh (Prog.mk p.n p.sh b).wh = A at *
  generalize far (Prog.mk p.n p.sh b).wh (Prog.mk p.n p.sh b3).wh = C3 at *
  generalize far p.wh (Prog.mk p.n p.sh b3).wh = C4 at *
  generalize hm1 : D.tup ((Prog.mk p.n p.sh (p.b.app c)).ms.ms.map fr) = M1 at *
  generalize hm2 : D.tup ((Prog.mk p.n p.sh (b.app c)).ms.ms.map fr) = M2 at *
  generalize decide ((Prog.mk p.n p.sh (p.b.app c)).ms.ms = (Prog.mk p.n p.sh (b.app c)).ms.ms) = me at *
  generalize fr (Prog.mk p.n p.sh (p.b.app c)).ms.d = z1 at *
  generalize fr (Prog.mk p.n p.sh (p.b.app c)).ms.l = z2 at *
  generalize fr (Prog.mk p.n p.sh (b.app c)).ms.d = z3 at *
  generalize fr (Prog.mk p.n p.sh (b.app c)).ms.l = z4 at *
  generalize (Prog.mk p.n p.sh b).d = ED at *
  generalize (Prog.mk p.n p.sh b3).d = ED3 at *
  generalize (p.b.app c).d = FD at *
  generalize (b.app c).d = GD at *
  generalize D.tup (p.sh.map fr) = SD at *
  generalize p.d = PD at *
  generalize p.b.d = BD at *
  generalize b.d = CD at *
  generalize c.d = cD at *
  generalize h.t = H0 at *
  generalize h1.t = H1 at *
  generalize h2.t = H2 at *
  generalize h3.t = H3 at *
  generalize h4.t = H4 at *
  have d3p : (0 < tn ↔ 0 < B.num) := by
    have := decide_eq_decide.mp d3
    omega
  have d4p : (B = 0 ↔ me = true) := by rw [← d4]; simp
  simp [l_law_1, q1, q2, p0, p1, p2, r2, hlen, q3', a1, a2, sizeLine, i1, i2, oIsNot, f1, f2, t1, t2, k1, k2, l1, dt1, dt2, tl, t5, oNe_bb, d3, q4, t3, t4, pl, l2, oc1, oc2, eq, d3p, d4p]
end
end Lw

/-! K77Run -/
set_option Elab.async false
set_option linter.all false
set_option maxRecDepth 100000
set_option maxHeartbeats 0
namespace Lw
open PySem PySem.Spec PyProof.Rows L2 Fw
theorem run_f (w : World) : HandSHeadRun.RunEq R (PySem.W.view R.prog [91]) hk ob 6000 loose (w.withFollow "special-get-raises" false) := fun os => by kernel_rfl
theorem run_t (w : World) : HandSHeadRun.RunEq R (PySem.W.view R.prog [91]) hk ob 6000 loose (w.withFollow "special-get-raises" true) := fun os => by kernel_rfl
theorem run (w : World) : HandSHeadRun.RunEq R (PySem.W.view R.prog [91]) hk ob 6000 loose w :=
  PySem.W.byRow2 "special-get-raises" (P := fun w => HandSHeadRun.RunEq R (PySem.W.view R.prog [91]) hk ob 6000 loose w) run_f run_t w
end Lw

/-! K77Fin -/
set_option Elab.async false
set_option linter.all false
set_option maxRecDepth 100000
set_option maxHeartbeats 4000000
set_option exponentiation.threshold 100000
namespace Lw
open PySem PySem.Spec PyProof.Rows L2 Fw
theorem law_turns {K : PySem.W.Frag} (X0 : T) : ∀ (ds : List D) (h : Hand) (x2 x3 x4 x5 x6 x7 x8 x9 x10 x11 : Option T), ∃ (h' : Hand) (y2 y3 y4 y5 y6 y7 y8 y9 y10 y11 : Option T),
    loopM (gNm 2) (l_law_1 K) ds [some X0, some h.t, x2, x3, x4, x5, x6, x7, x8, x9, x10, x11] = some (.nx, [some X0, some h'.t, y2, y3, y4, y5, y6, y7, y8, y9, y10, y11])
  | [], h, x2, x3, x4, x5, x6, x7, x8, x9, x10, x11 => ⟨h, x2, x3, x4, x5, x6, x7, x8, x9, x10, x11, by simp⟩
  | d :: ds, h, x2, x3, x4, x5, x6, x7, x8, x9, x10, x11 => by
    obtain ⟨h1, y3, y4, y5, y6, y7, y8, y9, y10, y11, q1⟩ := law_step (K := K) X0 h d x3 x4 x5 x6 x7 x8 x9 x10 x11
    obtain ⟨h2, z2, z3, z4, z5, z6, z7, z8, z9, z10, z11, q2⟩ := law_turns (K := K) X0 ds h1 (some (.fz d)) y3 y4 y5 y6 y7 y8 y9 y10 y11
    exact ⟨h2, z2, z3, z4, z5, z6, z7, z8, z9, z10, z11, loop_nx (e1 := [some X0, some h.t, some (.fz d), x3, x4, x5, x6, x7, x8, x9, x10, x11]) (by simp) q1 q2⟩
theorem v_law (K : PySem.W.Frag) (ns : List Int) (hz : ns.length < 2 ^ 60) : f_law K [.fz (.scr ns)] = some (.fz (.bl true), [.fz (.scr ns)]) := by
  obtain ⟨h, q0⟩ := v_law_hand ns hz
  obtain ⟨h', y2, y3, y4, y5, y6, y7, y8, y9, y10, y11, q⟩ := law_turns (K := K) (.fz (.scr ns)) [.int 0, .int 1, .int 2] h none none none none none none none none none none
  refine fn_rt (e := [some (.fz (.scr ns)), some h'.t, y2, y3, y4, y5, y6, y7, y8, y9, y10, y11]) [.scr ns] ?_
  have hr : rng1 [.int 3] = some [.int 0, .int 1, .int 2] := rfl
  simp [b_law, q0, hr, q]
end Lw
namespace Lw
open PySem PySem.Spec PyProof.Rows L2 Fw
theorem facts {w : World} {K : PySem.W.Frag} {h : Heap} {mg : Str → Option Value} {f : Addr} (X : K.In h) (G : h.Ns mainGlobals mg) (hfa : mg ("law" : Str) = some (.ref f)) (c : He.SaysT fa fn ts w K) (ex : exB K = true) :
    ∃ fd : FuncData, (∀ (s : Shared) (v : Value), BindsTo s fd ⟨[v], []⟩ [("script", v)]) ∧ ∀ base : Heap, K.In base → base.Ns mainGlobals mg → FnOk R.prog w K mg base CX0 35 f fd ["script"] (spT K (f_law K)) := by
  have t : Top R.prog w K mg h := ⟨X, G, c, ex⟩
  obtain ⟨fd, F⟩ := t.f_law
  have e := hfa.symm.trans t.g_law
  cases e
  have b := FunD.bindsA (ps := ["script"]) F fun _ _ _ _ _ _ us hl => match us, hl with | [_], _ => rfl
  have bn := F.bindsN (ps := ["script"]) fun _ _ _ _ _ _ us hl => match us, hl with | [_], _ => rfl
  exact ⟨fd, fun s v => b s [v] rfl, fun base X' G' => okf_law ⟨X', G', c, ex⟩ F bn⟩
theorem promise {K : PySem.W.Frag} (H : Hp) (a : Addr) (ns : List Int) (hl : ns.length ≤ 63) (hS : SqL K H a (ns.map V.int)) : spT K (f_law K) [.ref a] H (fun v _ => v = .bl true) fun _ _ _ => False := by
  have hz : ns.length < 2 ^ 60 := Nat.lt_of_le_of_lt hl (by decide)
  refine ⟨H, [], [.fz (.scr ns)], ?_, ⟨fun _ _ h => h, List.nodup_nil, (fun _ h => by cases h), fun _ h => by cases h⟩, _, _, v_law K ns hz, fun F' A' B v H' _ o _ _ => ?_⟩
  · simp only [OTs, OT, Rep]
    exact ⟨[], [], _, _, rfl, rfl, ⟨rfl, a, rfl, hS⟩, rfl, rfl⟩
  · simp only [OT, Rep] at o
    exact o.2
end Lw
open PySem PySem.W PySem.Calls PyProof.Rows
theorem PySem.Challenge.cw_whatifdrawn_k77_whole_distances_never_gr_holds : PySem.Challenge.rw_whatifdrawn_k77_whole_distances_never_gr.Holds := by
  w_on; o_law
  refine HandSHeadRun.head_any (r := OpenLaw.row PySem.Challenge.rw_whatifdrawn_k77_whole_distances_never_gr) (q := view (OpenLaw.row PySem.Challenge.rw_whatifdrawn_k77_whole_distances_never_gr).prog [91]) (H := Lw.hk) (ob := Lw.ob) (M := 6000) (loose := Lw.loose) (d := HandSHeadRun.topDef (OpenLaw.row PySem.Challenge.rw_whatifdrawn_k77_whole_distances_never_gr).prog 91) (kwd := []) Lw.ob_eq
    (by kernel_rfl) (fun s => by kernel_rfl) Lw.run (by kernel_rfl) (by kernel_rfl) (by kernel_rfl) (by rfl) (by first | assumption | decide +kernel) (by decide +kernel) ⟨rfl, rfl, rfl, rfl, rfl, by decide +kernel⟩ ?hw ?hc
  case hw => w_witness2
  case hc =>
    refine L2.walk_ofE (l := PySem.Challenge.rw_whatifdrawn_k77_whole_distances_never_gr) (n := 63) (k := 35) (x := "script") (CX := L2.CX0) rfl (by decide) (by kernel_rfl) ⟨rfl, by decide, by decide⟩ ?F (fun _ _ _ _ z => z)
    intro w mg fa h Y G hmg0
    obtain ⟨K, KX, c, ex⟩ := Y
    have hmg : mg ("law" : PySem.Str) = some (.ref fa) := by
      have e : (HandSHeadRun.topDef (OpenLaw.row PySem.Challenge.rw_whatifdrawn_k77_whole_distances_never_gr).prog 91).name = ("law" : PySem.Str) := by kernel_rfl
      rw [← e]
      exact hmg0
    obtain ⟨fd, hb, hF⟩ := Lw.facts (w := w) KX G hmg c ex
    exact ⟨K, fd, Fw.spT K (Lw.f_law K), KX, hb, fun H a ns hl _ hS => Lw.promise H a ns hl hS, hF⟩
